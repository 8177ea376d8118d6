-- WRITTEN BY wip/gprint.py, a program of this session's over the kit's print, with contracts given by hand
import Derived.Test.YtmeflmlejcmckaaDoorPBx0
import Derived.Test.YtmeflmlejcmckaaDoorPBx17
import Derived.Test.YtmeflmlejcmckaaDoorPBx21
namespace Go.Proofs.YtmeflmlejcmckaaDoor.PB
open Go.RowKit Go.Proofs.YtmeflmlejcmckaaDoorW.PrintWords Go.Proofs.YtmeflmlejcmckaaDoorW.PrintLast Go.Proofs.YtmeflmlejcmckaaDoorW.PrintMore
attribute [local go_sem] max2_int min2_int max_two min_two max_three min_three max_four min_four   -- for this text's walks alone
set_option linter.unusedVariables false
set_option linter.unusedSimpArgs false

/-! ### impl_Ratio_cents: function 109 -/
def impl_Ratio_cents.f (k : Nat) (a0_0 : Int) (a0_1 : Int) : Option (Int) := (impl_Ratio_octave.f k a0_0 a0_1).bind fun bt377 => (if bt377.2.1 = 0 then (none) else (if 0 ≤ (wrap64 (Int.tdiv (wrap64 (32 * (wrap64 (bt377.1 - bt377.2.1)))) bt377.2.1)) then (if (wrap64 (Int.tdiv (wrap64 (32 * (wrap64 (bt377.1 - bt377.2.1)))) bt377.2.1)) < 33 then (if 0 ≤ (wrap64 ((wrap64 (Int.tdiv (wrap64 (32 * (wrap64 (bt377.1 - bt377.2.1)))) bt377.2.1)) + 1)) then (if (wrap64 ((wrap64 (Int.tdiv (wrap64 (32 * (wrap64 (bt377.1 - bt377.2.1)))) bt377.2.1)) + 1)) < 33 then ((impl_divRound.f (wrap64 ((wrap64 ((rd tab_ (wrap64 ((wrap64 (Int.tdiv (wrap64 (32 * (wrap64 (bt377.1 - bt377.2.1)))) bt377.2.1)) + 1))) - (rd tab_ (wrap64 (Int.tdiv (wrap64 (32 * (wrap64 (bt377.1 - bt377.2.1)))) bt377.2.1))))) * (wrap64 ((wrap64 (32 * (wrap64 (bt377.1 - bt377.2.1)))) - (wrap64 ((wrap64 (Int.tdiv (wrap64 (32 * (wrap64 (bt377.1 - bt377.2.1)))) bt377.2.1)) * bt377.2.1)))))) bt377.2.1).bind fun t382 => (some (wrap64 ((wrap64 ((wrap64 (120000 * bt377.2.2)) + (rd tab_ (wrap64 (Int.tdiv (wrap64 (32 * (wrap64 (bt377.1 - bt377.2.1)))) bt377.2.1))))) + t382)))) else (none)) else (none)) else (none)) else (none)))
theorem impl_Ratio_cents.mono : ∀ a0 a1 k, LeO (impl_Ratio_cents.f k a0 a1) (impl_Ratio_cents.f (k + 1) a0 a1) := by
 intro a0 a1 k
 unfold impl_Ratio_cents.f
 repeat' first
  | (with_reducible exact impl_Ratio_octave.mono _ _ _)
  | (with_reducible exact LeO.refl _)
  | (with_reducible exact LeO.none _)
  | (with_reducible refine LeO.ite ?_ ?_)
  | (with_reducible refine LeO.bind ?_ (fun _ => ?_))
  | exact impl_Ratio_octave.mono _ _ _
  | exact LeO.none _
  | refine LeO.ite ?_ ?_
  | refine LeO.bind ?_ (fun _ => ?_)
set_option maxHeartbeats 8000000 in
set_option maxRecDepth 100000 in
theorem impl_Ratio_cents.calls (k : Nat) (a0_0 : Int) (a0_1 : Int) (r : Int) (w : World) (ht : Tab_ w) (h : impl_Ratio_cents.f k a0_0 a0_1 = some r) :
 Calls Tryd.prog 109 #[.agg #[.int .i64 a0_0, .int .i64 a0_1]] w fun e w' => e = .returned (.int .i64 r) ∧ Below w.heap.size w w' := by
 have hu52 := Tryd.underlying52
 have HT := Aside0.mk ht
 clear ht
 have HB := Aside0.mk (Below.refl w.heap.size w)
 have H : ((impl_Ratio_octave.f k a0_0 a0_1).bind fun bt377 => (if bt377.2.1 = 0 then (none) else (if 0 ≤ (wrap64 (Int.tdiv (wrap64 (32 * (wrap64 (bt377.1 - bt377.2.1)))) bt377.2.1)) then (if (wrap64 (Int.tdiv (wrap64 (32 * (wrap64 (bt377.1 - bt377.2.1)))) bt377.2.1)) < 33 then (if 0 ≤ (wrap64 ((wrap64 (Int.tdiv (wrap64 (32 * (wrap64 (bt377.1 - bt377.2.1)))) bt377.2.1)) + 1)) then (if (wrap64 ((wrap64 (Int.tdiv (wrap64 (32 * (wrap64 (bt377.1 - bt377.2.1)))) bt377.2.1)) + 1)) < 33 then ((impl_divRound.f (wrap64 ((wrap64 ((rd tab_ (wrap64 ((wrap64 (Int.tdiv (wrap64 (32 * (wrap64 (bt377.1 - bt377.2.1)))) bt377.2.1)) + 1))) - (rd tab_ (wrap64 (Int.tdiv (wrap64 (32 * (wrap64 (bt377.1 - bt377.2.1)))) bt377.2.1))))) * (wrap64 ((wrap64 (32 * (wrap64 (bt377.1 - bt377.2.1)))) - (wrap64 ((wrap64 (Int.tdiv (wrap64 (32 * (wrap64 (bt377.1 - bt377.2.1)))) bt377.2.1)) * bt377.2.1)))))) bt377.2.1).bind fun t382 => (some (wrap64 ((wrap64 ((wrap64 (120000 * bt377.2.2)) + (rd tab_ (wrap64 (Int.tdiv (wrap64 (32 * (wrap64 (bt377.1 - bt377.2.1)))) bt377.2.1))))) + t382)))) else (none)) else (none)) else (none)) else (none)))) = some r := h
 clear h
 replace H := Option.bind_eq_some_iff.mp H
 obtain ⟨⟨t377, t378, t379⟩, A20, H⟩ := H
 replace H : (if t378 = 0 then (none) else (if 0 ≤ (wrap64 (Int.tdiv (wrap64 (32 * (wrap64 (t377 - t378)))) t378)) then (if (wrap64 (Int.tdiv (wrap64 (32 * (wrap64 (t377 - t378)))) t378)) < 33 then (if 0 ≤ (wrap64 ((wrap64 (Int.tdiv (wrap64 (32 * (wrap64 (t377 - t378)))) t378)) + 1)) then (if (wrap64 ((wrap64 (Int.tdiv (wrap64 (32 * (wrap64 (t377 - t378)))) t378)) + 1)) < 33 then ((impl_divRound.f (wrap64 ((wrap64 ((rd tab_ (wrap64 ((wrap64 (Int.tdiv (wrap64 (32 * (wrap64 (t377 - t378)))) t378)) + 1))) - (rd tab_ (wrap64 (Int.tdiv (wrap64 (32 * (wrap64 (t377 - t378)))) t378))))) * (wrap64 ((wrap64 (32 * (wrap64 (t377 - t378)))) - (wrap64 ((wrap64 (Int.tdiv (wrap64 (32 * (wrap64 (t377 - t378)))) t378)) * t378)))))) t378).bind fun t382 => (some (wrap64 ((wrap64 ((wrap64 (120000 * t379)) + (rd tab_ (wrap64 (Int.tdiv (wrap64 (32 * (wrap64 (t377 - t378)))) t378))))) + t382)))) else (none)) else (none)) else (none)) else (none))) = some r := H
 have A2 := Aside0.mk A20
 clear A20
 by_cases c3 : t378 = 0
 · rw [if_pos c3] at H
   exact absurd H (by simp)
 rw [if_neg c3] at H
 have c3b0 : (t378 == 0) = false := beq_eq_false_iff_ne.mpr c3
 have c3b1 : (t378 != 0) = true := bne_iff_ne.mpr c3
 obtain ⟨ji4, hji4⟩ : ∃ j_ : Int, (wrap64 (Int.tdiv (wrap64 (32 * (wrap64 (t377 - t378)))) t378)) = j_ := ⟨_, rfl⟩
 replace H : (if 0 ≤ (ji4) then (if (ji4) < 33 then (if 0 ≤ (wrap64 ((ji4) + 1)) then (if (wrap64 ((ji4) + 1)) < 33 then ((impl_divRound.f (wrap64 ((wrap64 ((rd tab_ (wrap64 ((ji4) + 1))) - (rd tab_ (ji4)))) * (wrap64 ((wrap64 (32 * (wrap64 (t377 - t378)))) - (wrap64 ((ji4) * t378)))))) t378).bind fun t382 => (some (wrap64 ((wrap64 ((wrap64 (120000 * t379)) + (rd tab_ (ji4)))) + t382)))) else (none)) else (none)) else (none)) else (none)) = some r := by first | (rw [hji4] at H; exact H) | (simp only [hji4] at H ⊢; exact H)
 (try rw [hji4] at A2)
 have hji4w : (IntKind.i64.wrap (Int.tdiv (wrap64 (32 * (wrap64 (t377 - t378)))) t378)) = ji4 := (i64_w _).trans hji4
 by_cases c5 : 0 ≤ (ji4)
 · rw [if_pos c5] at H
   have c5b0 : decide (0 ≤ (ji4)) = true := decide_eq_true c5
   clear c5
   by_cases c6 : (ji4) < 33
   · rw [if_pos c6] at H
     have c6b0 : decide ((ji4) < 33) = true := decide_eq_true c6
     clear c6
     obtain ⟨ji7, hji7⟩ : ∃ j_ : Int, (wrap64 ((ji4) + 1)) = j_ := ⟨_, rfl⟩
     replace H : (if 0 ≤ (ji7) then (if (ji7) < 33 then ((impl_divRound.f (wrap64 ((wrap64 ((rd tab_ (ji7)) - (rd tab_ (ji4)))) * (wrap64 ((wrap64 (32 * (wrap64 (t377 - t378)))) - (wrap64 ((ji4) * t378)))))) t378).bind fun t382 => (some (wrap64 ((wrap64 ((wrap64 (120000 * t379)) + (rd tab_ (ji4)))) + t382)))) else (none)) else (none)) = some r := by first | (rw [hji7] at H; exact H) | (simp only [hji7] at H ⊢; exact H)
     (try rw [hji7] at A2)
     have hji7w : (IntKind.i64.wrap ((ji4) + 1)) = ji7 := (i64_w _).trans hji7
     by_cases c8 : 0 ≤ (ji7)
     · rw [if_pos c8] at H
       have c8b0 : decide (0 ≤ (ji7)) = true := decide_eq_true c8
       clear c8
       by_cases c9 : (ji7) < 33
       · rw [if_pos c9] at H
         have c9b0 : decide ((ji7) < 33) = true := decide_eq_true c9
         clear c9
         replace H := Option.bind_eq_some_iff.mp H
         obtain ⟨t382, A100, H⟩ := H
         replace H : (some (wrap64 ((wrap64 ((wrap64 (120000 * t379)) + (rd tab_ (ji4)))) + t382))) = some r := H
         have A10 := Aside0.mk A100
         clear A100
         obtain rfl := Option.some.inj H
         go_enter Tryd.func109, Tryd.ntmps109
         go_wp2_with (first | ((with_reducible refine gate_dst (N := 1) rfl ?_); refine box_event ?hg (N := 1) ?hd (cs := #[.int .i64 a0_0, .int .i64 a0_1]) (t := 52) ?hr ?_; (case hd => rfl); (case hg => rfl); (case hr => first | (go_simp; done) | (go_simp; rfl)); intro gb376 hg w11 hbox hb; have BK376 := Aside0.mk (hbox); have GW376 := Aside0.mk ((by rw [hg]; exact (below_size (tH HB)) : w.heap.size ≤ gb376)); have GE376 := Aside0.mk ((by rw [hg]; exact (below_size (tH HB)) : w.heap.size ≤ gb376)); replace HB := Aside0.mk (below_step (tH HB) hb); clear hb hbox hg; have hcz12_0 : w11.cell? ⟨gb376, 0, none⟩ = some (.int .i64 a0_0) := (blk_cell BK376.out 0).trans rfl; have hcz12_1 : w11.cell? ⟨gb376, 1, none⟩ = some (.int .i64 a0_1) := (blk_cell BK376.out 1).trans rfl; have hfz12_0 := blk_frozen BK376.out 0; have hfz12_1 := blk_frozen BK376.out 1) | (go_at_call 111; (with_reducible refine (impl_Ratio_octave.calls k a0_0 a0_1 t377 t378 t379 _ A2.out).mono ?_); rintro e w13 ⟨rfl, hb⟩; replace BK376 := tbB BK376 hb; replace HB := Aside0.mk (below_step (tH1 HB GE376.out) hb); (try clear hb); (try clear hb2); (try clear hk); (try clear hi); have p380 : 0 ≤ ((ji4) : Int) := of_decide_eq_true tA; have q380 : (ji4) < (33 : Int) := of_decide_eq_true tA; obtain ⟨ad380, e380, hx380_0⟩ := Kd.at_int HT.out (ji4) p380 q380; have hia380 := fun w_ => tab_ix (ji4) w_ p380 q380; cases e380; rw [tab_addr] at hx380_0; replace hx380_0 := tW HB hx380_0; replace p380 := eq_true p380; replace q380 := eq_true q380; have p381 : 0 ≤ ((ji7) : Int) := of_decide_eq_true tA; have q381 : (ji7) < (33 : Int) := of_decide_eq_true tA; obtain ⟨ad381, e381, hx381_0⟩ := Kd.at_int HT.out (ji7) p381 q381; have hia381 := fun w_ => tab_ix (ji7) w_ p381 q381; cases e381; rw [tab_addr] at hx381_0; replace hx381_0 := tW HB hx381_0; replace p381 := eq_true p381; replace q381 := eq_true q381) | (go_at_call 143; (with_reducible refine (impl_divRound.calls (wrap64 ((wrap64 ((rd tab_ (ji7)) - (rd tab_ (ji4)))) * (wrap64 ((wrap64 (32 * (wrap64 (t377 - t378)))) - (wrap64 ((ji4) * t378)))))) t378 t382 _ A10.out).mono ?_); rintro e w14 ⟨rfl, hb⟩; replace BK376 := tbB BK376 hb; replace HB := Aside0.mk (below_step (tH1 HB GE376.out) hb); (try clear hb); (try clear hb2); (try clear hk); (try clear hi)))
         repeat (go_quiet (first | ((with_reducible refine gate_dst (N := 1) rfl ?_); refine box_event ?hg (N := 1) ?hd (cs := #[.int .i64 a0_0, .int .i64 a0_1]) (t := 52) ?hr ?_; (case hd => rfl); (case hg => rfl); (case hr => first | (go_simp; done) | (go_simp; rfl)); intro gb376 hg w11 hbox hb; have BK376 := Aside0.mk (hbox); have GW376 := Aside0.mk ((by rw [hg]; exact (below_size (tH HB)) : w.heap.size ≤ gb376)); have GE376 := Aside0.mk ((by rw [hg]; exact (below_size (tH HB)) : w.heap.size ≤ gb376)); replace HB := Aside0.mk (below_step (tH HB) hb); clear hb hbox hg; have hcz12_0 : w11.cell? ⟨gb376, 0, none⟩ = some (.int .i64 a0_0) := (blk_cell BK376.out 0).trans rfl; have hcz12_1 : w11.cell? ⟨gb376, 1, none⟩ = some (.int .i64 a0_1) := (blk_cell BK376.out 1).trans rfl; have hfz12_0 := blk_frozen BK376.out 0; have hfz12_1 := blk_frozen BK376.out 1) | (go_at_call 111; (with_reducible refine (impl_Ratio_octave.calls k a0_0 a0_1 t377 t378 t379 _ A2.out).mono ?_); rintro e w13 ⟨rfl, hb⟩; replace BK376 := tbB BK376 hb; replace HB := Aside0.mk (below_step (tH1 HB GE376.out) hb); (try clear hb); (try clear hb2); (try clear hk); (try clear hi); have p380 : 0 ≤ ((ji4) : Int) := of_decide_eq_true tA; have q380 : (ji4) < (33 : Int) := of_decide_eq_true tA; obtain ⟨ad380, e380, hx380_0⟩ := Kd.at_int HT.out (ji4) p380 q380; have hia380 := fun w_ => tab_ix (ji4) w_ p380 q380; cases e380; rw [tab_addr] at hx380_0; replace hx380_0 := tW HB hx380_0; replace p380 := eq_true p380; replace q380 := eq_true q380; have p381 : 0 ≤ ((ji7) : Int) := of_decide_eq_true tA; have q381 : (ji7) < (33 : Int) := of_decide_eq_true tA; obtain ⟨ad381, e381, hx381_0⟩ := Kd.at_int HT.out (ji7) p381 q381; have hia381 := fun w_ => tab_ix (ji7) w_ p381 q381; cases e381; rw [tab_addr] at hx381_0; replace hx381_0 := tW HB hx381_0; replace p381 := eq_true p381; replace q381 := eq_true q381) | (go_at_call 143; (with_reducible refine (impl_divRound.calls (wrap64 ((wrap64 ((rd tab_ (ji7)) - (rd tab_ (ji4)))) * (wrap64 ((wrap64 (32 * (wrap64 (t377 - t378)))) - (wrap64 ((ji4) * t378)))))) t378 t382 _ A10.out).mono ?_); rintro e w14 ⟨rfl, hb⟩; replace BK376 := tbB BK376 hb; replace HB := Aside0.mk (below_step (tH1 HB GE376.out) hb); (try clear hb); (try clear hb2); (try clear hk); (try clear hi))); try go_wp2_with (first | ((with_reducible refine gate_dst (N := 1) rfl ?_); refine box_event ?hg (N := 1) ?hd (cs := #[.int .i64 a0_0, .int .i64 a0_1]) (t := 52) ?hr ?_; (case hd => rfl); (case hg => rfl); (case hr => first | (go_simp; done) | (go_simp; rfl)); intro gb376 hg w11 hbox hb; have BK376 := Aside0.mk (hbox); have GW376 := Aside0.mk ((by rw [hg]; exact (below_size (tH HB)) : w.heap.size ≤ gb376)); have GE376 := Aside0.mk ((by rw [hg]; exact (below_size (tH HB)) : w.heap.size ≤ gb376)); replace HB := Aside0.mk (below_step (tH HB) hb); clear hb hbox hg; have hcz12_0 : w11.cell? ⟨gb376, 0, none⟩ = some (.int .i64 a0_0) := (blk_cell BK376.out 0).trans rfl; have hcz12_1 : w11.cell? ⟨gb376, 1, none⟩ = some (.int .i64 a0_1) := (blk_cell BK376.out 1).trans rfl; have hfz12_0 := blk_frozen BK376.out 0; have hfz12_1 := blk_frozen BK376.out 1) | (go_at_call 111; (with_reducible refine (impl_Ratio_octave.calls k a0_0 a0_1 t377 t378 t379 _ A2.out).mono ?_); rintro e w13 ⟨rfl, hb⟩; replace BK376 := tbB BK376 hb; replace HB := Aside0.mk (below_step (tH1 HB GE376.out) hb); (try clear hb); (try clear hb2); (try clear hk); (try clear hi); have p380 : 0 ≤ ((ji4) : Int) := of_decide_eq_true tA; have q380 : (ji4) < (33 : Int) := of_decide_eq_true tA; obtain ⟨ad380, e380, hx380_0⟩ := Kd.at_int HT.out (ji4) p380 q380; have hia380 := fun w_ => tab_ix (ji4) w_ p380 q380; cases e380; rw [tab_addr] at hx380_0; replace hx380_0 := tW HB hx380_0; replace p380 := eq_true p380; replace q380 := eq_true q380; have p381 : 0 ≤ ((ji7) : Int) := of_decide_eq_true tA; have q381 : (ji7) < (33 : Int) := of_decide_eq_true tA; obtain ⟨ad381, e381, hx381_0⟩ := Kd.at_int HT.out (ji7) p381 q381; have hia381 := fun w_ => tab_ix (ji7) w_ p381 q381; cases e381; rw [tab_addr] at hx381_0; replace hx381_0 := tW HB hx381_0; replace p381 := eq_true p381; replace q381 := eq_true q381) | (go_at_call 143; (with_reducible refine (impl_divRound.calls (wrap64 ((wrap64 ((rd tab_ (ji7)) - (rd tab_ (ji4)))) * (wrap64 ((wrap64 (32 * (wrap64 (t377 - t378)))) - (wrap64 ((ji4) * t378)))))) t378 t382 _ A10.out).mono ?_); rintro e w14 ⟨rfl, hb⟩; replace BK376 := tbB BK376 hb; replace HB := Aside0.mk (below_step (tH1 HB GE376.out) hb); (try clear hb); (try clear hb2); (try clear hk); (try clear hi))))
         go_ret
         exact ⟨by first | rfl | (simp [errW_none, errW_some] <;> rfl) | (simp only [← hji4, ← hji7]; first | rfl | (simp [errW_none, errW_some] <;> rfl)) | (simp [*, errW_none, errW_some] <;> rfl), tH1 HB GE376.out⟩
       rw [if_neg c9] at H
       exact absurd H (by simp)
     rw [if_neg c8] at H
     exact absurd H (by simp)
   rw [if_neg c6] at H
   exact absurd H (by simp)
 rw [if_neg c5] at H
 exact absurd H (by simp)

/-! ### impl_Tuning_cents: function 127 -/
def impl_Tuning_cents.f (k : Nat) (a0_0 : ByteArray) (l0_1 : List (S52)) (a1 : Int) : Option (Int) := (impl_octaveOf.f a1).bind fun t384 => ((impl_ToneOf.f a1).bind fun t385 => (if 0 ≤ t385 then (if t385 < (l0_1.length : Int) then ((impl_Ratio_cents.f k ((rd_T52 l0_1 t385).f0) ((rd_T52 l0_1 t385).f1)).bind fun t387 => (some (wrap64 ((wrap64 (120000 * t384)) + t387)))) else (none)) else (none)))
theorem impl_Tuning_cents.mono : ∀ a0 a1 a2 k, LeO (impl_Tuning_cents.f k a0 a1 a2) (impl_Tuning_cents.f (k + 1) a0 a1 a2) := by
 intro a0 a1 a2 k
 unfold impl_Tuning_cents.f
 repeat' first
  | (with_reducible exact impl_Ratio_cents.mono _ _ _)
  | (with_reducible exact LeO.refl _)
  | (with_reducible exact LeO.none _)
  | (with_reducible refine LeO.ite ?_ ?_)
  | (with_reducible refine LeO.bind ?_ (fun _ => ?_))
  | exact impl_Ratio_cents.mono _ _ _
  | exact LeO.none _
  | refine LeO.ite ?_ ?_
  | refine LeO.bind ?_ (fun _ => ?_)
def impl_Tuning_cents.T1 : Bool × List (List Nat × List Nat) := (true, [([], []), ([0], [0]), ([1], [1]), ([], []), ([3], [3]), ([], []), ([5, 1], [5]), ([4, 6], [4, 6]), ([7], [7]), ([8, 6], [8]), ([2, 9], [2, 9]), ([10, 9, 0, 1, 2, 3, 4, 5, 6, 7, 8, 9, 10], [10])])
def impl_Tuning_cents.B1 : List Nat := [0, 1, 3, 0, 8, 0, 35, 123, 251, 507, 1023, 2047]
theorem impl_Tuning_cents.tab1 : rtab .any (opsOf Tryd.f127 1) = impl_Tuning_cents.T1 := by kernel_rfl
theorem impl_Tuning_cents.bits1 : waitsOk impl_Tuning_cents.T1.2 impl_Tuning_cents.B1 = true := by kernel_rfl
set_option maxHeartbeats 8000000 in
set_option maxRecDepth 100000 in
theorem impl_Tuning_cents.calls (k : Nat) (a0_0 : ByteArray) (A0_1 : Option Addr) (c0_1 : Nat) (l0_1 : List (S52)) (a1 : Int) (r : Int) (w : World) (hr0_1 : Kd.C k52 w A0_1 l0_1.length l0_1) (hc0_1 : l0_1.length ≤ c0_1) (ht : Tab_ w) (h : impl_Tuning_cents.f k a0_0 l0_1 a1 = some r) :
 Calls Tryd.prog 127 #[.agg #[.string a0_0, .slice A0_1 l0_1.length c0_1], .int .i64 a1] w fun e w' => e = .returned (.int .i64 r) ∧ Below w.heap.size w w' := by
 have hu71 := Tryd.underlying71
 have hu52 := Tryd.underlying52
 have HR0_1 := Aside0.mk hr0_1
 have HC0_1 := Aside0.mk hc0_1
 clear hr0_1 hc0_1
 have HT := Aside0.mk ht
 clear ht
 have HB := Aside0.mk (Below.refl w.heap.size w)
 have H : ((impl_octaveOf.f a1).bind fun t384 => ((impl_ToneOf.f a1).bind fun t385 => (if 0 ≤ t385 then (if t385 < (l0_1.length : Int) then ((impl_Ratio_cents.f k ((rd_T52 l0_1 t385).f0) ((rd_T52 l0_1 t385).f1)).bind fun t387 => (some (wrap64 ((wrap64 (120000 * t384)) + t387)))) else (none)) else (none)))) = some r := h
 clear h
 replace H := Option.bind_eq_some_iff.mp H
 obtain ⟨t384, A30, H⟩ := H
 replace H : ((impl_ToneOf.f a1).bind fun t385 => (if 0 ≤ t385 then (if t385 < (l0_1.length : Int) then ((impl_Ratio_cents.f k ((rd_T52 l0_1 t385).f0) ((rd_T52 l0_1 t385).f1)).bind fun t387 => (some (wrap64 ((wrap64 (120000 * t384)) + t387)))) else (none)) else (none))) = some r := H
 have A3 := Aside0.mk A30
 clear A30
 replace H := Option.bind_eq_some_iff.mp H
 obtain ⟨t385, A40, H⟩ := H
 replace H : (if 0 ≤ t385 then (if t385 < (l0_1.length : Int) then ((impl_Ratio_cents.f k ((rd_T52 l0_1 t385).f0) ((rd_T52 l0_1 t385).f1)).bind fun t387 => (some (wrap64 ((wrap64 (120000 * t384)) + t387)))) else (none)) else (none)) = some r := H
 have A4 := Aside0.mk A40
 clear A40
 by_cases c5 : 0 ≤ t385
 · rw [if_pos c5] at H
   have c5b0 : decide (0 ≤ t385) = true := decide_eq_true c5
   clear c5
   by_cases c6 : t385 < (l0_1.length : Int)
   · rw [if_pos c6] at H
     have c6b0 : decide (t385 < (l0_1.length : Int)) = true := decide_eq_true c6
     clear c6
     replace H := Option.bind_eq_some_iff.mp H
     obtain ⟨t387, A70, H⟩ := H
     replace H : (some (wrap64 ((wrap64 (120000 * t384)) + t387))) = some r := H
     have A7 := Aside0.mk A70
     clear A70
     obtain rfl := Option.some.inj H
     go_enter Tryd.func127, Tryd.ntmps127
     try go_wp2_with (first | ((with_reducible refine gate_dst (N := 2) rfl ?_); refine box_event ?hg (N := 2) ?hd (cs := #[.string a0_0, .slice A0_1 l0_1.length c0_1]) (t := 71) ?hr ?_; (case hd => rfl); (case hg => rfl); (case hr => first | (go_simp; done) | (go_simp; rfl)); intro gb383 hg w8 hbox hb; have BK383 := Aside0.mk (hbox); have GW383 := Aside0.mk ((by rw [hg]; exact (below_size (tH HB)) : w.heap.size ≤ gb383)); have GE383 := Aside0.mk ((by rw [hg]; exact (below_size (tH HB)) : w.heap.size ≤ gb383)); replace HB := Aside0.mk (below_step (tH HB) hb); clear hb hbox hg))
     replace BK383 := Aside0.mk (blk_drew BK383.out)
     replace HB := Aside0.mk (below_drew1 HB.out)
     have p386 : 0 ≤ (t385 : Int) := of_decide_eq_true tA
     have q386 : t385 < (l0_1.length : Int) := of_decide_eq_true tA
     obtain ⟨ad386, e386, hx386_0, hx386_1⟩ := at_T52 HR0_1.out t385 p386 q386
     have hw386_1 := hx386_1
     have hw386_0 := hx386_0
     cases e386
     replace hx386_0 := tW HB hx386_0
     replace hx386_1 := tW HB hx386_1
     replace p386 := eq_true p386
     replace q386 := eq_true q386
     refine start_ (n := 12) (S := fun w' => w'.cell? ⟨gb383, 0, none⟩ = some (.string a0_0) ∧ w'.cell? ⟨gb383, 1, none⟩ = some (.slice (some ad386) l0_1.length c0_1) ∧ w'.cell? (ad386.add ((t385).toNat * 2)) = some (.int .i64 ((rd_T52 l0_1 t385).f0)) ∧ w'.cell? ⟨(ad386.add ((t385).toNat * 2)).block, (ad386.add ((t385).toNat * 2)).off + 1, none⟩ = some (.int .i64 ((rd_T52 l0_1 t385).f1))) (ds := []) (bq [0, 12]) (by kernel_rfl) rfl rfl ⟨(blk_cell BK383.out 0).trans rfl, (blk_cell BK383.out 1).trans rfl, (tW HB hw386_0), (tW HB hw386_1)⟩ (fun hHeld => ?_); refine with_tabW impl_Tuning_cents.tab1 impl_Tuning_cents.bits1 (fun HT_ HW_ => ?_)
     generalize w8.drew = w9 at BK383 HB hx386_0 hx386_1 hHeld ⊢
     refine pV 0 (some 5) [1, 11] rfl rfl HT_ ?_
     refine pV 3 (some 8) [1, 2, 1, 8] rfl rfl HT_ ?_
     refine pV 5 (some 10) [1, 2, 1, 1, 1, 6] rfl rfl HT_ ?_
     refine pT 4 (some 9) (bq [1, 2, 3, 6]) rfl rfl HT_ HW_ hHeld ?_
     refine pO 1 (some 6) (bq [2, 1, 3, 6]) rfl rfl HT_ (fun K hK => ?_)
     refine gS_ Tryd.func177 #[.int .i64 a1] rfl rfl ?_
     with_reducible refine (impl_octaveOf.calls a1 t384 _ A3.out).mono ?_
     rintro e w' ⟨rfl, ⟨nd, rfl⟩⟩
     refine ⟨_, rfl, ?_⟩
     refine hK.out _ _ ⟨(blk_cell BK383.out 0).trans rfl, (blk_cell BK383.out 1).trans rfl, (tW HB hw386_0), (tW HB hw386_1)⟩ (fun hHeld => ?_)
     clear hK K
     refine nO (some 6) ?_
     refine pV 2 (some 7) [6, 6] rfl rfl HT_ ?_
     refine pO 6 (some 11) (bq [7, 5]) rfl rfl HT_ (fun K hK => ?_)
     refine gS_ Tryd.func176 #[.int .i64 a1] rfl rfl ?_
     with_reducible refine (impl_ToneOf.calls a1 t385 _ A4.out).mono ?_
     rintro e w' ⟨rfl, ⟨nd, rfl⟩⟩
     refine ⟨_, rfl, ?_⟩
     refine hK.out _ _ ⟨(blk_cell BK383.out 0).trans rfl, (blk_cell BK383.out 1).trans rfl, (tW HB hw386_0), (tW HB hw386_1)⟩ (fun hHeld => ?_)
     clear hK K
     refine nO (some 11) ?_
     refine pV 7 (some 12) [8, 4] rfl rfl HT_ ?_
     refine pT 8 (some 13) (bq [9, 3]) rfl rfl HT_ HW_ hHeld ?_
     refine pO 9 (some 14) (bq [10, 2]) rfl rfl HT_ (fun K hK => ?_)
     refine gS_ Tryd.func109 #[.agg #[.int .i64 ((rd_T52 l0_1 t385).f0), .int .i64 ((rd_T52 l0_1 t385).f1)]] rfl rfl ?_
     with_reducible refine (impl_Ratio_cents.calls k ((rd_T52 l0_1 t385).f0) ((rd_T52 l0_1 t385).f1) t387 _ ?side1 A7.out).mono ?_
     (case side1 => exact Kd.C_below HT.out (tH1 HB GE383.out))
     rintro e w10 ⟨rfl, hb⟩
     refine ⟨_, rfl, ?_⟩
     replace BK383 := tbB BK383 hb
     replace HB := Aside0.mk (below_step (tH1 HB GE383.out) hb)
     (try clear hb)
     (try clear hb2)
     (try clear hk)
     (try clear hi)
     refine hK.out _ _ ⟨(blk_cell BK383.out 0).trans rfl, (blk_cell BK383.out 1).trans rfl, (tW HB hw386_0), (tW HB hw386_1)⟩ (fun hHeld => ?_)
     clear hK K
     refine nO (some 14) ?_
     refine pV 10 (some 15) [11, 1] rfl rfl HT_ ?_
     refine pV 11 (some 4) [12] rfl rfl HT_ ?_
     refine done_ (done_of HT_.out (by kernel_rfl)) ?_
     try go_wp2
     go_ret
     exact ⟨tE, tH1 HB GE383.out⟩
   rw [if_neg c6] at H
   exact absurd H (by simp)
 rw [if_neg c5] at H
 exact absurd H (by simp)

end Go.Proofs.YtmeflmlejcmckaaDoor.PB
