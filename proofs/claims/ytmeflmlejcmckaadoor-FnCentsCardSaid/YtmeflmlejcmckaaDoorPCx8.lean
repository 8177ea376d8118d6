-- WRITTEN BY wip/gprint.py, a program of this session's over the kit's print, with contracts given by hand
import Derived.Test.YtmeflmlejcmckaaDoorPCx0
import Derived.Test.YtmeflmlejcmckaaDoorPCx1
import Derived.Test.YtmeflmlejcmckaaDoorPCx4
import Derived.Test.YtmeflmlejcmckaaDoorPCx6
import Derived.Test.YtmeflmlejcmckaaDoorPCx7
namespace Go.Proofs.YtmeflmlejcmckaaDoor.PC
open Go.RowKit Go.Proofs.YtmeflmlejcmckaaDoorW.PrintWords Go.Proofs.YtmeflmlejcmckaaDoorW.PrintLast Go.Proofs.YtmeflmlejcmckaaDoorW.PrintMore
attribute [local go_sem] max2_int min2_int max_two min_two max_three min_three max_four min_four   -- for this text's walks alone
set_option linter.unusedVariables false
set_option linter.unusedSimpArgs false

attribute [local go_sem] isSome_setCell
/-! ### impl_Ratio_cents: function 109 -/
def impl_Ratio_cents.f (k : Nat) (a0_0 : Int) (a0_1 : Int) : Option (Int) := (impl_Ratio_octave.f k a0_0 a0_1).bind fun bt195 => (if bt195.2.1 = 0 then (none) else (if 0 ≤ (wrap64 (Int.tdiv (wrap64 (32 * (wrap64 (bt195.1 - bt195.2.1)))) bt195.2.1)) then (if (wrap64 (Int.tdiv (wrap64 (32 * (wrap64 (bt195.1 - bt195.2.1)))) bt195.2.1)) < 33 then (if 0 ≤ (wrap64 ((wrap64 (Int.tdiv (wrap64 (32 * (wrap64 (bt195.1 - bt195.2.1)))) bt195.2.1)) + 1)) then (if (wrap64 ((wrap64 (Int.tdiv (wrap64 (32 * (wrap64 (bt195.1 - bt195.2.1)))) bt195.2.1)) + 1)) < 33 then ((impl_divRound.f (wrap64 ((wrap64 ((rd tab_ (wrap64 ((wrap64 (Int.tdiv (wrap64 (32 * (wrap64 (bt195.1 - bt195.2.1)))) bt195.2.1)) + 1))) - (rd tab_ (wrap64 (Int.tdiv (wrap64 (32 * (wrap64 (bt195.1 - bt195.2.1)))) bt195.2.1))))) * (wrap64 ((wrap64 (32 * (wrap64 (bt195.1 - bt195.2.1)))) - (wrap64 ((wrap64 (Int.tdiv (wrap64 (32 * (wrap64 (bt195.1 - bt195.2.1)))) bt195.2.1)) * bt195.2.1)))))) bt195.2.1).bind fun t200 => (some (wrap64 ((wrap64 ((wrap64 (120000 * bt195.2.2)) + (rd tab_ (wrap64 (Int.tdiv (wrap64 (32 * (wrap64 (bt195.1 - bt195.2.1)))) bt195.2.1))))) + t200)))) else (none)) else (none)) else (none)) else (none)))
theorem impl_Ratio_cents.mono : ∀ a0 a1 k, LeO (impl_Ratio_cents.f k a0 a1) (impl_Ratio_cents.f (k + 1) a0 a1) := by
 intro a0 a1 k
 unfold impl_Ratio_cents.f
 repeat' first
  | (with_reducible exact impl_Ratio_octave.mono _ _ _)
  | (with_reducible exact LeO.refl _)
  | (with_reducible exact LeO.none _)
  | (with_reducible refine LeO.ite ?_ ?_)
  | (with_reducible refine LeO.bind ?_ (fun _ => ?_))
  | exact impl_Ratio_octave.mono _ _ _
  | exact LeO.none _
  | refine LeO.ite ?_ ?_
  | refine LeO.bind ?_ (fun _ => ?_)
set_option maxHeartbeats 8000000 in
set_option maxRecDepth 100000 in
theorem impl_Ratio_cents.calls (k : Nat) (a0_0 : Int) (a0_1 : Int) (r : Int) (w : World) (ht : Tab_ w) (h : impl_Ratio_cents.f k a0_0 a0_1 = some r) :
 Calls Tryd.prog 109 #[.agg #[.int .i64 a0_0, .int .i64 a0_1]] w fun e w' => e = .returned (.int .i64 r) ∧ Below w.heap.size w w' := by
 have hu52 := Tryd.underlying52
 have HT := Aside0.mk ht
 clear ht
 have HB := Aside0.mk (Below.refl w.heap.size w)
 have H : ((impl_Ratio_octave.f k a0_0 a0_1).bind fun bt195 => (if bt195.2.1 = 0 then (none) else (if 0 ≤ (wrap64 (Int.tdiv (wrap64 (32 * (wrap64 (bt195.1 - bt195.2.1)))) bt195.2.1)) then (if (wrap64 (Int.tdiv (wrap64 (32 * (wrap64 (bt195.1 - bt195.2.1)))) bt195.2.1)) < 33 then (if 0 ≤ (wrap64 ((wrap64 (Int.tdiv (wrap64 (32 * (wrap64 (bt195.1 - bt195.2.1)))) bt195.2.1)) + 1)) then (if (wrap64 ((wrap64 (Int.tdiv (wrap64 (32 * (wrap64 (bt195.1 - bt195.2.1)))) bt195.2.1)) + 1)) < 33 then ((impl_divRound.f (wrap64 ((wrap64 ((rd tab_ (wrap64 ((wrap64 (Int.tdiv (wrap64 (32 * (wrap64 (bt195.1 - bt195.2.1)))) bt195.2.1)) + 1))) - (rd tab_ (wrap64 (Int.tdiv (wrap64 (32 * (wrap64 (bt195.1 - bt195.2.1)))) bt195.2.1))))) * (wrap64 ((wrap64 (32 * (wrap64 (bt195.1 - bt195.2.1)))) - (wrap64 ((wrap64 (Int.tdiv (wrap64 (32 * (wrap64 (bt195.1 - bt195.2.1)))) bt195.2.1)) * bt195.2.1)))))) bt195.2.1).bind fun t200 => (some (wrap64 ((wrap64 ((wrap64 (120000 * bt195.2.2)) + (rd tab_ (wrap64 (Int.tdiv (wrap64 (32 * (wrap64 (bt195.1 - bt195.2.1)))) bt195.2.1))))) + t200)))) else (none)) else (none)) else (none)) else (none)))) = some r := h
 clear h
 replace H := Option.bind_eq_some_iff.mp H
 obtain ⟨⟨t195, t196, t197⟩, A20, H⟩ := H
 replace H : (if t196 = 0 then (none) else (if 0 ≤ (wrap64 (Int.tdiv (wrap64 (32 * (wrap64 (t195 - t196)))) t196)) then (if (wrap64 (Int.tdiv (wrap64 (32 * (wrap64 (t195 - t196)))) t196)) < 33 then (if 0 ≤ (wrap64 ((wrap64 (Int.tdiv (wrap64 (32 * (wrap64 (t195 - t196)))) t196)) + 1)) then (if (wrap64 ((wrap64 (Int.tdiv (wrap64 (32 * (wrap64 (t195 - t196)))) t196)) + 1)) < 33 then ((impl_divRound.f (wrap64 ((wrap64 ((rd tab_ (wrap64 ((wrap64 (Int.tdiv (wrap64 (32 * (wrap64 (t195 - t196)))) t196)) + 1))) - (rd tab_ (wrap64 (Int.tdiv (wrap64 (32 * (wrap64 (t195 - t196)))) t196))))) * (wrap64 ((wrap64 (32 * (wrap64 (t195 - t196)))) - (wrap64 ((wrap64 (Int.tdiv (wrap64 (32 * (wrap64 (t195 - t196)))) t196)) * t196)))))) t196).bind fun t200 => (some (wrap64 ((wrap64 ((wrap64 (120000 * t197)) + (rd tab_ (wrap64 (Int.tdiv (wrap64 (32 * (wrap64 (t195 - t196)))) t196))))) + t200)))) else (none)) else (none)) else (none)) else (none))) = some r := H
 have A2 := Aside0.mk A20
 clear A20
 by_cases c3 : t196 = 0
 · rw [if_pos c3] at H
   exact absurd H (by simp)
 rw [if_neg c3] at H
 have c3b0 : (t196 == 0) = false := beq_eq_false_iff_ne.mpr c3
 have c3b1 : (t196 != 0) = true := bne_iff_ne.mpr c3
 obtain ⟨ji4, hji4⟩ : ∃ j_ : Int, (wrap64 (Int.tdiv (wrap64 (32 * (wrap64 (t195 - t196)))) t196)) = j_ := ⟨_, rfl⟩
 replace H : (if 0 ≤ (ji4) then (if (ji4) < 33 then (if 0 ≤ (wrap64 ((ji4) + 1)) then (if (wrap64 ((ji4) + 1)) < 33 then ((impl_divRound.f (wrap64 ((wrap64 ((rd tab_ (wrap64 ((ji4) + 1))) - (rd tab_ (ji4)))) * (wrap64 ((wrap64 (32 * (wrap64 (t195 - t196)))) - (wrap64 ((ji4) * t196)))))) t196).bind fun t200 => (some (wrap64 ((wrap64 ((wrap64 (120000 * t197)) + (rd tab_ (ji4)))) + t200)))) else (none)) else (none)) else (none)) else (none)) = some r := by first | (rw [hji4] at H; exact H) | (simp only [hji4] at H ⊢; exact H)
 (try rw [hji4] at A2)
 have hji4w : (IntKind.i64.wrap (Int.tdiv (wrap64 (32 * (wrap64 (t195 - t196)))) t196)) = ji4 := (i64_w _).trans hji4
 by_cases c5 : 0 ≤ (ji4)
 · rw [if_pos c5] at H
   have c5b0 : decide (0 ≤ (ji4)) = true := decide_eq_true c5
   clear c5
   by_cases c6 : (ji4) < 33
   · rw [if_pos c6] at H
     have c6b0 : decide ((ji4) < 33) = true := decide_eq_true c6
     clear c6
     obtain ⟨ji7, hji7⟩ : ∃ j_ : Int, (wrap64 ((ji4) + 1)) = j_ := ⟨_, rfl⟩
     replace H : (if 0 ≤ (ji7) then (if (ji7) < 33 then ((impl_divRound.f (wrap64 ((wrap64 ((rd tab_ (ji7)) - (rd tab_ (ji4)))) * (wrap64 ((wrap64 (32 * (wrap64 (t195 - t196)))) - (wrap64 ((ji4) * t196)))))) t196).bind fun t200 => (some (wrap64 ((wrap64 ((wrap64 (120000 * t197)) + (rd tab_ (ji4)))) + t200)))) else (none)) else (none)) = some r := by first | (rw [hji7] at H; exact H) | (simp only [hji7] at H ⊢; exact H)
     (try rw [hji7] at A2)
     have hji7w : (IntKind.i64.wrap ((ji4) + 1)) = ji7 := (i64_w _).trans hji7
     by_cases c8 : 0 ≤ (ji7)
     · rw [if_pos c8] at H
       have c8b0 : decide (0 ≤ (ji7)) = true := decide_eq_true c8
       clear c8
       by_cases c9 : (ji7) < 33
       · rw [if_pos c9] at H
         have c9b0 : decide ((ji7) < 33) = true := decide_eq_true c9
         clear c9
         replace H := Option.bind_eq_some_iff.mp H
         obtain ⟨t200, A100, H⟩ := H
         replace H : (some (wrap64 ((wrap64 ((wrap64 (120000 * t197)) + (rd tab_ (ji4)))) + t200))) = some r := H
         have A10 := Aside0.mk A100
         clear A100
         obtain rfl := Option.some.inj H
         go_enter Tryd.func109, Tryd.ntmps109
         go_wp2_with (first | ((with_reducible refine gate_dst (N := 1) rfl ?_); refine box_event ?hg (N := 1) ?hd (cs := #[.int .i64 a0_0, .int .i64 a0_1]) (t := 52) ?hr ?_; (case hd => rfl); (case hg => rfl); (case hr => first | (go_simp; done) | (go_simp; rfl)); intro gb194 hg w11 hbox hb; have BK194 := Aside0.mk (hbox); have GW194 := Aside0.mk ((by rw [hg]; exact (below_size (tH HB)) : w.heap.size ≤ gb194)); have GE194 := Aside0.mk ((by rw [hg]; exact (below_size (tH HB)) : w.heap.size ≤ gb194)); replace HB := Aside0.mk (below_step (tH HB) hb); clear hb hbox hg; have hcz12_0 : w11.cell? ⟨gb194, 0, none⟩ = some (.int .i64 a0_0) := (blk_cell BK194.out 0).trans rfl; have hcz12_1 : w11.cell? ⟨gb194, 1, none⟩ = some (.int .i64 a0_1) := (blk_cell BK194.out 1).trans rfl; have hfz12_0 := blk_frozen BK194.out 0; have hfz12_1 := blk_frozen BK194.out 1) | (go_at_call 111; (with_reducible refine (impl_Ratio_octave.calls k a0_0 a0_1 t195 t196 t197 _ A2.out).mono ?_); rintro e w13 ⟨rfl, hb⟩; replace BK194 := tbB BK194 hb; replace HB := Aside0.mk (below_step (tH1 HB GE194.out) hb); (try clear hb); (try clear hb2); (try clear hk); (try clear hi); have p198 : 0 ≤ ((ji4) : Int) := of_decide_eq_true tA; have q198 : (ji4) < (33 : Int) := of_decide_eq_true tA; obtain ⟨ad198, e198, hx198_0⟩ := Kd.at_int HT.out (ji4) p198 q198; have hia198 := fun w_ => tab_ix (ji4) w_ p198 q198; cases e198; rw [tab_addr] at hx198_0; replace hx198_0 := tW HB hx198_0; replace p198 := eq_true p198; replace q198 := eq_true q198; have p199 : 0 ≤ ((ji7) : Int) := of_decide_eq_true tA; have q199 : (ji7) < (33 : Int) := of_decide_eq_true tA; obtain ⟨ad199, e199, hx199_0⟩ := Kd.at_int HT.out (ji7) p199 q199; have hia199 := fun w_ => tab_ix (ji7) w_ p199 q199; cases e199; rw [tab_addr] at hx199_0; replace hx199_0 := tW HB hx199_0; replace p199 := eq_true p199; replace q199 := eq_true q199) | (go_at_call 143; (with_reducible refine (impl_divRound.calls (wrap64 ((wrap64 ((rd tab_ (ji7)) - (rd tab_ (ji4)))) * (wrap64 ((wrap64 (32 * (wrap64 (t195 - t196)))) - (wrap64 ((ji4) * t196)))))) t196 t200 _ A10.out).mono ?_); rintro e w14 ⟨rfl, hb⟩; replace BK194 := tbB BK194 hb; replace HB := Aside0.mk (below_step (tH1 HB GE194.out) hb); (try clear hb); (try clear hb2); (try clear hk); (try clear hi)))
         repeat (go_quiet (first | ((with_reducible refine gate_dst (N := 1) rfl ?_); refine box_event ?hg (N := 1) ?hd (cs := #[.int .i64 a0_0, .int .i64 a0_1]) (t := 52) ?hr ?_; (case hd => rfl); (case hg => rfl); (case hr => first | (go_simp; done) | (go_simp; rfl)); intro gb194 hg w11 hbox hb; have BK194 := Aside0.mk (hbox); have GW194 := Aside0.mk ((by rw [hg]; exact (below_size (tH HB)) : w.heap.size ≤ gb194)); have GE194 := Aside0.mk ((by rw [hg]; exact (below_size (tH HB)) : w.heap.size ≤ gb194)); replace HB := Aside0.mk (below_step (tH HB) hb); clear hb hbox hg; have hcz12_0 : w11.cell? ⟨gb194, 0, none⟩ = some (.int .i64 a0_0) := (blk_cell BK194.out 0).trans rfl; have hcz12_1 : w11.cell? ⟨gb194, 1, none⟩ = some (.int .i64 a0_1) := (blk_cell BK194.out 1).trans rfl; have hfz12_0 := blk_frozen BK194.out 0; have hfz12_1 := blk_frozen BK194.out 1) | (go_at_call 111; (with_reducible refine (impl_Ratio_octave.calls k a0_0 a0_1 t195 t196 t197 _ A2.out).mono ?_); rintro e w13 ⟨rfl, hb⟩; replace BK194 := tbB BK194 hb; replace HB := Aside0.mk (below_step (tH1 HB GE194.out) hb); (try clear hb); (try clear hb2); (try clear hk); (try clear hi); have p198 : 0 ≤ ((ji4) : Int) := of_decide_eq_true tA; have q198 : (ji4) < (33 : Int) := of_decide_eq_true tA; obtain ⟨ad198, e198, hx198_0⟩ := Kd.at_int HT.out (ji4) p198 q198; have hia198 := fun w_ => tab_ix (ji4) w_ p198 q198; cases e198; rw [tab_addr] at hx198_0; replace hx198_0 := tW HB hx198_0; replace p198 := eq_true p198; replace q198 := eq_true q198; have p199 : 0 ≤ ((ji7) : Int) := of_decide_eq_true tA; have q199 : (ji7) < (33 : Int) := of_decide_eq_true tA; obtain ⟨ad199, e199, hx199_0⟩ := Kd.at_int HT.out (ji7) p199 q199; have hia199 := fun w_ => tab_ix (ji7) w_ p199 q199; cases e199; rw [tab_addr] at hx199_0; replace hx199_0 := tW HB hx199_0; replace p199 := eq_true p199; replace q199 := eq_true q199) | (go_at_call 143; (with_reducible refine (impl_divRound.calls (wrap64 ((wrap64 ((rd tab_ (ji7)) - (rd tab_ (ji4)))) * (wrap64 ((wrap64 (32 * (wrap64 (t195 - t196)))) - (wrap64 ((ji4) * t196)))))) t196 t200 _ A10.out).mono ?_); rintro e w14 ⟨rfl, hb⟩; replace BK194 := tbB BK194 hb; replace HB := Aside0.mk (below_step (tH1 HB GE194.out) hb); (try clear hb); (try clear hb2); (try clear hk); (try clear hi))); try go_wp2_with (first | ((with_reducible refine gate_dst (N := 1) rfl ?_); refine box_event ?hg (N := 1) ?hd (cs := #[.int .i64 a0_0, .int .i64 a0_1]) (t := 52) ?hr ?_; (case hd => rfl); (case hg => rfl); (case hr => first | (go_simp; done) | (go_simp; rfl)); intro gb194 hg w11 hbox hb; have BK194 := Aside0.mk (hbox); have GW194 := Aside0.mk ((by rw [hg]; exact (below_size (tH HB)) : w.heap.size ≤ gb194)); have GE194 := Aside0.mk ((by rw [hg]; exact (below_size (tH HB)) : w.heap.size ≤ gb194)); replace HB := Aside0.mk (below_step (tH HB) hb); clear hb hbox hg; have hcz12_0 : w11.cell? ⟨gb194, 0, none⟩ = some (.int .i64 a0_0) := (blk_cell BK194.out 0).trans rfl; have hcz12_1 : w11.cell? ⟨gb194, 1, none⟩ = some (.int .i64 a0_1) := (blk_cell BK194.out 1).trans rfl; have hfz12_0 := blk_frozen BK194.out 0; have hfz12_1 := blk_frozen BK194.out 1) | (go_at_call 111; (with_reducible refine (impl_Ratio_octave.calls k a0_0 a0_1 t195 t196 t197 _ A2.out).mono ?_); rintro e w13 ⟨rfl, hb⟩; replace BK194 := tbB BK194 hb; replace HB := Aside0.mk (below_step (tH1 HB GE194.out) hb); (try clear hb); (try clear hb2); (try clear hk); (try clear hi); have p198 : 0 ≤ ((ji4) : Int) := of_decide_eq_true tA; have q198 : (ji4) < (33 : Int) := of_decide_eq_true tA; obtain ⟨ad198, e198, hx198_0⟩ := Kd.at_int HT.out (ji4) p198 q198; have hia198 := fun w_ => tab_ix (ji4) w_ p198 q198; cases e198; rw [tab_addr] at hx198_0; replace hx198_0 := tW HB hx198_0; replace p198 := eq_true p198; replace q198 := eq_true q198; have p199 : 0 ≤ ((ji7) : Int) := of_decide_eq_true tA; have q199 : (ji7) < (33 : Int) := of_decide_eq_true tA; obtain ⟨ad199, e199, hx199_0⟩ := Kd.at_int HT.out (ji7) p199 q199; have hia199 := fun w_ => tab_ix (ji7) w_ p199 q199; cases e199; rw [tab_addr] at hx199_0; replace hx199_0 := tW HB hx199_0; replace p199 := eq_true p199; replace q199 := eq_true q199) | (go_at_call 143; (with_reducible refine (impl_divRound.calls (wrap64 ((wrap64 ((rd tab_ (ji7)) - (rd tab_ (ji4)))) * (wrap64 ((wrap64 (32 * (wrap64 (t195 - t196)))) - (wrap64 ((ji4) * t196)))))) t196 t200 _ A10.out).mono ?_); rintro e w14 ⟨rfl, hb⟩; replace BK194 := tbB BK194 hb; replace HB := Aside0.mk (below_step (tH1 HB GE194.out) hb); (try clear hb); (try clear hb2); (try clear hk); (try clear hi))))
         go_ret
         exact ⟨by first | rfl | (simp [errW_none, errW_some] <;> rfl) | (simp only [← hji4, ← hji7]; first | rfl | (simp [errW_none, errW_some] <;> rfl)) | (simp [*, errW_none, errW_some] <;> rfl), tH1 HB GE194.out⟩
       rw [if_neg c9] at H
       exact absurd H (by simp)
     rw [if_neg c8] at H
     exact absurd H (by simp)
   rw [if_neg c6] at H
   exact absurd H (by simp)
 rw [if_neg c5] at H
 exact absurd H (by simp)

/-! ### impl_CentsOf: function 35 -/
def impl_CentsOf.f (k : Nat) (a0_0 : Int) (a0_1 : Int) : Option (Int × Int) := (impl_ValidRatio.f k a0_0 a0_1).bind fun t202 => (if t202 = true then ((impl_Ratio_cents.f k a0_0 a0_1).bind fun t203 => (some (t203, 0))) else (some (0, 1)))
theorem impl_CentsOf.mono : ∀ a0 a1 k, LeO (impl_CentsOf.f k a0 a1) (impl_CentsOf.f (k + 1) a0 a1) := by
 intro a0 a1 k
 unfold impl_CentsOf.f
 repeat' first
  | (with_reducible exact impl_Ratio_cents.mono _ _ _)
  | (with_reducible exact impl_ValidRatio.mono _ _ _)
  | (with_reducible exact LeO.refl _)
  | (with_reducible exact LeO.none _)
  | (with_reducible refine LeO.ite ?_ ?_)
  | (with_reducible refine LeO.bind ?_ (fun _ => ?_))
  | exact impl_Ratio_cents.mono _ _ _
  | exact impl_ValidRatio.mono _ _ _
  | exact LeO.none _
  | refine LeO.ite ?_ ?_
  | refine LeO.bind ?_ (fun _ => ?_)
set_option maxHeartbeats 8000000 in
set_option maxRecDepth 100000 in
theorem impl_CentsOf.calls (k : Nat) (a0_0 : Int) (a0_1 : Int) (r1 : Int) (r2 : Int) (w : World) (ht : Tab_ w) (h : impl_CentsOf.f k a0_0 a0_1 = some (r1, r2)) :
 Calls Tryd.prog 35 #[.agg #[.int .i64 a0_0, .int .i64 a0_1]] w fun e w' => e = .returned (.tuple #[.int .i64 r1, .int .i64 r2]) ∧ Below w.heap.size w w' := by
 have hu52 := Tryd.underlying52
 have HT := Aside0.mk ht
 clear ht
 have HB := Aside0.mk (Below.refl w.heap.size w)
 have H : ((impl_ValidRatio.f k a0_0 a0_1).bind fun t202 => (if t202 = true then ((impl_Ratio_cents.f k a0_0 a0_1).bind fun t203 => (some (t203, 0))) else (some (0, 1)))) = some (r1, r2) := h
 clear h
 replace H := Option.bind_eq_some_iff.mp H
 obtain ⟨t202, A20, H⟩ := H
 replace H : (if t202 = true then ((impl_Ratio_cents.f k a0_0 a0_1).bind fun t203 => (some (t203, 0))) else (some (0, 1))) = some (r1, r2) := H
 have A2 := Aside0.mk A20
 clear A20
 by_cases c3 : t202 = true
 · subst c3
   have H1 : ((impl_Ratio_cents.f k a0_0 a0_1).bind fun t203 => (some (t203, 0))) = some (r1, r2) := by rw [if_pos rfl] at H; exact H
   clear H
   have H := H1
   clear H1
   replace H := Option.bind_eq_some_iff.mp H
   obtain ⟨t203, A40, H⟩ := H
   replace H : (some (t203, 0)) = some (r1, r2) := H
   have A4 := Aside0.mk A40
   clear A40
   simp only [Option.some.injEq, Prod.mk.injEq] at H
   obtain ⟨rfl, rfl⟩ := H
   go_enter Tryd.func35, Tryd.ntmps35
   go_wp2_with (first | ((with_reducible refine gate_dst (N := 1) rfl ?_); refine box_event ?hg (N := 1) ?hd (cs := #[.int .i64 a0_0, .int .i64 a0_1]) (t := 52) ?hr ?_; (case hd => rfl); (case hg => rfl); (case hr => first | (go_simp; done) | (go_simp; rfl)); intro gb201 hg w5 hbox hb; have BK201 := Aside0.mk (hbox); have GW201 := Aside0.mk ((by rw [hg]; exact (below_size (tH HB)) : w.heap.size ≤ gb201)); have GE201 := Aside0.mk ((by rw [hg]; exact (below_size (tH HB)) : w.heap.size ≤ gb201)); replace HB := Aside0.mk (below_step (tH HB) hb); clear hb hbox hg; have hcz6_0 : w5.cell? ⟨gb201, 0, none⟩ = some (.int .i64 a0_0) := (blk_cell BK201.out 0).trans rfl; have hcz6_1 : w5.cell? ⟨gb201, 1, none⟩ = some (.int .i64 a0_1) := (blk_cell BK201.out 1).trans rfl; have hfz6_0 := blk_frozen BK201.out 0; have hfz6_1 := blk_frozen BK201.out 1) | ((with_reducible refine gate_callee (f := 108) rfl ?_); refine gL_ (some 5) rfl rfl Tryd.func108 #[.agg #[.int .i64 a0_0, .int .i64 a0_1]] rfl ?_; (with_reducible refine (impl_ValidRatio.calls k a0_0 a0_1 true _ A2.out).mono ?_); rintro e w7 ⟨rfl, hb⟩; refine ⟨_, rfl, ?_⟩; replace BK201 := tbB BK201 hb; replace HB := Aside0.mk (below_step (tH1 HB GE201.out) hb); (try clear hb); (try clear hb2); (try clear hk); (try clear hi); have hcz8_0 : w7.cell? ⟨gb201, 0, none⟩ = some (.int .i64 a0_0) := (blk_cell BK201.out 0).trans rfl; have hcz8_1 : w7.cell? ⟨gb201, 1, none⟩ = some (.int .i64 a0_1) := (blk_cell BK201.out 1).trans rfl; have hfz8_0 := blk_frozen BK201.out 0; have hfz8_1 := blk_frozen BK201.out 1) | ((with_reducible refine gate_callee (f := 109) rfl ?_); refine gL_ (some 8) rfl rfl Tryd.func109 #[.agg #[.int .i64 a0_0, .int .i64 a0_1]] rfl ?_; (with_reducible refine (impl_Ratio_cents.calls k a0_0 a0_1 t203 _ ?side1 A4.out).mono ?_); (case side1 => exact tC (Kd.C_below HT.out HB.out)); rintro e w9 ⟨rfl, hb⟩; refine ⟨_, rfl, ?_⟩; replace BK201 := tbB BK201 hb; replace HB := Aside0.mk (below_step (tH1 HB GE201.out) hb); (try clear hb); (try clear hb2); (try clear hk); (try clear hi)))
   go_ret2
   exact ⟨tE, tH1 HB GE201.out⟩
 replace c3 := Bool.eq_false_iff.mpr c3
 subst c3
 have H1 : (some (0, 1)) = some (r1, r2) := by rw [if_neg (show ¬ (false = true) by decide)] at H; exact H
 clear H
 have H := H1
 clear H1
 simp only [Option.some.injEq, Prod.mk.injEq] at H
 obtain ⟨rfl, rfl⟩ := H
 go_enter Tryd.func35, Tryd.ntmps35
 go_wp2_with (first | ((with_reducible refine gate_dst (N := 1) rfl ?_); refine box_event ?hg (N := 1) ?hd (cs := #[.int .i64 a0_0, .int .i64 a0_1]) (t := 52) ?hr ?_; (case hd => rfl); (case hg => rfl); (case hr => first | (go_simp; done) | (go_simp; rfl)); intro gb201 hg w10 hbox hb; have BK201 := Aside0.mk (hbox); have GW201 := Aside0.mk ((by rw [hg]; exact (below_size (tH HB)) : w.heap.size ≤ gb201)); have GE201 := Aside0.mk ((by rw [hg]; exact (below_size (tH HB)) : w.heap.size ≤ gb201)); replace HB := Aside0.mk (below_step (tH HB) hb); clear hb hbox hg; have hcz11_0 : w10.cell? ⟨gb201, 0, none⟩ = some (.int .i64 a0_0) := (blk_cell BK201.out 0).trans rfl; have hcz11_1 : w10.cell? ⟨gb201, 1, none⟩ = some (.int .i64 a0_1) := (blk_cell BK201.out 1).trans rfl; have hfz11_0 := blk_frozen BK201.out 0; have hfz11_1 := blk_frozen BK201.out 1) | ((with_reducible refine gate_callee (f := 108) rfl ?_); refine gL_ (some 5) rfl rfl Tryd.func108 #[.agg #[.int .i64 a0_0, .int .i64 a0_1]] rfl ?_; (with_reducible refine (impl_ValidRatio.calls k a0_0 a0_1 false _ A2.out).mono ?_); rintro e w12 ⟨rfl, hb⟩; refine ⟨_, rfl, ?_⟩; replace BK201 := tbB BK201 hb; replace HB := Aside0.mk (below_step (tH1 HB GE201.out) hb); (try clear hb); (try clear hb2); (try clear hk); (try clear hi)))
 go_ret2
 exact ⟨tE, tH1 HB GE201.out⟩

/-! ### cmp_isNaN_int64: function 204 -/
def cmp_isNaN_int64.f (a0 : Int) : Option (Bool) := some (a0 != a0)
set_option maxHeartbeats 8000000 in
set_option maxRecDepth 100000 in
theorem cmp_isNaN_int64.calls (a0 : Int) (r : Bool) (w : World) (h : cmp_isNaN_int64.f a0 = some r) :
 Calls Tryd.prog 204 #[.int .i64 a0] w fun e w' => e = .returned (.bool r) ∧ Drawn0 w w' := by
 have H : (some (a0 != a0)) = some r := h
 clear h
 obtain rfl := Option.some.inj H
 go_enter Tryd.func204, Tryd.ntmps204
 go_wp2
 go_ret
 exact ⟨by first | rfl | (simp; done) | (simp [*]; done), tZ⟩

/-! ### cmp_Compare_int64: function 168 -/
def cmp_Compare_int64.f (a0 : Int) (a1 : Int) : Option (Int) := (cmp_isNaN_int64.f a0).bind fun t204 => ((cmp_isNaN_int64.f a1).bind fun t205 => (if t204 = true then (if t205 = true then (some 0) else (some (-1))) else (if t205 = true then (some 1) else (if a0 < a1 then (some (-1)) else (if a0 > a1 then (some 1) else (some 0))))))
set_option maxHeartbeats 8000000 in
set_option maxRecDepth 100000 in
theorem cmp_Compare_int64.calls (a0 : Int) (a1 : Int) (r : Int) (w : World) (h : cmp_Compare_int64.f a0 a1 = some r) :
 Calls Tryd.prog 168 #[.int .i64 a0, .int .i64 a1] w fun e w' => e = .returned (.int .i64 r) ∧ Drawn0 w w' := by
 have H : ((cmp_isNaN_int64.f a0).bind fun t204 => ((cmp_isNaN_int64.f a1).bind fun t205 => (if t204 = true then (if t205 = true then (some 0) else (some (-1))) else (if t205 = true then (some 1) else (if a0 < a1 then (some (-1)) else (if a0 > a1 then (some 1) else (some 0))))))) = some r := h
 clear h
 replace H := Option.bind_eq_some_iff.mp H
 obtain ⟨t204, A30, H⟩ := H
 replace H : ((cmp_isNaN_int64.f a1).bind fun t205 => (if t204 = true then (if t205 = true then (some 0) else (some (-1))) else (if t205 = true then (some 1) else (if a0 < a1 then (some (-1)) else (if a0 > a1 then (some 1) else (some 0)))))) = some r := H
 have A3 := Aside0.mk A30
 clear A30
 replace H := Option.bind_eq_some_iff.mp H
 obtain ⟨t205, A40, H⟩ := H
 replace H : (if t204 = true then (if t205 = true then (some 0) else (some (-1))) else (if t205 = true then (some 1) else (if a0 < a1 then (some (-1)) else (if a0 > a1 then (some 1) else (some 0))))) = some r := H
 have A4 := Aside0.mk A40
 clear A40
 by_cases c5 : t204 = true
 · subst c5
   have H1 : (if t205 = true then (some 0) else (some (-1))) = some r := by rw [if_pos rfl] at H; exact H
   clear H
   have H := H1
   clear H1
   by_cases c6 : t205 = true
   · subst c6
     have H1 : (some 0) = some r := by rw [if_pos rfl] at H; exact H
     clear H
     have H := H1
     clear H1
     obtain rfl := Option.some.inj H
     go_enter Tryd.func168, Tryd.ntmps168
     go_wp2_with (first | ((with_reducible refine gate_callee (f := 204) rfl ?_); refine gL_ (some 8) rfl rfl Tryd.func204 #[.int .i64 a0] rfl ?_; (with_reducible refine (cmp_isNaN_int64.calls a0 true _ A3.out).mono ?_); rintro e w' ⟨rfl, ⟨nd, rfl⟩⟩; refine ⟨_, rfl, ?_⟩) | ((with_reducible refine gate_callee (f := 204) rfl ?_); refine gL_ (some 10) rfl rfl Tryd.func204 #[.int .i64 a1] rfl ?_; (with_reducible refine (cmp_isNaN_int64.calls a1 true _ A4.out).mono ?_); rintro e w' ⟨rfl, ⟨nd, rfl⟩⟩; refine ⟨_, rfl, ?_⟩))
     go_ret
     exact ⟨by first | rfl | (simp; done) | (simp [*]; done), tZ⟩
   replace c6 := Bool.eq_false_iff.mpr c6
   subst c6
   have H1 : (some (-1)) = some r := by rw [if_neg (show ¬ (false = true) by decide)] at H; exact H
   clear H
   have H := H1
   clear H1
   obtain rfl := Option.some.inj H
   go_enter Tryd.func168, Tryd.ntmps168
   go_wp2_with (first | ((with_reducible refine gate_callee (f := 204) rfl ?_); refine gL_ (some 8) rfl rfl Tryd.func204 #[.int .i64 a0] rfl ?_; (with_reducible refine (cmp_isNaN_int64.calls a0 true _ A3.out).mono ?_); rintro e w' ⟨rfl, ⟨nd, rfl⟩⟩; refine ⟨_, rfl, ?_⟩) | ((with_reducible refine gate_callee (f := 204) rfl ?_); refine gL_ (some 10) rfl rfl Tryd.func204 #[.int .i64 a1] rfl ?_; (with_reducible refine (cmp_isNaN_int64.calls a1 false _ A4.out).mono ?_); rintro e w' ⟨rfl, ⟨nd, rfl⟩⟩; refine ⟨_, rfl, ?_⟩))
   go_ret
   exact ⟨by first | rfl | (simp; done) | (simp [*]; done), tZ⟩
 replace c5 := Bool.eq_false_iff.mpr c5
 subst c5
 have H1 : (if t205 = true then (some 1) else (if a0 < a1 then (some (-1)) else (if a0 > a1 then (some 1) else (some 0)))) = some r := by rw [if_neg (show ¬ (false = true) by decide)] at H; exact H
 clear H
 have H := H1
 clear H1
 by_cases c7 : t205 = true
 · subst c7
   have H1 : (some 1) = some r := by rw [if_pos rfl] at H; exact H
   clear H
   have H := H1
   clear H1
   obtain rfl := Option.some.inj H
   go_enter Tryd.func168, Tryd.ntmps168
   go_wp2_with (first | ((with_reducible refine gate_callee (f := 204) rfl ?_); refine gL_ (some 8) rfl rfl Tryd.func204 #[.int .i64 a0] rfl ?_; (with_reducible refine (cmp_isNaN_int64.calls a0 false _ A3.out).mono ?_); rintro e w' ⟨rfl, ⟨nd, rfl⟩⟩; refine ⟨_, rfl, ?_⟩) | ((with_reducible refine gate_callee (f := 204) rfl ?_); refine gL_ (some 10) rfl rfl Tryd.func204 #[.int .i64 a1] rfl ?_; (with_reducible refine (cmp_isNaN_int64.calls a1 true _ A4.out).mono ?_); rintro e w' ⟨rfl, ⟨nd, rfl⟩⟩; refine ⟨_, rfl, ?_⟩))
   go_ret
   exact ⟨by first | rfl | (simp; done) | (simp [*]; done), tZ⟩
 replace c7 := Bool.eq_false_iff.mpr c7
 subst c7
 have H1 : (if a0 < a1 then (some (-1)) else (if a0 > a1 then (some 1) else (some 0))) = some r := by rw [if_neg (show ¬ (false = true) by decide)] at H; exact H
 clear H
 have H := H1
 clear H1
 by_cases c8 : a0 < a1
 · rw [if_pos c8] at H
   have c8b0 : decide (a0 < a1) = true := decide_eq_true c8
   clear c8
   obtain rfl := Option.some.inj H
   go_enter Tryd.func168, Tryd.ntmps168
   go_wp2_with (first | ((with_reducible refine gate_callee (f := 204) rfl ?_); refine gL_ (some 8) rfl rfl Tryd.func204 #[.int .i64 a0] rfl ?_; (with_reducible refine (cmp_isNaN_int64.calls a0 false _ A3.out).mono ?_); rintro e w' ⟨rfl, ⟨nd, rfl⟩⟩; refine ⟨_, rfl, ?_⟩) | ((with_reducible refine gate_callee (f := 204) rfl ?_); refine gL_ (some 10) rfl rfl Tryd.func204 #[.int .i64 a1] rfl ?_; (with_reducible refine (cmp_isNaN_int64.calls a1 false _ A4.out).mono ?_); rintro e w' ⟨rfl, ⟨nd, rfl⟩⟩; refine ⟨_, rfl, ?_⟩))
   go_ret
   exact ⟨by first | rfl | (simp; done) | (simp [*]; done), tZ⟩
 rw [if_neg c8] at H
 have c8b0 : decide (a0 < a1) = false := decide_eq_false c8
 clear c8
 by_cases c9 : a0 > a1
 · rw [if_pos c9] at H
   have c9b0 : decide (a1 < a0) = true := decide_eq_true c9
   clear c9
   obtain rfl := Option.some.inj H
   go_enter Tryd.func168, Tryd.ntmps168
   go_wp2_with (first | ((with_reducible refine gate_callee (f := 204) rfl ?_); refine gL_ (some 8) rfl rfl Tryd.func204 #[.int .i64 a0] rfl ?_; (with_reducible refine (cmp_isNaN_int64.calls a0 false _ A3.out).mono ?_); rintro e w' ⟨rfl, ⟨nd, rfl⟩⟩; refine ⟨_, rfl, ?_⟩) | ((with_reducible refine gate_callee (f := 204) rfl ?_); refine gL_ (some 10) rfl rfl Tryd.func204 #[.int .i64 a1] rfl ?_; (with_reducible refine (cmp_isNaN_int64.calls a1 false _ A4.out).mono ?_); rintro e w' ⟨rfl, ⟨nd, rfl⟩⟩; refine ⟨_, rfl, ?_⟩))
   go_ret
   exact ⟨by first | rfl | (simp; done) | (simp [*]; done), tZ⟩
 rw [if_neg c9] at H
 have c9b0 : decide (a1 < a0) = false := decide_eq_false c9
 clear c9
 obtain rfl := Option.some.inj H
 go_enter Tryd.func168, Tryd.ntmps168
 go_wp2_with (first | ((with_reducible refine gate_callee (f := 204) rfl ?_); refine gL_ (some 8) rfl rfl Tryd.func204 #[.int .i64 a0] rfl ?_; (with_reducible refine (cmp_isNaN_int64.calls a0 false _ A3.out).mono ?_); rintro e w' ⟨rfl, ⟨nd, rfl⟩⟩; refine ⟨_, rfl, ?_⟩) | ((with_reducible refine gate_callee (f := 204) rfl ?_); refine gL_ (some 10) rfl rfl Tryd.func204 #[.int .i64 a1] rfl ?_; (with_reducible refine (cmp_isNaN_int64.calls a1 false _ A4.out).mono ?_); rintro e w' ⟨rfl, ⟨nd, rfl⟩⟩; refine ⟨_, rfl, ?_⟩))
 go_ret
 exact ⟨by first | rfl | (simp; done) | (simp [*]; done), tZ⟩

/-! ### impl_Ratio_compare: function 110 -/
def impl_Ratio_compare.f (a0_0 : Int) (a0_1 : Int) (a1_0 : Int) (a1_1 : Int) : Option (Int) := (cmp_Compare_int64.f (wrap64 (a0_0 * a1_1)) (wrap64 (a1_0 * a0_1))).bind fun t208 => (some t208)
set_option maxHeartbeats 8000000 in
set_option maxRecDepth 100000 in
theorem impl_Ratio_compare.calls (a0_0 : Int) (a0_1 : Int) (a1_0 : Int) (a1_1 : Int) (r : Int) (w : World) (h : impl_Ratio_compare.f a0_0 a0_1 a1_0 a1_1 = some r) :
 Calls Tryd.prog 110 #[.agg #[.int .i64 a0_0, .int .i64 a0_1], .agg #[.int .i64 a1_0, .int .i64 a1_1]] w fun e w' => e = .returned (.int .i64 r) ∧ Below w.heap.size w w' := by
 have hu52 := Tryd.underlying52
 have HB := Aside0.mk (Below.refl w.heap.size w)
 have H : ((cmp_Compare_int64.f (wrap64 (a0_0 * a1_1)) (wrap64 (a1_0 * a0_1))).bind fun t208 => (some t208)) = some r := h
 clear h
 replace H := Option.bind_eq_some_iff.mp H
 obtain ⟨t208, A30, H⟩ := H
 replace H : (some t208) = some r := H
 have A3 := Aside0.mk A30
 clear A30
 obtain rfl := Option.some.inj H
 go_enter Tryd.func110, Tryd.ntmps110
 go_wp2_with (first | ((with_reducible refine gate_dst (N := 2) rfl ?_); refine box_event ?hg (N := 2) ?hd (cs := #[.int .i64 a0_0, .int .i64 a0_1]) (t := 52) ?hr ?_; (case hd => rfl); (case hg => rfl); (case hr => first | (go_simp; done) | (go_simp; rfl)); intro gb206 hg w4 hbox hb; have BK206 := Aside0.mk (hbox); have GW206 := Aside0.mk ((by rw [hg]; exact (below_size (tH HB)) : w.heap.size ≤ gb206)); have GE206 := Aside0.mk ((by rw [hg]; exact (below_size (tH HB)) : w.heap.size ≤ gb206)); replace HB := Aside0.mk (below_step (tH HB) hb); clear hb hbox hg) | ((with_reducible refine gate_dst (N := 3) rfl ?_); refine box_event ?hg (N := 3) ?hd (cs := #[.int .i64 a1_0, .int .i64 a1_1]) (t := 52) ?hr ?_; (case hd => rfl); (case hg => rfl); (case hr => first | (go_simp; done) | (go_simp; rfl)); intro gb207 hg w5 hbox hb; have BK207 := Aside0.mk (hbox); have GW207 := Aside0.mk ((by rw [hg]; exact (below_size (tH1 HB GE206.out)) : w.heap.size ≤ gb207)); have GE207 := Aside0.mk ((by rw [hg]; exact (below_size (tH1 HB GE206.out)) : w.heap.size ≤ gb207)); replace HB := Aside0.mk (below_step (tH1 HB GE206.out) hb); have NB206_207 := Aside0.mk ((by rw [hg]; exact Nat.ne_of_lt (blk_lt (g := gb206) (o := .cells #[.int .i64 a0_0, .int .i64 a0_1] 52 (0, 0)) (tB BK206)) : gb206 ≠ gb207)); have NB207_206 := Aside0.mk ((by rw [hg]; exact Nat.ne_of_gt (blk_lt (g := gb206) (o := .cells #[.int .i64 a0_0, .int .i64 a0_1] 52 (0, 0)) (tB BK206)) : gb207 ≠ gb206)); replace BK206 := tbB BK206 hb; clear hb hbox hg; have hnb6 := NB206_207.out; have hnc6 := NB207_206.out; have hcz7_0 : w5.cell? ⟨gb206, 0, none⟩ = some (.int .i64 a0_0) := (blk_cell BK206.out 0).trans rfl; have hcz7_1 : w5.cell? ⟨gb206, 1, none⟩ = some (.int .i64 a0_1) := (blk_cell BK206.out 1).trans rfl; have hfz7_0 := blk_frozen BK206.out 0; have hfz7_1 := blk_frozen BK206.out 1; have hcz8_0 : w5.cell? ⟨gb207, 0, none⟩ = some (.int .i64 a1_0) := (blk_cell BK207.out 0).trans rfl; have hcz8_1 : w5.cell? ⟨gb207, 1, none⟩ = some (.int .i64 a1_1) := (blk_cell BK207.out 1).trans rfl; have hfz8_0 := blk_frozen BK207.out 0; have hfz8_1 := blk_frozen BK207.out 1) | ((with_reducible refine gate_callee (f := 168) rfl ?_); refine gL_ (some 15) rfl rfl Tryd.func168 #[.int .i64 (wrap64 (a0_0 * a1_1)), .int .i64 (wrap64 (a1_0 * a0_1))] rfl ?_; (with_reducible refine (cmp_Compare_int64.calls (wrap64 (a0_0 * a1_1)) (wrap64 (a1_0 * a0_1)) t208 _ A3.out).mono ?_); rintro e w' ⟨rfl, ⟨nd, rfl⟩⟩; refine ⟨_, rfl, ?_⟩))
 go_ret
 exact ⟨tE, tH2 HB GE206.out GE207.out⟩

/-! ### impl_CompareRatios: function 36 -/
def impl_CompareRatios.f (k : Nat) (a0_0 : Int) (a0_1 : Int) (a1_0 : Int) (a1_1 : Int) : Option (Int × Int) := (impl_ValidRatio.f k a0_0 a0_1).bind fun t211 => (if t211 = true then ((impl_ValidRatio.f k a1_0 a1_1).bind fun t212 => (if t212 = true then ((impl_Ratio_compare.f a0_0 a0_1 a1_0 a1_1).bind fun t213 => (some (t213, 0))) else (some (0, 1)))) else (some (0, 1)))
theorem impl_CompareRatios.mono : ∀ a0 a1 a2 a3 k, LeO (impl_CompareRatios.f k a0 a1 a2 a3) (impl_CompareRatios.f (k + 1) a0 a1 a2 a3) := by
 intro a0 a1 a2 a3 k
 unfold impl_CompareRatios.f
 repeat' first
  | (with_reducible exact impl_ValidRatio.mono _ _ _)
  | (with_reducible exact LeO.refl _)
  | (with_reducible exact LeO.none _)
  | (with_reducible refine LeO.ite ?_ ?_)
  | (with_reducible refine LeO.bind ?_ (fun _ => ?_))
  | exact impl_ValidRatio.mono _ _ _
  | exact LeO.none _
  | refine LeO.ite ?_ ?_
  | refine LeO.bind ?_ (fun _ => ?_)
set_option maxHeartbeats 8000000 in
set_option maxRecDepth 100000 in
theorem impl_CompareRatios.calls (k : Nat) (a0_0 : Int) (a0_1 : Int) (a1_0 : Int) (a1_1 : Int) (r1 : Int) (r2 : Int) (w : World) (h : impl_CompareRatios.f k a0_0 a0_1 a1_0 a1_1 = some (r1, r2)) :
 Calls Tryd.prog 36 #[.agg #[.int .i64 a0_0, .int .i64 a0_1], .agg #[.int .i64 a1_0, .int .i64 a1_1]] w fun e w' => e = .returned (.tuple #[.int .i64 r1, .int .i64 r2]) ∧ Below w.heap.size w w' := by
 have hu52 := Tryd.underlying52
 have HB := Aside0.mk (Below.refl w.heap.size w)
 have H : ((impl_ValidRatio.f k a0_0 a0_1).bind fun t211 => (if t211 = true then ((impl_ValidRatio.f k a1_0 a1_1).bind fun t212 => (if t212 = true then ((impl_Ratio_compare.f a0_0 a0_1 a1_0 a1_1).bind fun t213 => (some (t213, 0))) else (some (0, 1)))) else (some (0, 1)))) = some (r1, r2) := h
 clear h
 replace H := Option.bind_eq_some_iff.mp H
 obtain ⟨t211, A30, H⟩ := H
 replace H : (if t211 = true then ((impl_ValidRatio.f k a1_0 a1_1).bind fun t212 => (if t212 = true then ((impl_Ratio_compare.f a0_0 a0_1 a1_0 a1_1).bind fun t213 => (some (t213, 0))) else (some (0, 1)))) else (some (0, 1))) = some (r1, r2) := H
 have A3 := Aside0.mk A30
 clear A30
 by_cases c4 : t211 = true
 · subst c4
   have H1 : ((impl_ValidRatio.f k a1_0 a1_1).bind fun t212 => (if t212 = true then ((impl_Ratio_compare.f a0_0 a0_1 a1_0 a1_1).bind fun t213 => (some (t213, 0))) else (some (0, 1)))) = some (r1, r2) := by rw [if_pos rfl] at H; exact H
   clear H
   have H := H1
   clear H1
   replace H := Option.bind_eq_some_iff.mp H
   obtain ⟨t212, A50, H⟩ := H
   replace H : (if t212 = true then ((impl_Ratio_compare.f a0_0 a0_1 a1_0 a1_1).bind fun t213 => (some (t213, 0))) else (some (0, 1))) = some (r1, r2) := H
   have A5 := Aside0.mk A50
   clear A50
   by_cases c6 : t212 = true
   · subst c6
     have H1 : ((impl_Ratio_compare.f a0_0 a0_1 a1_0 a1_1).bind fun t213 => (some (t213, 0))) = some (r1, r2) := by rw [if_pos rfl] at H; exact H
     clear H
     have H := H1
     clear H1
     replace H := Option.bind_eq_some_iff.mp H
     obtain ⟨t213, A70, H⟩ := H
     replace H : (some (t213, 0)) = some (r1, r2) := H
     have A7 := Aside0.mk A70
     clear A70
     simp only [Option.some.injEq, Prod.mk.injEq] at H
     obtain ⟨rfl, rfl⟩ := H
     go_enter Tryd.func36, Tryd.ntmps36
     go_wp2_with (first | ((with_reducible refine gate_dst (N := 2) rfl ?_); refine box_event ?hg (N := 2) ?hd (cs := #[.int .i64 a0_0, .int .i64 a0_1]) (t := 52) ?hr ?_; (case hd => rfl); (case hg => rfl); (case hr => first | (go_simp; done) | (go_simp; rfl)); intro gb209 hg w8 hbox hb; have BK209 := Aside0.mk (hbox); have GW209 := Aside0.mk ((by rw [hg]; exact (below_size (tH HB)) : w.heap.size ≤ gb209)); have GE209 := Aside0.mk ((by rw [hg]; exact (below_size (tH HB)) : w.heap.size ≤ gb209)); replace HB := Aside0.mk (below_step (tH HB) hb); clear hb hbox hg) | ((with_reducible refine gate_dst (N := 3) rfl ?_); refine box_event ?hg (N := 3) ?hd (cs := #[.int .i64 a1_0, .int .i64 a1_1]) (t := 52) ?hr ?_; (case hd => rfl); (case hg => rfl); (case hr => first | (go_simp; done) | (go_simp; rfl)); intro gb210 hg w9 hbox hb; have BK210 := Aside0.mk (hbox); have GW210 := Aside0.mk ((by rw [hg]; exact (below_size (tH1 HB GE209.out)) : w.heap.size ≤ gb210)); have GE210 := Aside0.mk ((by rw [hg]; exact (below_size (tH1 HB GE209.out)) : w.heap.size ≤ gb210)); replace HB := Aside0.mk (below_step (tH1 HB GE209.out) hb); have NB209_210 := Aside0.mk ((by rw [hg]; exact Nat.ne_of_lt (blk_lt (g := gb209) (o := .cells #[.int .i64 a0_0, .int .i64 a0_1] 52 (0, 0)) (tB BK209)) : gb209 ≠ gb210)); have NB210_209 := Aside0.mk ((by rw [hg]; exact Nat.ne_of_gt (blk_lt (g := gb209) (o := .cells #[.int .i64 a0_0, .int .i64 a0_1] 52 (0, 0)) (tB BK209)) : gb210 ≠ gb209)); replace BK209 := tbB BK209 hb; clear hb hbox hg; have hnb10 := NB209_210.out; have hnc10 := NB210_209.out; have hcz11_0 : w9.cell? ⟨gb209, 0, none⟩ = some (.int .i64 a0_0) := (blk_cell BK209.out 0).trans rfl; have hcz11_1 : w9.cell? ⟨gb209, 1, none⟩ = some (.int .i64 a0_1) := (blk_cell BK209.out 1).trans rfl; have hfz11_0 := blk_frozen BK209.out 0; have hfz11_1 := blk_frozen BK209.out 1) | ((with_reducible refine gate_callee (f := 108) rfl ?_); refine gL_ (some 7) rfl rfl Tryd.func108 #[.agg #[.int .i64 a0_0, .int .i64 a0_1]] rfl ?_; (with_reducible refine (impl_ValidRatio.calls k a0_0 a0_1 true _ A3.out).mono ?_); rintro e w12 ⟨rfl, hb⟩; refine ⟨_, rfl, ?_⟩; replace BK209 := tbB BK209 hb; replace BK210 := tbB BK210 hb; replace HB := Aside0.mk (below_step (tH2 HB GE209.out GE210.out) hb); (try clear hb); (try clear hb2); (try clear hk); (try clear hi); have hcz13_0 : w12.cell? ⟨gb210, 0, none⟩ = some (.int .i64 a1_0) := (blk_cell BK210.out 0).trans rfl; have hcz13_1 : w12.cell? ⟨gb210, 1, none⟩ = some (.int .i64 a1_1) := (blk_cell BK210.out 1).trans rfl; have hfz13_0 := blk_frozen BK210.out 0; have hfz13_1 := blk_frozen BK210.out 1) | (go_at_call 108; (with_reducible refine (impl_ValidRatio.calls k a1_0 a1_1 true _ A5.out).mono ?_); rintro e w14 ⟨rfl, hb⟩; replace BK209 := tbB BK209 hb; replace BK210 := tbB BK210 hb; replace HB := Aside0.mk (below_step (tH2 HB GE209.out GE210.out) hb); (try clear hb); (try clear hb2); (try clear hk); (try clear hi); have hcz15_0 : w14.cell? ⟨gb209, 0, none⟩ = some (.int .i64 a0_0) := (blk_cell BK209.out 0).trans rfl; have hcz15_1 : w14.cell? ⟨gb209, 1, none⟩ = some (.int .i64 a0_1) := (blk_cell BK209.out 1).trans rfl; have hfz15_0 := blk_frozen BK209.out 0; have hfz15_1 := blk_frozen BK209.out 1; have hcz16_0 : w14.cell? ⟨gb210, 0, none⟩ = some (.int .i64 a1_0) := (blk_cell BK210.out 0).trans rfl; have hcz16_1 : w14.cell? ⟨gb210, 1, none⟩ = some (.int .i64 a1_1) := (blk_cell BK210.out 1).trans rfl; have hfz16_0 := blk_frozen BK210.out 0; have hfz16_1 := blk_frozen BK210.out 1) | ((with_reducible refine gate_callee (f := 110) rfl ?_); refine gL_ (some 16) rfl rfl Tryd.func110 #[.agg #[.int .i64 a0_0, .int .i64 a0_1], .agg #[.int .i64 a1_0, .int .i64 a1_1]] rfl ?_; (with_reducible refine (impl_Ratio_compare.calls a0_0 a0_1 a1_0 a1_1 t213 _ A7.out).mono ?_); rintro e w17 ⟨rfl, hb⟩; refine ⟨_, rfl, ?_⟩; replace BK209 := tbB BK209 hb; replace BK210 := tbB BK210 hb; replace HB := Aside0.mk (below_step (tH2 HB GE209.out GE210.out) hb); (try clear hb); (try clear hb2); (try clear hk); (try clear hi)))
     go_ret2
     exact ⟨tE, tH2 HB GE209.out GE210.out⟩
   replace c6 := Bool.eq_false_iff.mpr c6
   subst c6
   have H1 : (some (0, 1)) = some (r1, r2) := by rw [if_neg (show ¬ (false = true) by decide)] at H; exact H
   clear H
   have H := H1
   clear H1
   simp only [Option.some.injEq, Prod.mk.injEq] at H
   obtain ⟨rfl, rfl⟩ := H
   go_enter Tryd.func36, Tryd.ntmps36
   go_wp2_with (first | ((with_reducible refine gate_dst (N := 2) rfl ?_); refine box_event ?hg (N := 2) ?hd (cs := #[.int .i64 a0_0, .int .i64 a0_1]) (t := 52) ?hr ?_; (case hd => rfl); (case hg => rfl); (case hr => first | (go_simp; done) | (go_simp; rfl)); intro gb209 hg w18 hbox hb; have BK209 := Aside0.mk (hbox); have GW209 := Aside0.mk ((by rw [hg]; exact (below_size (tH HB)) : w.heap.size ≤ gb209)); have GE209 := Aside0.mk ((by rw [hg]; exact (below_size (tH HB)) : w.heap.size ≤ gb209)); replace HB := Aside0.mk (below_step (tH HB) hb); clear hb hbox hg) | ((with_reducible refine gate_dst (N := 3) rfl ?_); refine box_event ?hg (N := 3) ?hd (cs := #[.int .i64 a1_0, .int .i64 a1_1]) (t := 52) ?hr ?_; (case hd => rfl); (case hg => rfl); (case hr => first | (go_simp; done) | (go_simp; rfl)); intro gb210 hg w19 hbox hb; have BK210 := Aside0.mk (hbox); have GW210 := Aside0.mk ((by rw [hg]; exact (below_size (tH1 HB GE209.out)) : w.heap.size ≤ gb210)); have GE210 := Aside0.mk ((by rw [hg]; exact (below_size (tH1 HB GE209.out)) : w.heap.size ≤ gb210)); replace HB := Aside0.mk (below_step (tH1 HB GE209.out) hb); have NB209_210 := Aside0.mk ((by rw [hg]; exact Nat.ne_of_lt (blk_lt (g := gb209) (o := .cells #[.int .i64 a0_0, .int .i64 a0_1] 52 (0, 0)) (tB BK209)) : gb209 ≠ gb210)); have NB210_209 := Aside0.mk ((by rw [hg]; exact Nat.ne_of_gt (blk_lt (g := gb209) (o := .cells #[.int .i64 a0_0, .int .i64 a0_1] 52 (0, 0)) (tB BK209)) : gb210 ≠ gb209)); replace BK209 := tbB BK209 hb; clear hb hbox hg; have hnb20 := NB209_210.out; have hnc20 := NB210_209.out; have hcz21_0 : w19.cell? ⟨gb209, 0, none⟩ = some (.int .i64 a0_0) := (blk_cell BK209.out 0).trans rfl; have hcz21_1 : w19.cell? ⟨gb209, 1, none⟩ = some (.int .i64 a0_1) := (blk_cell BK209.out 1).trans rfl; have hfz21_0 := blk_frozen BK209.out 0; have hfz21_1 := blk_frozen BK209.out 1) | ((with_reducible refine gate_callee (f := 108) rfl ?_); refine gL_ (some 7) rfl rfl Tryd.func108 #[.agg #[.int .i64 a0_0, .int .i64 a0_1]] rfl ?_; (with_reducible refine (impl_ValidRatio.calls k a0_0 a0_1 true _ A3.out).mono ?_); rintro e w22 ⟨rfl, hb⟩; refine ⟨_, rfl, ?_⟩; replace BK209 := tbB BK209 hb; replace BK210 := tbB BK210 hb; replace HB := Aside0.mk (below_step (tH2 HB GE209.out GE210.out) hb); (try clear hb); (try clear hb2); (try clear hk); (try clear hi); have hcz23_0 : w22.cell? ⟨gb210, 0, none⟩ = some (.int .i64 a1_0) := (blk_cell BK210.out 0).trans rfl; have hcz23_1 : w22.cell? ⟨gb210, 1, none⟩ = some (.int .i64 a1_1) := (blk_cell BK210.out 1).trans rfl; have hfz23_0 := blk_frozen BK210.out 0; have hfz23_1 := blk_frozen BK210.out 1) | (go_at_call 108; (with_reducible refine (impl_ValidRatio.calls k a1_0 a1_1 false _ A5.out).mono ?_); rintro e w24 ⟨rfl, hb⟩; replace BK209 := tbB BK209 hb; replace BK210 := tbB BK210 hb; replace HB := Aside0.mk (below_step (tH2 HB GE209.out GE210.out) hb); (try clear hb); (try clear hb2); (try clear hk); (try clear hi)))
   go_ret2
   exact ⟨tE, tH2 HB GE209.out GE210.out⟩
 replace c4 := Bool.eq_false_iff.mpr c4
 subst c4
 have H1 : (some (0, 1)) = some (r1, r2) := by rw [if_neg (show ¬ (false = true) by decide)] at H; exact H
 clear H
 have H := H1
 clear H1
 simp only [Option.some.injEq, Prod.mk.injEq] at H
 obtain ⟨rfl, rfl⟩ := H
 go_enter Tryd.func36, Tryd.ntmps36
 go_wp2_with (first | ((with_reducible refine gate_dst (N := 2) rfl ?_); refine box_event ?hg (N := 2) ?hd (cs := #[.int .i64 a0_0, .int .i64 a0_1]) (t := 52) ?hr ?_; (case hd => rfl); (case hg => rfl); (case hr => first | (go_simp; done) | (go_simp; rfl)); intro gb209 hg w25 hbox hb; have BK209 := Aside0.mk (hbox); have GW209 := Aside0.mk ((by rw [hg]; exact (below_size (tH HB)) : w.heap.size ≤ gb209)); have GE209 := Aside0.mk ((by rw [hg]; exact (below_size (tH HB)) : w.heap.size ≤ gb209)); replace HB := Aside0.mk (below_step (tH HB) hb); clear hb hbox hg) | ((with_reducible refine gate_dst (N := 3) rfl ?_); refine box_event ?hg (N := 3) ?hd (cs := #[.int .i64 a1_0, .int .i64 a1_1]) (t := 52) ?hr ?_; (case hd => rfl); (case hg => rfl); (case hr => first | (go_simp; done) | (go_simp; rfl)); intro gb210 hg w26 hbox hb; have BK210 := Aside0.mk (hbox); have GW210 := Aside0.mk ((by rw [hg]; exact (below_size (tH1 HB GE209.out)) : w.heap.size ≤ gb210)); have GE210 := Aside0.mk ((by rw [hg]; exact (below_size (tH1 HB GE209.out)) : w.heap.size ≤ gb210)); replace HB := Aside0.mk (below_step (tH1 HB GE209.out) hb); have NB209_210 := Aside0.mk ((by rw [hg]; exact Nat.ne_of_lt (blk_lt (g := gb209) (o := .cells #[.int .i64 a0_0, .int .i64 a0_1] 52 (0, 0)) (tB BK209)) : gb209 ≠ gb210)); have NB210_209 := Aside0.mk ((by rw [hg]; exact Nat.ne_of_gt (blk_lt (g := gb209) (o := .cells #[.int .i64 a0_0, .int .i64 a0_1] 52 (0, 0)) (tB BK209)) : gb210 ≠ gb209)); replace BK209 := tbB BK209 hb; clear hb hbox hg; have hnb27 := NB209_210.out; have hnc27 := NB210_209.out; have hcz28_0 : w26.cell? ⟨gb209, 0, none⟩ = some (.int .i64 a0_0) := (blk_cell BK209.out 0).trans rfl; have hcz28_1 : w26.cell? ⟨gb209, 1, none⟩ = some (.int .i64 a0_1) := (blk_cell BK209.out 1).trans rfl; have hfz28_0 := blk_frozen BK209.out 0; have hfz28_1 := blk_frozen BK209.out 1) | ((with_reducible refine gate_callee (f := 108) rfl ?_); refine gL_ (some 7) rfl rfl Tryd.func108 #[.agg #[.int .i64 a0_0, .int .i64 a0_1]] rfl ?_; (with_reducible refine (impl_ValidRatio.calls k a0_0 a0_1 false _ A3.out).mono ?_); rintro e w29 ⟨rfl, hb⟩; refine ⟨_, rfl, ?_⟩; replace BK209 := tbB BK209 hb; replace BK210 := tbB BK210 hb; replace HB := Aside0.mk (below_step (tH2 HB GE209.out GE210.out) hb); (try clear hb); (try clear hb2); (try clear hk); (try clear hi)))
 go_ret2
 exact ⟨tE, tH2 HB GE209.out GE210.out⟩

/-! ### spec_DrawOctaveOf: function 37 -/
def spec_DrawOctaveOf.f (k : Nat) (l0 : List Int) : Option (Int × Int) := (spec_l00From.f l0).bind fun bt215 => ((spec_l02Draw.f k bt215.1 bt215.2.1 bt215.2.2).bind fun bt219 => (some (bt219.1, bt219.2.1)))
theorem spec_DrawOctaveOf.mono : ∀ a0 k, LeO (spec_DrawOctaveOf.f k a0) (spec_DrawOctaveOf.f (k + 1) a0) := by
 intro a0 k
 unfold spec_DrawOctaveOf.f
 repeat' first
  | (with_reducible exact spec_l02Draw.mono _ _ _ _)
  | (with_reducible exact LeO.refl _)
  | (with_reducible exact LeO.none _)
  | (with_reducible refine LeO.ite ?_ ?_)
  | (with_reducible refine LeO.bind ?_ (fun _ => ?_))
  | exact spec_l02Draw.mono _ _ _ _
  | exact LeO.none _
  | refine LeO.ite ?_ ?_
  | refine LeO.bind ?_ (fun _ => ?_)
set_option maxHeartbeats 8000000 in
set_option maxRecDepth 100000 in
theorem spec_DrawOctaveOf.calls (k : Nat) (A0 : Option Addr) (c0 : Nat) (l0 : List Int) (r1 : Int) (r2 : Int) (w : World) (hr0 : Kd.C (Kd.int .u8) w A0 l0.length l0) (hc0 : l0.length ≤ c0) (h : spec_DrawOctaveOf.f k l0 = some (r1, r2)) :
 Calls Tryd.prog 37 #[.slice A0 l0.length c0] w fun e w' => e = .returned (.agg #[.int .i64 r1, .int .i64 r2]) ∧ Below w.heap.size w w' := by
 have hu52 := Tryd.underlying52
 have HR0 := Aside0.mk hr0
 have HC0 := Aside0.mk hc0
 clear hr0 hc0
 have HB := Aside0.mk (Below.refl w.heap.size w)
 have H : ((spec_l00From.f l0).bind fun bt215 => ((spec_l02Draw.f k bt215.1 bt215.2.1 bt215.2.2).bind fun bt219 => (some (bt219.1, bt219.2.1)))) = some (r1, r2) := h
 clear h
 replace H := Option.bind_eq_some_iff.mp H
 obtain ⟨⟨t215, t216, t217⟩, A20, H⟩ := H
 replace H : ((spec_l02Draw.f k t215 t216 t217).bind fun bt219 => (some (bt219.1, bt219.2.1))) = some (r1, r2) := H
 have A2 := Aside0.mk A20
 clear A20
 replace H := Option.bind_eq_some_iff.mp H
 obtain ⟨⟨t219, t220, t221, t222⟩, A30, H⟩ := H
 replace H : (some (t219, t220)) = some (r1, r2) := H
 have A3 := Aside0.mk A30
 clear A30
 simp only [Option.some.injEq, Prod.mk.injEq] at H
 obtain ⟨rfl, rfl⟩ := H
 go_enter Tryd.func37, Tryd.ntmps37
 go_wp2_with (first | ((with_reducible refine gate_dst (N := 2) rfl ?_); refine box_event ?hg (N := 2) ?hd (cs := #[.int .i64 0, .int .i64 0]) (t := 52) ?hr ?_; (case hd => rfl); (case hg => rfl); (case hr => first | (go_simp; done) | (go_simp; rfl)); intro gb214 hg w4 hbox hb; have BK214 := Aside0.mk (hbox); have GW214 := Aside0.mk ((by rw [hg]; exact (below_size (tH HB)) : w.heap.size ≤ gb214)); have GE214 := Aside0.mk ((by rw [hg]; exact (below_size (tH HB)) : w.heap.size ≤ gb214)); replace HB := Aside0.mk (below_step (tH HB) hb); clear hb hbox hg) | ((with_reducible refine gate_callee (f := 105) rfl ?_); refine gL_ (some 5) rfl rfl Tryd.func105 #[.slice A0 l0.length c0] rfl ?_; (with_reducible refine (spec_l00From.calls _ _ l0 t215 t216 t217 w _ ?side1 ?side2 ?side3 A2.out).mono ?_); (case side1 => exact tH1 HB GE214.out); (case side2 => exact HR0.out); (case side3 => exact HC0.out); rintro e w5 ⟨g218, rfl, hi, hb, hb2⟩; refine ⟨_, rfl, ?_⟩; replace HB := Aside0.mk (hb); have HI218 := Aside0.mk (hi); have NB218_214 := Aside0.mk (IsS179.ne_blk hi (blk_below (g := gb214) (o := .cells #[.int .i64 0, .int .i64 0] 52 (0, 0)) (tB BK214) hb2) (by decide)); have NB214_218 := Aside0.mk (Ne.symm (IsS179.ne_blk hi (blk_below (g := gb214) (o := .cells #[.int .i64 0, .int .i64 0] 52 (0, 0)) (tB BK214) hb2) (by decide))); replace BK214 := Aside0.mk (blk_below (g := gb214) (o := .cells #[.int .i64 0, .int .i64 0] 52 (0, 0)) (tB BK214) hb2); (try clear hb); (try clear hb2); (try clear hk); (try clear hi)) | ((with_reducible refine gate_callee (f := 106) rfl ?_); refine gL_ (some 7) rfl rfl Tryd.func106 #[.pointer (some ⟨g218, 0, none⟩)] rfl ?_; (with_reducible refine (spec_l02Draw.calls k g218 t215 t216 t217 t219 t220 t221 t222 w _ ?side1 ?side2 A3.out).mono ?_); (case side1 => exact IsS179.t1 HI218 NB218_214); (case side2 => exact tH2 HB (IsS179.ge HI218.out) GE214.out); rintro e w6 ⟨rfl, hi, hb, hk⟩; refine ⟨_, rfl, ?_⟩; replace BK214 := tKB hk BK214 NB214_218.out; replace HB := Aside0.mk (hb); replace HI218 := Aside0.mk (hi); (try clear hb); (try clear hb2); (try clear hk); (try clear hi); have hnb7 := NB214_218.out; have hnc7 := NB218_214.out; have hcz8_0 : w6.cell? ⟨gb214, 0, none⟩ = some (.int .i64 0) := (blk_cell BK214.out 0).trans rfl; have hcz8_1 : w6.cell? ⟨gb214, 1, none⟩ = some (.int .i64 0) := (blk_cell BK214.out 1).trans rfl; have hfz8_0 := blk_frozen BK214.out 0; have hfz8_1 := blk_frozen BK214.out 1))
 refine bodyPost_ret (results_cell_row rfl _ _ gb214 52 #[.int .i64 t219, .int .i64 t220] (0, 0) _ rfl (by (with_reducible repeat (first | refine blk_drewN ?_ _ | refine blk_drew ?_ | refine blk_alloc ?_ _)); refine blk_put (cs := #[.int .i64 t219, .int .i64 0]) ?_ 1 _ rfl; (with_reducible repeat (first | refine blk_drewN ?_ _ | refine blk_drew ?_ | refine blk_alloc ?_ _)); refine blk_put (cs := #[.int .i64 0, .int .i64 0]) ?_ 0 _ rfl; (with_reducible repeat (first | refine blk_drewN ?_ _ | refine blk_drew ?_ | refine blk_alloc ?_ _)); exact BK214.out) Tryd.underlying52 rfl (by kernel_rfl)) rfl ?_
 exact ⟨tE, tH2 HB (IsS179.ge HI218.out) GE214.out⟩

end Go.Proofs.YtmeflmlejcmckaaDoor.PC
