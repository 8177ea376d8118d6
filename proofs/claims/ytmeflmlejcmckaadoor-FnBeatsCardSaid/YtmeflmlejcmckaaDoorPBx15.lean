-- WRITTEN BY wip/gprint.py, a program of this session's over the kit's print, with contracts given by hand
import Derived.Test.YtmeflmlejcmckaaDoorPBx0
import Derived.Test.YtmeflmlejcmckaaDoorPBx1
import Derived.Test.YtmeflmlejcmckaaDoorPBx13
import Derived.Test.YtmeflmlejcmckaaDoorPBx14
namespace Go.Proofs.YtmeflmlejcmckaaDoor.PB
open Go.RowKit Go.Proofs.YtmeflmlejcmckaaDoorW.PrintWords Go.Proofs.YtmeflmlejcmckaaDoorW.PrintLast Go.Proofs.YtmeflmlejcmckaaDoorW.PrintMore
attribute [local go_sem] max2_int min2_int max_two min_two max_three min_three max_four min_four   -- for this text's walks alone
set_option linter.unusedVariables false
set_option linter.unusedSimpArgs false

attribute [local go_sem] isSome_setCell
attribute [local go_sem high] eqA52
/-! ### impl_ValidTuning: function 126 -/
mutual
def impl_ValidTuning.j0 : Nat → Bool → ByteArray → List (S52) → Option (Bool)
 | 0, _, _, _ => none
 | k + 1, x22, x311000, x311001 => if x22 = true then (some false) else (impl_ValidTuning.l0 k x311001 (x311001.length : Int) 0 x311000 x311001)
def impl_ValidTuning.l0 : Nat → List (S52) → Int → Int → ByteArray → List (S52) → Option (Bool)
 | 0, _, _, _, _, _ => none
 | k + 1, x24, x25, x26, x311000, x311001 => if x26 < x25 then (if 0 ≤ x26 then (if x26 < (x24.length : Int) then ((impl_ValidRatio.f k ((rd_T52 x24 x26).f0) ((rd_T52 x24 x26).f1)).bind fun t315 => (if t315 = true then (if ((rd_T52 x24 x26).f0) ≥ (wrap64 (2 * ((rd_T52 x24 x26).f1))) then (some false) else (if x26 > 0 then (if 0 ≤ (wrap64 (x26 - 1)) then (if (wrap64 (x26 - 1)) < (x311001.length : Int) then ((impl_Ratio_compare.f ((rd_T52 x24 x26).f0) ((rd_T52 x24 x26).f1) ((rd_T52 x311001 (wrap64 (x26 - 1))).f0) ((rd_T52 x311001 (wrap64 (x26 - 1))).f1)).bind fun t317 => (if t317 ≤ 0 then (some false) else (impl_ValidTuning.l0 k x24 x25 (wrap64 (x26 + 1)) x311000 x311001))) else (none)) else (none)) else (impl_ValidTuning.l0 k x24 x25 (wrap64 (x26 + 1)) x311000 x311001))) else (some false))) else (none)) else (none)) else (some true)
end
def impl_ValidTuning.f (k : Nat) (a0_0 : ByteArray) (l0_1 : List (S52)) : Option (Bool) := (impl_IsName.f k a0_0).bind fun t311 => (if t311 = true then (if (l0_1.length : Int) = 12 then (if 0 < (l0_1.length : Int) then (impl_ValidTuning.j0 k (!(((rd_T52 l0_1 0).f0) == 1) || (!(((rd_T52 l0_1 0).f1) == 1))) a0_0 l0_1) else (none)) else (impl_ValidTuning.j0 k true a0_0 l0_1)) else (impl_ValidTuning.j0 k true a0_0 l0_1))
theorem impl_ValidTuning.mono_l : ∀ k, (∀ y0 y1 y2, LeO (impl_ValidTuning.j0 k y0 y1 y2) (impl_ValidTuning.j0 (k + 1) y0 y1 y2)) ∧ (∀ y0 y1 y2 y3 y4, LeO (impl_ValidTuning.l0 k y0 y1 y2 y3 y4) (impl_ValidTuning.l0 (k + 1) y0 y1 y2 y3 y4))
 | 0 => ⟨fun _ _ _ r h => by simp [impl_ValidTuning.j0] at h, fun _ _ _ _ _ r h => by simp [impl_ValidTuning.l0] at h⟩
 | k + 1 => by
  obtain ⟨ih0, ih1⟩ := impl_ValidTuning.mono_l k
  refine ⟨?_, ?_⟩
  all_goals (intros; (first | unfold impl_ValidTuning.j0 | unfold impl_ValidTuning.l0); repeat' first
   | (with_reducible exact ih0 _ _ _)
   | (with_reducible exact ih1 _ _ _ _ _)
   | (with_reducible exact impl_IsName.mono _ _)
   | (with_reducible exact impl_ValidRatio.mono _ _ _)
   | (with_reducible exact LeO.refl _)
   | (with_reducible exact LeO.none _)
   | (with_reducible refine LeO.ite ?_ ?_)
   | (with_reducible refine LeO.bind ?_ (fun _ => ?_))
   | exact ih0 _ _ _
   | exact ih1 _ _ _ _ _
   | exact impl_IsName.mono _ _
   | exact impl_ValidRatio.mono _ _ _
   | exact LeO.none _
   | refine LeO.ite ?_ ?_
   | refine LeO.bind ?_ (fun _ => ?_))
theorem impl_ValidTuning.mono : ∀ a0 a1 k, LeO (impl_ValidTuning.f k a0 a1) (impl_ValidTuning.f (k + 1) a0 a1) := by
 intro a0 a1 k
 obtain ⟨ih0, ih1⟩ := impl_ValidTuning.mono_l k
 unfold impl_ValidTuning.f
 repeat' first
  | (with_reducible exact ih0 _ _ _)
  | (with_reducible exact ih1 _ _ _ _ _)
  | (with_reducible exact impl_IsName.mono _ _)
  | (with_reducible exact impl_ValidRatio.mono _ _ _)
  | (with_reducible exact LeO.refl _)
  | (with_reducible exact LeO.none _)
  | (with_reducible refine LeO.ite ?_ ?_)
  | (with_reducible refine LeO.bind ?_ (fun _ => ?_))
  | exact ih0 _ _ _
  | exact ih1 _ _ _ _ _
  | exact impl_IsName.mono _ _
  | exact impl_ValidRatio.mono _ _ _
  | exact LeO.none _
  | refine LeO.ite ?_ ?_
  | refine LeO.bind ?_ (fun _ => ?_)
def impl_ValidTuning.T6 : Bool × List (List Nat × List Nat) := (true, [([], []), ([0], [0]), ([1], [1]), ([2, 1], [2]), ([3], [3]), ([4, 3], [3, 4]), ([3], [3]), ([6, 3], [3, 6]), ([7, 3], [3, 7]), ([5, 8, 3], [3, 5, 8]), ([3, 9], [3, 9]), ([10, 3], [10]), ([11], [11]), ([12, 11], [11, 12]), ([13, 11, 11], [11, 13]), ([14], [14]), ([14], [14]), ([16, 14], [14, 16]), ([14], [14]), ([18, 14], [14, 18]), ([17, 19, 14], [14, 17, 19]), ([20, 14], [14, 20]), ([15, 21, 14, 14], [14, 15, 21]), ([22, 14], [14, 22]), ([14, 23, 11], [11, 14, 23]), ([11, 24], [11, 24])])
def impl_ValidTuning.B6 : List Nat := [0, 1, 3, 7, 15, 31, 15, 79, 207, 511, 1023, 2047, 4095, 8191, 16383, 32767, 32767, 98303, 32767, 294911, 1015807, 2064383, 4194303, 8388607, 16777215, 33554431]
theorem impl_ValidTuning.tab6 : rtab .any (opsOf Tryd.f126 6) = impl_ValidTuning.T6 := by kernel_rfl
theorem impl_ValidTuning.bits6 : waitsOk impl_ValidTuning.T6.2 impl_ValidTuning.B6 = true := by kernel_rfl
set_option maxHeartbeats 8000000 in
set_option maxRecDepth 100000 in
theorem impl_ValidTuning.calls (k : Nat) (a0_0 : ByteArray) (A0_1 : Option Addr) (c0_1 : Nat) (l0_1 : List (S52)) (r : Bool) (w : World) (hr0_1 : Kd.C k52 w A0_1 l0_1.length l0_1) (hc0_1 : l0_1.length ≤ c0_1) (h : impl_ValidTuning.f k a0_0 l0_1 = some r) :
 Calls Tryd.prog 126 #[.agg #[.string a0_0, .slice A0_1 l0_1.length c0_1]] w fun e w' => e = .returned (.bool r) ∧ Below w.heap.size w w' := by
 have hu71 := Tryd.underlying71
 have hu52 := Tryd.underlying52
 have HR0_1 := Aside0.mk hr0_1
 have HC0_1 := Aside0.mk hc0_1
 clear hr0_1 hc0_1
 have HB := Aside0.mk (Below.refl w.heap.size w)
 have H : ((impl_IsName.f k a0_0).bind fun t311 => (if t311 = true then (if (l0_1.length : Int) = 12 then (if 0 < (l0_1.length : Int) then (impl_ValidTuning.j0 k (!(((rd_T52 l0_1 0).f0) == 1) || (!(((rd_T52 l0_1 0).f1) == 1))) a0_0 l0_1) else (none)) else (impl_ValidTuning.j0 k true a0_0 l0_1)) else (impl_ValidTuning.j0 k true a0_0 l0_1))) = some r := h
 clear h
 have HC2 := Aside0.mk H
 clear H
 go_enter Tryd.func126, Tryd.ntmps126
 go_upto_region 1 with (first | ((with_reducible refine gate_dst (N := 1) rfl ?_); (try (refine gate_guard (by rfl) ?_; dsimp only)); refine box_event ?hg (N := 1) ?hd (cs := #[.string a0_0, .slice A0_1 l0_1.length c0_1]) (t := 71) ?hr ?_; (case hd => rfl); (case hg => rfl); (case hr => first | (go_simp; done) | (go_simp; rfl)); intro gb310 hg w3 hbox hb; have BK310 := Aside0.mk (hbox); have GW310 := Aside0.mk ((by rw [hg]; exact (below_size (tH HB)) : w.heap.size ≤ gb310)); have GE310 := Aside0.mk ((by rw [hg]; exact (below_size (tH HB)) : w.heap.size ≤ gb310)); replace HB := Aside0.mk (below_step (tH HB) hb); clear hb hbox hg))
 (try simp only [Act.put, sx0, sx1, sx2])
 go_cut [22] (fun v22 wc => ∃ (kq : Nat) (x22_1 : Bool), v22 = .bool x22_1 ∧ Aside0 (impl_ValidTuning.j0 kq x22_1 a0_0 l0_1 = some r) ∧ Aside0 (kq ≤ k) ∧ Aside0 (wc.heap[gb310]? = some (.cells #[.string a0_0, (.slice A0_1 l0_1.length c0_1)] 71 (0, 0))) ∧ Aside0 (Below w.heap.size w wc))
 case first =>
  have H := HC2.out
  clear HC2
  replace H := Option.bind_eq_some_iff.mp H
  obtain ⟨t311, A40, H⟩ := H
  replace H : (if t311 = true then (if (l0_1.length : Int) = 12 then (if 0 < (l0_1.length : Int) then (impl_ValidTuning.j0 k (!(((rd_T52 l0_1 0).f0) == 1) || (!(((rd_T52 l0_1 0).f1) == 1))) a0_0 l0_1) else (none)) else (impl_ValidTuning.j0 k true a0_0 l0_1)) else (impl_ValidTuning.j0 k true a0_0 l0_1)) = some r := H
  have A4 := Aside0.mk A40
  clear A40
  by_cases c5 : t311 = true
  · subst c5
    have H1 : (if (l0_1.length : Int) = 12 then (if 0 < (l0_1.length : Int) then (impl_ValidTuning.j0 k (!(((rd_T52 l0_1 0).f0) == 1) || (!(((rd_T52 l0_1 0).f1) == 1))) a0_0 l0_1) else (none)) else (impl_ValidTuning.j0 k true a0_0 l0_1)) = some r := by rw [if_pos rfl] at H; exact H
    clear H
    have H := H1
    clear H1
    by_cases c6 : (l0_1.length : Int) = 12
    · rw [if_pos c6] at H
      have c6b0 : ((l0_1.length : Int) == 12) = true := beq_iff_eq.mpr c6
      have c6b1 : ((l0_1.length : Int) != 12) = false := bne_eq_false_iff_eq.mpr c6
      clear c6
      (first | rw [c6b0] | (simp only [i64_w, i32_w]; rw [c6b0]) | skip)
      by_cases c7 : 0 < (l0_1.length : Int)
      · rw [if_pos c7] at H
        have c7b0 : decide (0 < (l0_1.length : Int)) = true := decide_eq_true c7
        have c7b1 : decide (0 < l0_1.length) = true := decide_eq_true (by omega)
        clear c7
        have H' := Aside0.mk H
        clear H
        have hcz8_0 : w3.cell? ⟨gb310, 0, none⟩ = some (.string a0_0) := (blk_cell BK310.out 0).trans rfl
        have hcz8_1 : w3.cell? ⟨gb310, 1, none⟩ = some (.slice A0_1 l0_1.length c0_1) := (blk_cell BK310.out 1).trans rfl
        have hfz8_0 := blk_frozen BK310.out 0
        have hfz8_1 := blk_frozen BK310.out 1
        go_wp2_with (first | ((with_reducible refine gate_callee (f := 159) rfl ?_); refine gL_ (some 7) rfl rfl Tryd.func159 #[.string a0_0] rfl ?_; (with_reducible refine (impl_IsName.calls k a0_0 true _ A4.out).mono ?_); rintro e w' ⟨rfl, ⟨nd, rfl⟩⟩; refine ⟨_, rfl, ?_⟩; have p312 : 0 ≤ (0 : Int) := (by omega); have q312 : 0 < (l0_1.length : Int) := of_decide_eq_true tA; obtain ⟨ad312, e312, hx312_0, hx312_1⟩ := at_T52 HR0_1.out 0 p312 q312; cases e312; have qi312 : (0 < l0_1.length) = True := eq_true (by omega); (try rw [t0n] at hx312_0); (try rw [show 0 * 2 = 0 from rfl] at hx312_0); (try rw [Addr.add_zero'] at hx312_0); (try rw [t0n] at hx312_1); (try rw [show 0 * 2 = 0 from rfl] at hx312_1); (try rw [Addr.add_zero'] at hx312_1); replace hx312_0 := tW HB hx312_0; replace hx312_1 := tW HB hx312_1; replace p312 := eq_true p312; replace q312 := eq_true q312))
        go_meet
        case rel => exact ⟨_, ((!(((rd_T52 l0_1 0).f0) == 1) || (!(((rd_T52 l0_1 0).f1) == 1)))), tq, H', ⟨by first | omega | exact Nat.le_refl _⟩, ⟨tB BK310⟩, ⟨tH1 HB GE310.out⟩⟩
      rw [if_neg c7] at H
      exact absurd H (by simp)
    rw [if_neg c6] at H
    have c6b0 : ((l0_1.length : Int) == 12) = false := beq_eq_false_iff_ne.mpr c6
    have c6b1 : ((l0_1.length : Int) != 12) = true := bne_iff_ne.mpr c6
    (first | rw [c6b0] | (simp only [i64_w, i32_w]; rw [c6b0]) | skip)
    have H' := Aside0.mk H
    clear H
    have hcz9_0 : w3.cell? ⟨gb310, 0, none⟩ = some (.string a0_0) := (blk_cell BK310.out 0).trans rfl
    have hcz9_1 : w3.cell? ⟨gb310, 1, none⟩ = some (.slice A0_1 l0_1.length c0_1) := (blk_cell BK310.out 1).trans rfl
    have hfz9_0 := blk_frozen BK310.out 0
    have hfz9_1 := blk_frozen BK310.out 1
    go_wp2_with (first | ((with_reducible refine gate_callee (f := 159) rfl ?_); refine gL_ (some 7) rfl rfl Tryd.func159 #[.string a0_0] rfl ?_; (with_reducible refine (impl_IsName.calls k a0_0 true _ A4.out).mono ?_); rintro e w' ⟨rfl, ⟨nd, rfl⟩⟩; refine ⟨_, rfl, ?_⟩))
    go_meet
    case rel => exact ⟨_, (true), tq, H', ⟨by first | omega | exact Nat.le_refl _⟩, ⟨tB BK310⟩, ⟨tH1 HB GE310.out⟩⟩
  replace c5 := Bool.eq_false_iff.mpr c5
  subst c5
  have H1 : (impl_ValidTuning.j0 k true a0_0 l0_1) = some r := by rw [if_neg (show ¬ (false = true) by decide)] at H; exact H
  clear H
  have H := H1
  clear H1
  have H' := Aside0.mk H
  clear H
  have hcz10_0 : w3.cell? ⟨gb310, 0, none⟩ = some (.string a0_0) := (blk_cell BK310.out 0).trans rfl
  have hcz10_1 : w3.cell? ⟨gb310, 1, none⟩ = some (.slice A0_1 l0_1.length c0_1) := (blk_cell BK310.out 1).trans rfl
  have hfz10_0 := blk_frozen BK310.out 0
  have hfz10_1 := blk_frozen BK310.out 1
  go_wp2_with (first | ((with_reducible refine gate_callee (f := 159) rfl ?_); refine gL_ (some 7) rfl rfl Tryd.func159 #[.string a0_0] rfl ?_; (with_reducible refine (impl_IsName.calls k a0_0 false _ A4.out).mono ?_); rintro e w' ⟨rfl, ⟨nd, rfl⟩⟩; refine ⟨_, rfl, ?_⟩))
  go_meet
  case rel => exact ⟨_, (true), tq, H', ⟨by first | omega | exact Nat.le_refl _⟩, ⟨tB BK310⟩, ⟨tH1 HB GE310.out⟩⟩
 case rest =>
 clear HC2
 try clear c1
 try clear p2
 try clear p3
 try clear q3
 try clear hx3
 try clear qi3
 try clear c5
 try clear c6
 try clear c6b0
 try clear c6b1
 try clear c7
 try clear c7b0
 try clear c7b1
 try clear hcz10_0 hcz10_1
 try clear hcz8_0 hcz8_1
 try clear hcz9_0 hcz9_1
 try clear hfz10_0 hfz10_1
 try clear hfz8_0 hfz8_1
 try clear hfz9_0 hfz9_1
 try clear hx312_0
 try clear hx312_1
 try clear p312
 try clear q312
 obtain ⟨kq, x22_1, rfl, HA, HJ1, BK310, HB⟩ := hcut
 cases kq with
 | zero => exact absurd HA.out (by simp [impl_ValidTuning.j0])
 | succ kj1 =>
 have H := HA.out
 clear HA
 simp only [impl_ValidTuning.j0] at H
 by_cases c11 : x22_1 = true
 · subst c11
   have H1 : (some false) = some r := by rw [if_pos rfl] at H; exact H
   clear H
   have H := H1
   clear H1
   obtain rfl := Option.some.inj H
   go_wp2
   go_ret
   exact ⟨tE, tH1 HB GE310.out⟩
 replace c11 := Bool.eq_false_iff.mpr c11
 subst c11
 have H1 : (impl_ValidTuning.l0 kj1 l0_1 (l0_1.length : Int) 0 a0_0 l0_1) = some r := by rw [if_neg (show ¬ (false = true) by decide)] at H; exact H
 clear H
 have H := H1
 clear H1
 have H' := Aside0.mk H
 clear H
 have hcz12_0 : wc.cell? ⟨gb310, 0, none⟩ = some (.string a0_0) := (blk_cell BK310.out 0).trans rfl
 have hcz12_1 : wc.cell? ⟨gb310, 1, none⟩ = some (.slice A0_1 l0_1.length c0_1) := (blk_cell BK310.out 1).trans rfl
 have hfz12_0 := blk_frozen BK310.out 0
 have hfz12_1 := blk_frozen BK310.out 1
 go_wp2
 go_loopg [26] kj1 (fun kq v26 w' => ∃ (x26_2 : Int), v26 = .int .i64 x26_2 ∧ Aside0 (impl_ValidTuning.l0 kq l0_1 (l0_1.length : Int) x26_2 a0_0 l0_1 = some r) ∧ Aside0 (kq ≤ kj1) ∧ Aside0 (w'.heap[gb310]? = some (.cells #[.string a0_0, (.slice A0_1 l0_1.length c0_1)] 71 (0, 0))) ∧ Aside0 (Below w.heap.size w w'))
 case atStart => exact ⟨(0), tq, H', ⟨Nat.le_refl _⟩, ⟨tB BK310⟩, ⟨tH1 HB GE310.out⟩⟩
 case round =>
 clear H'
 try clear c1
 try clear p2
 try clear p3
 try clear q3
 try clear hx3
 try clear qi3
 try clear c5
 try clear c6
 try clear c6b0
 try clear c6b1
 try clear c7
 try clear c7b0
 try clear c7b1
 try clear c11
 try clear c12
 try clear hcz10_0 hcz10_1
 try clear hcz12_0 hcz12_1
 try clear hcz8_0 hcz8_1
 try clear hcz9_0 hcz9_1
 try clear hfz10_0 hfz10_1
 try clear hfz12_0 hfz12_1
 try clear hfz8_0 hfz8_1
 try clear hfz9_0 hfz9_1
 try clear hx312_0
 try clear hx312_1
 try clear p2
 try clear p3
 try clear p312
 try clear q3
 try clear q312
 obtain ⟨x26_2, rfl, HA, HK2, BK310, HB⟩ := hrel
 cases gk with
 | zero => exact absurd HA.out (by simp [impl_ValidTuning.l0])
 | succ k2 =>
 have H := HA.out
 clear HA
 simp only [impl_ValidTuning.l0] at H
 by_cases c13 : x26_2 < (l0_1.length : Int)
 · rw [if_pos c13] at H
   have c13b0 : decide (x26_2 < (l0_1.length : Int)) = true := decide_eq_true c13
   clear c13
   by_cases c14 : 0 ≤ x26_2
   · rw [if_pos c14] at H
     have c14b0 : decide (0 ≤ x26_2) = true := decide_eq_true c14
     clear c14
     by_cases c15 : x26_2 < (l0_1.length : Int)
     · rw [if_pos c15] at H
       have c15b0 : decide (x26_2 < (l0_1.length : Int)) = true := decide_eq_true c15
       clear c15
       replace H := Option.bind_eq_some_iff.mp H
       obtain ⟨t315, A160, H⟩ := H
       replace H : (if t315 = true then (if ((rd_T52 l0_1 x26_2).f0) ≥ (wrap64 (2 * ((rd_T52 l0_1 x26_2).f1))) then (some false) else (if x26_2 > 0 then (if 0 ≤ (wrap64 (x26_2 - 1)) then (if (wrap64 (x26_2 - 1)) < (l0_1.length : Int) then ((impl_Ratio_compare.f ((rd_T52 l0_1 x26_2).f0) ((rd_T52 l0_1 x26_2).f1) ((rd_T52 l0_1 (wrap64 (x26_2 - 1))).f0) ((rd_T52 l0_1 (wrap64 (x26_2 - 1))).f1)).bind fun t317 => (if t317 ≤ 0 then (some false) else (impl_ValidTuning.l0 k2 l0_1 (l0_1.length : Int) (wrap64 (x26_2 + 1)) a0_0 l0_1))) else (none)) else (none)) else (impl_ValidTuning.l0 k2 l0_1 (l0_1.length : Int) (wrap64 (x26_2 + 1)) a0_0 l0_1))) else (some false)) = some r := H
       have A16 := Aside0.mk A160
       clear A160
       by_cases c17 : t315 = true
       · subst c17
         have H1 : (if ((rd_T52 l0_1 x26_2).f0) ≥ (wrap64 (2 * ((rd_T52 l0_1 x26_2).f1))) then (some false) else (if x26_2 > 0 then (if 0 ≤ (wrap64 (x26_2 - 1)) then (if (wrap64 (x26_2 - 1)) < (l0_1.length : Int) then ((impl_Ratio_compare.f ((rd_T52 l0_1 x26_2).f0) ((rd_T52 l0_1 x26_2).f1) ((rd_T52 l0_1 (wrap64 (x26_2 - 1))).f0) ((rd_T52 l0_1 (wrap64 (x26_2 - 1))).f1)).bind fun t317 => (if t317 ≤ 0 then (some false) else (impl_ValidTuning.l0 k2 l0_1 (l0_1.length : Int) (wrap64 (x26_2 + 1)) a0_0 l0_1))) else (none)) else (none)) else (impl_ValidTuning.l0 k2 l0_1 (l0_1.length : Int) (wrap64 (x26_2 + 1)) a0_0 l0_1))) = some r := by rw [if_pos rfl] at H; exact H
         clear H
         have H := H1
         clear H1
         by_cases c18 : ((rd_T52 l0_1 x26_2).f0) ≥ (wrap64 (2 * ((rd_T52 l0_1 x26_2).f1)))
         · rw [if_pos c18] at H
           have c18b0 : decide ((wrap64 (2 * ((rd_T52 l0_1 x26_2).f1))) ≤ ((rd_T52 l0_1 x26_2).f0)) = true := decide_eq_true c18
           clear c18
           obtain rfl := Option.some.inj H
           have p313 : 0 ≤ (x26_2 : Int) := of_decide_eq_true tA
           have q313 : x26_2 < (l0_1.length : Int) := of_decide_eq_true tA
           obtain ⟨ad313, e313, hx313_0, hx313_1⟩ := at_T52 HR0_1.out x26_2 p313 q313
           cases e313
           replace hx313_0 := tW HB hx313_0
           replace hx313_1 := tW HB hx313_1
           replace p313 := eq_true p313
           replace q313 := eq_true q313
           try go_wp2_with (first | ((with_reducible refine gate_dst (N := 4) rfl ?_); (try (refine gate_guard (by rfl) ?_; dsimp only)); refine box_event ?hg (N := 4) ?hd (cs := #[.int .i64 0, .int .i64 0]) (t := 52) ?hr ?_; (case hd => rfl); (case hg => rfl); (case hr => first | (go_simp; done) | (go_simp; rfl)); intro gb314 hg w19 hbox hb; have BK314 := Aside0.mk (hbox); have GW314 := Aside0.mk ((by rw [hg]; exact (below_size (tH1 HB GE310.out)) : w.heap.size ≤ gb314)); have GE314 := Aside0.mk ((by rw [hg]; exact (below_size (tH1 HB GE310.out)) : w.heap.size ≤ gb314)); replace HB := Aside0.mk (below_step (tH1 HB GE310.out) hb); have NB310_314 := Aside0.mk ((by rw [hg]; exact Nat.ne_of_lt (blk_lt (g := gb310) (o := .cells #[.string a0_0, .slice (some ad313) l0_1.length c0_1] 71 (0, 0)) (tB BK310)) : gb310 ≠ gb314)); have NB314_310 := Aside0.mk ((by rw [hg]; exact Nat.ne_of_gt (blk_lt (g := gb310) (o := .cells #[.string a0_0, .slice (some ad313) l0_1.length c0_1] 71 (0, 0)) (tB BK310)) : gb314 ≠ gb310)); replace BK310 := tbB BK310 hb; clear hb hbox hg; have hnb20 := NB314_310.out; have hnc20 := NB310_314.out; have hcz21_0 : w19.cell? ⟨gb314, 0, none⟩ = some (.int .i64 0) := (blk_cell BK314.out 0).trans rfl; have hcz21_1 : w19.cell? ⟨gb314, 1, none⟩ = some (.int .i64 0) := (blk_cell BK314.out 1).trans rfl; have hfz21_0 := blk_frozen BK314.out 0; have hfz21_1 := blk_frozen BK314.out 1))
           have n0_ : Aside0 (((w19.setCell ⟨gb314, 0, none⟩ (.int .i64 ((rd_T52 l0_1 x26_2).f0))).setCell ⟨gb314, 1, none⟩ (.int .i64 ((rd_T52 l0_1 x26_2).f1))).heap[gb310]? = some (.cells #[.string a0_0, .slice (some ad313) l0_1.length c0_1] 71 (0, 0))) := ⟨by (with_reducible repeat (first | refine blk_drewN ?_ _ | refine blk_drew ?_ | refine blk_alloc ?_ _)); refine blk_far ?_ NB310_314.out _; (with_reducible repeat (first | refine blk_drewN ?_ _ | refine blk_drew ?_ | refine blk_alloc ?_ _)); refine blk_far ?_ NB310_314.out _; (with_reducible repeat (first | refine blk_drewN ?_ _ | refine blk_drew ?_ | refine blk_alloc ?_ _)); exact BK310.out⟩
           have n1_ : Aside0 (((w19.setCell ⟨gb314, 0, none⟩ (.int .i64 ((rd_T52 l0_1 x26_2).f0))).setCell ⟨gb314, 1, none⟩ (.int .i64 ((rd_T52 l0_1 x26_2).f1))).heap[gb314]? = some (.cells #[.int .i64 ((rd_T52 l0_1 x26_2).f0), .int .i64 ((rd_T52 l0_1 x26_2).f1)] 52 (0, 0))) := ⟨by (with_reducible repeat (first | refine blk_drewN ?_ _ | refine blk_drew ?_ | refine blk_alloc ?_ _)); refine blk_put (cs := #[.int .i64 ((rd_T52 l0_1 x26_2).f0), .int .i64 0]) ?_ 1 _ rfl; (with_reducible repeat (first | refine blk_drewN ?_ _ | refine blk_drew ?_ | refine blk_alloc ?_ _)); refine blk_put (cs := #[.int .i64 0, .int .i64 0]) ?_ 0 _ rfl; (with_reducible repeat (first | refine blk_drewN ?_ _ | refine blk_drew ?_ | refine blk_alloc ?_ _)); exact BK314.out⟩
           have n2_ : Aside0 (Below w.heap.size w ((w19.setCell ⟨gb314, 0, none⟩ (.int .i64 ((rd_T52 l0_1 x26_2).f0))).setCell ⟨gb314, 1, none⟩ (.int .i64 ((rd_T52 l0_1 x26_2).f1)))) := ⟨tH2 HB GE310.out GE314.out⟩
           (try clear BK310)
           (try clear BK314)
           (try clear HB)
           generalize ((w19.setCell ⟨gb314, 0, none⟩ (.int .i64 ((rd_T52 l0_1 x26_2).f0))).setCell ⟨gb314, 1, none⟩ (.int .i64 ((rd_T52 l0_1 x26_2).f1))) = w22 at n0_ n1_ n2_ ⊢
           have BK310 := n0_
           have BK314 := n1_
           have HB := n2_
           clear n0_ n1_ n2_
           replace BK310 := Aside0.mk (blk_drew BK310.out)
           replace BK314 := Aside0.mk (blk_drew BK314.out)
           replace HB := Aside0.mk (below_drew1 HB.out)
           refine start_ (n := 26) (S := fun w' => w'.cell? ⟨gb314, 0, none⟩ = some (.int .i64 ((rd_T52 l0_1 x26_2).f0)) ∧ w'.cell? ⟨gb314, 1, none⟩ = some (.int .i64 ((rd_T52 l0_1 x26_2).f1))) (ds := []) (bq [0, 26]) (by kernel_rfl) rfl rfl ⟨(blk_cell BK314.out 0).trans rfl, (blk_cell BK314.out 1).trans rfl⟩ (fun hHeld => ?_); refine with_tabW impl_ValidTuning.tab6 impl_ValidTuning.bits6 (fun HT_ HW_ => ?_)
           generalize w22.drew = w23 at BK310 BK314 HB hHeld ⊢
           refine pT 0 (some 31) (bq [1, 25]) rfl rfl HT_ HW_ hHeld ?_
           refine pO 1 (some 32) (bq [2, 24]) rfl rfl HT_ (fun K hK => ?_)
           refine gS_ Tryd.func108 #[.agg #[.int .i64 ((rd_T52 l0_1 x26_2).f0), .int .i64 ((rd_T52 l0_1 x26_2).f1)]] rfl rfl ?_
           with_reducible refine (impl_ValidRatio.calls k2 ((rd_T52 l0_1 x26_2).f0) ((rd_T52 l0_1 x26_2).f1) true _ A16.out).mono ?_
           rintro e w24 ⟨rfl, hb⟩
           refine ⟨_, rfl, ?_⟩
           replace BK310 := tbB BK310 hb
           replace BK314 := tbB BK314 hb
           replace HB := Aside0.mk (below_step (tH2 HB GE310.out GE314.out) hb)
           (try clear hb)
           (try clear hb2)
           (try clear hk)
           (try clear hi)
           refine hK.out _ _ ⟨(blk_cell BK314.out 0).trans rfl, (blk_cell BK314.out 1).trans rfl⟩ (fun hHeld => ?_)
           clear hK K
           refine nO (some 32) ?_
           refine pV 2 (some 33) [3, 23] rfl rfl HT_ ?_
           refine pV 3 (some 34) [4, 22] rfl rfl HT_ ?_
           refine pV 4 (some 35) [5, 21] rfl rfl HT_ ?_
           refine pV 6 (some 37) [5, 1, 1, 19] rfl rfl HT_ ?_
           refine pT 5 (some 36) (bq [7, 19]) rfl rfl HT_ HW_ hHeld ?_
           refine pT 7 (some 38) (bq [8, 18]) rfl rfl HT_ HW_ hHeld ?_
           refine pV 8 (some 39) [9, 17] rfl rfl HT_ ?_
           refine pV 9 (some 40) [10, 16] rfl rfl HT_ ?_
           refine pV 10 (some 41) [11, 15] rfl rfl HT_ ?_
           refine pV 11 (some 42) [12, 14] rfl rfl HT_ ?_
           refine pU 12 (some 43) [13, 13] rfl rfl HT_ ?_
           refine pU 13 (some 44) [14, 12] rfl rfl HT_ ?_
           refine pU 14 (some 45) [15, 11] rfl rfl HT_ ?_
           refine pU 15 (some 46) [16, 10] rfl rfl HT_ ?_
           refine pU 16 (some 47) [17, 9] rfl rfl HT_ ?_
           refine pU 17 (some 48) [18, 8] rfl rfl HT_ ?_
           refine pU 18 (some 49) [19, 7] rfl rfl HT_ ?_
           refine pU 19 (some 50) [20, 6] rfl rfl HT_ ?_
           refine pU 20 (some 51) [21, 5] rfl rfl HT_ ?_
           refine pU 21 (some 52) [22, 4] rfl rfl HT_ ?_
           refine pU 22 (some 53) [23, 3] rfl rfl HT_ ?_
           refine pU 23 (some 54) [24, 2] rfl rfl HT_ ?_
           refine pU 24 (some 55) [25, 1] rfl rfl HT_ ?_
           refine pV 25 (some 56) [26] rfl rfl HT_ ?_
           refine done_ (done_of HT_.out (by kernel_rfl)) ?_
           try go_wp2
           go_ret
           exact ⟨tE, tH2 HB GE310.out GE314.out⟩
         rw [if_neg c18] at H
         have c18b0 : decide ((wrap64 (2 * ((rd_T52 l0_1 x26_2).f1))) ≤ ((rd_T52 l0_1 x26_2).f0)) = false := decide_eq_false c18
         clear c18
         by_cases c25 : x26_2 > 0
         · rw [if_pos c25] at H
           have c25b0 : decide (0 < x26_2) = true := decide_eq_true c25
           clear c25
           obtain ⟨ji26, hji26⟩ : ∃ j_ : Int, (wrap64 (x26_2 - 1)) = j_ := ⟨_, rfl⟩
           replace H : (if 0 ≤ (ji26) then (if (ji26) < (l0_1.length : Int) then ((impl_Ratio_compare.f ((rd_T52 l0_1 x26_2).f0) ((rd_T52 l0_1 x26_2).f1) ((rd_T52 l0_1 (ji26)).f0) ((rd_T52 l0_1 (ji26)).f1)).bind fun t317 => (if t317 ≤ 0 then (some false) else (impl_ValidTuning.l0 k2 l0_1 (l0_1.length : Int) (wrap64 (x26_2 + 1)) a0_0 l0_1))) else (none)) else (none)) = some r := by first | (rw [hji26] at H; exact H) | (simp only [hji26] at H ⊢; exact H)
           (try rw [hji26] at A16)
           have hji26w : (IntKind.i64.wrap (x26_2 - 1)) = ji26 := (i64_w _).trans hji26
           by_cases c27 : 0 ≤ (ji26)
           · rw [if_pos c27] at H
             have c27b0 : decide (0 ≤ (ji26)) = true := decide_eq_true c27
             clear c27
             by_cases c28 : (ji26) < (l0_1.length : Int)
             · rw [if_pos c28] at H
               have c28b0 : decide ((ji26) < (l0_1.length : Int)) = true := decide_eq_true c28
               clear c28
               replace H := Option.bind_eq_some_iff.mp H
               obtain ⟨t317, A290, H⟩ := H
               replace H : (if t317 ≤ 0 then (some false) else (impl_ValidTuning.l0 k2 l0_1 (l0_1.length : Int) (wrap64 (x26_2 + 1)) a0_0 l0_1)) = some r := H
               have A29 := Aside0.mk A290
               clear A290
               by_cases c30 : t317 ≤ 0
               · rw [if_pos c30] at H
                 have c30b0 : decide (t317 ≤ 0) = true := decide_eq_true c30
                 clear c30
                 obtain rfl := Option.some.inj H
                 have p313 : 0 ≤ (x26_2 : Int) := of_decide_eq_true tA
                 have q313 : x26_2 < (l0_1.length : Int) := of_decide_eq_true tA
                 obtain ⟨ad313, e313, hx313_0, hx313_1⟩ := at_T52 HR0_1.out x26_2 p313 q313
                 cases e313
                 replace hx313_0 := tW HB hx313_0
                 replace hx313_1 := tW HB hx313_1
                 replace p313 := eq_true p313
                 replace q313 := eq_true q313
                 try go_wp2_with (first | ((with_reducible refine gate_dst (N := 4) rfl ?_); (try (refine gate_guard (by rfl) ?_; dsimp only)); refine box_event ?hg (N := 4) ?hd (cs := #[.int .i64 0, .int .i64 0]) (t := 52) ?hr ?_; (case hd => rfl); (case hg => rfl); (case hr => first | (go_simp; done) | (go_simp; rfl)); intro gb314 hg w31 hbox hb; have BK314 := Aside0.mk (hbox); have GW314 := Aside0.mk ((by rw [hg]; exact (below_size (tH1 HB GE310.out)) : w.heap.size ≤ gb314)); have GE314 := Aside0.mk ((by rw [hg]; exact (below_size (tH1 HB GE310.out)) : w.heap.size ≤ gb314)); replace HB := Aside0.mk (below_step (tH1 HB GE310.out) hb); have NB310_314 := Aside0.mk ((by rw [hg]; exact Nat.ne_of_lt (blk_lt (g := gb310) (o := .cells #[.string a0_0, .slice (some ad313) l0_1.length c0_1] 71 (0, 0)) (tB BK310)) : gb310 ≠ gb314)); have NB314_310 := Aside0.mk ((by rw [hg]; exact Nat.ne_of_gt (blk_lt (g := gb310) (o := .cells #[.string a0_0, .slice (some ad313) l0_1.length c0_1] 71 (0, 0)) (tB BK310)) : gb314 ≠ gb310)); replace BK310 := tbB BK310 hb; clear hb hbox hg; have hnb32 := NB314_310.out; have hnc32 := NB310_314.out; have hcz33_0 : w31.cell? ⟨gb314, 0, none⟩ = some (.int .i64 0) := (blk_cell BK314.out 0).trans rfl; have hcz33_1 : w31.cell? ⟨gb314, 1, none⟩ = some (.int .i64 0) := (blk_cell BK314.out 1).trans rfl; have hfz33_0 := blk_frozen BK314.out 0; have hfz33_1 := blk_frozen BK314.out 1))
                 have n0_ : Aside0 (((w31.setCell ⟨gb314, 0, none⟩ (.int .i64 ((rd_T52 l0_1 x26_2).f0))).setCell ⟨gb314, 1, none⟩ (.int .i64 ((rd_T52 l0_1 x26_2).f1))).heap[gb310]? = some (.cells #[.string a0_0, .slice (some ad313) l0_1.length c0_1] 71 (0, 0))) := ⟨by (with_reducible repeat (first | refine blk_drewN ?_ _ | refine blk_drew ?_ | refine blk_alloc ?_ _)); refine blk_far ?_ NB310_314.out _; (with_reducible repeat (first | refine blk_drewN ?_ _ | refine blk_drew ?_ | refine blk_alloc ?_ _)); refine blk_far ?_ NB310_314.out _; (with_reducible repeat (first | refine blk_drewN ?_ _ | refine blk_drew ?_ | refine blk_alloc ?_ _)); exact BK310.out⟩
                 have n1_ : Aside0 (((w31.setCell ⟨gb314, 0, none⟩ (.int .i64 ((rd_T52 l0_1 x26_2).f0))).setCell ⟨gb314, 1, none⟩ (.int .i64 ((rd_T52 l0_1 x26_2).f1))).heap[gb314]? = some (.cells #[.int .i64 ((rd_T52 l0_1 x26_2).f0), .int .i64 ((rd_T52 l0_1 x26_2).f1)] 52 (0, 0))) := ⟨by (with_reducible repeat (first | refine blk_drewN ?_ _ | refine blk_drew ?_ | refine blk_alloc ?_ _)); refine blk_put (cs := #[.int .i64 ((rd_T52 l0_1 x26_2).f0), .int .i64 0]) ?_ 1 _ rfl; (with_reducible repeat (first | refine blk_drewN ?_ _ | refine blk_drew ?_ | refine blk_alloc ?_ _)); refine blk_put (cs := #[.int .i64 0, .int .i64 0]) ?_ 0 _ rfl; (with_reducible repeat (first | refine blk_drewN ?_ _ | refine blk_drew ?_ | refine blk_alloc ?_ _)); exact BK314.out⟩
                 have n2_ : Aside0 (Below w.heap.size w ((w31.setCell ⟨gb314, 0, none⟩ (.int .i64 ((rd_T52 l0_1 x26_2).f0))).setCell ⟨gb314, 1, none⟩ (.int .i64 ((rd_T52 l0_1 x26_2).f1)))) := ⟨tH2 HB GE310.out GE314.out⟩
                 (try clear BK310)
                 (try clear BK314)
                 (try clear HB)
                 generalize ((w31.setCell ⟨gb314, 0, none⟩ (.int .i64 ((rd_T52 l0_1 x26_2).f0))).setCell ⟨gb314, 1, none⟩ (.int .i64 ((rd_T52 l0_1 x26_2).f1))) = w34 at n0_ n1_ n2_ ⊢
                 have BK310 := n0_
                 have BK314 := n1_
                 have HB := n2_
                 clear n0_ n1_ n2_
                 replace BK310 := Aside0.mk (blk_drew BK310.out)
                 replace BK314 := Aside0.mk (blk_drew BK314.out)
                 replace HB := Aside0.mk (below_drew1 HB.out)
                 have p316 : 0 ≤ ((ji26) : Int) := of_decide_eq_true tA
                 have q316 : (ji26) < (l0_1.length : Int) := of_decide_eq_true tA
                 obtain ⟨ad316, e316, hx316_0, hx316_1⟩ := at_T52 HR0_1.out (ji26) p316 q316
                 have hw316_1 := hx316_1
                 have hw316_0 := hx316_0
                 obtain rfl : ad313 = ad316 := (by injection e316)
                 replace hx316_0 := tW HB hx316_0
                 replace hx316_1 := tW HB hx316_1
                 replace p316 := eq_true p316
                 replace q316 := eq_true q316
                 refine start_ (n := 26) (S := fun w' => w'.cell? ⟨gb314, 0, none⟩ = some (.int .i64 ((rd_T52 l0_1 x26_2).f0)) ∧ w'.cell? ⟨gb314, 1, none⟩ = some (.int .i64 ((rd_T52 l0_1 x26_2).f1)) ∧ w'.cell? ⟨gb310, 0, none⟩ = some (.string a0_0) ∧ w'.cell? ⟨gb310, 1, none⟩ = some (.slice (some ad313) l0_1.length c0_1) ∧ w'.cell? (ad313.add (((ji26)).toNat * 2)) = some (.int .i64 ((rd_T52 l0_1 (ji26)).f0)) ∧ w'.cell? ⟨(ad313.add (((ji26)).toNat * 2)).block, (ad313.add (((ji26)).toNat * 2)).off + 1, none⟩ = some (.int .i64 ((rd_T52 l0_1 (ji26)).f1))) (ds := []) (bq [0, 26]) (by kernel_rfl) rfl rfl ⟨(blk_cell BK314.out 0).trans rfl, (blk_cell BK314.out 1).trans rfl, (blk_cell BK310.out 0).trans rfl, (blk_cell BK310.out 1).trans rfl, (tW HB hw316_0), (tW HB hw316_1)⟩ (fun hHeld => ?_); refine with_tabW impl_ValidTuning.tab6 impl_ValidTuning.bits6 (fun HT_ HW_ => ?_)
                 generalize w34.drew = w35 at BK310 BK314 HB hx316_0 hx316_1 hHeld ⊢
                 refine pT 0 (some 31) (bq [1, 25]) rfl rfl HT_ HW_ hHeld ?_
                 refine pO 1 (some 32) (bq [2, 24]) rfl rfl HT_ (fun K hK => ?_)
                 refine gS_ Tryd.func108 #[.agg #[.int .i64 ((rd_T52 l0_1 x26_2).f0), .int .i64 ((rd_T52 l0_1 x26_2).f1)]] rfl rfl ?_
                 with_reducible refine (impl_ValidRatio.calls k2 ((rd_T52 l0_1 x26_2).f0) ((rd_T52 l0_1 x26_2).f1) true _ A16.out).mono ?_
                 rintro e w36 ⟨rfl, hb⟩
                 refine ⟨_, rfl, ?_⟩
                 replace BK310 := tbB BK310 hb
                 replace BK314 := tbB BK314 hb
                 replace HB := Aside0.mk (below_step (tH2 HB GE310.out GE314.out) hb)
                 (try clear hb)
                 (try clear hb2)
                 (try clear hk)
                 (try clear hi)
                 refine hK.out _ _ ⟨(blk_cell BK314.out 0).trans rfl, (blk_cell BK314.out 1).trans rfl, (blk_cell BK310.out 0).trans rfl, (blk_cell BK310.out 1).trans rfl, (tW HB hw316_0), (tW HB hw316_1)⟩ (fun hHeld => ?_)
                 clear hK K
                 refine nO (some 32) ?_
                 refine pV 2 (some 33) [3, 23] rfl rfl HT_ ?_
                 refine pV 3 (some 34) [4, 22] rfl rfl HT_ ?_
                 refine pV 4 (some 35) [5, 21] rfl rfl HT_ ?_
                 refine pV 6 (some 37) [5, 1, 1, 19] rfl rfl HT_ ?_
                 refine pT 5 (some 36) (bq [7, 19]) rfl rfl HT_ HW_ hHeld ?_
                 refine pT 7 (some 38) (bq [8, 18]) rfl rfl HT_ HW_ hHeld ?_
                 refine pV 8 (some 39) [9, 17] rfl rfl HT_ ?_
                 refine pV 9 (some 40) [10, 16] rfl rfl HT_ ?_
                 refine pV 10 (some 41) [11, 15] rfl rfl HT_ ?_
                 refine pV 11 (some 42) [12, 14] rfl rfl HT_ ?_
                 refine pV 12 (some 43) [13, 13] rfl rfl HT_ ?_
                 refine pV 13 (some 44) [14, 12] rfl rfl HT_ ?_
                 refine pV 14 (some 45) [15, 11] rfl rfl HT_ ?_
                 refine pV 16 (some 47) [15, 1, 1, 9] rfl rfl HT_ ?_
                 refine pV 18 (some 49) [15, 1, 1, 1, 1, 7] rfl rfl HT_ ?_
                 refine pV 19 (some 50) [15, 1, 1, 1, 2, 6] rfl rfl HT_ ?_
                 refine pT 15 (some 46) (bq [17, 1, 2, 6]) rfl rfl HT_ HW_ hHeld ?_
                 refine pT 17 (some 48) (bq [20, 6]) rfl rfl HT_ HW_ hHeld ?_
                 refine pV 20 (some 51) [21, 5] rfl rfl HT_ ?_
                 refine pT 21 (some 52) (bq [22, 4]) rfl rfl HT_ HW_ hHeld ?_
                 refine pO 22 (some 53) (bq [23, 3]) rfl rfl HT_ (fun K hK => ?_)
                 refine goes_ Tryd.func110 (by kernel_rfl) rfl #[.agg #[.int .i64 ((rd_T52 l0_1 x26_2).f0), .int .i64 ((rd_T52 l0_1 x26_2).f1)], .agg #[.int .i64 ((rd_T52 l0_1 (ji26)).f0), .int .i64 ((rd_T52 l0_1 (ji26)).f1)]] (by rfl) rfl rfl (by (try simp only [List.map_toArray, List.map_cons, List.map_nil]); first | done | (simp only [hji26]; rfl) | rfl | (simp only [List.length_drop, List.length_take]; rfl)) ?_
                 with_reducible refine (impl_Ratio_compare.calls ((rd_T52 l0_1 x26_2).f0) ((rd_T52 l0_1 x26_2).f1) ((rd_T52 l0_1 (ji26)).f0) ((rd_T52 l0_1 (ji26)).f1) t317 _ A29.out).mono ?_
                 rintro e w37 ⟨rfl, hb⟩
                 refine ⟨_, rfl, ?_⟩
                 replace BK310 := tbB BK310 hb
                 replace BK314 := tbB BK314 hb
                 replace HB := Aside0.mk (below_step (tH2 HB GE310.out GE314.out) hb)
                 (try clear hb)
                 (try clear hb2)
                 (try clear hk)
                 (try clear hi)
                 refine hK.out _ _ ⟨(blk_cell BK314.out 0).trans rfl, (blk_cell BK314.out 1).trans rfl, (blk_cell BK310.out 0).trans rfl, (blk_cell BK310.out 1).trans rfl, (tW HB hw316_0), (tW HB hw316_1)⟩ (fun hHeld => ?_)
                 clear hK K
                 refine nO (some 53) ?_
                 refine pV 23 (some 54) [24, 2] rfl rfl HT_ ?_
                 refine pV 24 (some 55) [25, 1] rfl rfl HT_ ?_
                 refine pV 25 (some 56) [26] rfl rfl HT_ ?_
                 refine done_ (done_of HT_.out (by kernel_rfl)) ?_
                 try go_wp2
                 go_ret
                 exact ⟨by first | rfl | (simp [errW_none, errW_some] <;> rfl) | (simp only [← hji26]; first | rfl | (simp [errW_none, errW_some] <;> rfl)) | (simp [*, errW_none, errW_some] <;> rfl), tH2 HB GE310.out GE314.out⟩
               rw [if_neg c30] at H
               have c30b0 : decide (t317 ≤ 0) = false := decide_eq_false c30
               clear c30
               have H' := Aside0.mk H
               clear H
               have p313 : 0 ≤ (x26_2 : Int) := of_decide_eq_true tA
               have q313 : x26_2 < (l0_1.length : Int) := of_decide_eq_true tA
               obtain ⟨ad313, e313, hx313_0, hx313_1⟩ := at_T52 HR0_1.out x26_2 p313 q313
               cases e313
               replace hx313_0 := tW HB hx313_0
               replace hx313_1 := tW HB hx313_1
               replace p313 := eq_true p313
               replace q313 := eq_true q313
               try go_wp2_with (first | ((with_reducible refine gate_dst (N := 4) rfl ?_); (try (refine gate_guard (by rfl) ?_; dsimp only)); refine box_event ?hg (N := 4) ?hd (cs := #[.int .i64 0, .int .i64 0]) (t := 52) ?hr ?_; (case hd => rfl); (case hg => rfl); (case hr => first | (go_simp; done) | (go_simp; rfl)); intro gb314 hg w38 hbox hb; have BK314 := Aside0.mk (hbox); have GW314 := Aside0.mk ((by rw [hg]; exact (below_size (tH1 HB GE310.out)) : w.heap.size ≤ gb314)); have GE314 := Aside0.mk ((by rw [hg]; exact (below_size (tH1 HB GE310.out)) : w.heap.size ≤ gb314)); replace HB := Aside0.mk (below_step (tH1 HB GE310.out) hb); have NB310_314 := Aside0.mk ((by rw [hg]; exact Nat.ne_of_lt (blk_lt (g := gb310) (o := .cells #[.string a0_0, .slice (some ad313) l0_1.length c0_1] 71 (0, 0)) (tB BK310)) : gb310 ≠ gb314)); have NB314_310 := Aside0.mk ((by rw [hg]; exact Nat.ne_of_gt (blk_lt (g := gb310) (o := .cells #[.string a0_0, .slice (some ad313) l0_1.length c0_1] 71 (0, 0)) (tB BK310)) : gb314 ≠ gb310)); replace BK310 := tbB BK310 hb; clear hb hbox hg; have hnb39 := NB314_310.out; have hnc39 := NB310_314.out; have hcz40_0 : w38.cell? ⟨gb314, 0, none⟩ = some (.int .i64 0) := (blk_cell BK314.out 0).trans rfl; have hcz40_1 : w38.cell? ⟨gb314, 1, none⟩ = some (.int .i64 0) := (blk_cell BK314.out 1).trans rfl; have hfz40_0 := blk_frozen BK314.out 0; have hfz40_1 := blk_frozen BK314.out 1))
               have n0_ : Aside0 (((w38.setCell ⟨gb314, 0, none⟩ (.int .i64 ((rd_T52 l0_1 x26_2).f0))).setCell ⟨gb314, 1, none⟩ (.int .i64 ((rd_T52 l0_1 x26_2).f1))).heap[gb310]? = some (.cells #[.string a0_0, .slice (some ad313) l0_1.length c0_1] 71 (0, 0))) := ⟨by (with_reducible repeat (first | refine blk_drewN ?_ _ | refine blk_drew ?_ | refine blk_alloc ?_ _)); refine blk_far ?_ NB310_314.out _; (with_reducible repeat (first | refine blk_drewN ?_ _ | refine blk_drew ?_ | refine blk_alloc ?_ _)); refine blk_far ?_ NB310_314.out _; (with_reducible repeat (first | refine blk_drewN ?_ _ | refine blk_drew ?_ | refine blk_alloc ?_ _)); exact BK310.out⟩
               have n1_ : Aside0 (((w38.setCell ⟨gb314, 0, none⟩ (.int .i64 ((rd_T52 l0_1 x26_2).f0))).setCell ⟨gb314, 1, none⟩ (.int .i64 ((rd_T52 l0_1 x26_2).f1))).heap[gb314]? = some (.cells #[.int .i64 ((rd_T52 l0_1 x26_2).f0), .int .i64 ((rd_T52 l0_1 x26_2).f1)] 52 (0, 0))) := ⟨by (with_reducible repeat (first | refine blk_drewN ?_ _ | refine blk_drew ?_ | refine blk_alloc ?_ _)); refine blk_put (cs := #[.int .i64 ((rd_T52 l0_1 x26_2).f0), .int .i64 0]) ?_ 1 _ rfl; (with_reducible repeat (first | refine blk_drewN ?_ _ | refine blk_drew ?_ | refine blk_alloc ?_ _)); refine blk_put (cs := #[.int .i64 0, .int .i64 0]) ?_ 0 _ rfl; (with_reducible repeat (first | refine blk_drewN ?_ _ | refine blk_drew ?_ | refine blk_alloc ?_ _)); exact BK314.out⟩
               have n2_ : Aside0 (Below w.heap.size w ((w38.setCell ⟨gb314, 0, none⟩ (.int .i64 ((rd_T52 l0_1 x26_2).f0))).setCell ⟨gb314, 1, none⟩ (.int .i64 ((rd_T52 l0_1 x26_2).f1)))) := ⟨tH2 HB GE310.out GE314.out⟩
               (try clear BK310)
               (try clear BK314)
               (try clear HB)
               generalize ((w38.setCell ⟨gb314, 0, none⟩ (.int .i64 ((rd_T52 l0_1 x26_2).f0))).setCell ⟨gb314, 1, none⟩ (.int .i64 ((rd_T52 l0_1 x26_2).f1))) = w41 at n0_ n1_ n2_ ⊢
               have BK310 := n0_
               have BK314 := n1_
               have HB := n2_
               clear n0_ n1_ n2_
               replace BK310 := Aside0.mk (blk_drew BK310.out)
               replace BK314 := Aside0.mk (blk_drew BK314.out)
               replace HB := Aside0.mk (below_drew1 HB.out)
               have p316 : 0 ≤ ((ji26) : Int) := of_decide_eq_true tA
               have q316 : (ji26) < (l0_1.length : Int) := of_decide_eq_true tA
               obtain ⟨ad316, e316, hx316_0, hx316_1⟩ := at_T52 HR0_1.out (ji26) p316 q316
               have hw316_1 := hx316_1
               have hw316_0 := hx316_0
               obtain rfl : ad313 = ad316 := (by injection e316)
               replace hx316_0 := tW HB hx316_0
               replace hx316_1 := tW HB hx316_1
               replace p316 := eq_true p316
               replace q316 := eq_true q316
               refine start_ (n := 26) (S := fun w' => w'.cell? ⟨gb314, 0, none⟩ = some (.int .i64 ((rd_T52 l0_1 x26_2).f0)) ∧ w'.cell? ⟨gb314, 1, none⟩ = some (.int .i64 ((rd_T52 l0_1 x26_2).f1)) ∧ w'.cell? ⟨gb310, 0, none⟩ = some (.string a0_0) ∧ w'.cell? ⟨gb310, 1, none⟩ = some (.slice (some ad313) l0_1.length c0_1) ∧ w'.cell? (ad313.add (((ji26)).toNat * 2)) = some (.int .i64 ((rd_T52 l0_1 (ji26)).f0)) ∧ w'.cell? ⟨(ad313.add (((ji26)).toNat * 2)).block, (ad313.add (((ji26)).toNat * 2)).off + 1, none⟩ = some (.int .i64 ((rd_T52 l0_1 (ji26)).f1))) (ds := []) (bq [0, 26]) (by kernel_rfl) rfl rfl ⟨(blk_cell BK314.out 0).trans rfl, (blk_cell BK314.out 1).trans rfl, (blk_cell BK310.out 0).trans rfl, (blk_cell BK310.out 1).trans rfl, (tW HB hw316_0), (tW HB hw316_1)⟩ (fun hHeld => ?_); refine with_tabW impl_ValidTuning.tab6 impl_ValidTuning.bits6 (fun HT_ HW_ => ?_)
               generalize w41.drew = w42 at BK310 BK314 HB hx316_0 hx316_1 hHeld ⊢
               refine pT 0 (some 31) (bq [1, 25]) rfl rfl HT_ HW_ hHeld ?_
               refine pO 1 (some 32) (bq [2, 24]) rfl rfl HT_ (fun K hK => ?_)
               refine gS_ Tryd.func108 #[.agg #[.int .i64 ((rd_T52 l0_1 x26_2).f0), .int .i64 ((rd_T52 l0_1 x26_2).f1)]] rfl rfl ?_
               with_reducible refine (impl_ValidRatio.calls k2 ((rd_T52 l0_1 x26_2).f0) ((rd_T52 l0_1 x26_2).f1) true _ A16.out).mono ?_
               rintro e w43 ⟨rfl, hb⟩
               refine ⟨_, rfl, ?_⟩
               replace BK310 := tbB BK310 hb
               replace BK314 := tbB BK314 hb
               replace HB := Aside0.mk (below_step (tH2 HB GE310.out GE314.out) hb)
               (try clear hb)
               (try clear hb2)
               (try clear hk)
               (try clear hi)
               refine hK.out _ _ ⟨(blk_cell BK314.out 0).trans rfl, (blk_cell BK314.out 1).trans rfl, (blk_cell BK310.out 0).trans rfl, (blk_cell BK310.out 1).trans rfl, (tW HB hw316_0), (tW HB hw316_1)⟩ (fun hHeld => ?_)
               clear hK K
               refine nO (some 32) ?_
               refine pV 2 (some 33) [3, 23] rfl rfl HT_ ?_
               refine pV 3 (some 34) [4, 22] rfl rfl HT_ ?_
               refine pV 4 (some 35) [5, 21] rfl rfl HT_ ?_
               refine pV 6 (some 37) [5, 1, 1, 19] rfl rfl HT_ ?_
               refine pT 5 (some 36) (bq [7, 19]) rfl rfl HT_ HW_ hHeld ?_
               refine pT 7 (some 38) (bq [8, 18]) rfl rfl HT_ HW_ hHeld ?_
               refine pV 8 (some 39) [9, 17] rfl rfl HT_ ?_
               refine pV 9 (some 40) [10, 16] rfl rfl HT_ ?_
               refine pV 10 (some 41) [11, 15] rfl rfl HT_ ?_
               refine pV 11 (some 42) [12, 14] rfl rfl HT_ ?_
               refine pV 12 (some 43) [13, 13] rfl rfl HT_ ?_
               refine pV 13 (some 44) [14, 12] rfl rfl HT_ ?_
               refine pV 14 (some 45) [15, 11] rfl rfl HT_ ?_
               refine pV 16 (some 47) [15, 1, 1, 9] rfl rfl HT_ ?_
               refine pV 18 (some 49) [15, 1, 1, 1, 1, 7] rfl rfl HT_ ?_
               refine pV 19 (some 50) [15, 1, 1, 1, 2, 6] rfl rfl HT_ ?_
               refine pT 15 (some 46) (bq [17, 1, 2, 6]) rfl rfl HT_ HW_ hHeld ?_
               refine pT 17 (some 48) (bq [20, 6]) rfl rfl HT_ HW_ hHeld ?_
               refine pV 20 (some 51) [21, 5] rfl rfl HT_ ?_
               refine pT 21 (some 52) (bq [22, 4]) rfl rfl HT_ HW_ hHeld ?_
               refine pO 22 (some 53) (bq [23, 3]) rfl rfl HT_ (fun K hK => ?_)
               refine goes_ Tryd.func110 (by kernel_rfl) rfl #[.agg #[.int .i64 ((rd_T52 l0_1 x26_2).f0), .int .i64 ((rd_T52 l0_1 x26_2).f1)], .agg #[.int .i64 ((rd_T52 l0_1 (ji26)).f0), .int .i64 ((rd_T52 l0_1 (ji26)).f1)]] (by rfl) rfl rfl (by (try simp only [List.map_toArray, List.map_cons, List.map_nil]); first | done | (simp only [hji26]; rfl) | rfl | (simp only [List.length_drop, List.length_take]; rfl)) ?_
               with_reducible refine (impl_Ratio_compare.calls ((rd_T52 l0_1 x26_2).f0) ((rd_T52 l0_1 x26_2).f1) ((rd_T52 l0_1 (ji26)).f0) ((rd_T52 l0_1 (ji26)).f1) t317 _ A29.out).mono ?_
               rintro e w44 ⟨rfl, hb⟩
               refine ⟨_, rfl, ?_⟩
               replace BK310 := tbB BK310 hb
               replace BK314 := tbB BK314 hb
               replace HB := Aside0.mk (below_step (tH2 HB GE310.out GE314.out) hb)
               (try clear hb)
               (try clear hb2)
               (try clear hk)
               (try clear hi)
               refine hK.out _ _ ⟨(blk_cell BK314.out 0).trans rfl, (blk_cell BK314.out 1).trans rfl, (blk_cell BK310.out 0).trans rfl, (blk_cell BK310.out 1).trans rfl, (tW HB hw316_0), (tW HB hw316_1)⟩ (fun hHeld => ?_)
               clear hK K
               refine nO (some 53) ?_
               refine pV 23 (some 54) [24, 2] rfl rfl HT_ ?_
               refine pV 24 (some 55) [25, 1] rfl rfl HT_ ?_
               refine pV 25 (some 56) [26] rfl rfl HT_ ?_
               refine done_ (done_of HT_.out (by kernel_rfl)) ?_
               try go_wp2
               go_roundg k2
               case measure => have := HJ1.out; have := HK2.out; omega
               case rel => exact ⟨(wrap64 (x26_2 + 1)), tq, H', ⟨by have := HJ1.out; have := HK2.out; omega⟩, ⟨tB BK310⟩, ⟨tH2 HB GE310.out GE314.out⟩⟩
             rw [if_neg c28] at H
             exact absurd H (by simp)
           rw [if_neg c27] at H
           exact absurd H (by simp)
         rw [if_neg c25] at H
         have c25b0 : decide (0 < x26_2) = false := decide_eq_false c25
         clear c25
         have H' := Aside0.mk H
         clear H
         have p313 : 0 ≤ (x26_2 : Int) := of_decide_eq_true tA
         have q313 : x26_2 < (l0_1.length : Int) := of_decide_eq_true tA
         obtain ⟨ad313, e313, hx313_0, hx313_1⟩ := at_T52 HR0_1.out x26_2 p313 q313
         cases e313
         replace hx313_0 := tW HB hx313_0
         replace hx313_1 := tW HB hx313_1
         replace p313 := eq_true p313
         replace q313 := eq_true q313
         try go_wp2_with (first | ((with_reducible refine gate_dst (N := 4) rfl ?_); (try (refine gate_guard (by rfl) ?_; dsimp only)); refine box_event ?hg (N := 4) ?hd (cs := #[.int .i64 0, .int .i64 0]) (t := 52) ?hr ?_; (case hd => rfl); (case hg => rfl); (case hr => first | (go_simp; done) | (go_simp; rfl)); intro gb314 hg w45 hbox hb; have BK314 := Aside0.mk (hbox); have GW314 := Aside0.mk ((by rw [hg]; exact (below_size (tH1 HB GE310.out)) : w.heap.size ≤ gb314)); have GE314 := Aside0.mk ((by rw [hg]; exact (below_size (tH1 HB GE310.out)) : w.heap.size ≤ gb314)); replace HB := Aside0.mk (below_step (tH1 HB GE310.out) hb); have NB310_314 := Aside0.mk ((by rw [hg]; exact Nat.ne_of_lt (blk_lt (g := gb310) (o := .cells #[.string a0_0, .slice (some ad313) l0_1.length c0_1] 71 (0, 0)) (tB BK310)) : gb310 ≠ gb314)); have NB314_310 := Aside0.mk ((by rw [hg]; exact Nat.ne_of_gt (blk_lt (g := gb310) (o := .cells #[.string a0_0, .slice (some ad313) l0_1.length c0_1] 71 (0, 0)) (tB BK310)) : gb314 ≠ gb310)); replace BK310 := tbB BK310 hb; clear hb hbox hg; have hnb46 := NB314_310.out; have hnc46 := NB310_314.out; have hcz47_0 : w45.cell? ⟨gb314, 0, none⟩ = some (.int .i64 0) := (blk_cell BK314.out 0).trans rfl; have hcz47_1 : w45.cell? ⟨gb314, 1, none⟩ = some (.int .i64 0) := (blk_cell BK314.out 1).trans rfl; have hfz47_0 := blk_frozen BK314.out 0; have hfz47_1 := blk_frozen BK314.out 1))
         have n0_ : Aside0 (((w45.setCell ⟨gb314, 0, none⟩ (.int .i64 ((rd_T52 l0_1 x26_2).f0))).setCell ⟨gb314, 1, none⟩ (.int .i64 ((rd_T52 l0_1 x26_2).f1))).heap[gb310]? = some (.cells #[.string a0_0, .slice (some ad313) l0_1.length c0_1] 71 (0, 0))) := ⟨by (with_reducible repeat (first | refine blk_drewN ?_ _ | refine blk_drew ?_ | refine blk_alloc ?_ _)); refine blk_far ?_ NB310_314.out _; (with_reducible repeat (first | refine blk_drewN ?_ _ | refine blk_drew ?_ | refine blk_alloc ?_ _)); refine blk_far ?_ NB310_314.out _; (with_reducible repeat (first | refine blk_drewN ?_ _ | refine blk_drew ?_ | refine blk_alloc ?_ _)); exact BK310.out⟩
         have n1_ : Aside0 (((w45.setCell ⟨gb314, 0, none⟩ (.int .i64 ((rd_T52 l0_1 x26_2).f0))).setCell ⟨gb314, 1, none⟩ (.int .i64 ((rd_T52 l0_1 x26_2).f1))).heap[gb314]? = some (.cells #[.int .i64 ((rd_T52 l0_1 x26_2).f0), .int .i64 ((rd_T52 l0_1 x26_2).f1)] 52 (0, 0))) := ⟨by (with_reducible repeat (first | refine blk_drewN ?_ _ | refine blk_drew ?_ | refine blk_alloc ?_ _)); refine blk_put (cs := #[.int .i64 ((rd_T52 l0_1 x26_2).f0), .int .i64 0]) ?_ 1 _ rfl; (with_reducible repeat (first | refine blk_drewN ?_ _ | refine blk_drew ?_ | refine blk_alloc ?_ _)); refine blk_put (cs := #[.int .i64 0, .int .i64 0]) ?_ 0 _ rfl; (with_reducible repeat (first | refine blk_drewN ?_ _ | refine blk_drew ?_ | refine blk_alloc ?_ _)); exact BK314.out⟩
         have n2_ : Aside0 (Below w.heap.size w ((w45.setCell ⟨gb314, 0, none⟩ (.int .i64 ((rd_T52 l0_1 x26_2).f0))).setCell ⟨gb314, 1, none⟩ (.int .i64 ((rd_T52 l0_1 x26_2).f1)))) := ⟨tH2 HB GE310.out GE314.out⟩
         (try clear BK310)
         (try clear BK314)
         (try clear HB)
         generalize ((w45.setCell ⟨gb314, 0, none⟩ (.int .i64 ((rd_T52 l0_1 x26_2).f0))).setCell ⟨gb314, 1, none⟩ (.int .i64 ((rd_T52 l0_1 x26_2).f1))) = w48 at n0_ n1_ n2_ ⊢
         have BK310 := n0_
         have BK314 := n1_
         have HB := n2_
         clear n0_ n1_ n2_
         replace BK310 := Aside0.mk (blk_drew BK310.out)
         replace BK314 := Aside0.mk (blk_drew BK314.out)
         replace HB := Aside0.mk (below_drew1 HB.out)
         refine start_ (n := 26) (S := fun w' => w'.cell? ⟨gb314, 0, none⟩ = some (.int .i64 ((rd_T52 l0_1 x26_2).f0)) ∧ w'.cell? ⟨gb314, 1, none⟩ = some (.int .i64 ((rd_T52 l0_1 x26_2).f1))) (ds := []) (bq [0, 26]) (by kernel_rfl) rfl rfl ⟨(blk_cell BK314.out 0).trans rfl, (blk_cell BK314.out 1).trans rfl⟩ (fun hHeld => ?_); refine with_tabW impl_ValidTuning.tab6 impl_ValidTuning.bits6 (fun HT_ HW_ => ?_)
         generalize w48.drew = w49 at BK310 BK314 HB hHeld ⊢
         refine pT 0 (some 31) (bq [1, 25]) rfl rfl HT_ HW_ hHeld ?_
         refine pO 1 (some 32) (bq [2, 24]) rfl rfl HT_ (fun K hK => ?_)
         refine gS_ Tryd.func108 #[.agg #[.int .i64 ((rd_T52 l0_1 x26_2).f0), .int .i64 ((rd_T52 l0_1 x26_2).f1)]] rfl rfl ?_
         with_reducible refine (impl_ValidRatio.calls k2 ((rd_T52 l0_1 x26_2).f0) ((rd_T52 l0_1 x26_2).f1) true _ A16.out).mono ?_
         rintro e w50 ⟨rfl, hb⟩
         refine ⟨_, rfl, ?_⟩
         replace BK310 := tbB BK310 hb
         replace BK314 := tbB BK314 hb
         replace HB := Aside0.mk (below_step (tH2 HB GE310.out GE314.out) hb)
         (try clear hb)
         (try clear hb2)
         (try clear hk)
         (try clear hi)
         refine hK.out _ _ ⟨(blk_cell BK314.out 0).trans rfl, (blk_cell BK314.out 1).trans rfl⟩ (fun hHeld => ?_)
         clear hK K
         refine nO (some 32) ?_
         refine pV 2 (some 33) [3, 23] rfl rfl HT_ ?_
         refine pV 3 (some 34) [4, 22] rfl rfl HT_ ?_
         refine pV 4 (some 35) [5, 21] rfl rfl HT_ ?_
         refine pV 6 (some 37) [5, 1, 1, 19] rfl rfl HT_ ?_
         refine pT 5 (some 36) (bq [7, 19]) rfl rfl HT_ HW_ hHeld ?_
         refine pT 7 (some 38) (bq [8, 18]) rfl rfl HT_ HW_ hHeld ?_
         refine pV 8 (some 39) [9, 17] rfl rfl HT_ ?_
         refine pV 9 (some 40) [10, 16] rfl rfl HT_ ?_
         refine pV 10 (some 41) [11, 15] rfl rfl HT_ ?_
         refine pV 11 (some 42) [12, 14] rfl rfl HT_ ?_
         refine pV 12 (some 43) [13, 13] rfl rfl HT_ ?_
         refine pV 13 (some 44) [14, 12] rfl rfl HT_ ?_
         refine pV 14 (some 45) [15, 11] rfl rfl HT_ ?_
         refine pU 15 (some 46) [16, 10] rfl rfl HT_ ?_
         refine pU 16 (some 47) [17, 9] rfl rfl HT_ ?_
         refine pU 17 (some 48) [18, 8] rfl rfl HT_ ?_
         refine pU 18 (some 49) [19, 7] rfl rfl HT_ ?_
         refine pU 19 (some 50) [20, 6] rfl rfl HT_ ?_
         refine pU 20 (some 51) [21, 5] rfl rfl HT_ ?_
         refine pU 21 (some 52) [22, 4] rfl rfl HT_ ?_
         refine pU 22 (some 53) [23, 3] rfl rfl HT_ ?_
         refine pU 23 (some 54) [24, 2] rfl rfl HT_ ?_
         refine pV 24 (some 55) [25, 1] rfl rfl HT_ ?_
         refine pV 25 (some 56) [26] rfl rfl HT_ ?_
         refine done_ (done_of HT_.out (by kernel_rfl)) ?_
         try go_wp2
         go_roundg k2
         case measure => have := HJ1.out; have := HK2.out; omega
         case rel => exact ⟨(wrap64 (x26_2 + 1)), tq, H', ⟨by have := HJ1.out; have := HK2.out; omega⟩, ⟨tB BK310⟩, ⟨tH2 HB GE310.out GE314.out⟩⟩
       replace c17 := Bool.eq_false_iff.mpr c17
       subst c17
       have H1 : (some false) = some r := by rw [if_neg (show ¬ (false = true) by decide)] at H; exact H
       clear H
       have H := H1
       clear H1
       obtain rfl := Option.some.inj H
       have p313 : 0 ≤ (x26_2 : Int) := of_decide_eq_true tA
       have q313 : x26_2 < (l0_1.length : Int) := of_decide_eq_true tA
       obtain ⟨ad313, e313, hx313_0, hx313_1⟩ := at_T52 HR0_1.out x26_2 p313 q313
       cases e313
       replace hx313_0 := tW HB hx313_0
       replace hx313_1 := tW HB hx313_1
       replace p313 := eq_true p313
       replace q313 := eq_true q313
       try go_wp2_with (first | ((with_reducible refine gate_dst (N := 4) rfl ?_); (try (refine gate_guard (by rfl) ?_; dsimp only)); refine box_event ?hg (N := 4) ?hd (cs := #[.int .i64 0, .int .i64 0]) (t := 52) ?hr ?_; (case hd => rfl); (case hg => rfl); (case hr => first | (go_simp; done) | (go_simp; rfl)); intro gb314 hg w51 hbox hb; have BK314 := Aside0.mk (hbox); have GW314 := Aside0.mk ((by rw [hg]; exact (below_size (tH1 HB GE310.out)) : w.heap.size ≤ gb314)); have GE314 := Aside0.mk ((by rw [hg]; exact (below_size (tH1 HB GE310.out)) : w.heap.size ≤ gb314)); replace HB := Aside0.mk (below_step (tH1 HB GE310.out) hb); have NB310_314 := Aside0.mk ((by rw [hg]; exact Nat.ne_of_lt (blk_lt (g := gb310) (o := .cells #[.string a0_0, .slice (some ad313) l0_1.length c0_1] 71 (0, 0)) (tB BK310)) : gb310 ≠ gb314)); have NB314_310 := Aside0.mk ((by rw [hg]; exact Nat.ne_of_gt (blk_lt (g := gb310) (o := .cells #[.string a0_0, .slice (some ad313) l0_1.length c0_1] 71 (0, 0)) (tB BK310)) : gb314 ≠ gb310)); replace BK310 := tbB BK310 hb; clear hb hbox hg; have hnb52 := NB314_310.out; have hnc52 := NB310_314.out; have hcz53_0 : w51.cell? ⟨gb314, 0, none⟩ = some (.int .i64 0) := (blk_cell BK314.out 0).trans rfl; have hcz53_1 : w51.cell? ⟨gb314, 1, none⟩ = some (.int .i64 0) := (blk_cell BK314.out 1).trans rfl; have hfz53_0 := blk_frozen BK314.out 0; have hfz53_1 := blk_frozen BK314.out 1))
       have n0_ : Aside0 (((w51.setCell ⟨gb314, 0, none⟩ (.int .i64 ((rd_T52 l0_1 x26_2).f0))).setCell ⟨gb314, 1, none⟩ (.int .i64 ((rd_T52 l0_1 x26_2).f1))).heap[gb310]? = some (.cells #[.string a0_0, .slice (some ad313) l0_1.length c0_1] 71 (0, 0))) := ⟨by (with_reducible repeat (first | refine blk_drewN ?_ _ | refine blk_drew ?_ | refine blk_alloc ?_ _)); refine blk_far ?_ NB310_314.out _; (with_reducible repeat (first | refine blk_drewN ?_ _ | refine blk_drew ?_ | refine blk_alloc ?_ _)); refine blk_far ?_ NB310_314.out _; (with_reducible repeat (first | refine blk_drewN ?_ _ | refine blk_drew ?_ | refine blk_alloc ?_ _)); exact BK310.out⟩
       have n1_ : Aside0 (((w51.setCell ⟨gb314, 0, none⟩ (.int .i64 ((rd_T52 l0_1 x26_2).f0))).setCell ⟨gb314, 1, none⟩ (.int .i64 ((rd_T52 l0_1 x26_2).f1))).heap[gb314]? = some (.cells #[.int .i64 ((rd_T52 l0_1 x26_2).f0), .int .i64 ((rd_T52 l0_1 x26_2).f1)] 52 (0, 0))) := ⟨by (with_reducible repeat (first | refine blk_drewN ?_ _ | refine blk_drew ?_ | refine blk_alloc ?_ _)); refine blk_put (cs := #[.int .i64 ((rd_T52 l0_1 x26_2).f0), .int .i64 0]) ?_ 1 _ rfl; (with_reducible repeat (first | refine blk_drewN ?_ _ | refine blk_drew ?_ | refine blk_alloc ?_ _)); refine blk_put (cs := #[.int .i64 0, .int .i64 0]) ?_ 0 _ rfl; (with_reducible repeat (first | refine blk_drewN ?_ _ | refine blk_drew ?_ | refine blk_alloc ?_ _)); exact BK314.out⟩
       have n2_ : Aside0 (Below w.heap.size w ((w51.setCell ⟨gb314, 0, none⟩ (.int .i64 ((rd_T52 l0_1 x26_2).f0))).setCell ⟨gb314, 1, none⟩ (.int .i64 ((rd_T52 l0_1 x26_2).f1)))) := ⟨tH2 HB GE310.out GE314.out⟩
       (try clear BK310)
       (try clear BK314)
       (try clear HB)
       generalize ((w51.setCell ⟨gb314, 0, none⟩ (.int .i64 ((rd_T52 l0_1 x26_2).f0))).setCell ⟨gb314, 1, none⟩ (.int .i64 ((rd_T52 l0_1 x26_2).f1))) = w54 at n0_ n1_ n2_ ⊢
       have BK310 := n0_
       have BK314 := n1_
       have HB := n2_
       clear n0_ n1_ n2_
       replace BK310 := Aside0.mk (blk_drew BK310.out)
       replace BK314 := Aside0.mk (blk_drew BK314.out)
       replace HB := Aside0.mk (below_drew1 HB.out)
       refine start_ (n := 26) (S := fun w' => w'.cell? ⟨gb314, 0, none⟩ = some (.int .i64 ((rd_T52 l0_1 x26_2).f0)) ∧ w'.cell? ⟨gb314, 1, none⟩ = some (.int .i64 ((rd_T52 l0_1 x26_2).f1))) (ds := []) (bq [0, 26]) (by kernel_rfl) rfl rfl ⟨(blk_cell BK314.out 0).trans rfl, (blk_cell BK314.out 1).trans rfl⟩ (fun hHeld => ?_); refine with_tabW impl_ValidTuning.tab6 impl_ValidTuning.bits6 (fun HT_ HW_ => ?_)
       generalize w54.drew = w55 at BK310 BK314 HB hHeld ⊢
       refine pT 0 (some 31) (bq [1, 25]) rfl rfl HT_ HW_ hHeld ?_
       refine pO 1 (some 32) (bq [2, 24]) rfl rfl HT_ (fun K hK => ?_)
       refine gS_ Tryd.func108 #[.agg #[.int .i64 ((rd_T52 l0_1 x26_2).f0), .int .i64 ((rd_T52 l0_1 x26_2).f1)]] rfl rfl ?_
       with_reducible refine (impl_ValidRatio.calls k2 ((rd_T52 l0_1 x26_2).f0) ((rd_T52 l0_1 x26_2).f1) false _ A16.out).mono ?_
       rintro e w56 ⟨rfl, hb⟩
       refine ⟨_, rfl, ?_⟩
       replace BK310 := tbB BK310 hb
       replace BK314 := tbB BK314 hb
       replace HB := Aside0.mk (below_step (tH2 HB GE310.out GE314.out) hb)
       (try clear hb)
       (try clear hb2)
       (try clear hk)
       (try clear hi)
       refine hK.out _ _ ⟨(blk_cell BK314.out 0).trans rfl, (blk_cell BK314.out 1).trans rfl⟩ (fun hHeld => ?_)
       clear hK K
       refine nO (some 32) ?_
       refine pV 2 (some 33) [3, 23] rfl rfl HT_ ?_
       refine pV 3 (some 34) [4, 22] rfl rfl HT_ ?_
       refine pU 4 (some 35) [5, 21] rfl rfl HT_ ?_
       refine pU 5 (some 36) [6, 20] rfl rfl HT_ ?_
       refine pU 6 (some 37) [7, 19] rfl rfl HT_ ?_
       refine pU 7 (some 38) [8, 18] rfl rfl HT_ ?_
       refine pU 8 (some 39) [9, 17] rfl rfl HT_ ?_
       refine pU 9 (some 40) [10, 16] rfl rfl HT_ ?_
       refine pV 10 (some 41) [11, 15] rfl rfl HT_ ?_
       refine pV 11 (some 42) [12, 14] rfl rfl HT_ ?_
       refine pU 12 (some 43) [13, 13] rfl rfl HT_ ?_
       refine pU 13 (some 44) [14, 12] rfl rfl HT_ ?_
       refine pU 14 (some 45) [15, 11] rfl rfl HT_ ?_
       refine pU 15 (some 46) [16, 10] rfl rfl HT_ ?_
       refine pU 16 (some 47) [17, 9] rfl rfl HT_ ?_
       refine pU 17 (some 48) [18, 8] rfl rfl HT_ ?_
       refine pU 18 (some 49) [19, 7] rfl rfl HT_ ?_
       refine pU 19 (some 50) [20, 6] rfl rfl HT_ ?_
       refine pU 20 (some 51) [21, 5] rfl rfl HT_ ?_
       refine pU 21 (some 52) [22, 4] rfl rfl HT_ ?_
       refine pU 22 (some 53) [23, 3] rfl rfl HT_ ?_
       refine pU 23 (some 54) [24, 2] rfl rfl HT_ ?_
       refine pU 24 (some 55) [25, 1] rfl rfl HT_ ?_
       refine pV 25 (some 56) [26] rfl rfl HT_ ?_
       refine done_ (done_of HT_.out (by kernel_rfl)) ?_
       try go_wp2
       go_ret
       exact ⟨tE, tH2 HB GE310.out GE314.out⟩
     rw [if_neg c15] at H
     exact absurd H (by simp)
   rw [if_neg c14] at H
   exact absurd H (by simp)
 rw [if_neg c13] at H
 have c13b0 : decide (x26_2 < (l0_1.length : Int)) = false := decide_eq_false c13
 clear c13
 obtain rfl := Option.some.inj H
 go_wp2
 go_ret
 exact ⟨tE, tH1 HB GE310.out⟩

end Go.Proofs.YtmeflmlejcmckaaDoor.PB
