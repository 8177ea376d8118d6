-- WRITTEN BY wip/gprint.py, a program of this session's over the kit's print, with contracts given by hand
import Derived.Test.YtomeeimjlagbbaaPUx0
import Derived.Test.YtomeeimjlagbbaaPUx5
namespace Go.Proofs.Ytomeeimjlagbbaa.PU
open Go.RowKit Go.Proofs.YtomeeimjlagbbaaW.PrintWords Go.Proofs.YtomeeimjlagbbaaW.PrintLast Go.Proofs.YtomeeimjlagbbaaW.PrintMore
attribute [local go_sem] max2_int min2_int max_two min_two max_three min_three max_four min_four   -- for this text's walks alone
set_option linter.unusedVariables false
set_option linter.unusedSimpArgs false

/-! ### impl_divRound: function 121 -/
def impl_divRound.f (a0 : Int) (a1 : Int) : Option (Int) := if a1 = 0 then (none) else ((impl_abs.f (Int.tmod a0 a1)).bind fun t222 => ((impl_abs.f a1).bind fun t223 => (if t222 ≥ (wrap64 (t223 - t222)) then (if ((decide (a0 < 0)) == (decide (a1 < 0))) = true then (some (wrap64 ((wrap64 (Int.tdiv a0 a1)) + 1))) else (some (wrap64 ((wrap64 (Int.tdiv a0 a1)) - 1)))) else (some (wrap64 (Int.tdiv a0 a1))))))
def impl_divRound.T1 : Bool × List (List Nat × List Nat) := (true, [([], []), ([], []), ([0, 1], [0, 1]), ([], []), ([], []), ([3, 4], [3, 4]), ([5], [5]), ([2, 6, 0, 1, 2], [2]), ([6, 7, 0, 1, 2, 3, 4, 5, 6, 7], [6])])
def impl_divRound.B1 : List Nat := [0, 0, 3, 0, 0, 24, 56, 127, 255]
theorem impl_divRound.tab1 : rtab .any (opsOf Try.f121 1) = impl_divRound.T1 := by kernel_rfl
theorem impl_divRound.bits1 : waitsOk impl_divRound.T1.2 impl_divRound.B1 = true := by kernel_rfl
set_option maxHeartbeats 8000000 in
set_option maxRecDepth 100000 in
theorem impl_divRound.calls (a0 : Int) (a1 : Int) (r : Int) (w : World) (h : impl_divRound.f a0 a1 = some r) :
 Calls Try.prog 121 #[.int .i64 a0, .int .i64 a1] w fun e w' => e = .returned (.int .i64 r) ∧ Below w.heap.size w w' := by
 have HB := Aside0.mk (Below.refl w.heap.size w)
 have H : (if a1 = 0 then (none) else ((impl_abs.f (Int.tmod a0 a1)).bind fun t222 => ((impl_abs.f a1).bind fun t223 => (if t222 ≥ (wrap64 (t223 - t222)) then (if ((decide (a0 < 0)) == (decide (a1 < 0))) = true then (some (wrap64 ((wrap64 (Int.tdiv a0 a1)) + 1))) else (some (wrap64 ((wrap64 (Int.tdiv a0 a1)) - 1)))) else (some (wrap64 (Int.tdiv a0 a1))))))) = some r := h
 clear h
 by_cases c3 : a1 = 0
 · rw [if_pos c3] at H
   exact absurd H (by simp)
 · rw [if_neg c3] at H
   have c3b0 : (a1 == 0) = false := beq_eq_false_iff_ne.mpr c3
   have c3b1 : (a1 != 0) = true := bne_iff_ne.mpr c3
   replace H := Option.bind_eq_some_iff.mp H
   obtain ⟨t222, A40, H⟩ := H
   replace H : ((impl_abs.f a1).bind fun t223 => (if t222 ≥ (wrap64 (t223 - t222)) then (if ((decide (a0 < 0)) == (decide (a1 < 0))) = true then (some (wrap64 ((wrap64 (Int.tdiv a0 a1)) + 1))) else (some (wrap64 ((wrap64 (Int.tdiv a0 a1)) - 1)))) else (some (wrap64 (Int.tdiv a0 a1))))) = some r := H
   have A4 := Aside0.mk A40
   clear A40
   replace H := Option.bind_eq_some_iff.mp H
   obtain ⟨t223, A50, H⟩ := H
   replace H : (if t222 ≥ (wrap64 (t223 - t222)) then (if ((decide (a0 < 0)) == (decide (a1 < 0))) = true then (some (wrap64 ((wrap64 (Int.tdiv a0 a1)) + 1))) else (some (wrap64 ((wrap64 (Int.tdiv a0 a1)) - 1)))) else (some (wrap64 (Int.tdiv a0 a1)))) = some r := H
   have A5 := Aside0.mk A50
   clear A50
   by_cases c6 : t222 ≥ (wrap64 (t223 - t222))
   · rw [if_pos c6] at H
     have c6b0 : decide ((wrap64 (t223 - t222)) ≤ t222) = true := decide_eq_true c6
     clear c6
     by_cases c7 : ((decide (a0 < 0)) == (decide (a1 < 0))) = true
     · rw [if_pos c7] at H
       have c7b0 : ((decide (a0 < 0)) == (decide (a1 < 0))) = true := c7
       (try (have c7b1 : decide ((decide (a0 < 0)) = (decide (a1 < 0))) = true := by simpa using c7))
       (try (have c7b2 : ((decide (a0 < 0)) == (decide (a1 < 0))) = true := by simpa using c7))
       clear c7
       obtain rfl := Option.some.inj H
       go_enter Try.func121, Try.ntmps121
       try go_wp2
       have n0_ := Aside0.mk (below_drew1 HB.out)
       clear HB
       have HB := n0_
       clear n0_
       refine start_ (n := 9) (S := fun w' => True) (ds := []) (bq [0, 9]) (by kernel_rfl) rfl rfl trivial (fun hHeld => ?_); refine with_tabW impl_divRound.tab1 impl_divRound.bits1 (fun HT_ HW_ => ?_)
       generalize w.drew = w8 at HB hHeld ⊢
       refine pV_ (i := 0) (N := some 7) (bq [1, 8]) rfl rfl HT_.out ?_
       refine pV_ (i := 1) (N := some 8) (bq [2, 7]) rfl rfl HT_.out ?_
       refine pV_ (i := 2) (N := some 9) (bq [3, 6]) rfl rfl HT_.out ?_
       refine pV_ (i := 3) (N := some 10) (bq [4, 5]) rfl rfl HT_.out ?_
       refine pV_ (i := 4) (N := some 11) (bq [5, 4]) rfl rfl HT_.out ?_
       refine pV_ (i := 5) (N := some 12) (bq [6, 3]) rfl rfl HT_.out ?_
       refine one_ (i := 6) (N := some 13) (bq [7, 2]) rfl rfl (one_of HT_.out (by kernel_rfl)) (by decide) (fun K hK => ?_)
       refine gS_ Try.func165 #[.int .i64 (Int.tmod a0 a1)] rfl rfl ?_
       with_reducible refine (impl_abs.calls (Int.tmod a0 a1) t222 _ A4.out).mono ?_
       rintro e w9 ⟨rfl, hb⟩
       refine ⟨_, rfl, ?_⟩
       have n0_ := Aside0.mk (below_step (by repeat (first | (with_reducible first | exact HB.out | apply qba | apply qbn | apply qb1) | exact HB.out)) hb)
       clear HB
       have HB := n0_
       clear n0_
       (try clear hb)
       (try clear hb2)
       (try clear hk)
       (try clear hi)
       refine hK.out _ _ trivial (fun hHeld => ?_)
       clear hK K
       refine norm_ (a' := ?_) ?_ ?_
       rotate_left
       · show Act.put _ (some 13) _ = _
         simp only [Act.put, sx0, sx1, sx2, i64_w, i32_w]
         rfl
       refine pV_ (i := 7) (N := some 5) (bq [8, 1]) rfl rfl HT_.out ?_
       refine pV_ (i := 8) (N := some 6) (bq [9]) rfl rfl HT_.out ?_
       refine done_ (done_of HT_.out (by kernel_rfl)) ?_
       try go_wp2_with (first | ((with_reducible refine gate_callee (f := 165) rfl ?_); refine gL_ (some 16) rfl rfl Try.func165 #[.int .i64 a1] rfl ?_; (with_reducible refine (impl_abs.calls a1 t223 _ A5.out).mono ?_); rintro e w10 ⟨rfl, hb⟩; refine ⟨_, rfl, ?_⟩; have n0_ := Aside0.mk (below_step (by repeat (first | (with_reducible first | exact HB.out | apply qba | apply qbn | apply qb1) | exact HB.out)) hb); clear HB; have HB := n0_; clear n0_; (try clear hb); (try clear hb2); (try clear hk); (try clear hi)))
       go_ret
       exact ⟨by first | rfl | (simp [errW_none, errW_some] <;> rfl) | (simp [*, errW_none, errW_some] <;> rfl), by repeat (first | (with_reducible first | exact HB.out | apply qba | apply qbn | apply qb1) | exact HB.out)⟩
     · rw [if_neg c7] at H
       have c7b0 : ((decide (a0 < 0)) == (decide (a1 < 0))) = false := by simpa using c7
       (try (have c7b1 : decide ((decide (a0 < 0)) = (decide (a1 < 0))) = false := by simpa using c7))
       (try (have c7b2 : ((decide (a0 < 0)) == (decide (a1 < 0))) = false := by simpa using c7))
       (try (have c7b3 : ¬ ((decide (a0 < 0)) = (decide (a1 < 0))) := by simpa using c7))
       clear c7
       obtain rfl := Option.some.inj H
       go_enter Try.func121, Try.ntmps121
       try go_wp2
       have n0_ := Aside0.mk (below_drew1 HB.out)
       clear HB
       have HB := n0_
       clear n0_
       refine start_ (n := 9) (S := fun w' => True) (ds := []) (bq [0, 9]) (by kernel_rfl) rfl rfl trivial (fun hHeld => ?_); refine with_tabW impl_divRound.tab1 impl_divRound.bits1 (fun HT_ HW_ => ?_)
       generalize w.drew = w11 at HB hHeld ⊢
       refine pV_ (i := 0) (N := some 7) (bq [1, 8]) rfl rfl HT_.out ?_
       refine pV_ (i := 1) (N := some 8) (bq [2, 7]) rfl rfl HT_.out ?_
       refine pV_ (i := 2) (N := some 9) (bq [3, 6]) rfl rfl HT_.out ?_
       refine pV_ (i := 3) (N := some 10) (bq [4, 5]) rfl rfl HT_.out ?_
       refine pV_ (i := 4) (N := some 11) (bq [5, 4]) rfl rfl HT_.out ?_
       refine pV_ (i := 5) (N := some 12) (bq [6, 3]) rfl rfl HT_.out ?_
       refine one_ (i := 6) (N := some 13) (bq [7, 2]) rfl rfl (one_of HT_.out (by kernel_rfl)) (by decide) (fun K hK => ?_)
       refine gS_ Try.func165 #[.int .i64 (Int.tmod a0 a1)] rfl rfl ?_
       with_reducible refine (impl_abs.calls (Int.tmod a0 a1) t222 _ A4.out).mono ?_
       rintro e w12 ⟨rfl, hb⟩
       refine ⟨_, rfl, ?_⟩
       have n0_ := Aside0.mk (below_step (by repeat (first | (with_reducible first | exact HB.out | apply qba | apply qbn | apply qb1) | exact HB.out)) hb)
       clear HB
       have HB := n0_
       clear n0_
       (try clear hb)
       (try clear hb2)
       (try clear hk)
       (try clear hi)
       refine hK.out _ _ trivial (fun hHeld => ?_)
       clear hK K
       refine norm_ (a' := ?_) ?_ ?_
       rotate_left
       · show Act.put _ (some 13) _ = _
         simp only [Act.put, sx0, sx1, sx2, i64_w, i32_w]
         rfl
       refine pV_ (i := 7) (N := some 5) (bq [8, 1]) rfl rfl HT_.out ?_
       refine pV_ (i := 8) (N := some 6) (bq [9]) rfl rfl HT_.out ?_
       refine done_ (done_of HT_.out (by kernel_rfl)) ?_
       try go_wp2_with (first | ((with_reducible refine gate_callee (f := 165) rfl ?_); refine gL_ (some 16) rfl rfl Try.func165 #[.int .i64 a1] rfl ?_; (with_reducible refine (impl_abs.calls a1 t223 _ A5.out).mono ?_); rintro e w13 ⟨rfl, hb⟩; refine ⟨_, rfl, ?_⟩; have n0_ := Aside0.mk (below_step (by repeat (first | (with_reducible first | exact HB.out | apply qba | apply qbn | apply qb1) | exact HB.out)) hb); clear HB; have HB := n0_; clear n0_; (try clear hb); (try clear hb2); (try clear hk); (try clear hi)))
       go_ret
       exact ⟨by first | rfl | (simp [errW_none, errW_some] <;> rfl) | (simp [*, errW_none, errW_some] <;> rfl), by repeat (first | (with_reducible first | exact HB.out | apply qba | apply qbn | apply qb1) | exact HB.out)⟩
   · rw [if_neg c6] at H
     have c6b0 : decide ((wrap64 (t223 - t222)) ≤ t222) = false := decide_eq_false c6
     clear c6
     obtain rfl := Option.some.inj H
     go_enter Try.func121, Try.ntmps121
     try go_wp2
     have n0_ := Aside0.mk (below_drew1 HB.out)
     clear HB
     have HB := n0_
     clear n0_
     refine start_ (n := 9) (S := fun w' => True) (ds := []) (bq [0, 9]) (by kernel_rfl) rfl rfl trivial (fun hHeld => ?_); refine with_tabW impl_divRound.tab1 impl_divRound.bits1 (fun HT_ HW_ => ?_)
     generalize w.drew = w14 at HB hHeld ⊢
     refine pV_ (i := 0) (N := some 7) (bq [1, 8]) rfl rfl HT_.out ?_
     refine pV_ (i := 1) (N := some 8) (bq [2, 7]) rfl rfl HT_.out ?_
     refine pV_ (i := 2) (N := some 9) (bq [3, 6]) rfl rfl HT_.out ?_
     refine pV_ (i := 3) (N := some 10) (bq [4, 5]) rfl rfl HT_.out ?_
     refine pV_ (i := 4) (N := some 11) (bq [5, 4]) rfl rfl HT_.out ?_
     refine pV_ (i := 5) (N := some 12) (bq [6, 3]) rfl rfl HT_.out ?_
     refine one_ (i := 6) (N := some 13) (bq [7, 2]) rfl rfl (one_of HT_.out (by kernel_rfl)) (by decide) (fun K hK => ?_)
     refine gS_ Try.func165 #[.int .i64 (Int.tmod a0 a1)] rfl rfl ?_
     with_reducible refine (impl_abs.calls (Int.tmod a0 a1) t222 _ A4.out).mono ?_
     rintro e w15 ⟨rfl, hb⟩
     refine ⟨_, rfl, ?_⟩
     have n0_ := Aside0.mk (below_step (by repeat (first | (with_reducible first | exact HB.out | apply qba | apply qbn | apply qb1) | exact HB.out)) hb)
     clear HB
     have HB := n0_
     clear n0_
     (try clear hb)
     (try clear hb2)
     (try clear hk)
     (try clear hi)
     refine hK.out _ _ trivial (fun hHeld => ?_)
     clear hK K
     refine norm_ (a' := ?_) ?_ ?_
     rotate_left
     · show Act.put _ (some 13) _ = _
       simp only [Act.put, sx0, sx1, sx2, i64_w, i32_w]
       rfl
     refine pV_ (i := 7) (N := some 5) (bq [8, 1]) rfl rfl HT_.out ?_
     refine pV_ (i := 8) (N := some 6) (bq [9]) rfl rfl HT_.out ?_
     refine done_ (done_of HT_.out (by kernel_rfl)) ?_
     try go_wp2_with (first | ((with_reducible refine gate_callee (f := 165) rfl ?_); refine gL_ (some 16) rfl rfl Try.func165 #[.int .i64 a1] rfl ?_; (with_reducible refine (impl_abs.calls a1 t223 _ A5.out).mono ?_); rintro e w16 ⟨rfl, hb⟩; refine ⟨_, rfl, ?_⟩; have n0_ := Aside0.mk (below_step (by repeat (first | (with_reducible first | exact HB.out | apply qba | apply qbn | apply qb1) | exact HB.out)) hb); clear HB; have HB := n0_; clear n0_; (try clear hb); (try clear hb2); (try clear hk); (try clear hi)))
     go_ret
     exact ⟨by first | rfl | (simp [errW_none, errW_some] <;> rfl) | (simp [*, errW_none, errW_some] <;> rfl), by repeat (first | (with_reducible first | exact HB.out | apply qba | apply qbn | apply qb1) | exact HB.out)⟩

end Go.Proofs.Ytomeeimjlagbbaa.PU
