-- WRITTEN BY wip/gprint.py, a program of this session's over the kit's print, with contracts given by hand
import Derived.Test.YtmeflmlejcmckaaDoorPBx0
import Derived.Test.YtmeflmlejcmckaaDoorPBx12
namespace Go.Proofs.YtmeflmlejcmckaaDoor.PB
open Go.RowKit Go.Proofs.YtmeflmlejcmckaaDoorW.PrintWords Go.Proofs.YtmeflmlejcmckaaDoorW.PrintLast Go.Proofs.YtmeflmlejcmckaaDoorW.PrintMore
attribute [local go_sem] max2_int min2_int max_two min_two max_three min_three max_four min_four   -- for this text's walks alone
set_option linter.unusedVariables false
set_option linter.unusedSimpArgs false

/-! ### impl_divRound: function 143 -/
def impl_divRound.f (a0 : Int) (a1 : Int) : Option (Int) := if a1 = 0 then (none) else ((impl_abs.f (Int.tmod a0 a1)).bind fun t322 => ((impl_abs.f a1).bind fun t323 => (if t322 ≥ (wrap64 (t323 - t322)) then (if ((decide (a0 < 0)) == (decide (a1 < 0))) = true then (some (wrap64 ((wrap64 (Int.tdiv a0 a1)) + 1))) else (some (wrap64 ((wrap64 (Int.tdiv a0 a1)) - 1)))) else (some (wrap64 (Int.tdiv a0 a1))))))
def impl_divRound.T1 : Bool × List (List Nat × List Nat) := (true, [([], []), ([], []), ([0, 1], [0, 1]), ([], []), ([], []), ([3, 4], [3, 4]), ([5], [5]), ([2, 6, 0, 1, 2], [2]), ([6, 7, 0, 1, 2, 3, 4, 5, 6, 7], [6])])
def impl_divRound.B1 : List Nat := [0, 0, 3, 0, 0, 24, 56, 127, 255]
theorem impl_divRound.tab1 : rtab .any (opsOf Tryd.f143 1) = impl_divRound.T1 := by kernel_rfl
theorem impl_divRound.bits1 : waitsOk impl_divRound.T1.2 impl_divRound.B1 = true := by kernel_rfl
set_option maxHeartbeats 8000000 in
set_option maxRecDepth 100000 in
theorem impl_divRound.calls (a0 : Int) (a1 : Int) (r : Int) (w : World) (h : impl_divRound.f a0 a1 = some r) :
 Calls Tryd.prog 143 #[.int .i64 a0, .int .i64 a1] w fun e w' => e = .returned (.int .i64 r) ∧ Below w.heap.size w w' := by
 have HB := Aside0.mk (Below.refl w.heap.size w)
 have H : (if a1 = 0 then (none) else ((impl_abs.f (Int.tmod a0 a1)).bind fun t322 => ((impl_abs.f a1).bind fun t323 => (if t322 ≥ (wrap64 (t323 - t322)) then (if ((decide (a0 < 0)) == (decide (a1 < 0))) = true then (some (wrap64 ((wrap64 (Int.tdiv a0 a1)) + 1))) else (some (wrap64 ((wrap64 (Int.tdiv a0 a1)) - 1)))) else (some (wrap64 (Int.tdiv a0 a1))))))) = some r := h
 clear h
 by_cases c3 : a1 = 0
 · rw [if_pos c3] at H
   exact absurd H (by simp)
 rw [if_neg c3] at H
 have c3b0 : (a1 == 0) = false := beq_eq_false_iff_ne.mpr c3
 have c3b1 : (a1 != 0) = true := bne_iff_ne.mpr c3
 replace H := Option.bind_eq_some_iff.mp H
 obtain ⟨t322, A40, H⟩ := H
 replace H : ((impl_abs.f a1).bind fun t323 => (if t322 ≥ (wrap64 (t323 - t322)) then (if ((decide (a0 < 0)) == (decide (a1 < 0))) = true then (some (wrap64 ((wrap64 (Int.tdiv a0 a1)) + 1))) else (some (wrap64 ((wrap64 (Int.tdiv a0 a1)) - 1)))) else (some (wrap64 (Int.tdiv a0 a1))))) = some r := H
 have A4 := Aside0.mk A40
 clear A40
 replace H := Option.bind_eq_some_iff.mp H
 obtain ⟨t323, A50, H⟩ := H
 replace H : (if t322 ≥ (wrap64 (t323 - t322)) then (if ((decide (a0 < 0)) == (decide (a1 < 0))) = true then (some (wrap64 ((wrap64 (Int.tdiv a0 a1)) + 1))) else (some (wrap64 ((wrap64 (Int.tdiv a0 a1)) - 1)))) else (some (wrap64 (Int.tdiv a0 a1)))) = some r := H
 have A5 := Aside0.mk A50
 clear A50
 by_cases c6 : t322 ≥ (wrap64 (t323 - t322))
 · rw [if_pos c6] at H
   have c6b0 : decide ((wrap64 (t323 - t322)) ≤ t322) = true := decide_eq_true c6
   clear c6
   by_cases c7 : ((decide (a0 < 0)) == (decide (a1 < 0))) = true
   · rw [if_pos c7] at H
     have c7b0 : ((decide (a0 < 0)) == (decide (a1 < 0))) = true := c7
     (try (have c7b1 : decide ((decide (a0 < 0)) = (decide (a1 < 0))) = true := by simpa using c7))
     (try (have c7b2 : ((decide (a0 < 0)) == (decide (a1 < 0))) = true := by simpa using c7))
     clear c7
     obtain rfl := Option.some.inj H
     go_enter Tryd.func143, Tryd.ntmps143
     try go_wp2
     replace HB := Aside0.mk (below_drew1 HB.out)
     refine start_ (n := 9) (S := fun w' => True) (ds := []) (bq [0, 9]) (by kernel_rfl) rfl rfl trivial (fun hHeld => ?_); refine with_tabW impl_divRound.tab1 impl_divRound.bits1 (fun HT_ HW_ => ?_)
     generalize w.drew = w8 at HB hHeld ⊢
     refine pV 0 (some 7) [1, 8] rfl rfl HT_ ?_
     refine pV 1 (some 8) [2, 7] rfl rfl HT_ ?_
     refine pV 2 (some 9) [3, 6] rfl rfl HT_ ?_
     refine pV 3 (some 10) [4, 5] rfl rfl HT_ ?_
     refine pV 4 (some 11) [5, 4] rfl rfl HT_ ?_
     refine pV 5 (some 12) [6, 3] rfl rfl HT_ ?_
     refine pO 6 (some 13) (bq [7, 2]) rfl rfl HT_ (fun K hK => ?_)
     refine gS_ Tryd.func116 #[.int .i64 (Int.tmod a0 a1)] rfl rfl ?_
     with_reducible refine (impl_abs.calls (Int.tmod a0 a1) t322 _ A4.out).mono ?_
     rintro e w9 ⟨rfl, hb⟩
     refine ⟨_, rfl, ?_⟩
     replace HB := Aside0.mk (below_step (tH HB) hb)
     (try clear hb)
     (try clear hb2)
     (try clear hk)
     (try clear hi)
     refine hK.out _ _ trivial (fun hHeld => ?_)
     clear hK K
     refine nO (some 13) ?_
     refine pV 7 (some 5) [8, 1] rfl rfl HT_ ?_
     refine pV 8 (some 6) [9] rfl rfl HT_ ?_
     refine done_ (done_of HT_.out (by kernel_rfl)) ?_
     try go_wp2_with (first | ((with_reducible refine gate_callee (f := 116) rfl ?_); refine gL_ (some 16) rfl rfl Tryd.func116 #[.int .i64 a1] rfl ?_; (with_reducible refine (impl_abs.calls a1 t323 _ A5.out).mono ?_); rintro e w10 ⟨rfl, hb⟩; refine ⟨_, rfl, ?_⟩; replace HB := Aside0.mk (below_step (tH HB) hb); (try clear hb); (try clear hb2); (try clear hk); (try clear hi)))
     go_ret
     exact ⟨tE, tH HB⟩
   rw [if_neg c7] at H
   have c7b0 : ((decide (a0 < 0)) == (decide (a1 < 0))) = false := by simpa using c7
   (try (have c7b1 : decide ((decide (a0 < 0)) = (decide (a1 < 0))) = false := by simpa using c7))
   (try (have c7b2 : ((decide (a0 < 0)) == (decide (a1 < 0))) = false := by simpa using c7))
   (try (have c7b3 : ¬ ((decide (a0 < 0)) = (decide (a1 < 0))) := by simpa using c7))
   clear c7
   obtain rfl := Option.some.inj H
   go_enter Tryd.func143, Tryd.ntmps143
   try go_wp2
   replace HB := Aside0.mk (below_drew1 HB.out)
   refine start_ (n := 9) (S := fun w' => True) (ds := []) (bq [0, 9]) (by kernel_rfl) rfl rfl trivial (fun hHeld => ?_); refine with_tabW impl_divRound.tab1 impl_divRound.bits1 (fun HT_ HW_ => ?_)
   generalize w.drew = w11 at HB hHeld ⊢
   refine pV 0 (some 7) [1, 8] rfl rfl HT_ ?_
   refine pV 1 (some 8) [2, 7] rfl rfl HT_ ?_
   refine pV 2 (some 9) [3, 6] rfl rfl HT_ ?_
   refine pV 3 (some 10) [4, 5] rfl rfl HT_ ?_
   refine pV 4 (some 11) [5, 4] rfl rfl HT_ ?_
   refine pV 5 (some 12) [6, 3] rfl rfl HT_ ?_
   refine pO 6 (some 13) (bq [7, 2]) rfl rfl HT_ (fun K hK => ?_)
   refine gS_ Tryd.func116 #[.int .i64 (Int.tmod a0 a1)] rfl rfl ?_
   with_reducible refine (impl_abs.calls (Int.tmod a0 a1) t322 _ A4.out).mono ?_
   rintro e w12 ⟨rfl, hb⟩
   refine ⟨_, rfl, ?_⟩
   replace HB := Aside0.mk (below_step (tH HB) hb)
   (try clear hb)
   (try clear hb2)
   (try clear hk)
   (try clear hi)
   refine hK.out _ _ trivial (fun hHeld => ?_)
   clear hK K
   refine nO (some 13) ?_
   refine pV 7 (some 5) [8, 1] rfl rfl HT_ ?_
   refine pV 8 (some 6) [9] rfl rfl HT_ ?_
   refine done_ (done_of HT_.out (by kernel_rfl)) ?_
   try go_wp2_with (first | ((with_reducible refine gate_callee (f := 116) rfl ?_); refine gL_ (some 16) rfl rfl Tryd.func116 #[.int .i64 a1] rfl ?_; (with_reducible refine (impl_abs.calls a1 t323 _ A5.out).mono ?_); rintro e w13 ⟨rfl, hb⟩; refine ⟨_, rfl, ?_⟩; replace HB := Aside0.mk (below_step (tH HB) hb); (try clear hb); (try clear hb2); (try clear hk); (try clear hi)))
   go_ret
   exact ⟨tE, tH HB⟩
 rw [if_neg c6] at H
 have c6b0 : decide ((wrap64 (t323 - t322)) ≤ t322) = false := decide_eq_false c6
 clear c6
 obtain rfl := Option.some.inj H
 go_enter Tryd.func143, Tryd.ntmps143
 try go_wp2
 replace HB := Aside0.mk (below_drew1 HB.out)
 refine start_ (n := 9) (S := fun w' => True) (ds := []) (bq [0, 9]) (by kernel_rfl) rfl rfl trivial (fun hHeld => ?_); refine with_tabW impl_divRound.tab1 impl_divRound.bits1 (fun HT_ HW_ => ?_)
 generalize w.drew = w14 at HB hHeld ⊢
 refine pV 0 (some 7) [1, 8] rfl rfl HT_ ?_
 refine pV 1 (some 8) [2, 7] rfl rfl HT_ ?_
 refine pV 2 (some 9) [3, 6] rfl rfl HT_ ?_
 refine pV 3 (some 10) [4, 5] rfl rfl HT_ ?_
 refine pV 4 (some 11) [5, 4] rfl rfl HT_ ?_
 refine pV 5 (some 12) [6, 3] rfl rfl HT_ ?_
 refine pO 6 (some 13) (bq [7, 2]) rfl rfl HT_ (fun K hK => ?_)
 refine gS_ Tryd.func116 #[.int .i64 (Int.tmod a0 a1)] rfl rfl ?_
 with_reducible refine (impl_abs.calls (Int.tmod a0 a1) t322 _ A4.out).mono ?_
 rintro e w15 ⟨rfl, hb⟩
 refine ⟨_, rfl, ?_⟩
 replace HB := Aside0.mk (below_step (tH HB) hb)
 (try clear hb)
 (try clear hb2)
 (try clear hk)
 (try clear hi)
 refine hK.out _ _ trivial (fun hHeld => ?_)
 clear hK K
 refine nO (some 13) ?_
 refine pV 7 (some 5) [8, 1] rfl rfl HT_ ?_
 refine pV 8 (some 6) [9] rfl rfl HT_ ?_
 refine done_ (done_of HT_.out (by kernel_rfl)) ?_
 try go_wp2_with (first | ((with_reducible refine gate_callee (f := 116) rfl ?_); refine gL_ (some 16) rfl rfl Tryd.func116 #[.int .i64 a1] rfl ?_; (with_reducible refine (impl_abs.calls a1 t323 _ A5.out).mono ?_); rintro e w16 ⟨rfl, hb⟩; refine ⟨_, rfl, ?_⟩; replace HB := Aside0.mk (below_step (tH HB) hb); (try clear hb); (try clear hb2); (try clear hk); (try clear hi)))
 go_ret
 exact ⟨tE, tH HB⟩

/-! ### impl_ToneOf: function 176 -/
def impl_ToneOf.f (a0 : Int) : Option (Int) := some (Int.tmod (wrap64 ((Int.tmod a0 12) + 12)) 12)
set_option maxHeartbeats 8000000 in
set_option maxRecDepth 100000 in
theorem impl_ToneOf.calls (a0 : Int) (r : Int) (w : World) (h : impl_ToneOf.f a0 = some r) :
 Calls Tryd.prog 176 #[.int .i64 a0] w fun e w' => e = .returned (.int .i64 r) ∧ Drawn0 w w' := by
 have H : (some (Int.tmod (wrap64 ((Int.tmod a0 12) + 12)) 12)) = some r := h
 clear h
 obtain rfl := Option.some.inj H
 go_enter Tryd.func176, Tryd.ntmps176
 go_wp2
 go_ret
 exact ⟨by first | rfl | (simp; done) | (simp [*]; done), tZ⟩

/-! ### impl_octaveOf: function 177 -/
def impl_octaveOf.f (a0 : Int) : Option (Int) := (impl_ToneOf.f a0).bind fun t324 => (some (wrap64 (Int.tdiv (wrap64 (a0 - t324)) 12)))
set_option maxHeartbeats 8000000 in
set_option maxRecDepth 100000 in
theorem impl_octaveOf.calls (a0 : Int) (r : Int) (w : World) (h : impl_octaveOf.f a0 = some r) :
 Calls Tryd.prog 177 #[.int .i64 a0] w fun e w' => e = .returned (.int .i64 r) ∧ Drawn0 w w' := by
 have H : ((impl_ToneOf.f a0).bind fun t324 => (some (wrap64 (Int.tdiv (wrap64 (a0 - t324)) 12)))) = some r := h
 clear h
 replace H := Option.bind_eq_some_iff.mp H
 obtain ⟨t324, A20, H⟩ := H
 replace H : (some (wrap64 (Int.tdiv (wrap64 (a0 - t324)) 12))) = some r := H
 have A2 := Aside0.mk A20
 clear A20
 obtain rfl := Option.some.inj H
 go_enter Tryd.func177, Tryd.ntmps177
 go_wp2_with (first | ((with_reducible refine gate_callee (f := 176) rfl ?_); refine gL_ (some 5) rfl rfl Tryd.func176 #[.int .i64 a0] rfl ?_; (with_reducible refine (impl_ToneOf.calls a0 t324 _ A2.out).mono ?_); rintro e w' ⟨rfl, ⟨nd, rfl⟩⟩; refine ⟨_, rfl, ?_⟩))
 go_ret
 exact ⟨by first | rfl | (simp; done) | (simp [*]; done), tZ⟩

end Go.Proofs.YtmeflmlejcmckaaDoor.PB
