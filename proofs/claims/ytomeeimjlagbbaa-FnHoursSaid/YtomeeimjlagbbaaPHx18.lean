-- WRITTEN BY wip/gprint.py, a program of this session's over the kit's print, with contracts given by hand
import Derived.Test.YtomeeimjlagbbaaPHx0
import Derived.Test.YtomeeimjlagbbaaPHx1
import Derived.Test.YtomeeimjlagbbaaPHx3
import Derived.Test.YtomeeimjlagbbaaPHx7
import Derived.Test.YtomeeimjlagbbaaPHx8
import Derived.Test.YtomeeimjlagbbaaPHx13
import Derived.Test.YtomeeimjlagbbaaPHx14
import Derived.Test.YtomeeimjlagbbaaPHx16
import Derived.Test.YtomeeimjlagbbaaPHx17
namespace Go.Proofs.Ytomeeimjlagbbaa.PH
open Go.RowKit Go.Proofs.YtomeeimjlagbbaaW.PrintWords Go.Proofs.YtomeeimjlagbbaaW.PrintLast Go.Proofs.YtomeeimjlagbbaaW.PrintMore
attribute [local go_sem] max2_int min2_int max_two min_two max_three min_three max_four min_four   -- for this text's walks alone
set_option linter.unusedVariables false
set_option linter.unusedSimpArgs false

attribute [local go_sem] isSome_setCell
/-! ### laws_FnHours: function 4 -/
mutual
def laws_FnHours.j0 : Nat → List Int → List Int → Bool → Option (Bool)
 | 0, _, _, _ => none
 | k + 1, x0, x1, x23 => if x23 = true then (some true) else ((spec_DrawNextStart.f x0).bind fun bt353 => ((impl_NextStart.f k bt353.1 bt353.2.1 bt353.2.2.1 bt353.2.2.2.1 bt353.2.2.2.2.1 bt353.2.2.2.2.2.1 bt353.2.2.2.2.2.2.1 bt353.2.2.2.2.2.2.2).bind fun bt362 => (if bt362.2 = 0 then ((impl_FitsTime.f k bt353.1 bt353.2.1 bt353.2.2.1 bt353.2.2.2.1 bt353.2.2.2.2.1 bt353.2.2.2.2.2.1 bt362.1 bt353.2.2.2.2.2.2.2).bind fun t364 => (if t364 = true then ((spec_FitsTime.f k bt353.1 bt353.2.1 bt353.2.2.1 bt353.2.2.2.1 bt353.2.2.2.2.1 bt353.2.2.2.2.2.1 bt362.1 bt353.2.2.2.2.2.2.2).bind fun t365 => (laws_FnHours.j1 k x1 bt353.2.2.2.2.2.2.1 bt353.2.2.2.2.2.2.2 bt362.1 (!t365) bt353.1 bt353.2.1 bt353.2.2.1 bt353.2.2.2.1 bt353.2.2.2.2.1 bt353.2.2.2.2.2.1)) else (laws_FnHours.j1 k x1 bt353.2.2.2.2.2.2.1 bt353.2.2.2.2.2.2.2 bt362.1 true bt353.1 bt353.2.1 bt353.2.2.1 bt353.2.2.2.1 bt353.2.2.2.2.1 bt353.2.2.2.2.2.1))) else (laws_FnHours.j2 k x1))))
def laws_FnHours.j2 : Nat → List Int → Option (Bool)
 | 0, _ => none
 | k + 1, x1 => (spec_DrawFittingAt.f k x1).bind fun bt368 => ((impl_FittingAt.f k bt368.1 bt368.2.1 bt368.2.2).bind fun bt373 => (if bt373.2 = 0 then (laws_FnHours.l0 k bt368.1 bt368.2.1 bt368.2.2 bt373.1 0) else (some ((bt373.1.length : Int) == 0))))
def laws_FnHours.l0 : Nat → List (S43) → Int → Int → List Int → Int → Option (Bool)
 | 0, _, _, _, _, _ => none
 | k + 1, x12, x13, x14, x15, x17 => if x17 < (x12.length : Int) then ((laws_b10Has.f k x15 x17).bind fun t378 => (if 0 ≤ x17 then ((spec_FitsTime.f k ((rd_T43 x12 x17).f0) ((rd_T43 x12 x17).f1) ((rd_T43 x12 x17).f2) ((rd_T43 x12 x17).f3) ((rd_T43 x12 x17).f4) ((rd_T43 x12 x17).f5) x13 x14).bind fun t380 => (if (t378 != t380) = true then (some false) else (laws_FnHours.l0 k x12 x13 x14 x15 (wrap64 (x17 + 1))))) else (none))) else ((laws_b10Rises.f k x15 (x12.length : Int)).bind fun t377 => (some t377))
def laws_FnHours.j1 : Nat → List Int → Int → Int → Int → Bool → ByteArray → Int → Int → Int → Int → Int → Option (Bool)
 | 0, _, _, _, _, _, _, _, _, _, _, _ => none
 | k + 1, x1, x6, x7, x8, x50, x362000, x362001, x362002, x362003, x362004, x362005 => if x50 = true then (some false) else (if x8 = x6 then (laws_FnHours.j2 k x1) else ((laws_b10At.f x1 0 1440).bind fun t366 => (if t366 < (Int.tmod (wrap64 ((wrap64 (x8 - x6)) + 1440)) 1440) then ((spec_FitsTime.f k x362000 x362001 x362002 x362003 x362004 x362005 (Int.tmod (wrap64 (x6 + t366)) 1440) x7).bind fun t367 => (if t367 = true then (some false) else (laws_FnHours.j2 k x1))) else (laws_FnHours.j2 k x1))))
end
def laws_FnHours.f (k : Nat) (l0 : List Int) (l1 : List Int) : Option (Bool) := (laws_b10Long.f l0).bind fun t351 => (if t351 = true then (laws_FnHours.j0 k l0 l1 true) else ((laws_b10Long.f l1).bind fun t352 => (laws_FnHours.j0 k l0 l1 t352)))
theorem laws_FnHours.mono_l : ∀ k, (∀ y0 y1 y2, LeO (laws_FnHours.j0 k y0 y1 y2) (laws_FnHours.j0 (k + 1) y0 y1 y2)) ∧ (∀ y0, LeO (laws_FnHours.j2 k y0) (laws_FnHours.j2 (k + 1) y0)) ∧ (∀ y0 y1 y2 y3 y4, LeO (laws_FnHours.l0 k y0 y1 y2 y3 y4) (laws_FnHours.l0 (k + 1) y0 y1 y2 y3 y4)) ∧ (∀ y0 y1 y2 y3 y4 y5 y6 y7 y8 y9 y10, LeO (laws_FnHours.j1 k y0 y1 y2 y3 y4 y5 y6 y7 y8 y9 y10) (laws_FnHours.j1 (k + 1) y0 y1 y2 y3 y4 y5 y6 y7 y8 y9 y10))
 | 0 => ⟨fun _ _ _ r h => by simp [laws_FnHours.j0] at h, fun _ r h => by simp [laws_FnHours.j2] at h, fun _ _ _ _ _ r h => by simp [laws_FnHours.l0] at h, fun _ _ _ _ _ _ _ _ _ _ _ r h => by simp [laws_FnHours.j1] at h⟩
 | k + 1 => by
  obtain ⟨ih0, ih1, ih2, ih3⟩ := laws_FnHours.mono_l k
  refine ⟨?_, ?_, ?_, ?_⟩
  · intro y0 y1 y2
    unfold laws_FnHours.j0
    repeat' first
    | (with_reducible exact ih0 _ _ _)
    | (with_reducible exact ih1 _)
    | (with_reducible exact ih2 _ _ _ _ _)
    | (with_reducible exact ih3 _ _ _ _ _ _ _ _ _ _ _)
    | (with_reducible exact impl_FitsTime.mono _ _ _ _ _ _ _ _ _)
    | (with_reducible exact impl_FittingAt.mono _ _ _ _)
    | (with_reducible exact impl_NextStart.mono _ _ _ _ _ _ _ _ _)
    | (with_reducible exact laws_b10Has.mono _ _ _)
    | (with_reducible exact laws_b10Rises.mono _ _ _)
    | (with_reducible exact spec_DrawFittingAt.mono _ _)
    | (with_reducible exact spec_FitsTime.mono _ _ _ _ _ _ _ _ _)
    | (with_reducible exact LeO.refl _)
    | (with_reducible exact LeO.none _)
    | (with_reducible refine LeO.ite ?_ ?_)
    | (with_reducible refine LeO.bind ?_ (fun _ => ?_))
    | exact ih0 _ _ _
    | exact ih1 _
    | exact ih2 _ _ _ _ _
    | exact ih3 _ _ _ _ _ _ _ _ _ _ _
    | exact impl_FitsTime.mono _ _ _ _ _ _ _ _ _
    | exact impl_FittingAt.mono _ _ _ _
    | exact impl_NextStart.mono _ _ _ _ _ _ _ _ _
    | exact laws_b10Has.mono _ _ _
    | exact laws_b10Rises.mono _ _ _
    | exact spec_DrawFittingAt.mono _ _
    | exact spec_FitsTime.mono _ _ _ _ _ _ _ _ _
    | exact LeO.none _
    | refine LeO.ite ?_ ?_
    | refine LeO.bind ?_ (fun _ => ?_)
  · intro y0
    unfold laws_FnHours.j2
    repeat' first
    | (with_reducible exact ih0 _ _ _)
    | (with_reducible exact ih1 _)
    | (with_reducible exact ih2 _ _ _ _ _)
    | (with_reducible exact ih3 _ _ _ _ _ _ _ _ _ _ _)
    | (with_reducible exact impl_FitsTime.mono _ _ _ _ _ _ _ _ _)
    | (with_reducible exact impl_FittingAt.mono _ _ _ _)
    | (with_reducible exact impl_NextStart.mono _ _ _ _ _ _ _ _ _)
    | (with_reducible exact laws_b10Has.mono _ _ _)
    | (with_reducible exact laws_b10Rises.mono _ _ _)
    | (with_reducible exact spec_DrawFittingAt.mono _ _)
    | (with_reducible exact spec_FitsTime.mono _ _ _ _ _ _ _ _ _)
    | (with_reducible exact LeO.refl _)
    | (with_reducible exact LeO.none _)
    | (with_reducible refine LeO.ite ?_ ?_)
    | (with_reducible refine LeO.bind ?_ (fun _ => ?_))
    | exact ih0 _ _ _
    | exact ih1 _
    | exact ih2 _ _ _ _ _
    | exact ih3 _ _ _ _ _ _ _ _ _ _ _
    | exact impl_FitsTime.mono _ _ _ _ _ _ _ _ _
    | exact impl_FittingAt.mono _ _ _ _
    | exact impl_NextStart.mono _ _ _ _ _ _ _ _ _
    | exact laws_b10Has.mono _ _ _
    | exact laws_b10Rises.mono _ _ _
    | exact spec_DrawFittingAt.mono _ _
    | exact spec_FitsTime.mono _ _ _ _ _ _ _ _ _
    | exact LeO.none _
    | refine LeO.ite ?_ ?_
    | refine LeO.bind ?_ (fun _ => ?_)
  · intro y0 y1 y2 y3 y4
    unfold laws_FnHours.l0
    repeat' first
    | (with_reducible exact ih0 _ _ _)
    | (with_reducible exact ih1 _)
    | (with_reducible exact ih2 _ _ _ _ _)
    | (with_reducible exact ih3 _ _ _ _ _ _ _ _ _ _ _)
    | (with_reducible exact impl_FitsTime.mono _ _ _ _ _ _ _ _ _)
    | (with_reducible exact impl_FittingAt.mono _ _ _ _)
    | (with_reducible exact impl_NextStart.mono _ _ _ _ _ _ _ _ _)
    | (with_reducible exact laws_b10Has.mono _ _ _)
    | (with_reducible exact laws_b10Rises.mono _ _ _)
    | (with_reducible exact spec_DrawFittingAt.mono _ _)
    | (with_reducible exact spec_FitsTime.mono _ _ _ _ _ _ _ _ _)
    | (with_reducible exact LeO.refl _)
    | (with_reducible exact LeO.none _)
    | (with_reducible refine LeO.ite ?_ ?_)
    | (with_reducible refine LeO.bind ?_ (fun _ => ?_))
    | exact ih0 _ _ _
    | exact ih1 _
    | exact ih2 _ _ _ _ _
    | exact ih3 _ _ _ _ _ _ _ _ _ _ _
    | exact impl_FitsTime.mono _ _ _ _ _ _ _ _ _
    | exact impl_FittingAt.mono _ _ _ _
    | exact impl_NextStart.mono _ _ _ _ _ _ _ _ _
    | exact laws_b10Has.mono _ _ _
    | exact laws_b10Rises.mono _ _ _
    | exact spec_DrawFittingAt.mono _ _
    | exact spec_FitsTime.mono _ _ _ _ _ _ _ _ _
    | exact LeO.none _
    | refine LeO.ite ?_ ?_
    | refine LeO.bind ?_ (fun _ => ?_)
  · intro y0 y1 y2 y3 y4 y5 y6 y7 y8 y9 y10
    unfold laws_FnHours.j1
    repeat' first
    | (with_reducible exact ih0 _ _ _)
    | (with_reducible exact ih1 _)
    | (with_reducible exact ih2 _ _ _ _ _)
    | (with_reducible exact ih3 _ _ _ _ _ _ _ _ _ _ _)
    | (with_reducible exact impl_FitsTime.mono _ _ _ _ _ _ _ _ _)
    | (with_reducible exact impl_FittingAt.mono _ _ _ _)
    | (with_reducible exact impl_NextStart.mono _ _ _ _ _ _ _ _ _)
    | (with_reducible exact laws_b10Has.mono _ _ _)
    | (with_reducible exact laws_b10Rises.mono _ _ _)
    | (with_reducible exact spec_DrawFittingAt.mono _ _)
    | (with_reducible exact spec_FitsTime.mono _ _ _ _ _ _ _ _ _)
    | (with_reducible exact LeO.refl _)
    | (with_reducible exact LeO.none _)
    | (with_reducible refine LeO.ite ?_ ?_)
    | (with_reducible refine LeO.bind ?_ (fun _ => ?_))
    | exact ih0 _ _ _
    | exact ih1 _
    | exact ih2 _ _ _ _ _
    | exact ih3 _ _ _ _ _ _ _ _ _ _ _
    | exact impl_FitsTime.mono _ _ _ _ _ _ _ _ _
    | exact impl_FittingAt.mono _ _ _ _
    | exact impl_NextStart.mono _ _ _ _ _ _ _ _ _
    | exact laws_b10Has.mono _ _ _
    | exact laws_b10Rises.mono _ _ _
    | exact spec_DrawFittingAt.mono _ _
    | exact spec_FitsTime.mono _ _ _ _ _ _ _ _ _
    | exact LeO.none _
    | refine LeO.ite ?_ ?_
    | refine LeO.bind ?_ (fun _ => ?_)
theorem laws_FnHours.mono : ∀ a0 a1 k, LeO (laws_FnHours.f k a0 a1) (laws_FnHours.f (k + 1) a0 a1) := by
 intro a0 a1 k
 obtain ⟨ih0, ih1, ih2, ih3⟩ := laws_FnHours.mono_l k
 unfold laws_FnHours.f
 repeat' first
  | (with_reducible exact ih0 _ _ _)
  | (with_reducible exact ih1 _)
  | (with_reducible exact ih2 _ _ _ _ _)
  | (with_reducible exact ih3 _ _ _ _ _ _ _ _ _ _ _)
  | (with_reducible exact impl_FitsTime.mono _ _ _ _ _ _ _ _ _)
  | (with_reducible exact impl_FittingAt.mono _ _ _ _)
  | (with_reducible exact impl_NextStart.mono _ _ _ _ _ _ _ _ _)
  | (with_reducible exact laws_b10Has.mono _ _ _)
  | (with_reducible exact laws_b10Rises.mono _ _ _)
  | (with_reducible exact spec_DrawFittingAt.mono _ _)
  | (with_reducible exact spec_FitsTime.mono _ _ _ _ _ _ _ _ _)
  | (with_reducible exact LeO.refl _)
  | (with_reducible exact LeO.none _)
  | (with_reducible refine LeO.ite ?_ ?_)
  | (with_reducible refine LeO.bind ?_ (fun _ => ?_))
  | exact ih0 _ _ _
  | exact ih1 _
  | exact ih2 _ _ _ _ _
  | exact ih3 _ _ _ _ _ _ _ _ _ _ _
  | exact impl_FitsTime.mono _ _ _ _ _ _ _ _ _
  | exact impl_FittingAt.mono _ _ _ _
  | exact impl_NextStart.mono _ _ _ _ _ _ _ _ _
  | exact laws_b10Has.mono _ _ _
  | exact laws_b10Rises.mono _ _ _
  | exact spec_DrawFittingAt.mono _ _
  | exact spec_FitsTime.mono _ _ _ _ _ _ _ _ _
  | exact LeO.none _
  | refine LeO.ite ?_ ?_
  | refine LeO.bind ?_ (fun _ => ?_)
def laws_FnHours.T20 : Bool × List (List Nat × List Nat) := (true, [([], []), ([], []), ([0, 1], [0, 1]), ([], []), ([], []), ([3, 4], [3, 4]), ([5], [5]), ([], []), ([], []), ([6, 7, 8, 2], [6, 7, 8]), ([2, 9], [2, 9])])
def laws_FnHours.B20 : List Nat := [0, 0, 3, 0, 0, 24, 56, 0, 0, 511, 1023]
theorem laws_FnHours.tab20 : rtab .any (opsOf Try.f4 20) = laws_FnHours.T20 := by kernel_rfl
theorem laws_FnHours.bits20 : waitsOk laws_FnHours.T20.2 laws_FnHours.B20 = true := by kernel_rfl
set_option maxHeartbeats 8000000 in
set_option maxRecDepth 100000 in
theorem laws_FnHours.calls (k : Nat) (A0 : Option Addr) (c0 : Nat) (l0 : List Int) (A1 : Option Addr) (c1 : Nat) (l1 : List Int) (r : Bool) (w : World) (hr0 : Kd.C (Kd.int .u8) w A0 l0.length l0) (hc0 : l0.length ≤ c0) (hr1 : Kd.C (Kd.int .u8) w A1 l1.length l1) (hc1 : l1.length ≤ c1) (h : laws_FnHours.f k l0 l1 = some r) :
 Calls Try.prog 4 #[.slice A0 l0.length c0, .slice A1 l1.length c1] w fun e w' => e = .returned (.bool r) ∧ Below w.heap.size w w' := by
 have hu43 := Try.underlying43
 have HR0 := Aside0.mk hr0
 have HC0 := Aside0.mk hc0
 clear hr0 hc0
 have HR1 := Aside0.mk hr1
 have HC1 := Aside0.mk hc1
 clear hr1 hc1
 have HB := Aside0.mk (Below.refl w.heap.size w)
 have H : ((laws_b10Long.f l0).bind fun t351 => (if t351 = true then (laws_FnHours.j0 k l0 l1 true) else ((laws_b10Long.f l1).bind fun t352 => (laws_FnHours.j0 k l0 l1 t352)))) = some r := h
 clear h
 have HC3 := Aside0.mk H
 clear H
 go_enter Try.func4, Try.ntmps4
 go_upto_region 1 with (fail)
 go_cut [23] (fun v23 wc => ∃ (kq : Nat) (x23_2 : Bool), v23 = .bool x23_2 ∧ Aside0 (laws_FnHours.j0 kq l0 l1 x23_2 = some r) ∧ Aside0 (kq ≤ k) ∧ Aside0 (Below w.heap.size w wc))
 case first =>
  have H := HC3.out
  clear HC3
  replace H := Option.bind_eq_some_iff.mp H
  obtain ⟨t351, A40, H⟩ := H
  replace H : (if t351 = true then (laws_FnHours.j0 k l0 l1 true) else ((laws_b10Long.f l1).bind fun t352 => (laws_FnHours.j0 k l0 l1 t352))) = some r := H
  have A4 := Aside0.mk A40
  clear A40
  by_cases c5 : t351 = true
  · subst c5
    have H1 : (laws_FnHours.j0 k l0 l1 true) = some r := by rw [if_pos rfl] at H; exact H
    clear H
    have H := H1
    clear H1
    have H' := Aside0.mk H
    clear H
    go_wp2_with (first | ((with_reducible refine gate_callee (f := 19) rfl ?_); refine gL_ (some 19) rfl rfl Try.func19 #[.slice A0 l0.length c0] rfl ?_; (with_reducible refine (laws_b10Long.calls _ _ l0 true _ ?side1 ?side2 A4.out).mono ?_); (case side1 => repeat (first | exact (Kd.C_below HR0.out HB.out) | (with_reducible refine Kd.C_alloc ?_ _) | (with_reducible refine Kd.C_drewN ?_ _) | (with_reducible refine Kd.C_drew ?_))); (case side2 => exact HC0.out); rintro e w' ⟨rfl, ⟨nd, rfl⟩⟩; refine ⟨_, rfl, ?_⟩))
    go_meet
    case rel => exact ⟨_, (true), (by first | rfl | (simp; done) | (simp [*]; done)), H', ⟨by first | omega | exact Nat.le_refl _⟩, ⟨by repeat (first | (with_reducible first | exact HB.out | apply qba | apply qbn | apply qb1) | exact HB.out)⟩⟩
  · replace c5 := Bool.eq_false_iff.mpr c5
    subst c5
    have H1 : ((laws_b10Long.f l1).bind fun t352 => (laws_FnHours.j0 k l0 l1 t352)) = some r := by rw [if_neg (show ¬ (false = true) by decide)] at H; exact H
    clear H
    have H := H1
    clear H1
    replace H := Option.bind_eq_some_iff.mp H
    obtain ⟨t352, A60, H⟩ := H
    replace H : (laws_FnHours.j0 k l0 l1 t352) = some r := H
    have A6 := Aside0.mk A60
    clear A60
    have H' := Aside0.mk H
    clear H
    go_wp2_with (first | ((with_reducible refine gate_callee (f := 19) rfl ?_); refine gL_ (some 19) rfl rfl Try.func19 #[.slice A0 l0.length c0] rfl ?_; (with_reducible refine (laws_b10Long.calls _ _ l0 false _ ?side1 ?side2 A4.out).mono ?_); (case side1 => repeat (first | exact (Kd.C_below HR0.out HB.out) | (with_reducible refine Kd.C_alloc ?_ _) | (with_reducible refine Kd.C_drewN ?_ _) | (with_reducible refine Kd.C_drew ?_))); (case side2 => exact HC0.out); rintro e w' ⟨rfl, ⟨nd, rfl⟩⟩; refine ⟨_, rfl, ?_⟩) | (go_at_call 19; (with_reducible refine (laws_b10Long.calls _ _ l1 t352 _ ?side1 ?side2 A6.out).mono ?_); (case side1 => repeat (first | exact (Kd.C_below HR1.out (by repeat (first | (with_reducible first | exact HB.out | apply qba | apply qbn | apply qb1) | exact HB.out))) | (with_reducible refine Kd.C_alloc ?_ _) | (with_reducible refine Kd.C_drewN ?_ _) | (with_reducible refine Kd.C_drew ?_))); (case side2 => exact HC1.out); rintro e w' ⟨rfl, ⟨nd, rfl⟩⟩))
    go_meet
    case rel => exact ⟨_, (t352), (by first | rfl | (simp; done) | (simp [*]; done)), H', ⟨by first | omega | exact Nat.le_refl _⟩, ⟨by repeat (first | (with_reducible first | exact HB.out | apply qba | apply qbn | apply qb1) | exact HB.out)⟩⟩
 case rest =>
  clear HC3
  try clear c1
  try clear p2
  try clear c4
  try clear c5
  obtain ⟨kq, x23_2, rfl, HA, HJ2, HB⟩ := hcut
  cases kq with
  | zero => exact absurd HA.out (by simp [laws_FnHours.j0])
  | succ kj2 =>
   have H := HA.out
   clear HA
   simp only [laws_FnHours.j0] at H
   by_cases c7 : x23_2 = true
   · subst c7
     have H1 : (some true) = some r := by rw [if_pos rfl] at H; exact H
     clear H
     have H := H1
     clear H1
     obtain rfl := Option.some.inj H
     go_wp2
     go_ret
     exact ⟨by first | rfl | (simp [errW_none, errW_some] <;> rfl) | (simp [*, errW_none, errW_some] <;> rfl), by repeat (first | (with_reducible first | exact HB.out | apply qba | apply qbn | apply qb1) | exact HB.out)⟩
   · replace c7 := Bool.eq_false_iff.mpr c7
     subst c7
     have H1 : ((spec_DrawNextStart.f l0).bind fun bt353 => ((impl_NextStart.f kj2 bt353.1 bt353.2.1 bt353.2.2.1 bt353.2.2.2.1 bt353.2.2.2.2.1 bt353.2.2.2.2.2.1 bt353.2.2.2.2.2.2.1 bt353.2.2.2.2.2.2.2).bind fun bt362 => (if bt362.2 = 0 then ((impl_FitsTime.f kj2 bt353.1 bt353.2.1 bt353.2.2.1 bt353.2.2.2.1 bt353.2.2.2.2.1 bt353.2.2.2.2.2.1 bt362.1 bt353.2.2.2.2.2.2.2).bind fun t364 => (if t364 = true then ((spec_FitsTime.f kj2 bt353.1 bt353.2.1 bt353.2.2.1 bt353.2.2.2.1 bt353.2.2.2.2.1 bt353.2.2.2.2.2.1 bt362.1 bt353.2.2.2.2.2.2.2).bind fun t365 => (laws_FnHours.j1 kj2 l1 bt353.2.2.2.2.2.2.1 bt353.2.2.2.2.2.2.2 bt362.1 (!t365) bt353.1 bt353.2.1 bt353.2.2.1 bt353.2.2.2.1 bt353.2.2.2.2.1 bt353.2.2.2.2.2.1)) else (laws_FnHours.j1 kj2 l1 bt353.2.2.2.2.2.2.1 bt353.2.2.2.2.2.2.2 bt362.1 true bt353.1 bt353.2.1 bt353.2.2.1 bt353.2.2.2.1 bt353.2.2.2.2.1 bt353.2.2.2.2.2.1))) else (laws_FnHours.j2 kj2 l1)))) = some r := by rw [if_neg (show ¬ (false = true) by decide)] at H; exact H
     clear H
     have H := H1
     clear H1
     replace H := Option.bind_eq_some_iff.mp H
     obtain ⟨⟨t353, t354, t355, t356, t357, t358, t359, t360⟩, A80, H⟩ := H
     replace H : ((impl_NextStart.f kj2 t353 t354 t355 t356 t357 t358 t359 t360).bind fun bt362 => (if bt362.2 = 0 then ((impl_FitsTime.f kj2 t353 t354 t355 t356 t357 t358 bt362.1 t360).bind fun t364 => (if t364 = true then ((spec_FitsTime.f kj2 t353 t354 t355 t356 t357 t358 bt362.1 t360).bind fun t365 => (laws_FnHours.j1 kj2 l1 t359 t360 bt362.1 (!t365) t353 t354 t355 t356 t357 t358)) else (laws_FnHours.j1 kj2 l1 t359 t360 bt362.1 true t353 t354 t355 t356 t357 t358))) else (laws_FnHours.j2 kj2 l1))) = some r := H
     have A8 := Aside0.mk A80
     clear A80
     replace H := Option.bind_eq_some_iff.mp H
     obtain ⟨⟨t362, t363⟩, A90, H⟩ := H
     replace H : (if t363 = 0 then ((impl_FitsTime.f kj2 t353 t354 t355 t356 t357 t358 t362 t360).bind fun t364 => (if t364 = true then ((spec_FitsTime.f kj2 t353 t354 t355 t356 t357 t358 t362 t360).bind fun t365 => (laws_FnHours.j1 kj2 l1 t359 t360 t362 (!t365) t353 t354 t355 t356 t357 t358)) else (laws_FnHours.j1 kj2 l1 t359 t360 t362 true t353 t354 t355 t356 t357 t358))) else (laws_FnHours.j2 kj2 l1)) = some r := H
     have A9 := Aside0.mk A90
     clear A90
     have HC10 := Aside0.mk H
     clear H
     go_upto_if 38 with (first | ((with_reducible refine gate_callee (f := 20) rfl ?_); refine gL_ (some 26) rfl rfl Try.func20 #[.slice A0 l0.length c0] rfl ?_; (with_reducible refine (spec_DrawNextStart.calls _ _ l0 t353 t354 t355 t356 t357 t358 t359 t360 _ ?side1 ?side2 A8.out).mono ?_); (case side1 => repeat (first | exact (Kd.C_below HR0.out HB.out) | (with_reducible refine Kd.C_alloc ?_ _) | (with_reducible refine Kd.C_drewN ?_ _) | (with_reducible refine Kd.C_drew ?_))); (case side2 => exact HC0.out); rintro e w11 ⟨rfl, hb⟩; refine ⟨_, rfl, ?_⟩; have n0_ := Aside0.mk (below_step (by repeat (first | (with_reducible first | exact HB.out | apply qba | apply qbn | apply qb1) | exact HB.out)) hb); clear HB; have HB := n0_; clear n0_; (try clear hb); (try clear hb2); (try clear hk); (try clear hi)) | ((with_reducible refine gate_dst (N := 5) rfl ?_); refine box_event ?hg (N := 5) ?hd (cs := #[.string (⟨#[]⟩ : ByteArray), .int .i64 0, .int .i64 0, .int .i64 0, .int .i64 0, .int .i64 0]) (t := 43) ?hr ?_; (case hd => rfl); (case hg => rfl); (case hr => first | (go_simp; done) | (go_simp; rfl)); intro gb361 hg w12 hbox hb; have n0_ := Aside0.mk (below_step (by repeat (first | (with_reducible first | exact HB.out | apply qba | apply qbn | apply qb1) | exact HB.out)) hb); have n1_ := Aside0.mk (hbox); have n2_ := Aside0.mk ((by rw [hg]; exact (below_size (by repeat (first | (with_reducible first | exact HB.out | apply qba | apply qbn | apply qb1) | exact HB.out))) : w.heap.size ≤ gb361)); have n3_ := Aside0.mk ((by rw [hg]; exact (below_size (by repeat (first | (with_reducible first | exact HB.out | apply qba | apply qbn | apply qb1) | exact HB.out))) : w.heap.size ≤ gb361)); clear HB; have HB := n0_; have BK361 := n1_; have GW361 := n2_; have GE361 := n3_; clear n0_ n1_ n2_ n3_; clear hb hbox hg; have hcz13_0 : w12.cell? ⟨gb361, 0, none⟩ = some (.string (⟨#[]⟩ : ByteArray)) := (blk_cell BK361.out 0).trans rfl; have hcz13_1 : w12.cell? ⟨gb361, 1, none⟩ = some (.int .i64 0) := (blk_cell BK361.out 1).trans rfl; have hcz13_2 : w12.cell? ⟨gb361, 2, none⟩ = some (.int .i64 0) := (blk_cell BK361.out 2).trans rfl; have hcz13_3 : w12.cell? ⟨gb361, 3, none⟩ = some (.int .i64 0) := (blk_cell BK361.out 3).trans rfl; have hcz13_4 : w12.cell? ⟨gb361, 4, none⟩ = some (.int .i64 0) := (blk_cell BK361.out 4).trans rfl; have hcz13_5 : w12.cell? ⟨gb361, 5, none⟩ = some (.int .i64 0) := (blk_cell BK361.out 5).trans rfl; have hfz13_0 := blk_frozen BK361.out 0; have hfz13_1 := blk_frozen BK361.out 1; have hfz13_2 := blk_frozen BK361.out 2; have hfz13_3 := blk_frozen BK361.out 3; have hfz13_4 := blk_frozen BK361.out 4; have hfz13_5 := blk_frozen BK361.out 5) | ((with_reducible refine gate_callee (f := 21) rfl ?_); refine gL_ (some 34) rfl rfl Try.func21 #[.agg #[.string t353, .int .i64 t354, .int .i64 t355, .int .i64 t356, .int .i64 t357, .int .i64 t358], .int .i64 t359, .int .i64 t360] rfl ?_; (with_reducible refine (impl_NextStart.calls kj2 t353 t354 t355 t356 t357 t358 t359 t360 t362 t363 _ A9.out).mono ?_); rintro e w14 ⟨rfl, hb⟩; refine ⟨_, rfl, ?_⟩; have n0_ := Aside0.mk (blk_below (g := gb361) (o := .cells #[.string t353, .int .i64 t354, .int .i64 t355, .int .i64 t356, .int .i64 t357, .int .i64 t358] 43 (0, 0)) (by (with_reducible repeat (first | refine blk_drewN ?_ _ | refine blk_drew ?_ | refine blk_alloc ?_ _)); refine blk_put (cs := #[.string t353, .int .i64 t354, .int .i64 t355, .int .i64 t356, .int .i64 t357, .int .i64 0]) ?_ 5 _ rfl; (with_reducible repeat (first | refine blk_drewN ?_ _ | refine blk_drew ?_ | refine blk_alloc ?_ _)); refine blk_put (cs := #[.string t353, .int .i64 t354, .int .i64 t355, .int .i64 t356, .int .i64 0, .int .i64 0]) ?_ 4 _ rfl; (with_reducible repeat (first | refine blk_drewN ?_ _ | refine blk_drew ?_ | refine blk_alloc ?_ _)); refine blk_put (cs := #[.string t353, .int .i64 t354, .int .i64 t355, .int .i64 0, .int .i64 0, .int .i64 0]) ?_ 3 _ rfl; (with_reducible repeat (first | refine blk_drewN ?_ _ | refine blk_drew ?_ | refine blk_alloc ?_ _)); refine blk_put (cs := #[.string t353, .int .i64 t354, .int .i64 0, .int .i64 0, .int .i64 0, .int .i64 0]) ?_ 2 _ rfl; (with_reducible repeat (first | refine blk_drewN ?_ _ | refine blk_drew ?_ | refine blk_alloc ?_ _)); refine blk_put (cs := #[.string t353, .int .i64 0, .int .i64 0, .int .i64 0, .int .i64 0, .int .i64 0]) ?_ 1 _ rfl; (with_reducible repeat (first | refine blk_drewN ?_ _ | refine blk_drew ?_ | refine blk_alloc ?_ _)); refine blk_put (cs := #[.string (⟨#[]⟩ : ByteArray), .int .i64 0, .int .i64 0, .int .i64 0, .int .i64 0, .int .i64 0]) ?_ 0 _ rfl; (with_reducible repeat (first | refine blk_drewN ?_ _ | refine blk_drew ?_ | refine blk_alloc ?_ _)); exact BK361.out) hb); have n1_ := Aside0.mk (below_step (by repeat (first | (with_reducible first | exact HB.out | apply qba | apply qbn | apply qb1 | refine below_set ?_ GE361.out) | exact HB.out)) hb); clear BK361; clear HB; have BK361 := n0_; have HB := n1_; clear n0_ n1_; (try clear hb); (try clear hb2); (try clear hk); (try clear hi)))
     (try simp only [Act.put, sx0, sx1, sx2])
     go_cut [] (fun wc => ∃ (kq : Nat), Aside0 (laws_FnHours.j2 kq l1 = some r) ∧ Aside0 (kq ≤ kj2) ∧ Aside0 (wc.heap[gb361]? = some (.cells #[.string t353, .int .i64 t354, .int .i64 t355, .int .i64 t356, .int .i64 t357, .int .i64 t358] 43 (0, 0))) ∧ Aside0 (Below w.heap.size w wc))
     case first =>
      have H := HC10.out
      clear HC10
      by_cases c15 : t363 = 0
      · rw [if_pos c15] at H
        have c15b0 : (t363 == 0) = true := beq_iff_eq.mpr c15
        have c15b1 : (t363 != 0) = false := bne_eq_false_iff_eq.mpr c15
        clear c15
        (first | rw [c15b0] | (simp only [i64_w, i32_w]; rw [c15b0]) | skip)
        have HC16 := Aside0.mk H
        clear H
        go_upto_region 6 with (fail)
        go_cut [50] (fun v50 wc => ∃ (kq : Nat) (x50_15 : Bool), v50 = .bool x50_15 ∧ Aside0 (laws_FnHours.j1 kq l1 t359 t360 t362 x50_15 t353 t354 t355 t356 t357 t358 = some r) ∧ Aside0 (kq ≤ kj2) ∧ Aside0 (wc.heap[gb361]? = some (.cells #[.string t353, .int .i64 t354, .int .i64 t355, .int .i64 t356, .int .i64 t357, .int .i64 t358] 43 (0, 0))) ∧ Aside0 (Below w.heap.size w wc))
        case first =>
         have H := HC16.out
         clear HC16
         replace H := Option.bind_eq_some_iff.mp H
         obtain ⟨t364, A170, H⟩ := H
         replace H : (if t364 = true then ((spec_FitsTime.f kj2 t353 t354 t355 t356 t357 t358 t362 t360).bind fun t365 => (laws_FnHours.j1 kj2 l1 t359 t360 t362 (!t365) t353 t354 t355 t356 t357 t358)) else (laws_FnHours.j1 kj2 l1 t359 t360 t362 true t353 t354 t355 t356 t357 t358)) = some r := H
         have A17 := Aside0.mk A170
         clear A170
         by_cases c18 : t364 = true
         · subst c18
           have H1 : ((spec_FitsTime.f kj2 t353 t354 t355 t356 t357 t358 t362 t360).bind fun t365 => (laws_FnHours.j1 kj2 l1 t359 t360 t362 (!t365) t353 t354 t355 t356 t357 t358)) = some r := by rw [if_pos rfl] at H; exact H
           clear H
           have H := H1
           clear H1
           replace H := Option.bind_eq_some_iff.mp H
           obtain ⟨t365, A190, H⟩ := H
           replace H : (laws_FnHours.j1 kj2 l1 t359 t360 t362 (!t365) t353 t354 t355 t356 t357 t358) = some r := H
           have A19 := Aside0.mk A190
           clear A190
           have H' := Aside0.mk H
           clear H
           have hcz20_0 : w14.cell? ⟨gb361, 0, none⟩ = some (.string t353) := (blk_cell BK361.out 0).trans rfl
           have hcz20_1 : w14.cell? ⟨gb361, 1, none⟩ = some (.int .i64 t354) := (blk_cell BK361.out 1).trans rfl
           have hcz20_2 : w14.cell? ⟨gb361, 2, none⟩ = some (.int .i64 t355) := (blk_cell BK361.out 2).trans rfl
           have hcz20_3 : w14.cell? ⟨gb361, 3, none⟩ = some (.int .i64 t356) := (blk_cell BK361.out 3).trans rfl
           have hcz20_4 : w14.cell? ⟨gb361, 4, none⟩ = some (.int .i64 t357) := (blk_cell BK361.out 4).trans rfl
           have hcz20_5 : w14.cell? ⟨gb361, 5, none⟩ = some (.int .i64 t358) := (blk_cell BK361.out 5).trans rfl
           have hfz20_0 := blk_frozen BK361.out 0
           have hfz20_1 := blk_frozen BK361.out 1
           have hfz20_2 := blk_frozen BK361.out 2
           have hfz20_3 := blk_frozen BK361.out 3
           have hfz20_4 := blk_frozen BK361.out 4
           have hfz20_5 := blk_frozen BK361.out 5
           go_wp2_with (first | ((with_reducible refine gate_callee (f := 22) rfl ?_); refine gL_ (some 42) rfl rfl Try.func22 #[.agg #[.string t353, .int .i64 t354, .int .i64 t355, .int .i64 t356, .int .i64 t357, .int .i64 t358], .int .i64 t362, .int .i64 t360] rfl ?_; (with_reducible refine (impl_FitsTime.calls kj2 t353 t354 t355 t356 t357 t358 t362 t360 true _ A17.out).mono ?_); rintro e w21 ⟨rfl, hb⟩; refine ⟨_, rfl, ?_⟩; have n0_ := Aside0.mk (blk_below (g := gb361) (o := .cells #[.string t353, .int .i64 t354, .int .i64 t355, .int .i64 t356, .int .i64 t357, .int .i64 t358] 43 (0, 0)) (by (with_reducible repeat (first | refine blk_drewN ?_ _ | refine blk_drew ?_ | refine blk_alloc ?_ _)); exact BK361.out) hb); have n1_ := Aside0.mk (below_step (by repeat (first | (with_reducible first | exact HB.out | apply qba | apply qbn | apply qb1 | refine below_set ?_ GE361.out) | exact HB.out)) hb); clear BK361; clear HB; have BK361 := n0_; have HB := n1_; clear n0_ n1_; (try clear hb); (try clear hb2); (try clear hk); (try clear hi); have hcz22_0 : w21.cell? ⟨gb361, 0, none⟩ = some (.string t353) := (blk_cell BK361.out 0).trans rfl; have hcz22_1 : w21.cell? ⟨gb361, 1, none⟩ = some (.int .i64 t354) := (blk_cell BK361.out 1).trans rfl; have hcz22_2 : w21.cell? ⟨gb361, 2, none⟩ = some (.int .i64 t355) := (blk_cell BK361.out 2).trans rfl; have hcz22_3 : w21.cell? ⟨gb361, 3, none⟩ = some (.int .i64 t356) := (blk_cell BK361.out 3).trans rfl; have hcz22_4 : w21.cell? ⟨gb361, 4, none⟩ = some (.int .i64 t357) := (blk_cell BK361.out 4).trans rfl; have hcz22_5 : w21.cell? ⟨gb361, 5, none⟩ = some (.int .i64 t358) := (blk_cell BK361.out 5).trans rfl; have hfz22_0 := blk_frozen BK361.out 0; have hfz22_1 := blk_frozen BK361.out 1; have hfz22_2 := blk_frozen BK361.out 2; have hfz22_3 := blk_frozen BK361.out 3; have hfz22_4 := blk_frozen BK361.out 4; have hfz22_5 := blk_frozen BK361.out 5) | (go_at_call 23; (with_reducible refine (spec_FitsTime.calls kj2 t353 t354 t355 t356 t357 t358 t362 t360 t365 _ A19.out).mono ?_); rintro e w23 ⟨rfl, hb⟩; have n0_ := Aside0.mk (blk_below (g := gb361) (o := .cells #[.string t353, .int .i64 t354, .int .i64 t355, .int .i64 t356, .int .i64 t357, .int .i64 t358] 43 (0, 0)) (by (with_reducible repeat (first | refine blk_drewN ?_ _ | refine blk_drew ?_ | refine blk_alloc ?_ _)); exact BK361.out) hb); have n1_ := Aside0.mk (below_step (by repeat (first | (with_reducible first | exact HB.out | apply qba | apply qbn | apply qb1 | refine below_set ?_ GE361.out) | exact HB.out)) hb); clear BK361; clear HB; have BK361 := n0_; have HB := n1_; clear n0_ n1_; (try clear hb); (try clear hb2); (try clear hk); (try clear hi)))
           go_meet
           case rel => exact ⟨_, (!t365), (by first | rfl | (simp; done) | (simp [*]; done)), H', ⟨by have := HJ2.out; first | omega | exact Nat.le_refl _⟩, ⟨by (with_reducible repeat (first | refine blk_drewN ?_ _ | refine blk_drew ?_ | refine blk_alloc ?_ _)); exact BK361.out⟩, ⟨by repeat (first | (with_reducible first | exact HB.out | apply qba | apply qbn | apply qb1 | refine below_set ?_ GE361.out) | exact HB.out)⟩⟩
         · replace c18 := Bool.eq_false_iff.mpr c18
           subst c18
           have H1 : (laws_FnHours.j1 kj2 l1 t359 t360 t362 true t353 t354 t355 t356 t357 t358) = some r := by rw [if_neg (show ¬ (false = true) by decide)] at H; exact H
           clear H
           have H := H1
           clear H1
           have H' := Aside0.mk H
           clear H
           have hcz24_0 : w14.cell? ⟨gb361, 0, none⟩ = some (.string t353) := (blk_cell BK361.out 0).trans rfl
           have hcz24_1 : w14.cell? ⟨gb361, 1, none⟩ = some (.int .i64 t354) := (blk_cell BK361.out 1).trans rfl
           have hcz24_2 : w14.cell? ⟨gb361, 2, none⟩ = some (.int .i64 t355) := (blk_cell BK361.out 2).trans rfl
           have hcz24_3 : w14.cell? ⟨gb361, 3, none⟩ = some (.int .i64 t356) := (blk_cell BK361.out 3).trans rfl
           have hcz24_4 : w14.cell? ⟨gb361, 4, none⟩ = some (.int .i64 t357) := (blk_cell BK361.out 4).trans rfl
           have hcz24_5 : w14.cell? ⟨gb361, 5, none⟩ = some (.int .i64 t358) := (blk_cell BK361.out 5).trans rfl
           have hfz24_0 := blk_frozen BK361.out 0
           have hfz24_1 := blk_frozen BK361.out 1
           have hfz24_2 := blk_frozen BK361.out 2
           have hfz24_3 := blk_frozen BK361.out 3
           have hfz24_4 := blk_frozen BK361.out 4
           have hfz24_5 := blk_frozen BK361.out 5
           go_wp2_with (first | ((with_reducible refine gate_callee (f := 22) rfl ?_); refine gL_ (some 42) rfl rfl Try.func22 #[.agg #[.string t353, .int .i64 t354, .int .i64 t355, .int .i64 t356, .int .i64 t357, .int .i64 t358], .int .i64 t362, .int .i64 t360] rfl ?_; (with_reducible refine (impl_FitsTime.calls kj2 t353 t354 t355 t356 t357 t358 t362 t360 false _ A17.out).mono ?_); rintro e w25 ⟨rfl, hb⟩; refine ⟨_, rfl, ?_⟩; have n0_ := Aside0.mk (blk_below (g := gb361) (o := .cells #[.string t353, .int .i64 t354, .int .i64 t355, .int .i64 t356, .int .i64 t357, .int .i64 t358] 43 (0, 0)) (by (with_reducible repeat (first | refine blk_drewN ?_ _ | refine blk_drew ?_ | refine blk_alloc ?_ _)); exact BK361.out) hb); have n1_ := Aside0.mk (below_step (by repeat (first | (with_reducible first | exact HB.out | apply qba | apply qbn | apply qb1 | refine below_set ?_ GE361.out) | exact HB.out)) hb); clear BK361; clear HB; have BK361 := n0_; have HB := n1_; clear n0_ n1_; (try clear hb); (try clear hb2); (try clear hk); (try clear hi)))
           go_meet
           case rel => exact ⟨_, (true), (by first | rfl | (simp; done) | (simp [*]; done)), H', ⟨by have := HJ2.out; first | omega | exact Nat.le_refl _⟩, ⟨by (with_reducible repeat (first | refine blk_drewN ?_ _ | refine blk_drew ?_ | refine blk_alloc ?_ _)); exact BK361.out⟩, ⟨by repeat (first | (with_reducible first | exact HB.out | apply qba | apply qbn | apply qb1 | refine below_set ?_ GE361.out) | exact HB.out)⟩⟩
        case rest =>
         clear HC16
         try clear c1
         try clear c2
         try clear p2
         try clear c4
         try clear c5
         try clear c7
         try clear c15
         try clear c15b0
         try clear c15b1
         try clear c18
         try clear c19
         try clear c20
         try clear c21
         try clear c22
         try clear hcz13_0
         try clear hcz13_1
         try clear hcz13_2
         try clear hcz13_3
         try clear hcz13_4
         try clear hcz13_5
         try clear hcz20_0
         try clear hcz20_1
         try clear hcz20_2
         try clear hcz20_3
         try clear hcz20_4
         try clear hcz20_5
         try clear hcz22_0
         try clear hcz22_1
         try clear hcz22_2
         try clear hcz22_3
         try clear hcz22_4
         try clear hcz22_5
         try clear hcz24_0
         try clear hcz24_1
         try clear hcz24_2
         try clear hcz24_3
         try clear hcz24_4
         try clear hcz24_5
         try clear hfz13_0
         try clear hfz13_1
         try clear hfz13_2
         try clear hfz13_3
         try clear hfz13_4
         try clear hfz13_5
         try clear hfz20_0
         try clear hfz20_1
         try clear hfz20_2
         try clear hfz20_3
         try clear hfz20_4
         try clear hfz20_5
         try clear hfz22_0
         try clear hfz22_1
         try clear hfz22_2
         try clear hfz22_3
         try clear hfz22_4
         try clear hfz22_5
         try clear hfz24_0
         try clear hfz24_1
         try clear hfz24_2
         try clear hfz24_3
         try clear hfz24_4
         try clear hfz24_5
         try clear p2
         obtain ⟨kq, x50_15, rfl, HA, HJ15, BK361, HB⟩ := hcut
         cases kq with
         | zero => exact absurd HA.out (by simp [laws_FnHours.j1])
         | succ kj15 =>
          have H := HA.out
          clear HA
          simp only [laws_FnHours.j1] at H
          by_cases c26 : x50_15 = true
          · subst c26
            have H1 : (some false) = some r := by rw [if_pos rfl] at H; exact H
            clear H
            have H := H1
            clear H1
            obtain rfl := Option.some.inj H
            go_wp2
            go_ret
            exact ⟨by first | rfl | (simp [errW_none, errW_some] <;> rfl) | (simp [*, errW_none, errW_some] <;> rfl), by repeat (first | (with_reducible first | exact HB.out | apply qba | apply qbn | apply qb1 | refine below_set ?_ GE361.out) | exact HB.out)⟩
          · replace c26 := Bool.eq_false_iff.mpr c26
            subst c26
            have H1 : (if t362 = t359 then (laws_FnHours.j2 kj15 l1) else ((laws_b10At.f l1 0 1440).bind fun t366 => (if t366 < (Int.tmod (wrap64 ((wrap64 (t362 - t359)) + 1440)) 1440) then ((spec_FitsTime.f kj15 t353 t354 t355 t356 t357 t358 (Int.tmod (wrap64 (t359 + t366)) 1440) t360).bind fun t367 => (if t367 = true then (some false) else (laws_FnHours.j2 kj15 l1))) else (laws_FnHours.j2 kj15 l1)))) = some r := by rw [if_neg (show ¬ (false = true) by decide)] at H; exact H
            clear H
            have H := H1
            clear H1
            by_cases c27 : t362 = t359
            · rw [if_pos c27] at H
              have c27b0 : (t362 == t359) = true := beq_iff_eq.mpr c27
              have c27b1 : (t362 != t359) = false := bne_eq_false_iff_eq.mpr c27
              clear c27
              have H' := Aside0.mk H
              clear H
              go_wp2
              go_meet
              case rel => exact ⟨_, H', ⟨by have := HJ2.out; have := HJ15.out; first | omega | exact Nat.le_refl _⟩, ⟨by (with_reducible repeat (first | refine blk_drewN ?_ _ | refine blk_drew ?_ | refine blk_alloc ?_ _)); exact BK361.out⟩, ⟨by repeat (first | (with_reducible first | exact HB.out | apply qba | apply qbn | apply qb1 | refine below_set ?_ GE361.out) | exact HB.out)⟩⟩
            · rw [if_neg c27] at H
              have c27b0 : (t362 == t359) = false := beq_eq_false_iff_ne.mpr c27
              have c27b1 : (t362 != t359) = true := bne_iff_ne.mpr c27
              replace H := Option.bind_eq_some_iff.mp H
              obtain ⟨t366, A280, H⟩ := H
              replace H : (if t366 < (Int.tmod (wrap64 ((wrap64 (t362 - t359)) + 1440)) 1440) then ((spec_FitsTime.f kj15 t353 t354 t355 t356 t357 t358 (Int.tmod (wrap64 (t359 + t366)) 1440) t360).bind fun t367 => (if t367 = true then (some false) else (laws_FnHours.j2 kj15 l1))) else (laws_FnHours.j2 kj15 l1)) = some r := H
              have A28 := Aside0.mk A280
              clear A280
              by_cases c29 : t366 < (Int.tmod (wrap64 ((wrap64 (t362 - t359)) + 1440)) 1440)
              · rw [if_pos c29] at H
                have c29b0 : decide (t366 < (Int.tmod (wrap64 ((wrap64 (t362 - t359)) + 1440)) 1440)) = true := decide_eq_true c29
                clear c29
                replace H := Option.bind_eq_some_iff.mp H
                obtain ⟨t367, A300, H⟩ := H
                replace H : (if t367 = true then (some false) else (laws_FnHours.j2 kj15 l1)) = some r := H
                have A30 := Aside0.mk A300
                clear A300
                by_cases c31 : t367 = true
                · subst c31
                  have H1 : (some false) = some r := by rw [if_pos rfl] at H; exact H
                  clear H
                  have H := H1
                  clear H1
                  obtain rfl := Option.some.inj H
                  go_wp2_with (first | ((with_reducible refine gate_callee (f := 24) rfl ?_); refine gL_ (some 55) rfl rfl Try.func24 #[.slice A1 l1.length c1, .int .i64 0, .int .i64 1440] rfl ?_; (with_reducible refine (laws_b10At.calls _ _ l1 0 1440 t366 _ ?side1 ?side2 A28.out).mono ?_); (case side1 => repeat (first | exact (Kd.C_below HR1.out HB.out) | (with_reducible refine Kd.C_alloc ?_ _) | (with_reducible refine Kd.C_drewN ?_ _) | (with_reducible refine Kd.C_drew ?_))); (case side2 => exact HC1.out); rintro e w' ⟨rfl, ⟨nd, rfl⟩⟩; refine ⟨_, rfl, ?_⟩; have hcz32_0 : wc.cell? ⟨gb361, 0, none⟩ = some (.string t353) := (blk_cell BK361.out 0).trans rfl; have hcz32_1 : wc.cell? ⟨gb361, 1, none⟩ = some (.int .i64 t354) := (blk_cell BK361.out 1).trans rfl; have hcz32_2 : wc.cell? ⟨gb361, 2, none⟩ = some (.int .i64 t355) := (blk_cell BK361.out 2).trans rfl; have hcz32_3 : wc.cell? ⟨gb361, 3, none⟩ = some (.int .i64 t356) := (blk_cell BK361.out 3).trans rfl; have hcz32_4 : wc.cell? ⟨gb361, 4, none⟩ = some (.int .i64 t357) := (blk_cell BK361.out 4).trans rfl; have hcz32_5 : wc.cell? ⟨gb361, 5, none⟩ = some (.int .i64 t358) := (blk_cell BK361.out 5).trans rfl; have hfz32_0 := blk_frozen BK361.out 0; have hfz32_1 := blk_frozen BK361.out 1; have hfz32_2 := blk_frozen BK361.out 2; have hfz32_3 := blk_frozen BK361.out 3; have hfz32_4 := blk_frozen BK361.out 4; have hfz32_5 := blk_frozen BK361.out 5) | (go_at_call 23; (with_reducible refine (spec_FitsTime.calls kj15 t353 t354 t355 t356 t357 t358 (Int.tmod (wrap64 (t359 + t366)) 1440) t360 true _ A30.out).mono ?_); rintro e w33 ⟨rfl, hb⟩; have n0_ := Aside0.mk (blk_below (g := gb361) (o := .cells #[.string t353, .int .i64 t354, .int .i64 t355, .int .i64 t356, .int .i64 t357, .int .i64 t358] 43 (0, 0)) (by (with_reducible repeat (first | refine blk_drewN ?_ _ | refine blk_drew ?_ | refine blk_alloc ?_ _)); exact BK361.out) hb); have n1_ := Aside0.mk (below_step (by repeat (first | (with_reducible first | exact HB.out | apply qba | apply qbn | apply qb1 | refine below_set ?_ GE361.out) | exact HB.out)) hb); clear BK361; clear HB; have BK361 := n0_; have HB := n1_; clear n0_ n1_; (try clear hb); (try clear hb2); (try clear hk); (try clear hi)))
                  go_ret
                  exact ⟨by first | rfl | (simp [errW_none, errW_some] <;> rfl) | (simp [*, errW_none, errW_some] <;> rfl), by repeat (first | (with_reducible first | exact HB.out | apply qba | apply qbn | apply qb1 | refine below_set ?_ GE361.out) | exact HB.out)⟩
                · replace c31 := Bool.eq_false_iff.mpr c31
                  subst c31
                  have H1 : (laws_FnHours.j2 kj15 l1) = some r := by rw [if_neg (show ¬ (false = true) by decide)] at H; exact H
                  clear H
                  have H := H1
                  clear H1
                  have H' := Aside0.mk H
                  clear H
                  go_wp2_with (first | ((with_reducible refine gate_callee (f := 24) rfl ?_); refine gL_ (some 55) rfl rfl Try.func24 #[.slice A1 l1.length c1, .int .i64 0, .int .i64 1440] rfl ?_; (with_reducible refine (laws_b10At.calls _ _ l1 0 1440 t366 _ ?side1 ?side2 A28.out).mono ?_); (case side1 => repeat (first | exact (Kd.C_below HR1.out HB.out) | (with_reducible refine Kd.C_alloc ?_ _) | (with_reducible refine Kd.C_drewN ?_ _) | (with_reducible refine Kd.C_drew ?_))); (case side2 => exact HC1.out); rintro e w' ⟨rfl, ⟨nd, rfl⟩⟩; refine ⟨_, rfl, ?_⟩; have hcz34_0 : wc.cell? ⟨gb361, 0, none⟩ = some (.string t353) := (blk_cell BK361.out 0).trans rfl; have hcz34_1 : wc.cell? ⟨gb361, 1, none⟩ = some (.int .i64 t354) := (blk_cell BK361.out 1).trans rfl; have hcz34_2 : wc.cell? ⟨gb361, 2, none⟩ = some (.int .i64 t355) := (blk_cell BK361.out 2).trans rfl; have hcz34_3 : wc.cell? ⟨gb361, 3, none⟩ = some (.int .i64 t356) := (blk_cell BK361.out 3).trans rfl; have hcz34_4 : wc.cell? ⟨gb361, 4, none⟩ = some (.int .i64 t357) := (blk_cell BK361.out 4).trans rfl; have hcz34_5 : wc.cell? ⟨gb361, 5, none⟩ = some (.int .i64 t358) := (blk_cell BK361.out 5).trans rfl; have hfz34_0 := blk_frozen BK361.out 0; have hfz34_1 := blk_frozen BK361.out 1; have hfz34_2 := blk_frozen BK361.out 2; have hfz34_3 := blk_frozen BK361.out 3; have hfz34_4 := blk_frozen BK361.out 4; have hfz34_5 := blk_frozen BK361.out 5) | (go_at_call 23; (with_reducible refine (spec_FitsTime.calls kj15 t353 t354 t355 t356 t357 t358 (Int.tmod (wrap64 (t359 + t366)) 1440) t360 false _ A30.out).mono ?_); rintro e w35 ⟨rfl, hb⟩; have n0_ := Aside0.mk (blk_below (g := gb361) (o := .cells #[.string t353, .int .i64 t354, .int .i64 t355, .int .i64 t356, .int .i64 t357, .int .i64 t358] 43 (0, 0)) (by (with_reducible repeat (first | refine blk_drewN ?_ _ | refine blk_drew ?_ | refine blk_alloc ?_ _)); exact BK361.out) hb); have n1_ := Aside0.mk (below_step (by repeat (first | (with_reducible first | exact HB.out | apply qba | apply qbn | apply qb1 | refine below_set ?_ GE361.out) | exact HB.out)) hb); clear BK361; clear HB; have BK361 := n0_; have HB := n1_; clear n0_ n1_; (try clear hb); (try clear hb2); (try clear hk); (try clear hi)))
                  go_meet
                  case rel => exact ⟨_, H', ⟨by have := HJ2.out; have := HJ15.out; first | omega | exact Nat.le_refl _⟩, ⟨by (with_reducible repeat (first | refine blk_drewN ?_ _ | refine blk_drew ?_ | refine blk_alloc ?_ _)); exact BK361.out⟩, ⟨by repeat (first | (with_reducible first | exact HB.out | apply qba | apply qbn | apply qb1 | refine below_set ?_ GE361.out) | exact HB.out)⟩⟩
              · rw [if_neg c29] at H
                have c29b0 : decide (t366 < (Int.tmod (wrap64 ((wrap64 (t362 - t359)) + 1440)) 1440)) = false := decide_eq_false c29
                clear c29
                have H' := Aside0.mk H
                clear H
                go_wp2_with (first | ((with_reducible refine gate_callee (f := 24) rfl ?_); refine gL_ (some 55) rfl rfl Try.func24 #[.slice A1 l1.length c1, .int .i64 0, .int .i64 1440] rfl ?_; (with_reducible refine (laws_b10At.calls _ _ l1 0 1440 t366 _ ?side1 ?side2 A28.out).mono ?_); (case side1 => repeat (first | exact (Kd.C_below HR1.out HB.out) | (with_reducible refine Kd.C_alloc ?_ _) | (with_reducible refine Kd.C_drewN ?_ _) | (with_reducible refine Kd.C_drew ?_))); (case side2 => exact HC1.out); rintro e w' ⟨rfl, ⟨nd, rfl⟩⟩; refine ⟨_, rfl, ?_⟩))
                go_meet
                case rel => exact ⟨_, H', ⟨by have := HJ2.out; have := HJ15.out; first | omega | exact Nat.le_refl _⟩, ⟨by (with_reducible repeat (first | refine blk_drewN ?_ _ | refine blk_drew ?_ | refine blk_alloc ?_ _)); exact BK361.out⟩, ⟨by repeat (first | (with_reducible first | exact HB.out | apply qba | apply qbn | apply qb1 | refine below_set ?_ GE361.out) | exact HB.out)⟩⟩
      · rw [if_neg c15] at H
        have c15b0 : (t363 == 0) = false := beq_eq_false_iff_ne.mpr c15
        have c15b1 : (t363 != 0) = true := bne_iff_ne.mpr c15
        (first | rw [c15b0] | (simp only [i64_w, i32_w]; rw [c15b0]) | skip)
        have H' := Aside0.mk H
        clear H
        go_wp2
        go_meet
        case rel => exact ⟨_, H', ⟨by have := HJ2.out; first | omega | exact Nat.le_refl _⟩, ⟨by (with_reducible repeat (first | refine blk_drewN ?_ _ | refine blk_drew ?_ | refine blk_alloc ?_ _)); exact BK361.out⟩, ⟨by repeat (first | (with_reducible first | exact HB.out | apply qba | apply qbn | apply qb1 | refine below_set ?_ GE361.out) | exact HB.out)⟩⟩
     case rest =>
      clear HC10
      try clear c1
      try clear c2
      try clear p2
      try clear c3
      try clear c4
      try clear c5
      try clear p6
      try clear c7
      try clear c15
      try clear c15b0
      try clear c15b1
      try clear c18
      try clear c19
      try clear c20
      try clear c21
      try clear c22
      try clear c24
      try clear c26
      try clear c27
      try clear c27b0
      try clear c27b1
      try clear c29
      try clear c29b0
      try clear c31
      try clear hcz13_0
      try clear hcz13_1
      try clear hcz13_2
      try clear hcz13_3
      try clear hcz13_4
      try clear hcz13_5
      try clear hcz20_0
      try clear hcz20_1
      try clear hcz20_2
      try clear hcz20_3
      try clear hcz20_4
      try clear hcz20_5
      try clear hcz22_0
      try clear hcz22_1
      try clear hcz22_2
      try clear hcz22_3
      try clear hcz22_4
      try clear hcz22_5
      try clear hcz24_0
      try clear hcz24_1
      try clear hcz24_2
      try clear hcz24_3
      try clear hcz24_4
      try clear hcz24_5
      try clear hcz32_0
      try clear hcz32_1
      try clear hcz32_2
      try clear hcz32_3
      try clear hcz32_4
      try clear hcz32_5
      try clear hcz34_0
      try clear hcz34_1
      try clear hcz34_2
      try clear hcz34_3
      try clear hcz34_4
      try clear hcz34_5
      try clear hfz13_0
      try clear hfz13_1
      try clear hfz13_2
      try clear hfz13_3
      try clear hfz13_4
      try clear hfz13_5
      try clear hfz20_0
      try clear hfz20_1
      try clear hfz20_2
      try clear hfz20_3
      try clear hfz20_4
      try clear hfz20_5
      try clear hfz22_0
      try clear hfz22_1
      try clear hfz22_2
      try clear hfz22_3
      try clear hfz22_4
      try clear hfz22_5
      try clear hfz24_0
      try clear hfz24_1
      try clear hfz24_2
      try clear hfz24_3
      try clear hfz24_4
      try clear hfz24_5
      try clear hfz32_0
      try clear hfz32_1
      try clear hfz32_2
      try clear hfz32_3
      try clear hfz32_4
      try clear hfz32_5
      try clear hfz34_0
      try clear hfz34_1
      try clear hfz34_2
      try clear hfz34_3
      try clear hfz34_4
      try clear hfz34_5
      try clear p2
      obtain ⟨kq, HA, HJ9, BK361, HB⟩ := hcut
      cases kq with
      | zero => exact absurd HA.out (by simp [laws_FnHours.j2])
      | succ kj9 =>
       have H := HA.out
       clear HA
       simp only [laws_FnHours.j2] at H
       replace H := Option.bind_eq_some_iff.mp H
       obtain ⟨⟨t368, t369, t370⟩, A360, H⟩ := H
       replace H : ((impl_FittingAt.f kj9 t368 t369 t370).bind fun bt373 => (if bt373.2 = 0 then (laws_FnHours.l0 kj9 t368 t369 t370 bt373.1 0) else (some ((bt373.1.length : Int) == 0)))) = some r := H
       have A36 := Aside0.mk A360
       clear A360
       replace H := Option.bind_eq_some_iff.mp H
       obtain ⟨⟨t373, t374⟩, A370, H⟩ := H
       replace H : (if t374 = 0 then (laws_FnHours.l0 kj9 t368 t369 t370 t373 0) else (some ((t373.length : Int) == 0))) = some r := H
       have A37 := Aside0.mk A370
       clear A370
       by_cases c38 : t374 = 0
       · rw [if_pos c38] at H
         have c38b0 : (t374 == 0) = true := beq_iff_eq.mpr c38
         have c38b1 : (t374 != 0) = false := bne_eq_false_iff_eq.mpr c38
         clear c38
         have H' := Aside0.mk H
         clear H
         go_wp2_with (first | ((with_reducible refine gate_callee (f := 25) rfl ?_); refine gL_ (some 75) rfl rfl Try.func25 #[.slice A1 l1.length c1] rfl ?_; (with_reducible refine (spec_DrawFittingAt.calls kj9 _ _ l1 t368 t369 t370 _ ?side1 ?side2 A36.out).mono ?_); (case side1 => repeat (first | exact (Kd.C_below HR1.out HB.out) | (with_reducible refine Kd.C_alloc ?_ _) | (with_reducible refine Kd.C_drewN ?_ _) | (with_reducible refine Kd.C_drew ?_))); (case side2 => exact HC1.out); rintro e w39 ⟨v371, rfl, ho0, hb⟩; refine ⟨_, rfl, ?_⟩; have n0_ := Aside0.mk (Kd.R_lower (Kd.R_newB ho0 (g := gb361) (o := .cells #[.string t353, .int .i64 t354, .int .i64 t355, .int .i64 t356, .int .i64 t357, .int .i64 t358] 43 (0, 0)) (by (with_reducible repeat (first | refine blk_drewN ?_ _ | refine blk_drew ?_ | refine blk_alloc ?_ _)); exact BK361.out)) (below_size (by repeat (first | (with_reducible first | exact HB.out | apply qba | apply qbn | apply qb1 | refine below_set ?_ GE361.out) | exact HB.out)))); have n1_ := Aside0.mk (blk_below (g := gb361) (o := .cells #[.string t353, .int .i64 t354, .int .i64 t355, .int .i64 t356, .int .i64 t357, .int .i64 t358] 43 (0, 0)) (by (with_reducible repeat (first | refine blk_drewN ?_ _ | refine blk_drew ?_ | refine blk_alloc ?_ _)); exact BK361.out) hb); have n2_ := Aside0.mk (below_step (by repeat (first | (with_reducible first | exact HB.out | apply qba | apply qbn | apply qb1 | refine below_set ?_ GE361.out) | exact HB.out)) hb); clear BK361; clear HB; have HO372 := n0_; have BK361 := n1_; have HB := n2_; clear n0_ n1_ n2_; (try clear hb); (try clear hb2); (try clear hk); (try clear hi); (try clear ho0); obtain ⟨Ao40, co40, eo40⟩ := Kd.R_slice HO372.out; subst eo40) | ((with_reducible refine gate_callee (f := 26) rfl ?_); refine gL_ (some 83) rfl rfl Try.func26 #[.slice Ao40 t368.length co40, .int .i64 t369, .int .i64 t370] rfl ?_; (with_reducible refine (impl_FittingAt.calls kj9 _ _ t368 t369 t370 t373 t374 _ ?side1 ?side2 A37.out).mono ?_); (case side1 => repeat (first | exact (Kd.R_reads' HO372.out).2.2 | (with_reducible refine Kd.C_alloc ?_ _) | (with_reducible refine Kd.C_drewN ?_ _) | (with_reducible refine Kd.C_drew ?_))); (case side2 => exact (Kd.R_reads' HO372.out).2.1); rintro e w41 ⟨v375, rfl, ho0, hb⟩; refine ⟨_, rfl, ?_⟩; have n0_ := Aside0.mk (Kd.R_below (by (with_reducible repeat (first | apply qra | apply qrn | apply qrd)); exact HO372.out) hb); have n1_ := Aside0.mk (Kd.R_lower ho0 (below_size (by repeat (first | (with_reducible first | exact HB.out | apply qba | apply qbn | apply qb1 | refine below_set ?_ GE361.out) | exact HB.out)))); have n2_ := Aside0.mk (blk_below (g := gb361) (o := .cells #[.string t353, .int .i64 t354, .int .i64 t355, .int .i64 t356, .int .i64 t357, .int .i64 t358] 43 (0, 0)) (by (with_reducible repeat (first | refine blk_drewN ?_ _ | refine blk_drew ?_ | refine blk_alloc ?_ _)); exact BK361.out) hb); have n3_ := Aside0.mk (below_step (by repeat (first | (with_reducible first | exact HB.out | apply qba | apply qbn | apply qb1 | refine below_set ?_ GE361.out) | exact HB.out)) hb); clear HO372; clear BK361; clear HB; have HO372 := n0_; have HO376 := n1_; have BK361 := n2_; have HB := n3_; clear n0_ n1_ n2_ n3_; (try clear hb); (try clear hb2); (try clear hk); (try clear hi); (try clear ho0)))
         go_loopg [17] kj9 (fun kq v17 w' => ∃ (x17_3 : Int), v17 = .int .i64 x17_3 ∧ Aside0 (laws_FnHours.l0 kq t368 t369 t370 t373 x17_3 = some r) ∧ Aside0 (kq ≤ kj9) ∧ Aside0 (Kd.R k43 43 w' w.heap.size (fun k_ => k_ ≠ gb361) (.slice Ao40 t368.length co40) t368) ∧ Aside0 (Kd.R (Kd.int .i64) 2 w' w.heap.size (fun _ => True) v375 t373) ∧ Aside0 (w'.heap[gb361]? = some (.cells #[.string t353, .int .i64 t354, .int .i64 t355, .int .i64 t356, .int .i64 t357, .int .i64 t358] 43 (0, 0))) ∧ Aside0 (Below w.heap.size w w'))
         case atStart => exact ⟨(0), (by first | rfl | (simp; done) | (simp [*]; done)), H', ⟨Nat.le_refl _⟩, ⟨by (with_reducible repeat (first | apply qra | apply qrn | apply qrd)); exact Kd.R_mono HO372.out (fun _ hk => hk.2)⟩, ⟨by (with_reducible repeat (first | apply qra | apply qrn | apply qrd)); exact HO376.out⟩, ⟨by (with_reducible repeat (first | refine blk_drewN ?_ _ | refine blk_drew ?_ | refine blk_alloc ?_ _)); exact BK361.out⟩, ⟨by repeat (first | (with_reducible first | exact HB.out | apply qba | apply qbn | apply qb1 | refine below_set ?_ GE361.out) | exact HB.out)⟩⟩
         case round =>
          clear H'
          try clear c1
          try clear c2
          try clear p2
          try clear c3
          try clear c4
          try clear c5
          try clear p6
          try clear c7
          try clear c15
          try clear c15b0
          try clear c15b1
          try clear c18
          try clear c19
          try clear c20
          try clear c21
          try clear c22
          try clear c24
          try clear c25
          try clear c26
          try clear c27
          try clear c27b0
          try clear c27b1
          try clear c29
          try clear c29b0
          try clear c31
          try clear c38
          try clear c38b0
          try clear c38b1
          try clear hcz13_0
          try clear hcz13_1
          try clear hcz13_2
          try clear hcz13_3
          try clear hcz13_4
          try clear hcz13_5
          try clear hcz20_0
          try clear hcz20_1
          try clear hcz20_2
          try clear hcz20_3
          try clear hcz20_4
          try clear hcz20_5
          try clear hcz22_0
          try clear hcz22_1
          try clear hcz22_2
          try clear hcz22_3
          try clear hcz22_4
          try clear hcz22_5
          try clear hcz24_0
          try clear hcz24_1
          try clear hcz24_2
          try clear hcz24_3
          try clear hcz24_4
          try clear hcz24_5
          try clear hcz32_0
          try clear hcz32_1
          try clear hcz32_2
          try clear hcz32_3
          try clear hcz32_4
          try clear hcz32_5
          try clear hcz34_0
          try clear hcz34_1
          try clear hcz34_2
          try clear hcz34_3
          try clear hcz34_4
          try clear hcz34_5
          try clear hfz13_0
          try clear hfz13_1
          try clear hfz13_2
          try clear hfz13_3
          try clear hfz13_4
          try clear hfz13_5
          try clear hfz20_0
          try clear hfz20_1
          try clear hfz20_2
          try clear hfz20_3
          try clear hfz20_4
          try clear hfz20_5
          try clear hfz22_0
          try clear hfz22_1
          try clear hfz22_2
          try clear hfz22_3
          try clear hfz22_4
          try clear hfz22_5
          try clear hfz24_0
          try clear hfz24_1
          try clear hfz24_2
          try clear hfz24_3
          try clear hfz24_4
          try clear hfz24_5
          try clear hfz32_0
          try clear hfz32_1
          try clear hfz32_2
          try clear hfz32_3
          try clear hfz32_4
          try clear hfz32_5
          try clear hfz34_0
          try clear hfz34_1
          try clear hfz34_2
          try clear hfz34_3
          try clear hfz34_4
          try clear hfz34_5
          try clear p2
          try clear p6
          obtain ⟨x17_3, rfl, HA, HK3, HO_12, HO_15, BK361, HB⟩ := hrel
          cases gk with
          | zero => exact absurd HA.out (by simp [laws_FnHours.l0])
          | succ k3 =>
           have H := HA.out
           clear HA
           simp only [laws_FnHours.l0] at H
           by_cases c42 : x17_3 < (t368.length : Int)
           · rw [if_pos c42] at H
             have c42b0 : decide (x17_3 < (t368.length : Int)) = true := decide_eq_true c42
             clear c42
             replace H := Option.bind_eq_some_iff.mp H
             obtain ⟨t378, A430, H⟩ := H
             replace H : (if 0 ≤ x17_3 then ((spec_FitsTime.f k3 ((rd_T43 t368 x17_3).f0) ((rd_T43 t368 x17_3).f1) ((rd_T43 t368 x17_3).f2) ((rd_T43 t368 x17_3).f3) ((rd_T43 t368 x17_3).f4) ((rd_T43 t368 x17_3).f5) t369 t370).bind fun t380 => (if (t378 != t380) = true then (some false) else (laws_FnHours.l0 k3 t368 t369 t370 t373 (wrap64 (x17_3 + 1))))) else (none)) = some r := H
             have A43 := Aside0.mk A430
             clear A430
             by_cases c44 : 0 ≤ x17_3
             · rw [if_pos c44] at H
               have c44b0 : decide (0 ≤ x17_3) = true := decide_eq_true c44
               clear c44
               replace H := Option.bind_eq_some_iff.mp H
               obtain ⟨t380, A450, H⟩ := H
               replace H : (if (t378 != t380) = true then (some false) else (laws_FnHours.l0 k3 t368 t369 t370 t373 (wrap64 (x17_3 + 1)))) = some r := H
               have A45 := Aside0.mk A450
               clear A450
               by_cases c46 : (t378 != t380) = true
               · rw [if_pos c46] at H
                 have c46b0 : (t378 != t380) = true := c46
                 (try (have c46b1 : decide (t378 = t380) = false := by simpa using c46))
                 (try (have c46b2 : (t378 == t380) = false := by simpa using c46))
                 (try (have c46b3 : ¬ (t378 = t380) := by simpa using c46))
                 clear c46
                 obtain rfl := Option.some.inj H
                 try go_wp2
                 have n0_ := Aside0.mk (Kd.R_drew HO_12.out)
                 have n1_ := Aside0.mk (Kd.R_drew HO_15.out)
                 have n2_ := Aside0.mk (blk_drew BK361.out)
                 have n3_ := Aside0.mk (below_drew1 HB.out)
                 clear HO_12
                 clear HO_15
                 clear BK361
                 clear HB
                 have HO_12 := n0_
                 have HO_15 := n1_
                 have BK361 := n2_
                 have HB := n3_
                 clear n0_ n1_ n2_ n3_
                 have p379 : 0 ≤ (x17_3 : Int) := of_decide_eq_true (by first | (with_reducible assumption) | assumption)
                 have q379 : x17_3 < (t368.length : Int) := of_decide_eq_true (by first | (with_reducible assumption) | assumption)
                 obtain ⟨ad379, e379, hx379_0, hx379_1, hx379_2, hx379_3, hx379_4, hx379_5⟩ := at_T43 (Kd.R_reads' HO_12.out).2.2 x17_3 p379 q379
                 cases e379
                 replace p379 := eq_true p379
                 replace q379 := eq_true q379
                 obtain ⟨Ao48, co48, eo48⟩ := Kd.R_slice HO_15.out
                 (first | subst eo48 | (injection eo48 with f1_ f2_ f3_; have f4_ := f1_.symm; have f5_ := f3_.symm; clear f1_ f2_ f3_; subst f4_; subst f5_))
                 refine start_ (n := 11) (S := fun w' => w'.cell? (ad379.add ((x17_3).toNat * 6)) = some (.string ((rd_T43 t368 x17_3).f0)) ∧ w'.cell? ⟨(ad379.add ((x17_3).toNat * 6)).block, (ad379.add ((x17_3).toNat * 6)).off + 1, none⟩ = some (.int .i64 ((rd_T43 t368 x17_3).f1)) ∧ w'.cell? ⟨(ad379.add ((x17_3).toNat * 6)).block, (ad379.add ((x17_3).toNat * 6)).off + 2, none⟩ = some (.int .i64 ((rd_T43 t368 x17_3).f2)) ∧ w'.cell? ⟨(ad379.add ((x17_3).toNat * 6)).block, (ad379.add ((x17_3).toNat * 6)).off + 3, none⟩ = some (.int .i64 ((rd_T43 t368 x17_3).f3)) ∧ w'.cell? ⟨(ad379.add ((x17_3).toNat * 6)).block, (ad379.add ((x17_3).toNat * 6)).off + 4, none⟩ = some (.int .i64 ((rd_T43 t368 x17_3).f4)) ∧ w'.cell? ⟨(ad379.add ((x17_3).toNat * 6)).block, (ad379.add ((x17_3).toNat * 6)).off + 5, none⟩ = some (.int .i64 ((rd_T43 t368 x17_3).f5))) (ds := []) (bq [0, 11]) (by kernel_rfl) rfl rfl ⟨hx379_0, hx379_1, hx379_2, hx379_3, hx379_4, hx379_5⟩ (fun hHeld => ?_); refine with_tabW laws_FnHours.tab20 laws_FnHours.bits20 (fun HT_ HW_ => ?_)
                 generalize wr.drew = w47 at HO_12 HO_15 BK361 HB hx379_0 hx379_1 hx379_2 hx379_3 hx379_4 hx379_5 hHeld ⊢
                 refine pV_ (i := 0) (N := some 97) (bq [1, 10]) rfl rfl HT_.out ?_
                 refine pV_ (i := 1) (N := some 98) (bq [2, 9]) rfl rfl HT_.out ?_
                 refine pV_ (i := 3) (N := some 100) (bq [2, 1, 1, 7]) rfl rfl HT_.out ?_
                 refine pV_ (i := 4) (N := some 101) (bq [2, 1, 2, 6]) rfl rfl HT_.out ?_
                 refine pV_ (i := 5) (N := some 102) (bq [2, 1, 3, 5]) rfl rfl HT_.out ?_
                 refine pV_ (i := 7) (N := some 104) (bq [2, 1, 3, 1, 1, 3]) rfl rfl HT_.out ?_
                 refine pV_ (i := 8) (N := some 105) (bq [2, 1, 3, 1, 2, 2]) rfl rfl HT_.out ?_
                 refine take_ (i := 6) (N := some 103) (v := ?_) (a' := ?_) (bq [2, 1, 6, 2]) rfl rfl (take_ofW HT_.out HW_.out (by kernel_rfl)) (fun _ _ _ h => h) (Or.inl ⟨by rfl, ?_⟩) hHeld ?_ ?_
                 rotate_left
                 · rintro w' ⟨s0, s1, s2, s3, s4, s5⟩
                   go_simp
                   with_reducible rfl
                 rotate_left
                 · simp only [Act.put, sx0, sx1, sx2, i64_w, i32_w]
                   rfl
                 refine one_ (i := 2) (N := some 99) (bq [9, 2]) rfl rfl (one_of HT_.out (by kernel_rfl)) (by decide) (fun K hK => ?_)
                 refine gS_ Try.func27 #[.slice Ao48 t373.length co48, .int .i64 x17_3] rfl rfl ?_
                 with_reducible refine (laws_b10Has.calls k3 _ _ t373 x17_3 t378 _ ?side1 ?side2 A43.out).mono ?_
                 (case side1 => repeat (first | exact (Kd.R_reads' HO_15.out).2.2 | (with_reducible refine Kd.C_alloc ?_ _) | (with_reducible refine Kd.C_drewN ?_ _) | (with_reducible refine Kd.C_drew ?_)))
                 (case side2 => exact (Kd.R_reads' HO_15.out).2.1)
                 rintro e w' ⟨rfl, ⟨nd, rfl⟩⟩
                 refine ⟨_, rfl, ?_⟩
                 refine hK.out _ _ ⟨hHeld.1, hHeld.2.1, hHeld.2.2.1, hHeld.2.2.2.1, hHeld.2.2.2.2.1, hHeld.2.2.2.2.2⟩ (fun hHeld => ?_)
                 clear hK K
                 refine norm_ (a' := ?_) ?_ ?_
                 rotate_left
                 · show Act.put _ (some 99) _ = _
                   simp only [Act.put, sx0, sx1, sx2, i64_w, i32_w]
                   rfl
                 refine one_ (i := 9) (N := some 106) (bq [10, 1]) rfl rfl (one_of HT_.out (by kernel_rfl)) (by decide) (fun K hK => ?_)
                 refine gS_ Try.func23 #[.agg #[.string ((rd_T43 t368 x17_3).f0), .int .i64 ((rd_T43 t368 x17_3).f1), .int .i64 ((rd_T43 t368 x17_3).f2), .int .i64 ((rd_T43 t368 x17_3).f3), .int .i64 ((rd_T43 t368 x17_3).f4), .int .i64 ((rd_T43 t368 x17_3).f5)], .int .i64 t369, .int .i64 t370] rfl rfl ?_
                 with_reducible refine (spec_FitsTime.calls k3 ((rd_T43 t368 x17_3).f0) ((rd_T43 t368 x17_3).f1) ((rd_T43 t368 x17_3).f2) ((rd_T43 t368 x17_3).f3) ((rd_T43 t368 x17_3).f4) ((rd_T43 t368 x17_3).f5) t369 t370 t380 _ A45.out).mono ?_
                 rintro e w49 ⟨rfl, hb⟩
                 have HS0_ := (hb.cell (World.block_lt_of_cell? _ _ (hHeld.1))).trans (hHeld.1)
                 have HS1_ := (hb.cell (World.block_lt_of_cell? _ _ (hHeld.2.1))).trans (hHeld.2.1)
                 have HS2_ := (hb.cell (World.block_lt_of_cell? _ _ (hHeld.2.2.1))).trans (hHeld.2.2.1)
                 have HS3_ := (hb.cell (World.block_lt_of_cell? _ _ (hHeld.2.2.2.1))).trans (hHeld.2.2.2.1)
                 have HS4_ := (hb.cell (World.block_lt_of_cell? _ _ (hHeld.2.2.2.2.1))).trans (hHeld.2.2.2.2.1)
                 have HS5_ := (hb.cell (World.block_lt_of_cell? _ _ (hHeld.2.2.2.2.2))).trans (hHeld.2.2.2.2.2)
                 refine ⟨_, rfl, ?_⟩
                 have n0_ := Aside0.mk (Kd.R_below (by (with_reducible repeat (first | apply qra | apply qrn | apply qrd)); exact HO_12.out) hb)
                 have n1_ := Aside0.mk (Kd.R_below (by (with_reducible repeat (first | apply qra | apply qrn | apply qrd)); exact HO_15.out) hb)
                 have n2_ := Aside0.mk (blk_below (g := gb361) (o := .cells #[.string t353, .int .i64 t354, .int .i64 t355, .int .i64 t356, .int .i64 t357, .int .i64 t358] 43 (0, 0)) (by (with_reducible repeat (first | refine blk_drewN ?_ _ | refine blk_drew ?_ | refine blk_alloc ?_ _)); exact BK361.out) hb)
                 have n3_ := Aside0.mk (below_step (by repeat (first | (with_reducible first | exact HB.out | apply qba | apply qbn | apply qb1 | refine below_set ?_ GE361.out) | exact HB.out)) hb)
                 clear HO_12
                 clear HO_15
                 clear BK361
                 clear HB
                 have HO_12 := n0_
                 have HO_15 := n1_
                 have BK361 := n2_
                 have HB := n3_
                 clear n0_ n1_ n2_ n3_
                 (try clear hb)
                 (try clear hb2)
                 (try clear hk)
                 (try clear hi)
                 refine hK.out _ _ ⟨HS0_, HS1_, HS2_, HS3_, HS4_, HS5_⟩ (fun hHeld => ?_)
                 clear hK K
                 refine norm_ (a' := ?_) ?_ ?_
                 rotate_left
                 · show Act.put _ (some 106) _ = _
                   simp only [Act.put, sx0, sx1, sx2, i64_w, i32_w]
                   rfl
                 refine pV_ (i := 10) (N := some 107) (bq [11]) rfl rfl HT_.out ?_
                 refine done_ (done_of HT_.out (by kernel_rfl)) ?_
                 try go_wp2
                 go_ret
                 exact ⟨by first | rfl | (simp [errW_none, errW_some] <;> rfl) | (simp [*, errW_none, errW_some] <;> rfl), by repeat (first | (with_reducible first | exact HB.out | apply qba | apply qbn | apply qb1 | refine below_set ?_ GE361.out) | exact HB.out)⟩
               · rw [if_neg c46] at H
                 have c46b0 : (t378 != t380) = false := by simpa using c46
                 (try (have c46b1 : decide (t378 = t380) = true := by simpa using c46))
                 (try (have c46b2 : (t378 == t380) = true := by simpa using c46))
                 clear c46
                 have H' := Aside0.mk H
                 clear H
                 try go_wp2
                 have n0_ := Aside0.mk (Kd.R_drew HO_12.out)
                 have n1_ := Aside0.mk (Kd.R_drew HO_15.out)
                 have n2_ := Aside0.mk (blk_drew BK361.out)
                 have n3_ := Aside0.mk (below_drew1 HB.out)
                 clear HO_12
                 clear HO_15
                 clear BK361
                 clear HB
                 have HO_12 := n0_
                 have HO_15 := n1_
                 have BK361 := n2_
                 have HB := n3_
                 clear n0_ n1_ n2_ n3_
                 have p379 : 0 ≤ (x17_3 : Int) := of_decide_eq_true (by first | (with_reducible assumption) | assumption)
                 have q379 : x17_3 < (t368.length : Int) := of_decide_eq_true (by first | (with_reducible assumption) | assumption)
                 obtain ⟨ad379, e379, hx379_0, hx379_1, hx379_2, hx379_3, hx379_4, hx379_5⟩ := at_T43 (Kd.R_reads' HO_12.out).2.2 x17_3 p379 q379
                 cases e379
                 replace p379 := eq_true p379
                 replace q379 := eq_true q379
                 obtain ⟨Ao51, co51, eo51⟩ := Kd.R_slice HO_15.out
                 (first | subst eo51 | (injection eo51 with f1_ f2_ f3_; have f4_ := f1_.symm; have f5_ := f3_.symm; clear f1_ f2_ f3_; subst f4_; subst f5_))
                 refine start_ (n := 11) (S := fun w' => w'.cell? (ad379.add ((x17_3).toNat * 6)) = some (.string ((rd_T43 t368 x17_3).f0)) ∧ w'.cell? ⟨(ad379.add ((x17_3).toNat * 6)).block, (ad379.add ((x17_3).toNat * 6)).off + 1, none⟩ = some (.int .i64 ((rd_T43 t368 x17_3).f1)) ∧ w'.cell? ⟨(ad379.add ((x17_3).toNat * 6)).block, (ad379.add ((x17_3).toNat * 6)).off + 2, none⟩ = some (.int .i64 ((rd_T43 t368 x17_3).f2)) ∧ w'.cell? ⟨(ad379.add ((x17_3).toNat * 6)).block, (ad379.add ((x17_3).toNat * 6)).off + 3, none⟩ = some (.int .i64 ((rd_T43 t368 x17_3).f3)) ∧ w'.cell? ⟨(ad379.add ((x17_3).toNat * 6)).block, (ad379.add ((x17_3).toNat * 6)).off + 4, none⟩ = some (.int .i64 ((rd_T43 t368 x17_3).f4)) ∧ w'.cell? ⟨(ad379.add ((x17_3).toNat * 6)).block, (ad379.add ((x17_3).toNat * 6)).off + 5, none⟩ = some (.int .i64 ((rd_T43 t368 x17_3).f5))) (ds := []) (bq [0, 11]) (by kernel_rfl) rfl rfl ⟨hx379_0, hx379_1, hx379_2, hx379_3, hx379_4, hx379_5⟩ (fun hHeld => ?_); refine with_tabW laws_FnHours.tab20 laws_FnHours.bits20 (fun HT_ HW_ => ?_)
                 generalize wr.drew = w50 at HO_12 HO_15 BK361 HB hx379_0 hx379_1 hx379_2 hx379_3 hx379_4 hx379_5 hHeld ⊢
                 refine pV_ (i := 0) (N := some 97) (bq [1, 10]) rfl rfl HT_.out ?_
                 refine pV_ (i := 1) (N := some 98) (bq [2, 9]) rfl rfl HT_.out ?_
                 refine pV_ (i := 3) (N := some 100) (bq [2, 1, 1, 7]) rfl rfl HT_.out ?_
                 refine pV_ (i := 4) (N := some 101) (bq [2, 1, 2, 6]) rfl rfl HT_.out ?_
                 refine pV_ (i := 5) (N := some 102) (bq [2, 1, 3, 5]) rfl rfl HT_.out ?_
                 refine pV_ (i := 7) (N := some 104) (bq [2, 1, 3, 1, 1, 3]) rfl rfl HT_.out ?_
                 refine pV_ (i := 8) (N := some 105) (bq [2, 1, 3, 1, 2, 2]) rfl rfl HT_.out ?_
                 refine take_ (i := 6) (N := some 103) (v := ?_) (a' := ?_) (bq [2, 1, 6, 2]) rfl rfl (take_ofW HT_.out HW_.out (by kernel_rfl)) (fun _ _ _ h => h) (Or.inl ⟨by rfl, ?_⟩) hHeld ?_ ?_
                 rotate_left
                 · rintro w' ⟨s0, s1, s2, s3, s4, s5⟩
                   go_simp
                   with_reducible rfl
                 rotate_left
                 · simp only [Act.put, sx0, sx1, sx2, i64_w, i32_w]
                   rfl
                 refine one_ (i := 2) (N := some 99) (bq [9, 2]) rfl rfl (one_of HT_.out (by kernel_rfl)) (by decide) (fun K hK => ?_)
                 refine gS_ Try.func27 #[.slice Ao51 t373.length co51, .int .i64 x17_3] rfl rfl ?_
                 with_reducible refine (laws_b10Has.calls k3 _ _ t373 x17_3 t378 _ ?side1 ?side2 A43.out).mono ?_
                 (case side1 => repeat (first | exact (Kd.R_reads' HO_15.out).2.2 | (with_reducible refine Kd.C_alloc ?_ _) | (with_reducible refine Kd.C_drewN ?_ _) | (with_reducible refine Kd.C_drew ?_)))
                 (case side2 => exact (Kd.R_reads' HO_15.out).2.1)
                 rintro e w' ⟨rfl, ⟨nd, rfl⟩⟩
                 refine ⟨_, rfl, ?_⟩
                 refine hK.out _ _ ⟨hHeld.1, hHeld.2.1, hHeld.2.2.1, hHeld.2.2.2.1, hHeld.2.2.2.2.1, hHeld.2.2.2.2.2⟩ (fun hHeld => ?_)
                 clear hK K
                 refine norm_ (a' := ?_) ?_ ?_
                 rotate_left
                 · show Act.put _ (some 99) _ = _
                   simp only [Act.put, sx0, sx1, sx2, i64_w, i32_w]
                   rfl
                 refine one_ (i := 9) (N := some 106) (bq [10, 1]) rfl rfl (one_of HT_.out (by kernel_rfl)) (by decide) (fun K hK => ?_)
                 refine gS_ Try.func23 #[.agg #[.string ((rd_T43 t368 x17_3).f0), .int .i64 ((rd_T43 t368 x17_3).f1), .int .i64 ((rd_T43 t368 x17_3).f2), .int .i64 ((rd_T43 t368 x17_3).f3), .int .i64 ((rd_T43 t368 x17_3).f4), .int .i64 ((rd_T43 t368 x17_3).f5)], .int .i64 t369, .int .i64 t370] rfl rfl ?_
                 with_reducible refine (spec_FitsTime.calls k3 ((rd_T43 t368 x17_3).f0) ((rd_T43 t368 x17_3).f1) ((rd_T43 t368 x17_3).f2) ((rd_T43 t368 x17_3).f3) ((rd_T43 t368 x17_3).f4) ((rd_T43 t368 x17_3).f5) t369 t370 t380 _ A45.out).mono ?_
                 rintro e w52 ⟨rfl, hb⟩
                 have HS0_ := (hb.cell (World.block_lt_of_cell? _ _ (hHeld.1))).trans (hHeld.1)
                 have HS1_ := (hb.cell (World.block_lt_of_cell? _ _ (hHeld.2.1))).trans (hHeld.2.1)
                 have HS2_ := (hb.cell (World.block_lt_of_cell? _ _ (hHeld.2.2.1))).trans (hHeld.2.2.1)
                 have HS3_ := (hb.cell (World.block_lt_of_cell? _ _ (hHeld.2.2.2.1))).trans (hHeld.2.2.2.1)
                 have HS4_ := (hb.cell (World.block_lt_of_cell? _ _ (hHeld.2.2.2.2.1))).trans (hHeld.2.2.2.2.1)
                 have HS5_ := (hb.cell (World.block_lt_of_cell? _ _ (hHeld.2.2.2.2.2))).trans (hHeld.2.2.2.2.2)
                 refine ⟨_, rfl, ?_⟩
                 have n0_ := Aside0.mk (Kd.R_below (by (with_reducible repeat (first | apply qra | apply qrn | apply qrd)); exact HO_12.out) hb)
                 have n1_ := Aside0.mk (Kd.R_below (by (with_reducible repeat (first | apply qra | apply qrn | apply qrd)); exact HO_15.out) hb)
                 have n2_ := Aside0.mk (blk_below (g := gb361) (o := .cells #[.string t353, .int .i64 t354, .int .i64 t355, .int .i64 t356, .int .i64 t357, .int .i64 t358] 43 (0, 0)) (by (with_reducible repeat (first | refine blk_drewN ?_ _ | refine blk_drew ?_ | refine blk_alloc ?_ _)); exact BK361.out) hb)
                 have n3_ := Aside0.mk (below_step (by repeat (first | (with_reducible first | exact HB.out | apply qba | apply qbn | apply qb1 | refine below_set ?_ GE361.out) | exact HB.out)) hb)
                 clear HO_12
                 clear HO_15
                 clear BK361
                 clear HB
                 have HO_12 := n0_
                 have HO_15 := n1_
                 have BK361 := n2_
                 have HB := n3_
                 clear n0_ n1_ n2_ n3_
                 (try clear hb)
                 (try clear hb2)
                 (try clear hk)
                 (try clear hi)
                 refine hK.out _ _ ⟨HS0_, HS1_, HS2_, HS3_, HS4_, HS5_⟩ (fun hHeld => ?_)
                 clear hK K
                 refine norm_ (a' := ?_) ?_ ?_
                 rotate_left
                 · show Act.put _ (some 106) _ = _
                   simp only [Act.put, sx0, sx1, sx2, i64_w, i32_w]
                   rfl
                 refine pV_ (i := 10) (N := some 107) (bq [11]) rfl rfl HT_.out ?_
                 refine done_ (done_of HT_.out (by kernel_rfl)) ?_
                 try go_wp2
                 go_roundg k3
                 case measure => have := HJ2.out; have := HJ9.out; have := HK3.out; omega
                 case rel => exact ⟨(wrap64 (x17_3 + 1)), (by first | rfl | (simp; done) | (simp [*]; done)), H', ⟨by have := HJ2.out; have := HJ9.out; have := HK3.out; omega⟩, ⟨by (with_reducible repeat (first | apply qra | apply qrn | apply qrd)); exact HO_12.out⟩, ⟨by (with_reducible repeat (first | apply qra | apply qrn | apply qrd)); exact HO_15.out⟩, ⟨by (with_reducible repeat (first | refine blk_drewN ?_ _ | refine blk_drew ?_ | refine blk_alloc ?_ _)); exact BK361.out⟩, ⟨by repeat (first | (with_reducible first | exact HB.out | apply qba | apply qbn | apply qb1 | refine below_set ?_ GE361.out) | exact HB.out)⟩⟩
             · rw [if_neg c44] at H
               exact absurd H (by simp)
           · rw [if_neg c42] at H
             have c42b0 : decide (x17_3 < (t368.length : Int)) = false := decide_eq_false c42
             clear c42
             replace H := Option.bind_eq_some_iff.mp H
             obtain ⟨t377, A530, H⟩ := H
             replace H : (some t377) = some r := H
             have A53 := Aside0.mk A530
             clear A530
             obtain rfl := Option.some.inj H
             obtain ⟨Ao54, co54, eo54⟩ := Kd.R_slice HO_15.out
             subst eo54
             go_wp2_with (first | ((with_reducible refine gate_callee (f := 28) rfl ?_); refine gL_ (some 111) rfl rfl Try.func28 #[.slice Ao54 t373.length co54, .int .i64 (t368.length : Int)] rfl ?_; (with_reducible refine (laws_b10Rises.calls k3 _ _ t373 (t368.length : Int) t377 _ ?side1 ?side2 A53.out).mono ?_); (case side1 => repeat (first | exact (Kd.R_reads' HO_15.out).2.2 | (with_reducible refine Kd.C_alloc ?_ _) | (with_reducible refine Kd.C_drewN ?_ _) | (with_reducible refine Kd.C_drew ?_))); (case side2 => exact (Kd.R_reads' HO_15.out).2.1); rintro e w' ⟨rfl, ⟨nd, rfl⟩⟩; refine ⟨_, rfl, ?_⟩))
             go_ret
             exact ⟨by first | rfl | (simp [errW_none, errW_some] <;> rfl) | (simp [*, errW_none, errW_some] <;> rfl), by repeat (first | (with_reducible first | exact HB.out | apply qba | apply qbn | apply qb1 | refine below_set ?_ GE361.out) | exact HB.out)⟩
       · rw [if_neg c38] at H
         have c38b0 : (t374 == 0) = false := beq_eq_false_iff_ne.mpr c38
         have c38b1 : (t374 != 0) = true := bne_iff_ne.mpr c38
         obtain rfl := Option.some.inj H
         go_wp2_with (first | ((with_reducible refine gate_callee (f := 25) rfl ?_); refine gL_ (some 75) rfl rfl Try.func25 #[.slice A1 l1.length c1] rfl ?_; (with_reducible refine (spec_DrawFittingAt.calls kj9 _ _ l1 t368 t369 t370 _ ?side1 ?side2 A36.out).mono ?_); (case side1 => repeat (first | exact (Kd.C_below HR1.out HB.out) | (with_reducible refine Kd.C_alloc ?_ _) | (with_reducible refine Kd.C_drewN ?_ _) | (with_reducible refine Kd.C_drew ?_))); (case side2 => exact HC1.out); rintro e w55 ⟨v371, rfl, ho0, hb⟩; refine ⟨_, rfl, ?_⟩; have n0_ := Aside0.mk (Kd.R_lower (Kd.R_newB ho0 (g := gb361) (o := .cells #[.string t353, .int .i64 t354, .int .i64 t355, .int .i64 t356, .int .i64 t357, .int .i64 t358] 43 (0, 0)) (by (with_reducible repeat (first | refine blk_drewN ?_ _ | refine blk_drew ?_ | refine blk_alloc ?_ _)); exact BK361.out)) (below_size (by repeat (first | (with_reducible first | exact HB.out | apply qba | apply qbn | apply qb1 | refine below_set ?_ GE361.out) | exact HB.out)))); have n1_ := Aside0.mk (blk_below (g := gb361) (o := .cells #[.string t353, .int .i64 t354, .int .i64 t355, .int .i64 t356, .int .i64 t357, .int .i64 t358] 43 (0, 0)) (by (with_reducible repeat (first | refine blk_drewN ?_ _ | refine blk_drew ?_ | refine blk_alloc ?_ _)); exact BK361.out) hb); have n2_ := Aside0.mk (below_step (by repeat (first | (with_reducible first | exact HB.out | apply qba | apply qbn | apply qb1 | refine below_set ?_ GE361.out) | exact HB.out)) hb); clear BK361; clear HB; have HO372 := n0_; have BK361 := n1_; have HB := n2_; clear n0_ n1_ n2_; (try clear hb); (try clear hb2); (try clear hk); (try clear hi); (try clear ho0); obtain ⟨Ao56, co56, eo56⟩ := Kd.R_slice HO372.out; subst eo56) | ((with_reducible refine gate_callee (f := 26) rfl ?_); refine gL_ (some 83) rfl rfl Try.func26 #[.slice Ao56 t368.length co56, .int .i64 t369, .int .i64 t370] rfl ?_; (with_reducible refine (impl_FittingAt.calls kj9 _ _ t368 t369 t370 t373 t374 _ ?side1 ?side2 A37.out).mono ?_); (case side1 => repeat (first | exact (Kd.R_reads' HO372.out).2.2 | (with_reducible refine Kd.C_alloc ?_ _) | (with_reducible refine Kd.C_drewN ?_ _) | (with_reducible refine Kd.C_drew ?_))); (case side2 => exact (Kd.R_reads' HO372.out).2.1); rintro e w57 ⟨v375, rfl, ho0, hb⟩; refine ⟨_, rfl, ?_⟩; have n0_ := Aside0.mk (Kd.R_below (by (with_reducible repeat (first | apply qra | apply qrn | apply qrd)); exact HO372.out) hb); have n1_ := Aside0.mk (Kd.R_lower ho0 (below_size (by repeat (first | (with_reducible first | exact HB.out | apply qba | apply qbn | apply qb1 | refine below_set ?_ GE361.out) | exact HB.out)))); have n2_ := Aside0.mk (blk_below (g := gb361) (o := .cells #[.string t353, .int .i64 t354, .int .i64 t355, .int .i64 t356, .int .i64 t357, .int .i64 t358] 43 (0, 0)) (by (with_reducible repeat (first | refine blk_drewN ?_ _ | refine blk_drew ?_ | refine blk_alloc ?_ _)); exact BK361.out) hb); have n3_ := Aside0.mk (below_step (by repeat (first | (with_reducible first | exact HB.out | apply qba | apply qbn | apply qb1 | refine below_set ?_ GE361.out) | exact HB.out)) hb); clear HO372; clear BK361; clear HB; have HO372 := n0_; have HO376 := n1_; have BK361 := n2_; have HB := n3_; clear n0_ n1_ n2_ n3_; (try clear hb); (try clear hb2); (try clear hk); (try clear hi); (try clear ho0); obtain ⟨Ao58, co58, eo58⟩ := Kd.R_slice HO376.out; subst eo58))
         go_ret
         exact ⟨by first | rfl | (simp [errW_none, errW_some] <;> rfl) | (simp [*, errW_none, errW_some] <;> rfl), by repeat (first | (with_reducible first | exact HB.out | apply qba | apply qbn | apply qb1 | refine below_set ?_ GE361.out) | exact HB.out)⟩

/-- THE ONE PURE STATEMENT of laws_FnHours: yours. -/
def laws_FnHours.Pure : Prop := ∀ (l0 : List Int) (l1 : List Int), (l0.length ≤ maxLen ∧ ∀ y0 ∈ l0, (Lit.int .u8 y0).wf = true) → (l1.length ≤ maxLen ∧ ∀ y0 ∈ l1, (Lit.int .u8 y0).wf = true) → ∃ k, laws_FnHours.f k l0 l1 = some true
theorem laws_FnHours.walk (P : laws_FnHours.Pure) (A0 : Option Addr) (c0 : Nat) (l0 : List Int) (A1 : Option Addr) (c1 : Nat) (l1 : List Int) (w : World) (hr0 : Kd.C (Kd.int .u8) w A0 l0.length l0) (hc0 : l0.length ≤ c0) (hr1 : Kd.C (Kd.int .u8) w A1 l1.length l1) (hc1 : l1.length ≤ c1) (hk0 : (l0.length ≤ maxLen ∧ ∀ y0 ∈ l0, (Lit.int .u8 y0).wf = true)) (hk1 : (l1.length ≤ maxLen ∧ ∀ y0 ∈ l1, (Lit.int .u8 y0).wf = true)) :
 Calls Try.prog 4 #[.slice A0 l0.length c0, .slice A1 l1.length c1] w fun e w' => e = .returned (.bool true) ∧ Below w.heap.size w w' := by
 obtain ⟨k, h⟩ := P l0 l1 hk0 hk1
 refine (laws_FnHours.calls k _ _ l0 _ _ l1 true w hr0 hc0 hr1 hc1 h).mono ?_
 rintro e w' ⟨rfl, hd⟩
 exact ⟨rfl, hd⟩

end Go.Proofs.Ytomeeimjlagbbaa.PH
