-- WRITTEN BY wip/gprint.py, a program of this session's over the kit's print, with contracts given by hand
import Derived.Test.YtcfcohfniibpdaaPRx0
import Derived.Test.YtcfcohfniibpdaaPRx1
import Derived.Test.YtcfcohfniibpdaaPRx3
import Derived.Test.YtcfcohfniibpdaaPRx4
import Derived.Test.YtcfcohfniibpdaaPRx6
import Derived.Test.YtcfcohfniibpdaaPRx8
import Derived.Test.YtcfcohfniibpdaaPRx9
import Derived.Test.YtcfcohfniibpdaaPRx10
import Derived.Test.YtcfcohfniibpdaaPRx11
import Derived.Test.YtcfcohfniibpdaaPRx13
namespace Go.Proofs.Ytcfcohfniibpdaa.PR
open Go.RowKit Go.Proofs.YtcfcohfniibpdaaW.PrintWords Go.Proofs.YtcfcohfniibpdaaW.PrintLast Go.Proofs.YtcfcohfniibpdaaW.PrintMore
attribute [local go_sem] max2_int min2_int max_two min_two max_three min_three max_four min_four   -- for this text's walks alone
set_option linter.unusedVariables false
set_option linter.unusedSimpArgs false

/-! ### laws_FnRotations: function 3 -/
mutual
def laws_FnRotations.j0 : Nat → List Int → Int → Int → List Int → Int → List Int → List Int → List Int → Bool → Option (Bool)
  | 0, _, _, _, _, _, _, _, _, _ => none
  | k + 1, x5, x6, x7, x8, x12, x14, x16, x18, x126 => if x126 = true then (some false) else ((spec_RotateScale.f k x5 x12).bind fun bt263 => (laws_FnRotations.l0 k x5 x6 x7 x8 x14 x16 x18 bt263.1 bt263.2 0 0))
def laws_FnRotations.l0 : Nat → List Int → Int → Int → List Int → List Int → List Int → List Int → List Int → Int → Int → Int → Option (Bool)
  | 0, _, _, _, _, _, _, _, _, _, _, _ => none
  | k + 1, x5, x6, x7, x8, x14, x16, x18, x20, x21, x22, x23 => if x23 < x6 then (if 0 ≤ x23 then (if x23 < (x14.length : Int) then (if (rd x14 x23) < 1 then (some false) else (if x23 < (x16.length : Int) then (if x6 = 0 then (none) else (if 0 ≤ (Int.tmod (wrap64 (x23 + x7)) x6) then (if (Int.tmod (wrap64 (x23 + x7)) x6) < (x14.length : Int) then (if (rd x16 x23) = (rd x14 (Int.tmod (wrap64 (x23 + x7)) x6)) then (laws_FnRotations.l0 k x5 x6 x7 x8 x14 x16 x18 x20 x21 (wrap64 (x22 + (rd x14 x23))) (wrap64 (x23 + 1))) else (some false)) else (none)) else (none))) else (none))) else (none)) else (none)) else (laws_FnRotations.l1 k x5 x8 x18 x20 x21 x22 0)
def laws_FnRotations.l1 : Nat → List Int → List Int → List Int → List Int → Int → Int → Int → Option (Bool)
  | 0, _, _, _, _, _, _, _ => none
  | k + 1, x5, x8, x18, x20, x21, x22, x24 => if x24 < (x18.length : Int) then (if 0 ≤ x24 then ((laws_r8Has.f k x5 (rd x18 x24)).bind fun t273 => (if t273 = true then ((laws_r8Has.f k x8 (rd x18 x24)).bind fun t275 => (if t275 = true then (laws_FnRotations.l1 k x5 x8 x18 x20 x21 x22 (wrap64 (x24 + 1))) else (some false))) else (some false))) else (none)) else (if x22 = 12 then (if x21 = 0 then ((laws_r8Same.f k x20 x8).bind fun t271 => (if t271 = true then (some (decide ((x18.length : Int) ≥ 1))) else (some false))) else (some false)) else (some false))
end
def laws_FnRotations.f (k : Nat) (l0 : List Int) (l1 : List Int) : Option (Bool) := (laws_r8Long.f l0 l1).bind fun t234 => (if t234 = true then (some true) else ((spec_R8Scale.f k l0).bind fun t235 => ((laws_r8At.f l1 0 (t235.length : Int)).bind fun t238 => ((impl_RotateScale.f k t235 t238).bind fun bt239 => (if (t235.length : Int) = 0 then (none) else ((impl_RotateScale.f k bt239.1 (Int.tmod (wrap64 ((t235.length : Int) - t238)) (t235.length : Int))).bind fun bt243 => ((impl_RotationTo.f k t235 bt239.1).bind fun bt247 => ((impl_IntervalsOf.f k t235).bind fun bt249 => ((impl_IntervalsOf.f k bt239.1).bind fun bt253 => ((impl_CommonTones.f k t235 bt239.1).bind fun bt257 => (if bt239.2 = 0 then (if bt243.2 = 0 then ((laws_r8Same.f k bt243.1 t235).bind fun t261 => (if t261 = true then ((spec_ValidScale.f k bt239.1).bind fun t262 => (if t262 = true then (if bt247.2 = 0 then (if bt247.1 < 0 then (laws_FnRotations.j0 k t235 (t235.length : Int) t238 bt239.1 bt247.1 bt249.1 bt253.1 bt257.1 true) else (if bt247.1 > t238 then (laws_FnRotations.j0 k t235 (t235.length : Int) t238 bt239.1 bt247.1 bt249.1 bt253.1 bt257.1 true) else (if bt249.2 = 0 then (if bt253.2 = 0 then (if (bt249.1.length : Int) = (t235.length : Int) then (if (bt253.1.length : Int) = (t235.length : Int) then (laws_FnRotations.j0 k t235 (t235.length : Int) t238 bt239.1 bt247.1 bt249.1 bt253.1 bt257.1 (bt257.2 != 0)) else (laws_FnRotations.j0 k t235 (t235.length : Int) t238 bt239.1 bt247.1 bt249.1 bt253.1 bt257.1 true)) else (laws_FnRotations.j0 k t235 (t235.length : Int) t238 bt239.1 bt247.1 bt249.1 bt253.1 bt257.1 true)) else (laws_FnRotations.j0 k t235 (t235.length : Int) t238 bt239.1 bt247.1 bt249.1 bt253.1 bt257.1 true)) else (laws_FnRotations.j0 k t235 (t235.length : Int) t238 bt239.1 bt247.1 bt249.1 bt253.1 bt257.1 true)))) else (laws_FnRotations.j0 k t235 (t235.length : Int) t238 bt239.1 bt247.1 bt249.1 bt253.1 bt257.1 true)) else (laws_FnRotations.j0 k t235 (t235.length : Int) t238 bt239.1 bt247.1 bt249.1 bt253.1 bt257.1 true))) else (laws_FnRotations.j0 k t235 (t235.length : Int) t238 bt239.1 bt247.1 bt249.1 bt253.1 bt257.1 true))) else (laws_FnRotations.j0 k t235 (t235.length : Int) t238 bt239.1 bt247.1 bt249.1 bt253.1 bt257.1 true)) else (laws_FnRotations.j0 k t235 (t235.length : Int) t238 bt239.1 bt247.1 bt249.1 bt253.1 bt257.1 true))))))))))))
theorem laws_FnRotations.mono_l : ∀ k, (∀ y0 y1 y2 y3 y4 y5 y6 y7 y8, LeO (laws_FnRotations.j0 k y0 y1 y2 y3 y4 y5 y6 y7 y8) (laws_FnRotations.j0 (k + 1) y0 y1 y2 y3 y4 y5 y6 y7 y8)) ∧ (∀ y0 y1 y2 y3 y4 y5 y6 y7 y8 y9 y10, LeO (laws_FnRotations.l0 k y0 y1 y2 y3 y4 y5 y6 y7 y8 y9 y10) (laws_FnRotations.l0 (k + 1) y0 y1 y2 y3 y4 y5 y6 y7 y8 y9 y10)) ∧ (∀ y0 y1 y2 y3 y4 y5 y6, LeO (laws_FnRotations.l1 k y0 y1 y2 y3 y4 y5 y6) (laws_FnRotations.l1 (k + 1) y0 y1 y2 y3 y4 y5 y6))
  | 0 => ⟨fun _ _ _ _ _ _ _ _ _ r h => by simp [laws_FnRotations.j0] at h, fun _ _ _ _ _ _ _ _ _ _ _ r h => by simp [laws_FnRotations.l0] at h, fun _ _ _ _ _ _ _ r h => by simp [laws_FnRotations.l1] at h⟩
  | k + 1 => by
    obtain ⟨ih0, ih1, ih2⟩ := laws_FnRotations.mono_l k
    refine ⟨?_, ?_, ?_⟩
    all_goals (intros; (first | unfold laws_FnRotations.j0 | unfold laws_FnRotations.l0 | unfold laws_FnRotations.l1); repeat' first
     | (with_reducible exact ih0 _ _ _ _ _ _ _ _ _)
     | (with_reducible exact ih1 _ _ _ _ _ _ _ _ _ _ _)
     | (with_reducible exact ih2 _ _ _ _ _ _ _)
     | (with_reducible exact impl_CommonTones.mono _ _ _)
     | (with_reducible exact impl_IntervalsOf.mono _ _)
     | (with_reducible exact impl_RotateScale.mono _ _ _)
     | (with_reducible exact impl_RotationTo.mono _ _ _)
     | (with_reducible exact laws_r8Has.mono _ _ _)
     | (with_reducible exact laws_r8Same.mono _ _ _)
     | (with_reducible exact spec_R8Scale.mono _ _)
     | (with_reducible exact spec_RotateScale.mono _ _ _)
     | (with_reducible exact spec_ValidScale.mono _ _)
     | (with_reducible exact LeO.refl _)
     | (with_reducible exact LeO.none _)
     | (with_reducible refine LeO.ite ?_ ?_)
     | (with_reducible refine LeO.bind ?_ (fun _ => ?_))
     | exact ih0 _ _ _ _ _ _ _ _ _
     | exact ih1 _ _ _ _ _ _ _ _ _ _ _
     | exact ih2 _ _ _ _ _ _ _
     | exact impl_CommonTones.mono _ _ _
     | exact impl_IntervalsOf.mono _ _
     | exact impl_RotateScale.mono _ _ _
     | exact impl_RotationTo.mono _ _ _
     | exact laws_r8Has.mono _ _ _
     | exact laws_r8Same.mono _ _ _
     | exact spec_R8Scale.mono _ _
     | exact spec_RotateScale.mono _ _ _
     | exact spec_ValidScale.mono _ _
     | exact LeO.none _
     | refine LeO.ite ?_ ?_
     | refine LeO.bind ?_ (fun _ => ?_))
theorem laws_FnRotations.mono : ∀ a0 a1 k, LeO (laws_FnRotations.f k a0 a1) (laws_FnRotations.f (k + 1) a0 a1) := by
  intro a0 a1 k
  obtain ⟨ih0, ih1, ih2⟩ := laws_FnRotations.mono_l k
  unfold laws_FnRotations.f
  repeat' first
      | (with_reducible exact ih0 _ _ _ _ _ _ _ _ _)
      | (with_reducible exact ih1 _ _ _ _ _ _ _ _ _ _ _)
      | (with_reducible exact ih2 _ _ _ _ _ _ _)
      | (with_reducible exact impl_CommonTones.mono _ _ _)
      | (with_reducible exact impl_IntervalsOf.mono _ _)
      | (with_reducible exact impl_RotateScale.mono _ _ _)
      | (with_reducible exact impl_RotationTo.mono _ _ _)
      | (with_reducible exact laws_r8Has.mono _ _ _)
      | (with_reducible exact laws_r8Same.mono _ _ _)
      | (with_reducible exact spec_R8Scale.mono _ _)
      | (with_reducible exact spec_RotateScale.mono _ _ _)
      | (with_reducible exact spec_ValidScale.mono _ _)
      | (with_reducible exact LeO.refl _)
      | (with_reducible exact LeO.none _)
      | (with_reducible refine LeO.ite ?_ ?_)
      | (with_reducible refine LeO.bind ?_ (fun _ => ?_))
      | exact ih0 _ _ _ _ _ _ _ _ _
      | exact ih1 _ _ _ _ _ _ _ _ _ _ _
      | exact ih2 _ _ _ _ _ _ _
      | exact impl_CommonTones.mono _ _ _
      | exact impl_IntervalsOf.mono _ _
      | exact impl_RotateScale.mono _ _ _
      | exact impl_RotationTo.mono _ _ _
      | exact laws_r8Has.mono _ _ _
      | exact laws_r8Same.mono _ _ _
      | exact spec_R8Scale.mono _ _
      | exact spec_RotateScale.mono _ _ _
      | exact spec_ValidScale.mono _ _
      | exact LeO.none _
      | refine LeO.ite ?_ ?_
      | refine LeO.bind ?_ (fun _ => ?_)
set_option maxHeartbeats 8000000 in
set_option maxRecDepth 100000 in
theorem laws_FnRotations.calls (k : Nat) (A0 : Option Addr) (c0 : Nat) (l0 : List Int) (A1 : Option Addr) (c1 : Nat) (l1 : List Int) (r : Bool) (w : World) (hr0 : Kd.C (Kd.int .u8) w A0 l0.length l0) (hc0 : l0.length ≤ c0) (hr1 : Kd.C (Kd.int .u8) w A1 l1.length l1) (hc1 : l1.length ≤ c1) (h : laws_FnRotations.f k l0 l1 = some r) :
    Calls Try.prog 3 #[.slice A0 l0.length c0, .slice A1 l1.length c1] w fun e w' => e = .returned (.bool r) ∧ Below w.heap.size w w' := by
  have HR0 := Aside0.mk hr0
  have HC0 := Aside0.mk hc0
  clear hr0 hc0
  have HR1 := Aside0.mk hr1
  have HC1 := Aside0.mk hc1
  clear hr1 hc1
  have HB := Aside0.mk (Below.refl w.heap.size w)
  have H : ((laws_r8Long.f l0 l1).bind fun t234 => (if t234 = true then (some true) else ((spec_R8Scale.f k l0).bind fun t235 => ((laws_r8At.f l1 0 (t235.length : Int)).bind fun t238 => ((impl_RotateScale.f k t235 t238).bind fun bt239 => (if (t235.length : Int) = 0 then (none) else ((impl_RotateScale.f k bt239.1 (Int.tmod (wrap64 ((t235.length : Int) - t238)) (t235.length : Int))).bind fun bt243 => ((impl_RotationTo.f k t235 bt239.1).bind fun bt247 => ((impl_IntervalsOf.f k t235).bind fun bt249 => ((impl_IntervalsOf.f k bt239.1).bind fun bt253 => ((impl_CommonTones.f k t235 bt239.1).bind fun bt257 => (if bt239.2 = 0 then (if bt243.2 = 0 then ((laws_r8Same.f k bt243.1 t235).bind fun t261 => (if t261 = true then ((spec_ValidScale.f k bt239.1).bind fun t262 => (if t262 = true then (if bt247.2 = 0 then (if bt247.1 < 0 then (laws_FnRotations.j0 k t235 (t235.length : Int) t238 bt239.1 bt247.1 bt249.1 bt253.1 bt257.1 true) else (if bt247.1 > t238 then (laws_FnRotations.j0 k t235 (t235.length : Int) t238 bt239.1 bt247.1 bt249.1 bt253.1 bt257.1 true) else (if bt249.2 = 0 then (if bt253.2 = 0 then (if (bt249.1.length : Int) = (t235.length : Int) then (if (bt253.1.length : Int) = (t235.length : Int) then (laws_FnRotations.j0 k t235 (t235.length : Int) t238 bt239.1 bt247.1 bt249.1 bt253.1 bt257.1 (bt257.2 != 0)) else (laws_FnRotations.j0 k t235 (t235.length : Int) t238 bt239.1 bt247.1 bt249.1 bt253.1 bt257.1 true)) else (laws_FnRotations.j0 k t235 (t235.length : Int) t238 bt239.1 bt247.1 bt249.1 bt253.1 bt257.1 true)) else (laws_FnRotations.j0 k t235 (t235.length : Int) t238 bt239.1 bt247.1 bt249.1 bt253.1 bt257.1 true)) else (laws_FnRotations.j0 k t235 (t235.length : Int) t238 bt239.1 bt247.1 bt249.1 bt253.1 bt257.1 true)))) else (laws_FnRotations.j0 k t235 (t235.length : Int) t238 bt239.1 bt247.1 bt249.1 bt253.1 bt257.1 true)) else (laws_FnRotations.j0 k t235 (t235.length : Int) t238 bt239.1 bt247.1 bt249.1 bt253.1 bt257.1 true))) else (laws_FnRotations.j0 k t235 (t235.length : Int) t238 bt239.1 bt247.1 bt249.1 bt253.1 bt257.1 true))) else (laws_FnRotations.j0 k t235 (t235.length : Int) t238 bt239.1 bt247.1 bt249.1 bt253.1 bt257.1 true)) else (laws_FnRotations.j0 k t235 (t235.length : Int) t238 bt239.1 bt247.1 bt249.1 bt253.1 bt257.1 true))))))))))))) = some r := h
  clear h
  replace H := Option.bind_eq_some_iff.mp H
  obtain ⟨t234, A30, H⟩ := H
  replace H : (if t234 = true then (some true) else ((spec_R8Scale.f k l0).bind fun t235 => ((laws_r8At.f l1 0 (t235.length : Int)).bind fun t238 => ((impl_RotateScale.f k t235 t238).bind fun bt239 => (if (t235.length : Int) = 0 then (none) else ((impl_RotateScale.f k bt239.1 (Int.tmod (wrap64 ((t235.length : Int) - t238)) (t235.length : Int))).bind fun bt243 => ((impl_RotationTo.f k t235 bt239.1).bind fun bt247 => ((impl_IntervalsOf.f k t235).bind fun bt249 => ((impl_IntervalsOf.f k bt239.1).bind fun bt253 => ((impl_CommonTones.f k t235 bt239.1).bind fun bt257 => (if bt239.2 = 0 then (if bt243.2 = 0 then ((laws_r8Same.f k bt243.1 t235).bind fun t261 => (if t261 = true then ((spec_ValidScale.f k bt239.1).bind fun t262 => (if t262 = true then (if bt247.2 = 0 then (if bt247.1 < 0 then (laws_FnRotations.j0 k t235 (t235.length : Int) t238 bt239.1 bt247.1 bt249.1 bt253.1 bt257.1 true) else (if bt247.1 > t238 then (laws_FnRotations.j0 k t235 (t235.length : Int) t238 bt239.1 bt247.1 bt249.1 bt253.1 bt257.1 true) else (if bt249.2 = 0 then (if bt253.2 = 0 then (if (bt249.1.length : Int) = (t235.length : Int) then (if (bt253.1.length : Int) = (t235.length : Int) then (laws_FnRotations.j0 k t235 (t235.length : Int) t238 bt239.1 bt247.1 bt249.1 bt253.1 bt257.1 (bt257.2 != 0)) else (laws_FnRotations.j0 k t235 (t235.length : Int) t238 bt239.1 bt247.1 bt249.1 bt253.1 bt257.1 true)) else (laws_FnRotations.j0 k t235 (t235.length : Int) t238 bt239.1 bt247.1 bt249.1 bt253.1 bt257.1 true)) else (laws_FnRotations.j0 k t235 (t235.length : Int) t238 bt239.1 bt247.1 bt249.1 bt253.1 bt257.1 true)) else (laws_FnRotations.j0 k t235 (t235.length : Int) t238 bt239.1 bt247.1 bt249.1 bt253.1 bt257.1 true)))) else (laws_FnRotations.j0 k t235 (t235.length : Int) t238 bt239.1 bt247.1 bt249.1 bt253.1 bt257.1 true)) else (laws_FnRotations.j0 k t235 (t235.length : Int) t238 bt239.1 bt247.1 bt249.1 bt253.1 bt257.1 true))) else (laws_FnRotations.j0 k t235 (t235.length : Int) t238 bt239.1 bt247.1 bt249.1 bt253.1 bt257.1 true))) else (laws_FnRotations.j0 k t235 (t235.length : Int) t238 bt239.1 bt247.1 bt249.1 bt253.1 bt257.1 true)) else (laws_FnRotations.j0 k t235 (t235.length : Int) t238 bt239.1 bt247.1 bt249.1 bt253.1 bt257.1 true)))))))))))) = some r := H
  have A3 := Aside0.mk A30
  clear A30
  by_cases c4 : t234 = true
  · subst c4
    have H1 : (some true) = some r := by rw [if_pos rfl] at H; exact H
    clear H
    have H := H1
    clear H1
    obtain rfl := Option.some.inj H
    go_enter Try.func3, Try.ntmps3
    go_wp2_with (first | (go_at_call 4; (with_reducible refine (laws_r8Long.calls _ _ l0 _ _ l1 true _ ?side1 ?side2 ?side3 ?side4 A3.out).mono ?_); (case side1 => exact tC HR0.out); (case side2 => exact HC0.out); (case side3 => exact tC HR1.out); (case side4 => exact HC1.out); rintro e w' ⟨rfl, ⟨nd, rfl⟩⟩; (try first | exact ⟨rfl, _, World.drewN_drewN _ _ _⟩ | exact ⟨rfl, _, Eq.trans (World.drewN_drewN _ _ _) (congrArg (World.drewN _) (Nat.add_assoc _ _ _))⟩)))
    repeat (go_quiet (first | (go_at_call 4; (with_reducible refine (laws_r8Long.calls _ _ l0 _ _ l1 true _ ?side1 ?side2 ?side3 ?side4 A3.out).mono ?_); (case side1 => exact tC HR0.out); (case side2 => exact HC0.out); (case side3 => exact tC HR1.out); (case side4 => exact HC1.out); rintro e w' ⟨rfl, ⟨nd, rfl⟩⟩; (try first | exact ⟨rfl, _, World.drewN_drewN _ _ _⟩ | exact ⟨rfl, _, Eq.trans (World.drewN_drewN _ _ _) (congrArg (World.drewN _) (Nat.add_assoc _ _ _))⟩))); try go_wp2_with (first | (go_at_call 4; (with_reducible refine (laws_r8Long.calls _ _ l0 _ _ l1 true _ ?side1 ?side2 ?side3 ?side4 A3.out).mono ?_); (case side1 => exact tC HR0.out); (case side2 => exact HC0.out); (case side3 => exact tC HR1.out); (case side4 => exact HC1.out); rintro e w' ⟨rfl, ⟨nd, rfl⟩⟩; (try first | exact ⟨rfl, _, World.drewN_drewN _ _ _⟩ | exact ⟨rfl, _, Eq.trans (World.drewN_drewN _ _ _) (congrArg (World.drewN _) (Nat.add_assoc _ _ _))⟩))))
    go_ret
    exact ⟨tE, by repeat (first | (with_reducible first | exact HB.out | apply below_alloc | apply pw_below_drewN | apply below_drew1) | exact HB.out)⟩
  · replace c4 := Bool.eq_false_iff.mpr c4
    subst c4
    have H1 : ((spec_R8Scale.f k l0).bind fun t235 => ((laws_r8At.f l1 0 (t235.length : Int)).bind fun t238 => ((impl_RotateScale.f k t235 t238).bind fun bt239 => (if (t235.length : Int) = 0 then (none) else ((impl_RotateScale.f k bt239.1 (Int.tmod (wrap64 ((t235.length : Int) - t238)) (t235.length : Int))).bind fun bt243 => ((impl_RotationTo.f k t235 bt239.1).bind fun bt247 => ((impl_IntervalsOf.f k t235).bind fun bt249 => ((impl_IntervalsOf.f k bt239.1).bind fun bt253 => ((impl_CommonTones.f k t235 bt239.1).bind fun bt257 => (if bt239.2 = 0 then (if bt243.2 = 0 then ((laws_r8Same.f k bt243.1 t235).bind fun t261 => (if t261 = true then ((spec_ValidScale.f k bt239.1).bind fun t262 => (if t262 = true then (if bt247.2 = 0 then (if bt247.1 < 0 then (laws_FnRotations.j0 k t235 (t235.length : Int) t238 bt239.1 bt247.1 bt249.1 bt253.1 bt257.1 true) else (if bt247.1 > t238 then (laws_FnRotations.j0 k t235 (t235.length : Int) t238 bt239.1 bt247.1 bt249.1 bt253.1 bt257.1 true) else (if bt249.2 = 0 then (if bt253.2 = 0 then (if (bt249.1.length : Int) = (t235.length : Int) then (if (bt253.1.length : Int) = (t235.length : Int) then (laws_FnRotations.j0 k t235 (t235.length : Int) t238 bt239.1 bt247.1 bt249.1 bt253.1 bt257.1 (bt257.2 != 0)) else (laws_FnRotations.j0 k t235 (t235.length : Int) t238 bt239.1 bt247.1 bt249.1 bt253.1 bt257.1 true)) else (laws_FnRotations.j0 k t235 (t235.length : Int) t238 bt239.1 bt247.1 bt249.1 bt253.1 bt257.1 true)) else (laws_FnRotations.j0 k t235 (t235.length : Int) t238 bt239.1 bt247.1 bt249.1 bt253.1 bt257.1 true)) else (laws_FnRotations.j0 k t235 (t235.length : Int) t238 bt239.1 bt247.1 bt249.1 bt253.1 bt257.1 true)))) else (laws_FnRotations.j0 k t235 (t235.length : Int) t238 bt239.1 bt247.1 bt249.1 bt253.1 bt257.1 true)) else (laws_FnRotations.j0 k t235 (t235.length : Int) t238 bt239.1 bt247.1 bt249.1 bt253.1 bt257.1 true))) else (laws_FnRotations.j0 k t235 (t235.length : Int) t238 bt239.1 bt247.1 bt249.1 bt253.1 bt257.1 true))) else (laws_FnRotations.j0 k t235 (t235.length : Int) t238 bt239.1 bt247.1 bt249.1 bt253.1 bt257.1 true)) else (laws_FnRotations.j0 k t235 (t235.length : Int) t238 bt239.1 bt247.1 bt249.1 bt253.1 bt257.1 true))))))))))) = some r := by rw [if_neg (show ¬ (false = true) by decide)] at H; exact H
    clear H
    have H := H1
    clear H1
    replace H := Option.bind_eq_some_iff.mp H
    obtain ⟨t235, A50, H⟩ := H
    replace H : ((laws_r8At.f l1 0 (t235.length : Int)).bind fun t238 => ((impl_RotateScale.f k t235 t238).bind fun bt239 => (if (t235.length : Int) = 0 then (none) else ((impl_RotateScale.f k bt239.1 (Int.tmod (wrap64 ((t235.length : Int) - t238)) (t235.length : Int))).bind fun bt243 => ((impl_RotationTo.f k t235 bt239.1).bind fun bt247 => ((impl_IntervalsOf.f k t235).bind fun bt249 => ((impl_IntervalsOf.f k bt239.1).bind fun bt253 => ((impl_CommonTones.f k t235 bt239.1).bind fun bt257 => (if bt239.2 = 0 then (if bt243.2 = 0 then ((laws_r8Same.f k bt243.1 t235).bind fun t261 => (if t261 = true then ((spec_ValidScale.f k bt239.1).bind fun t262 => (if t262 = true then (if bt247.2 = 0 then (if bt247.1 < 0 then (laws_FnRotations.j0 k t235 (t235.length : Int) t238 bt239.1 bt247.1 bt249.1 bt253.1 bt257.1 true) else (if bt247.1 > t238 then (laws_FnRotations.j0 k t235 (t235.length : Int) t238 bt239.1 bt247.1 bt249.1 bt253.1 bt257.1 true) else (if bt249.2 = 0 then (if bt253.2 = 0 then (if (bt249.1.length : Int) = (t235.length : Int) then (if (bt253.1.length : Int) = (t235.length : Int) then (laws_FnRotations.j0 k t235 (t235.length : Int) t238 bt239.1 bt247.1 bt249.1 bt253.1 bt257.1 (bt257.2 != 0)) else (laws_FnRotations.j0 k t235 (t235.length : Int) t238 bt239.1 bt247.1 bt249.1 bt253.1 bt257.1 true)) else (laws_FnRotations.j0 k t235 (t235.length : Int) t238 bt239.1 bt247.1 bt249.1 bt253.1 bt257.1 true)) else (laws_FnRotations.j0 k t235 (t235.length : Int) t238 bt239.1 bt247.1 bt249.1 bt253.1 bt257.1 true)) else (laws_FnRotations.j0 k t235 (t235.length : Int) t238 bt239.1 bt247.1 bt249.1 bt253.1 bt257.1 true)))) else (laws_FnRotations.j0 k t235 (t235.length : Int) t238 bt239.1 bt247.1 bt249.1 bt253.1 bt257.1 true)) else (laws_FnRotations.j0 k t235 (t235.length : Int) t238 bt239.1 bt247.1 bt249.1 bt253.1 bt257.1 true))) else (laws_FnRotations.j0 k t235 (t235.length : Int) t238 bt239.1 bt247.1 bt249.1 bt253.1 bt257.1 true))) else (laws_FnRotations.j0 k t235 (t235.length : Int) t238 bt239.1 bt247.1 bt249.1 bt253.1 bt257.1 true)) else (laws_FnRotations.j0 k t235 (t235.length : Int) t238 bt239.1 bt247.1 bt249.1 bt253.1 bt257.1 true)))))))))) = some r := H
    have A5 := Aside0.mk A50
    clear A50
    replace H := Option.bind_eq_some_iff.mp H
    obtain ⟨t238, A60, H⟩ := H
    replace H : ((impl_RotateScale.f k t235 t238).bind fun bt239 => (if (t235.length : Int) = 0 then (none) else ((impl_RotateScale.f k bt239.1 (Int.tmod (wrap64 ((t235.length : Int) - t238)) (t235.length : Int))).bind fun bt243 => ((impl_RotationTo.f k t235 bt239.1).bind fun bt247 => ((impl_IntervalsOf.f k t235).bind fun bt249 => ((impl_IntervalsOf.f k bt239.1).bind fun bt253 => ((impl_CommonTones.f k t235 bt239.1).bind fun bt257 => (if bt239.2 = 0 then (if bt243.2 = 0 then ((laws_r8Same.f k bt243.1 t235).bind fun t261 => (if t261 = true then ((spec_ValidScale.f k bt239.1).bind fun t262 => (if t262 = true then (if bt247.2 = 0 then (if bt247.1 < 0 then (laws_FnRotations.j0 k t235 (t235.length : Int) t238 bt239.1 bt247.1 bt249.1 bt253.1 bt257.1 true) else (if bt247.1 > t238 then (laws_FnRotations.j0 k t235 (t235.length : Int) t238 bt239.1 bt247.1 bt249.1 bt253.1 bt257.1 true) else (if bt249.2 = 0 then (if bt253.2 = 0 then (if (bt249.1.length : Int) = (t235.length : Int) then (if (bt253.1.length : Int) = (t235.length : Int) then (laws_FnRotations.j0 k t235 (t235.length : Int) t238 bt239.1 bt247.1 bt249.1 bt253.1 bt257.1 (bt257.2 != 0)) else (laws_FnRotations.j0 k t235 (t235.length : Int) t238 bt239.1 bt247.1 bt249.1 bt253.1 bt257.1 true)) else (laws_FnRotations.j0 k t235 (t235.length : Int) t238 bt239.1 bt247.1 bt249.1 bt253.1 bt257.1 true)) else (laws_FnRotations.j0 k t235 (t235.length : Int) t238 bt239.1 bt247.1 bt249.1 bt253.1 bt257.1 true)) else (laws_FnRotations.j0 k t235 (t235.length : Int) t238 bt239.1 bt247.1 bt249.1 bt253.1 bt257.1 true)))) else (laws_FnRotations.j0 k t235 (t235.length : Int) t238 bt239.1 bt247.1 bt249.1 bt253.1 bt257.1 true)) else (laws_FnRotations.j0 k t235 (t235.length : Int) t238 bt239.1 bt247.1 bt249.1 bt253.1 bt257.1 true))) else (laws_FnRotations.j0 k t235 (t235.length : Int) t238 bt239.1 bt247.1 bt249.1 bt253.1 bt257.1 true))) else (laws_FnRotations.j0 k t235 (t235.length : Int) t238 bt239.1 bt247.1 bt249.1 bt253.1 bt257.1 true)) else (laws_FnRotations.j0 k t235 (t235.length : Int) t238 bt239.1 bt247.1 bt249.1 bt253.1 bt257.1 true))))))))) = some r := H
    have A6 := Aside0.mk A60
    clear A60
    replace H := Option.bind_eq_some_iff.mp H
    obtain ⟨⟨t239, t240⟩, A70, H⟩ := H
    replace H : (if (t235.length : Int) = 0 then (none) else ((impl_RotateScale.f k t239 (Int.tmod (wrap64 ((t235.length : Int) - t238)) (t235.length : Int))).bind fun bt243 => ((impl_RotationTo.f k t235 t239).bind fun bt247 => ((impl_IntervalsOf.f k t235).bind fun bt249 => ((impl_IntervalsOf.f k t239).bind fun bt253 => ((impl_CommonTones.f k t235 t239).bind fun bt257 => (if t240 = 0 then (if bt243.2 = 0 then ((laws_r8Same.f k bt243.1 t235).bind fun t261 => (if t261 = true then ((spec_ValidScale.f k t239).bind fun t262 => (if t262 = true then (if bt247.2 = 0 then (if bt247.1 < 0 then (laws_FnRotations.j0 k t235 (t235.length : Int) t238 t239 bt247.1 bt249.1 bt253.1 bt257.1 true) else (if bt247.1 > t238 then (laws_FnRotations.j0 k t235 (t235.length : Int) t238 t239 bt247.1 bt249.1 bt253.1 bt257.1 true) else (if bt249.2 = 0 then (if bt253.2 = 0 then (if (bt249.1.length : Int) = (t235.length : Int) then (if (bt253.1.length : Int) = (t235.length : Int) then (laws_FnRotations.j0 k t235 (t235.length : Int) t238 t239 bt247.1 bt249.1 bt253.1 bt257.1 (bt257.2 != 0)) else (laws_FnRotations.j0 k t235 (t235.length : Int) t238 t239 bt247.1 bt249.1 bt253.1 bt257.1 true)) else (laws_FnRotations.j0 k t235 (t235.length : Int) t238 t239 bt247.1 bt249.1 bt253.1 bt257.1 true)) else (laws_FnRotations.j0 k t235 (t235.length : Int) t238 t239 bt247.1 bt249.1 bt253.1 bt257.1 true)) else (laws_FnRotations.j0 k t235 (t235.length : Int) t238 t239 bt247.1 bt249.1 bt253.1 bt257.1 true)))) else (laws_FnRotations.j0 k t235 (t235.length : Int) t238 t239 bt247.1 bt249.1 bt253.1 bt257.1 true)) else (laws_FnRotations.j0 k t235 (t235.length : Int) t238 t239 bt247.1 bt249.1 bt253.1 bt257.1 true))) else (laws_FnRotations.j0 k t235 (t235.length : Int) t238 t239 bt247.1 bt249.1 bt253.1 bt257.1 true))) else (laws_FnRotations.j0 k t235 (t235.length : Int) t238 t239 bt247.1 bt249.1 bt253.1 bt257.1 true)) else (laws_FnRotations.j0 k t235 (t235.length : Int) t238 t239 bt247.1 bt249.1 bt253.1 bt257.1 true)))))))) = some r := H
    have A7 := Aside0.mk A70
    clear A70
    by_cases c8 : (t235.length : Int) = 0
    · rw [if_pos c8] at H
      exact absurd H (by simp)
    · rw [if_neg c8] at H
      have c8b0 : ((t235.length : Int) == 0) = false := beq_eq_false_iff_ne.mpr c8
      have c8b1 : ((t235.length : Int) != 0) = true := bne_iff_ne.mpr c8
      have c8b2 : ¬ (t235 = []) := fun h_ => c8 (by rw [h_]; rfl)
      replace H := Option.bind_eq_some_iff.mp H
      obtain ⟨⟨t243, t244⟩, A90, H⟩ := H
      replace H : ((impl_RotationTo.f k t235 t239).bind fun bt247 => ((impl_IntervalsOf.f k t235).bind fun bt249 => ((impl_IntervalsOf.f k t239).bind fun bt253 => ((impl_CommonTones.f k t235 t239).bind fun bt257 => (if t240 = 0 then (if t244 = 0 then ((laws_r8Same.f k t243 t235).bind fun t261 => (if t261 = true then ((spec_ValidScale.f k t239).bind fun t262 => (if t262 = true then (if bt247.2 = 0 then (if bt247.1 < 0 then (laws_FnRotations.j0 k t235 (t235.length : Int) t238 t239 bt247.1 bt249.1 bt253.1 bt257.1 true) else (if bt247.1 > t238 then (laws_FnRotations.j0 k t235 (t235.length : Int) t238 t239 bt247.1 bt249.1 bt253.1 bt257.1 true) else (if bt249.2 = 0 then (if bt253.2 = 0 then (if (bt249.1.length : Int) = (t235.length : Int) then (if (bt253.1.length : Int) = (t235.length : Int) then (laws_FnRotations.j0 k t235 (t235.length : Int) t238 t239 bt247.1 bt249.1 bt253.1 bt257.1 (bt257.2 != 0)) else (laws_FnRotations.j0 k t235 (t235.length : Int) t238 t239 bt247.1 bt249.1 bt253.1 bt257.1 true)) else (laws_FnRotations.j0 k t235 (t235.length : Int) t238 t239 bt247.1 bt249.1 bt253.1 bt257.1 true)) else (laws_FnRotations.j0 k t235 (t235.length : Int) t238 t239 bt247.1 bt249.1 bt253.1 bt257.1 true)) else (laws_FnRotations.j0 k t235 (t235.length : Int) t238 t239 bt247.1 bt249.1 bt253.1 bt257.1 true)))) else (laws_FnRotations.j0 k t235 (t235.length : Int) t238 t239 bt247.1 bt249.1 bt253.1 bt257.1 true)) else (laws_FnRotations.j0 k t235 (t235.length : Int) t238 t239 bt247.1 bt249.1 bt253.1 bt257.1 true))) else (laws_FnRotations.j0 k t235 (t235.length : Int) t238 t239 bt247.1 bt249.1 bt253.1 bt257.1 true))) else (laws_FnRotations.j0 k t235 (t235.length : Int) t238 t239 bt247.1 bt249.1 bt253.1 bt257.1 true)) else (laws_FnRotations.j0 k t235 (t235.length : Int) t238 t239 bt247.1 bt249.1 bt253.1 bt257.1 true)))))) = some r := H
      have A9 := Aside0.mk A90
      clear A90
      replace H := Option.bind_eq_some_iff.mp H
      obtain ⟨⟨t247, t248⟩, A100, H⟩ := H
      replace H : ((impl_IntervalsOf.f k t235).bind fun bt249 => ((impl_IntervalsOf.f k t239).bind fun bt253 => ((impl_CommonTones.f k t235 t239).bind fun bt257 => (if t240 = 0 then (if t244 = 0 then ((laws_r8Same.f k t243 t235).bind fun t261 => (if t261 = true then ((spec_ValidScale.f k t239).bind fun t262 => (if t262 = true then (if t248 = 0 then (if t247 < 0 then (laws_FnRotations.j0 k t235 (t235.length : Int) t238 t239 t247 bt249.1 bt253.1 bt257.1 true) else (if t247 > t238 then (laws_FnRotations.j0 k t235 (t235.length : Int) t238 t239 t247 bt249.1 bt253.1 bt257.1 true) else (if bt249.2 = 0 then (if bt253.2 = 0 then (if (bt249.1.length : Int) = (t235.length : Int) then (if (bt253.1.length : Int) = (t235.length : Int) then (laws_FnRotations.j0 k t235 (t235.length : Int) t238 t239 t247 bt249.1 bt253.1 bt257.1 (bt257.2 != 0)) else (laws_FnRotations.j0 k t235 (t235.length : Int) t238 t239 t247 bt249.1 bt253.1 bt257.1 true)) else (laws_FnRotations.j0 k t235 (t235.length : Int) t238 t239 t247 bt249.1 bt253.1 bt257.1 true)) else (laws_FnRotations.j0 k t235 (t235.length : Int) t238 t239 t247 bt249.1 bt253.1 bt257.1 true)) else (laws_FnRotations.j0 k t235 (t235.length : Int) t238 t239 t247 bt249.1 bt253.1 bt257.1 true)))) else (laws_FnRotations.j0 k t235 (t235.length : Int) t238 t239 t247 bt249.1 bt253.1 bt257.1 true)) else (laws_FnRotations.j0 k t235 (t235.length : Int) t238 t239 t247 bt249.1 bt253.1 bt257.1 true))) else (laws_FnRotations.j0 k t235 (t235.length : Int) t238 t239 t247 bt249.1 bt253.1 bt257.1 true))) else (laws_FnRotations.j0 k t235 (t235.length : Int) t238 t239 t247 bt249.1 bt253.1 bt257.1 true)) else (laws_FnRotations.j0 k t235 (t235.length : Int) t238 t239 t247 bt249.1 bt253.1 bt257.1 true))))) = some r := H
      have A10 := Aside0.mk A100
      clear A100
      replace H := Option.bind_eq_some_iff.mp H
      obtain ⟨⟨t249, t250⟩, A110, H⟩ := H
      replace H : ((impl_IntervalsOf.f k t239).bind fun bt253 => ((impl_CommonTones.f k t235 t239).bind fun bt257 => (if t240 = 0 then (if t244 = 0 then ((laws_r8Same.f k t243 t235).bind fun t261 => (if t261 = true then ((spec_ValidScale.f k t239).bind fun t262 => (if t262 = true then (if t248 = 0 then (if t247 < 0 then (laws_FnRotations.j0 k t235 (t235.length : Int) t238 t239 t247 t249 bt253.1 bt257.1 true) else (if t247 > t238 then (laws_FnRotations.j0 k t235 (t235.length : Int) t238 t239 t247 t249 bt253.1 bt257.1 true) else (if t250 = 0 then (if bt253.2 = 0 then (if (t249.length : Int) = (t235.length : Int) then (if (bt253.1.length : Int) = (t235.length : Int) then (laws_FnRotations.j0 k t235 (t235.length : Int) t238 t239 t247 t249 bt253.1 bt257.1 (bt257.2 != 0)) else (laws_FnRotations.j0 k t235 (t235.length : Int) t238 t239 t247 t249 bt253.1 bt257.1 true)) else (laws_FnRotations.j0 k t235 (t235.length : Int) t238 t239 t247 t249 bt253.1 bt257.1 true)) else (laws_FnRotations.j0 k t235 (t235.length : Int) t238 t239 t247 t249 bt253.1 bt257.1 true)) else (laws_FnRotations.j0 k t235 (t235.length : Int) t238 t239 t247 t249 bt253.1 bt257.1 true)))) else (laws_FnRotations.j0 k t235 (t235.length : Int) t238 t239 t247 t249 bt253.1 bt257.1 true)) else (laws_FnRotations.j0 k t235 (t235.length : Int) t238 t239 t247 t249 bt253.1 bt257.1 true))) else (laws_FnRotations.j0 k t235 (t235.length : Int) t238 t239 t247 t249 bt253.1 bt257.1 true))) else (laws_FnRotations.j0 k t235 (t235.length : Int) t238 t239 t247 t249 bt253.1 bt257.1 true)) else (laws_FnRotations.j0 k t235 (t235.length : Int) t238 t239 t247 t249 bt253.1 bt257.1 true)))) = some r := H
      have A11 := Aside0.mk A110
      clear A110
      replace H := Option.bind_eq_some_iff.mp H
      obtain ⟨⟨t253, t254⟩, A120, H⟩ := H
      replace H : ((impl_CommonTones.f k t235 t239).bind fun bt257 => (if t240 = 0 then (if t244 = 0 then ((laws_r8Same.f k t243 t235).bind fun t261 => (if t261 = true then ((spec_ValidScale.f k t239).bind fun t262 => (if t262 = true then (if t248 = 0 then (if t247 < 0 then (laws_FnRotations.j0 k t235 (t235.length : Int) t238 t239 t247 t249 t253 bt257.1 true) else (if t247 > t238 then (laws_FnRotations.j0 k t235 (t235.length : Int) t238 t239 t247 t249 t253 bt257.1 true) else (if t250 = 0 then (if t254 = 0 then (if (t249.length : Int) = (t235.length : Int) then (if (t253.length : Int) = (t235.length : Int) then (laws_FnRotations.j0 k t235 (t235.length : Int) t238 t239 t247 t249 t253 bt257.1 (bt257.2 != 0)) else (laws_FnRotations.j0 k t235 (t235.length : Int) t238 t239 t247 t249 t253 bt257.1 true)) else (laws_FnRotations.j0 k t235 (t235.length : Int) t238 t239 t247 t249 t253 bt257.1 true)) else (laws_FnRotations.j0 k t235 (t235.length : Int) t238 t239 t247 t249 t253 bt257.1 true)) else (laws_FnRotations.j0 k t235 (t235.length : Int) t238 t239 t247 t249 t253 bt257.1 true)))) else (laws_FnRotations.j0 k t235 (t235.length : Int) t238 t239 t247 t249 t253 bt257.1 true)) else (laws_FnRotations.j0 k t235 (t235.length : Int) t238 t239 t247 t249 t253 bt257.1 true))) else (laws_FnRotations.j0 k t235 (t235.length : Int) t238 t239 t247 t249 t253 bt257.1 true))) else (laws_FnRotations.j0 k t235 (t235.length : Int) t238 t239 t247 t249 t253 bt257.1 true)) else (laws_FnRotations.j0 k t235 (t235.length : Int) t238 t239 t247 t249 t253 bt257.1 true))) = some r := H
      have A12 := Aside0.mk A120
      clear A120
      replace H := Option.bind_eq_some_iff.mp H
      obtain ⟨⟨t257, t258⟩, A130, H⟩ := H
      replace H : (if t240 = 0 then (if t244 = 0 then ((laws_r8Same.f k t243 t235).bind fun t261 => (if t261 = true then ((spec_ValidScale.f k t239).bind fun t262 => (if t262 = true then (if t248 = 0 then (if t247 < 0 then (laws_FnRotations.j0 k t235 (t235.length : Int) t238 t239 t247 t249 t253 t257 true) else (if t247 > t238 then (laws_FnRotations.j0 k t235 (t235.length : Int) t238 t239 t247 t249 t253 t257 true) else (if t250 = 0 then (if t254 = 0 then (if (t249.length : Int) = (t235.length : Int) then (if (t253.length : Int) = (t235.length : Int) then (laws_FnRotations.j0 k t235 (t235.length : Int) t238 t239 t247 t249 t253 t257 (t258 != 0)) else (laws_FnRotations.j0 k t235 (t235.length : Int) t238 t239 t247 t249 t253 t257 true)) else (laws_FnRotations.j0 k t235 (t235.length : Int) t238 t239 t247 t249 t253 t257 true)) else (laws_FnRotations.j0 k t235 (t235.length : Int) t238 t239 t247 t249 t253 t257 true)) else (laws_FnRotations.j0 k t235 (t235.length : Int) t238 t239 t247 t249 t253 t257 true)))) else (laws_FnRotations.j0 k t235 (t235.length : Int) t238 t239 t247 t249 t253 t257 true)) else (laws_FnRotations.j0 k t235 (t235.length : Int) t238 t239 t247 t249 t253 t257 true))) else (laws_FnRotations.j0 k t235 (t235.length : Int) t238 t239 t247 t249 t253 t257 true))) else (laws_FnRotations.j0 k t235 (t235.length : Int) t238 t239 t247 t249 t253 t257 true)) else (laws_FnRotations.j0 k t235 (t235.length : Int) t238 t239 t247 t249 t253 t257 true)) = some r := H
      have A13 := Aside0.mk A130
      clear A130
      have HC14 := Aside0.mk H
      clear H
      go_enter Try.func3, Try.ntmps3
      go_upto_region 12 with (first | (go_at_call 4; (with_reducible refine (laws_r8Long.calls _ _ l0 _ _ l1 false _ ?side1 ?side2 ?side3 ?side4 A3.out).mono ?_); (case side1 => exact tC HR0.out); (case side2 => exact HC0.out); (case side3 => exact tC HR1.out); (case side4 => exact HC1.out); rintro e w' ⟨rfl, ⟨nd, rfl⟩⟩; (try first | exact ⟨rfl, _, World.drewN_drewN _ _ _⟩ | exact ⟨rfl, _, Eq.trans (World.drewN_drewN _ _ _) (congrArg (World.drewN _) (Nat.add_assoc _ _ _))⟩)) | (go_at_call 5; (with_reducible refine (spec_R8Scale.calls k _ _ l0 t235 _ ?side1 ?side2 A5.out).mono ?_); (case side1 => exact tC HR0.out); (case side2 => exact HC0.out); rintro e w15 ⟨v236, rfl, ho0, hb⟩; have HO237 := Aside0.mk (Kd.R_lower ho0 (below_size (by repeat (first | (with_reducible first | exact HB.out | apply below_alloc | apply pw_below_drewN | apply below_drew1) | exact HB.out)))); replace HB := Aside0.mk (below_step (by repeat (first | (with_reducible first | exact HB.out | apply below_alloc | apply pw_below_drewN | apply below_drew1) | exact HB.out)) hb); (try clear hb); (try clear hb2); (try clear hk); (try clear hi); (try clear ho0); obtain ⟨Ao16, co16, eo16⟩ := Kd.R_slice HO237.out; subst eo16) | (go_at_call 6; (with_reducible refine (laws_r8At.calls _ _ l1 0 (t235.length : Int) t238 _ ?side1 ?side2 A6.out).mono ?_); (case side1 => exact tC (Kd.C_below HR1.out HB.out)); (case side2 => exact HC1.out); rintro e w' ⟨rfl, ⟨nd, rfl⟩⟩; (try first | exact ⟨rfl, _, World.drewN_drewN _ _ _⟩ | exact ⟨rfl, _, Eq.trans (World.drewN_drewN _ _ _) (congrArg (World.drewN _) (Nat.add_assoc _ _ _))⟩)) | (go_at_call 7; (with_reducible refine (impl_RotateScale.calls k _ _ t235 t238 t239 t240 _ ?side1 ?side2 A7.out).mono ?_); (case side1 => exact tC (Kd.R_reads' HO237.out).2.2); (case side2 => exact (Kd.R_reads' HO237.out).2.1); rintro e w17 ⟨v241, rfl, ho0, hb⟩; have HO242 := Aside0.mk (Kd.R_lower (Kd.R_new' ho0 (Kd.R_lt (by (with_reducible repeat (first | apply Kd.R_alloc | apply Kd.R_drewN | apply Kd.R_drew)); exact HO237.out))) (below_size (by repeat (first | (with_reducible first | exact HB.out | apply below_alloc | apply pw_below_drewN | apply below_drew1) | exact HB.out)))); replace HO237 := Aside0.mk (Kd.R_elder' (by (with_reducible repeat (first | apply Kd.R_alloc | apply Kd.R_drewN | apply Kd.R_drew)); exact HO237.out) (Kd.R_base ho0) hb); replace HB := Aside0.mk (below_step (by repeat (first | (with_reducible first | exact HB.out | apply below_alloc | apply pw_below_drewN | apply below_drew1) | exact HB.out)) hb); (try clear hb); (try clear hb2); (try clear hk); (try clear hi); (try clear ho0); obtain ⟨Ao18, co18, eo18⟩ := Kd.R_slice HO242.out; subst eo18) | (go_at_call 7; (with_reducible refine (impl_RotateScale.calls k _ _ t239 (Int.tmod (wrap64 ((t235.length : Int) - t238)) (t235.length : Int)) t243 t244 _ ?side1 ?side2 A9.out).mono ?_); (case side1 => exact tC (Kd.R_reads' HO242.out).2.2); (case side2 => exact (Kd.R_reads' HO242.out).2.1); rintro e w19 ⟨v245, rfl, ho0, hb⟩; have HO246 := Aside0.mk (Kd.R_lower (Kd.R_new' (Kd.R_new' ho0 (Kd.R_lt (by (with_reducible repeat (first | apply Kd.R_alloc | apply Kd.R_drewN | apply Kd.R_drew)); exact HO237.out))) (Kd.R_lt (by (with_reducible repeat (first | apply Kd.R_alloc | apply Kd.R_drewN | apply Kd.R_drew)); exact HO242.out))) (below_size (by repeat (first | (with_reducible first | exact HB.out | apply below_alloc | apply pw_below_drewN | apply below_drew1) | exact HB.out)))); replace HO237 := Aside0.mk (Kd.R_elder' (by (with_reducible repeat (first | apply Kd.R_alloc | apply Kd.R_drewN | apply Kd.R_drew)); exact HO237.out) (Kd.R_base ho0) hb); replace HO242 := Aside0.mk (Kd.R_elder' (by (with_reducible repeat (first | apply Kd.R_alloc | apply Kd.R_drewN | apply Kd.R_drew)); exact HO242.out) (Kd.R_base ho0) hb); replace HB := Aside0.mk (below_step (by repeat (first | (with_reducible first | exact HB.out | apply below_alloc | apply pw_below_drewN | apply below_drew1) | exact HB.out)) hb); (try clear hb); (try clear hb2); (try clear hk); (try clear hi); (try clear ho0)) | (go_at_call 8; (with_reducible refine (impl_RotationTo.calls k _ _ t235 _ _ t239 t247 t248 _ ?side1 ?side2 ?side3 ?side4 A10.out).mono ?_); (case side1 => exact tC (Kd.R_reads' HO237.out).2.2); (case side2 => exact (Kd.R_reads' HO237.out).2.1); (case side3 => exact tC (Kd.R_reads' HO242.out).2.2); (case side4 => exact (Kd.R_reads' HO242.out).2.1); rintro e w20 ⟨rfl, hb⟩; replace HO237 := Aside0.mk (Kd.R_below (by (with_reducible repeat (first | apply Kd.R_alloc | apply Kd.R_drewN | apply Kd.R_drew)); exact HO237.out) hb); replace HO242 := Aside0.mk (Kd.R_below (by (with_reducible repeat (first | apply Kd.R_alloc | apply Kd.R_drewN | apply Kd.R_drew)); exact HO242.out) hb); replace HO246 := Aside0.mk (Kd.R_below (by (with_reducible repeat (first | apply Kd.R_alloc | apply Kd.R_drewN | apply Kd.R_drew)); exact HO246.out) hb); replace HB := Aside0.mk (below_step (by repeat (first | (with_reducible first | exact HB.out | apply below_alloc | apply pw_below_drewN | apply below_drew1) | exact HB.out)) hb); (try clear hb); (try clear hb2); (try clear hk); (try clear hi)) | (go_at_call 9; (with_reducible refine (impl_IntervalsOf.calls k _ _ t235 t249 t250 _ ?side1 ?side2 A11.out).mono ?_); (case side1 => exact tC (Kd.R_reads' HO237.out).2.2); (case side2 => exact (Kd.R_reads' HO237.out).2.1); rintro e w21 ⟨v251, rfl, ho0, hb⟩; have HO252 := Aside0.mk (Kd.R_lower (Kd.R_new' (Kd.R_new' (Kd.R_new' ho0 (Kd.R_lt (by (with_reducible repeat (first | apply Kd.R_alloc | apply Kd.R_drewN | apply Kd.R_drew)); exact HO237.out))) (Kd.R_lt (by (with_reducible repeat (first | apply Kd.R_alloc | apply Kd.R_drewN | apply Kd.R_drew)); exact HO242.out))) (Kd.R_lt (by (with_reducible repeat (first | apply Kd.R_alloc | apply Kd.R_drewN | apply Kd.R_drew)); exact HO246.out))) (below_size (by repeat (first | (with_reducible first | exact HB.out | apply below_alloc | apply pw_below_drewN | apply below_drew1) | exact HB.out)))); replace HO237 := Aside0.mk (Kd.R_elder' (by (with_reducible repeat (first | apply Kd.R_alloc | apply Kd.R_drewN | apply Kd.R_drew)); exact HO237.out) (Kd.R_base ho0) hb); replace HO242 := Aside0.mk (Kd.R_elder' (by (with_reducible repeat (first | apply Kd.R_alloc | apply Kd.R_drewN | apply Kd.R_drew)); exact HO242.out) (Kd.R_base ho0) hb); replace HO246 := Aside0.mk (Kd.R_elder' (by (with_reducible repeat (first | apply Kd.R_alloc | apply Kd.R_drewN | apply Kd.R_drew)); exact HO246.out) (Kd.R_base ho0) hb); replace HB := Aside0.mk (below_step (by repeat (first | (with_reducible first | exact HB.out | apply below_alloc | apply pw_below_drewN | apply below_drew1) | exact HB.out)) hb); (try clear hb); (try clear hb2); (try clear hk); (try clear hi); (try clear ho0)) | (go_at_call 9; (with_reducible refine (impl_IntervalsOf.calls k _ _ t239 t253 t254 _ ?side1 ?side2 A12.out).mono ?_); (case side1 => exact tC (Kd.R_reads' HO242.out).2.2); (case side2 => exact (Kd.R_reads' HO242.out).2.1); rintro e w22 ⟨v255, rfl, ho0, hb⟩; have HO256 := Aside0.mk (Kd.R_lower (Kd.R_new' (Kd.R_new' (Kd.R_new' (Kd.R_new' ho0 (Kd.R_lt (by (with_reducible repeat (first | apply Kd.R_alloc | apply Kd.R_drewN | apply Kd.R_drew)); exact HO237.out))) (Kd.R_lt (by (with_reducible repeat (first | apply Kd.R_alloc | apply Kd.R_drewN | apply Kd.R_drew)); exact HO242.out))) (Kd.R_lt (by (with_reducible repeat (first | apply Kd.R_alloc | apply Kd.R_drewN | apply Kd.R_drew)); exact HO246.out))) (Kd.R_lt (by (with_reducible repeat (first | apply Kd.R_alloc | apply Kd.R_drewN | apply Kd.R_drew)); exact HO252.out))) (below_size (by repeat (first | (with_reducible first | exact HB.out | apply below_alloc | apply pw_below_drewN | apply below_drew1) | exact HB.out)))); replace HO237 := Aside0.mk (Kd.R_elder' (by (with_reducible repeat (first | apply Kd.R_alloc | apply Kd.R_drewN | apply Kd.R_drew)); exact HO237.out) (Kd.R_base ho0) hb); replace HO242 := Aside0.mk (Kd.R_elder' (by (with_reducible repeat (first | apply Kd.R_alloc | apply Kd.R_drewN | apply Kd.R_drew)); exact HO242.out) (Kd.R_base ho0) hb); replace HO246 := Aside0.mk (Kd.R_elder' (by (with_reducible repeat (first | apply Kd.R_alloc | apply Kd.R_drewN | apply Kd.R_drew)); exact HO246.out) (Kd.R_base ho0) hb); replace HO252 := Aside0.mk (Kd.R_elder' (by (with_reducible repeat (first | apply Kd.R_alloc | apply Kd.R_drewN | apply Kd.R_drew)); exact HO252.out) (Kd.R_base ho0) hb); replace HB := Aside0.mk (below_step (by repeat (first | (with_reducible first | exact HB.out | apply below_alloc | apply pw_below_drewN | apply below_drew1) | exact HB.out)) hb); (try clear hb); (try clear hb2); (try clear hk); (try clear hi); (try clear ho0)) | (go_at_call 10; (with_reducible refine (impl_CommonTones.calls k _ _ t235 _ _ t239 t257 t258 _ ?side1 ?side2 ?side3 ?side4 A13.out).mono ?_); (case side1 => exact tC (Kd.R_reads' HO237.out).2.2); (case side2 => exact (Kd.R_reads' HO237.out).2.1); (case side3 => exact tC (Kd.R_reads' HO242.out).2.2); (case side4 => exact (Kd.R_reads' HO242.out).2.1); rintro e w23 ⟨v259, rfl, ho0, hb⟩; have HO260 := Aside0.mk (Kd.R_lower (Kd.R_new' (Kd.R_new' (Kd.R_new' (Kd.R_new' (Kd.R_new' ho0 (Kd.R_lt (by (with_reducible repeat (first | apply Kd.R_alloc | apply Kd.R_drewN | apply Kd.R_drew)); exact HO237.out))) (Kd.R_lt (by (with_reducible repeat (first | apply Kd.R_alloc | apply Kd.R_drewN | apply Kd.R_drew)); exact HO242.out))) (Kd.R_lt (by (with_reducible repeat (first | apply Kd.R_alloc | apply Kd.R_drewN | apply Kd.R_drew)); exact HO246.out))) (Kd.R_lt (by (with_reducible repeat (first | apply Kd.R_alloc | apply Kd.R_drewN | apply Kd.R_drew)); exact HO252.out))) (Kd.R_lt (by (with_reducible repeat (first | apply Kd.R_alloc | apply Kd.R_drewN | apply Kd.R_drew)); exact HO256.out))) (below_size (by repeat (first | (with_reducible first | exact HB.out | apply below_alloc | apply pw_below_drewN | apply below_drew1) | exact HB.out)))); replace HO237 := Aside0.mk (Kd.R_elder' (by (with_reducible repeat (first | apply Kd.R_alloc | apply Kd.R_drewN | apply Kd.R_drew)); exact HO237.out) (Kd.R_base ho0) hb); replace HO242 := Aside0.mk (Kd.R_elder' (by (with_reducible repeat (first | apply Kd.R_alloc | apply Kd.R_drewN | apply Kd.R_drew)); exact HO242.out) (Kd.R_base ho0) hb); replace HO246 := Aside0.mk (Kd.R_elder' (by (with_reducible repeat (first | apply Kd.R_alloc | apply Kd.R_drewN | apply Kd.R_drew)); exact HO246.out) (Kd.R_base ho0) hb); replace HO252 := Aside0.mk (Kd.R_elder' (by (with_reducible repeat (first | apply Kd.R_alloc | apply Kd.R_drewN | apply Kd.R_drew)); exact HO252.out) (Kd.R_base ho0) hb); replace HO256 := Aside0.mk (Kd.R_elder' (by (with_reducible repeat (first | apply Kd.R_alloc | apply Kd.R_drewN | apply Kd.R_drew)); exact HO256.out) (Kd.R_base ho0) hb); replace HB := Aside0.mk (below_step (by repeat (first | (with_reducible first | exact HB.out | apply below_alloc | apply pw_below_drewN | apply below_drew1) | exact HB.out)) hb); (try clear hb); (try clear hb2); (try clear hk); (try clear hi); (try clear ho0)))
      repeat (go_quiet (first | (go_at_call 4; (with_reducible refine (laws_r8Long.calls _ _ l0 _ _ l1 false _ ?side1 ?side2 ?side3 ?side4 A3.out).mono ?_); (case side1 => exact tC HR0.out); (case side2 => exact HC0.out); (case side3 => exact tC HR1.out); (case side4 => exact HC1.out); rintro e w' ⟨rfl, ⟨nd, rfl⟩⟩; (try first | exact ⟨rfl, _, World.drewN_drewN _ _ _⟩ | exact ⟨rfl, _, Eq.trans (World.drewN_drewN _ _ _) (congrArg (World.drewN _) (Nat.add_assoc _ _ _))⟩)) | (go_at_call 5; (with_reducible refine (spec_R8Scale.calls k _ _ l0 t235 _ ?side1 ?side2 A5.out).mono ?_); (case side1 => exact tC HR0.out); (case side2 => exact HC0.out); rintro e w15 ⟨v236, rfl, ho0, hb⟩; have HO237 := Aside0.mk (Kd.R_lower ho0 (below_size (by repeat (first | (with_reducible first | exact HB.out | apply below_alloc | apply pw_below_drewN | apply below_drew1) | exact HB.out)))); replace HB := Aside0.mk (below_step (by repeat (first | (with_reducible first | exact HB.out | apply below_alloc | apply pw_below_drewN | apply below_drew1) | exact HB.out)) hb); (try clear hb); (try clear hb2); (try clear hk); (try clear hi); (try clear ho0); obtain ⟨Ao16, co16, eo16⟩ := Kd.R_slice HO237.out; subst eo16) | (go_at_call 6; (with_reducible refine (laws_r8At.calls _ _ l1 0 (t235.length : Int) t238 _ ?side1 ?side2 A6.out).mono ?_); (case side1 => exact tC (Kd.C_below HR1.out HB.out)); (case side2 => exact HC1.out); rintro e w' ⟨rfl, ⟨nd, rfl⟩⟩; (try first | exact ⟨rfl, _, World.drewN_drewN _ _ _⟩ | exact ⟨rfl, _, Eq.trans (World.drewN_drewN _ _ _) (congrArg (World.drewN _) (Nat.add_assoc _ _ _))⟩)) | (go_at_call 7; (with_reducible refine (impl_RotateScale.calls k _ _ t235 t238 t239 t240 _ ?side1 ?side2 A7.out).mono ?_); (case side1 => exact tC (Kd.R_reads' HO237.out).2.2); (case side2 => exact (Kd.R_reads' HO237.out).2.1); rintro e w17 ⟨v241, rfl, ho0, hb⟩; have HO242 := Aside0.mk (Kd.R_lower (Kd.R_new' ho0 (Kd.R_lt (by (with_reducible repeat (first | apply Kd.R_alloc | apply Kd.R_drewN | apply Kd.R_drew)); exact HO237.out))) (below_size (by repeat (first | (with_reducible first | exact HB.out | apply below_alloc | apply pw_below_drewN | apply below_drew1) | exact HB.out)))); replace HO237 := Aside0.mk (Kd.R_elder' (by (with_reducible repeat (first | apply Kd.R_alloc | apply Kd.R_drewN | apply Kd.R_drew)); exact HO237.out) (Kd.R_base ho0) hb); replace HB := Aside0.mk (below_step (by repeat (first | (with_reducible first | exact HB.out | apply below_alloc | apply pw_below_drewN | apply below_drew1) | exact HB.out)) hb); (try clear hb); (try clear hb2); (try clear hk); (try clear hi); (try clear ho0); obtain ⟨Ao18, co18, eo18⟩ := Kd.R_slice HO242.out; subst eo18) | (go_at_call 7; (with_reducible refine (impl_RotateScale.calls k _ _ t239 (Int.tmod (wrap64 ((t235.length : Int) - t238)) (t235.length : Int)) t243 t244 _ ?side1 ?side2 A9.out).mono ?_); (case side1 => exact tC (Kd.R_reads' HO242.out).2.2); (case side2 => exact (Kd.R_reads' HO242.out).2.1); rintro e w19 ⟨v245, rfl, ho0, hb⟩; have HO246 := Aside0.mk (Kd.R_lower (Kd.R_new' (Kd.R_new' ho0 (Kd.R_lt (by (with_reducible repeat (first | apply Kd.R_alloc | apply Kd.R_drewN | apply Kd.R_drew)); exact HO237.out))) (Kd.R_lt (by (with_reducible repeat (first | apply Kd.R_alloc | apply Kd.R_drewN | apply Kd.R_drew)); exact HO242.out))) (below_size (by repeat (first | (with_reducible first | exact HB.out | apply below_alloc | apply pw_below_drewN | apply below_drew1) | exact HB.out)))); replace HO237 := Aside0.mk (Kd.R_elder' (by (with_reducible repeat (first | apply Kd.R_alloc | apply Kd.R_drewN | apply Kd.R_drew)); exact HO237.out) (Kd.R_base ho0) hb); replace HO242 := Aside0.mk (Kd.R_elder' (by (with_reducible repeat (first | apply Kd.R_alloc | apply Kd.R_drewN | apply Kd.R_drew)); exact HO242.out) (Kd.R_base ho0) hb); replace HB := Aside0.mk (below_step (by repeat (first | (with_reducible first | exact HB.out | apply below_alloc | apply pw_below_drewN | apply below_drew1) | exact HB.out)) hb); (try clear hb); (try clear hb2); (try clear hk); (try clear hi); (try clear ho0)) | (go_at_call 8; (with_reducible refine (impl_RotationTo.calls k _ _ t235 _ _ t239 t247 t248 _ ?side1 ?side2 ?side3 ?side4 A10.out).mono ?_); (case side1 => exact tC (Kd.R_reads' HO237.out).2.2); (case side2 => exact (Kd.R_reads' HO237.out).2.1); (case side3 => exact tC (Kd.R_reads' HO242.out).2.2); (case side4 => exact (Kd.R_reads' HO242.out).2.1); rintro e w20 ⟨rfl, hb⟩; replace HO237 := Aside0.mk (Kd.R_below (by (with_reducible repeat (first | apply Kd.R_alloc | apply Kd.R_drewN | apply Kd.R_drew)); exact HO237.out) hb); replace HO242 := Aside0.mk (Kd.R_below (by (with_reducible repeat (first | apply Kd.R_alloc | apply Kd.R_drewN | apply Kd.R_drew)); exact HO242.out) hb); replace HO246 := Aside0.mk (Kd.R_below (by (with_reducible repeat (first | apply Kd.R_alloc | apply Kd.R_drewN | apply Kd.R_drew)); exact HO246.out) hb); replace HB := Aside0.mk (below_step (by repeat (first | (with_reducible first | exact HB.out | apply below_alloc | apply pw_below_drewN | apply below_drew1) | exact HB.out)) hb); (try clear hb); (try clear hb2); (try clear hk); (try clear hi)) | (go_at_call 9; (with_reducible refine (impl_IntervalsOf.calls k _ _ t235 t249 t250 _ ?side1 ?side2 A11.out).mono ?_); (case side1 => exact tC (Kd.R_reads' HO237.out).2.2); (case side2 => exact (Kd.R_reads' HO237.out).2.1); rintro e w21 ⟨v251, rfl, ho0, hb⟩; have HO252 := Aside0.mk (Kd.R_lower (Kd.R_new' (Kd.R_new' (Kd.R_new' ho0 (Kd.R_lt (by (with_reducible repeat (first | apply Kd.R_alloc | apply Kd.R_drewN | apply Kd.R_drew)); exact HO237.out))) (Kd.R_lt (by (with_reducible repeat (first | apply Kd.R_alloc | apply Kd.R_drewN | apply Kd.R_drew)); exact HO242.out))) (Kd.R_lt (by (with_reducible repeat (first | apply Kd.R_alloc | apply Kd.R_drewN | apply Kd.R_drew)); exact HO246.out))) (below_size (by repeat (first | (with_reducible first | exact HB.out | apply below_alloc | apply pw_below_drewN | apply below_drew1) | exact HB.out)))); replace HO237 := Aside0.mk (Kd.R_elder' (by (with_reducible repeat (first | apply Kd.R_alloc | apply Kd.R_drewN | apply Kd.R_drew)); exact HO237.out) (Kd.R_base ho0) hb); replace HO242 := Aside0.mk (Kd.R_elder' (by (with_reducible repeat (first | apply Kd.R_alloc | apply Kd.R_drewN | apply Kd.R_drew)); exact HO242.out) (Kd.R_base ho0) hb); replace HO246 := Aside0.mk (Kd.R_elder' (by (with_reducible repeat (first | apply Kd.R_alloc | apply Kd.R_drewN | apply Kd.R_drew)); exact HO246.out) (Kd.R_base ho0) hb); replace HB := Aside0.mk (below_step (by repeat (first | (with_reducible first | exact HB.out | apply below_alloc | apply pw_below_drewN | apply below_drew1) | exact HB.out)) hb); (try clear hb); (try clear hb2); (try clear hk); (try clear hi); (try clear ho0)) | (go_at_call 9; (with_reducible refine (impl_IntervalsOf.calls k _ _ t239 t253 t254 _ ?side1 ?side2 A12.out).mono ?_); (case side1 => exact tC (Kd.R_reads' HO242.out).2.2); (case side2 => exact (Kd.R_reads' HO242.out).2.1); rintro e w22 ⟨v255, rfl, ho0, hb⟩; have HO256 := Aside0.mk (Kd.R_lower (Kd.R_new' (Kd.R_new' (Kd.R_new' (Kd.R_new' ho0 (Kd.R_lt (by (with_reducible repeat (first | apply Kd.R_alloc | apply Kd.R_drewN | apply Kd.R_drew)); exact HO237.out))) (Kd.R_lt (by (with_reducible repeat (first | apply Kd.R_alloc | apply Kd.R_drewN | apply Kd.R_drew)); exact HO242.out))) (Kd.R_lt (by (with_reducible repeat (first | apply Kd.R_alloc | apply Kd.R_drewN | apply Kd.R_drew)); exact HO246.out))) (Kd.R_lt (by (with_reducible repeat (first | apply Kd.R_alloc | apply Kd.R_drewN | apply Kd.R_drew)); exact HO252.out))) (below_size (by repeat (first | (with_reducible first | exact HB.out | apply below_alloc | apply pw_below_drewN | apply below_drew1) | exact HB.out)))); replace HO237 := Aside0.mk (Kd.R_elder' (by (with_reducible repeat (first | apply Kd.R_alloc | apply Kd.R_drewN | apply Kd.R_drew)); exact HO237.out) (Kd.R_base ho0) hb); replace HO242 := Aside0.mk (Kd.R_elder' (by (with_reducible repeat (first | apply Kd.R_alloc | apply Kd.R_drewN | apply Kd.R_drew)); exact HO242.out) (Kd.R_base ho0) hb); replace HO246 := Aside0.mk (Kd.R_elder' (by (with_reducible repeat (first | apply Kd.R_alloc | apply Kd.R_drewN | apply Kd.R_drew)); exact HO246.out) (Kd.R_base ho0) hb); replace HO252 := Aside0.mk (Kd.R_elder' (by (with_reducible repeat (first | apply Kd.R_alloc | apply Kd.R_drewN | apply Kd.R_drew)); exact HO252.out) (Kd.R_base ho0) hb); replace HB := Aside0.mk (below_step (by repeat (first | (with_reducible first | exact HB.out | apply below_alloc | apply pw_below_drewN | apply below_drew1) | exact HB.out)) hb); (try clear hb); (try clear hb2); (try clear hk); (try clear hi); (try clear ho0)) | (go_at_call 10; (with_reducible refine (impl_CommonTones.calls k _ _ t235 _ _ t239 t257 t258 _ ?side1 ?side2 ?side3 ?side4 A13.out).mono ?_); (case side1 => exact tC (Kd.R_reads' HO237.out).2.2); (case side2 => exact (Kd.R_reads' HO237.out).2.1); (case side3 => exact tC (Kd.R_reads' HO242.out).2.2); (case side4 => exact (Kd.R_reads' HO242.out).2.1); rintro e w23 ⟨v259, rfl, ho0, hb⟩; have HO260 := Aside0.mk (Kd.R_lower (Kd.R_new' (Kd.R_new' (Kd.R_new' (Kd.R_new' (Kd.R_new' ho0 (Kd.R_lt (by (with_reducible repeat (first | apply Kd.R_alloc | apply Kd.R_drewN | apply Kd.R_drew)); exact HO237.out))) (Kd.R_lt (by (with_reducible repeat (first | apply Kd.R_alloc | apply Kd.R_drewN | apply Kd.R_drew)); exact HO242.out))) (Kd.R_lt (by (with_reducible repeat (first | apply Kd.R_alloc | apply Kd.R_drewN | apply Kd.R_drew)); exact HO246.out))) (Kd.R_lt (by (with_reducible repeat (first | apply Kd.R_alloc | apply Kd.R_drewN | apply Kd.R_drew)); exact HO252.out))) (Kd.R_lt (by (with_reducible repeat (first | apply Kd.R_alloc | apply Kd.R_drewN | apply Kd.R_drew)); exact HO256.out))) (below_size (by repeat (first | (with_reducible first | exact HB.out | apply below_alloc | apply pw_below_drewN | apply below_drew1) | exact HB.out)))); replace HO237 := Aside0.mk (Kd.R_elder' (by (with_reducible repeat (first | apply Kd.R_alloc | apply Kd.R_drewN | apply Kd.R_drew)); exact HO237.out) (Kd.R_base ho0) hb); replace HO242 := Aside0.mk (Kd.R_elder' (by (with_reducible repeat (first | apply Kd.R_alloc | apply Kd.R_drewN | apply Kd.R_drew)); exact HO242.out) (Kd.R_base ho0) hb); replace HO246 := Aside0.mk (Kd.R_elder' (by (with_reducible repeat (first | apply Kd.R_alloc | apply Kd.R_drewN | apply Kd.R_drew)); exact HO246.out) (Kd.R_base ho0) hb); replace HO252 := Aside0.mk (Kd.R_elder' (by (with_reducible repeat (first | apply Kd.R_alloc | apply Kd.R_drewN | apply Kd.R_drew)); exact HO252.out) (Kd.R_base ho0) hb); replace HO256 := Aside0.mk (Kd.R_elder' (by (with_reducible repeat (first | apply Kd.R_alloc | apply Kd.R_drewN | apply Kd.R_drew)); exact HO256.out) (Kd.R_base ho0) hb); replace HB := Aside0.mk (below_step (by repeat (first | (with_reducible first | exact HB.out | apply below_alloc | apply pw_below_drewN | apply below_drew1) | exact HB.out)) hb); (try clear hb); (try clear hb2); (try clear hk); (try clear hi); (try clear ho0))); go_upto_region 12 with (first | (go_at_call 4; (with_reducible refine (laws_r8Long.calls _ _ l0 _ _ l1 false _ ?side1 ?side2 ?side3 ?side4 A3.out).mono ?_); (case side1 => exact tC HR0.out); (case side2 => exact HC0.out); (case side3 => exact tC HR1.out); (case side4 => exact HC1.out); rintro e w' ⟨rfl, ⟨nd, rfl⟩⟩; (try first | exact ⟨rfl, _, World.drewN_drewN _ _ _⟩ | exact ⟨rfl, _, Eq.trans (World.drewN_drewN _ _ _) (congrArg (World.drewN _) (Nat.add_assoc _ _ _))⟩)) | (go_at_call 5; (with_reducible refine (spec_R8Scale.calls k _ _ l0 t235 _ ?side1 ?side2 A5.out).mono ?_); (case side1 => exact tC HR0.out); (case side2 => exact HC0.out); rintro e w15 ⟨v236, rfl, ho0, hb⟩; have HO237 := Aside0.mk (Kd.R_lower ho0 (below_size (by repeat (first | (with_reducible first | exact HB.out | apply below_alloc | apply pw_below_drewN | apply below_drew1) | exact HB.out)))); replace HB := Aside0.mk (below_step (by repeat (first | (with_reducible first | exact HB.out | apply below_alloc | apply pw_below_drewN | apply below_drew1) | exact HB.out)) hb); (try clear hb); (try clear hb2); (try clear hk); (try clear hi); (try clear ho0); obtain ⟨Ao16, co16, eo16⟩ := Kd.R_slice HO237.out; subst eo16) | (go_at_call 6; (with_reducible refine (laws_r8At.calls _ _ l1 0 (t235.length : Int) t238 _ ?side1 ?side2 A6.out).mono ?_); (case side1 => exact tC (Kd.C_below HR1.out HB.out)); (case side2 => exact HC1.out); rintro e w' ⟨rfl, ⟨nd, rfl⟩⟩; (try first | exact ⟨rfl, _, World.drewN_drewN _ _ _⟩ | exact ⟨rfl, _, Eq.trans (World.drewN_drewN _ _ _) (congrArg (World.drewN _) (Nat.add_assoc _ _ _))⟩)) | (go_at_call 7; (with_reducible refine (impl_RotateScale.calls k _ _ t235 t238 t239 t240 _ ?side1 ?side2 A7.out).mono ?_); (case side1 => exact tC (Kd.R_reads' HO237.out).2.2); (case side2 => exact (Kd.R_reads' HO237.out).2.1); rintro e w17 ⟨v241, rfl, ho0, hb⟩; have HO242 := Aside0.mk (Kd.R_lower (Kd.R_new' ho0 (Kd.R_lt (by (with_reducible repeat (first | apply Kd.R_alloc | apply Kd.R_drewN | apply Kd.R_drew)); exact HO237.out))) (below_size (by repeat (first | (with_reducible first | exact HB.out | apply below_alloc | apply pw_below_drewN | apply below_drew1) | exact HB.out)))); replace HO237 := Aside0.mk (Kd.R_elder' (by (with_reducible repeat (first | apply Kd.R_alloc | apply Kd.R_drewN | apply Kd.R_drew)); exact HO237.out) (Kd.R_base ho0) hb); replace HB := Aside0.mk (below_step (by repeat (first | (with_reducible first | exact HB.out | apply below_alloc | apply pw_below_drewN | apply below_drew1) | exact HB.out)) hb); (try clear hb); (try clear hb2); (try clear hk); (try clear hi); (try clear ho0); obtain ⟨Ao18, co18, eo18⟩ := Kd.R_slice HO242.out; subst eo18) | (go_at_call 7; (with_reducible refine (impl_RotateScale.calls k _ _ t239 (Int.tmod (wrap64 ((t235.length : Int) - t238)) (t235.length : Int)) t243 t244 _ ?side1 ?side2 A9.out).mono ?_); (case side1 => exact tC (Kd.R_reads' HO242.out).2.2); (case side2 => exact (Kd.R_reads' HO242.out).2.1); rintro e w19 ⟨v245, rfl, ho0, hb⟩; have HO246 := Aside0.mk (Kd.R_lower (Kd.R_new' (Kd.R_new' ho0 (Kd.R_lt (by (with_reducible repeat (first | apply Kd.R_alloc | apply Kd.R_drewN | apply Kd.R_drew)); exact HO237.out))) (Kd.R_lt (by (with_reducible repeat (first | apply Kd.R_alloc | apply Kd.R_drewN | apply Kd.R_drew)); exact HO242.out))) (below_size (by repeat (first | (with_reducible first | exact HB.out | apply below_alloc | apply pw_below_drewN | apply below_drew1) | exact HB.out)))); replace HO237 := Aside0.mk (Kd.R_elder' (by (with_reducible repeat (first | apply Kd.R_alloc | apply Kd.R_drewN | apply Kd.R_drew)); exact HO237.out) (Kd.R_base ho0) hb); replace HO242 := Aside0.mk (Kd.R_elder' (by (with_reducible repeat (first | apply Kd.R_alloc | apply Kd.R_drewN | apply Kd.R_drew)); exact HO242.out) (Kd.R_base ho0) hb); replace HB := Aside0.mk (below_step (by repeat (first | (with_reducible first | exact HB.out | apply below_alloc | apply pw_below_drewN | apply below_drew1) | exact HB.out)) hb); (try clear hb); (try clear hb2); (try clear hk); (try clear hi); (try clear ho0)) | (go_at_call 8; (with_reducible refine (impl_RotationTo.calls k _ _ t235 _ _ t239 t247 t248 _ ?side1 ?side2 ?side3 ?side4 A10.out).mono ?_); (case side1 => exact tC (Kd.R_reads' HO237.out).2.2); (case side2 => exact (Kd.R_reads' HO237.out).2.1); (case side3 => exact tC (Kd.R_reads' HO242.out).2.2); (case side4 => exact (Kd.R_reads' HO242.out).2.1); rintro e w20 ⟨rfl, hb⟩; replace HO237 := Aside0.mk (Kd.R_below (by (with_reducible repeat (first | apply Kd.R_alloc | apply Kd.R_drewN | apply Kd.R_drew)); exact HO237.out) hb); replace HO242 := Aside0.mk (Kd.R_below (by (with_reducible repeat (first | apply Kd.R_alloc | apply Kd.R_drewN | apply Kd.R_drew)); exact HO242.out) hb); replace HO246 := Aside0.mk (Kd.R_below (by (with_reducible repeat (first | apply Kd.R_alloc | apply Kd.R_drewN | apply Kd.R_drew)); exact HO246.out) hb); replace HB := Aside0.mk (below_step (by repeat (first | (with_reducible first | exact HB.out | apply below_alloc | apply pw_below_drewN | apply below_drew1) | exact HB.out)) hb); (try clear hb); (try clear hb2); (try clear hk); (try clear hi)) | (go_at_call 9; (with_reducible refine (impl_IntervalsOf.calls k _ _ t235 t249 t250 _ ?side1 ?side2 A11.out).mono ?_); (case side1 => exact tC (Kd.R_reads' HO237.out).2.2); (case side2 => exact (Kd.R_reads' HO237.out).2.1); rintro e w21 ⟨v251, rfl, ho0, hb⟩; have HO252 := Aside0.mk (Kd.R_lower (Kd.R_new' (Kd.R_new' (Kd.R_new' ho0 (Kd.R_lt (by (with_reducible repeat (first | apply Kd.R_alloc | apply Kd.R_drewN | apply Kd.R_drew)); exact HO237.out))) (Kd.R_lt (by (with_reducible repeat (first | apply Kd.R_alloc | apply Kd.R_drewN | apply Kd.R_drew)); exact HO242.out))) (Kd.R_lt (by (with_reducible repeat (first | apply Kd.R_alloc | apply Kd.R_drewN | apply Kd.R_drew)); exact HO246.out))) (below_size (by repeat (first | (with_reducible first | exact HB.out | apply below_alloc | apply pw_below_drewN | apply below_drew1) | exact HB.out)))); replace HO237 := Aside0.mk (Kd.R_elder' (by (with_reducible repeat (first | apply Kd.R_alloc | apply Kd.R_drewN | apply Kd.R_drew)); exact HO237.out) (Kd.R_base ho0) hb); replace HO242 := Aside0.mk (Kd.R_elder' (by (with_reducible repeat (first | apply Kd.R_alloc | apply Kd.R_drewN | apply Kd.R_drew)); exact HO242.out) (Kd.R_base ho0) hb); replace HO246 := Aside0.mk (Kd.R_elder' (by (with_reducible repeat (first | apply Kd.R_alloc | apply Kd.R_drewN | apply Kd.R_drew)); exact HO246.out) (Kd.R_base ho0) hb); replace HB := Aside0.mk (below_step (by repeat (first | (with_reducible first | exact HB.out | apply below_alloc | apply pw_below_drewN | apply below_drew1) | exact HB.out)) hb); (try clear hb); (try clear hb2); (try clear hk); (try clear hi); (try clear ho0)) | (go_at_call 9; (with_reducible refine (impl_IntervalsOf.calls k _ _ t239 t253 t254 _ ?side1 ?side2 A12.out).mono ?_); (case side1 => exact tC (Kd.R_reads' HO242.out).2.2); (case side2 => exact (Kd.R_reads' HO242.out).2.1); rintro e w22 ⟨v255, rfl, ho0, hb⟩; have HO256 := Aside0.mk (Kd.R_lower (Kd.R_new' (Kd.R_new' (Kd.R_new' (Kd.R_new' ho0 (Kd.R_lt (by (with_reducible repeat (first | apply Kd.R_alloc | apply Kd.R_drewN | apply Kd.R_drew)); exact HO237.out))) (Kd.R_lt (by (with_reducible repeat (first | apply Kd.R_alloc | apply Kd.R_drewN | apply Kd.R_drew)); exact HO242.out))) (Kd.R_lt (by (with_reducible repeat (first | apply Kd.R_alloc | apply Kd.R_drewN | apply Kd.R_drew)); exact HO246.out))) (Kd.R_lt (by (with_reducible repeat (first | apply Kd.R_alloc | apply Kd.R_drewN | apply Kd.R_drew)); exact HO252.out))) (below_size (by repeat (first | (with_reducible first | exact HB.out | apply below_alloc | apply pw_below_drewN | apply below_drew1) | exact HB.out)))); replace HO237 := Aside0.mk (Kd.R_elder' (by (with_reducible repeat (first | apply Kd.R_alloc | apply Kd.R_drewN | apply Kd.R_drew)); exact HO237.out) (Kd.R_base ho0) hb); replace HO242 := Aside0.mk (Kd.R_elder' (by (with_reducible repeat (first | apply Kd.R_alloc | apply Kd.R_drewN | apply Kd.R_drew)); exact HO242.out) (Kd.R_base ho0) hb); replace HO246 := Aside0.mk (Kd.R_elder' (by (with_reducible repeat (first | apply Kd.R_alloc | apply Kd.R_drewN | apply Kd.R_drew)); exact HO246.out) (Kd.R_base ho0) hb); replace HO252 := Aside0.mk (Kd.R_elder' (by (with_reducible repeat (first | apply Kd.R_alloc | apply Kd.R_drewN | apply Kd.R_drew)); exact HO252.out) (Kd.R_base ho0) hb); replace HB := Aside0.mk (below_step (by repeat (first | (with_reducible first | exact HB.out | apply below_alloc | apply pw_below_drewN | apply below_drew1) | exact HB.out)) hb); (try clear hb); (try clear hb2); (try clear hk); (try clear hi); (try clear ho0)) | (go_at_call 10; (with_reducible refine (impl_CommonTones.calls k _ _ t235 _ _ t239 t257 t258 _ ?side1 ?side2 ?side3 ?side4 A13.out).mono ?_); (case side1 => exact tC (Kd.R_reads' HO237.out).2.2); (case side2 => exact (Kd.R_reads' HO237.out).2.1); (case side3 => exact tC (Kd.R_reads' HO242.out).2.2); (case side4 => exact (Kd.R_reads' HO242.out).2.1); rintro e w23 ⟨v259, rfl, ho0, hb⟩; have HO260 := Aside0.mk (Kd.R_lower (Kd.R_new' (Kd.R_new' (Kd.R_new' (Kd.R_new' (Kd.R_new' ho0 (Kd.R_lt (by (with_reducible repeat (first | apply Kd.R_alloc | apply Kd.R_drewN | apply Kd.R_drew)); exact HO237.out))) (Kd.R_lt (by (with_reducible repeat (first | apply Kd.R_alloc | apply Kd.R_drewN | apply Kd.R_drew)); exact HO242.out))) (Kd.R_lt (by (with_reducible repeat (first | apply Kd.R_alloc | apply Kd.R_drewN | apply Kd.R_drew)); exact HO246.out))) (Kd.R_lt (by (with_reducible repeat (first | apply Kd.R_alloc | apply Kd.R_drewN | apply Kd.R_drew)); exact HO252.out))) (Kd.R_lt (by (with_reducible repeat (first | apply Kd.R_alloc | apply Kd.R_drewN | apply Kd.R_drew)); exact HO256.out))) (below_size (by repeat (first | (with_reducible first | exact HB.out | apply below_alloc | apply pw_below_drewN | apply below_drew1) | exact HB.out)))); replace HO237 := Aside0.mk (Kd.R_elder' (by (with_reducible repeat (first | apply Kd.R_alloc | apply Kd.R_drewN | apply Kd.R_drew)); exact HO237.out) (Kd.R_base ho0) hb); replace HO242 := Aside0.mk (Kd.R_elder' (by (with_reducible repeat (first | apply Kd.R_alloc | apply Kd.R_drewN | apply Kd.R_drew)); exact HO242.out) (Kd.R_base ho0) hb); replace HO246 := Aside0.mk (Kd.R_elder' (by (with_reducible repeat (first | apply Kd.R_alloc | apply Kd.R_drewN | apply Kd.R_drew)); exact HO246.out) (Kd.R_base ho0) hb); replace HO252 := Aside0.mk (Kd.R_elder' (by (with_reducible repeat (first | apply Kd.R_alloc | apply Kd.R_drewN | apply Kd.R_drew)); exact HO252.out) (Kd.R_base ho0) hb); replace HO256 := Aside0.mk (Kd.R_elder' (by (with_reducible repeat (first | apply Kd.R_alloc | apply Kd.R_drewN | apply Kd.R_drew)); exact HO256.out) (Kd.R_base ho0) hb); replace HB := Aside0.mk (below_step (by repeat (first | (with_reducible first | exact HB.out | apply below_alloc | apply pw_below_drewN | apply below_drew1) | exact HB.out)) hb); (try clear hb); (try clear hb2); (try clear hk); (try clear hi); (try clear ho0))))
      (try simp only [Act.put, List.setIfInBounds_toArray, List.set_cons_zero, List.set_cons_succ])
      go_cut [126] (fun v126 wc => ∃ (kq : Nat) (x126_13 : Bool), v126 = .bool x126_13 ∧ Aside0 (laws_FnRotations.j0 kq t235 (t235.length : Int) t238 t239 t247 t249 t253 t257 x126_13 = some r) ∧ Aside0 (kq ≤ k) ∧ Aside0 (Kd.R (Kd.int .i64) 2 wc w.heap.size (fun k_ => some k_ ≠ ((.slice Ao18 t239.length co18) : Value).ownBlock ∧ some k_ ≠ (v251 : Value).ownBlock ∧ some k_ ≠ (v255 : Value).ownBlock ∧ some k_ ≠ (v259 : Value).ownBlock) (.slice Ao16 t235.length co16) t235) ∧ Aside0 (Kd.R (Kd.int .i64) 2 wc w.heap.size (fun k_ => some k_ ≠ ((.slice Ao16 t235.length co16) : Value).ownBlock ∧ some k_ ≠ (v251 : Value).ownBlock ∧ some k_ ≠ (v255 : Value).ownBlock ∧ some k_ ≠ (v259 : Value).ownBlock) (.slice Ao18 t239.length co18) t239) ∧ Aside0 (Kd.R (Kd.int .i64) 2 wc w.heap.size (fun k_ => some k_ ≠ ((.slice Ao16 t235.length co16) : Value).ownBlock ∧ some k_ ≠ ((.slice Ao18 t239.length co18) : Value).ownBlock ∧ some k_ ≠ (v255 : Value).ownBlock ∧ some k_ ≠ (v259 : Value).ownBlock) v251 t249) ∧ Aside0 (Kd.R (Kd.int .i64) 2 wc w.heap.size (fun k_ => some k_ ≠ ((.slice Ao16 t235.length co16) : Value).ownBlock ∧ some k_ ≠ ((.slice Ao18 t239.length co18) : Value).ownBlock ∧ some k_ ≠ (v251 : Value).ownBlock ∧ some k_ ≠ (v259 : Value).ownBlock) v255 t253) ∧ Aside0 (Kd.R (Kd.int .i64) 2 wc w.heap.size (fun k_ => some k_ ≠ ((.slice Ao16 t235.length co16) : Value).ownBlock ∧ some k_ ≠ ((.slice Ao18 t239.length co18) : Value).ownBlock ∧ some k_ ≠ (v251 : Value).ownBlock ∧ some k_ ≠ (v255 : Value).ownBlock) v259 t257) ∧ Aside0 (Below w.heap.size w wc))
      case first =>
        have H := HC14.out
        clear HC14
        by_cases c24 : t240 = 0
        · rw [if_pos c24] at H
          have c24b0 : (t240 == 0) = true := beq_iff_eq.mpr c24
          have c24b1 : (t240 != 0) = false := bne_eq_false_iff_eq.mpr c24
          clear c24
          (first | rw [c24b0] | (simp only [i64_w, i32_w]; rw [c24b0]) | skip)
          by_cases c25 : t244 = 0
          · rw [if_pos c25] at H
            have c25b0 : (t244 == 0) = true := beq_iff_eq.mpr c25
            have c25b1 : (t244 != 0) = false := bne_eq_false_iff_eq.mpr c25
            clear c25
            replace H := Option.bind_eq_some_iff.mp H
            obtain ⟨t261, A260, H⟩ := H
            replace H : (if t261 = true then ((spec_ValidScale.f k t239).bind fun t262 => (if t262 = true then (if t248 = 0 then (if t247 < 0 then (laws_FnRotations.j0 k t235 (t235.length : Int) t238 t239 t247 t249 t253 t257 true) else (if t247 > t238 then (laws_FnRotations.j0 k t235 (t235.length : Int) t238 t239 t247 t249 t253 t257 true) else (if t250 = 0 then (if t254 = 0 then (if (t249.length : Int) = (t235.length : Int) then (if (t253.length : Int) = (t235.length : Int) then (laws_FnRotations.j0 k t235 (t235.length : Int) t238 t239 t247 t249 t253 t257 (t258 != 0)) else (laws_FnRotations.j0 k t235 (t235.length : Int) t238 t239 t247 t249 t253 t257 true)) else (laws_FnRotations.j0 k t235 (t235.length : Int) t238 t239 t247 t249 t253 t257 true)) else (laws_FnRotations.j0 k t235 (t235.length : Int) t238 t239 t247 t249 t253 t257 true)) else (laws_FnRotations.j0 k t235 (t235.length : Int) t238 t239 t247 t249 t253 t257 true)))) else (laws_FnRotations.j0 k t235 (t235.length : Int) t238 t239 t247 t249 t253 t257 true)) else (laws_FnRotations.j0 k t235 (t235.length : Int) t238 t239 t247 t249 t253 t257 true))) else (laws_FnRotations.j0 k t235 (t235.length : Int) t238 t239 t247 t249 t253 t257 true)) = some r := H
            have A26 := Aside0.mk A260
            clear A260
            by_cases c27 : t261 = true
            · subst c27
              have H1 : ((spec_ValidScale.f k t239).bind fun t262 => (if t262 = true then (if t248 = 0 then (if t247 < 0 then (laws_FnRotations.j0 k t235 (t235.length : Int) t238 t239 t247 t249 t253 t257 true) else (if t247 > t238 then (laws_FnRotations.j0 k t235 (t235.length : Int) t238 t239 t247 t249 t253 t257 true) else (if t250 = 0 then (if t254 = 0 then (if (t249.length : Int) = (t235.length : Int) then (if (t253.length : Int) = (t235.length : Int) then (laws_FnRotations.j0 k t235 (t235.length : Int) t238 t239 t247 t249 t253 t257 (t258 != 0)) else (laws_FnRotations.j0 k t235 (t235.length : Int) t238 t239 t247 t249 t253 t257 true)) else (laws_FnRotations.j0 k t235 (t235.length : Int) t238 t239 t247 t249 t253 t257 true)) else (laws_FnRotations.j0 k t235 (t235.length : Int) t238 t239 t247 t249 t253 t257 true)) else (laws_FnRotations.j0 k t235 (t235.length : Int) t238 t239 t247 t249 t253 t257 true)))) else (laws_FnRotations.j0 k t235 (t235.length : Int) t238 t239 t247 t249 t253 t257 true)) else (laws_FnRotations.j0 k t235 (t235.length : Int) t238 t239 t247 t249 t253 t257 true))) = some r := by rw [if_pos rfl] at H; exact H
              clear H
              have H := H1
              clear H1
              replace H := Option.bind_eq_some_iff.mp H
              obtain ⟨t262, A280, H⟩ := H
              replace H : (if t262 = true then (if t248 = 0 then (if t247 < 0 then (laws_FnRotations.j0 k t235 (t235.length : Int) t238 t239 t247 t249 t253 t257 true) else (if t247 > t238 then (laws_FnRotations.j0 k t235 (t235.length : Int) t238 t239 t247 t249 t253 t257 true) else (if t250 = 0 then (if t254 = 0 then (if (t249.length : Int) = (t235.length : Int) then (if (t253.length : Int) = (t235.length : Int) then (laws_FnRotations.j0 k t235 (t235.length : Int) t238 t239 t247 t249 t253 t257 (t258 != 0)) else (laws_FnRotations.j0 k t235 (t235.length : Int) t238 t239 t247 t249 t253 t257 true)) else (laws_FnRotations.j0 k t235 (t235.length : Int) t238 t239 t247 t249 t253 t257 true)) else (laws_FnRotations.j0 k t235 (t235.length : Int) t238 t239 t247 t249 t253 t257 true)) else (laws_FnRotations.j0 k t235 (t235.length : Int) t238 t239 t247 t249 t253 t257 true)))) else (laws_FnRotations.j0 k t235 (t235.length : Int) t238 t239 t247 t249 t253 t257 true)) else (laws_FnRotations.j0 k t235 (t235.length : Int) t238 t239 t247 t249 t253 t257 true)) = some r := H
              have A28 := Aside0.mk A280
              clear A280
              by_cases c29 : t262 = true
              · subst c29
                have H1 : (if t248 = 0 then (if t247 < 0 then (laws_FnRotations.j0 k t235 (t235.length : Int) t238 t239 t247 t249 t253 t257 true) else (if t247 > t238 then (laws_FnRotations.j0 k t235 (t235.length : Int) t238 t239 t247 t249 t253 t257 true) else (if t250 = 0 then (if t254 = 0 then (if (t249.length : Int) = (t235.length : Int) then (if (t253.length : Int) = (t235.length : Int) then (laws_FnRotations.j0 k t235 (t235.length : Int) t238 t239 t247 t249 t253 t257 (t258 != 0)) else (laws_FnRotations.j0 k t235 (t235.length : Int) t238 t239 t247 t249 t253 t257 true)) else (laws_FnRotations.j0 k t235 (t235.length : Int) t238 t239 t247 t249 t253 t257 true)) else (laws_FnRotations.j0 k t235 (t235.length : Int) t238 t239 t247 t249 t253 t257 true)) else (laws_FnRotations.j0 k t235 (t235.length : Int) t238 t239 t247 t249 t253 t257 true)))) else (laws_FnRotations.j0 k t235 (t235.length : Int) t238 t239 t247 t249 t253 t257 true)) = some r := by rw [if_pos rfl] at H; exact H
                clear H
                have H := H1
                clear H1
                by_cases c30 : t248 = 0
                · rw [if_pos c30] at H
                  have c30b0 : (t248 == 0) = true := beq_iff_eq.mpr c30
                  have c30b1 : (t248 != 0) = false := bne_eq_false_iff_eq.mpr c30
                  clear c30
                  by_cases c31 : t247 < 0
                  · rw [if_pos c31] at H
                    have c31b0 : decide (t247 < 0) = true := decide_eq_true c31
                    clear c31
                    have H' := Aside0.mk H
                    clear H
                    obtain ⟨Ao32, co32, eo32⟩ := Kd.R_slice HO246.out
                    subst eo32
                    go_wp2_with (first | (go_at_call 11; (with_reducible refine (laws_r8Same.calls k _ _ t243 _ _ t235 true _ ?side1 ?side2 ?side3 ?side4 A26.out).mono ?_); (case side1 => exact tC (Kd.R_reads' HO246.out).2.2); (case side2 => exact (Kd.R_reads' HO246.out).2.1); (case side3 => exact tC (Kd.R_reads' HO237.out).2.2); (case side4 => exact (Kd.R_reads' HO237.out).2.1); rintro e w' ⟨rfl, ⟨nd, rfl⟩⟩; (try first | exact ⟨rfl, _, World.drewN_drewN _ _ _⟩ | exact ⟨rfl, _, Eq.trans (World.drewN_drewN _ _ _) (congrArg (World.drewN _) (Nat.add_assoc _ _ _))⟩)) | (go_at_call 12; (with_reducible refine (spec_ValidScale.calls k _ _ t239 true _ ?side1 ?side2 A28.out).mono ?_); (case side1 => exact tC (Kd.R_reads' HO242.out).2.2); (case side2 => exact (Kd.R_reads' HO242.out).2.1); rintro e w' ⟨rfl, ⟨nd, rfl⟩⟩; (try first | exact ⟨rfl, _, World.drewN_drewN _ _ _⟩ | exact ⟨rfl, _, Eq.trans (World.drewN_drewN _ _ _) (congrArg (World.drewN _) (Nat.add_assoc _ _ _))⟩)))
                    repeat (go_quiet (first | (go_at_call 11; (with_reducible refine (laws_r8Same.calls k _ _ t243 _ _ t235 true _ ?side1 ?side2 ?side3 ?side4 A26.out).mono ?_); (case side1 => exact tC (Kd.R_reads' HO246.out).2.2); (case side2 => exact (Kd.R_reads' HO246.out).2.1); (case side3 => exact tC (Kd.R_reads' HO237.out).2.2); (case side4 => exact (Kd.R_reads' HO237.out).2.1); rintro e w' ⟨rfl, ⟨nd, rfl⟩⟩; (try first | exact ⟨rfl, _, World.drewN_drewN _ _ _⟩ | exact ⟨rfl, _, Eq.trans (World.drewN_drewN _ _ _) (congrArg (World.drewN _) (Nat.add_assoc _ _ _))⟩)) | (go_at_call 12; (with_reducible refine (spec_ValidScale.calls k _ _ t239 true _ ?side1 ?side2 A28.out).mono ?_); (case side1 => exact tC (Kd.R_reads' HO242.out).2.2); (case side2 => exact (Kd.R_reads' HO242.out).2.1); rintro e w' ⟨rfl, ⟨nd, rfl⟩⟩; (try first | exact ⟨rfl, _, World.drewN_drewN _ _ _⟩ | exact ⟨rfl, _, Eq.trans (World.drewN_drewN _ _ _) (congrArg (World.drewN _) (Nat.add_assoc _ _ _))⟩))); try go_wp2_with (first | (go_at_call 11; (with_reducible refine (laws_r8Same.calls k _ _ t243 _ _ t235 true _ ?side1 ?side2 ?side3 ?side4 A26.out).mono ?_); (case side1 => exact tC (Kd.R_reads' HO246.out).2.2); (case side2 => exact (Kd.R_reads' HO246.out).2.1); (case side3 => exact tC (Kd.R_reads' HO237.out).2.2); (case side4 => exact (Kd.R_reads' HO237.out).2.1); rintro e w' ⟨rfl, ⟨nd, rfl⟩⟩; (try first | exact ⟨rfl, _, World.drewN_drewN _ _ _⟩ | exact ⟨rfl, _, Eq.trans (World.drewN_drewN _ _ _) (congrArg (World.drewN _) (Nat.add_assoc _ _ _))⟩)) | (go_at_call 12; (with_reducible refine (spec_ValidScale.calls k _ _ t239 true _ ?side1 ?side2 A28.out).mono ?_); (case side1 => exact tC (Kd.R_reads' HO242.out).2.2); (case side2 => exact (Kd.R_reads' HO242.out).2.1); rintro e w' ⟨rfl, ⟨nd, rfl⟩⟩; (try first | exact ⟨rfl, _, World.drewN_drewN _ _ _⟩ | exact ⟨rfl, _, Eq.trans (World.drewN_drewN _ _ _) (congrArg (World.drewN _) (Nat.add_assoc _ _ _))⟩))))
                    go_meet
                    case rel => exact ⟨_, (true), tq, H', ⟨by first | omega | exact Nat.le_refl _⟩, ⟨by (with_reducible repeat (first | apply Kd.R_alloc | apply Kd.R_drewN | apply Kd.R_drew)); exact Kd.R_mono HO237.out (fun _ hk => ⟨hk.1.1.1.1.2, ⟨hk.1.1.2, ⟨hk.1.2, hk.2⟩⟩⟩)⟩, ⟨by (with_reducible repeat (first | apply Kd.R_alloc | apply Kd.R_drewN | apply Kd.R_drew)); exact Kd.R_mono HO242.out (fun _ hk => ⟨hk.1.1.1.1.2, ⟨hk.1.1.2, ⟨hk.1.2, hk.2⟩⟩⟩)⟩, ⟨by (with_reducible repeat (first | apply Kd.R_alloc | apply Kd.R_drewN | apply Kd.R_drew)); exact Kd.R_mono HO252.out (fun _ hk => ⟨hk.1.1.1.1.2, ⟨hk.1.1.1.2, ⟨hk.1.2, hk.2⟩⟩⟩)⟩, ⟨by (with_reducible repeat (first | apply Kd.R_alloc | apply Kd.R_drewN | apply Kd.R_drew)); exact Kd.R_mono HO256.out (fun _ hk => ⟨hk.1.1.1.1.2, ⟨hk.1.1.1.2, ⟨hk.1.2, hk.2⟩⟩⟩)⟩, ⟨by (with_reducible repeat (first | apply Kd.R_alloc | apply Kd.R_drewN | apply Kd.R_drew)); exact Kd.R_mono HO260.out (fun _ hk => ⟨hk.1.1.1.1.2, ⟨hk.1.1.1.2, ⟨hk.1.2, hk.2⟩⟩⟩)⟩, ⟨by repeat (first | (with_reducible first | exact HB.out | apply below_alloc | apply pw_below_drewN | apply below_drew1) | exact HB.out)⟩⟩
                  · rw [if_neg c31] at H
                    have c31b0 : decide (t247 < 0) = false := decide_eq_false c31
                    clear c31
                    by_cases c33 : t247 > t238
                    · rw [if_pos c33] at H
                      have c33b0 : decide (t238 < t247) = true := decide_eq_true c33
                      clear c33
                      have H' := Aside0.mk H
                      clear H
                      obtain ⟨Ao34, co34, eo34⟩ := Kd.R_slice HO246.out
                      subst eo34
                      go_wp2_with (first | (go_at_call 11; (with_reducible refine (laws_r8Same.calls k _ _ t243 _ _ t235 true _ ?side1 ?side2 ?side3 ?side4 A26.out).mono ?_); (case side1 => exact tC (Kd.R_reads' HO246.out).2.2); (case side2 => exact (Kd.R_reads' HO246.out).2.1); (case side3 => exact tC (Kd.R_reads' HO237.out).2.2); (case side4 => exact (Kd.R_reads' HO237.out).2.1); rintro e w' ⟨rfl, ⟨nd, rfl⟩⟩; (try first | exact ⟨rfl, _, World.drewN_drewN _ _ _⟩ | exact ⟨rfl, _, Eq.trans (World.drewN_drewN _ _ _) (congrArg (World.drewN _) (Nat.add_assoc _ _ _))⟩)) | (go_at_call 12; (with_reducible refine (spec_ValidScale.calls k _ _ t239 true _ ?side1 ?side2 A28.out).mono ?_); (case side1 => exact tC (Kd.R_reads' HO242.out).2.2); (case side2 => exact (Kd.R_reads' HO242.out).2.1); rintro e w' ⟨rfl, ⟨nd, rfl⟩⟩; (try first | exact ⟨rfl, _, World.drewN_drewN _ _ _⟩ | exact ⟨rfl, _, Eq.trans (World.drewN_drewN _ _ _) (congrArg (World.drewN _) (Nat.add_assoc _ _ _))⟩)))
                      repeat (go_quiet (first | (go_at_call 11; (with_reducible refine (laws_r8Same.calls k _ _ t243 _ _ t235 true _ ?side1 ?side2 ?side3 ?side4 A26.out).mono ?_); (case side1 => exact tC (Kd.R_reads' HO246.out).2.2); (case side2 => exact (Kd.R_reads' HO246.out).2.1); (case side3 => exact tC (Kd.R_reads' HO237.out).2.2); (case side4 => exact (Kd.R_reads' HO237.out).2.1); rintro e w' ⟨rfl, ⟨nd, rfl⟩⟩; (try first | exact ⟨rfl, _, World.drewN_drewN _ _ _⟩ | exact ⟨rfl, _, Eq.trans (World.drewN_drewN _ _ _) (congrArg (World.drewN _) (Nat.add_assoc _ _ _))⟩)) | (go_at_call 12; (with_reducible refine (spec_ValidScale.calls k _ _ t239 true _ ?side1 ?side2 A28.out).mono ?_); (case side1 => exact tC (Kd.R_reads' HO242.out).2.2); (case side2 => exact (Kd.R_reads' HO242.out).2.1); rintro e w' ⟨rfl, ⟨nd, rfl⟩⟩; (try first | exact ⟨rfl, _, World.drewN_drewN _ _ _⟩ | exact ⟨rfl, _, Eq.trans (World.drewN_drewN _ _ _) (congrArg (World.drewN _) (Nat.add_assoc _ _ _))⟩))); try go_wp2_with (first | (go_at_call 11; (with_reducible refine (laws_r8Same.calls k _ _ t243 _ _ t235 true _ ?side1 ?side2 ?side3 ?side4 A26.out).mono ?_); (case side1 => exact tC (Kd.R_reads' HO246.out).2.2); (case side2 => exact (Kd.R_reads' HO246.out).2.1); (case side3 => exact tC (Kd.R_reads' HO237.out).2.2); (case side4 => exact (Kd.R_reads' HO237.out).2.1); rintro e w' ⟨rfl, ⟨nd, rfl⟩⟩; (try first | exact ⟨rfl, _, World.drewN_drewN _ _ _⟩ | exact ⟨rfl, _, Eq.trans (World.drewN_drewN _ _ _) (congrArg (World.drewN _) (Nat.add_assoc _ _ _))⟩)) | (go_at_call 12; (with_reducible refine (spec_ValidScale.calls k _ _ t239 true _ ?side1 ?side2 A28.out).mono ?_); (case side1 => exact tC (Kd.R_reads' HO242.out).2.2); (case side2 => exact (Kd.R_reads' HO242.out).2.1); rintro e w' ⟨rfl, ⟨nd, rfl⟩⟩; (try first | exact ⟨rfl, _, World.drewN_drewN _ _ _⟩ | exact ⟨rfl, _, Eq.trans (World.drewN_drewN _ _ _) (congrArg (World.drewN _) (Nat.add_assoc _ _ _))⟩))))
                      go_meet
                      case rel => exact ⟨_, (true), tq, H', ⟨by first | omega | exact Nat.le_refl _⟩, ⟨by (with_reducible repeat (first | apply Kd.R_alloc | apply Kd.R_drewN | apply Kd.R_drew)); exact Kd.R_mono HO237.out (fun _ hk => ⟨hk.1.1.1.1.2, ⟨hk.1.1.2, ⟨hk.1.2, hk.2⟩⟩⟩)⟩, ⟨by (with_reducible repeat (first | apply Kd.R_alloc | apply Kd.R_drewN | apply Kd.R_drew)); exact Kd.R_mono HO242.out (fun _ hk => ⟨hk.1.1.1.1.2, ⟨hk.1.1.2, ⟨hk.1.2, hk.2⟩⟩⟩)⟩, ⟨by (with_reducible repeat (first | apply Kd.R_alloc | apply Kd.R_drewN | apply Kd.R_drew)); exact Kd.R_mono HO252.out (fun _ hk => ⟨hk.1.1.1.1.2, ⟨hk.1.1.1.2, ⟨hk.1.2, hk.2⟩⟩⟩)⟩, ⟨by (with_reducible repeat (first | apply Kd.R_alloc | apply Kd.R_drewN | apply Kd.R_drew)); exact Kd.R_mono HO256.out (fun _ hk => ⟨hk.1.1.1.1.2, ⟨hk.1.1.1.2, ⟨hk.1.2, hk.2⟩⟩⟩)⟩, ⟨by (with_reducible repeat (first | apply Kd.R_alloc | apply Kd.R_drewN | apply Kd.R_drew)); exact Kd.R_mono HO260.out (fun _ hk => ⟨hk.1.1.1.1.2, ⟨hk.1.1.1.2, ⟨hk.1.2, hk.2⟩⟩⟩)⟩, ⟨by repeat (first | (with_reducible first | exact HB.out | apply below_alloc | apply pw_below_drewN | apply below_drew1) | exact HB.out)⟩⟩
                    · rw [if_neg c33] at H
                      have c33b0 : decide (t238 < t247) = false := decide_eq_false c33
                      clear c33
                      by_cases c35 : t250 = 0
                      · rw [if_pos c35] at H
                        have c35b0 : (t250 == 0) = true := beq_iff_eq.mpr c35
                        have c35b1 : (t250 != 0) = false := bne_eq_false_iff_eq.mpr c35
                        clear c35
                        by_cases c36 : t254 = 0
                        · rw [if_pos c36] at H
                          have c36b0 : (t254 == 0) = true := beq_iff_eq.mpr c36
                          have c36b1 : (t254 != 0) = false := bne_eq_false_iff_eq.mpr c36
                          clear c36
                          by_cases c37 : (t249.length : Int) = (t235.length : Int)
                          · rw [if_pos c37] at H
                            have c37b0 : ((t249.length : Int) == (t235.length : Int)) = true := beq_iff_eq.mpr c37
                            have c37b1 : ((t249.length : Int) != (t235.length : Int)) = false := bne_eq_false_iff_eq.mpr c37
                            have c37b2 : (t249.length == t235.length) = true := by first | simpa using c37 | (simp at c37 ⊢; omega)
                            clear c37
                            by_cases c38 : (t253.length : Int) = (t235.length : Int)
                            · rw [if_pos c38] at H
                              have c38b0 : ((t253.length : Int) == (t235.length : Int)) = true := beq_iff_eq.mpr c38
                              have c38b1 : ((t253.length : Int) != (t235.length : Int)) = false := bne_eq_false_iff_eq.mpr c38
                              have c38b2 : (t253.length == t235.length) = true := by first | simpa using c38 | (simp at c38 ⊢; omega)
                              clear c38
                              have H' := Aside0.mk H
                              clear H
                              obtain ⟨Ao39, co39, eo39⟩ := Kd.R_slice HO246.out
                              subst eo39
                              go_wp2_with (first | (go_at_call 11; (with_reducible refine (laws_r8Same.calls k _ _ t243 _ _ t235 true _ ?side1 ?side2 ?side3 ?side4 A26.out).mono ?_); (case side1 => exact tC (Kd.R_reads' HO246.out).2.2); (case side2 => exact (Kd.R_reads' HO246.out).2.1); (case side3 => exact tC (Kd.R_reads' HO237.out).2.2); (case side4 => exact (Kd.R_reads' HO237.out).2.1); rintro e w' ⟨rfl, ⟨nd, rfl⟩⟩; (try first | exact ⟨rfl, _, World.drewN_drewN _ _ _⟩ | exact ⟨rfl, _, Eq.trans (World.drewN_drewN _ _ _) (congrArg (World.drewN _) (Nat.add_assoc _ _ _))⟩)) | (go_at_call 12; (with_reducible refine (spec_ValidScale.calls k _ _ t239 true _ ?side1 ?side2 A28.out).mono ?_); (case side1 => exact tC (Kd.R_reads' HO242.out).2.2); (case side2 => exact (Kd.R_reads' HO242.out).2.1); rintro e w' ⟨rfl, ⟨nd, rfl⟩⟩; (try first | exact ⟨rfl, _, World.drewN_drewN _ _ _⟩ | exact ⟨rfl, _, Eq.trans (World.drewN_drewN _ _ _) (congrArg (World.drewN _) (Nat.add_assoc _ _ _))⟩); obtain ⟨Ao40, co40, eo40⟩ := Kd.R_slice HO252.out; subst eo40; obtain ⟨Ao41, co41, eo41⟩ := Kd.R_slice HO256.out; subst eo41))
                              repeat (go_quiet (first | (go_at_call 11; (with_reducible refine (laws_r8Same.calls k _ _ t243 _ _ t235 true _ ?side1 ?side2 ?side3 ?side4 A26.out).mono ?_); (case side1 => exact tC (Kd.R_reads' HO246.out).2.2); (case side2 => exact (Kd.R_reads' HO246.out).2.1); (case side3 => exact tC (Kd.R_reads' HO237.out).2.2); (case side4 => exact (Kd.R_reads' HO237.out).2.1); rintro e w' ⟨rfl, ⟨nd, rfl⟩⟩; (try first | exact ⟨rfl, _, World.drewN_drewN _ _ _⟩ | exact ⟨rfl, _, Eq.trans (World.drewN_drewN _ _ _) (congrArg (World.drewN _) (Nat.add_assoc _ _ _))⟩)) | (go_at_call 12; (with_reducible refine (spec_ValidScale.calls k _ _ t239 true _ ?side1 ?side2 A28.out).mono ?_); (case side1 => exact tC (Kd.R_reads' HO242.out).2.2); (case side2 => exact (Kd.R_reads' HO242.out).2.1); rintro e w' ⟨rfl, ⟨nd, rfl⟩⟩; (try first | exact ⟨rfl, _, World.drewN_drewN _ _ _⟩ | exact ⟨rfl, _, Eq.trans (World.drewN_drewN _ _ _) (congrArg (World.drewN _) (Nat.add_assoc _ _ _))⟩); obtain ⟨Ao40, co40, eo40⟩ := Kd.R_slice HO252.out; subst eo40; obtain ⟨Ao41, co41, eo41⟩ := Kd.R_slice HO256.out; subst eo41)); try go_wp2_with (first | (go_at_call 11; (with_reducible refine (laws_r8Same.calls k _ _ t243 _ _ t235 true _ ?side1 ?side2 ?side3 ?side4 A26.out).mono ?_); (case side1 => exact tC (Kd.R_reads' HO246.out).2.2); (case side2 => exact (Kd.R_reads' HO246.out).2.1); (case side3 => exact tC (Kd.R_reads' HO237.out).2.2); (case side4 => exact (Kd.R_reads' HO237.out).2.1); rintro e w' ⟨rfl, ⟨nd, rfl⟩⟩; (try first | exact ⟨rfl, _, World.drewN_drewN _ _ _⟩ | exact ⟨rfl, _, Eq.trans (World.drewN_drewN _ _ _) (congrArg (World.drewN _) (Nat.add_assoc _ _ _))⟩)) | (go_at_call 12; (with_reducible refine (spec_ValidScale.calls k _ _ t239 true _ ?side1 ?side2 A28.out).mono ?_); (case side1 => exact tC (Kd.R_reads' HO242.out).2.2); (case side2 => exact (Kd.R_reads' HO242.out).2.1); rintro e w' ⟨rfl, ⟨nd, rfl⟩⟩; (try first | exact ⟨rfl, _, World.drewN_drewN _ _ _⟩ | exact ⟨rfl, _, Eq.trans (World.drewN_drewN _ _ _) (congrArg (World.drewN _) (Nat.add_assoc _ _ _))⟩); obtain ⟨Ao40, co40, eo40⟩ := Kd.R_slice HO252.out; subst eo40; obtain ⟨Ao41, co41, eo41⟩ := Kd.R_slice HO256.out; subst eo41)))
                              go_meet
                              case rel => exact ⟨_, ((t258 != 0)), tq, H', ⟨by first | omega | exact Nat.le_refl _⟩, ⟨by (with_reducible repeat (first | apply Kd.R_alloc | apply Kd.R_drewN | apply Kd.R_drew)); exact Kd.R_mono HO237.out (fun _ hk => ⟨hk.1.1.1.1.2, ⟨hk.1.1.2, ⟨hk.1.2, hk.2⟩⟩⟩)⟩, ⟨by (with_reducible repeat (first | apply Kd.R_alloc | apply Kd.R_drewN | apply Kd.R_drew)); exact Kd.R_mono HO242.out (fun _ hk => ⟨hk.1.1.1.1.2, ⟨hk.1.1.2, ⟨hk.1.2, hk.2⟩⟩⟩)⟩, ⟨by (with_reducible repeat (first | apply Kd.R_alloc | apply Kd.R_drewN | apply Kd.R_drew)); exact Kd.R_mono HO252.out (fun _ hk => ⟨hk.1.1.1.1.2, ⟨hk.1.1.1.2, ⟨hk.1.2, hk.2⟩⟩⟩)⟩, ⟨by (with_reducible repeat (first | apply Kd.R_alloc | apply Kd.R_drewN | apply Kd.R_drew)); exact Kd.R_mono HO256.out (fun _ hk => ⟨hk.1.1.1.1.2, ⟨hk.1.1.1.2, ⟨hk.1.2, hk.2⟩⟩⟩)⟩, ⟨by (with_reducible repeat (first | apply Kd.R_alloc | apply Kd.R_drewN | apply Kd.R_drew)); exact Kd.R_mono HO260.out (fun _ hk => ⟨hk.1.1.1.1.2, ⟨hk.1.1.1.2, ⟨hk.1.2, hk.2⟩⟩⟩)⟩, ⟨by repeat (first | (with_reducible first | exact HB.out | apply below_alloc | apply pw_below_drewN | apply below_drew1) | exact HB.out)⟩⟩
                            · rw [if_neg c38] at H
                              have c38b0 : ((t253.length : Int) == (t235.length : Int)) = false := beq_eq_false_iff_ne.mpr c38
                              have c38b1 : ((t253.length : Int) != (t235.length : Int)) = true := bne_iff_ne.mpr c38
                              have c38b2 : (t253.length == t235.length) = false := by first | simpa using c38 | (simp at c38 ⊢; omega)
                              have H' := Aside0.mk H
                              clear H
                              obtain ⟨Ao42, co42, eo42⟩ := Kd.R_slice HO246.out
                              subst eo42
                              go_wp2_with (first | (go_at_call 11; (with_reducible refine (laws_r8Same.calls k _ _ t243 _ _ t235 true _ ?side1 ?side2 ?side3 ?side4 A26.out).mono ?_); (case side1 => exact tC (Kd.R_reads' HO246.out).2.2); (case side2 => exact (Kd.R_reads' HO246.out).2.1); (case side3 => exact tC (Kd.R_reads' HO237.out).2.2); (case side4 => exact (Kd.R_reads' HO237.out).2.1); rintro e w' ⟨rfl, ⟨nd, rfl⟩⟩; (try first | exact ⟨rfl, _, World.drewN_drewN _ _ _⟩ | exact ⟨rfl, _, Eq.trans (World.drewN_drewN _ _ _) (congrArg (World.drewN _) (Nat.add_assoc _ _ _))⟩)) | (go_at_call 12; (with_reducible refine (spec_ValidScale.calls k _ _ t239 true _ ?side1 ?side2 A28.out).mono ?_); (case side1 => exact tC (Kd.R_reads' HO242.out).2.2); (case side2 => exact (Kd.R_reads' HO242.out).2.1); rintro e w' ⟨rfl, ⟨nd, rfl⟩⟩; (try first | exact ⟨rfl, _, World.drewN_drewN _ _ _⟩ | exact ⟨rfl, _, Eq.trans (World.drewN_drewN _ _ _) (congrArg (World.drewN _) (Nat.add_assoc _ _ _))⟩); obtain ⟨Ao43, co43, eo43⟩ := Kd.R_slice HO252.out; subst eo43; obtain ⟨Ao44, co44, eo44⟩ := Kd.R_slice HO256.out; subst eo44))
                              repeat (go_quiet (first | (go_at_call 11; (with_reducible refine (laws_r8Same.calls k _ _ t243 _ _ t235 true _ ?side1 ?side2 ?side3 ?side4 A26.out).mono ?_); (case side1 => exact tC (Kd.R_reads' HO246.out).2.2); (case side2 => exact (Kd.R_reads' HO246.out).2.1); (case side3 => exact tC (Kd.R_reads' HO237.out).2.2); (case side4 => exact (Kd.R_reads' HO237.out).2.1); rintro e w' ⟨rfl, ⟨nd, rfl⟩⟩; (try first | exact ⟨rfl, _, World.drewN_drewN _ _ _⟩ | exact ⟨rfl, _, Eq.trans (World.drewN_drewN _ _ _) (congrArg (World.drewN _) (Nat.add_assoc _ _ _))⟩)) | (go_at_call 12; (with_reducible refine (spec_ValidScale.calls k _ _ t239 true _ ?side1 ?side2 A28.out).mono ?_); (case side1 => exact tC (Kd.R_reads' HO242.out).2.2); (case side2 => exact (Kd.R_reads' HO242.out).2.1); rintro e w' ⟨rfl, ⟨nd, rfl⟩⟩; (try first | exact ⟨rfl, _, World.drewN_drewN _ _ _⟩ | exact ⟨rfl, _, Eq.trans (World.drewN_drewN _ _ _) (congrArg (World.drewN _) (Nat.add_assoc _ _ _))⟩); obtain ⟨Ao43, co43, eo43⟩ := Kd.R_slice HO252.out; subst eo43; obtain ⟨Ao44, co44, eo44⟩ := Kd.R_slice HO256.out; subst eo44)); try go_wp2_with (first | (go_at_call 11; (with_reducible refine (laws_r8Same.calls k _ _ t243 _ _ t235 true _ ?side1 ?side2 ?side3 ?side4 A26.out).mono ?_); (case side1 => exact tC (Kd.R_reads' HO246.out).2.2); (case side2 => exact (Kd.R_reads' HO246.out).2.1); (case side3 => exact tC (Kd.R_reads' HO237.out).2.2); (case side4 => exact (Kd.R_reads' HO237.out).2.1); rintro e w' ⟨rfl, ⟨nd, rfl⟩⟩; (try first | exact ⟨rfl, _, World.drewN_drewN _ _ _⟩ | exact ⟨rfl, _, Eq.trans (World.drewN_drewN _ _ _) (congrArg (World.drewN _) (Nat.add_assoc _ _ _))⟩)) | (go_at_call 12; (with_reducible refine (spec_ValidScale.calls k _ _ t239 true _ ?side1 ?side2 A28.out).mono ?_); (case side1 => exact tC (Kd.R_reads' HO242.out).2.2); (case side2 => exact (Kd.R_reads' HO242.out).2.1); rintro e w' ⟨rfl, ⟨nd, rfl⟩⟩; (try first | exact ⟨rfl, _, World.drewN_drewN _ _ _⟩ | exact ⟨rfl, _, Eq.trans (World.drewN_drewN _ _ _) (congrArg (World.drewN _) (Nat.add_assoc _ _ _))⟩); obtain ⟨Ao43, co43, eo43⟩ := Kd.R_slice HO252.out; subst eo43; obtain ⟨Ao44, co44, eo44⟩ := Kd.R_slice HO256.out; subst eo44)))
                              go_meet
                              case rel => exact ⟨_, (true), tq, H', ⟨by first | omega | exact Nat.le_refl _⟩, ⟨by (with_reducible repeat (first | apply Kd.R_alloc | apply Kd.R_drewN | apply Kd.R_drew)); exact Kd.R_mono HO237.out (fun _ hk => ⟨hk.1.1.1.1.2, ⟨hk.1.1.2, ⟨hk.1.2, hk.2⟩⟩⟩)⟩, ⟨by (with_reducible repeat (first | apply Kd.R_alloc | apply Kd.R_drewN | apply Kd.R_drew)); exact Kd.R_mono HO242.out (fun _ hk => ⟨hk.1.1.1.1.2, ⟨hk.1.1.2, ⟨hk.1.2, hk.2⟩⟩⟩)⟩, ⟨by (with_reducible repeat (first | apply Kd.R_alloc | apply Kd.R_drewN | apply Kd.R_drew)); exact Kd.R_mono HO252.out (fun _ hk => ⟨hk.1.1.1.1.2, ⟨hk.1.1.1.2, ⟨hk.1.2, hk.2⟩⟩⟩)⟩, ⟨by (with_reducible repeat (first | apply Kd.R_alloc | apply Kd.R_drewN | apply Kd.R_drew)); exact Kd.R_mono HO256.out (fun _ hk => ⟨hk.1.1.1.1.2, ⟨hk.1.1.1.2, ⟨hk.1.2, hk.2⟩⟩⟩)⟩, ⟨by (with_reducible repeat (first | apply Kd.R_alloc | apply Kd.R_drewN | apply Kd.R_drew)); exact Kd.R_mono HO260.out (fun _ hk => ⟨hk.1.1.1.1.2, ⟨hk.1.1.1.2, ⟨hk.1.2, hk.2⟩⟩⟩)⟩, ⟨by repeat (first | (with_reducible first | exact HB.out | apply below_alloc | apply pw_below_drewN | apply below_drew1) | exact HB.out)⟩⟩
                          · rw [if_neg c37] at H
                            have c37b0 : ((t249.length : Int) == (t235.length : Int)) = false := beq_eq_false_iff_ne.mpr c37
                            have c37b1 : ((t249.length : Int) != (t235.length : Int)) = true := bne_iff_ne.mpr c37
                            have c37b2 : (t249.length == t235.length) = false := by first | simpa using c37 | (simp at c37 ⊢; omega)
                            have H' := Aside0.mk H
                            clear H
                            obtain ⟨Ao45, co45, eo45⟩ := Kd.R_slice HO246.out
                            subst eo45
                            go_wp2_with (first | (go_at_call 11; (with_reducible refine (laws_r8Same.calls k _ _ t243 _ _ t235 true _ ?side1 ?side2 ?side3 ?side4 A26.out).mono ?_); (case side1 => exact tC (Kd.R_reads' HO246.out).2.2); (case side2 => exact (Kd.R_reads' HO246.out).2.1); (case side3 => exact tC (Kd.R_reads' HO237.out).2.2); (case side4 => exact (Kd.R_reads' HO237.out).2.1); rintro e w' ⟨rfl, ⟨nd, rfl⟩⟩; (try first | exact ⟨rfl, _, World.drewN_drewN _ _ _⟩ | exact ⟨rfl, _, Eq.trans (World.drewN_drewN _ _ _) (congrArg (World.drewN _) (Nat.add_assoc _ _ _))⟩)) | (go_at_call 12; (with_reducible refine (spec_ValidScale.calls k _ _ t239 true _ ?side1 ?side2 A28.out).mono ?_); (case side1 => exact tC (Kd.R_reads' HO242.out).2.2); (case side2 => exact (Kd.R_reads' HO242.out).2.1); rintro e w' ⟨rfl, ⟨nd, rfl⟩⟩; (try first | exact ⟨rfl, _, World.drewN_drewN _ _ _⟩ | exact ⟨rfl, _, Eq.trans (World.drewN_drewN _ _ _) (congrArg (World.drewN _) (Nat.add_assoc _ _ _))⟩); obtain ⟨Ao46, co46, eo46⟩ := Kd.R_slice HO252.out; subst eo46))
                            repeat (go_quiet (first | (go_at_call 11; (with_reducible refine (laws_r8Same.calls k _ _ t243 _ _ t235 true _ ?side1 ?side2 ?side3 ?side4 A26.out).mono ?_); (case side1 => exact tC (Kd.R_reads' HO246.out).2.2); (case side2 => exact (Kd.R_reads' HO246.out).2.1); (case side3 => exact tC (Kd.R_reads' HO237.out).2.2); (case side4 => exact (Kd.R_reads' HO237.out).2.1); rintro e w' ⟨rfl, ⟨nd, rfl⟩⟩; (try first | exact ⟨rfl, _, World.drewN_drewN _ _ _⟩ | exact ⟨rfl, _, Eq.trans (World.drewN_drewN _ _ _) (congrArg (World.drewN _) (Nat.add_assoc _ _ _))⟩)) | (go_at_call 12; (with_reducible refine (spec_ValidScale.calls k _ _ t239 true _ ?side1 ?side2 A28.out).mono ?_); (case side1 => exact tC (Kd.R_reads' HO242.out).2.2); (case side2 => exact (Kd.R_reads' HO242.out).2.1); rintro e w' ⟨rfl, ⟨nd, rfl⟩⟩; (try first | exact ⟨rfl, _, World.drewN_drewN _ _ _⟩ | exact ⟨rfl, _, Eq.trans (World.drewN_drewN _ _ _) (congrArg (World.drewN _) (Nat.add_assoc _ _ _))⟩); obtain ⟨Ao46, co46, eo46⟩ := Kd.R_slice HO252.out; subst eo46)); try go_wp2_with (first | (go_at_call 11; (with_reducible refine (laws_r8Same.calls k _ _ t243 _ _ t235 true _ ?side1 ?side2 ?side3 ?side4 A26.out).mono ?_); (case side1 => exact tC (Kd.R_reads' HO246.out).2.2); (case side2 => exact (Kd.R_reads' HO246.out).2.1); (case side3 => exact tC (Kd.R_reads' HO237.out).2.2); (case side4 => exact (Kd.R_reads' HO237.out).2.1); rintro e w' ⟨rfl, ⟨nd, rfl⟩⟩; (try first | exact ⟨rfl, _, World.drewN_drewN _ _ _⟩ | exact ⟨rfl, _, Eq.trans (World.drewN_drewN _ _ _) (congrArg (World.drewN _) (Nat.add_assoc _ _ _))⟩)) | (go_at_call 12; (with_reducible refine (spec_ValidScale.calls k _ _ t239 true _ ?side1 ?side2 A28.out).mono ?_); (case side1 => exact tC (Kd.R_reads' HO242.out).2.2); (case side2 => exact (Kd.R_reads' HO242.out).2.1); rintro e w' ⟨rfl, ⟨nd, rfl⟩⟩; (try first | exact ⟨rfl, _, World.drewN_drewN _ _ _⟩ | exact ⟨rfl, _, Eq.trans (World.drewN_drewN _ _ _) (congrArg (World.drewN _) (Nat.add_assoc _ _ _))⟩); obtain ⟨Ao46, co46, eo46⟩ := Kd.R_slice HO252.out; subst eo46)))
                            go_meet
                            case rel => exact ⟨_, (true), tq, H', ⟨by first | omega | exact Nat.le_refl _⟩, ⟨by (with_reducible repeat (first | apply Kd.R_alloc | apply Kd.R_drewN | apply Kd.R_drew)); exact Kd.R_mono HO237.out (fun _ hk => ⟨hk.1.1.1.1.2, ⟨hk.1.1.2, ⟨hk.1.2, hk.2⟩⟩⟩)⟩, ⟨by (with_reducible repeat (first | apply Kd.R_alloc | apply Kd.R_drewN | apply Kd.R_drew)); exact Kd.R_mono HO242.out (fun _ hk => ⟨hk.1.1.1.1.2, ⟨hk.1.1.2, ⟨hk.1.2, hk.2⟩⟩⟩)⟩, ⟨by (with_reducible repeat (first | apply Kd.R_alloc | apply Kd.R_drewN | apply Kd.R_drew)); exact Kd.R_mono HO252.out (fun _ hk => ⟨hk.1.1.1.1.2, ⟨hk.1.1.1.2, ⟨hk.1.2, hk.2⟩⟩⟩)⟩, ⟨by (with_reducible repeat (first | apply Kd.R_alloc | apply Kd.R_drewN | apply Kd.R_drew)); exact Kd.R_mono HO256.out (fun _ hk => ⟨hk.1.1.1.1.2, ⟨hk.1.1.1.2, ⟨hk.1.2, hk.2⟩⟩⟩)⟩, ⟨by (with_reducible repeat (first | apply Kd.R_alloc | apply Kd.R_drewN | apply Kd.R_drew)); exact Kd.R_mono HO260.out (fun _ hk => ⟨hk.1.1.1.1.2, ⟨hk.1.1.1.2, ⟨hk.1.2, hk.2⟩⟩⟩)⟩, ⟨by repeat (first | (with_reducible first | exact HB.out | apply below_alloc | apply pw_below_drewN | apply below_drew1) | exact HB.out)⟩⟩
                        · rw [if_neg c36] at H
                          have c36b0 : (t254 == 0) = false := beq_eq_false_iff_ne.mpr c36
                          have c36b1 : (t254 != 0) = true := bne_iff_ne.mpr c36
                          have H' := Aside0.mk H
                          clear H
                          obtain ⟨Ao47, co47, eo47⟩ := Kd.R_slice HO246.out
                          subst eo47
                          go_wp2_with (first | (go_at_call 11; (with_reducible refine (laws_r8Same.calls k _ _ t243 _ _ t235 true _ ?side1 ?side2 ?side3 ?side4 A26.out).mono ?_); (case side1 => exact tC (Kd.R_reads' HO246.out).2.2); (case side2 => exact (Kd.R_reads' HO246.out).2.1); (case side3 => exact tC (Kd.R_reads' HO237.out).2.2); (case side4 => exact (Kd.R_reads' HO237.out).2.1); rintro e w' ⟨rfl, ⟨nd, rfl⟩⟩; (try first | exact ⟨rfl, _, World.drewN_drewN _ _ _⟩ | exact ⟨rfl, _, Eq.trans (World.drewN_drewN _ _ _) (congrArg (World.drewN _) (Nat.add_assoc _ _ _))⟩)) | (go_at_call 12; (with_reducible refine (spec_ValidScale.calls k _ _ t239 true _ ?side1 ?side2 A28.out).mono ?_); (case side1 => exact tC (Kd.R_reads' HO242.out).2.2); (case side2 => exact (Kd.R_reads' HO242.out).2.1); rintro e w' ⟨rfl, ⟨nd, rfl⟩⟩; (try first | exact ⟨rfl, _, World.drewN_drewN _ _ _⟩ | exact ⟨rfl, _, Eq.trans (World.drewN_drewN _ _ _) (congrArg (World.drewN _) (Nat.add_assoc _ _ _))⟩)))
                          repeat (go_quiet (first | (go_at_call 11; (with_reducible refine (laws_r8Same.calls k _ _ t243 _ _ t235 true _ ?side1 ?side2 ?side3 ?side4 A26.out).mono ?_); (case side1 => exact tC (Kd.R_reads' HO246.out).2.2); (case side2 => exact (Kd.R_reads' HO246.out).2.1); (case side3 => exact tC (Kd.R_reads' HO237.out).2.2); (case side4 => exact (Kd.R_reads' HO237.out).2.1); rintro e w' ⟨rfl, ⟨nd, rfl⟩⟩; (try first | exact ⟨rfl, _, World.drewN_drewN _ _ _⟩ | exact ⟨rfl, _, Eq.trans (World.drewN_drewN _ _ _) (congrArg (World.drewN _) (Nat.add_assoc _ _ _))⟩)) | (go_at_call 12; (with_reducible refine (spec_ValidScale.calls k _ _ t239 true _ ?side1 ?side2 A28.out).mono ?_); (case side1 => exact tC (Kd.R_reads' HO242.out).2.2); (case side2 => exact (Kd.R_reads' HO242.out).2.1); rintro e w' ⟨rfl, ⟨nd, rfl⟩⟩; (try first | exact ⟨rfl, _, World.drewN_drewN _ _ _⟩ | exact ⟨rfl, _, Eq.trans (World.drewN_drewN _ _ _) (congrArg (World.drewN _) (Nat.add_assoc _ _ _))⟩))); try go_wp2_with (first | (go_at_call 11; (with_reducible refine (laws_r8Same.calls k _ _ t243 _ _ t235 true _ ?side1 ?side2 ?side3 ?side4 A26.out).mono ?_); (case side1 => exact tC (Kd.R_reads' HO246.out).2.2); (case side2 => exact (Kd.R_reads' HO246.out).2.1); (case side3 => exact tC (Kd.R_reads' HO237.out).2.2); (case side4 => exact (Kd.R_reads' HO237.out).2.1); rintro e w' ⟨rfl, ⟨nd, rfl⟩⟩; (try first | exact ⟨rfl, _, World.drewN_drewN _ _ _⟩ | exact ⟨rfl, _, Eq.trans (World.drewN_drewN _ _ _) (congrArg (World.drewN _) (Nat.add_assoc _ _ _))⟩)) | (go_at_call 12; (with_reducible refine (spec_ValidScale.calls k _ _ t239 true _ ?side1 ?side2 A28.out).mono ?_); (case side1 => exact tC (Kd.R_reads' HO242.out).2.2); (case side2 => exact (Kd.R_reads' HO242.out).2.1); rintro e w' ⟨rfl, ⟨nd, rfl⟩⟩; (try first | exact ⟨rfl, _, World.drewN_drewN _ _ _⟩ | exact ⟨rfl, _, Eq.trans (World.drewN_drewN _ _ _) (congrArg (World.drewN _) (Nat.add_assoc _ _ _))⟩))))
                          go_meet
                          case rel => exact ⟨_, (true), tq, H', ⟨by first | omega | exact Nat.le_refl _⟩, ⟨by (with_reducible repeat (first | apply Kd.R_alloc | apply Kd.R_drewN | apply Kd.R_drew)); exact Kd.R_mono HO237.out (fun _ hk => ⟨hk.1.1.1.1.2, ⟨hk.1.1.2, ⟨hk.1.2, hk.2⟩⟩⟩)⟩, ⟨by (with_reducible repeat (first | apply Kd.R_alloc | apply Kd.R_drewN | apply Kd.R_drew)); exact Kd.R_mono HO242.out (fun _ hk => ⟨hk.1.1.1.1.2, ⟨hk.1.1.2, ⟨hk.1.2, hk.2⟩⟩⟩)⟩, ⟨by (with_reducible repeat (first | apply Kd.R_alloc | apply Kd.R_drewN | apply Kd.R_drew)); exact Kd.R_mono HO252.out (fun _ hk => ⟨hk.1.1.1.1.2, ⟨hk.1.1.1.2, ⟨hk.1.2, hk.2⟩⟩⟩)⟩, ⟨by (with_reducible repeat (first | apply Kd.R_alloc | apply Kd.R_drewN | apply Kd.R_drew)); exact Kd.R_mono HO256.out (fun _ hk => ⟨hk.1.1.1.1.2, ⟨hk.1.1.1.2, ⟨hk.1.2, hk.2⟩⟩⟩)⟩, ⟨by (with_reducible repeat (first | apply Kd.R_alloc | apply Kd.R_drewN | apply Kd.R_drew)); exact Kd.R_mono HO260.out (fun _ hk => ⟨hk.1.1.1.1.2, ⟨hk.1.1.1.2, ⟨hk.1.2, hk.2⟩⟩⟩)⟩, ⟨by repeat (first | (with_reducible first | exact HB.out | apply below_alloc | apply pw_below_drewN | apply below_drew1) | exact HB.out)⟩⟩
                      · rw [if_neg c35] at H
                        have c35b0 : (t250 == 0) = false := beq_eq_false_iff_ne.mpr c35
                        have c35b1 : (t250 != 0) = true := bne_iff_ne.mpr c35
                        have H' := Aside0.mk H
                        clear H
                        obtain ⟨Ao48, co48, eo48⟩ := Kd.R_slice HO246.out
                        subst eo48
                        go_wp2_with (first | (go_at_call 11; (with_reducible refine (laws_r8Same.calls k _ _ t243 _ _ t235 true _ ?side1 ?side2 ?side3 ?side4 A26.out).mono ?_); (case side1 => exact tC (Kd.R_reads' HO246.out).2.2); (case side2 => exact (Kd.R_reads' HO246.out).2.1); (case side3 => exact tC (Kd.R_reads' HO237.out).2.2); (case side4 => exact (Kd.R_reads' HO237.out).2.1); rintro e w' ⟨rfl, ⟨nd, rfl⟩⟩; (try first | exact ⟨rfl, _, World.drewN_drewN _ _ _⟩ | exact ⟨rfl, _, Eq.trans (World.drewN_drewN _ _ _) (congrArg (World.drewN _) (Nat.add_assoc _ _ _))⟩)) | (go_at_call 12; (with_reducible refine (spec_ValidScale.calls k _ _ t239 true _ ?side1 ?side2 A28.out).mono ?_); (case side1 => exact tC (Kd.R_reads' HO242.out).2.2); (case side2 => exact (Kd.R_reads' HO242.out).2.1); rintro e w' ⟨rfl, ⟨nd, rfl⟩⟩; (try first | exact ⟨rfl, _, World.drewN_drewN _ _ _⟩ | exact ⟨rfl, _, Eq.trans (World.drewN_drewN _ _ _) (congrArg (World.drewN _) (Nat.add_assoc _ _ _))⟩)))
                        repeat (go_quiet (first | (go_at_call 11; (with_reducible refine (laws_r8Same.calls k _ _ t243 _ _ t235 true _ ?side1 ?side2 ?side3 ?side4 A26.out).mono ?_); (case side1 => exact tC (Kd.R_reads' HO246.out).2.2); (case side2 => exact (Kd.R_reads' HO246.out).2.1); (case side3 => exact tC (Kd.R_reads' HO237.out).2.2); (case side4 => exact (Kd.R_reads' HO237.out).2.1); rintro e w' ⟨rfl, ⟨nd, rfl⟩⟩; (try first | exact ⟨rfl, _, World.drewN_drewN _ _ _⟩ | exact ⟨rfl, _, Eq.trans (World.drewN_drewN _ _ _) (congrArg (World.drewN _) (Nat.add_assoc _ _ _))⟩)) | (go_at_call 12; (with_reducible refine (spec_ValidScale.calls k _ _ t239 true _ ?side1 ?side2 A28.out).mono ?_); (case side1 => exact tC (Kd.R_reads' HO242.out).2.2); (case side2 => exact (Kd.R_reads' HO242.out).2.1); rintro e w' ⟨rfl, ⟨nd, rfl⟩⟩; (try first | exact ⟨rfl, _, World.drewN_drewN _ _ _⟩ | exact ⟨rfl, _, Eq.trans (World.drewN_drewN _ _ _) (congrArg (World.drewN _) (Nat.add_assoc _ _ _))⟩))); try go_wp2_with (first | (go_at_call 11; (with_reducible refine (laws_r8Same.calls k _ _ t243 _ _ t235 true _ ?side1 ?side2 ?side3 ?side4 A26.out).mono ?_); (case side1 => exact tC (Kd.R_reads' HO246.out).2.2); (case side2 => exact (Kd.R_reads' HO246.out).2.1); (case side3 => exact tC (Kd.R_reads' HO237.out).2.2); (case side4 => exact (Kd.R_reads' HO237.out).2.1); rintro e w' ⟨rfl, ⟨nd, rfl⟩⟩; (try first | exact ⟨rfl, _, World.drewN_drewN _ _ _⟩ | exact ⟨rfl, _, Eq.trans (World.drewN_drewN _ _ _) (congrArg (World.drewN _) (Nat.add_assoc _ _ _))⟩)) | (go_at_call 12; (with_reducible refine (spec_ValidScale.calls k _ _ t239 true _ ?side1 ?side2 A28.out).mono ?_); (case side1 => exact tC (Kd.R_reads' HO242.out).2.2); (case side2 => exact (Kd.R_reads' HO242.out).2.1); rintro e w' ⟨rfl, ⟨nd, rfl⟩⟩; (try first | exact ⟨rfl, _, World.drewN_drewN _ _ _⟩ | exact ⟨rfl, _, Eq.trans (World.drewN_drewN _ _ _) (congrArg (World.drewN _) (Nat.add_assoc _ _ _))⟩))))
                        go_meet
                        case rel => exact ⟨_, (true), tq, H', ⟨by first | omega | exact Nat.le_refl _⟩, ⟨by (with_reducible repeat (first | apply Kd.R_alloc | apply Kd.R_drewN | apply Kd.R_drew)); exact Kd.R_mono HO237.out (fun _ hk => ⟨hk.1.1.1.1.2, ⟨hk.1.1.2, ⟨hk.1.2, hk.2⟩⟩⟩)⟩, ⟨by (with_reducible repeat (first | apply Kd.R_alloc | apply Kd.R_drewN | apply Kd.R_drew)); exact Kd.R_mono HO242.out (fun _ hk => ⟨hk.1.1.1.1.2, ⟨hk.1.1.2, ⟨hk.1.2, hk.2⟩⟩⟩)⟩, ⟨by (with_reducible repeat (first | apply Kd.R_alloc | apply Kd.R_drewN | apply Kd.R_drew)); exact Kd.R_mono HO252.out (fun _ hk => ⟨hk.1.1.1.1.2, ⟨hk.1.1.1.2, ⟨hk.1.2, hk.2⟩⟩⟩)⟩, ⟨by (with_reducible repeat (first | apply Kd.R_alloc | apply Kd.R_drewN | apply Kd.R_drew)); exact Kd.R_mono HO256.out (fun _ hk => ⟨hk.1.1.1.1.2, ⟨hk.1.1.1.2, ⟨hk.1.2, hk.2⟩⟩⟩)⟩, ⟨by (with_reducible repeat (first | apply Kd.R_alloc | apply Kd.R_drewN | apply Kd.R_drew)); exact Kd.R_mono HO260.out (fun _ hk => ⟨hk.1.1.1.1.2, ⟨hk.1.1.1.2, ⟨hk.1.2, hk.2⟩⟩⟩)⟩, ⟨by repeat (first | (with_reducible first | exact HB.out | apply below_alloc | apply pw_below_drewN | apply below_drew1) | exact HB.out)⟩⟩
                · rw [if_neg c30] at H
                  have c30b0 : (t248 == 0) = false := beq_eq_false_iff_ne.mpr c30
                  have c30b1 : (t248 != 0) = true := bne_iff_ne.mpr c30
                  have H' := Aside0.mk H
                  clear H
                  obtain ⟨Ao49, co49, eo49⟩ := Kd.R_slice HO246.out
                  subst eo49
                  go_wp2_with (first | (go_at_call 11; (with_reducible refine (laws_r8Same.calls k _ _ t243 _ _ t235 true _ ?side1 ?side2 ?side3 ?side4 A26.out).mono ?_); (case side1 => exact tC (Kd.R_reads' HO246.out).2.2); (case side2 => exact (Kd.R_reads' HO246.out).2.1); (case side3 => exact tC (Kd.R_reads' HO237.out).2.2); (case side4 => exact (Kd.R_reads' HO237.out).2.1); rintro e w' ⟨rfl, ⟨nd, rfl⟩⟩; (try first | exact ⟨rfl, _, World.drewN_drewN _ _ _⟩ | exact ⟨rfl, _, Eq.trans (World.drewN_drewN _ _ _) (congrArg (World.drewN _) (Nat.add_assoc _ _ _))⟩)) | (go_at_call 12; (with_reducible refine (spec_ValidScale.calls k _ _ t239 true _ ?side1 ?side2 A28.out).mono ?_); (case side1 => exact tC (Kd.R_reads' HO242.out).2.2); (case side2 => exact (Kd.R_reads' HO242.out).2.1); rintro e w' ⟨rfl, ⟨nd, rfl⟩⟩; (try first | exact ⟨rfl, _, World.drewN_drewN _ _ _⟩ | exact ⟨rfl, _, Eq.trans (World.drewN_drewN _ _ _) (congrArg (World.drewN _) (Nat.add_assoc _ _ _))⟩)))
                  repeat (go_quiet (first | (go_at_call 11; (with_reducible refine (laws_r8Same.calls k _ _ t243 _ _ t235 true _ ?side1 ?side2 ?side3 ?side4 A26.out).mono ?_); (case side1 => exact tC (Kd.R_reads' HO246.out).2.2); (case side2 => exact (Kd.R_reads' HO246.out).2.1); (case side3 => exact tC (Kd.R_reads' HO237.out).2.2); (case side4 => exact (Kd.R_reads' HO237.out).2.1); rintro e w' ⟨rfl, ⟨nd, rfl⟩⟩; (try first | exact ⟨rfl, _, World.drewN_drewN _ _ _⟩ | exact ⟨rfl, _, Eq.trans (World.drewN_drewN _ _ _) (congrArg (World.drewN _) (Nat.add_assoc _ _ _))⟩)) | (go_at_call 12; (with_reducible refine (spec_ValidScale.calls k _ _ t239 true _ ?side1 ?side2 A28.out).mono ?_); (case side1 => exact tC (Kd.R_reads' HO242.out).2.2); (case side2 => exact (Kd.R_reads' HO242.out).2.1); rintro e w' ⟨rfl, ⟨nd, rfl⟩⟩; (try first | exact ⟨rfl, _, World.drewN_drewN _ _ _⟩ | exact ⟨rfl, _, Eq.trans (World.drewN_drewN _ _ _) (congrArg (World.drewN _) (Nat.add_assoc _ _ _))⟩))); try go_wp2_with (first | (go_at_call 11; (with_reducible refine (laws_r8Same.calls k _ _ t243 _ _ t235 true _ ?side1 ?side2 ?side3 ?side4 A26.out).mono ?_); (case side1 => exact tC (Kd.R_reads' HO246.out).2.2); (case side2 => exact (Kd.R_reads' HO246.out).2.1); (case side3 => exact tC (Kd.R_reads' HO237.out).2.2); (case side4 => exact (Kd.R_reads' HO237.out).2.1); rintro e w' ⟨rfl, ⟨nd, rfl⟩⟩; (try first | exact ⟨rfl, _, World.drewN_drewN _ _ _⟩ | exact ⟨rfl, _, Eq.trans (World.drewN_drewN _ _ _) (congrArg (World.drewN _) (Nat.add_assoc _ _ _))⟩)) | (go_at_call 12; (with_reducible refine (spec_ValidScale.calls k _ _ t239 true _ ?side1 ?side2 A28.out).mono ?_); (case side1 => exact tC (Kd.R_reads' HO242.out).2.2); (case side2 => exact (Kd.R_reads' HO242.out).2.1); rintro e w' ⟨rfl, ⟨nd, rfl⟩⟩; (try first | exact ⟨rfl, _, World.drewN_drewN _ _ _⟩ | exact ⟨rfl, _, Eq.trans (World.drewN_drewN _ _ _) (congrArg (World.drewN _) (Nat.add_assoc _ _ _))⟩))))
                  go_meet
                  case rel => exact ⟨_, (true), tq, H', ⟨by first | omega | exact Nat.le_refl _⟩, ⟨by (with_reducible repeat (first | apply Kd.R_alloc | apply Kd.R_drewN | apply Kd.R_drew)); exact Kd.R_mono HO237.out (fun _ hk => ⟨hk.1.1.1.1.2, ⟨hk.1.1.2, ⟨hk.1.2, hk.2⟩⟩⟩)⟩, ⟨by (with_reducible repeat (first | apply Kd.R_alloc | apply Kd.R_drewN | apply Kd.R_drew)); exact Kd.R_mono HO242.out (fun _ hk => ⟨hk.1.1.1.1.2, ⟨hk.1.1.2, ⟨hk.1.2, hk.2⟩⟩⟩)⟩, ⟨by (with_reducible repeat (first | apply Kd.R_alloc | apply Kd.R_drewN | apply Kd.R_drew)); exact Kd.R_mono HO252.out (fun _ hk => ⟨hk.1.1.1.1.2, ⟨hk.1.1.1.2, ⟨hk.1.2, hk.2⟩⟩⟩)⟩, ⟨by (with_reducible repeat (first | apply Kd.R_alloc | apply Kd.R_drewN | apply Kd.R_drew)); exact Kd.R_mono HO256.out (fun _ hk => ⟨hk.1.1.1.1.2, ⟨hk.1.1.1.2, ⟨hk.1.2, hk.2⟩⟩⟩)⟩, ⟨by (with_reducible repeat (first | apply Kd.R_alloc | apply Kd.R_drewN | apply Kd.R_drew)); exact Kd.R_mono HO260.out (fun _ hk => ⟨hk.1.1.1.1.2, ⟨hk.1.1.1.2, ⟨hk.1.2, hk.2⟩⟩⟩)⟩, ⟨by repeat (first | (with_reducible first | exact HB.out | apply below_alloc | apply pw_below_drewN | apply below_drew1) | exact HB.out)⟩⟩
              · replace c29 := Bool.eq_false_iff.mpr c29
                subst c29
                have H1 : (laws_FnRotations.j0 k t235 (t235.length : Int) t238 t239 t247 t249 t253 t257 true) = some r := by rw [if_neg (show ¬ (false = true) by decide)] at H; exact H
                clear H
                have H := H1
                clear H1
                have H' := Aside0.mk H
                clear H
                obtain ⟨Ao50, co50, eo50⟩ := Kd.R_slice HO246.out
                subst eo50
                go_wp2_with (first | (go_at_call 11; (with_reducible refine (laws_r8Same.calls k _ _ t243 _ _ t235 true _ ?side1 ?side2 ?side3 ?side4 A26.out).mono ?_); (case side1 => exact tC (Kd.R_reads' HO246.out).2.2); (case side2 => exact (Kd.R_reads' HO246.out).2.1); (case side3 => exact tC (Kd.R_reads' HO237.out).2.2); (case side4 => exact (Kd.R_reads' HO237.out).2.1); rintro e w' ⟨rfl, ⟨nd, rfl⟩⟩; (try first | exact ⟨rfl, _, World.drewN_drewN _ _ _⟩ | exact ⟨rfl, _, Eq.trans (World.drewN_drewN _ _ _) (congrArg (World.drewN _) (Nat.add_assoc _ _ _))⟩)) | (go_at_call 12; (with_reducible refine (spec_ValidScale.calls k _ _ t239 false _ ?side1 ?side2 A28.out).mono ?_); (case side1 => exact tC (Kd.R_reads' HO242.out).2.2); (case side2 => exact (Kd.R_reads' HO242.out).2.1); rintro e w' ⟨rfl, ⟨nd, rfl⟩⟩; (try first | exact ⟨rfl, _, World.drewN_drewN _ _ _⟩ | exact ⟨rfl, _, Eq.trans (World.drewN_drewN _ _ _) (congrArg (World.drewN _) (Nat.add_assoc _ _ _))⟩)))
                repeat (go_quiet (first | (go_at_call 11; (with_reducible refine (laws_r8Same.calls k _ _ t243 _ _ t235 true _ ?side1 ?side2 ?side3 ?side4 A26.out).mono ?_); (case side1 => exact tC (Kd.R_reads' HO246.out).2.2); (case side2 => exact (Kd.R_reads' HO246.out).2.1); (case side3 => exact tC (Kd.R_reads' HO237.out).2.2); (case side4 => exact (Kd.R_reads' HO237.out).2.1); rintro e w' ⟨rfl, ⟨nd, rfl⟩⟩; (try first | exact ⟨rfl, _, World.drewN_drewN _ _ _⟩ | exact ⟨rfl, _, Eq.trans (World.drewN_drewN _ _ _) (congrArg (World.drewN _) (Nat.add_assoc _ _ _))⟩)) | (go_at_call 12; (with_reducible refine (spec_ValidScale.calls k _ _ t239 false _ ?side1 ?side2 A28.out).mono ?_); (case side1 => exact tC (Kd.R_reads' HO242.out).2.2); (case side2 => exact (Kd.R_reads' HO242.out).2.1); rintro e w' ⟨rfl, ⟨nd, rfl⟩⟩; (try first | exact ⟨rfl, _, World.drewN_drewN _ _ _⟩ | exact ⟨rfl, _, Eq.trans (World.drewN_drewN _ _ _) (congrArg (World.drewN _) (Nat.add_assoc _ _ _))⟩))); try go_wp2_with (first | (go_at_call 11; (with_reducible refine (laws_r8Same.calls k _ _ t243 _ _ t235 true _ ?side1 ?side2 ?side3 ?side4 A26.out).mono ?_); (case side1 => exact tC (Kd.R_reads' HO246.out).2.2); (case side2 => exact (Kd.R_reads' HO246.out).2.1); (case side3 => exact tC (Kd.R_reads' HO237.out).2.2); (case side4 => exact (Kd.R_reads' HO237.out).2.1); rintro e w' ⟨rfl, ⟨nd, rfl⟩⟩; (try first | exact ⟨rfl, _, World.drewN_drewN _ _ _⟩ | exact ⟨rfl, _, Eq.trans (World.drewN_drewN _ _ _) (congrArg (World.drewN _) (Nat.add_assoc _ _ _))⟩)) | (go_at_call 12; (with_reducible refine (spec_ValidScale.calls k _ _ t239 false _ ?side1 ?side2 A28.out).mono ?_); (case side1 => exact tC (Kd.R_reads' HO242.out).2.2); (case side2 => exact (Kd.R_reads' HO242.out).2.1); rintro e w' ⟨rfl, ⟨nd, rfl⟩⟩; (try first | exact ⟨rfl, _, World.drewN_drewN _ _ _⟩ | exact ⟨rfl, _, Eq.trans (World.drewN_drewN _ _ _) (congrArg (World.drewN _) (Nat.add_assoc _ _ _))⟩))))
                go_meet
                case rel => exact ⟨_, (true), tq, H', ⟨by first | omega | exact Nat.le_refl _⟩, ⟨by (with_reducible repeat (first | apply Kd.R_alloc | apply Kd.R_drewN | apply Kd.R_drew)); exact Kd.R_mono HO237.out (fun _ hk => ⟨hk.1.1.1.1.2, ⟨hk.1.1.2, ⟨hk.1.2, hk.2⟩⟩⟩)⟩, ⟨by (with_reducible repeat (first | apply Kd.R_alloc | apply Kd.R_drewN | apply Kd.R_drew)); exact Kd.R_mono HO242.out (fun _ hk => ⟨hk.1.1.1.1.2, ⟨hk.1.1.2, ⟨hk.1.2, hk.2⟩⟩⟩)⟩, ⟨by (with_reducible repeat (first | apply Kd.R_alloc | apply Kd.R_drewN | apply Kd.R_drew)); exact Kd.R_mono HO252.out (fun _ hk => ⟨hk.1.1.1.1.2, ⟨hk.1.1.1.2, ⟨hk.1.2, hk.2⟩⟩⟩)⟩, ⟨by (with_reducible repeat (first | apply Kd.R_alloc | apply Kd.R_drewN | apply Kd.R_drew)); exact Kd.R_mono HO256.out (fun _ hk => ⟨hk.1.1.1.1.2, ⟨hk.1.1.1.2, ⟨hk.1.2, hk.2⟩⟩⟩)⟩, ⟨by (with_reducible repeat (first | apply Kd.R_alloc | apply Kd.R_drewN | apply Kd.R_drew)); exact Kd.R_mono HO260.out (fun _ hk => ⟨hk.1.1.1.1.2, ⟨hk.1.1.1.2, ⟨hk.1.2, hk.2⟩⟩⟩)⟩, ⟨by repeat (first | (with_reducible first | exact HB.out | apply below_alloc | apply pw_below_drewN | apply below_drew1) | exact HB.out)⟩⟩
            · replace c27 := Bool.eq_false_iff.mpr c27
              subst c27
              have H1 : (laws_FnRotations.j0 k t235 (t235.length : Int) t238 t239 t247 t249 t253 t257 true) = some r := by rw [if_neg (show ¬ (false = true) by decide)] at H; exact H
              clear H
              have H := H1
              clear H1
              have H' := Aside0.mk H
              clear H
              obtain ⟨Ao51, co51, eo51⟩ := Kd.R_slice HO246.out
              subst eo51
              go_wp2_with (first | (go_at_call 11; (with_reducible refine (laws_r8Same.calls k _ _ t243 _ _ t235 false _ ?side1 ?side2 ?side3 ?side4 A26.out).mono ?_); (case side1 => exact tC (Kd.R_reads' HO246.out).2.2); (case side2 => exact (Kd.R_reads' HO246.out).2.1); (case side3 => exact tC (Kd.R_reads' HO237.out).2.2); (case side4 => exact (Kd.R_reads' HO237.out).2.1); rintro e w' ⟨rfl, ⟨nd, rfl⟩⟩; (try first | exact ⟨rfl, _, World.drewN_drewN _ _ _⟩ | exact ⟨rfl, _, Eq.trans (World.drewN_drewN _ _ _) (congrArg (World.drewN _) (Nat.add_assoc _ _ _))⟩)))
              repeat (go_quiet (first | (go_at_call 11; (with_reducible refine (laws_r8Same.calls k _ _ t243 _ _ t235 false _ ?side1 ?side2 ?side3 ?side4 A26.out).mono ?_); (case side1 => exact tC (Kd.R_reads' HO246.out).2.2); (case side2 => exact (Kd.R_reads' HO246.out).2.1); (case side3 => exact tC (Kd.R_reads' HO237.out).2.2); (case side4 => exact (Kd.R_reads' HO237.out).2.1); rintro e w' ⟨rfl, ⟨nd, rfl⟩⟩; (try first | exact ⟨rfl, _, World.drewN_drewN _ _ _⟩ | exact ⟨rfl, _, Eq.trans (World.drewN_drewN _ _ _) (congrArg (World.drewN _) (Nat.add_assoc _ _ _))⟩))); try go_wp2_with (first | (go_at_call 11; (with_reducible refine (laws_r8Same.calls k _ _ t243 _ _ t235 false _ ?side1 ?side2 ?side3 ?side4 A26.out).mono ?_); (case side1 => exact tC (Kd.R_reads' HO246.out).2.2); (case side2 => exact (Kd.R_reads' HO246.out).2.1); (case side3 => exact tC (Kd.R_reads' HO237.out).2.2); (case side4 => exact (Kd.R_reads' HO237.out).2.1); rintro e w' ⟨rfl, ⟨nd, rfl⟩⟩; (try first | exact ⟨rfl, _, World.drewN_drewN _ _ _⟩ | exact ⟨rfl, _, Eq.trans (World.drewN_drewN _ _ _) (congrArg (World.drewN _) (Nat.add_assoc _ _ _))⟩))))
              go_meet
              case rel => exact ⟨_, (true), tq, H', ⟨by first | omega | exact Nat.le_refl _⟩, ⟨by (with_reducible repeat (first | apply Kd.R_alloc | apply Kd.R_drewN | apply Kd.R_drew)); exact Kd.R_mono HO237.out (fun _ hk => ⟨hk.1.1.1.1.2, ⟨hk.1.1.2, ⟨hk.1.2, hk.2⟩⟩⟩)⟩, ⟨by (with_reducible repeat (first | apply Kd.R_alloc | apply Kd.R_drewN | apply Kd.R_drew)); exact Kd.R_mono HO242.out (fun _ hk => ⟨hk.1.1.1.1.2, ⟨hk.1.1.2, ⟨hk.1.2, hk.2⟩⟩⟩)⟩, ⟨by (with_reducible repeat (first | apply Kd.R_alloc | apply Kd.R_drewN | apply Kd.R_drew)); exact Kd.R_mono HO252.out (fun _ hk => ⟨hk.1.1.1.1.2, ⟨hk.1.1.1.2, ⟨hk.1.2, hk.2⟩⟩⟩)⟩, ⟨by (with_reducible repeat (first | apply Kd.R_alloc | apply Kd.R_drewN | apply Kd.R_drew)); exact Kd.R_mono HO256.out (fun _ hk => ⟨hk.1.1.1.1.2, ⟨hk.1.1.1.2, ⟨hk.1.2, hk.2⟩⟩⟩)⟩, ⟨by (with_reducible repeat (first | apply Kd.R_alloc | apply Kd.R_drewN | apply Kd.R_drew)); exact Kd.R_mono HO260.out (fun _ hk => ⟨hk.1.1.1.1.2, ⟨hk.1.1.1.2, ⟨hk.1.2, hk.2⟩⟩⟩)⟩, ⟨by repeat (first | (with_reducible first | exact HB.out | apply below_alloc | apply pw_below_drewN | apply below_drew1) | exact HB.out)⟩⟩
          · rw [if_neg c25] at H
            have c25b0 : (t244 == 0) = false := beq_eq_false_iff_ne.mpr c25
            have c25b1 : (t244 != 0) = true := bne_iff_ne.mpr c25
            have H' := Aside0.mk H
            clear H
            go_wp2
            repeat (go_quiet (fail); try go_wp2)
            go_meet
            case rel => exact ⟨_, (true), tq, H', ⟨by first | omega | exact Nat.le_refl _⟩, ⟨by (with_reducible repeat (first | apply Kd.R_alloc | apply Kd.R_drewN | apply Kd.R_drew)); exact Kd.R_mono HO237.out (fun _ hk => ⟨hk.1.1.1.1.2, ⟨hk.1.1.2, ⟨hk.1.2, hk.2⟩⟩⟩)⟩, ⟨by (with_reducible repeat (first | apply Kd.R_alloc | apply Kd.R_drewN | apply Kd.R_drew)); exact Kd.R_mono HO242.out (fun _ hk => ⟨hk.1.1.1.1.2, ⟨hk.1.1.2, ⟨hk.1.2, hk.2⟩⟩⟩)⟩, ⟨by (with_reducible repeat (first | apply Kd.R_alloc | apply Kd.R_drewN | apply Kd.R_drew)); exact Kd.R_mono HO252.out (fun _ hk => ⟨hk.1.1.1.1.2, ⟨hk.1.1.1.2, ⟨hk.1.2, hk.2⟩⟩⟩)⟩, ⟨by (with_reducible repeat (first | apply Kd.R_alloc | apply Kd.R_drewN | apply Kd.R_drew)); exact Kd.R_mono HO256.out (fun _ hk => ⟨hk.1.1.1.1.2, ⟨hk.1.1.1.2, ⟨hk.1.2, hk.2⟩⟩⟩)⟩, ⟨by (with_reducible repeat (first | apply Kd.R_alloc | apply Kd.R_drewN | apply Kd.R_drew)); exact Kd.R_mono HO260.out (fun _ hk => ⟨hk.1.1.1.1.2, ⟨hk.1.1.1.2, ⟨hk.1.2, hk.2⟩⟩⟩)⟩, ⟨by repeat (first | (with_reducible first | exact HB.out | apply below_alloc | apply pw_below_drewN | apply below_drew1) | exact HB.out)⟩⟩
        · rw [if_neg c24] at H
          have c24b0 : (t240 == 0) = false := beq_eq_false_iff_ne.mpr c24
          have c24b1 : (t240 != 0) = true := bne_iff_ne.mpr c24
          (first | rw [c24b0] | (simp only [i64_w, i32_w]; rw [c24b0]) | skip)
          have H' := Aside0.mk H
          clear H
          go_wp2
          repeat (go_quiet (fail); try go_wp2)
          go_meet
          case rel => exact ⟨_, (true), tq, H', ⟨by first | omega | exact Nat.le_refl _⟩, ⟨by (with_reducible repeat (first | apply Kd.R_alloc | apply Kd.R_drewN | apply Kd.R_drew)); exact Kd.R_mono HO237.out (fun _ hk => ⟨hk.1.1.1.1.2, ⟨hk.1.1.2, ⟨hk.1.2, hk.2⟩⟩⟩)⟩, ⟨by (with_reducible repeat (first | apply Kd.R_alloc | apply Kd.R_drewN | apply Kd.R_drew)); exact Kd.R_mono HO242.out (fun _ hk => ⟨hk.1.1.1.1.2, ⟨hk.1.1.2, ⟨hk.1.2, hk.2⟩⟩⟩)⟩, ⟨by (with_reducible repeat (first | apply Kd.R_alloc | apply Kd.R_drewN | apply Kd.R_drew)); exact Kd.R_mono HO252.out (fun _ hk => ⟨hk.1.1.1.1.2, ⟨hk.1.1.1.2, ⟨hk.1.2, hk.2⟩⟩⟩)⟩, ⟨by (with_reducible repeat (first | apply Kd.R_alloc | apply Kd.R_drewN | apply Kd.R_drew)); exact Kd.R_mono HO256.out (fun _ hk => ⟨hk.1.1.1.1.2, ⟨hk.1.1.1.2, ⟨hk.1.2, hk.2⟩⟩⟩)⟩, ⟨by (with_reducible repeat (first | apply Kd.R_alloc | apply Kd.R_drewN | apply Kd.R_drew)); exact Kd.R_mono HO260.out (fun _ hk => ⟨hk.1.1.1.1.2, ⟨hk.1.1.1.2, ⟨hk.1.2, hk.2⟩⟩⟩)⟩, ⟨by repeat (first | (with_reducible first | exact HB.out | apply below_alloc | apply pw_below_drewN | apply below_drew1) | exact HB.out)⟩⟩
      case rest =>
        clear HC14
        try clear c1
        try clear c2
        try clear p2
        try clear c3
        try clear c4
        try clear p6
        try clear c8
        try clear c8b0
        try clear c8b1
        try clear c8b2
        try clear c24
        try clear c24b0
        try clear c24b1
        try clear c25
        try clear c25b0
        try clear c25b1
        try clear c27
        try clear c29
        try clear c30
        try clear c30b0
        try clear c30b1
        try clear c31
        try clear c31b0
        try clear c33
        try clear c33b0
        try clear c35
        try clear c35b0
        try clear c35b1
        try clear c36
        try clear c36b0
        try clear c36b1
        try clear c37
        try clear c37b0
        try clear c37b1
        try clear c37b2
        try clear c38
        try clear c38b0
        try clear c38b1
        try clear c38b2
        obtain ⟨kq, x126_13, rfl, HA, HJ13, HO_5, HO_8, HO_14, HO_16, HO_18, HB⟩ := hcut
        cases kq with
        | zero => exact absurd HA.out (by simp [laws_FnRotations.j0])
        | succ kj13 =>
          have H := HA.out
          clear HA
          simp only [laws_FnRotations.j0] at H
          by_cases c52 : x126_13 = true
          · subst c52
            have H1 : (some false) = some r := by rw [if_pos rfl] at H; exact H
            clear H
            have H := H1
            clear H1
            obtain rfl := Option.some.inj H
            go_wp2
            repeat (go_quiet (fail); try go_wp2)
            go_ret
            exact ⟨tE, by repeat (first | (with_reducible first | exact HB.out | apply below_alloc | apply pw_below_drewN | apply below_drew1) | exact HB.out)⟩
          · replace c52 := Bool.eq_false_iff.mpr c52
            subst c52
            have H1 : ((spec_RotateScale.f kj13 t235 t247).bind fun bt263 => (laws_FnRotations.l0 kj13 t235 (t235.length : Int) t238 t239 t249 t253 t257 bt263.1 bt263.2 0 0)) = some r := by rw [if_neg (show ¬ (false = true) by decide)] at H; exact H
            clear H
            have H := H1
            clear H1
            replace H := Option.bind_eq_some_iff.mp H
            obtain ⟨⟨t263, t264⟩, A530, H⟩ := H
            replace H : (laws_FnRotations.l0 kj13 t235 (t235.length : Int) t238 t239 t249 t253 t257 t263 t264 0 0) = some r := H
            have A53 := Aside0.mk A530
            clear A530
            have H' := Aside0.mk H
            clear H
            go_wp2_with (first | (go_at_call 13; (with_reducible refine (spec_RotateScale.calls kj13 _ _ t235 t247 t263 t264 _ ?side1 ?side2 A53.out).mono ?_); (case side1 => exact tC (Kd.R_reads' HO_5.out).2.2); (case side2 => exact (Kd.R_reads' HO_5.out).2.1); rintro e w54 ⟨v265, rfl, ho0, hb⟩; have HO266 := Aside0.mk (Kd.R_lower (Kd.R_new' (Kd.R_new' (Kd.R_new' (Kd.R_new' (Kd.R_new' ho0 (Kd.R_lt (by (with_reducible repeat (first | apply Kd.R_alloc | apply Kd.R_drewN | apply Kd.R_drew)); exact HO_5.out))) (Kd.R_lt (by (with_reducible repeat (first | apply Kd.R_alloc | apply Kd.R_drewN | apply Kd.R_drew)); exact HO_8.out))) (Kd.R_lt (by (with_reducible repeat (first | apply Kd.R_alloc | apply Kd.R_drewN | apply Kd.R_drew)); exact HO_14.out))) (Kd.R_lt (by (with_reducible repeat (first | apply Kd.R_alloc | apply Kd.R_drewN | apply Kd.R_drew)); exact HO_16.out))) (Kd.R_lt (by (with_reducible repeat (first | apply Kd.R_alloc | apply Kd.R_drewN | apply Kd.R_drew)); exact HO_18.out))) (below_size (by repeat (first | (with_reducible first | exact HB.out | apply below_alloc | apply pw_below_drewN | apply below_drew1) | exact HB.out)))); replace HO_5 := Aside0.mk (Kd.R_elder' (by (with_reducible repeat (first | apply Kd.R_alloc | apply Kd.R_drewN | apply Kd.R_drew)); exact HO_5.out) (Kd.R_base ho0) hb); replace HO_8 := Aside0.mk (Kd.R_elder' (by (with_reducible repeat (first | apply Kd.R_alloc | apply Kd.R_drewN | apply Kd.R_drew)); exact HO_8.out) (Kd.R_base ho0) hb); replace HO_14 := Aside0.mk (Kd.R_elder' (by (with_reducible repeat (first | apply Kd.R_alloc | apply Kd.R_drewN | apply Kd.R_drew)); exact HO_14.out) (Kd.R_base ho0) hb); replace HO_16 := Aside0.mk (Kd.R_elder' (by (with_reducible repeat (first | apply Kd.R_alloc | apply Kd.R_drewN | apply Kd.R_drew)); exact HO_16.out) (Kd.R_base ho0) hb); replace HO_18 := Aside0.mk (Kd.R_elder' (by (with_reducible repeat (first | apply Kd.R_alloc | apply Kd.R_drewN | apply Kd.R_drew)); exact HO_18.out) (Kd.R_base ho0) hb); replace HB := Aside0.mk (below_step (by repeat (first | (with_reducible first | exact HB.out | apply below_alloc | apply pw_below_drewN | apply below_drew1) | exact HB.out)) hb); (try clear hb); (try clear hb2); (try clear hk); (try clear hi); (try clear ho0)))
            repeat (go_quiet (first | (go_at_call 13; (with_reducible refine (spec_RotateScale.calls kj13 _ _ t235 t247 t263 t264 _ ?side1 ?side2 A53.out).mono ?_); (case side1 => exact tC (Kd.R_reads' HO_5.out).2.2); (case side2 => exact (Kd.R_reads' HO_5.out).2.1); rintro e w54 ⟨v265, rfl, ho0, hb⟩; have HO266 := Aside0.mk (Kd.R_lower (Kd.R_new' (Kd.R_new' (Kd.R_new' (Kd.R_new' (Kd.R_new' ho0 (Kd.R_lt (by (with_reducible repeat (first | apply Kd.R_alloc | apply Kd.R_drewN | apply Kd.R_drew)); exact HO_5.out))) (Kd.R_lt (by (with_reducible repeat (first | apply Kd.R_alloc | apply Kd.R_drewN | apply Kd.R_drew)); exact HO_8.out))) (Kd.R_lt (by (with_reducible repeat (first | apply Kd.R_alloc | apply Kd.R_drewN | apply Kd.R_drew)); exact HO_14.out))) (Kd.R_lt (by (with_reducible repeat (first | apply Kd.R_alloc | apply Kd.R_drewN | apply Kd.R_drew)); exact HO_16.out))) (Kd.R_lt (by (with_reducible repeat (first | apply Kd.R_alloc | apply Kd.R_drewN | apply Kd.R_drew)); exact HO_18.out))) (below_size (by repeat (first | (with_reducible first | exact HB.out | apply below_alloc | apply pw_below_drewN | apply below_drew1) | exact HB.out)))); replace HO_5 := Aside0.mk (Kd.R_elder' (by (with_reducible repeat (first | apply Kd.R_alloc | apply Kd.R_drewN | apply Kd.R_drew)); exact HO_5.out) (Kd.R_base ho0) hb); replace HO_8 := Aside0.mk (Kd.R_elder' (by (with_reducible repeat (first | apply Kd.R_alloc | apply Kd.R_drewN | apply Kd.R_drew)); exact HO_8.out) (Kd.R_base ho0) hb); replace HO_14 := Aside0.mk (Kd.R_elder' (by (with_reducible repeat (first | apply Kd.R_alloc | apply Kd.R_drewN | apply Kd.R_drew)); exact HO_14.out) (Kd.R_base ho0) hb); replace HO_16 := Aside0.mk (Kd.R_elder' (by (with_reducible repeat (first | apply Kd.R_alloc | apply Kd.R_drewN | apply Kd.R_drew)); exact HO_16.out) (Kd.R_base ho0) hb); replace HO_18 := Aside0.mk (Kd.R_elder' (by (with_reducible repeat (first | apply Kd.R_alloc | apply Kd.R_drewN | apply Kd.R_drew)); exact HO_18.out) (Kd.R_base ho0) hb); replace HB := Aside0.mk (below_step (by repeat (first | (with_reducible first | exact HB.out | apply below_alloc | apply pw_below_drewN | apply below_drew1) | exact HB.out)) hb); (try clear hb); (try clear hb2); (try clear hk); (try clear hi); (try clear ho0))); try go_wp2_with (first | (go_at_call 13; (with_reducible refine (spec_RotateScale.calls kj13 _ _ t235 t247 t263 t264 _ ?side1 ?side2 A53.out).mono ?_); (case side1 => exact tC (Kd.R_reads' HO_5.out).2.2); (case side2 => exact (Kd.R_reads' HO_5.out).2.1); rintro e w54 ⟨v265, rfl, ho0, hb⟩; have HO266 := Aside0.mk (Kd.R_lower (Kd.R_new' (Kd.R_new' (Kd.R_new' (Kd.R_new' (Kd.R_new' ho0 (Kd.R_lt (by (with_reducible repeat (first | apply Kd.R_alloc | apply Kd.R_drewN | apply Kd.R_drew)); exact HO_5.out))) (Kd.R_lt (by (with_reducible repeat (first | apply Kd.R_alloc | apply Kd.R_drewN | apply Kd.R_drew)); exact HO_8.out))) (Kd.R_lt (by (with_reducible repeat (first | apply Kd.R_alloc | apply Kd.R_drewN | apply Kd.R_drew)); exact HO_14.out))) (Kd.R_lt (by (with_reducible repeat (first | apply Kd.R_alloc | apply Kd.R_drewN | apply Kd.R_drew)); exact HO_16.out))) (Kd.R_lt (by (with_reducible repeat (first | apply Kd.R_alloc | apply Kd.R_drewN | apply Kd.R_drew)); exact HO_18.out))) (below_size (by repeat (first | (with_reducible first | exact HB.out | apply below_alloc | apply pw_below_drewN | apply below_drew1) | exact HB.out)))); replace HO_5 := Aside0.mk (Kd.R_elder' (by (with_reducible repeat (first | apply Kd.R_alloc | apply Kd.R_drewN | apply Kd.R_drew)); exact HO_5.out) (Kd.R_base ho0) hb); replace HO_8 := Aside0.mk (Kd.R_elder' (by (with_reducible repeat (first | apply Kd.R_alloc | apply Kd.R_drewN | apply Kd.R_drew)); exact HO_8.out) (Kd.R_base ho0) hb); replace HO_14 := Aside0.mk (Kd.R_elder' (by (with_reducible repeat (first | apply Kd.R_alloc | apply Kd.R_drewN | apply Kd.R_drew)); exact HO_14.out) (Kd.R_base ho0) hb); replace HO_16 := Aside0.mk (Kd.R_elder' (by (with_reducible repeat (first | apply Kd.R_alloc | apply Kd.R_drewN | apply Kd.R_drew)); exact HO_16.out) (Kd.R_base ho0) hb); replace HO_18 := Aside0.mk (Kd.R_elder' (by (with_reducible repeat (first | apply Kd.R_alloc | apply Kd.R_drewN | apply Kd.R_drew)); exact HO_18.out) (Kd.R_base ho0) hb); replace HB := Aside0.mk (below_step (by repeat (first | (with_reducible first | exact HB.out | apply below_alloc | apply pw_below_drewN | apply below_drew1) | exact HB.out)) hb); (try clear hb); (try clear hb2); (try clear hk); (try clear hi); (try clear ho0))))
            go_loopg [22, 23] kj13 (fun kq v22 v23 w' => ∃ (x22_2 : Int) (x23_2 : Int), v22 = .int .i64 x22_2 ∧ v23 = .int .i64 x23_2 ∧ Aside0 (laws_FnRotations.l0 kq t235 (t235.length : Int) t238 t239 t249 t253 t257 t263 t264 x22_2 x23_2 = some r) ∧ Aside0 (kq ≤ kj13) ∧ Aside0 (Kd.R (Kd.int .i64) 2 w' w.heap.size (fun k_ => some k_ ≠ ((.slice Ao18 t239.length co18) : Value).ownBlock ∧ some k_ ≠ (v251 : Value).ownBlock ∧ some k_ ≠ (v255 : Value).ownBlock ∧ some k_ ≠ (v259 : Value).ownBlock ∧ some k_ ≠ (v265 : Value).ownBlock) (.slice Ao16 t235.length co16) t235) ∧ Aside0 (Kd.R (Kd.int .i64) 2 w' w.heap.size (fun k_ => some k_ ≠ ((.slice Ao16 t235.length co16) : Value).ownBlock ∧ some k_ ≠ (v251 : Value).ownBlock ∧ some k_ ≠ (v255 : Value).ownBlock ∧ some k_ ≠ (v259 : Value).ownBlock ∧ some k_ ≠ (v265 : Value).ownBlock) (.slice Ao18 t239.length co18) t239) ∧ Aside0 (Kd.R (Kd.int .i64) 2 w' w.heap.size (fun k_ => some k_ ≠ ((.slice Ao16 t235.length co16) : Value).ownBlock ∧ some k_ ≠ ((.slice Ao18 t239.length co18) : Value).ownBlock ∧ some k_ ≠ (v255 : Value).ownBlock ∧ some k_ ≠ (v259 : Value).ownBlock ∧ some k_ ≠ (v265 : Value).ownBlock) v251 t249) ∧ Aside0 (Kd.R (Kd.int .i64) 2 w' w.heap.size (fun k_ => some k_ ≠ ((.slice Ao16 t235.length co16) : Value).ownBlock ∧ some k_ ≠ ((.slice Ao18 t239.length co18) : Value).ownBlock ∧ some k_ ≠ (v251 : Value).ownBlock ∧ some k_ ≠ (v259 : Value).ownBlock ∧ some k_ ≠ (v265 : Value).ownBlock) v255 t253) ∧ Aside0 (Kd.R (Kd.int .i64) 2 w' w.heap.size (fun k_ => some k_ ≠ ((.slice Ao16 t235.length co16) : Value).ownBlock ∧ some k_ ≠ ((.slice Ao18 t239.length co18) : Value).ownBlock ∧ some k_ ≠ (v251 : Value).ownBlock ∧ some k_ ≠ (v255 : Value).ownBlock ∧ some k_ ≠ (v265 : Value).ownBlock) v259 t257) ∧ Aside0 (Kd.R (Kd.int .i64) 2 w' w.heap.size (fun k_ => some k_ ≠ ((.slice Ao16 t235.length co16) : Value).ownBlock ∧ some k_ ≠ ((.slice Ao18 t239.length co18) : Value).ownBlock ∧ some k_ ≠ (v251 : Value).ownBlock ∧ some k_ ≠ (v255 : Value).ownBlock ∧ some k_ ≠ (v259 : Value).ownBlock) v265 t263) ∧ Aside0 (Below w.heap.size w w'))
            case atStart => exact ⟨(0), (0), tq, tq, H', ⟨Nat.le_refl _⟩, ⟨by (with_reducible repeat (first | apply Kd.R_alloc | apply Kd.R_drewN | apply Kd.R_drew)); exact Kd.R_mono HO_5.out (fun _ hk => ⟨hk.1.1, ⟨hk.1.2.1, ⟨hk.1.2.2.1, ⟨hk.1.2.2.2, hk.2⟩⟩⟩⟩)⟩, ⟨by (with_reducible repeat (first | apply Kd.R_alloc | apply Kd.R_drewN | apply Kd.R_drew)); exact Kd.R_mono HO_8.out (fun _ hk => ⟨hk.1.1, ⟨hk.1.2.1, ⟨hk.1.2.2.1, ⟨hk.1.2.2.2, hk.2⟩⟩⟩⟩)⟩, ⟨by (with_reducible repeat (first | apply Kd.R_alloc | apply Kd.R_drewN | apply Kd.R_drew)); exact Kd.R_mono HO_14.out (fun _ hk => ⟨hk.1.1, ⟨hk.1.2.1, ⟨hk.1.2.2.1, ⟨hk.1.2.2.2, hk.2⟩⟩⟩⟩)⟩, ⟨by (with_reducible repeat (first | apply Kd.R_alloc | apply Kd.R_drewN | apply Kd.R_drew)); exact Kd.R_mono HO_16.out (fun _ hk => ⟨hk.1.1, ⟨hk.1.2.1, ⟨hk.1.2.2.1, ⟨hk.1.2.2.2, hk.2⟩⟩⟩⟩)⟩, ⟨by (with_reducible repeat (first | apply Kd.R_alloc | apply Kd.R_drewN | apply Kd.R_drew)); exact Kd.R_mono HO_18.out (fun _ hk => ⟨hk.1.1, ⟨hk.1.2.1, ⟨hk.1.2.2.1, ⟨hk.1.2.2.2, hk.2⟩⟩⟩⟩)⟩, ⟨by (with_reducible repeat (first | apply Kd.R_alloc | apply Kd.R_drewN | apply Kd.R_drew)); exact Kd.R_mono HO266.out (fun _ hk => ⟨hk.1.1.1.1.2, ⟨hk.1.1.1.2, ⟨hk.1.1.2, ⟨hk.1.2, hk.2⟩⟩⟩⟩)⟩, ⟨by repeat (first | (with_reducible first | exact HB.out | apply below_alloc | apply pw_below_drewN | apply below_drew1) | exact HB.out)⟩⟩
            case round =>
              clear H'
              try clear c1
              try clear c2
              try clear p2
              try clear c3
              try clear c4
              try clear c5
              try clear p6
              try clear c8
              try clear c8b0
              try clear c8b1
              try clear c8b2
              try clear c24
              try clear c24b0
              try clear c24b1
              try clear c25
              try clear c25b0
              try clear c25b1
              try clear c27
              try clear c29
              try clear c30
              try clear c30b0
              try clear c30b1
              try clear c31
              try clear c31b0
              try clear c33
              try clear c33b0
              try clear c35
              try clear c35b0
              try clear c35b1
              try clear c36
              try clear c36b0
              try clear c36b1
              try clear c37
              try clear c37b0
              try clear c37b1
              try clear c37b2
              try clear c38
              try clear c38b0
              try clear c38b1
              try clear c38b2
              try clear c52
              try clear p2
              try clear p6
              obtain ⟨x22_2, x23_2, rfl, rfl, HA, HK2, HO_5, HO_8, HO_14, HO_16, HO_18, HO_20, HB⟩ := hrel
              cases gk with
              | zero => exact absurd HA.out (by simp [laws_FnRotations.l0])
              | succ k2 =>
                have H := HA.out
                clear HA
                simp only [laws_FnRotations.l0] at H
                by_cases c55 : x23_2 < (t235.length : Int)
                · rw [if_pos c55] at H
                  have c55b0 : decide (x23_2 < (t235.length : Int)) = true := decide_eq_true c55
                  clear c55
                  by_cases c56 : 0 ≤ x23_2
                  · rw [if_pos c56] at H
                    have c56b0 : decide (0 ≤ x23_2) = true := decide_eq_true c56
                    clear c56
                    by_cases c57 : x23_2 < (t249.length : Int)
                    · rw [if_pos c57] at H
                      have c57b0 : decide (x23_2 < (t249.length : Int)) = true := decide_eq_true c57
                      clear c57
                      by_cases c58 : (rd t249 x23_2) < 1
                      · rw [if_pos c58] at H
                        have c58b0 : decide ((rd t249 x23_2) < 1) = true := decide_eq_true c58
                        clear c58
                        obtain rfl := Option.some.inj H
                        obtain ⟨Ao59, co59, eo59⟩ := Kd.R_slice HO_14.out
                        subst eo59
                        have p267 : 0 ≤ (x23_2 : Int) := of_decide_eq_true tA
                        have q267 : x23_2 < (t249.length : Int) := of_decide_eq_true tA
                        obtain ⟨ad267, e267, hx267_0⟩ := Kd.at_int (Kd.R_reads' HO_14.out).2.2 x23_2 p267 q267
                        cases e267
                        replace p267 := eq_true p267
                        replace q267 := eq_true q267
                        have p268 : 0 ≤ (x23_2 : Int) := of_decide_eq_true tA
                        have q268 : x23_2 < (t249.length : Int) := of_decide_eq_true tA
                        obtain ⟨ad268, e268, hx268_0⟩ := Kd.at_int (Kd.R_reads' HO_14.out).2.2 x23_2 p268 q268
                        obtain rfl : ad267 = ad268 := (by injection e268)
                        replace p268 := eq_true p268
                        replace q268 := eq_true q268
                        go_wp2
                        repeat (go_quiet (fail); try go_wp2)
                        go_ret
                        exact ⟨tE, by repeat (first | (with_reducible first | exact HB.out | apply below_alloc | apply pw_below_drewN | apply below_drew1) | exact HB.out)⟩
                      · rw [if_neg c58] at H
                        have c58b0 : decide ((rd t249 x23_2) < 1) = false := decide_eq_false c58
                        clear c58
                        by_cases c60 : x23_2 < (t253.length : Int)
                        · rw [if_pos c60] at H
                          have c60b0 : decide (x23_2 < (t253.length : Int)) = true := decide_eq_true c60
                          clear c60
                          by_cases c61 : (t235.length : Int) = 0
                          · rw [if_pos c61] at H
                            exact absurd H (by simp)
                          · rw [if_neg c61] at H
                            have c61b0 : ((t235.length : Int) == 0) = false := beq_eq_false_iff_ne.mpr c61
                            have c61b1 : ((t235.length : Int) != 0) = true := bne_iff_ne.mpr c61
                            have c61b2 : ¬ (t235 = []) := fun h_ => c61 (by rw [h_]; rfl)
                            obtain ⟨ji62, hji62⟩ : ∃ j_ : Int, (Int.tmod (wrap64 (x23_2 + t238)) (t235.length : Int)) = j_ := ⟨_, rfl⟩
                            replace H : (if 0 ≤ (ji62) then (if (ji62) < (t249.length : Int) then (if (rd t253 x23_2) = (rd t249 (ji62)) then (laws_FnRotations.l0 k2 t235 (t235.length : Int) t238 t239 t249 t253 t257 t263 t264 (wrap64 (x22_2 + (rd t249 x23_2))) (wrap64 (x23_2 + 1))) else (some false)) else (none)) else (none)) = some r := by first | (rw [hji62] at H; exact H) | (simp only [hji62] at H ⊢; exact H)
                            by_cases c63 : 0 ≤ (ji62)
                            · rw [if_pos c63] at H
                              have c63b0 : decide (0 ≤ (ji62)) = true := decide_eq_true c63
                              clear c63
                              by_cases c64 : (ji62) < (t249.length : Int)
                              · rw [if_pos c64] at H
                                have c64b0 : decide ((ji62) < (t249.length : Int)) = true := decide_eq_true c64
                                clear c64
                                by_cases c65 : (rd t253 x23_2) = (rd t249 (ji62))
                                · rw [if_pos c65] at H
                                  have c65b0 : ((rd t253 x23_2) == (rd t249 (ji62))) = true := beq_iff_eq.mpr c65
                                  have c65b1 : ((rd t253 x23_2) != (rd t249 (ji62))) = false := bne_eq_false_iff_eq.mpr c65
                                  clear c65
                                  have H' := Aside0.mk H
                                  clear H
                                  obtain ⟨Ao66, co66, eo66⟩ := Kd.R_slice HO_14.out
                                  subst eo66
                                  have p267 : 0 ≤ (x23_2 : Int) := of_decide_eq_true tA
                                  have q267 : x23_2 < (t249.length : Int) := of_decide_eq_true tA
                                  obtain ⟨ad267, e267, hx267_0⟩ := Kd.at_int (Kd.R_reads' HO_14.out).2.2 x23_2 p267 q267
                                  cases e267
                                  replace p267 := eq_true p267
                                  replace q267 := eq_true q267
                                  have p268 : 0 ≤ (x23_2 : Int) := of_decide_eq_true tA
                                  have q268 : x23_2 < (t249.length : Int) := of_decide_eq_true tA
                                  obtain ⟨ad268, e268, hx268_0⟩ := Kd.at_int (Kd.R_reads' HO_14.out).2.2 x23_2 p268 q268
                                  obtain rfl : ad267 = ad268 := (by injection e268)
                                  replace p268 := eq_true p268
                                  replace q268 := eq_true q268
                                  obtain ⟨Ao67, co67, eo67⟩ := Kd.R_slice HO_16.out
                                  subst eo67
                                  have p269 : 0 ≤ (x23_2 : Int) := of_decide_eq_true tA
                                  have q269 : x23_2 < (t253.length : Int) := of_decide_eq_true tA
                                  obtain ⟨ad269, e269, hx269_0⟩ := Kd.at_int (Kd.R_reads' HO_16.out).2.2 x23_2 p269 q269
                                  cases e269
                                  replace p269 := eq_true p269
                                  replace q269 := eq_true q269
                                  have p270 : 0 ≤ ((ji62) : Int) := of_decide_eq_true tA
                                  have q270 : (ji62) < (t249.length : Int) := of_decide_eq_true tA
                                  obtain ⟨ad270, e270, hx270_0⟩ := Kd.at_int (Kd.R_reads' HO_14.out).2.2 (ji62) p270 q270
                                  obtain rfl : ad267 = ad270 := (by injection e270)
                                  replace p270 := eq_true p270
                                  replace q270 := eq_true q270
                                  go_wp2
                                  repeat (go_quiet (fail); try go_wp2)
                                  go_roundg k2
                                  case measure => have := HJ13.out; have := HK2.out; omega
                                  case rel => exact ⟨(wrap64 (x22_2 + (rd t249 x23_2))), (wrap64 (x23_2 + 1)), tq, tq, H', ⟨by have := HJ13.out; have := HK2.out; omega⟩, ⟨by (with_reducible repeat (first | apply Kd.R_alloc | apply Kd.R_drewN | apply Kd.R_drew)); exact HO_5.out⟩, ⟨by (with_reducible repeat (first | apply Kd.R_alloc | apply Kd.R_drewN | apply Kd.R_drew)); exact HO_8.out⟩, ⟨by (with_reducible repeat (first | apply Kd.R_alloc | apply Kd.R_drewN | apply Kd.R_drew)); exact HO_14.out⟩, ⟨by (with_reducible repeat (first | apply Kd.R_alloc | apply Kd.R_drewN | apply Kd.R_drew)); exact HO_16.out⟩, ⟨by (with_reducible repeat (first | apply Kd.R_alloc | apply Kd.R_drewN | apply Kd.R_drew)); exact HO_18.out⟩, ⟨by (with_reducible repeat (first | apply Kd.R_alloc | apply Kd.R_drewN | apply Kd.R_drew)); exact HO_20.out⟩, ⟨by repeat (first | (with_reducible first | exact HB.out | apply below_alloc | apply pw_below_drewN | apply below_drew1) | exact HB.out)⟩⟩
                                · rw [if_neg c65] at H
                                  have c65b0 : ((rd t253 x23_2) == (rd t249 (ji62))) = false := beq_eq_false_iff_ne.mpr c65
                                  have c65b1 : ((rd t253 x23_2) != (rd t249 (ji62))) = true := bne_iff_ne.mpr c65
                                  obtain rfl := Option.some.inj H
                                  obtain ⟨Ao68, co68, eo68⟩ := Kd.R_slice HO_14.out
                                  subst eo68
                                  have p267 : 0 ≤ (x23_2 : Int) := of_decide_eq_true tA
                                  have q267 : x23_2 < (t249.length : Int) := of_decide_eq_true tA
                                  obtain ⟨ad267, e267, hx267_0⟩ := Kd.at_int (Kd.R_reads' HO_14.out).2.2 x23_2 p267 q267
                                  cases e267
                                  replace p267 := eq_true p267
                                  replace q267 := eq_true q267
                                  have p268 : 0 ≤ (x23_2 : Int) := of_decide_eq_true tA
                                  have q268 : x23_2 < (t249.length : Int) := of_decide_eq_true tA
                                  obtain ⟨ad268, e268, hx268_0⟩ := Kd.at_int (Kd.R_reads' HO_14.out).2.2 x23_2 p268 q268
                                  obtain rfl : ad267 = ad268 := (by injection e268)
                                  replace p268 := eq_true p268
                                  replace q268 := eq_true q268
                                  obtain ⟨Ao69, co69, eo69⟩ := Kd.R_slice HO_16.out
                                  subst eo69
                                  have p269 : 0 ≤ (x23_2 : Int) := of_decide_eq_true tA
                                  have q269 : x23_2 < (t253.length : Int) := of_decide_eq_true tA
                                  obtain ⟨ad269, e269, hx269_0⟩ := Kd.at_int (Kd.R_reads' HO_16.out).2.2 x23_2 p269 q269
                                  cases e269
                                  replace p269 := eq_true p269
                                  replace q269 := eq_true q269
                                  have p270 : 0 ≤ ((ji62) : Int) := of_decide_eq_true tA
                                  have q270 : (ji62) < (t249.length : Int) := of_decide_eq_true tA
                                  obtain ⟨ad270, e270, hx270_0⟩ := Kd.at_int (Kd.R_reads' HO_14.out).2.2 (ji62) p270 q270
                                  obtain rfl : ad267 = ad270 := (by injection e270)
                                  replace p270 := eq_true p270
                                  replace q270 := eq_true q270
                                  go_wp2
                                  repeat (go_quiet (fail); try go_wp2)
                                  go_ret
                                  exact ⟨by first | rfl | (simp [errW_none, errW_some] <;> rfl) | (simp only [← hji62]; first | rfl | (simp [errW_none, errW_some] <;> rfl)) | (simp [*, errW_none, errW_some] <;> rfl), by repeat (first | (with_reducible first | exact HB.out | apply below_alloc | apply pw_below_drewN | apply below_drew1) | exact HB.out)⟩
                              · rw [if_neg c64] at H
                                exact absurd H (by simp)
                            · rw [if_neg c63] at H
                              exact absurd H (by simp)
                        · rw [if_neg c60] at H
                          exact absurd H (by simp)
                    · rw [if_neg c57] at H
                      exact absurd H (by simp)
                  · rw [if_neg c56] at H
                    exact absurd H (by simp)
                · rw [if_neg c55] at H
                  have c55b0 : decide (x23_2 < (t235.length : Int)) = false := decide_eq_false c55
                  clear c55
                  have H' := Aside0.mk H
                  clear H
                  go_wp2
                  repeat (go_quiet (fail); try go_wp2)
                  go_loopg [24] k2 (fun kq v24 w' => ∃ (x24_3 : Int), v24 = .int .i64 x24_3 ∧ Aside0 (laws_FnRotations.l1 kq t235 t239 t257 t263 t264 x22_2 x24_3 = some r) ∧ Aside0 (kq ≤ k2) ∧ Aside0 (Kd.R (Kd.int .i64) 2 w' w.heap.size (fun k_ => some k_ ≠ ((.slice Ao18 t239.length co18) : Value).ownBlock ∧ some k_ ≠ (v259 : Value).ownBlock ∧ some k_ ≠ (v265 : Value).ownBlock) (.slice Ao16 t235.length co16) t235) ∧ Aside0 (Kd.R (Kd.int .i64) 2 w' w.heap.size (fun k_ => some k_ ≠ ((.slice Ao16 t235.length co16) : Value).ownBlock ∧ some k_ ≠ (v259 : Value).ownBlock ∧ some k_ ≠ (v265 : Value).ownBlock) (.slice Ao18 t239.length co18) t239) ∧ Aside0 (Kd.R (Kd.int .i64) 2 w' w.heap.size (fun k_ => some k_ ≠ ((.slice Ao16 t235.length co16) : Value).ownBlock ∧ some k_ ≠ ((.slice Ao18 t239.length co18) : Value).ownBlock ∧ some k_ ≠ (v265 : Value).ownBlock) v259 t257) ∧ Aside0 (Kd.R (Kd.int .i64) 2 w' w.heap.size (fun k_ => some k_ ≠ ((.slice Ao16 t235.length co16) : Value).ownBlock ∧ some k_ ≠ ((.slice Ao18 t239.length co18) : Value).ownBlock ∧ some k_ ≠ (v259 : Value).ownBlock) v265 t263) ∧ Aside0 (Below w.heap.size w w'))
                  case atStart => exact ⟨(0), tq, H', ⟨Nat.le_refl _⟩, ⟨by (with_reducible repeat (first | apply Kd.R_alloc | apply Kd.R_drewN | apply Kd.R_drew)); exact Kd.R_mono HO_5.out (fun _ hk => ⟨hk.1, ⟨hk.2.2.2.1, hk.2.2.2.2⟩⟩)⟩, ⟨by (with_reducible repeat (first | apply Kd.R_alloc | apply Kd.R_drewN | apply Kd.R_drew)); exact Kd.R_mono HO_8.out (fun _ hk => ⟨hk.1, ⟨hk.2.2.2.1, hk.2.2.2.2⟩⟩)⟩, ⟨by (with_reducible repeat (first | apply Kd.R_alloc | apply Kd.R_drewN | apply Kd.R_drew)); exact Kd.R_mono HO_18.out (fun _ hk => ⟨hk.1, ⟨hk.2.1, hk.2.2.2.2⟩⟩)⟩, ⟨by (with_reducible repeat (first | apply Kd.R_alloc | apply Kd.R_drewN | apply Kd.R_drew)); exact Kd.R_mono HO_20.out (fun _ hk => ⟨hk.1, ⟨hk.2.1, hk.2.2.2.2⟩⟩)⟩, ⟨by repeat (first | (with_reducible first | exact HB.out | apply below_alloc | apply pw_below_drewN | apply below_drew1) | exact HB.out)⟩⟩
                  case round =>
                    clear H'
                    try clear c1
                    try clear c2
                    try clear p2
                    try clear q2
                    try clear hx2
                    try clear c3
                    try clear c4
                    try clear c5
                    try clear c6
                    try clear p6
                    try clear c8
                    try clear c8b0
                    try clear c8b1
                    try clear c8b2
                    try clear c24
                    try clear c24b0
                    try clear c24b1
                    try clear c25
                    try clear c25b0
                    try clear c25b1
                    try clear p26
                    try clear q26
                    try clear hx26
                    try clear c27
                    try clear p27
                    try clear q27
                    try clear hx27
                    try clear c29
                    try clear c30
                    try clear c30b0
                    try clear c30b1
                    try clear c31
                    try clear c31b0
                    try clear c33
                    try clear c33b0
                    try clear c35
                    try clear c35b0
                    try clear c35b1
                    try clear c36
                    try clear c36b0
                    try clear c36b1
                    try clear c37
                    try clear c37b0
                    try clear c37b1
                    try clear c37b2
                    try clear c38
                    try clear c38b0
                    try clear c38b1
                    try clear c38b2
                    try clear c52
                    try clear c55
                    try clear c55b0
                    try clear c56
                    try clear c56b0
                    try clear c57
                    try clear c57b0
                    try clear c58
                    try clear c58b0
                    try clear c60
                    try clear c60b0
                    try clear c61
                    try clear c61b0
                    try clear c61b1
                    try clear c61b2
                    try clear c63
                    try clear c63b0
                    try clear c64
                    try clear c64b0
                    try clear p64
                    try clear c65
                    try clear c65b0
                    try clear c65b1
                    try clear hx267_0
                    try clear hx268_0
                    try clear hx269_0
                    try clear hx270_0
                    try clear p2
                    try clear p267
                    try clear p268
                    try clear p269
                    try clear p270
                    try clear p6
                    try clear q267
                    try clear q268
                    try clear q269
                    try clear q270
                    obtain ⟨x24_3, rfl, HA, HK3, HO_5, HO_8, HO_18, HO_20, HB⟩ := hrel
                    cases gk with
                    | zero => exact absurd HA.out (by simp [laws_FnRotations.l1])
                    | succ k3 =>
                      have H := HA.out
                      clear HA
                      simp only [laws_FnRotations.l1] at H
                      by_cases c70 : x24_3 < (t257.length : Int)
                      · rw [if_pos c70] at H
                        have c70b0 : decide (x24_3 < (t257.length : Int)) = true := decide_eq_true c70
                        clear c70
                        by_cases c71 : 0 ≤ x24_3
                        · rw [if_pos c71] at H
                          have c71b0 : decide (0 ≤ x24_3) = true := decide_eq_true c71
                          clear c71
                          replace H := Option.bind_eq_some_iff.mp H
                          obtain ⟨t273, A720, H⟩ := H
                          replace H : (if t273 = true then ((laws_r8Has.f k3 t239 (rd t257 x24_3)).bind fun t275 => (if t275 = true then (laws_FnRotations.l1 k3 t235 t239 t257 t263 t264 x22_2 (wrap64 (x24_3 + 1))) else (some false))) else (some false)) = some r := H
                          have A72 := Aside0.mk A720
                          clear A720
                          by_cases c73 : t273 = true
                          · subst c73
                            have H1 : ((laws_r8Has.f k3 t239 (rd t257 x24_3)).bind fun t275 => (if t275 = true then (laws_FnRotations.l1 k3 t235 t239 t257 t263 t264 x22_2 (wrap64 (x24_3 + 1))) else (some false))) = some r := by rw [if_pos rfl] at H; exact H
                            clear H
                            have H := H1
                            clear H1
                            replace H := Option.bind_eq_some_iff.mp H
                            obtain ⟨t275, A740, H⟩ := H
                            replace H : (if t275 = true then (laws_FnRotations.l1 k3 t235 t239 t257 t263 t264 x22_2 (wrap64 (x24_3 + 1))) else (some false)) = some r := H
                            have A74 := Aside0.mk A740
                            clear A740
                            by_cases c75 : t275 = true
                            · subst c75
                              have H1 : (laws_FnRotations.l1 k3 t235 t239 t257 t263 t264 x22_2 (wrap64 (x24_3 + 1))) = some r := by rw [if_pos rfl] at H; exact H
                              clear H
                              have H := H1
                              clear H1
                              have H' := Aside0.mk H
                              clear H
                              obtain ⟨Ao76, co76, eo76⟩ := Kd.R_slice HO_18.out
                              subst eo76
                              have p272 : 0 ≤ (x24_3 : Int) := of_decide_eq_true tA
                              have q272 : x24_3 < (t257.length : Int) := of_decide_eq_true tA
                              obtain ⟨ad272, e272, hx272_0⟩ := Kd.at_int (Kd.R_reads' HO_18.out).2.2 x24_3 p272 q272
                              cases e272
                              replace p272 := eq_true p272
                              replace q272 := eq_true q272
                              go_wp2_with (first | (go_at_call 14; (with_reducible refine (laws_r8Has.calls k3 _ _ t235 (rd t257 x24_3) true _ ?side1 ?side2 A72.out).mono ?_); (case side1 => exact tC (Kd.R_reads' HO_5.out).2.2); (case side2 => exact (Kd.R_reads' HO_5.out).2.1); rintro e w' ⟨rfl, ⟨nd, rfl⟩⟩; (try first | exact ⟨rfl, _, World.drewN_drewN _ _ _⟩ | exact ⟨rfl, _, Eq.trans (World.drewN_drewN _ _ _) (congrArg (World.drewN _) (Nat.add_assoc _ _ _))⟩); have p274 : 0 ≤ (x24_3 : Int) := of_decide_eq_true tA; have q274 : x24_3 < (t257.length : Int) := of_decide_eq_true tA; obtain ⟨ad274, e274, hx274_0⟩ := Kd.at_int (Kd.R_reads' HO_18.out).2.2 x24_3 p274 q274; obtain rfl : ad272 = ad274 := (by injection e274); replace p274 := eq_true p274; replace q274 := eq_true q274) | (go_at_call 14; (with_reducible refine (laws_r8Has.calls k3 _ _ t239 (rd t257 x24_3) true _ ?side1 ?side2 A74.out).mono ?_); (case side1 => exact tC (Kd.R_reads' HO_8.out).2.2); (case side2 => exact (Kd.R_reads' HO_8.out).2.1); rintro e w' ⟨rfl, ⟨nd, rfl⟩⟩; (try first | exact ⟨rfl, _, World.drewN_drewN _ _ _⟩ | exact ⟨rfl, _, Eq.trans (World.drewN_drewN _ _ _) (congrArg (World.drewN _) (Nat.add_assoc _ _ _))⟩)))
                              repeat (go_quiet (first | (go_at_call 14; (with_reducible refine (laws_r8Has.calls k3 _ _ t235 (rd t257 x24_3) true _ ?side1 ?side2 A72.out).mono ?_); (case side1 => exact tC (Kd.R_reads' HO_5.out).2.2); (case side2 => exact (Kd.R_reads' HO_5.out).2.1); rintro e w' ⟨rfl, ⟨nd, rfl⟩⟩; (try first | exact ⟨rfl, _, World.drewN_drewN _ _ _⟩ | exact ⟨rfl, _, Eq.trans (World.drewN_drewN _ _ _) (congrArg (World.drewN _) (Nat.add_assoc _ _ _))⟩); have p274 : 0 ≤ (x24_3 : Int) := of_decide_eq_true tA; have q274 : x24_3 < (t257.length : Int) := of_decide_eq_true tA; obtain ⟨ad274, e274, hx274_0⟩ := Kd.at_int (Kd.R_reads' HO_18.out).2.2 x24_3 p274 q274; obtain rfl : ad272 = ad274 := (by injection e274); replace p274 := eq_true p274; replace q274 := eq_true q274) | (go_at_call 14; (with_reducible refine (laws_r8Has.calls k3 _ _ t239 (rd t257 x24_3) true _ ?side1 ?side2 A74.out).mono ?_); (case side1 => exact tC (Kd.R_reads' HO_8.out).2.2); (case side2 => exact (Kd.R_reads' HO_8.out).2.1); rintro e w' ⟨rfl, ⟨nd, rfl⟩⟩; (try first | exact ⟨rfl, _, World.drewN_drewN _ _ _⟩ | exact ⟨rfl, _, Eq.trans (World.drewN_drewN _ _ _) (congrArg (World.drewN _) (Nat.add_assoc _ _ _))⟩))); try go_wp2_with (first | (go_at_call 14; (with_reducible refine (laws_r8Has.calls k3 _ _ t235 (rd t257 x24_3) true _ ?side1 ?side2 A72.out).mono ?_); (case side1 => exact tC (Kd.R_reads' HO_5.out).2.2); (case side2 => exact (Kd.R_reads' HO_5.out).2.1); rintro e w' ⟨rfl, ⟨nd, rfl⟩⟩; (try first | exact ⟨rfl, _, World.drewN_drewN _ _ _⟩ | exact ⟨rfl, _, Eq.trans (World.drewN_drewN _ _ _) (congrArg (World.drewN _) (Nat.add_assoc _ _ _))⟩); have p274 : 0 ≤ (x24_3 : Int) := of_decide_eq_true tA; have q274 : x24_3 < (t257.length : Int) := of_decide_eq_true tA; obtain ⟨ad274, e274, hx274_0⟩ := Kd.at_int (Kd.R_reads' HO_18.out).2.2 x24_3 p274 q274; obtain rfl : ad272 = ad274 := (by injection e274); replace p274 := eq_true p274; replace q274 := eq_true q274) | (go_at_call 14; (with_reducible refine (laws_r8Has.calls k3 _ _ t239 (rd t257 x24_3) true _ ?side1 ?side2 A74.out).mono ?_); (case side1 => exact tC (Kd.R_reads' HO_8.out).2.2); (case side2 => exact (Kd.R_reads' HO_8.out).2.1); rintro e w' ⟨rfl, ⟨nd, rfl⟩⟩; (try first | exact ⟨rfl, _, World.drewN_drewN _ _ _⟩ | exact ⟨rfl, _, Eq.trans (World.drewN_drewN _ _ _) (congrArg (World.drewN _) (Nat.add_assoc _ _ _))⟩))))
                              go_roundg k3
                              case measure => have := HJ13.out; have := HK2.out; have := HK3.out; omega
                              case rel => exact ⟨(wrap64 (x24_3 + 1)), tq, H', ⟨by have := HJ13.out; have := HK2.out; have := HK3.out; omega⟩, ⟨by (with_reducible repeat (first | apply Kd.R_alloc | apply Kd.R_drewN | apply Kd.R_drew)); exact HO_5.out⟩, ⟨by (with_reducible repeat (first | apply Kd.R_alloc | apply Kd.R_drewN | apply Kd.R_drew)); exact HO_8.out⟩, ⟨by (with_reducible repeat (first | apply Kd.R_alloc | apply Kd.R_drewN | apply Kd.R_drew)); exact HO_18.out⟩, ⟨by (with_reducible repeat (first | apply Kd.R_alloc | apply Kd.R_drewN | apply Kd.R_drew)); exact HO_20.out⟩, ⟨by repeat (first | (with_reducible first | exact HB.out | apply below_alloc | apply pw_below_drewN | apply below_drew1) | exact HB.out)⟩⟩
                            · replace c75 := Bool.eq_false_iff.mpr c75
                              subst c75
                              have H1 : (some false) = some r := by rw [if_neg (show ¬ (false = true) by decide)] at H; exact H
                              clear H
                              have H := H1
                              clear H1
                              obtain rfl := Option.some.inj H
                              obtain ⟨Ao77, co77, eo77⟩ := Kd.R_slice HO_18.out
                              subst eo77
                              have p272 : 0 ≤ (x24_3 : Int) := of_decide_eq_true tA
                              have q272 : x24_3 < (t257.length : Int) := of_decide_eq_true tA
                              obtain ⟨ad272, e272, hx272_0⟩ := Kd.at_int (Kd.R_reads' HO_18.out).2.2 x24_3 p272 q272
                              cases e272
                              replace p272 := eq_true p272
                              replace q272 := eq_true q272
                              go_wp2_with (first | (go_at_call 14; (with_reducible refine (laws_r8Has.calls k3 _ _ t235 (rd t257 x24_3) true _ ?side1 ?side2 A72.out).mono ?_); (case side1 => exact tC (Kd.R_reads' HO_5.out).2.2); (case side2 => exact (Kd.R_reads' HO_5.out).2.1); rintro e w' ⟨rfl, ⟨nd, rfl⟩⟩; (try first | exact ⟨rfl, _, World.drewN_drewN _ _ _⟩ | exact ⟨rfl, _, Eq.trans (World.drewN_drewN _ _ _) (congrArg (World.drewN _) (Nat.add_assoc _ _ _))⟩); have p274 : 0 ≤ (x24_3 : Int) := of_decide_eq_true tA; have q274 : x24_3 < (t257.length : Int) := of_decide_eq_true tA; obtain ⟨ad274, e274, hx274_0⟩ := Kd.at_int (Kd.R_reads' HO_18.out).2.2 x24_3 p274 q274; obtain rfl : ad272 = ad274 := (by injection e274); replace p274 := eq_true p274; replace q274 := eq_true q274) | (go_at_call 14; (with_reducible refine (laws_r8Has.calls k3 _ _ t239 (rd t257 x24_3) false _ ?side1 ?side2 A74.out).mono ?_); (case side1 => exact tC (Kd.R_reads' HO_8.out).2.2); (case side2 => exact (Kd.R_reads' HO_8.out).2.1); rintro e w' ⟨rfl, ⟨nd, rfl⟩⟩; (try first | exact ⟨rfl, _, World.drewN_drewN _ _ _⟩ | exact ⟨rfl, _, Eq.trans (World.drewN_drewN _ _ _) (congrArg (World.drewN _) (Nat.add_assoc _ _ _))⟩)))
                              repeat (go_quiet (first | (go_at_call 14; (with_reducible refine (laws_r8Has.calls k3 _ _ t235 (rd t257 x24_3) true _ ?side1 ?side2 A72.out).mono ?_); (case side1 => exact tC (Kd.R_reads' HO_5.out).2.2); (case side2 => exact (Kd.R_reads' HO_5.out).2.1); rintro e w' ⟨rfl, ⟨nd, rfl⟩⟩; (try first | exact ⟨rfl, _, World.drewN_drewN _ _ _⟩ | exact ⟨rfl, _, Eq.trans (World.drewN_drewN _ _ _) (congrArg (World.drewN _) (Nat.add_assoc _ _ _))⟩); have p274 : 0 ≤ (x24_3 : Int) := of_decide_eq_true tA; have q274 : x24_3 < (t257.length : Int) := of_decide_eq_true tA; obtain ⟨ad274, e274, hx274_0⟩ := Kd.at_int (Kd.R_reads' HO_18.out).2.2 x24_3 p274 q274; obtain rfl : ad272 = ad274 := (by injection e274); replace p274 := eq_true p274; replace q274 := eq_true q274) | (go_at_call 14; (with_reducible refine (laws_r8Has.calls k3 _ _ t239 (rd t257 x24_3) false _ ?side1 ?side2 A74.out).mono ?_); (case side1 => exact tC (Kd.R_reads' HO_8.out).2.2); (case side2 => exact (Kd.R_reads' HO_8.out).2.1); rintro e w' ⟨rfl, ⟨nd, rfl⟩⟩; (try first | exact ⟨rfl, _, World.drewN_drewN _ _ _⟩ | exact ⟨rfl, _, Eq.trans (World.drewN_drewN _ _ _) (congrArg (World.drewN _) (Nat.add_assoc _ _ _))⟩))); try go_wp2_with (first | (go_at_call 14; (with_reducible refine (laws_r8Has.calls k3 _ _ t235 (rd t257 x24_3) true _ ?side1 ?side2 A72.out).mono ?_); (case side1 => exact tC (Kd.R_reads' HO_5.out).2.2); (case side2 => exact (Kd.R_reads' HO_5.out).2.1); rintro e w' ⟨rfl, ⟨nd, rfl⟩⟩; (try first | exact ⟨rfl, _, World.drewN_drewN _ _ _⟩ | exact ⟨rfl, _, Eq.trans (World.drewN_drewN _ _ _) (congrArg (World.drewN _) (Nat.add_assoc _ _ _))⟩); have p274 : 0 ≤ (x24_3 : Int) := of_decide_eq_true tA; have q274 : x24_3 < (t257.length : Int) := of_decide_eq_true tA; obtain ⟨ad274, e274, hx274_0⟩ := Kd.at_int (Kd.R_reads' HO_18.out).2.2 x24_3 p274 q274; obtain rfl : ad272 = ad274 := (by injection e274); replace p274 := eq_true p274; replace q274 := eq_true q274) | (go_at_call 14; (with_reducible refine (laws_r8Has.calls k3 _ _ t239 (rd t257 x24_3) false _ ?side1 ?side2 A74.out).mono ?_); (case side1 => exact tC (Kd.R_reads' HO_8.out).2.2); (case side2 => exact (Kd.R_reads' HO_8.out).2.1); rintro e w' ⟨rfl, ⟨nd, rfl⟩⟩; (try first | exact ⟨rfl, _, World.drewN_drewN _ _ _⟩ | exact ⟨rfl, _, Eq.trans (World.drewN_drewN _ _ _) (congrArg (World.drewN _) (Nat.add_assoc _ _ _))⟩))))
                              go_ret
                              exact ⟨tE, by repeat (first | (with_reducible first | exact HB.out | apply below_alloc | apply pw_below_drewN | apply below_drew1) | exact HB.out)⟩
                          · replace c73 := Bool.eq_false_iff.mpr c73
                            subst c73
                            have H1 : (some false) = some r := by rw [if_neg (show ¬ (false = true) by decide)] at H; exact H
                            clear H
                            have H := H1
                            clear H1
                            obtain rfl := Option.some.inj H
                            obtain ⟨Ao78, co78, eo78⟩ := Kd.R_slice HO_18.out
                            subst eo78
                            have p272 : 0 ≤ (x24_3 : Int) := of_decide_eq_true tA
                            have q272 : x24_3 < (t257.length : Int) := of_decide_eq_true tA
                            obtain ⟨ad272, e272, hx272_0⟩ := Kd.at_int (Kd.R_reads' HO_18.out).2.2 x24_3 p272 q272
                            cases e272
                            replace p272 := eq_true p272
                            replace q272 := eq_true q272
                            go_wp2_with (first | (go_at_call 14; (with_reducible refine (laws_r8Has.calls k3 _ _ t235 (rd t257 x24_3) false _ ?side1 ?side2 A72.out).mono ?_); (case side1 => exact tC (Kd.R_reads' HO_5.out).2.2); (case side2 => exact (Kd.R_reads' HO_5.out).2.1); rintro e w' ⟨rfl, ⟨nd, rfl⟩⟩; (try first | exact ⟨rfl, _, World.drewN_drewN _ _ _⟩ | exact ⟨rfl, _, Eq.trans (World.drewN_drewN _ _ _) (congrArg (World.drewN _) (Nat.add_assoc _ _ _))⟩)))
                            repeat (go_quiet (first | (go_at_call 14; (with_reducible refine (laws_r8Has.calls k3 _ _ t235 (rd t257 x24_3) false _ ?side1 ?side2 A72.out).mono ?_); (case side1 => exact tC (Kd.R_reads' HO_5.out).2.2); (case side2 => exact (Kd.R_reads' HO_5.out).2.1); rintro e w' ⟨rfl, ⟨nd, rfl⟩⟩; (try first | exact ⟨rfl, _, World.drewN_drewN _ _ _⟩ | exact ⟨rfl, _, Eq.trans (World.drewN_drewN _ _ _) (congrArg (World.drewN _) (Nat.add_assoc _ _ _))⟩))); try go_wp2_with (first | (go_at_call 14; (with_reducible refine (laws_r8Has.calls k3 _ _ t235 (rd t257 x24_3) false _ ?side1 ?side2 A72.out).mono ?_); (case side1 => exact tC (Kd.R_reads' HO_5.out).2.2); (case side2 => exact (Kd.R_reads' HO_5.out).2.1); rintro e w' ⟨rfl, ⟨nd, rfl⟩⟩; (try first | exact ⟨rfl, _, World.drewN_drewN _ _ _⟩ | exact ⟨rfl, _, Eq.trans (World.drewN_drewN _ _ _) (congrArg (World.drewN _) (Nat.add_assoc _ _ _))⟩))))
                            go_ret
                            exact ⟨tE, by repeat (first | (with_reducible first | exact HB.out | apply below_alloc | apply pw_below_drewN | apply below_drew1) | exact HB.out)⟩
                        · rw [if_neg c71] at H
                          exact absurd H (by simp)
                      · rw [if_neg c70] at H
                        have c70b0 : decide (x24_3 < (t257.length : Int)) = false := decide_eq_false c70
                        clear c70
                        by_cases c79 : x22_2 = 12
                        · rw [if_pos c79] at H
                          have c79b0 : (x22_2 == 12) = true := beq_iff_eq.mpr c79
                          have c79b1 : (x22_2 != 12) = false := bne_eq_false_iff_eq.mpr c79
                          clear c79
                          by_cases c80 : t264 = 0
                          · rw [if_pos c80] at H
                            have c80b0 : (t264 == 0) = true := beq_iff_eq.mpr c80
                            have c80b1 : (t264 != 0) = false := bne_eq_false_iff_eq.mpr c80
                            clear c80
                            replace H := Option.bind_eq_some_iff.mp H
                            obtain ⟨t271, A810, H⟩ := H
                            replace H : (if t271 = true then (some (decide ((t257.length : Int) ≥ 1))) else (some false)) = some r := H
                            have A81 := Aside0.mk A810
                            clear A810
                            by_cases c82 : t271 = true
                            · subst c82
                              have H1 : (some (decide ((t257.length : Int) ≥ 1))) = some r := by rw [if_pos rfl] at H; exact H
                              clear H
                              have H := H1
                              clear H1
                              obtain rfl := Option.some.inj H
                              obtain ⟨Ao83, co83, eo83⟩ := Kd.R_slice HO_18.out
                              subst eo83
                              obtain ⟨Ao84, co84, eo84⟩ := Kd.R_slice HO_20.out
                              subst eo84
                              go_wp2_with (first | (go_at_call 11; (with_reducible refine (laws_r8Same.calls k3 _ _ t263 _ _ t239 true _ ?side1 ?side2 ?side3 ?side4 A81.out).mono ?_); (case side1 => exact tC (Kd.R_reads' HO_20.out).2.2); (case side2 => exact (Kd.R_reads' HO_20.out).2.1); (case side3 => exact tC (Kd.R_reads' HO_8.out).2.2); (case side4 => exact (Kd.R_reads' HO_8.out).2.1); rintro e w' ⟨rfl, ⟨nd, rfl⟩⟩; (try first | exact ⟨rfl, _, World.drewN_drewN _ _ _⟩ | exact ⟨rfl, _, Eq.trans (World.drewN_drewN _ _ _) (congrArg (World.drewN _) (Nat.add_assoc _ _ _))⟩)))
                              repeat (go_quiet (first | (go_at_call 11; (with_reducible refine (laws_r8Same.calls k3 _ _ t263 _ _ t239 true _ ?side1 ?side2 ?side3 ?side4 A81.out).mono ?_); (case side1 => exact tC (Kd.R_reads' HO_20.out).2.2); (case side2 => exact (Kd.R_reads' HO_20.out).2.1); (case side3 => exact tC (Kd.R_reads' HO_8.out).2.2); (case side4 => exact (Kd.R_reads' HO_8.out).2.1); rintro e w' ⟨rfl, ⟨nd, rfl⟩⟩; (try first | exact ⟨rfl, _, World.drewN_drewN _ _ _⟩ | exact ⟨rfl, _, Eq.trans (World.drewN_drewN _ _ _) (congrArg (World.drewN _) (Nat.add_assoc _ _ _))⟩))); try go_wp2_with (first | (go_at_call 11; (with_reducible refine (laws_r8Same.calls k3 _ _ t263 _ _ t239 true _ ?side1 ?side2 ?side3 ?side4 A81.out).mono ?_); (case side1 => exact tC (Kd.R_reads' HO_20.out).2.2); (case side2 => exact (Kd.R_reads' HO_20.out).2.1); (case side3 => exact tC (Kd.R_reads' HO_8.out).2.2); (case side4 => exact (Kd.R_reads' HO_8.out).2.1); rintro e w' ⟨rfl, ⟨nd, rfl⟩⟩; (try first | exact ⟨rfl, _, World.drewN_drewN _ _ _⟩ | exact ⟨rfl, _, Eq.trans (World.drewN_drewN _ _ _) (congrArg (World.drewN _) (Nat.add_assoc _ _ _))⟩))))
                              go_ret
                              exact ⟨tE, by repeat (first | (with_reducible first | exact HB.out | apply below_alloc | apply pw_below_drewN | apply below_drew1) | exact HB.out)⟩
                            · replace c82 := Bool.eq_false_iff.mpr c82
                              subst c82
                              have H1 : (some false) = some r := by rw [if_neg (show ¬ (false = true) by decide)] at H; exact H
                              clear H
                              have H := H1
                              clear H1
                              obtain rfl := Option.some.inj H
                              obtain ⟨Ao85, co85, eo85⟩ := Kd.R_slice HO_18.out
                              subst eo85
                              obtain ⟨Ao86, co86, eo86⟩ := Kd.R_slice HO_20.out
                              subst eo86
                              go_wp2_with (first | (go_at_call 11; (with_reducible refine (laws_r8Same.calls k3 _ _ t263 _ _ t239 false _ ?side1 ?side2 ?side3 ?side4 A81.out).mono ?_); (case side1 => exact tC (Kd.R_reads' HO_20.out).2.2); (case side2 => exact (Kd.R_reads' HO_20.out).2.1); (case side3 => exact tC (Kd.R_reads' HO_8.out).2.2); (case side4 => exact (Kd.R_reads' HO_8.out).2.1); rintro e w' ⟨rfl, ⟨nd, rfl⟩⟩; (try first | exact ⟨rfl, _, World.drewN_drewN _ _ _⟩ | exact ⟨rfl, _, Eq.trans (World.drewN_drewN _ _ _) (congrArg (World.drewN _) (Nat.add_assoc _ _ _))⟩)))
                              repeat (go_quiet (first | (go_at_call 11; (with_reducible refine (laws_r8Same.calls k3 _ _ t263 _ _ t239 false _ ?side1 ?side2 ?side3 ?side4 A81.out).mono ?_); (case side1 => exact tC (Kd.R_reads' HO_20.out).2.2); (case side2 => exact (Kd.R_reads' HO_20.out).2.1); (case side3 => exact tC (Kd.R_reads' HO_8.out).2.2); (case side4 => exact (Kd.R_reads' HO_8.out).2.1); rintro e w' ⟨rfl, ⟨nd, rfl⟩⟩; (try first | exact ⟨rfl, _, World.drewN_drewN _ _ _⟩ | exact ⟨rfl, _, Eq.trans (World.drewN_drewN _ _ _) (congrArg (World.drewN _) (Nat.add_assoc _ _ _))⟩))); try go_wp2_with (first | (go_at_call 11; (with_reducible refine (laws_r8Same.calls k3 _ _ t263 _ _ t239 false _ ?side1 ?side2 ?side3 ?side4 A81.out).mono ?_); (case side1 => exact tC (Kd.R_reads' HO_20.out).2.2); (case side2 => exact (Kd.R_reads' HO_20.out).2.1); (case side3 => exact tC (Kd.R_reads' HO_8.out).2.2); (case side4 => exact (Kd.R_reads' HO_8.out).2.1); rintro e w' ⟨rfl, ⟨nd, rfl⟩⟩; (try first | exact ⟨rfl, _, World.drewN_drewN _ _ _⟩ | exact ⟨rfl, _, Eq.trans (World.drewN_drewN _ _ _) (congrArg (World.drewN _) (Nat.add_assoc _ _ _))⟩))))
                              go_ret
                              exact ⟨tE, by repeat (first | (with_reducible first | exact HB.out | apply below_alloc | apply pw_below_drewN | apply below_drew1) | exact HB.out)⟩
                          · rw [if_neg c80] at H
                            have c80b0 : (t264 == 0) = false := beq_eq_false_iff_ne.mpr c80
                            have c80b1 : (t264 != 0) = true := bne_iff_ne.mpr c80
                            obtain rfl := Option.some.inj H
                            obtain ⟨Ao87, co87, eo87⟩ := Kd.R_slice HO_18.out
                            subst eo87
                            go_wp2
                            repeat (go_quiet (fail); try go_wp2)
                            go_ret
                            exact ⟨tE, by repeat (first | (with_reducible first | exact HB.out | apply below_alloc | apply pw_below_drewN | apply below_drew1) | exact HB.out)⟩
                        · rw [if_neg c79] at H
                          have c79b0 : (x22_2 == 12) = false := beq_eq_false_iff_ne.mpr c79
                          have c79b1 : (x22_2 != 12) = true := bne_iff_ne.mpr c79
                          obtain rfl := Option.some.inj H
                          obtain ⟨Ao88, co88, eo88⟩ := Kd.R_slice HO_18.out
                          subst eo88
                          go_wp2
                          repeat (go_quiet (fail); try go_wp2)
                          go_ret
                          exact ⟨tE, by repeat (first | (with_reducible first | exact HB.out | apply below_alloc | apply pw_below_drewN | apply below_drew1) | exact HB.out)⟩

/-- THE ONE PURE STATEMENT of laws_FnRotations: yours. -/
def laws_FnRotations.Pure : Prop := ∀ (l0 : List Int) (l1 : List Int), (l0.length ≤ maxLen ∧ ∀ y0 ∈ l0, (Lit.int .u8 y0).wf = true) → (l1.length ≤ maxLen ∧ ∀ y0 ∈ l1, (Lit.int .u8 y0).wf = true) → ∃ k, laws_FnRotations.f k l0 l1 = some true
theorem laws_FnRotations.walk (P : laws_FnRotations.Pure) (A0 : Option Addr) (c0 : Nat) (l0 : List Int) (A1 : Option Addr) (c1 : Nat) (l1 : List Int) (w : World) (hr0 : Kd.C (Kd.int .u8) w A0 l0.length l0) (hc0 : l0.length ≤ c0) (hr1 : Kd.C (Kd.int .u8) w A1 l1.length l1) (hc1 : l1.length ≤ c1) (hk0 : (l0.length ≤ maxLen ∧ ∀ y0 ∈ l0, (Lit.int .u8 y0).wf = true)) (hk1 : (l1.length ≤ maxLen ∧ ∀ y0 ∈ l1, (Lit.int .u8 y0).wf = true)) :
    Calls Try.prog 3 #[.slice A0 l0.length c0, .slice A1 l1.length c1] w fun e w' => e = .returned (.bool true) ∧ Below w.heap.size w w' := by
  obtain ⟨k, h⟩ := P l0 l1 hk0 hk1
  refine (laws_FnRotations.calls k _ _ l0 _ _ l1 true w hr0 hc0 hr1 hc1 h).mono ?_
  rintro e w' ⟨rfl, hd⟩
  exact ⟨rfl, hd⟩

end Go.Proofs.Ytcfcohfniibpdaa.PR
