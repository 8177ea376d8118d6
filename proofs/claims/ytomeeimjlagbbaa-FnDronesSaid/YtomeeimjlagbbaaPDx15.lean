-- WRITTEN BY wip/gprint.py, a program of this session's over the kit's print, with contracts given by hand
import Derived.Test.YtomeeimjlagbbaaPDx0
import Derived.Test.YtomeeimjlagbbaaPDx1
import Derived.Test.YtomeeimjlagbbaaPDx4
import Derived.Test.YtomeeimjlagbbaaPDx7
import Derived.Test.YtomeeimjlagbbaaPDx8
import Derived.Test.YtomeeimjlagbbaaPDx9
import Derived.Test.YtomeeimjlagbbaaPDx11
import Derived.Test.YtomeeimjlagbbaaPDx12
import Derived.Test.YtomeeimjlagbbaaPDx13
import Derived.Test.YtomeeimjlagbbaaPDx14
namespace Go.Proofs.Ytomeeimjlagbbaa.PD
open Go.RowKit Go.Proofs.YtomeeimjlagbbaaW.PrintWords Go.Proofs.YtomeeimjlagbbaaW.PrintLast Go.Proofs.YtomeeimjlagbbaaW.PrintMore
attribute [local go_sem] max2_int min2_int max_two min_two max_three min_three max_four min_four   -- for this text's walks alone
set_option linter.unusedVariables false
set_option linter.unusedSimpArgs false

/-! ### laws_FnDrones: function 7 -/
mutual
def laws_FnDrones.j0 : Nat → List Int → List Int → Bool → Option (Bool)
  | 0, _, _, _ => none
  | k + 1, x0, x1, x39 => if x39 = true then (some true) else ((spec_DrawBestPhase.f k x0).bind fun bt357 => ((impl_BestPhase.f k bt357.1 bt357.2).bind fun bt363 => ((impl_MelodyConsonance.f k bt357.1 bt357.2).bind fun bt366 => (if bt363.2.2 = bt366.2 then (if bt363.2.2 = 0 then ((spec_DurationOf.f k bt357.2).bind fun bt368 => (if bt368.2 = 0 then (if bt363.1 < 0 then (laws_FnDrones.j1 k x1 bt357.1 bt357.2 bt366.1 true) else (if bt363.1 ≥ bt368.1 then (laws_FnDrones.j1 k x1 bt357.1 bt357.2 bt366.1 true) else (if bt363.2.1 < bt366.1 then (laws_FnDrones.j1 k x1 bt357.1 bt357.2 bt366.1 true) else (laws_FnDrones.j1 k x1 bt357.1 bt357.2 bt366.1 (decide (bt366.1 < 0)))))) else (laws_FnDrones.j1 k x1 bt357.1 bt357.2 bt366.1 true))) else (laws_FnDrones.j3 k x1)) else (some false)))))
def laws_FnDrones.j3 : Nat → List Int → Option (Bool)
  | 0, _ => none
  | k + 1, x1 => (spec_DrawBestDrone.f k x1).bind fun bt379 => ((impl_BestDrone.f k bt379.1 bt379.2).bind fun bt385 => (if bt385.2.2 = 0 then (if bt385.1 < 0 then (laws_FnDrones.j4 k x1 bt379.1 bt379.2 bt385.1 bt385.2.1 true) else (laws_FnDrones.j4 k x1 bt379.1 bt379.2 bt385.1 bt385.2.1 (decide (bt385.1 ≥ (bt379.2.length : Int))))) else ((spec_DrawConsonanceOf.f x1).bind fun bt397 => ((impl_ConsonanceOf.f bt397.1 bt397.2).bind fun bt399 => ((impl_ConsonanceOf.f bt397.2 bt397.1).bind fun bt401 => (if bt399.2 = bt401.2 then (if bt399.1 = bt401.1 then (if bt399.2 = 0 then (if bt399.1 ≥ 0 then (some (decide (bt399.1 ≤ 100))) else (some false)) else (some true)) else (some false)) else (some false)))))))
def laws_FnDrones.j4 : Nat → List Int → List (S40) → List (List (S40)) → Int → Int → Bool → Option (Bool)
  | 0, _, _, _, _, _, _ => none
  | k + 1, x1, x20, x21, x22, x23, x166 => if x166 = true then (some false) else (laws_FnDrones.l0 k x1 x20 x21 x22 x23 0)
def laws_FnDrones.l0 : Nat → List Int → List (S40) → List (List (S40)) → Int → Int → Int → Option (Bool)
  | 0, _, _, _, _, _, _ => none
  | k + 1, x1, x20, x21, x22, x23, x25 => if x25 < (x21.length : Int) then (if 0 ≤ x25 then ((impl_MelodyConsonance.f k x20 (rd_L3 x21 x25)).bind fun bt389 => (if bt389.2 = 0 then (if bt389.1 > x23 then (some false) else (if x25 = x22 then (if bt389.1 = x23 then (laws_FnDrones.l0 k x1 x20 x21 x22 x23 (wrap64 (x25 + 1))) else (some false)) else (laws_FnDrones.l0 k x1 x20 x21 x22 x23 (wrap64 (x25 + 1))))) else (some false))) else (none)) else ((spec_DrawConsonanceOf.f x1).bind fun bt391 => ((impl_ConsonanceOf.f bt391.1 bt391.2).bind fun bt393 => ((impl_ConsonanceOf.f bt391.2 bt391.1).bind fun bt395 => (if bt393.2 = bt395.2 then (if bt393.1 = bt395.1 then (if bt393.2 = 0 then (if bt393.1 ≥ 0 then (some (decide (bt393.1 ≤ 100))) else (some false)) else (some true)) else (some false)) else (some false)))))
def laws_FnDrones.j1 : Nat → List Int → List (S40) → List (S40) → Int → Bool → Option (Bool)
  | 0, _, _, _, _, _ => none
  | k + 1, x1, x5, x6, x10, x87 => if x87 = true then (some false) else ((impl_RoughUnits.f k x5 x6 101).bind fun bt370 => ((spec_DurationOf.f k x5).bind fun bt374 => (if bt374.2 = 0 then (if bt370.2 = 0 then (if (bt370.1.length : Int) = bt374.1 then (laws_FnDrones.j2 k x1 x5 x6 x10 bt374.1 (decide (x10 > (wrap64 (100 * bt374.1))))) else (laws_FnDrones.j2 k x1 x5 x6 x10 bt374.1 true)) else (laws_FnDrones.j2 k x1 x5 x6 x10 bt374.1 (decide (x10 > (wrap64 (100 * bt374.1)))))) else (laws_FnDrones.j2 k x1 x5 x6 x10 bt374.1 true))))
def laws_FnDrones.j2 : Nat → List Int → List (S40) → List (S40) → Int → Int → Bool → Option (Bool)
  | 0, _, _, _, _, _, _ => none
  | k + 1, x1, x5, x6, x10, x16, x116 => if x116 = true then (some false) else ((impl_MeanConsonance.f k x5 x6).bind fun bt376 => (if bt376.2 = 0 then (if bt376.1 < 0 then (some false) else (if bt376.1 > 100 then (some false) else ((laws_b10Abs.f (wrap64 ((wrap64 ((wrap64 (2 * bt376.1)) * x16)) - (wrap64 (2 * x10))))).bind fun t378 => (if t378 > x16 then (some false) else (laws_FnDrones.j3 k x1))))) else (laws_FnDrones.j3 k x1)))
end
def laws_FnDrones.f (k : Nat) (l0 : List Int) (l1 : List Int) : Option (Bool) := (laws_b10Long.f l0).bind fun t355 => (if t355 = true then (laws_FnDrones.j0 k l0 l1 true) else ((laws_b10Long.f l1).bind fun t356 => (laws_FnDrones.j0 k l0 l1 t356)))
theorem laws_FnDrones.mono_l : ∀ k, (∀ y0 y1 y2, LeO (laws_FnDrones.j0 k y0 y1 y2) (laws_FnDrones.j0 (k + 1) y0 y1 y2)) ∧ (∀ y0, LeO (laws_FnDrones.j3 k y0) (laws_FnDrones.j3 (k + 1) y0)) ∧ (∀ y0 y1 y2 y3 y4 y5, LeO (laws_FnDrones.j4 k y0 y1 y2 y3 y4 y5) (laws_FnDrones.j4 (k + 1) y0 y1 y2 y3 y4 y5)) ∧ (∀ y0 y1 y2 y3 y4 y5, LeO (laws_FnDrones.l0 k y0 y1 y2 y3 y4 y5) (laws_FnDrones.l0 (k + 1) y0 y1 y2 y3 y4 y5)) ∧ (∀ y0 y1 y2 y3 y4, LeO (laws_FnDrones.j1 k y0 y1 y2 y3 y4) (laws_FnDrones.j1 (k + 1) y0 y1 y2 y3 y4)) ∧ (∀ y0 y1 y2 y3 y4 y5, LeO (laws_FnDrones.j2 k y0 y1 y2 y3 y4 y5) (laws_FnDrones.j2 (k + 1) y0 y1 y2 y3 y4 y5))
  | 0 => ⟨fun _ _ _ r h => by simp [laws_FnDrones.j0] at h, fun _ r h => by simp [laws_FnDrones.j3] at h, fun _ _ _ _ _ _ r h => by simp [laws_FnDrones.j4] at h, fun _ _ _ _ _ _ r h => by simp [laws_FnDrones.l0] at h, fun _ _ _ _ _ r h => by simp [laws_FnDrones.j1] at h, fun _ _ _ _ _ _ r h => by simp [laws_FnDrones.j2] at h⟩
  | k + 1 => by
    obtain ⟨ih0, ih1, ih2, ih3, ih4, ih5⟩ := laws_FnDrones.mono_l k
    refine ⟨?_, ?_, ?_, ?_, ?_, ?_⟩
    · intro y0 y1 y2
      unfold laws_FnDrones.j0
      repeat' first
      | (with_reducible exact ih0 _ _ _)
      | (with_reducible exact ih1 _)
      | (with_reducible exact ih2 _ _ _ _ _ _)
      | (with_reducible exact ih3 _ _ _ _ _ _)
      | (with_reducible exact ih4 _ _ _ _ _)
      | (with_reducible exact ih5 _ _ _ _ _ _)
      | (with_reducible exact impl_BestDrone.mono _ _ _)
      | (with_reducible exact impl_BestPhase.mono _ _ _)
      | (with_reducible exact impl_MeanConsonance.mono _ _ _)
      | (with_reducible exact impl_MelodyConsonance.mono _ _ _)
      | (with_reducible exact impl_RoughUnits.mono _ _ _ _)
      | (with_reducible exact spec_DrawBestDrone.mono _ _)
      | (with_reducible exact spec_DrawBestPhase.mono _ _)
      | (with_reducible exact spec_DurationOf.mono _ _)
      | (with_reducible exact LeO.refl _)
      | (with_reducible exact LeO.none _)
      | (with_reducible refine LeO.ite ?_ ?_)
      | (with_reducible refine LeO.bind ?_ (fun _ => ?_))
      | exact ih0 _ _ _
      | exact ih1 _
      | exact ih2 _ _ _ _ _ _
      | exact ih3 _ _ _ _ _ _
      | exact ih4 _ _ _ _ _
      | exact ih5 _ _ _ _ _ _
      | exact impl_BestDrone.mono _ _ _
      | exact impl_BestPhase.mono _ _ _
      | exact impl_MeanConsonance.mono _ _ _
      | exact impl_MelodyConsonance.mono _ _ _
      | exact impl_RoughUnits.mono _ _ _ _
      | exact spec_DrawBestDrone.mono _ _
      | exact spec_DrawBestPhase.mono _ _
      | exact spec_DurationOf.mono _ _
      | exact LeO.none _
      | refine LeO.ite ?_ ?_
      | refine LeO.bind ?_ (fun _ => ?_)
    · intro y0
      unfold laws_FnDrones.j3
      repeat' first
      | (with_reducible exact ih0 _ _ _)
      | (with_reducible exact ih1 _)
      | (with_reducible exact ih2 _ _ _ _ _ _)
      | (with_reducible exact ih3 _ _ _ _ _ _)
      | (with_reducible exact ih4 _ _ _ _ _)
      | (with_reducible exact ih5 _ _ _ _ _ _)
      | (with_reducible exact impl_BestDrone.mono _ _ _)
      | (with_reducible exact impl_BestPhase.mono _ _ _)
      | (with_reducible exact impl_MeanConsonance.mono _ _ _)
      | (with_reducible exact impl_MelodyConsonance.mono _ _ _)
      | (with_reducible exact impl_RoughUnits.mono _ _ _ _)
      | (with_reducible exact spec_DrawBestDrone.mono _ _)
      | (with_reducible exact spec_DrawBestPhase.mono _ _)
      | (with_reducible exact spec_DurationOf.mono _ _)
      | (with_reducible exact LeO.refl _)
      | (with_reducible exact LeO.none _)
      | (with_reducible refine LeO.ite ?_ ?_)
      | (with_reducible refine LeO.bind ?_ (fun _ => ?_))
      | exact ih0 _ _ _
      | exact ih1 _
      | exact ih2 _ _ _ _ _ _
      | exact ih3 _ _ _ _ _ _
      | exact ih4 _ _ _ _ _
      | exact ih5 _ _ _ _ _ _
      | exact impl_BestDrone.mono _ _ _
      | exact impl_BestPhase.mono _ _ _
      | exact impl_MeanConsonance.mono _ _ _
      | exact impl_MelodyConsonance.mono _ _ _
      | exact impl_RoughUnits.mono _ _ _ _
      | exact spec_DrawBestDrone.mono _ _
      | exact spec_DrawBestPhase.mono _ _
      | exact spec_DurationOf.mono _ _
      | exact LeO.none _
      | refine LeO.ite ?_ ?_
      | refine LeO.bind ?_ (fun _ => ?_)
    · intro y0 y1 y2 y3 y4 y5
      unfold laws_FnDrones.j4
      repeat' first
      | (with_reducible exact ih0 _ _ _)
      | (with_reducible exact ih1 _)
      | (with_reducible exact ih2 _ _ _ _ _ _)
      | (with_reducible exact ih3 _ _ _ _ _ _)
      | (with_reducible exact ih4 _ _ _ _ _)
      | (with_reducible exact ih5 _ _ _ _ _ _)
      | (with_reducible exact impl_BestDrone.mono _ _ _)
      | (with_reducible exact impl_BestPhase.mono _ _ _)
      | (with_reducible exact impl_MeanConsonance.mono _ _ _)
      | (with_reducible exact impl_MelodyConsonance.mono _ _ _)
      | (with_reducible exact impl_RoughUnits.mono _ _ _ _)
      | (with_reducible exact spec_DrawBestDrone.mono _ _)
      | (with_reducible exact spec_DrawBestPhase.mono _ _)
      | (with_reducible exact spec_DurationOf.mono _ _)
      | (with_reducible exact LeO.refl _)
      | (with_reducible exact LeO.none _)
      | (with_reducible refine LeO.ite ?_ ?_)
      | (with_reducible refine LeO.bind ?_ (fun _ => ?_))
      | exact ih0 _ _ _
      | exact ih1 _
      | exact ih2 _ _ _ _ _ _
      | exact ih3 _ _ _ _ _ _
      | exact ih4 _ _ _ _ _
      | exact ih5 _ _ _ _ _ _
      | exact impl_BestDrone.mono _ _ _
      | exact impl_BestPhase.mono _ _ _
      | exact impl_MeanConsonance.mono _ _ _
      | exact impl_MelodyConsonance.mono _ _ _
      | exact impl_RoughUnits.mono _ _ _ _
      | exact spec_DrawBestDrone.mono _ _
      | exact spec_DrawBestPhase.mono _ _
      | exact spec_DurationOf.mono _ _
      | exact LeO.none _
      | refine LeO.ite ?_ ?_
      | refine LeO.bind ?_ (fun _ => ?_)
    · intro y0 y1 y2 y3 y4 y5
      unfold laws_FnDrones.l0
      repeat' first
      | (with_reducible exact ih0 _ _ _)
      | (with_reducible exact ih1 _)
      | (with_reducible exact ih2 _ _ _ _ _ _)
      | (with_reducible exact ih3 _ _ _ _ _ _)
      | (with_reducible exact ih4 _ _ _ _ _)
      | (with_reducible exact ih5 _ _ _ _ _ _)
      | (with_reducible exact impl_BestDrone.mono _ _ _)
      | (with_reducible exact impl_BestPhase.mono _ _ _)
      | (with_reducible exact impl_MeanConsonance.mono _ _ _)
      | (with_reducible exact impl_MelodyConsonance.mono _ _ _)
      | (with_reducible exact impl_RoughUnits.mono _ _ _ _)
      | (with_reducible exact spec_DrawBestDrone.mono _ _)
      | (with_reducible exact spec_DrawBestPhase.mono _ _)
      | (with_reducible exact spec_DurationOf.mono _ _)
      | (with_reducible exact LeO.refl _)
      | (with_reducible exact LeO.none _)
      | (with_reducible refine LeO.ite ?_ ?_)
      | (with_reducible refine LeO.bind ?_ (fun _ => ?_))
      | exact ih0 _ _ _
      | exact ih1 _
      | exact ih2 _ _ _ _ _ _
      | exact ih3 _ _ _ _ _ _
      | exact ih4 _ _ _ _ _
      | exact ih5 _ _ _ _ _ _
      | exact impl_BestDrone.mono _ _ _
      | exact impl_BestPhase.mono _ _ _
      | exact impl_MeanConsonance.mono _ _ _
      | exact impl_MelodyConsonance.mono _ _ _
      | exact impl_RoughUnits.mono _ _ _ _
      | exact spec_DrawBestDrone.mono _ _
      | exact spec_DrawBestPhase.mono _ _
      | exact spec_DurationOf.mono _ _
      | exact LeO.none _
      | refine LeO.ite ?_ ?_
      | refine LeO.bind ?_ (fun _ => ?_)
    · intro y0 y1 y2 y3 y4
      unfold laws_FnDrones.j1
      repeat' first
      | (with_reducible exact ih0 _ _ _)
      | (with_reducible exact ih1 _)
      | (with_reducible exact ih2 _ _ _ _ _ _)
      | (with_reducible exact ih3 _ _ _ _ _ _)
      | (with_reducible exact ih4 _ _ _ _ _)
      | (with_reducible exact ih5 _ _ _ _ _ _)
      | (with_reducible exact impl_BestDrone.mono _ _ _)
      | (with_reducible exact impl_BestPhase.mono _ _ _)
      | (with_reducible exact impl_MeanConsonance.mono _ _ _)
      | (with_reducible exact impl_MelodyConsonance.mono _ _ _)
      | (with_reducible exact impl_RoughUnits.mono _ _ _ _)
      | (with_reducible exact spec_DrawBestDrone.mono _ _)
      | (with_reducible exact spec_DrawBestPhase.mono _ _)
      | (with_reducible exact spec_DurationOf.mono _ _)
      | (with_reducible exact LeO.refl _)
      | (with_reducible exact LeO.none _)
      | (with_reducible refine LeO.ite ?_ ?_)
      | (with_reducible refine LeO.bind ?_ (fun _ => ?_))
      | exact ih0 _ _ _
      | exact ih1 _
      | exact ih2 _ _ _ _ _ _
      | exact ih3 _ _ _ _ _ _
      | exact ih4 _ _ _ _ _
      | exact ih5 _ _ _ _ _ _
      | exact impl_BestDrone.mono _ _ _
      | exact impl_BestPhase.mono _ _ _
      | exact impl_MeanConsonance.mono _ _ _
      | exact impl_MelodyConsonance.mono _ _ _
      | exact impl_RoughUnits.mono _ _ _ _
      | exact spec_DrawBestDrone.mono _ _
      | exact spec_DrawBestPhase.mono _ _
      | exact spec_DurationOf.mono _ _
      | exact LeO.none _
      | refine LeO.ite ?_ ?_
      | refine LeO.bind ?_ (fun _ => ?_)
    · intro y0 y1 y2 y3 y4 y5
      unfold laws_FnDrones.j2
      repeat' first
      | (with_reducible exact ih0 _ _ _)
      | (with_reducible exact ih1 _)
      | (with_reducible exact ih2 _ _ _ _ _ _)
      | (with_reducible exact ih3 _ _ _ _ _ _)
      | (with_reducible exact ih4 _ _ _ _ _)
      | (with_reducible exact ih5 _ _ _ _ _ _)
      | (with_reducible exact impl_BestDrone.mono _ _ _)
      | (with_reducible exact impl_BestPhase.mono _ _ _)
      | (with_reducible exact impl_MeanConsonance.mono _ _ _)
      | (with_reducible exact impl_MelodyConsonance.mono _ _ _)
      | (with_reducible exact impl_RoughUnits.mono _ _ _ _)
      | (with_reducible exact spec_DrawBestDrone.mono _ _)
      | (with_reducible exact spec_DrawBestPhase.mono _ _)
      | (with_reducible exact spec_DurationOf.mono _ _)
      | (with_reducible exact LeO.refl _)
      | (with_reducible exact LeO.none _)
      | (with_reducible refine LeO.ite ?_ ?_)
      | (with_reducible refine LeO.bind ?_ (fun _ => ?_))
      | exact ih0 _ _ _
      | exact ih1 _
      | exact ih2 _ _ _ _ _ _
      | exact ih3 _ _ _ _ _ _
      | exact ih4 _ _ _ _ _
      | exact ih5 _ _ _ _ _ _
      | exact impl_BestDrone.mono _ _ _
      | exact impl_BestPhase.mono _ _ _
      | exact impl_MeanConsonance.mono _ _ _
      | exact impl_MelodyConsonance.mono _ _ _
      | exact impl_RoughUnits.mono _ _ _ _
      | exact spec_DrawBestDrone.mono _ _
      | exact spec_DrawBestPhase.mono _ _
      | exact spec_DurationOf.mono _ _
      | exact LeO.none _
      | refine LeO.ite ?_ ?_
      | refine LeO.bind ?_ (fun _ => ?_)
theorem laws_FnDrones.mono : ∀ a0 a1 k, LeO (laws_FnDrones.f k a0 a1) (laws_FnDrones.f (k + 1) a0 a1) := by
  intro a0 a1 k
  obtain ⟨ih0, ih1, ih2, ih3, ih4, ih5⟩ := laws_FnDrones.mono_l k
  unfold laws_FnDrones.f
  repeat' first
      | (with_reducible exact ih0 _ _ _)
      | (with_reducible exact ih1 _)
      | (with_reducible exact ih2 _ _ _ _ _ _)
      | (with_reducible exact ih3 _ _ _ _ _ _)
      | (with_reducible exact ih4 _ _ _ _ _)
      | (with_reducible exact ih5 _ _ _ _ _ _)
      | (with_reducible exact impl_BestDrone.mono _ _ _)
      | (with_reducible exact impl_BestPhase.mono _ _ _)
      | (with_reducible exact impl_MeanConsonance.mono _ _ _)
      | (with_reducible exact impl_MelodyConsonance.mono _ _ _)
      | (with_reducible exact impl_RoughUnits.mono _ _ _ _)
      | (with_reducible exact spec_DrawBestDrone.mono _ _)
      | (with_reducible exact spec_DrawBestPhase.mono _ _)
      | (with_reducible exact spec_DurationOf.mono _ _)
      | (with_reducible exact LeO.refl _)
      | (with_reducible exact LeO.none _)
      | (with_reducible refine LeO.ite ?_ ?_)
      | (with_reducible refine LeO.bind ?_ (fun _ => ?_))
      | exact ih0 _ _ _
      | exact ih1 _
      | exact ih2 _ _ _ _ _ _
      | exact ih3 _ _ _ _ _ _
      | exact ih4 _ _ _ _ _
      | exact ih5 _ _ _ _ _ _
      | exact impl_BestDrone.mono _ _ _
      | exact impl_BestPhase.mono _ _ _
      | exact impl_MeanConsonance.mono _ _ _
      | exact impl_MelodyConsonance.mono _ _ _
      | exact impl_RoughUnits.mono _ _ _ _
      | exact spec_DrawBestDrone.mono _ _
      | exact spec_DrawBestPhase.mono _ _
      | exact spec_DurationOf.mono _ _
      | exact LeO.none _
      | refine LeO.ite ?_ ?_
      | refine LeO.bind ?_ (fun _ => ?_)

end Go.Proofs.Ytomeeimjlagbbaa.PD
