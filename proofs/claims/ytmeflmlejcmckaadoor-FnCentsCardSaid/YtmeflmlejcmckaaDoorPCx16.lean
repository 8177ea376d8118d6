-- WRITTEN BY wip/gprint.py, a program of this session's over the kit's print, with contracts given by hand
import Derived.Test.YtmeflmlejcmckaaDoorPCx0
import Derived.Test.YtmeflmlejcmckaaDoorPCx1
import Derived.Test.YtmeflmlejcmckaaDoorPCx5
import Derived.Test.YtmeflmlejcmckaaDoorPCx8
import Derived.Test.YtmeflmlejcmckaaDoorPCx10
import Derived.Test.YtmeflmlejcmckaaDoorPCx11
import Derived.Test.YtmeflmlejcmckaaDoorPCx12
import Derived.Test.YtmeflmlejcmckaaDoorPCx15
namespace Go.Proofs.YtmeflmlejcmckaaDoor.PC
open Go.RowKit Go.Proofs.YtmeflmlejcmckaaDoorW.PrintWords Go.Proofs.YtmeflmlejcmckaaDoorW.PrintLast Go.Proofs.YtmeflmlejcmckaaDoorW.PrintMore
attribute [local go_sem] max2_int min2_int max_two min_two max_three min_three max_four min_four   -- for this text's walks alone
set_option linter.unusedVariables false
set_option linter.unusedSimpArgs false

attribute [local go_sem] isSome_setCell
/-! ### laws_FnCents: function 7 -/
mutual
def laws_FnCents.j0 : Nat → List Int → List Int → Bool → Option (Bool)
 | 0, _, _, _ => none
 | k + 1, x0, x1, x39 => if x39 = true then (some true) else ((spec_DrawCompareRatios.f k x0).bind fun bt301 => ((impl_CentsOf.f k bt301.1 bt301.2.1).bind fun bt307 => ((impl_CentsOf.f k bt301.2.2.1 bt301.2.2.2).bind fun bt309 => ((impl_CompareRatios.f k bt301.1 bt301.2.1 bt301.2.2.1 bt301.2.2.2).bind fun bt311 => (if bt307.2 = 0 then (if bt309.2 = 0 then (if bt311.2 = 0 then (if bt311.1 < 0 then (if bt307.1 > bt309.1 then (laws_FnCents.j1 k x0 x1 true) else (if bt311.1 > 0 then (if bt307.1 < bt309.1 then (laws_FnCents.j1 k x0 x1 true) else (if bt311.1 = 0 then (laws_FnCents.j1 k x0 x1 (bt307.1 != bt309.1)) else (laws_FnCents.j1 k x0 x1 false))) else (if bt311.1 = 0 then (laws_FnCents.j1 k x0 x1 (bt307.1 != bt309.1)) else (laws_FnCents.j1 k x0 x1 false)))) else (if bt311.1 > 0 then (if bt307.1 < bt309.1 then (laws_FnCents.j1 k x0 x1 true) else (if bt311.1 = 0 then (laws_FnCents.j1 k x0 x1 (bt307.1 != bt309.1)) else (laws_FnCents.j1 k x0 x1 false))) else (if bt311.1 = 0 then (laws_FnCents.j1 k x0 x1 (bt307.1 != bt309.1)) else (laws_FnCents.j1 k x0 x1 false)))) else (laws_FnCents.j1 k x0 x1 true)) else (laws_FnCents.j1 k x0 x1 false)) else (laws_FnCents.j1 k x0 x1 false))))))
def laws_FnCents.j1 : Nat → List Int → List Int → Bool → Option (Bool)
 | 0, _, _, _ => none
 | k + 1, x0, x1, x97 => if x97 = true then (some false) else ((spec_DrawOctaveOf.f k x1).bind fun bt313 => ((impl_OctaveOf.f k bt313.1 bt313.2).bind fun bt316 => (if bt316.2.2.2 = 0 then ((impl_CentsOf.f k bt313.1 bt313.2).bind fun bt321 => ((impl_CentsOf.f k bt316.1 bt316.2.1).bind fun bt323 => (if bt321.2 = 0 then (if bt323.2 = 0 then (if bt321.1 = (wrap64 (bt323.1 + (wrap64 (120000 * bt316.2.2.1)))) then (if bt316.1 < bt316.2.1 then (some false) else (if bt316.1 ≥ (wrap64 (2 * bt316.2.1)) then (some false) else (laws_FnCents.j2 k x0 x1))) else (some false)) else (some false)) else (some false)))) else (laws_FnCents.j2 k x0 x1))))
def laws_FnCents.j2 : Nat → List Int → List Int → Option (Bool)
 | 0, _, _ => none
 | k + 1, x0, x1 => (spec_DrawBestRatio.f x1).bind fun bt325 => ((impl_BestRatio.f k bt325.1 bt325.2).bind fun bt327 => (if bt327.2.2.2 = 0 then ((impl_CentsOf.f k bt327.1 bt327.2.1).bind fun bt332 => (if bt332.2 = 0 then ((laws_b10Abs.f (wrap64 (bt332.1 - bt325.1))).bind fun t334 => (if t334 = bt327.2.2.1 then (if bt327.2.1 > bt325.2 then (laws_FnCents.j3 k x0 bt325.1 bt325.2 bt327.2.2.1 true) else ((spec_ValidRatio.f k bt327.1 bt327.2.1).bind fun t335 => (laws_FnCents.j3 k x0 bt325.1 bt325.2 bt327.2.2.1 (!t335)))) else (laws_FnCents.j3 k x0 bt325.1 bt325.2 bt327.2.2.1 true))) else (laws_FnCents.j3 k x0 bt325.1 bt325.2 bt327.2.2.1 true))) else (some (bt327.1 == 0))))
def laws_FnCents.j3 : Nat → List Int → Int → Int → Int → Bool → Option (Bool)
 | 0, _, _, _, _, _ => none
 | k + 1, x0, x21, x22, x24, x189 => if x189 = true then (some false) else ((laws_b10At.f x0 0 x22).bind fun t336 => ((laws_b10At.f x0 1 (wrap64 ((wrap64 (1 + t336)) + 1))).bind fun t337 => ((spec_ReduceRatio.f k (wrap64 ((wrap64 (1 + t336)) + t337)) (wrap64 (1 + t336))).bind fun bt338 => ((spec_CentsOf.f k bt338.1 bt338.2.1).bind fun bt342 => (if bt338.2.2 = 0 then (if bt342.2 = 0 then ((laws_b10Abs.f (wrap64 (bt342.1 - x21))).bind fun t344 => (some (decide (t344 ≥ x24)))) else (some false)) else (some false))))))
end
def laws_FnCents.f (k : Nat) (l0 : List Int) (l1 : List Int) : Option (Bool) := (laws_b10Long.f l0).bind fun t299 => (if t299 = true then (laws_FnCents.j0 k l0 l1 true) else ((laws_b10Long.f l1).bind fun t300 => (laws_FnCents.j0 k l0 l1 t300)))
theorem laws_FnCents.mono_l : ∀ k, (∀ y0 y1 y2, LeO (laws_FnCents.j0 k y0 y1 y2) (laws_FnCents.j0 (k + 1) y0 y1 y2)) ∧ (∀ y0 y1 y2, LeO (laws_FnCents.j1 k y0 y1 y2) (laws_FnCents.j1 (k + 1) y0 y1 y2)) ∧ (∀ y0 y1, LeO (laws_FnCents.j2 k y0 y1) (laws_FnCents.j2 (k + 1) y0 y1)) ∧ (∀ y0 y1 y2 y3 y4, LeO (laws_FnCents.j3 k y0 y1 y2 y3 y4) (laws_FnCents.j3 (k + 1) y0 y1 y2 y3 y4))
 | 0 => ⟨fun _ _ _ r h => by simp [laws_FnCents.j0] at h, fun _ _ _ r h => by simp [laws_FnCents.j1] at h, fun _ _ r h => by simp [laws_FnCents.j2] at h, fun _ _ _ _ _ r h => by simp [laws_FnCents.j3] at h⟩
 | k + 1 => by
  obtain ⟨ih0, ih1, ih2, ih3⟩ := laws_FnCents.mono_l k
  refine ⟨?_, ?_, ?_, ?_⟩
  all_goals (intros; (first | unfold laws_FnCents.j0 | unfold laws_FnCents.j1 | unfold laws_FnCents.j2 | unfold laws_FnCents.j3); repeat' first
   | (with_reducible exact ih0 _ _ _)
   | (with_reducible exact ih1 _ _ _)
   | (with_reducible exact ih2 _ _)
   | (with_reducible exact ih3 _ _ _ _ _)
   | (with_reducible exact impl_BestRatio.mono _ _ _)
   | (with_reducible exact impl_CentsOf.mono _ _ _)
   | (with_reducible exact impl_CompareRatios.mono _ _ _ _ _)
   | (with_reducible exact impl_OctaveOf.mono _ _ _)
   | (with_reducible exact spec_CentsOf.mono _ _ _)
   | (with_reducible exact spec_DrawCompareRatios.mono _ _)
   | (with_reducible exact spec_DrawOctaveOf.mono _ _)
   | (with_reducible exact spec_ReduceRatio.mono _ _ _)
   | (with_reducible exact spec_ValidRatio.mono _ _ _)
   | (with_reducible exact LeO.refl _)
   | (with_reducible exact LeO.none _)
   | (with_reducible refine LeO.ite ?_ ?_)
   | (with_reducible refine LeO.bind ?_ (fun _ => ?_))
   | exact ih0 _ _ _
   | exact ih1 _ _ _
   | exact ih2 _ _
   | exact ih3 _ _ _ _ _
   | exact impl_BestRatio.mono _ _ _
   | exact impl_CentsOf.mono _ _ _
   | exact impl_CompareRatios.mono _ _ _ _ _
   | exact impl_OctaveOf.mono _ _ _
   | exact spec_CentsOf.mono _ _ _
   | exact spec_DrawCompareRatios.mono _ _
   | exact spec_DrawOctaveOf.mono _ _
   | exact spec_ReduceRatio.mono _ _ _
   | exact spec_ValidRatio.mono _ _ _
   | exact LeO.none _
   | refine LeO.ite ?_ ?_
   | refine LeO.bind ?_ (fun _ => ?_))
theorem laws_FnCents.mono : ∀ a0 a1 k, LeO (laws_FnCents.f k a0 a1) (laws_FnCents.f (k + 1) a0 a1) := by
 intro a0 a1 k
 obtain ⟨ih0, ih1, ih2, ih3⟩ := laws_FnCents.mono_l k
 unfold laws_FnCents.f
 repeat' first
  | (with_reducible exact ih0 _ _ _)
  | (with_reducible exact ih1 _ _ _)
  | (with_reducible exact ih2 _ _)
  | (with_reducible exact ih3 _ _ _ _ _)
  | (with_reducible exact impl_BestRatio.mono _ _ _)
  | (with_reducible exact impl_CentsOf.mono _ _ _)
  | (with_reducible exact impl_CompareRatios.mono _ _ _ _ _)
  | (with_reducible exact impl_OctaveOf.mono _ _ _)
  | (with_reducible exact spec_CentsOf.mono _ _ _)
  | (with_reducible exact spec_DrawCompareRatios.mono _ _)
  | (with_reducible exact spec_DrawOctaveOf.mono _ _)
  | (with_reducible exact spec_ReduceRatio.mono _ _ _)
  | (with_reducible exact spec_ValidRatio.mono _ _ _)
  | (with_reducible exact LeO.refl _)
  | (with_reducible exact LeO.none _)
  | (with_reducible refine LeO.ite ?_ ?_)
  | (with_reducible refine LeO.bind ?_ (fun _ => ?_))
  | exact ih0 _ _ _
  | exact ih1 _ _ _
  | exact ih2 _ _
  | exact ih3 _ _ _ _ _
  | exact impl_BestRatio.mono _ _ _
  | exact impl_CentsOf.mono _ _ _
  | exact impl_CompareRatios.mono _ _ _ _ _
  | exact impl_OctaveOf.mono _ _ _
  | exact spec_CentsOf.mono _ _ _
  | exact spec_DrawCompareRatios.mono _ _
  | exact spec_DrawOctaveOf.mono _ _
  | exact spec_ReduceRatio.mono _ _ _
  | exact spec_ValidRatio.mono _ _ _
  | exact LeO.none _
  | refine LeO.ite ?_ ?_
  | refine LeO.bind ?_ (fun _ => ?_)

end Go.Proofs.YtmeflmlejcmckaaDoor.PC
