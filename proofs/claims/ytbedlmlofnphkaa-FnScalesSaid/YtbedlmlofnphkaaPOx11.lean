-- WRITTEN BY wip/gprint.py, a program of this session's over the kit's print, with contracts given by hand
import Derived.Test.YtbedlmlofnphkaaPOx0
import Derived.Test.YtbedlmlofnphkaaPOx1
import Derived.Test.YtbedlmlofnphkaaPOx3
import Derived.Test.YtbedlmlofnphkaaPOx4
import Derived.Test.YtbedlmlofnphkaaPOx5
import Derived.Test.YtbedlmlofnphkaaPOx6
import Derived.Test.YtbedlmlofnphkaaPOx7
import Derived.Test.YtbedlmlofnphkaaPOx8
import Derived.Test.YtbedlmlofnphkaaPOx9
import Derived.Test.YtbedlmlofnphkaaPOx10
namespace Go.Proofs.Ytbedlmlofnphkaa.PO
open Go.RowKit Go.Proofs.YtbedlmlofnphkaaW.PrintWords Go.Proofs.YtbedlmlofnphkaaW.PrintLast Go.Proofs.YtbedlmlofnphkaaW.PrintMore
attribute [local go_sem] max2_int min2_int max_two min_two max_three min_three max_four min_four   -- for this text's walks alone
set_option linter.unusedVariables false
set_option linter.unusedSimpArgs false

/-! ### laws_FnScales: function 7 -/
mutual
def laws_FnScales.j0 : Nat → List Int → List Int → Int → Int → Int → Int → Bool → Option (Bool)
 | 0, _, _, _, _, _, _, _ => none
 | k + 1, x1, x5, x6, x7, x8, x16, x138 => if x138 = true then (some false) else (if (wrap64 (x7 + 1)) < (wrap64 (2 * x6)) then ((impl_ToneAt.f k x5 (wrap64 (x7 + 1))).bind fun bt243 => (if bt243.2 = 0 then (if bt243.1 ≤ x8 then (some false) else (laws_FnScales.j1 k x1 x6 x16)) else (some false))) else (laws_FnScales.j1 k x1 x6 x16))
def laws_FnScales.j1 : Nat → List Int → Int → Int → Option (Bool)
 | 0, _, _, _ => none
 | k + 1, x1, x6, x16 => (laws_r8Wide.f x1 1 462).bind fun t245 => (if x16 = 0 then (none) else ((impl_NumberedScale.f k x6 (Int.tmod t245 x16)).bind fun bt246 => ((impl_ScaleNumber.f k bt246.1).bind fun bt250 => ((laws_r8At.f x1 3 12).bind fun t252 => ((impl_ToneName.f t252).bind fun t253 => ((impl_ToneNamed.f t253).bind fun bt254 => (if bt246.2 = 0 then ((spec_ValidScale.f k bt246.1).bind fun t256 => (if t256 = true then (if (bt246.1.length : Int) = x6 then (if bt250.2 = 0 then (if bt250.1 = (Int.tmod t245 x16) then (if bt254.2 = true then ((laws_r8At.f x1 3 12).bind fun t257 => (some (bt254.1 == t257))) else (some false)) else (some false)) else (some false)) else (some false)) else (some false))) else (some false))))))))
end
def laws_FnScales.f (k : Nat) (l0 : List Int) (l1 : List Int) : Option (Bool) := (laws_r8Long.f l0 l1).bind fun t217 => (if t217 = true then (some true) else ((spec_R8Scale.f k l0).bind fun t218 => ((laws_r8At.f l1 0 (wrap64 (3 * (t218.length : Int)))).bind fun t221 => ((impl_ToneAt.f k t218 (wrap64 (t221 - (t218.length : Int)))).bind fun bt222 => ((impl_DegreeOf.f k t218 bt222.1).bind fun bt224 => ((impl_ScaleText.f k t218).bind fun t226 => ((impl_ReadScale.f k t226).bind fun bt227 => ((impl_ScaleNumber.f k t218).bind fun bt231 => ((impl_CountScales.f k (t218.length : Int)).bind fun bt233 => ((impl_NumberedScale.f k (t218.length : Int) bt231.1).bind fun bt235 => (if bt222.2 = 0 then (if bt224.2 = 0 then (if bt224.1 = (wrap64 (t221 - (t218.length : Int))) then (if bt222.1 < (-12) then (laws_FnScales.j0 k l1 t218 (t218.length : Int) (wrap64 (t221 - (t218.length : Int))) bt222.1 bt233.1 true) else (if bt222.1 > 23 then (laws_FnScales.j0 k l1 t218 (t218.length : Int) (wrap64 (t221 - (t218.length : Int))) bt222.1 bt233.1 true) else ((impl_ToneOf.f bt222.1).bind fun t239 => ((laws_r8Has.f k t218 t239).bind fun t240 => (if t240 = true then (if bt227.2 = true then ((laws_r8Same.f k bt227.1 t218).bind fun t241 => (if t241 = true then (if bt231.2 = 0 then (if bt233.2 = 0 then (if bt231.1 < 0 then (laws_FnScales.j0 k l1 t218 (t218.length : Int) (wrap64 (t221 - (t218.length : Int))) bt222.1 bt233.1 true) else (if bt231.1 ≥ bt233.1 then (laws_FnScales.j0 k l1 t218 (t218.length : Int) (wrap64 (t221 - (t218.length : Int))) bt222.1 bt233.1 true) else (if bt235.2 = 0 then ((laws_r8Same.f k bt235.1 t218).bind fun t242 => (laws_FnScales.j0 k l1 t218 (t218.length : Int) (wrap64 (t221 - (t218.length : Int))) bt222.1 bt233.1 (!t242))) else (laws_FnScales.j0 k l1 t218 (t218.length : Int) (wrap64 (t221 - (t218.length : Int))) bt222.1 bt233.1 true)))) else (laws_FnScales.j0 k l1 t218 (t218.length : Int) (wrap64 (t221 - (t218.length : Int))) bt222.1 bt233.1 true)) else (laws_FnScales.j0 k l1 t218 (t218.length : Int) (wrap64 (t221 - (t218.length : Int))) bt222.1 bt233.1 true)) else (laws_FnScales.j0 k l1 t218 (t218.length : Int) (wrap64 (t221 - (t218.length : Int))) bt222.1 bt233.1 true))) else (laws_FnScales.j0 k l1 t218 (t218.length : Int) (wrap64 (t221 - (t218.length : Int))) bt222.1 bt233.1 true)) else (laws_FnScales.j0 k l1 t218 (t218.length : Int) (wrap64 (t221 - (t218.length : Int))) bt222.1 bt233.1 true)))))) else (laws_FnScales.j0 k l1 t218 (t218.length : Int) (wrap64 (t221 - (t218.length : Int))) bt222.1 bt233.1 true)) else (laws_FnScales.j0 k l1 t218 (t218.length : Int) (wrap64 (t221 - (t218.length : Int))) bt222.1 bt233.1 true)) else (laws_FnScales.j0 k l1 t218 (t218.length : Int) (wrap64 (t221 - (t218.length : Int))) bt222.1 bt233.1 true))))))))))))
theorem laws_FnScales.mono_l : ∀ k, (∀ y0 y1 y2 y3 y4 y5 y6, LeO (laws_FnScales.j0 k y0 y1 y2 y3 y4 y5 y6) (laws_FnScales.j0 (k + 1) y0 y1 y2 y3 y4 y5 y6)) ∧ (∀ y0 y1 y2, LeO (laws_FnScales.j1 k y0 y1 y2) (laws_FnScales.j1 (k + 1) y0 y1 y2))
 | 0 => ⟨fun _ _ _ _ _ _ _ r h => by simp [laws_FnScales.j0] at h, fun _ _ _ r h => by simp [laws_FnScales.j1] at h⟩
 | k + 1 => by
  obtain ⟨ih0, ih1⟩ := laws_FnScales.mono_l k
  refine ⟨?_, ?_⟩
  all_goals (intros; (first | unfold laws_FnScales.j0 | unfold laws_FnScales.j1); repeat' first
   | (with_reducible exact ih0 _ _ _ _ _ _ _)
   | (with_reducible exact ih1 _ _ _)
   | (with_reducible exact impl_CountScales.mono _ _)
   | (with_reducible exact impl_DegreeOf.mono _ _ _)
   | (with_reducible exact impl_NumberedScale.mono _ _ _)
   | (with_reducible exact impl_ReadScale.mono _ _)
   | (with_reducible exact impl_ScaleNumber.mono _ _)
   | (with_reducible exact impl_ScaleText.mono _ _)
   | (with_reducible exact impl_ToneAt.mono _ _ _)
   | (with_reducible exact laws_r8Has.mono _ _ _)
   | (with_reducible exact laws_r8Same.mono _ _ _)
   | (with_reducible exact spec_R8Scale.mono _ _)
   | (with_reducible exact spec_ValidScale.mono _ _)
   | (with_reducible exact LeO.refl _)
   | (with_reducible exact LeO.none _)
   | (with_reducible refine LeO.ite ?_ ?_)
   | (with_reducible refine LeO.bind ?_ (fun _ => ?_))
   | exact ih0 _ _ _ _ _ _ _
   | exact ih1 _ _ _
   | exact impl_CountScales.mono _ _
   | exact impl_DegreeOf.mono _ _ _
   | exact impl_NumberedScale.mono _ _ _
   | exact impl_ReadScale.mono _ _
   | exact impl_ScaleNumber.mono _ _
   | exact impl_ScaleText.mono _ _
   | exact impl_ToneAt.mono _ _ _
   | exact laws_r8Has.mono _ _ _
   | exact laws_r8Same.mono _ _ _
   | exact spec_R8Scale.mono _ _
   | exact spec_ValidScale.mono _ _
   | exact LeO.none _
   | refine LeO.ite ?_ ?_
   | refine LeO.bind ?_ (fun _ => ?_))
theorem laws_FnScales.mono : ∀ a0 a1 k, LeO (laws_FnScales.f k a0 a1) (laws_FnScales.f (k + 1) a0 a1) := by
 intro a0 a1 k
 obtain ⟨ih0, ih1⟩ := laws_FnScales.mono_l k
 unfold laws_FnScales.f
 repeat' first
  | (with_reducible exact ih0 _ _ _ _ _ _ _)
  | (with_reducible exact ih1 _ _ _)
  | (with_reducible exact impl_CountScales.mono _ _)
  | (with_reducible exact impl_DegreeOf.mono _ _ _)
  | (with_reducible exact impl_NumberedScale.mono _ _ _)
  | (with_reducible exact impl_ReadScale.mono _ _)
  | (with_reducible exact impl_ScaleNumber.mono _ _)
  | (with_reducible exact impl_ScaleText.mono _ _)
  | (with_reducible exact impl_ToneAt.mono _ _ _)
  | (with_reducible exact laws_r8Has.mono _ _ _)
  | (with_reducible exact laws_r8Same.mono _ _ _)
  | (with_reducible exact spec_R8Scale.mono _ _)
  | (with_reducible exact spec_ValidScale.mono _ _)
  | (with_reducible exact LeO.refl _)
  | (with_reducible exact LeO.none _)
  | (with_reducible refine LeO.ite ?_ ?_)
  | (with_reducible refine LeO.bind ?_ (fun _ => ?_))
  | exact ih0 _ _ _ _ _ _ _
  | exact ih1 _ _ _
  | exact impl_CountScales.mono _ _
  | exact impl_DegreeOf.mono _ _ _
  | exact impl_NumberedScale.mono _ _ _
  | exact impl_ReadScale.mono _ _
  | exact impl_ScaleNumber.mono _ _
  | exact impl_ScaleText.mono _ _
  | exact impl_ToneAt.mono _ _ _
  | exact laws_r8Has.mono _ _ _
  | exact laws_r8Same.mono _ _ _
  | exact spec_R8Scale.mono _ _
  | exact spec_ValidScale.mono _ _
  | exact LeO.none _
  | refine LeO.ite ?_ ?_
  | refine LeO.bind ?_ (fun _ => ?_)

end Go.Proofs.Ytbedlmlofnphkaa.PO
