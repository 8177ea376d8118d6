-- WRITTEN BY wip/gprint.py, a program of this session's over the kit's print, with contracts given by hand
import Derived.Test.YtbedlmlofnphkaaPOx0
import Derived.Test.YtbedlmlofnphkaaPOx1
import Derived.Test.YtbedlmlofnphkaaPOx3
import Derived.Test.YtbedlmlofnphkaaPOx4
import Derived.Test.YtbedlmlofnphkaaPOx5
import Derived.Test.YtbedlmlofnphkaaPOx6
import Derived.Test.YtbedlmlofnphkaaPOx7
import Derived.Test.YtbedlmlofnphkaaPOx8
import Derived.Test.YtbedlmlofnphkaaPOx9
import Derived.Test.YtbedlmlofnphkaaPOx10
import Derived.Test.YtbedlmlofnphkaaPOx11
namespace Go.Proofs.Ytbedlmlofnphkaa.PO
open Go.RowKit Go.Proofs.YtbedlmlofnphkaaW.PrintWords Go.Proofs.YtbedlmlofnphkaaW.PrintLast Go.Proofs.YtbedlmlofnphkaaW.PrintMore
attribute [local go_sem] max2_int min2_int max_two min_two max_three min_three max_four min_four   -- for this text's walks alone
set_option linter.unusedVariables false
set_option linter.unusedSimpArgs false

set_option maxHeartbeats 8000000 in
set_option maxRecDepth 100000 in
theorem laws_FnScales.calls (k : Nat) (A0 : Option Addr) (c0 : Nat) (l0 : List Int) (A1 : Option Addr) (c1 : Nat) (l1 : List Int) (r : Bool) (w : World) (hr0 : Kd.C (Kd.int .u8) w A0 l0.length l0) (hc0 : l0.length ≤ c0) (hr1 : Kd.C (Kd.int .u8) w A1 l1.length l1) (hc1 : l1.length ≤ c1) (h : laws_FnScales.f k l0 l1 = some r) :
 Calls Try.prog 7 #[.slice A0 l0.length c0, .slice A1 l1.length c1] w fun e w' => e = .returned (.bool r) ∧ Below w.heap.size w w' := by
 have HR0 := Aside0.mk hr0
 have HC0 := Aside0.mk hc0
 clear hr0 hc0
 have HR1 := Aside0.mk hr1
 have HC1 := Aside0.mk hc1
 clear hr1 hc1
 have HB := Aside0.mk (Below.refl w.heap.size w)
 have H : ((laws_r8Long.f l0 l1).bind fun t217 => (if t217 = true then (some true) else ((spec_R8Scale.f k l0).bind fun t218 => ((laws_r8At.f l1 0 (wrap64 (3 * (t218.length : Int)))).bind fun t221 => ((impl_ToneAt.f k t218 (wrap64 (t221 - (t218.length : Int)))).bind fun bt222 => ((impl_DegreeOf.f k t218 bt222.1).bind fun bt224 => ((impl_ScaleText.f k t218).bind fun t226 => ((impl_ReadScale.f k t226).bind fun bt227 => ((impl_ScaleNumber.f k t218).bind fun bt231 => ((impl_CountScales.f k (t218.length : Int)).bind fun bt233 => ((impl_NumberedScale.f k (t218.length : Int) bt231.1).bind fun bt235 => (if bt222.2 = 0 then (if bt224.2 = 0 then (if bt224.1 = (wrap64 (t221 - (t218.length : Int))) then (if bt222.1 < (-12) then (laws_FnScales.j0 k l1 t218 (t218.length : Int) (wrap64 (t221 - (t218.length : Int))) bt222.1 bt233.1 true) else (if bt222.1 > 23 then (laws_FnScales.j0 k l1 t218 (t218.length : Int) (wrap64 (t221 - (t218.length : Int))) bt222.1 bt233.1 true) else ((impl_ToneOf.f bt222.1).bind fun t239 => ((laws_r8Has.f k t218 t239).bind fun t240 => (if t240 = true then (if bt227.2 = true then ((laws_r8Same.f k bt227.1 t218).bind fun t241 => (if t241 = true then (if bt231.2 = 0 then (if bt233.2 = 0 then (if bt231.1 < 0 then (laws_FnScales.j0 k l1 t218 (t218.length : Int) (wrap64 (t221 - (t218.length : Int))) bt222.1 bt233.1 true) else (if bt231.1 ≥ bt233.1 then (laws_FnScales.j0 k l1 t218 (t218.length : Int) (wrap64 (t221 - (t218.length : Int))) bt222.1 bt233.1 true) else (if bt235.2 = 0 then ((laws_r8Same.f k bt235.1 t218).bind fun t242 => (laws_FnScales.j0 k l1 t218 (t218.length : Int) (wrap64 (t221 - (t218.length : Int))) bt222.1 bt233.1 (!t242))) else (laws_FnScales.j0 k l1 t218 (t218.length : Int) (wrap64 (t221 - (t218.length : Int))) bt222.1 bt233.1 true)))) else (laws_FnScales.j0 k l1 t218 (t218.length : Int) (wrap64 (t221 - (t218.length : Int))) bt222.1 bt233.1 true)) else (laws_FnScales.j0 k l1 t218 (t218.length : Int) (wrap64 (t221 - (t218.length : Int))) bt222.1 bt233.1 true)) else (laws_FnScales.j0 k l1 t218 (t218.length : Int) (wrap64 (t221 - (t218.length : Int))) bt222.1 bt233.1 true))) else (laws_FnScales.j0 k l1 t218 (t218.length : Int) (wrap64 (t221 - (t218.length : Int))) bt222.1 bt233.1 true)) else (laws_FnScales.j0 k l1 t218 (t218.length : Int) (wrap64 (t221 - (t218.length : Int))) bt222.1 bt233.1 true)))))) else (laws_FnScales.j0 k l1 t218 (t218.length : Int) (wrap64 (t221 - (t218.length : Int))) bt222.1 bt233.1 true)) else (laws_FnScales.j0 k l1 t218 (t218.length : Int) (wrap64 (t221 - (t218.length : Int))) bt222.1 bt233.1 true)) else (laws_FnScales.j0 k l1 t218 (t218.length : Int) (wrap64 (t221 - (t218.length : Int))) bt222.1 bt233.1 true))))))))))))) = some r := h
 clear h
 replace H := Option.bind_eq_some_iff.mp H
 obtain ⟨t217, A30, H⟩ := H
 replace H : (if t217 = true then (some true) else ((spec_R8Scale.f k l0).bind fun t218 => ((laws_r8At.f l1 0 (wrap64 (3 * (t218.length : Int)))).bind fun t221 => ((impl_ToneAt.f k t218 (wrap64 (t221 - (t218.length : Int)))).bind fun bt222 => ((impl_DegreeOf.f k t218 bt222.1).bind fun bt224 => ((impl_ScaleText.f k t218).bind fun t226 => ((impl_ReadScale.f k t226).bind fun bt227 => ((impl_ScaleNumber.f k t218).bind fun bt231 => ((impl_CountScales.f k (t218.length : Int)).bind fun bt233 => ((impl_NumberedScale.f k (t218.length : Int) bt231.1).bind fun bt235 => (if bt222.2 = 0 then (if bt224.2 = 0 then (if bt224.1 = (wrap64 (t221 - (t218.length : Int))) then (if bt222.1 < (-12) then (laws_FnScales.j0 k l1 t218 (t218.length : Int) (wrap64 (t221 - (t218.length : Int))) bt222.1 bt233.1 true) else (if bt222.1 > 23 then (laws_FnScales.j0 k l1 t218 (t218.length : Int) (wrap64 (t221 - (t218.length : Int))) bt222.1 bt233.1 true) else ((impl_ToneOf.f bt222.1).bind fun t239 => ((laws_r8Has.f k t218 t239).bind fun t240 => (if t240 = true then (if bt227.2 = true then ((laws_r8Same.f k bt227.1 t218).bind fun t241 => (if t241 = true then (if bt231.2 = 0 then (if bt233.2 = 0 then (if bt231.1 < 0 then (laws_FnScales.j0 k l1 t218 (t218.length : Int) (wrap64 (t221 - (t218.length : Int))) bt222.1 bt233.1 true) else (if bt231.1 ≥ bt233.1 then (laws_FnScales.j0 k l1 t218 (t218.length : Int) (wrap64 (t221 - (t218.length : Int))) bt222.1 bt233.1 true) else (if bt235.2 = 0 then ((laws_r8Same.f k bt235.1 t218).bind fun t242 => (laws_FnScales.j0 k l1 t218 (t218.length : Int) (wrap64 (t221 - (t218.length : Int))) bt222.1 bt233.1 (!t242))) else (laws_FnScales.j0 k l1 t218 (t218.length : Int) (wrap64 (t221 - (t218.length : Int))) bt222.1 bt233.1 true)))) else (laws_FnScales.j0 k l1 t218 (t218.length : Int) (wrap64 (t221 - (t218.length : Int))) bt222.1 bt233.1 true)) else (laws_FnScales.j0 k l1 t218 (t218.length : Int) (wrap64 (t221 - (t218.length : Int))) bt222.1 bt233.1 true)) else (laws_FnScales.j0 k l1 t218 (t218.length : Int) (wrap64 (t221 - (t218.length : Int))) bt222.1 bt233.1 true))) else (laws_FnScales.j0 k l1 t218 (t218.length : Int) (wrap64 (t221 - (t218.length : Int))) bt222.1 bt233.1 true)) else (laws_FnScales.j0 k l1 t218 (t218.length : Int) (wrap64 (t221 - (t218.length : Int))) bt222.1 bt233.1 true)))))) else (laws_FnScales.j0 k l1 t218 (t218.length : Int) (wrap64 (t221 - (t218.length : Int))) bt222.1 bt233.1 true)) else (laws_FnScales.j0 k l1 t218 (t218.length : Int) (wrap64 (t221 - (t218.length : Int))) bt222.1 bt233.1 true)) else (laws_FnScales.j0 k l1 t218 (t218.length : Int) (wrap64 (t221 - (t218.length : Int))) bt222.1 bt233.1 true)))))))))))) = some r := H
 have A3 := Aside0.mk A30
 clear A30
 by_cases c4 : t217 = true
 · subst c4
   have H1 : (some true) = some r := by rw [if_pos rfl] at H; exact H
   clear H
   have H := H1
   clear H1
   obtain rfl := Option.some.inj H
   go_enter Try.func7, Try.ntmps7
   go_wp2_with (first | ((with_reducible refine gate_callee (f := 13) rfl ?_); refine gL_ (some 31) rfl rfl Try.func13 #[.slice A0 l0.length c0, .slice A1 l1.length c1] rfl ?_; (with_reducible refine (laws_r8Long.calls _ _ l0 _ _ l1 true _ ?side1 ?side2 ?side3 ?side4 A3.out).mono ?_); (case side1 => exact tC HR0.out); (case side2 => exact HC0.out); (case side3 => exact tC HR1.out); (case side4 => exact HC1.out); rintro e w' ⟨rfl, ⟨nd, rfl⟩⟩; refine ⟨_, rfl, ?_⟩))
   go_ret
   exact ⟨tE, tH HB⟩
 as_aux_lemma =>
 replace c4 := Bool.eq_false_iff.mpr c4
 subst c4
 have H1 : ((spec_R8Scale.f k l0).bind fun t218 => ((laws_r8At.f l1 0 (wrap64 (3 * (t218.length : Int)))).bind fun t221 => ((impl_ToneAt.f k t218 (wrap64 (t221 - (t218.length : Int)))).bind fun bt222 => ((impl_DegreeOf.f k t218 bt222.1).bind fun bt224 => ((impl_ScaleText.f k t218).bind fun t226 => ((impl_ReadScale.f k t226).bind fun bt227 => ((impl_ScaleNumber.f k t218).bind fun bt231 => ((impl_CountScales.f k (t218.length : Int)).bind fun bt233 => ((impl_NumberedScale.f k (t218.length : Int) bt231.1).bind fun bt235 => (if bt222.2 = 0 then (if bt224.2 = 0 then (if bt224.1 = (wrap64 (t221 - (t218.length : Int))) then (if bt222.1 < (-12) then (laws_FnScales.j0 k l1 t218 (t218.length : Int) (wrap64 (t221 - (t218.length : Int))) bt222.1 bt233.1 true) else (if bt222.1 > 23 then (laws_FnScales.j0 k l1 t218 (t218.length : Int) (wrap64 (t221 - (t218.length : Int))) bt222.1 bt233.1 true) else ((impl_ToneOf.f bt222.1).bind fun t239 => ((laws_r8Has.f k t218 t239).bind fun t240 => (if t240 = true then (if bt227.2 = true then ((laws_r8Same.f k bt227.1 t218).bind fun t241 => (if t241 = true then (if bt231.2 = 0 then (if bt233.2 = 0 then (if bt231.1 < 0 then (laws_FnScales.j0 k l1 t218 (t218.length : Int) (wrap64 (t221 - (t218.length : Int))) bt222.1 bt233.1 true) else (if bt231.1 ≥ bt233.1 then (laws_FnScales.j0 k l1 t218 (t218.length : Int) (wrap64 (t221 - (t218.length : Int))) bt222.1 bt233.1 true) else (if bt235.2 = 0 then ((laws_r8Same.f k bt235.1 t218).bind fun t242 => (laws_FnScales.j0 k l1 t218 (t218.length : Int) (wrap64 (t221 - (t218.length : Int))) bt222.1 bt233.1 (!t242))) else (laws_FnScales.j0 k l1 t218 (t218.length : Int) (wrap64 (t221 - (t218.length : Int))) bt222.1 bt233.1 true)))) else (laws_FnScales.j0 k l1 t218 (t218.length : Int) (wrap64 (t221 - (t218.length : Int))) bt222.1 bt233.1 true)) else (laws_FnScales.j0 k l1 t218 (t218.length : Int) (wrap64 (t221 - (t218.length : Int))) bt222.1 bt233.1 true)) else (laws_FnScales.j0 k l1 t218 (t218.length : Int) (wrap64 (t221 - (t218.length : Int))) bt222.1 bt233.1 true))) else (laws_FnScales.j0 k l1 t218 (t218.length : Int) (wrap64 (t221 - (t218.length : Int))) bt222.1 bt233.1 true)) else (laws_FnScales.j0 k l1 t218 (t218.length : Int) (wrap64 (t221 - (t218.length : Int))) bt222.1 bt233.1 true)))))) else (laws_FnScales.j0 k l1 t218 (t218.length : Int) (wrap64 (t221 - (t218.length : Int))) bt222.1 bt233.1 true)) else (laws_FnScales.j0 k l1 t218 (t218.length : Int) (wrap64 (t221 - (t218.length : Int))) bt222.1 bt233.1 true)) else (laws_FnScales.j0 k l1 t218 (t218.length : Int) (wrap64 (t221 - (t218.length : Int))) bt222.1 bt233.1 true))))))))))) = some r := by rw [if_neg (show ¬ (false = true) by decide)] at H; exact H
 clear H
 have H := H1
 clear H1
 replace H := Option.bind_eq_some_iff.mp H
 obtain ⟨t218, A50, H⟩ := H
 replace H : ((laws_r8At.f l1 0 (wrap64 (3 * (t218.length : Int)))).bind fun t221 => ((impl_ToneAt.f k t218 (wrap64 (t221 - (t218.length : Int)))).bind fun bt222 => ((impl_DegreeOf.f k t218 bt222.1).bind fun bt224 => ((impl_ScaleText.f k t218).bind fun t226 => ((impl_ReadScale.f k t226).bind fun bt227 => ((impl_ScaleNumber.f k t218).bind fun bt231 => ((impl_CountScales.f k (t218.length : Int)).bind fun bt233 => ((impl_NumberedScale.f k (t218.length : Int) bt231.1).bind fun bt235 => (if bt222.2 = 0 then (if bt224.2 = 0 then (if bt224.1 = (wrap64 (t221 - (t218.length : Int))) then (if bt222.1 < (-12) then (laws_FnScales.j0 k l1 t218 (t218.length : Int) (wrap64 (t221 - (t218.length : Int))) bt222.1 bt233.1 true) else (if bt222.1 > 23 then (laws_FnScales.j0 k l1 t218 (t218.length : Int) (wrap64 (t221 - (t218.length : Int))) bt222.1 bt233.1 true) else ((impl_ToneOf.f bt222.1).bind fun t239 => ((laws_r8Has.f k t218 t239).bind fun t240 => (if t240 = true then (if bt227.2 = true then ((laws_r8Same.f k bt227.1 t218).bind fun t241 => (if t241 = true then (if bt231.2 = 0 then (if bt233.2 = 0 then (if bt231.1 < 0 then (laws_FnScales.j0 k l1 t218 (t218.length : Int) (wrap64 (t221 - (t218.length : Int))) bt222.1 bt233.1 true) else (if bt231.1 ≥ bt233.1 then (laws_FnScales.j0 k l1 t218 (t218.length : Int) (wrap64 (t221 - (t218.length : Int))) bt222.1 bt233.1 true) else (if bt235.2 = 0 then ((laws_r8Same.f k bt235.1 t218).bind fun t242 => (laws_FnScales.j0 k l1 t218 (t218.length : Int) (wrap64 (t221 - (t218.length : Int))) bt222.1 bt233.1 (!t242))) else (laws_FnScales.j0 k l1 t218 (t218.length : Int) (wrap64 (t221 - (t218.length : Int))) bt222.1 bt233.1 true)))) else (laws_FnScales.j0 k l1 t218 (t218.length : Int) (wrap64 (t221 - (t218.length : Int))) bt222.1 bt233.1 true)) else (laws_FnScales.j0 k l1 t218 (t218.length : Int) (wrap64 (t221 - (t218.length : Int))) bt222.1 bt233.1 true)) else (laws_FnScales.j0 k l1 t218 (t218.length : Int) (wrap64 (t221 - (t218.length : Int))) bt222.1 bt233.1 true))) else (laws_FnScales.j0 k l1 t218 (t218.length : Int) (wrap64 (t221 - (t218.length : Int))) bt222.1 bt233.1 true)) else (laws_FnScales.j0 k l1 t218 (t218.length : Int) (wrap64 (t221 - (t218.length : Int))) bt222.1 bt233.1 true)))))) else (laws_FnScales.j0 k l1 t218 (t218.length : Int) (wrap64 (t221 - (t218.length : Int))) bt222.1 bt233.1 true)) else (laws_FnScales.j0 k l1 t218 (t218.length : Int) (wrap64 (t221 - (t218.length : Int))) bt222.1 bt233.1 true)) else (laws_FnScales.j0 k l1 t218 (t218.length : Int) (wrap64 (t221 - (t218.length : Int))) bt222.1 bt233.1 true)))))))))) = some r := H
 have A5 := Aside0.mk A50
 clear A50
 replace H := Option.bind_eq_some_iff.mp H
 obtain ⟨t221, A60, H⟩ := H
 replace H : ((impl_ToneAt.f k t218 (wrap64 (t221 - (t218.length : Int)))).bind fun bt222 => ((impl_DegreeOf.f k t218 bt222.1).bind fun bt224 => ((impl_ScaleText.f k t218).bind fun t226 => ((impl_ReadScale.f k t226).bind fun bt227 => ((impl_ScaleNumber.f k t218).bind fun bt231 => ((impl_CountScales.f k (t218.length : Int)).bind fun bt233 => ((impl_NumberedScale.f k (t218.length : Int) bt231.1).bind fun bt235 => (if bt222.2 = 0 then (if bt224.2 = 0 then (if bt224.1 = (wrap64 (t221 - (t218.length : Int))) then (if bt222.1 < (-12) then (laws_FnScales.j0 k l1 t218 (t218.length : Int) (wrap64 (t221 - (t218.length : Int))) bt222.1 bt233.1 true) else (if bt222.1 > 23 then (laws_FnScales.j0 k l1 t218 (t218.length : Int) (wrap64 (t221 - (t218.length : Int))) bt222.1 bt233.1 true) else ((impl_ToneOf.f bt222.1).bind fun t239 => ((laws_r8Has.f k t218 t239).bind fun t240 => (if t240 = true then (if bt227.2 = true then ((laws_r8Same.f k bt227.1 t218).bind fun t241 => (if t241 = true then (if bt231.2 = 0 then (if bt233.2 = 0 then (if bt231.1 < 0 then (laws_FnScales.j0 k l1 t218 (t218.length : Int) (wrap64 (t221 - (t218.length : Int))) bt222.1 bt233.1 true) else (if bt231.1 ≥ bt233.1 then (laws_FnScales.j0 k l1 t218 (t218.length : Int) (wrap64 (t221 - (t218.length : Int))) bt222.1 bt233.1 true) else (if bt235.2 = 0 then ((laws_r8Same.f k bt235.1 t218).bind fun t242 => (laws_FnScales.j0 k l1 t218 (t218.length : Int) (wrap64 (t221 - (t218.length : Int))) bt222.1 bt233.1 (!t242))) else (laws_FnScales.j0 k l1 t218 (t218.length : Int) (wrap64 (t221 - (t218.length : Int))) bt222.1 bt233.1 true)))) else (laws_FnScales.j0 k l1 t218 (t218.length : Int) (wrap64 (t221 - (t218.length : Int))) bt222.1 bt233.1 true)) else (laws_FnScales.j0 k l1 t218 (t218.length : Int) (wrap64 (t221 - (t218.length : Int))) bt222.1 bt233.1 true)) else (laws_FnScales.j0 k l1 t218 (t218.length : Int) (wrap64 (t221 - (t218.length : Int))) bt222.1 bt233.1 true))) else (laws_FnScales.j0 k l1 t218 (t218.length : Int) (wrap64 (t221 - (t218.length : Int))) bt222.1 bt233.1 true)) else (laws_FnScales.j0 k l1 t218 (t218.length : Int) (wrap64 (t221 - (t218.length : Int))) bt222.1 bt233.1 true)))))) else (laws_FnScales.j0 k l1 t218 (t218.length : Int) (wrap64 (t221 - (t218.length : Int))) bt222.1 bt233.1 true)) else (laws_FnScales.j0 k l1 t218 (t218.length : Int) (wrap64 (t221 - (t218.length : Int))) bt222.1 bt233.1 true)) else (laws_FnScales.j0 k l1 t218 (t218.length : Int) (wrap64 (t221 - (t218.length : Int))) bt222.1 bt233.1 true))))))))) = some r := H
 have A6 := Aside0.mk A60
 clear A60
 replace H := Option.bind_eq_some_iff.mp H
 obtain ⟨⟨t222, t223⟩, A70, H⟩ := H
 replace H : ((impl_DegreeOf.f k t218 t222).bind fun bt224 => ((impl_ScaleText.f k t218).bind fun t226 => ((impl_ReadScale.f k t226).bind fun bt227 => ((impl_ScaleNumber.f k t218).bind fun bt231 => ((impl_CountScales.f k (t218.length : Int)).bind fun bt233 => ((impl_NumberedScale.f k (t218.length : Int) bt231.1).bind fun bt235 => (if t223 = 0 then (if bt224.2 = 0 then (if bt224.1 = (wrap64 (t221 - (t218.length : Int))) then (if t222 < (-12) then (laws_FnScales.j0 k l1 t218 (t218.length : Int) (wrap64 (t221 - (t218.length : Int))) t222 bt233.1 true) else (if t222 > 23 then (laws_FnScales.j0 k l1 t218 (t218.length : Int) (wrap64 (t221 - (t218.length : Int))) t222 bt233.1 true) else ((impl_ToneOf.f t222).bind fun t239 => ((laws_r8Has.f k t218 t239).bind fun t240 => (if t240 = true then (if bt227.2 = true then ((laws_r8Same.f k bt227.1 t218).bind fun t241 => (if t241 = true then (if bt231.2 = 0 then (if bt233.2 = 0 then (if bt231.1 < 0 then (laws_FnScales.j0 k l1 t218 (t218.length : Int) (wrap64 (t221 - (t218.length : Int))) t222 bt233.1 true) else (if bt231.1 ≥ bt233.1 then (laws_FnScales.j0 k l1 t218 (t218.length : Int) (wrap64 (t221 - (t218.length : Int))) t222 bt233.1 true) else (if bt235.2 = 0 then ((laws_r8Same.f k bt235.1 t218).bind fun t242 => (laws_FnScales.j0 k l1 t218 (t218.length : Int) (wrap64 (t221 - (t218.length : Int))) t222 bt233.1 (!t242))) else (laws_FnScales.j0 k l1 t218 (t218.length : Int) (wrap64 (t221 - (t218.length : Int))) t222 bt233.1 true)))) else (laws_FnScales.j0 k l1 t218 (t218.length : Int) (wrap64 (t221 - (t218.length : Int))) t222 bt233.1 true)) else (laws_FnScales.j0 k l1 t218 (t218.length : Int) (wrap64 (t221 - (t218.length : Int))) t222 bt233.1 true)) else (laws_FnScales.j0 k l1 t218 (t218.length : Int) (wrap64 (t221 - (t218.length : Int))) t222 bt233.1 true))) else (laws_FnScales.j0 k l1 t218 (t218.length : Int) (wrap64 (t221 - (t218.length : Int))) t222 bt233.1 true)) else (laws_FnScales.j0 k l1 t218 (t218.length : Int) (wrap64 (t221 - (t218.length : Int))) t222 bt233.1 true)))))) else (laws_FnScales.j0 k l1 t218 (t218.length : Int) (wrap64 (t221 - (t218.length : Int))) t222 bt233.1 true)) else (laws_FnScales.j0 k l1 t218 (t218.length : Int) (wrap64 (t221 - (t218.length : Int))) t222 bt233.1 true)) else (laws_FnScales.j0 k l1 t218 (t218.length : Int) (wrap64 (t221 - (t218.length : Int))) t222 bt233.1 true)))))))) = some r := H
 have A7 := Aside0.mk A70
 clear A70
 replace H := Option.bind_eq_some_iff.mp H
 obtain ⟨⟨t224, t225⟩, A80, H⟩ := H
 replace H : ((impl_ScaleText.f k t218).bind fun t226 => ((impl_ReadScale.f k t226).bind fun bt227 => ((impl_ScaleNumber.f k t218).bind fun bt231 => ((impl_CountScales.f k (t218.length : Int)).bind fun bt233 => ((impl_NumberedScale.f k (t218.length : Int) bt231.1).bind fun bt235 => (if t223 = 0 then (if t225 = 0 then (if t224 = (wrap64 (t221 - (t218.length : Int))) then (if t222 < (-12) then (laws_FnScales.j0 k l1 t218 (t218.length : Int) (wrap64 (t221 - (t218.length : Int))) t222 bt233.1 true) else (if t222 > 23 then (laws_FnScales.j0 k l1 t218 (t218.length : Int) (wrap64 (t221 - (t218.length : Int))) t222 bt233.1 true) else ((impl_ToneOf.f t222).bind fun t239 => ((laws_r8Has.f k t218 t239).bind fun t240 => (if t240 = true then (if bt227.2 = true then ((laws_r8Same.f k bt227.1 t218).bind fun t241 => (if t241 = true then (if bt231.2 = 0 then (if bt233.2 = 0 then (if bt231.1 < 0 then (laws_FnScales.j0 k l1 t218 (t218.length : Int) (wrap64 (t221 - (t218.length : Int))) t222 bt233.1 true) else (if bt231.1 ≥ bt233.1 then (laws_FnScales.j0 k l1 t218 (t218.length : Int) (wrap64 (t221 - (t218.length : Int))) t222 bt233.1 true) else (if bt235.2 = 0 then ((laws_r8Same.f k bt235.1 t218).bind fun t242 => (laws_FnScales.j0 k l1 t218 (t218.length : Int) (wrap64 (t221 - (t218.length : Int))) t222 bt233.1 (!t242))) else (laws_FnScales.j0 k l1 t218 (t218.length : Int) (wrap64 (t221 - (t218.length : Int))) t222 bt233.1 true)))) else (laws_FnScales.j0 k l1 t218 (t218.length : Int) (wrap64 (t221 - (t218.length : Int))) t222 bt233.1 true)) else (laws_FnScales.j0 k l1 t218 (t218.length : Int) (wrap64 (t221 - (t218.length : Int))) t222 bt233.1 true)) else (laws_FnScales.j0 k l1 t218 (t218.length : Int) (wrap64 (t221 - (t218.length : Int))) t222 bt233.1 true))) else (laws_FnScales.j0 k l1 t218 (t218.length : Int) (wrap64 (t221 - (t218.length : Int))) t222 bt233.1 true)) else (laws_FnScales.j0 k l1 t218 (t218.length : Int) (wrap64 (t221 - (t218.length : Int))) t222 bt233.1 true)))))) else (laws_FnScales.j0 k l1 t218 (t218.length : Int) (wrap64 (t221 - (t218.length : Int))) t222 bt233.1 true)) else (laws_FnScales.j0 k l1 t218 (t218.length : Int) (wrap64 (t221 - (t218.length : Int))) t222 bt233.1 true)) else (laws_FnScales.j0 k l1 t218 (t218.length : Int) (wrap64 (t221 - (t218.length : Int))) t222 bt233.1 true))))))) = some r := H
 have A8 := Aside0.mk A80
 clear A80
 replace H := Option.bind_eq_some_iff.mp H
 obtain ⟨t226, A90, H⟩ := H
 replace H : ((impl_ReadScale.f k t226).bind fun bt227 => ((impl_ScaleNumber.f k t218).bind fun bt231 => ((impl_CountScales.f k (t218.length : Int)).bind fun bt233 => ((impl_NumberedScale.f k (t218.length : Int) bt231.1).bind fun bt235 => (if t223 = 0 then (if t225 = 0 then (if t224 = (wrap64 (t221 - (t218.length : Int))) then (if t222 < (-12) then (laws_FnScales.j0 k l1 t218 (t218.length : Int) (wrap64 (t221 - (t218.length : Int))) t222 bt233.1 true) else (if t222 > 23 then (laws_FnScales.j0 k l1 t218 (t218.length : Int) (wrap64 (t221 - (t218.length : Int))) t222 bt233.1 true) else ((impl_ToneOf.f t222).bind fun t239 => ((laws_r8Has.f k t218 t239).bind fun t240 => (if t240 = true then (if bt227.2 = true then ((laws_r8Same.f k bt227.1 t218).bind fun t241 => (if t241 = true then (if bt231.2 = 0 then (if bt233.2 = 0 then (if bt231.1 < 0 then (laws_FnScales.j0 k l1 t218 (t218.length : Int) (wrap64 (t221 - (t218.length : Int))) t222 bt233.1 true) else (if bt231.1 ≥ bt233.1 then (laws_FnScales.j0 k l1 t218 (t218.length : Int) (wrap64 (t221 - (t218.length : Int))) t222 bt233.1 true) else (if bt235.2 = 0 then ((laws_r8Same.f k bt235.1 t218).bind fun t242 => (laws_FnScales.j0 k l1 t218 (t218.length : Int) (wrap64 (t221 - (t218.length : Int))) t222 bt233.1 (!t242))) else (laws_FnScales.j0 k l1 t218 (t218.length : Int) (wrap64 (t221 - (t218.length : Int))) t222 bt233.1 true)))) else (laws_FnScales.j0 k l1 t218 (t218.length : Int) (wrap64 (t221 - (t218.length : Int))) t222 bt233.1 true)) else (laws_FnScales.j0 k l1 t218 (t218.length : Int) (wrap64 (t221 - (t218.length : Int))) t222 bt233.1 true)) else (laws_FnScales.j0 k l1 t218 (t218.length : Int) (wrap64 (t221 - (t218.length : Int))) t222 bt233.1 true))) else (laws_FnScales.j0 k l1 t218 (t218.length : Int) (wrap64 (t221 - (t218.length : Int))) t222 bt233.1 true)) else (laws_FnScales.j0 k l1 t218 (t218.length : Int) (wrap64 (t221 - (t218.length : Int))) t222 bt233.1 true)))))) else (laws_FnScales.j0 k l1 t218 (t218.length : Int) (wrap64 (t221 - (t218.length : Int))) t222 bt233.1 true)) else (laws_FnScales.j0 k l1 t218 (t218.length : Int) (wrap64 (t221 - (t218.length : Int))) t222 bt233.1 true)) else (laws_FnScales.j0 k l1 t218 (t218.length : Int) (wrap64 (t221 - (t218.length : Int))) t222 bt233.1 true)))))) = some r := H
 have A9 := Aside0.mk A90
 clear A90
 replace H := Option.bind_eq_some_iff.mp H
 obtain ⟨⟨t227, t228⟩, A100, H⟩ := H
 replace H : ((impl_ScaleNumber.f k t218).bind fun bt231 => ((impl_CountScales.f k (t218.length : Int)).bind fun bt233 => ((impl_NumberedScale.f k (t218.length : Int) bt231.1).bind fun bt235 => (if t223 = 0 then (if t225 = 0 then (if t224 = (wrap64 (t221 - (t218.length : Int))) then (if t222 < (-12) then (laws_FnScales.j0 k l1 t218 (t218.length : Int) (wrap64 (t221 - (t218.length : Int))) t222 bt233.1 true) else (if t222 > 23 then (laws_FnScales.j0 k l1 t218 (t218.length : Int) (wrap64 (t221 - (t218.length : Int))) t222 bt233.1 true) else ((impl_ToneOf.f t222).bind fun t239 => ((laws_r8Has.f k t218 t239).bind fun t240 => (if t240 = true then (if t228 = true then ((laws_r8Same.f k t227 t218).bind fun t241 => (if t241 = true then (if bt231.2 = 0 then (if bt233.2 = 0 then (if bt231.1 < 0 then (laws_FnScales.j0 k l1 t218 (t218.length : Int) (wrap64 (t221 - (t218.length : Int))) t222 bt233.1 true) else (if bt231.1 ≥ bt233.1 then (laws_FnScales.j0 k l1 t218 (t218.length : Int) (wrap64 (t221 - (t218.length : Int))) t222 bt233.1 true) else (if bt235.2 = 0 then ((laws_r8Same.f k bt235.1 t218).bind fun t242 => (laws_FnScales.j0 k l1 t218 (t218.length : Int) (wrap64 (t221 - (t218.length : Int))) t222 bt233.1 (!t242))) else (laws_FnScales.j0 k l1 t218 (t218.length : Int) (wrap64 (t221 - (t218.length : Int))) t222 bt233.1 true)))) else (laws_FnScales.j0 k l1 t218 (t218.length : Int) (wrap64 (t221 - (t218.length : Int))) t222 bt233.1 true)) else (laws_FnScales.j0 k l1 t218 (t218.length : Int) (wrap64 (t221 - (t218.length : Int))) t222 bt233.1 true)) else (laws_FnScales.j0 k l1 t218 (t218.length : Int) (wrap64 (t221 - (t218.length : Int))) t222 bt233.1 true))) else (laws_FnScales.j0 k l1 t218 (t218.length : Int) (wrap64 (t221 - (t218.length : Int))) t222 bt233.1 true)) else (laws_FnScales.j0 k l1 t218 (t218.length : Int) (wrap64 (t221 - (t218.length : Int))) t222 bt233.1 true)))))) else (laws_FnScales.j0 k l1 t218 (t218.length : Int) (wrap64 (t221 - (t218.length : Int))) t222 bt233.1 true)) else (laws_FnScales.j0 k l1 t218 (t218.length : Int) (wrap64 (t221 - (t218.length : Int))) t222 bt233.1 true)) else (laws_FnScales.j0 k l1 t218 (t218.length : Int) (wrap64 (t221 - (t218.length : Int))) t222 bt233.1 true))))) = some r := H
 have A10 := Aside0.mk A100
 clear A100
 replace H := Option.bind_eq_some_iff.mp H
 obtain ⟨⟨t231, t232⟩, A110, H⟩ := H
 replace H : ((impl_CountScales.f k (t218.length : Int)).bind fun bt233 => ((impl_NumberedScale.f k (t218.length : Int) t231).bind fun bt235 => (if t223 = 0 then (if t225 = 0 then (if t224 = (wrap64 (t221 - (t218.length : Int))) then (if t222 < (-12) then (laws_FnScales.j0 k l1 t218 (t218.length : Int) (wrap64 (t221 - (t218.length : Int))) t222 bt233.1 true) else (if t222 > 23 then (laws_FnScales.j0 k l1 t218 (t218.length : Int) (wrap64 (t221 - (t218.length : Int))) t222 bt233.1 true) else ((impl_ToneOf.f t222).bind fun t239 => ((laws_r8Has.f k t218 t239).bind fun t240 => (if t240 = true then (if t228 = true then ((laws_r8Same.f k t227 t218).bind fun t241 => (if t241 = true then (if t232 = 0 then (if bt233.2 = 0 then (if t231 < 0 then (laws_FnScales.j0 k l1 t218 (t218.length : Int) (wrap64 (t221 - (t218.length : Int))) t222 bt233.1 true) else (if t231 ≥ bt233.1 then (laws_FnScales.j0 k l1 t218 (t218.length : Int) (wrap64 (t221 - (t218.length : Int))) t222 bt233.1 true) else (if bt235.2 = 0 then ((laws_r8Same.f k bt235.1 t218).bind fun t242 => (laws_FnScales.j0 k l1 t218 (t218.length : Int) (wrap64 (t221 - (t218.length : Int))) t222 bt233.1 (!t242))) else (laws_FnScales.j0 k l1 t218 (t218.length : Int) (wrap64 (t221 - (t218.length : Int))) t222 bt233.1 true)))) else (laws_FnScales.j0 k l1 t218 (t218.length : Int) (wrap64 (t221 - (t218.length : Int))) t222 bt233.1 true)) else (laws_FnScales.j0 k l1 t218 (t218.length : Int) (wrap64 (t221 - (t218.length : Int))) t222 bt233.1 true)) else (laws_FnScales.j0 k l1 t218 (t218.length : Int) (wrap64 (t221 - (t218.length : Int))) t222 bt233.1 true))) else (laws_FnScales.j0 k l1 t218 (t218.length : Int) (wrap64 (t221 - (t218.length : Int))) t222 bt233.1 true)) else (laws_FnScales.j0 k l1 t218 (t218.length : Int) (wrap64 (t221 - (t218.length : Int))) t222 bt233.1 true)))))) else (laws_FnScales.j0 k l1 t218 (t218.length : Int) (wrap64 (t221 - (t218.length : Int))) t222 bt233.1 true)) else (laws_FnScales.j0 k l1 t218 (t218.length : Int) (wrap64 (t221 - (t218.length : Int))) t222 bt233.1 true)) else (laws_FnScales.j0 k l1 t218 (t218.length : Int) (wrap64 (t221 - (t218.length : Int))) t222 bt233.1 true)))) = some r := H
 have A11 := Aside0.mk A110
 clear A110
 replace H := Option.bind_eq_some_iff.mp H
 obtain ⟨⟨t233, t234⟩, A120, H⟩ := H
 replace H : ((impl_NumberedScale.f k (t218.length : Int) t231).bind fun bt235 => (if t223 = 0 then (if t225 = 0 then (if t224 = (wrap64 (t221 - (t218.length : Int))) then (if t222 < (-12) then (laws_FnScales.j0 k l1 t218 (t218.length : Int) (wrap64 (t221 - (t218.length : Int))) t222 t233 true) else (if t222 > 23 then (laws_FnScales.j0 k l1 t218 (t218.length : Int) (wrap64 (t221 - (t218.length : Int))) t222 t233 true) else ((impl_ToneOf.f t222).bind fun t239 => ((laws_r8Has.f k t218 t239).bind fun t240 => (if t240 = true then (if t228 = true then ((laws_r8Same.f k t227 t218).bind fun t241 => (if t241 = true then (if t232 = 0 then (if t234 = 0 then (if t231 < 0 then (laws_FnScales.j0 k l1 t218 (t218.length : Int) (wrap64 (t221 - (t218.length : Int))) t222 t233 true) else (if t231 ≥ t233 then (laws_FnScales.j0 k l1 t218 (t218.length : Int) (wrap64 (t221 - (t218.length : Int))) t222 t233 true) else (if bt235.2 = 0 then ((laws_r8Same.f k bt235.1 t218).bind fun t242 => (laws_FnScales.j0 k l1 t218 (t218.length : Int) (wrap64 (t221 - (t218.length : Int))) t222 t233 (!t242))) else (laws_FnScales.j0 k l1 t218 (t218.length : Int) (wrap64 (t221 - (t218.length : Int))) t222 t233 true)))) else (laws_FnScales.j0 k l1 t218 (t218.length : Int) (wrap64 (t221 - (t218.length : Int))) t222 t233 true)) else (laws_FnScales.j0 k l1 t218 (t218.length : Int) (wrap64 (t221 - (t218.length : Int))) t222 t233 true)) else (laws_FnScales.j0 k l1 t218 (t218.length : Int) (wrap64 (t221 - (t218.length : Int))) t222 t233 true))) else (laws_FnScales.j0 k l1 t218 (t218.length : Int) (wrap64 (t221 - (t218.length : Int))) t222 t233 true)) else (laws_FnScales.j0 k l1 t218 (t218.length : Int) (wrap64 (t221 - (t218.length : Int))) t222 t233 true)))))) else (laws_FnScales.j0 k l1 t218 (t218.length : Int) (wrap64 (t221 - (t218.length : Int))) t222 t233 true)) else (laws_FnScales.j0 k l1 t218 (t218.length : Int) (wrap64 (t221 - (t218.length : Int))) t222 t233 true)) else (laws_FnScales.j0 k l1 t218 (t218.length : Int) (wrap64 (t221 - (t218.length : Int))) t222 t233 true))) = some r := H
 have A12 := Aside0.mk A120
 clear A120
 replace H := Option.bind_eq_some_iff.mp H
 obtain ⟨⟨t235, t236⟩, A130, H⟩ := H
 replace H : (if t223 = 0 then (if t225 = 0 then (if t224 = (wrap64 (t221 - (t218.length : Int))) then (if t222 < (-12) then (laws_FnScales.j0 k l1 t218 (t218.length : Int) (wrap64 (t221 - (t218.length : Int))) t222 t233 true) else (if t222 > 23 then (laws_FnScales.j0 k l1 t218 (t218.length : Int) (wrap64 (t221 - (t218.length : Int))) t222 t233 true) else ((impl_ToneOf.f t222).bind fun t239 => ((laws_r8Has.f k t218 t239).bind fun t240 => (if t240 = true then (if t228 = true then ((laws_r8Same.f k t227 t218).bind fun t241 => (if t241 = true then (if t232 = 0 then (if t234 = 0 then (if t231 < 0 then (laws_FnScales.j0 k l1 t218 (t218.length : Int) (wrap64 (t221 - (t218.length : Int))) t222 t233 true) else (if t231 ≥ t233 then (laws_FnScales.j0 k l1 t218 (t218.length : Int) (wrap64 (t221 - (t218.length : Int))) t222 t233 true) else (if t236 = 0 then ((laws_r8Same.f k t235 t218).bind fun t242 => (laws_FnScales.j0 k l1 t218 (t218.length : Int) (wrap64 (t221 - (t218.length : Int))) t222 t233 (!t242))) else (laws_FnScales.j0 k l1 t218 (t218.length : Int) (wrap64 (t221 - (t218.length : Int))) t222 t233 true)))) else (laws_FnScales.j0 k l1 t218 (t218.length : Int) (wrap64 (t221 - (t218.length : Int))) t222 t233 true)) else (laws_FnScales.j0 k l1 t218 (t218.length : Int) (wrap64 (t221 - (t218.length : Int))) t222 t233 true)) else (laws_FnScales.j0 k l1 t218 (t218.length : Int) (wrap64 (t221 - (t218.length : Int))) t222 t233 true))) else (laws_FnScales.j0 k l1 t218 (t218.length : Int) (wrap64 (t221 - (t218.length : Int))) t222 t233 true)) else (laws_FnScales.j0 k l1 t218 (t218.length : Int) (wrap64 (t221 - (t218.length : Int))) t222 t233 true)))))) else (laws_FnScales.j0 k l1 t218 (t218.length : Int) (wrap64 (t221 - (t218.length : Int))) t222 t233 true)) else (laws_FnScales.j0 k l1 t218 (t218.length : Int) (wrap64 (t221 - (t218.length : Int))) t222 t233 true)) else (laws_FnScales.j0 k l1 t218 (t218.length : Int) (wrap64 (t221 - (t218.length : Int))) t222 t233 true)) = some r := H
 have A13 := Aside0.mk A130
 clear A130
 have HC14 := Aside0.mk H
 clear H
 go_enter Try.func7, Try.ntmps7
 go_upto_region 12 with (first | ((with_reducible refine gate_callee (f := 13) rfl ?_); refine gL_ (some 31) rfl rfl Try.func13 #[.slice A0 l0.length c0, .slice A1 l1.length c1] rfl ?_; (with_reducible refine (laws_r8Long.calls _ _ l0 _ _ l1 false _ ?side1 ?side2 ?side3 ?side4 A3.out).mono ?_); (case side1 => exact tC HR0.out); (case side2 => exact HC0.out); (case side3 => exact tC HR1.out); (case side4 => exact HC1.out); rintro e w' ⟨rfl, ⟨nd, rfl⟩⟩; refine ⟨_, rfl, ?_⟩) | ((with_reducible refine gate_callee (f := 47) rfl ?_); refine gL_ (some 33) rfl rfl Try.func47 #[.slice A0 l0.length c0] rfl ?_; (with_reducible refine (spec_R8Scale.calls k _ _ l0 t218 _ ?side1 ?side2 A5.out).mono ?_); (case side1 => exact tC HR0.out); (case side2 => exact HC0.out); rintro e w15 ⟨v219, rfl, ho0, hb⟩; refine ⟨_, rfl, ?_⟩; have HO220 := Aside0.mk (Kd.R_lower ho0 (below_size (tH HB))); replace HB := Aside0.mk (below_step (tH HB) hb); (try clear hb); (try clear hb2); (try clear hk); (try clear hi); (try clear ho0); obtain ⟨Ao16, co16, eo16⟩ := Kd.R_slice HO220.out; subst eo16) | ((with_reducible refine gate_callee (f := 48) rfl ?_); refine gL_ (some 39) rfl rfl Try.func48 #[.slice A1 l1.length c1, .int .i64 0, .int .i64 (wrap64 (3 * (t218.length : Int)))] rfl ?_; (with_reducible refine (laws_r8At.calls _ _ l1 0 (wrap64 (3 * (t218.length : Int))) t221 _ ?side1 ?side2 A6.out).mono ?_); (case side1 => exact tC (Kd.C_below HR1.out HB.out)); (case side2 => exact HC1.out); rintro e w' ⟨rfl, ⟨nd, rfl⟩⟩; refine ⟨_, rfl, ?_⟩) | ((with_reducible refine gate_callee (f := 49) rfl ?_); refine gL_ (some 45) rfl rfl Try.func49 #[.slice Ao16 t218.length co16, .int .i64 (wrap64 (t221 - (t218.length : Int)))] rfl ?_; (with_reducible refine (impl_ToneAt.calls k _ _ t218 (wrap64 (t221 - (t218.length : Int))) t222 t223 _ ?side1 ?side2 A7.out).mono ?_); (case side1 => exact tC (Kd.R_reads' HO220.out).2.2); (case side2 => exact (Kd.R_reads' HO220.out).2.1); rintro e w' ⟨rfl, ⟨nd, rfl⟩⟩; refine ⟨_, rfl, ?_⟩) | ((with_reducible refine gate_callee (f := 50) rfl ?_); refine gL_ (some 51) rfl rfl Try.func50 #[.slice Ao16 t218.length co16, .int .i64 t222] rfl ?_; (with_reducible refine (impl_DegreeOf.calls k _ _ t218 t222 t224 t225 _ ?side1 ?side2 A8.out).mono ?_); (case side1 => exact tC (Kd.R_reads' HO220.out).2.2); (case side2 => exact (Kd.R_reads' HO220.out).2.1); rintro e w' ⟨rfl, ⟨nd, rfl⟩⟩; refine ⟨_, rfl, ?_⟩) | ((with_reducible refine gate_callee (f := 52) rfl ?_); refine gL_ (some 56) rfl rfl Try.func52 #[.slice Ao16 t218.length co16] rfl ?_; (with_reducible refine (impl_ScaleText.calls k _ _ t218 t226 _ ?side1 ?side2 A9.out).mono ?_); (case side1 => exact tC (Kd.R_reads' HO220.out).2.2); (case side2 => exact (Kd.R_reads' HO220.out).2.1); rintro e w' ⟨rfl, ⟨nd, rfl⟩⟩; refine ⟨_, rfl, ?_⟩) | ((with_reducible refine gate_callee (f := 51) rfl ?_); refine gL_ (some 57) rfl rfl Try.func51 #[.string t226] rfl ?_; (with_reducible refine (impl_ReadScale.calls k t226 t227 t228 _ A10.out).mono ?_); rintro e w17 ⟨v229, rfl, ho0, hb⟩; refine ⟨_, rfl, ?_⟩; have HO230 := Aside0.mk (Kd.R_lower (Kd.R_new' ho0 (Kd.R_lt (tR HO220))) (below_size (tH HB))); replace HO220 := Aside0.mk (Kd.R_elder' (tR HO220) (Kd.R_base ho0) hb); replace HB := Aside0.mk (below_step (tH HB) hb); (try clear hb); (try clear hb2); (try clear hk); (try clear hi); (try clear ho0)) | ((with_reducible refine gate_callee (f := 53) rfl ?_); refine gL_ (some 62) rfl rfl Try.func53 #[.slice Ao16 t218.length co16] rfl ?_; (with_reducible refine (impl_ScaleNumber.calls k _ _ t218 t231 t232 _ ?side1 ?side2 A11.out).mono ?_); (case side1 => exact tC (Kd.R_reads' HO220.out).2.2); (case side2 => exact (Kd.R_reads' HO220.out).2.1); rintro e w' ⟨rfl, ⟨nd, rfl⟩⟩; refine ⟨_, rfl, ?_⟩) | ((with_reducible refine gate_callee (f := 54) rfl ?_); refine gL_ (some 67) rfl rfl Try.func54 #[.int .i64 (t218.length : Int)] rfl ?_; (with_reducible refine (impl_CountScales.calls k (t218.length : Int) t233 t234 _ A12.out).mono ?_); rintro e w' ⟨rfl, ⟨nd, rfl⟩⟩; refine ⟨_, rfl, ?_⟩) | ((with_reducible refine gate_callee (f := 55) rfl ?_); refine gL_ (some 73) rfl rfl Try.func55 #[.int .i64 (t218.length : Int), .int .i64 t231] rfl ?_; (with_reducible refine (impl_NumberedScale.calls k (t218.length : Int) t231 t235 t236 _ A13.out).mono ?_); rintro e w18 ⟨v237, rfl, ho0, hb⟩; refine ⟨_, rfl, ?_⟩; have HO238 := Aside0.mk (Kd.R_lower (Kd.R_new' (Kd.R_new' ho0 (Kd.R_lt (tR HO220))) (Kd.R_lt (tR HO230))) (below_size (tH HB))); replace HO220 := Aside0.mk (Kd.R_elder' (tR HO220) (Kd.R_base ho0) hb); replace HO230 := Aside0.mk (Kd.R_elder' (tR HO230) (Kd.R_base ho0) hb); replace HB := Aside0.mk (below_step (tH HB) hb); (try clear hb); (try clear hb2); (try clear hk); (try clear hi); (try clear ho0)))
 (try simp only [Act.put, sx0, sx1, sx2])
 go_cut [138] (fun v138 wc => ∃ (kq : Nat) (x138_13 : Bool), v138 = .bool x138_13 ∧ Aside0 (laws_FnScales.j0 kq l1 t218 (t218.length : Int) (wrap64 (t221 - (t218.length : Int))) t222 t233 x138_13 = some r) ∧ Aside0 (kq ≤ k) ∧ Aside0 (Kd.R (Kd.int .i64) 2 wc w.heap.size (fun _ => True) (.slice Ao16 t218.length co16) t218) ∧ Aside0 (Below w.heap.size w wc))
 case first => as_aux_lemma =>
  have H := HC14.out
  clear HC14
  by_cases c19 : t223 = 0
  · as_aux_lemma =>
    rw [if_pos c19] at H
    have c19b0 : (t223 == 0) = true := beq_iff_eq.mpr c19
    have c19b1 : (t223 != 0) = false := bne_eq_false_iff_eq.mpr c19
    clear c19
    (first | rw [c19b0] | (simp only [i64_w, i32_w]; rw [c19b0]) | skip)
    by_cases c20 : t225 = 0
    · as_aux_lemma =>
      rw [if_pos c20] at H
      have c20b0 : (t225 == 0) = true := beq_iff_eq.mpr c20
      have c20b1 : (t225 != 0) = false := bne_eq_false_iff_eq.mpr c20
      clear c20
      by_cases c21 : t224 = (wrap64 (t221 - (t218.length : Int)))
      · as_aux_lemma =>
        rw [if_pos c21] at H
        have c21b0 : (t224 == (wrap64 (t221 - (t218.length : Int)))) = true := beq_iff_eq.mpr c21
        have c21b1 : (t224 != (wrap64 (t221 - (t218.length : Int)))) = false := bne_eq_false_iff_eq.mpr c21
        clear c21
        by_cases c22 : t222 < (-12)
        · rw [if_pos c22] at H
          have c22b0 : decide (t222 < (-12)) = true := decide_eq_true c22
          clear c22
          have H' := Aside0.mk H
          clear H
          go_wp2
          go_meet
          case rel => exact ⟨_, (true), tq, H', ⟨by first | omega | exact Nat.le_refl _⟩, ⟨by (with_reducible repeat (first | apply qra | apply qrn | apply qrd)); exact Kd.R_mono HO220.out (fun _ hk => trivial)⟩, ⟨tH HB⟩⟩
        as_aux_lemma =>
        rw [if_neg c22] at H
        have c22b0 : decide (t222 < (-12)) = false := decide_eq_false c22
        clear c22
        by_cases c23 : t222 > 23
        · rw [if_pos c23] at H
          have c23b0 : decide (23 < t222) = true := decide_eq_true c23
          clear c23
          have H' := Aside0.mk H
          clear H
          go_wp2
          go_meet
          case rel => exact ⟨_, (true), tq, H', ⟨by first | omega | exact Nat.le_refl _⟩, ⟨by (with_reducible repeat (first | apply qra | apply qrn | apply qrd)); exact Kd.R_mono HO220.out (fun _ hk => trivial)⟩, ⟨tH HB⟩⟩
        as_aux_lemma =>
        rw [if_neg c23] at H
        have c23b0 : decide (23 < t222) = false := decide_eq_false c23
        clear c23
        replace H := Option.bind_eq_some_iff.mp H
        obtain ⟨t239, A240, H⟩ := H
        replace H : ((laws_r8Has.f k t218 t239).bind fun t240 => (if t240 = true then (if t228 = true then ((laws_r8Same.f k t227 t218).bind fun t241 => (if t241 = true then (if t232 = 0 then (if t234 = 0 then (if t231 < 0 then (laws_FnScales.j0 k l1 t218 (t218.length : Int) (wrap64 (t221 - (t218.length : Int))) t222 t233 true) else (if t231 ≥ t233 then (laws_FnScales.j0 k l1 t218 (t218.length : Int) (wrap64 (t221 - (t218.length : Int))) t222 t233 true) else (if t236 = 0 then ((laws_r8Same.f k t235 t218).bind fun t242 => (laws_FnScales.j0 k l1 t218 (t218.length : Int) (wrap64 (t221 - (t218.length : Int))) t222 t233 (!t242))) else (laws_FnScales.j0 k l1 t218 (t218.length : Int) (wrap64 (t221 - (t218.length : Int))) t222 t233 true)))) else (laws_FnScales.j0 k l1 t218 (t218.length : Int) (wrap64 (t221 - (t218.length : Int))) t222 t233 true)) else (laws_FnScales.j0 k l1 t218 (t218.length : Int) (wrap64 (t221 - (t218.length : Int))) t222 t233 true)) else (laws_FnScales.j0 k l1 t218 (t218.length : Int) (wrap64 (t221 - (t218.length : Int))) t222 t233 true))) else (laws_FnScales.j0 k l1 t218 (t218.length : Int) (wrap64 (t221 - (t218.length : Int))) t222 t233 true)) else (laws_FnScales.j0 k l1 t218 (t218.length : Int) (wrap64 (t221 - (t218.length : Int))) t222 t233 true))) = some r := H
        have A24 := Aside0.mk A240
        clear A240
        replace H := Option.bind_eq_some_iff.mp H
        obtain ⟨t240, A250, H⟩ := H
        replace H : (if t240 = true then (if t228 = true then ((laws_r8Same.f k t227 t218).bind fun t241 => (if t241 = true then (if t232 = 0 then (if t234 = 0 then (if t231 < 0 then (laws_FnScales.j0 k l1 t218 (t218.length : Int) (wrap64 (t221 - (t218.length : Int))) t222 t233 true) else (if t231 ≥ t233 then (laws_FnScales.j0 k l1 t218 (t218.length : Int) (wrap64 (t221 - (t218.length : Int))) t222 t233 true) else (if t236 = 0 then ((laws_r8Same.f k t235 t218).bind fun t242 => (laws_FnScales.j0 k l1 t218 (t218.length : Int) (wrap64 (t221 - (t218.length : Int))) t222 t233 (!t242))) else (laws_FnScales.j0 k l1 t218 (t218.length : Int) (wrap64 (t221 - (t218.length : Int))) t222 t233 true)))) else (laws_FnScales.j0 k l1 t218 (t218.length : Int) (wrap64 (t221 - (t218.length : Int))) t222 t233 true)) else (laws_FnScales.j0 k l1 t218 (t218.length : Int) (wrap64 (t221 - (t218.length : Int))) t222 t233 true)) else (laws_FnScales.j0 k l1 t218 (t218.length : Int) (wrap64 (t221 - (t218.length : Int))) t222 t233 true))) else (laws_FnScales.j0 k l1 t218 (t218.length : Int) (wrap64 (t221 - (t218.length : Int))) t222 t233 true)) else (laws_FnScales.j0 k l1 t218 (t218.length : Int) (wrap64 (t221 - (t218.length : Int))) t222 t233 true)) = some r := H
        have A25 := Aside0.mk A250
        clear A250
        by_cases c26 : t240 = true
        · as_aux_lemma =>
          subst c26
          have H1 : (if t228 = true then ((laws_r8Same.f k t227 t218).bind fun t241 => (if t241 = true then (if t232 = 0 then (if t234 = 0 then (if t231 < 0 then (laws_FnScales.j0 k l1 t218 (t218.length : Int) (wrap64 (t221 - (t218.length : Int))) t222 t233 true) else (if t231 ≥ t233 then (laws_FnScales.j0 k l1 t218 (t218.length : Int) (wrap64 (t221 - (t218.length : Int))) t222 t233 true) else (if t236 = 0 then ((laws_r8Same.f k t235 t218).bind fun t242 => (laws_FnScales.j0 k l1 t218 (t218.length : Int) (wrap64 (t221 - (t218.length : Int))) t222 t233 (!t242))) else (laws_FnScales.j0 k l1 t218 (t218.length : Int) (wrap64 (t221 - (t218.length : Int))) t222 t233 true)))) else (laws_FnScales.j0 k l1 t218 (t218.length : Int) (wrap64 (t221 - (t218.length : Int))) t222 t233 true)) else (laws_FnScales.j0 k l1 t218 (t218.length : Int) (wrap64 (t221 - (t218.length : Int))) t222 t233 true)) else (laws_FnScales.j0 k l1 t218 (t218.length : Int) (wrap64 (t221 - (t218.length : Int))) t222 t233 true))) else (laws_FnScales.j0 k l1 t218 (t218.length : Int) (wrap64 (t221 - (t218.length : Int))) t222 t233 true)) = some r := by rw [if_pos rfl] at H; exact H
          clear H
          have H := H1
          clear H1
          by_cases c27 : t228 = true
          · as_aux_lemma =>
            subst c27
            have H1 : ((laws_r8Same.f k t227 t218).bind fun t241 => (if t241 = true then (if t232 = 0 then (if t234 = 0 then (if t231 < 0 then (laws_FnScales.j0 k l1 t218 (t218.length : Int) (wrap64 (t221 - (t218.length : Int))) t222 t233 true) else (if t231 ≥ t233 then (laws_FnScales.j0 k l1 t218 (t218.length : Int) (wrap64 (t221 - (t218.length : Int))) t222 t233 true) else (if t236 = 0 then ((laws_r8Same.f k t235 t218).bind fun t242 => (laws_FnScales.j0 k l1 t218 (t218.length : Int) (wrap64 (t221 - (t218.length : Int))) t222 t233 (!t242))) else (laws_FnScales.j0 k l1 t218 (t218.length : Int) (wrap64 (t221 - (t218.length : Int))) t222 t233 true)))) else (laws_FnScales.j0 k l1 t218 (t218.length : Int) (wrap64 (t221 - (t218.length : Int))) t222 t233 true)) else (laws_FnScales.j0 k l1 t218 (t218.length : Int) (wrap64 (t221 - (t218.length : Int))) t222 t233 true)) else (laws_FnScales.j0 k l1 t218 (t218.length : Int) (wrap64 (t221 - (t218.length : Int))) t222 t233 true))) = some r := by rw [if_pos rfl] at H; exact H
            clear H
            have H := H1
            clear H1
            replace H := Option.bind_eq_some_iff.mp H
            obtain ⟨t241, A280, H⟩ := H
            replace H : (if t241 = true then (if t232 = 0 then (if t234 = 0 then (if t231 < 0 then (laws_FnScales.j0 k l1 t218 (t218.length : Int) (wrap64 (t221 - (t218.length : Int))) t222 t233 true) else (if t231 ≥ t233 then (laws_FnScales.j0 k l1 t218 (t218.length : Int) (wrap64 (t221 - (t218.length : Int))) t222 t233 true) else (if t236 = 0 then ((laws_r8Same.f k t235 t218).bind fun t242 => (laws_FnScales.j0 k l1 t218 (t218.length : Int) (wrap64 (t221 - (t218.length : Int))) t222 t233 (!t242))) else (laws_FnScales.j0 k l1 t218 (t218.length : Int) (wrap64 (t221 - (t218.length : Int))) t222 t233 true)))) else (laws_FnScales.j0 k l1 t218 (t218.length : Int) (wrap64 (t221 - (t218.length : Int))) t222 t233 true)) else (laws_FnScales.j0 k l1 t218 (t218.length : Int) (wrap64 (t221 - (t218.length : Int))) t222 t233 true)) else (laws_FnScales.j0 k l1 t218 (t218.length : Int) (wrap64 (t221 - (t218.length : Int))) t222 t233 true)) = some r := H
            have A28 := Aside0.mk A280
            clear A280
            by_cases c29 : t241 = true
            · as_aux_lemma =>
              subst c29
              have H1 : (if t232 = 0 then (if t234 = 0 then (if t231 < 0 then (laws_FnScales.j0 k l1 t218 (t218.length : Int) (wrap64 (t221 - (t218.length : Int))) t222 t233 true) else (if t231 ≥ t233 then (laws_FnScales.j0 k l1 t218 (t218.length : Int) (wrap64 (t221 - (t218.length : Int))) t222 t233 true) else (if t236 = 0 then ((laws_r8Same.f k t235 t218).bind fun t242 => (laws_FnScales.j0 k l1 t218 (t218.length : Int) (wrap64 (t221 - (t218.length : Int))) t222 t233 (!t242))) else (laws_FnScales.j0 k l1 t218 (t218.length : Int) (wrap64 (t221 - (t218.length : Int))) t222 t233 true)))) else (laws_FnScales.j0 k l1 t218 (t218.length : Int) (wrap64 (t221 - (t218.length : Int))) t222 t233 true)) else (laws_FnScales.j0 k l1 t218 (t218.length : Int) (wrap64 (t221 - (t218.length : Int))) t222 t233 true)) = some r := by rw [if_pos rfl] at H; exact H
              clear H
              have H := H1
              clear H1
              by_cases c30 : t232 = 0
              · as_aux_lemma =>
                rw [if_pos c30] at H
                have c30b0 : (t232 == 0) = true := beq_iff_eq.mpr c30
                have c30b1 : (t232 != 0) = false := bne_eq_false_iff_eq.mpr c30
                clear c30
                by_cases c31 : t234 = 0
                · rw [if_pos c31] at H
                  have c31b0 : (t234 == 0) = true := beq_iff_eq.mpr c31
                  have c31b1 : (t234 != 0) = false := bne_eq_false_iff_eq.mpr c31
                  clear c31
                  by_cases c32 : t231 < 0
                  · rw [if_pos c32] at H
                    have c32b0 : decide (t231 < 0) = true := decide_eq_true c32
                    clear c32
                    have H' := Aside0.mk H
                    clear H
                    go_wp2_with (first | (go_at_call 57; (with_reducible refine (impl_ToneOf.calls t222 t239 _ A24.out).mono ?_); rintro e w' ⟨rfl, ⟨nd, rfl⟩⟩) | (go_at_call 56; (with_reducible refine (laws_r8Has.calls k _ _ t218 t239 true _ ?side1 ?side2 A25.out).mono ?_); (case side1 => exact tC (Kd.R_reads' HO220.out).2.2); (case side2 => exact (Kd.R_reads' HO220.out).2.1); rintro e w' ⟨rfl, ⟨nd, rfl⟩⟩; obtain ⟨Ao33, co33, eo33⟩ := Kd.R_slice HO230.out; subst eo33) | (go_at_call 58; (with_reducible refine (laws_r8Same.calls k _ _ t227 _ _ t218 true _ ?side1 ?side2 ?side3 ?side4 A28.out).mono ?_); (case side1 => exact tC (Kd.R_reads' HO230.out).2.2); (case side2 => exact (Kd.R_reads' HO230.out).2.1); (case side3 => exact tC (Kd.R_reads' HO220.out).2.2); (case side4 => exact (Kd.R_reads' HO220.out).2.1); rintro e w' ⟨rfl, ⟨nd, rfl⟩⟩))
                    go_meet
                    case rel => exact ⟨_, (true), tq, H', ⟨by first | omega | exact Nat.le_refl _⟩, ⟨by (with_reducible repeat (first | apply qra | apply qrn | apply qrd)); exact Kd.R_mono HO220.out (fun _ hk => trivial)⟩, ⟨tH HB⟩⟩
                  rw [if_neg c32] at H
                  have c32b0 : decide (t231 < 0) = false := decide_eq_false c32
                  clear c32
                  by_cases c34 : t231 ≥ t233
                  · rw [if_pos c34] at H
                    have c34b0 : decide (t233 ≤ t231) = true := decide_eq_true c34
                    clear c34
                    have H' := Aside0.mk H
                    clear H
                    go_wp2_with (first | (go_at_call 57; (with_reducible refine (impl_ToneOf.calls t222 t239 _ A24.out).mono ?_); rintro e w' ⟨rfl, ⟨nd, rfl⟩⟩) | (go_at_call 56; (with_reducible refine (laws_r8Has.calls k _ _ t218 t239 true _ ?side1 ?side2 A25.out).mono ?_); (case side1 => exact tC (Kd.R_reads' HO220.out).2.2); (case side2 => exact (Kd.R_reads' HO220.out).2.1); rintro e w' ⟨rfl, ⟨nd, rfl⟩⟩; obtain ⟨Ao35, co35, eo35⟩ := Kd.R_slice HO230.out; subst eo35) | (go_at_call 58; (with_reducible refine (laws_r8Same.calls k _ _ t227 _ _ t218 true _ ?side1 ?side2 ?side3 ?side4 A28.out).mono ?_); (case side1 => exact tC (Kd.R_reads' HO230.out).2.2); (case side2 => exact (Kd.R_reads' HO230.out).2.1); (case side3 => exact tC (Kd.R_reads' HO220.out).2.2); (case side4 => exact (Kd.R_reads' HO220.out).2.1); rintro e w' ⟨rfl, ⟨nd, rfl⟩⟩))
                    go_meet
                    case rel => exact ⟨_, (true), tq, H', ⟨by first | omega | exact Nat.le_refl _⟩, ⟨by (with_reducible repeat (first | apply qra | apply qrn | apply qrd)); exact Kd.R_mono HO220.out (fun _ hk => trivial)⟩, ⟨tH HB⟩⟩
                  rw [if_neg c34] at H
                  have c34b0 : decide (t233 ≤ t231) = false := decide_eq_false c34
                  clear c34
                  by_cases c36 : t236 = 0
                  · rw [if_pos c36] at H
                    have c36b0 : (t236 == 0) = true := beq_iff_eq.mpr c36
                    have c36b1 : (t236 != 0) = false := bne_eq_false_iff_eq.mpr c36
                    clear c36
                    replace H := Option.bind_eq_some_iff.mp H
                    obtain ⟨t242, A370, H⟩ := H
                    replace H : (laws_FnScales.j0 k l1 t218 (t218.length : Int) (wrap64 (t221 - (t218.length : Int))) t222 t233 (!t242)) = some r := H
                    have A37 := Aside0.mk A370
                    clear A370
                    have H' := Aside0.mk H
                    clear H
                    go_wp2_with (first | (go_at_call 57; (with_reducible refine (impl_ToneOf.calls t222 t239 _ A24.out).mono ?_); rintro e w' ⟨rfl, ⟨nd, rfl⟩⟩) | (go_at_call 56; (with_reducible refine (laws_r8Has.calls k _ _ t218 t239 true _ ?side1 ?side2 A25.out).mono ?_); (case side1 => exact tC (Kd.R_reads' HO220.out).2.2); (case side2 => exact (Kd.R_reads' HO220.out).2.1); rintro e w' ⟨rfl, ⟨nd, rfl⟩⟩; obtain ⟨Ao38, co38, eo38⟩ := Kd.R_slice HO230.out; subst eo38) | (go_at_call 58; (with_reducible refine (laws_r8Same.calls k _ _ t227 _ _ t218 true _ ?side1 ?side2 ?side3 ?side4 A28.out).mono ?_); (case side1 => exact tC (Kd.R_reads' HO230.out).2.2); (case side2 => exact (Kd.R_reads' HO230.out).2.1); (case side3 => exact tC (Kd.R_reads' HO220.out).2.2); (case side4 => exact (Kd.R_reads' HO220.out).2.1); rintro e w' ⟨rfl, ⟨nd, rfl⟩⟩; obtain ⟨Ao39, co39, eo39⟩ := Kd.R_slice HO238.out; subst eo39) | (go_at_call 58; (with_reducible refine (laws_r8Same.calls k _ _ t235 _ _ t218 t242 _ ?side1 ?side2 ?side3 ?side4 A37.out).mono ?_); (case side1 => exact tC (Kd.R_reads' HO238.out).2.2); (case side2 => exact (Kd.R_reads' HO238.out).2.1); (case side3 => exact tC (Kd.R_reads' HO220.out).2.2); (case side4 => exact (Kd.R_reads' HO220.out).2.1); rintro e w' ⟨rfl, ⟨nd, rfl⟩⟩))
                    go_meet
                    case rel => exact ⟨_, (!t242), tq, H', ⟨by first | omega | exact Nat.le_refl _⟩, ⟨by (with_reducible repeat (first | apply qra | apply qrn | apply qrd)); exact Kd.R_mono HO220.out (fun _ hk => trivial)⟩, ⟨tH HB⟩⟩
                  rw [if_neg c36] at H
                  have c36b0 : (t236 == 0) = false := beq_eq_false_iff_ne.mpr c36
                  have c36b1 : (t236 != 0) = true := bne_iff_ne.mpr c36
                  have H' := Aside0.mk H
                  clear H
                  go_wp2_with (first | (go_at_call 57; (with_reducible refine (impl_ToneOf.calls t222 t239 _ A24.out).mono ?_); rintro e w' ⟨rfl, ⟨nd, rfl⟩⟩) | (go_at_call 56; (with_reducible refine (laws_r8Has.calls k _ _ t218 t239 true _ ?side1 ?side2 A25.out).mono ?_); (case side1 => exact tC (Kd.R_reads' HO220.out).2.2); (case side2 => exact (Kd.R_reads' HO220.out).2.1); rintro e w' ⟨rfl, ⟨nd, rfl⟩⟩; obtain ⟨Ao40, co40, eo40⟩ := Kd.R_slice HO230.out; subst eo40) | (go_at_call 58; (with_reducible refine (laws_r8Same.calls k _ _ t227 _ _ t218 true _ ?side1 ?side2 ?side3 ?side4 A28.out).mono ?_); (case side1 => exact tC (Kd.R_reads' HO230.out).2.2); (case side2 => exact (Kd.R_reads' HO230.out).2.1); (case side3 => exact tC (Kd.R_reads' HO220.out).2.2); (case side4 => exact (Kd.R_reads' HO220.out).2.1); rintro e w' ⟨rfl, ⟨nd, rfl⟩⟩))
                  go_meet
                  case rel => exact ⟨_, (true), tq, H', ⟨by first | omega | exact Nat.le_refl _⟩, ⟨by (with_reducible repeat (first | apply qra | apply qrn | apply qrd)); exact Kd.R_mono HO220.out (fun _ hk => trivial)⟩, ⟨tH HB⟩⟩
                rw [if_neg c31] at H
                have c31b0 : (t234 == 0) = false := beq_eq_false_iff_ne.mpr c31
                have c31b1 : (t234 != 0) = true := bne_iff_ne.mpr c31
                have H' := Aside0.mk H
                clear H
                go_wp2_with (first | (go_at_call 57; (with_reducible refine (impl_ToneOf.calls t222 t239 _ A24.out).mono ?_); rintro e w' ⟨rfl, ⟨nd, rfl⟩⟩) | (go_at_call 56; (with_reducible refine (laws_r8Has.calls k _ _ t218 t239 true _ ?side1 ?side2 A25.out).mono ?_); (case side1 => exact tC (Kd.R_reads' HO220.out).2.2); (case side2 => exact (Kd.R_reads' HO220.out).2.1); rintro e w' ⟨rfl, ⟨nd, rfl⟩⟩; obtain ⟨Ao41, co41, eo41⟩ := Kd.R_slice HO230.out; subst eo41) | (go_at_call 58; (with_reducible refine (laws_r8Same.calls k _ _ t227 _ _ t218 true _ ?side1 ?side2 ?side3 ?side4 A28.out).mono ?_); (case side1 => exact tC (Kd.R_reads' HO230.out).2.2); (case side2 => exact (Kd.R_reads' HO230.out).2.1); (case side3 => exact tC (Kd.R_reads' HO220.out).2.2); (case side4 => exact (Kd.R_reads' HO220.out).2.1); rintro e w' ⟨rfl, ⟨nd, rfl⟩⟩))
                go_meet
                case rel => exact ⟨_, (true), tq, H', ⟨by first | omega | exact Nat.le_refl _⟩, ⟨by (with_reducible repeat (first | apply qra | apply qrn | apply qrd)); exact Kd.R_mono HO220.out (fun _ hk => trivial)⟩, ⟨tH HB⟩⟩
              rw [if_neg c30] at H
              have c30b0 : (t232 == 0) = false := beq_eq_false_iff_ne.mpr c30
              have c30b1 : (t232 != 0) = true := bne_iff_ne.mpr c30
              have H' := Aside0.mk H
              clear H
              go_wp2_with (first | (go_at_call 57; (with_reducible refine (impl_ToneOf.calls t222 t239 _ A24.out).mono ?_); rintro e w' ⟨rfl, ⟨nd, rfl⟩⟩) | (go_at_call 56; (with_reducible refine (laws_r8Has.calls k _ _ t218 t239 true _ ?side1 ?side2 A25.out).mono ?_); (case side1 => exact tC (Kd.R_reads' HO220.out).2.2); (case side2 => exact (Kd.R_reads' HO220.out).2.1); rintro e w' ⟨rfl, ⟨nd, rfl⟩⟩; obtain ⟨Ao42, co42, eo42⟩ := Kd.R_slice HO230.out; subst eo42) | (go_at_call 58; (with_reducible refine (laws_r8Same.calls k _ _ t227 _ _ t218 true _ ?side1 ?side2 ?side3 ?side4 A28.out).mono ?_); (case side1 => exact tC (Kd.R_reads' HO230.out).2.2); (case side2 => exact (Kd.R_reads' HO230.out).2.1); (case side3 => exact tC (Kd.R_reads' HO220.out).2.2); (case side4 => exact (Kd.R_reads' HO220.out).2.1); rintro e w' ⟨rfl, ⟨nd, rfl⟩⟩))
              go_meet
              case rel => exact ⟨_, (true), tq, H', ⟨by first | omega | exact Nat.le_refl _⟩, ⟨by (with_reducible repeat (first | apply qra | apply qrn | apply qrd)); exact Kd.R_mono HO220.out (fun _ hk => trivial)⟩, ⟨tH HB⟩⟩
            replace c29 := Bool.eq_false_iff.mpr c29
            subst c29
            have H1 : (laws_FnScales.j0 k l1 t218 (t218.length : Int) (wrap64 (t221 - (t218.length : Int))) t222 t233 true) = some r := by rw [if_neg (show ¬ (false = true) by decide)] at H; exact H
            clear H
            have H := H1
            clear H1
            have H' := Aside0.mk H
            clear H
            go_wp2_with (first | (go_at_call 57; (with_reducible refine (impl_ToneOf.calls t222 t239 _ A24.out).mono ?_); rintro e w' ⟨rfl, ⟨nd, rfl⟩⟩) | (go_at_call 56; (with_reducible refine (laws_r8Has.calls k _ _ t218 t239 true _ ?side1 ?side2 A25.out).mono ?_); (case side1 => exact tC (Kd.R_reads' HO220.out).2.2); (case side2 => exact (Kd.R_reads' HO220.out).2.1); rintro e w' ⟨rfl, ⟨nd, rfl⟩⟩; obtain ⟨Ao43, co43, eo43⟩ := Kd.R_slice HO230.out; subst eo43) | (go_at_call 58; (with_reducible refine (laws_r8Same.calls k _ _ t227 _ _ t218 false _ ?side1 ?side2 ?side3 ?side4 A28.out).mono ?_); (case side1 => exact tC (Kd.R_reads' HO230.out).2.2); (case side2 => exact (Kd.R_reads' HO230.out).2.1); (case side3 => exact tC (Kd.R_reads' HO220.out).2.2); (case side4 => exact (Kd.R_reads' HO220.out).2.1); rintro e w' ⟨rfl, ⟨nd, rfl⟩⟩))
            go_meet
            case rel => exact ⟨_, (true), tq, H', ⟨by first | omega | exact Nat.le_refl _⟩, ⟨by (with_reducible repeat (first | apply qra | apply qrn | apply qrd)); exact Kd.R_mono HO220.out (fun _ hk => trivial)⟩, ⟨tH HB⟩⟩
          replace c27 := Bool.eq_false_iff.mpr c27
          subst c27
          have H1 : (laws_FnScales.j0 k l1 t218 (t218.length : Int) (wrap64 (t221 - (t218.length : Int))) t222 t233 true) = some r := by rw [if_neg (show ¬ (false = true) by decide)] at H; exact H
          clear H
          have H := H1
          clear H1
          have H' := Aside0.mk H
          clear H
          go_wp2_with (first | (go_at_call 57; (with_reducible refine (impl_ToneOf.calls t222 t239 _ A24.out).mono ?_); rintro e w' ⟨rfl, ⟨nd, rfl⟩⟩) | (go_at_call 56; (with_reducible refine (laws_r8Has.calls k _ _ t218 t239 true _ ?side1 ?side2 A25.out).mono ?_); (case side1 => exact tC (Kd.R_reads' HO220.out).2.2); (case side2 => exact (Kd.R_reads' HO220.out).2.1); rintro e w' ⟨rfl, ⟨nd, rfl⟩⟩))
          go_meet
          case rel => exact ⟨_, (true), tq, H', ⟨by first | omega | exact Nat.le_refl _⟩, ⟨by (with_reducible repeat (first | apply qra | apply qrn | apply qrd)); exact Kd.R_mono HO220.out (fun _ hk => trivial)⟩, ⟨tH HB⟩⟩
        replace c26 := Bool.eq_false_iff.mpr c26
        subst c26
        have H1 : (laws_FnScales.j0 k l1 t218 (t218.length : Int) (wrap64 (t221 - (t218.length : Int))) t222 t233 true) = some r := by rw [if_neg (show ¬ (false = true) by decide)] at H; exact H
        clear H
        have H := H1
        clear H1
        have H' := Aside0.mk H
        clear H
        go_wp2_with (first | (go_at_call 57; (with_reducible refine (impl_ToneOf.calls t222 t239 _ A24.out).mono ?_); rintro e w' ⟨rfl, ⟨nd, rfl⟩⟩) | (go_at_call 56; (with_reducible refine (laws_r8Has.calls k _ _ t218 t239 false _ ?side1 ?side2 A25.out).mono ?_); (case side1 => exact tC (Kd.R_reads' HO220.out).2.2); (case side2 => exact (Kd.R_reads' HO220.out).2.1); rintro e w' ⟨rfl, ⟨nd, rfl⟩⟩))
        go_meet
        case rel => exact ⟨_, (true), tq, H', ⟨by first | omega | exact Nat.le_refl _⟩, ⟨by (with_reducible repeat (first | apply qra | apply qrn | apply qrd)); exact Kd.R_mono HO220.out (fun _ hk => trivial)⟩, ⟨tH HB⟩⟩
      rw [if_neg c21] at H
      have c21b0 : (t224 == (wrap64 (t221 - (t218.length : Int)))) = false := beq_eq_false_iff_ne.mpr c21
      have c21b1 : (t224 != (wrap64 (t221 - (t218.length : Int)))) = true := bne_iff_ne.mpr c21
      have H' := Aside0.mk H
      clear H
      go_wp2
      go_meet
      case rel => exact ⟨_, (true), tq, H', ⟨by first | omega | exact Nat.le_refl _⟩, ⟨by (with_reducible repeat (first | apply qra | apply qrn | apply qrd)); exact Kd.R_mono HO220.out (fun _ hk => trivial)⟩, ⟨tH HB⟩⟩
    rw [if_neg c20] at H
    have c20b0 : (t225 == 0) = false := beq_eq_false_iff_ne.mpr c20
    have c20b1 : (t225 != 0) = true := bne_iff_ne.mpr c20
    have H' := Aside0.mk H
    clear H
    go_wp2
    go_meet
    case rel => exact ⟨_, (true), tq, H', ⟨by first | omega | exact Nat.le_refl _⟩, ⟨by (with_reducible repeat (first | apply qra | apply qrn | apply qrd)); exact Kd.R_mono HO220.out (fun _ hk => trivial)⟩, ⟨tH HB⟩⟩
  rw [if_neg c19] at H
  have c19b0 : (t223 == 0) = false := beq_eq_false_iff_ne.mpr c19
  have c19b1 : (t223 != 0) = true := bne_iff_ne.mpr c19
  (first | rw [c19b0] | (simp only [i64_w, i32_w]; rw [c19b0]) | skip)
  have H' := Aside0.mk H
  clear H
  go_wp2
  go_meet
  case rel => exact ⟨_, (true), tq, H', ⟨by first | omega | exact Nat.le_refl _⟩, ⟨by (with_reducible repeat (first | apply qra | apply qrn | apply qrd)); exact Kd.R_mono HO220.out (fun _ hk => trivial)⟩, ⟨tH HB⟩⟩
 case rest => as_aux_lemma =>
 clear HC14
 try clear c1
 try clear c2
 try clear p2
 try clear c3
 try clear c4
 try clear c5
 try clear p6
 try clear c7
 try clear c13
 try clear c19
 try clear c19b0
 try clear c19b1
 try clear c20
 try clear c20b0
 try clear c20b1
 try clear c21
 try clear c21b0
 try clear c21b1
 try clear c22
 try clear c22b0
 try clear c23
 try clear c23b0
 try clear c26
 try clear c27
 try clear c29
 try clear c30
 try clear c30b0
 try clear c30b1
 try clear c31
 try clear c31b0
 try clear c31b1
 try clear c32
 try clear c32b0
 try clear c34
 try clear c34b0
 try clear c36
 try clear c36b0
 try clear c36b1
 obtain ⟨kq, x138_13, rfl, HA, HJ13, HO_5, HB⟩ := hcut
 cases kq with
 | zero => exact absurd HA.out (by simp [laws_FnScales.j0])
 | succ kj13 =>
 have H := HA.out
 clear HA
 simp only [laws_FnScales.j0] at H
 by_cases c44 : x138_13 = true
 · subst c44
   have H1 : (some false) = some r := by rw [if_pos rfl] at H; exact H
   clear H
   have H := H1
   clear H1
   obtain rfl := Option.some.inj H
   go_wp2
   go_ret
   exact ⟨tE, tH HB⟩
 as_aux_lemma =>
 replace c44 := Bool.eq_false_iff.mpr c44
 subst c44
 have H1 : (if (wrap64 ((wrap64 (t221 - (t218.length : Int))) + 1)) < (wrap64 (2 * (t218.length : Int))) then ((impl_ToneAt.f kj13 t218 (wrap64 ((wrap64 (t221 - (t218.length : Int))) + 1))).bind fun bt243 => (if bt243.2 = 0 then (if bt243.1 ≤ t222 then (some false) else (laws_FnScales.j1 kj13 l1 (t218.length : Int) t233)) else (some false))) else (laws_FnScales.j1 kj13 l1 (t218.length : Int) t233)) = some r := by rw [if_neg (show ¬ (false = true) by decide)] at H; exact H
 clear H
 have H := H1
 clear H1
 have HC45 := Aside0.mk H
 clear H
 go_upto_if 143 with (fail)
 go_cut [] (fun wc => ∃ (kq : Nat), Aside0 (laws_FnScales.j1 kq l1 (t218.length : Int) t233 = some r) ∧ Aside0 (kq ≤ kj13) ∧ Aside0 (Below w.heap.size w wc))
 case first => as_aux_lemma =>
  have H := HC45.out
  clear HC45
  by_cases c46 : (wrap64 ((wrap64 (t221 - (t218.length : Int))) + 1)) < (wrap64 (2 * (t218.length : Int)))
  · rw [if_pos c46] at H
    have c46b0 : decide ((wrap64 ((wrap64 (t221 - (t218.length : Int))) + 1)) < (wrap64 (2 * (t218.length : Int)))) = true := decide_eq_true c46
    clear c46
    (first | rw [c46b0] | (simp only [i64_w, i32_w]; rw [c46b0]) | skip)
    replace H := Option.bind_eq_some_iff.mp H
    obtain ⟨⟨t243, t244⟩, A470, H⟩ := H
    replace H : (if t244 = 0 then (if t243 ≤ t222 then (some false) else (laws_FnScales.j1 kj13 l1 (t218.length : Int) t233)) else (some false)) = some r := H
    have A47 := Aside0.mk A470
    clear A470
    by_cases c48 : t244 = 0
    · rw [if_pos c48] at H
      have c48b0 : (t244 == 0) = true := beq_iff_eq.mpr c48
      have c48b1 : (t244 != 0) = false := bne_eq_false_iff_eq.mpr c48
      clear c48
      by_cases c49 : t243 ≤ t222
      · rw [if_pos c49] at H
        have c49b0 : decide (t243 ≤ t222) = true := decide_eq_true c49
        clear c49
        obtain rfl := Option.some.inj H
        go_wp2_with (first | ((with_reducible refine gate_callee (f := 49) rfl ?_); refine gL_ (some 148) rfl rfl Try.func49 #[.slice Ao16 t218.length co16, .int .i64 (wrap64 ((wrap64 (t221 - (t218.length : Int))) + 1))] rfl ?_; (with_reducible refine (impl_ToneAt.calls kj13 _ _ t218 (wrap64 ((wrap64 (t221 - (t218.length : Int))) + 1)) t243 t244 _ ?side1 ?side2 A47.out).mono ?_); (case side1 => exact tC (Kd.R_reads' HO_5.out).2.2); (case side2 => exact (Kd.R_reads' HO_5.out).2.1); rintro e w' ⟨rfl, ⟨nd, rfl⟩⟩; refine ⟨_, rfl, ?_⟩))
        go_ret
        exact ⟨tE, tH HB⟩
      rw [if_neg c49] at H
      have c49b0 : decide (t243 ≤ t222) = false := decide_eq_false c49
      clear c49
      have H' := Aside0.mk H
      clear H
      go_wp2_with (first | ((with_reducible refine gate_callee (f := 49) rfl ?_); refine gL_ (some 148) rfl rfl Try.func49 #[.slice Ao16 t218.length co16, .int .i64 (wrap64 ((wrap64 (t221 - (t218.length : Int))) + 1))] rfl ?_; (with_reducible refine (impl_ToneAt.calls kj13 _ _ t218 (wrap64 ((wrap64 (t221 - (t218.length : Int))) + 1)) t243 t244 _ ?side1 ?side2 A47.out).mono ?_); (case side1 => exact tC (Kd.R_reads' HO_5.out).2.2); (case side2 => exact (Kd.R_reads' HO_5.out).2.1); rintro e w' ⟨rfl, ⟨nd, rfl⟩⟩; refine ⟨_, rfl, ?_⟩))
      go_meet
      case rel => exact ⟨_, H', ⟨by have := HJ13.out; first | omega | exact Nat.le_refl _⟩, ⟨tH HB⟩⟩
    rw [if_neg c48] at H
    have c48b0 : (t244 == 0) = false := beq_eq_false_iff_ne.mpr c48
    have c48b1 : (t244 != 0) = true := bne_iff_ne.mpr c48
    obtain rfl := Option.some.inj H
    go_wp2_with (first | ((with_reducible refine gate_callee (f := 49) rfl ?_); refine gL_ (some 148) rfl rfl Try.func49 #[.slice Ao16 t218.length co16, .int .i64 (wrap64 ((wrap64 (t221 - (t218.length : Int))) + 1))] rfl ?_; (with_reducible refine (impl_ToneAt.calls kj13 _ _ t218 (wrap64 ((wrap64 (t221 - (t218.length : Int))) + 1)) t243 t244 _ ?side1 ?side2 A47.out).mono ?_); (case side1 => exact tC (Kd.R_reads' HO_5.out).2.2); (case side2 => exact (Kd.R_reads' HO_5.out).2.1); rintro e w' ⟨rfl, ⟨nd, rfl⟩⟩; refine ⟨_, rfl, ?_⟩))
    go_ret
    exact ⟨tE, tH HB⟩
  rw [if_neg c46] at H
  have c46b0 : decide ((wrap64 ((wrap64 (t221 - (t218.length : Int))) + 1)) < (wrap64 (2 * (t218.length : Int)))) = false := decide_eq_false c46
  clear c46
  (first | rw [c46b0] | (simp only [i64_w, i32_w]; rw [c46b0]) | skip)
  have H' := Aside0.mk H
  clear H
  go_wp2
  go_meet
  case rel => exact ⟨_, H', ⟨by have := HJ13.out; first | omega | exact Nat.le_refl _⟩, ⟨tH HB⟩⟩
 case rest => as_aux_lemma =>
 clear HC45
 try clear c1
 try clear c2
 try clear p2
 try clear c3
 try clear c4
 try clear c5
 try clear p6
 try clear c7
 try clear c13
 try clear c19
 try clear c19b0
 try clear c19b1
 try clear c20
 try clear c20b0
 try clear c20b1
 try clear c21
 try clear c21b0
 try clear c21b1
 try clear c22
 try clear c22b0
 try clear c23
 try clear c23b0
 try clear c26
 try clear c27
 try clear c29
 try clear c30
 try clear c30b0
 try clear c30b1
 try clear c31
 try clear c31b0
 try clear c31b1
 try clear c32
 try clear c32b0
 try clear c34
 try clear c34b0
 try clear c36
 try clear c36b0
 try clear c36b1
 try clear c44
 try clear c46
 try clear c46b0
 try clear c47
 try clear c48
 try clear c48b0
 try clear c48b1
 try clear c49
 try clear c49b0
 try clear p2
 try clear p6
 obtain ⟨kq, HA, HJ44, HB⟩ := hcut
 cases kq with
 | zero => exact absurd HA.out (by simp [laws_FnScales.j1])
 | succ kj44 =>
 have H := HA.out
 clear HA
 simp only [laws_FnScales.j1] at H
 replace H := Option.bind_eq_some_iff.mp H
 obtain ⟨t245, A500, H⟩ := H
 replace H : (if t233 = 0 then (none) else ((impl_NumberedScale.f kj44 (t218.length : Int) (Int.tmod t245 t233)).bind fun bt246 => ((impl_ScaleNumber.f kj44 bt246.1).bind fun bt250 => ((laws_r8At.f l1 3 12).bind fun t252 => ((impl_ToneName.f t252).bind fun t253 => ((impl_ToneNamed.f t253).bind fun bt254 => (if bt246.2 = 0 then ((spec_ValidScale.f kj44 bt246.1).bind fun t256 => (if t256 = true then (if (bt246.1.length : Int) = (t218.length : Int) then (if bt250.2 = 0 then (if bt250.1 = (Int.tmod t245 t233) then (if bt254.2 = true then ((laws_r8At.f l1 3 12).bind fun t257 => (some (bt254.1 == t257))) else (some false)) else (some false)) else (some false)) else (some false)) else (some false))) else (some false)))))))) = some r := H
 have A50 := Aside0.mk A500
 clear A500
 by_cases c51 : t233 = 0
 · rw [if_pos c51] at H
   exact absurd H (by simp)
 as_aux_lemma =>
 rw [if_neg c51] at H
 have c51b0 : (t233 == 0) = false := beq_eq_false_iff_ne.mpr c51
 have c51b1 : (t233 != 0) = true := bne_iff_ne.mpr c51
 replace H := Option.bind_eq_some_iff.mp H
 obtain ⟨⟨t246, t247⟩, A520, H⟩ := H
 replace H : ((impl_ScaleNumber.f kj44 t246).bind fun bt250 => ((laws_r8At.f l1 3 12).bind fun t252 => ((impl_ToneName.f t252).bind fun t253 => ((impl_ToneNamed.f t253).bind fun bt254 => (if t247 = 0 then ((spec_ValidScale.f kj44 t246).bind fun t256 => (if t256 = true then (if (t246.length : Int) = (t218.length : Int) then (if bt250.2 = 0 then (if bt250.1 = (Int.tmod t245 t233) then (if bt254.2 = true then ((laws_r8At.f l1 3 12).bind fun t257 => (some (bt254.1 == t257))) else (some false)) else (some false)) else (some false)) else (some false)) else (some false))) else (some false)))))) = some r := H
 have A52 := Aside0.mk A520
 clear A520
 replace H := Option.bind_eq_some_iff.mp H
 obtain ⟨⟨t250, t251⟩, A530, H⟩ := H
 replace H : ((laws_r8At.f l1 3 12).bind fun t252 => ((impl_ToneName.f t252).bind fun t253 => ((impl_ToneNamed.f t253).bind fun bt254 => (if t247 = 0 then ((spec_ValidScale.f kj44 t246).bind fun t256 => (if t256 = true then (if (t246.length : Int) = (t218.length : Int) then (if t251 = 0 then (if t250 = (Int.tmod t245 t233) then (if bt254.2 = true then ((laws_r8At.f l1 3 12).bind fun t257 => (some (bt254.1 == t257))) else (some false)) else (some false)) else (some false)) else (some false)) else (some false))) else (some false))))) = some r := H
 have A53 := Aside0.mk A530
 clear A530
 replace H := Option.bind_eq_some_iff.mp H
 obtain ⟨t252, A540, H⟩ := H
 replace H : ((impl_ToneName.f t252).bind fun t253 => ((impl_ToneNamed.f t253).bind fun bt254 => (if t247 = 0 then ((spec_ValidScale.f kj44 t246).bind fun t256 => (if t256 = true then (if (t246.length : Int) = (t218.length : Int) then (if t251 = 0 then (if t250 = (Int.tmod t245 t233) then (if bt254.2 = true then ((laws_r8At.f l1 3 12).bind fun t257 => (some (bt254.1 == t257))) else (some false)) else (some false)) else (some false)) else (some false)) else (some false))) else (some false)))) = some r := H
 have A54 := Aside0.mk A540
 clear A540
 replace H := Option.bind_eq_some_iff.mp H
 obtain ⟨t253, A550, H⟩ := H
 replace H : ((impl_ToneNamed.f t253).bind fun bt254 => (if t247 = 0 then ((spec_ValidScale.f kj44 t246).bind fun t256 => (if t256 = true then (if (t246.length : Int) = (t218.length : Int) then (if t251 = 0 then (if t250 = (Int.tmod t245 t233) then (if bt254.2 = true then ((laws_r8At.f l1 3 12).bind fun t257 => (some (bt254.1 == t257))) else (some false)) else (some false)) else (some false)) else (some false)) else (some false))) else (some false))) = some r := H
 have A55 := Aside0.mk A550
 clear A550
 replace H := Option.bind_eq_some_iff.mp H
 obtain ⟨⟨t254, t255⟩, A560, H⟩ := H
 replace H : (if t247 = 0 then ((spec_ValidScale.f kj44 t246).bind fun t256 => (if t256 = true then (if (t246.length : Int) = (t218.length : Int) then (if t251 = 0 then (if t250 = (Int.tmod t245 t233) then (if t255 = true then ((laws_r8At.f l1 3 12).bind fun t257 => (some (t254 == t257))) else (some false)) else (some false)) else (some false)) else (some false)) else (some false))) else (some false)) = some r := H
 have A56 := Aside0.mk A560
 clear A560
 by_cases c57 : t247 = 0
 · as_aux_lemma =>
   rw [if_pos c57] at H
   have c57b0 : (t247 == 0) = true := beq_iff_eq.mpr c57
   have c57b1 : (t247 != 0) = false := bne_eq_false_iff_eq.mpr c57
   clear c57
   replace H := Option.bind_eq_some_iff.mp H
   obtain ⟨t256, A580, H⟩ := H
   replace H : (if t256 = true then (if (t246.length : Int) = (t218.length : Int) then (if t251 = 0 then (if t250 = (Int.tmod t245 t233) then (if t255 = true then ((laws_r8At.f l1 3 12).bind fun t257 => (some (t254 == t257))) else (some false)) else (some false)) else (some false)) else (some false)) else (some false)) = some r := H
   have A58 := Aside0.mk A580
   clear A580
   by_cases c59 : t256 = true
   · as_aux_lemma =>
     subst c59
     have H1 : (if (t246.length : Int) = (t218.length : Int) then (if t251 = 0 then (if t250 = (Int.tmod t245 t233) then (if t255 = true then ((laws_r8At.f l1 3 12).bind fun t257 => (some (t254 == t257))) else (some false)) else (some false)) else (some false)) else (some false)) = some r := by rw [if_pos rfl] at H; exact H
     clear H
     have H := H1
     clear H1
     by_cases c60 : (t246.length : Int) = (t218.length : Int)
     · rw [if_pos c60] at H
       have c60b0 : ((t246.length : Int) == (t218.length : Int)) = true := beq_iff_eq.mpr c60
       have c60b1 : ((t246.length : Int) != (t218.length : Int)) = false := bne_eq_false_iff_eq.mpr c60
       have c60b2 : (t246.length == t218.length) = true := by first | simpa using c60 | (simp at c60 ⊢; omega)
       clear c60
       by_cases c61 : t251 = 0
       · rw [if_pos c61] at H
         have c61b0 : (t251 == 0) = true := beq_iff_eq.mpr c61
         have c61b1 : (t251 != 0) = false := bne_eq_false_iff_eq.mpr c61
         clear c61
         by_cases c62 : t250 = (Int.tmod t245 t233)
         · rw [if_pos c62] at H
           have c62b0 : (t250 == (Int.tmod t245 t233)) = true := beq_iff_eq.mpr c62
           have c62b1 : (t250 != (Int.tmod t245 t233)) = false := bne_eq_false_iff_eq.mpr c62
           clear c62
           by_cases c63 : t255 = true
           · subst c63
             have H1 : ((laws_r8At.f l1 3 12).bind fun t257 => (some (t254 == t257))) = some r := by rw [if_pos rfl] at H; exact H
             clear H
             have H := H1
             clear H1
             replace H := Option.bind_eq_some_iff.mp H
             obtain ⟨t257, A640, H⟩ := H
             replace H : (some (t254 == t257)) = some r := H
             have A64 := Aside0.mk A640
             clear A640
             obtain rfl := Option.some.inj H
             go_wp2_with (first | ((with_reducible refine gate_callee (f := 59) rfl ?_); refine gL_ (some 159) rfl rfl Try.func59 #[.slice A1 l1.length c1, .int .i64 1, .int .i64 462] rfl ?_; (with_reducible refine (laws_r8Wide.calls _ _ l1 1 462 t245 _ ?side1 ?side2 A50.out).mono ?_); (case side1 => exact tC (Kd.C_below HR1.out HB.out)); (case side2 => exact HC1.out); rintro e w' ⟨rfl, ⟨nd, rfl⟩⟩; refine ⟨_, rfl, ?_⟩) | ((with_reducible refine gate_callee (f := 55) rfl ?_); refine gL_ (some 165) rfl rfl Try.func55 #[.int .i64 (t218.length : Int), .int .i64 (Int.tmod t245 t233)] rfl ?_; (with_reducible refine (impl_NumberedScale.calls kj44 (t218.length : Int) (Int.tmod t245 t233) t246 t247 _ A52.out).mono ?_); rintro e w65 ⟨v248, rfl, ho0, hb⟩; refine ⟨_, rfl, ?_⟩; have HO249 := Aside0.mk (Kd.R_lower ho0 (below_size (tH HB))); replace HB := Aside0.mk (below_step (tH HB) hb); (try clear hb); (try clear hb2); (try clear hk); (try clear hi); (try clear ho0); obtain ⟨Ao66, co66, eo66⟩ := Kd.R_slice HO249.out; subst eo66) | ((with_reducible refine gate_callee (f := 53) rfl ?_); refine gL_ (some 170) rfl rfl Try.func53 #[.slice Ao66 t246.length co66] rfl ?_; (with_reducible refine (impl_ScaleNumber.calls kj44 _ _ t246 t250 t251 _ ?side1 ?side2 A53.out).mono ?_); (case side1 => exact tC (Kd.R_reads' HO249.out).2.2); (case side2 => exact (Kd.R_reads' HO249.out).2.1); rintro e w' ⟨rfl, ⟨nd, rfl⟩⟩; refine ⟨_, rfl, ?_⟩) | ((with_reducible refine gate_callee (f := 48) rfl ?_); refine gL_ (some 175) rfl rfl Try.func48 #[.slice A1 l1.length c1, .int .i64 3, .int .i64 12] rfl ?_; (with_reducible refine (laws_r8At.calls _ _ l1 3 12 t252 _ ?side1 ?side2 A54.out).mono ?_); (case side1 => exact Kd.C_below HR1.out (tH HB)); (case side2 => exact HC1.out); rintro e w' ⟨rfl, ⟨nd, rfl⟩⟩; refine ⟨_, rfl, ?_⟩) | ((with_reducible refine gate_callee (f := 61) rfl ?_); refine gL_ (some 176) rfl rfl Try.func61 #[.int .i64 t252] rfl ?_; (with_reducible refine (impl_ToneName.calls t252 t253 _ A55.out).mono ?_); rintro e w' ⟨rfl, ⟨nd, rfl⟩⟩; refine ⟨_, rfl, ?_⟩) | ((with_reducible refine gate_callee (f := 60) rfl ?_); refine gL_ (some 177) rfl rfl Try.func60 #[.string t253] rfl ?_; (with_reducible refine (impl_ToneNamed.calls t253 t254 true _ A56.out).mono ?_); rintro e w' ⟨rfl, ⟨nd, rfl⟩⟩; refine ⟨_, rfl, ?_⟩) | (go_at_call 62; (with_reducible refine (spec_ValidScale.calls kj44 _ _ t246 true _ ?side1 ?side2 A58.out).mono ?_); (case side1 => exact tC (Kd.R_reads' HO249.out).2.2); (case side2 => exact (Kd.R_reads' HO249.out).2.1); rintro e w' ⟨rfl, ⟨nd, rfl⟩⟩) | (go_at_call 48; (with_reducible refine (laws_r8At.calls _ _ l1 3 12 t257 _ ?side1 ?side2 A64.out).mono ?_); (case side1 => exact Kd.C_below HR1.out (tH HB)); (case side2 => exact HC1.out); rintro e w' ⟨rfl, ⟨nd, rfl⟩⟩))
             go_ret
             exact ⟨tE, tH HB⟩
           replace c63 := Bool.eq_false_iff.mpr c63
           subst c63
           have H1 : (some false) = some r := by rw [if_neg (show ¬ (false = true) by decide)] at H; exact H
           clear H
           have H := H1
           clear H1
           obtain rfl := Option.some.inj H
           go_wp2_with (first | ((with_reducible refine gate_callee (f := 59) rfl ?_); refine gL_ (some 159) rfl rfl Try.func59 #[.slice A1 l1.length c1, .int .i64 1, .int .i64 462] rfl ?_; (with_reducible refine (laws_r8Wide.calls _ _ l1 1 462 t245 _ ?side1 ?side2 A50.out).mono ?_); (case side1 => exact tC (Kd.C_below HR1.out HB.out)); (case side2 => exact HC1.out); rintro e w' ⟨rfl, ⟨nd, rfl⟩⟩; refine ⟨_, rfl, ?_⟩) | ((with_reducible refine gate_callee (f := 55) rfl ?_); refine gL_ (some 165) rfl rfl Try.func55 #[.int .i64 (t218.length : Int), .int .i64 (Int.tmod t245 t233)] rfl ?_; (with_reducible refine (impl_NumberedScale.calls kj44 (t218.length : Int) (Int.tmod t245 t233) t246 t247 _ A52.out).mono ?_); rintro e w67 ⟨v248, rfl, ho0, hb⟩; refine ⟨_, rfl, ?_⟩; have HO249 := Aside0.mk (Kd.R_lower ho0 (below_size (tH HB))); replace HB := Aside0.mk (below_step (tH HB) hb); (try clear hb); (try clear hb2); (try clear hk); (try clear hi); (try clear ho0); obtain ⟨Ao68, co68, eo68⟩ := Kd.R_slice HO249.out; subst eo68) | ((with_reducible refine gate_callee (f := 53) rfl ?_); refine gL_ (some 170) rfl rfl Try.func53 #[.slice Ao68 t246.length co68] rfl ?_; (with_reducible refine (impl_ScaleNumber.calls kj44 _ _ t246 t250 t251 _ ?side1 ?side2 A53.out).mono ?_); (case side1 => exact tC (Kd.R_reads' HO249.out).2.2); (case side2 => exact (Kd.R_reads' HO249.out).2.1); rintro e w' ⟨rfl, ⟨nd, rfl⟩⟩; refine ⟨_, rfl, ?_⟩) | ((with_reducible refine gate_callee (f := 48) rfl ?_); refine gL_ (some 175) rfl rfl Try.func48 #[.slice A1 l1.length c1, .int .i64 3, .int .i64 12] rfl ?_; (with_reducible refine (laws_r8At.calls _ _ l1 3 12 t252 _ ?side1 ?side2 A54.out).mono ?_); (case side1 => exact Kd.C_below HR1.out (tH HB)); (case side2 => exact HC1.out); rintro e w' ⟨rfl, ⟨nd, rfl⟩⟩; refine ⟨_, rfl, ?_⟩) | ((with_reducible refine gate_callee (f := 61) rfl ?_); refine gL_ (some 176) rfl rfl Try.func61 #[.int .i64 t252] rfl ?_; (with_reducible refine (impl_ToneName.calls t252 t253 _ A55.out).mono ?_); rintro e w' ⟨rfl, ⟨nd, rfl⟩⟩; refine ⟨_, rfl, ?_⟩) | ((with_reducible refine gate_callee (f := 60) rfl ?_); refine gL_ (some 177) rfl rfl Try.func60 #[.string t253] rfl ?_; (with_reducible refine (impl_ToneNamed.calls t253 t254 false _ A56.out).mono ?_); rintro e w' ⟨rfl, ⟨nd, rfl⟩⟩; refine ⟨_, rfl, ?_⟩) | (go_at_call 62; (with_reducible refine (spec_ValidScale.calls kj44 _ _ t246 true _ ?side1 ?side2 A58.out).mono ?_); (case side1 => exact tC (Kd.R_reads' HO249.out).2.2); (case side2 => exact (Kd.R_reads' HO249.out).2.1); rintro e w' ⟨rfl, ⟨nd, rfl⟩⟩))
           go_ret
           exact ⟨tE, tH HB⟩
         rw [if_neg c62] at H
         have c62b0 : (t250 == (Int.tmod t245 t233)) = false := beq_eq_false_iff_ne.mpr c62
         have c62b1 : (t250 != (Int.tmod t245 t233)) = true := bne_iff_ne.mpr c62
         obtain rfl := Option.some.inj H
         go_wp2_with (first | ((with_reducible refine gate_callee (f := 59) rfl ?_); refine gL_ (some 159) rfl rfl Try.func59 #[.slice A1 l1.length c1, .int .i64 1, .int .i64 462] rfl ?_; (with_reducible refine (laws_r8Wide.calls _ _ l1 1 462 t245 _ ?side1 ?side2 A50.out).mono ?_); (case side1 => exact tC (Kd.C_below HR1.out HB.out)); (case side2 => exact HC1.out); rintro e w' ⟨rfl, ⟨nd, rfl⟩⟩; refine ⟨_, rfl, ?_⟩) | ((with_reducible refine gate_callee (f := 55) rfl ?_); refine gL_ (some 165) rfl rfl Try.func55 #[.int .i64 (t218.length : Int), .int .i64 (Int.tmod t245 t233)] rfl ?_; (with_reducible refine (impl_NumberedScale.calls kj44 (t218.length : Int) (Int.tmod t245 t233) t246 t247 _ A52.out).mono ?_); rintro e w69 ⟨v248, rfl, ho0, hb⟩; refine ⟨_, rfl, ?_⟩; have HO249 := Aside0.mk (Kd.R_lower ho0 (below_size (tH HB))); replace HB := Aside0.mk (below_step (tH HB) hb); (try clear hb); (try clear hb2); (try clear hk); (try clear hi); (try clear ho0); obtain ⟨Ao70, co70, eo70⟩ := Kd.R_slice HO249.out; subst eo70) | ((with_reducible refine gate_callee (f := 53) rfl ?_); refine gL_ (some 170) rfl rfl Try.func53 #[.slice Ao70 t246.length co70] rfl ?_; (with_reducible refine (impl_ScaleNumber.calls kj44 _ _ t246 t250 t251 _ ?side1 ?side2 A53.out).mono ?_); (case side1 => exact tC (Kd.R_reads' HO249.out).2.2); (case side2 => exact (Kd.R_reads' HO249.out).2.1); rintro e w' ⟨rfl, ⟨nd, rfl⟩⟩; refine ⟨_, rfl, ?_⟩) | ((with_reducible refine gate_callee (f := 48) rfl ?_); refine gL_ (some 175) rfl rfl Try.func48 #[.slice A1 l1.length c1, .int .i64 3, .int .i64 12] rfl ?_; (with_reducible refine (laws_r8At.calls _ _ l1 3 12 t252 _ ?side1 ?side2 A54.out).mono ?_); (case side1 => exact Kd.C_below HR1.out (tH HB)); (case side2 => exact HC1.out); rintro e w' ⟨rfl, ⟨nd, rfl⟩⟩; refine ⟨_, rfl, ?_⟩) | ((with_reducible refine gate_callee (f := 61) rfl ?_); refine gL_ (some 176) rfl rfl Try.func61 #[.int .i64 t252] rfl ?_; (with_reducible refine (impl_ToneName.calls t252 t253 _ A55.out).mono ?_); rintro e w' ⟨rfl, ⟨nd, rfl⟩⟩; refine ⟨_, rfl, ?_⟩) | ((with_reducible refine gate_callee (f := 60) rfl ?_); refine gL_ (some 177) rfl rfl Try.func60 #[.string t253] rfl ?_; (with_reducible refine (impl_ToneNamed.calls t253 t254 t255 _ A56.out).mono ?_); rintro e w' ⟨rfl, ⟨nd, rfl⟩⟩; refine ⟨_, rfl, ?_⟩) | (go_at_call 62; (with_reducible refine (spec_ValidScale.calls kj44 _ _ t246 true _ ?side1 ?side2 A58.out).mono ?_); (case side1 => exact tC (Kd.R_reads' HO249.out).2.2); (case side2 => exact (Kd.R_reads' HO249.out).2.1); rintro e w' ⟨rfl, ⟨nd, rfl⟩⟩))
         go_ret
         exact ⟨tE, tH HB⟩
       rw [if_neg c61] at H
       have c61b0 : (t251 == 0) = false := beq_eq_false_iff_ne.mpr c61
       have c61b1 : (t251 != 0) = true := bne_iff_ne.mpr c61
       obtain rfl := Option.some.inj H
       go_wp2_with (first | ((with_reducible refine gate_callee (f := 59) rfl ?_); refine gL_ (some 159) rfl rfl Try.func59 #[.slice A1 l1.length c1, .int .i64 1, .int .i64 462] rfl ?_; (with_reducible refine (laws_r8Wide.calls _ _ l1 1 462 t245 _ ?side1 ?side2 A50.out).mono ?_); (case side1 => exact tC (Kd.C_below HR1.out HB.out)); (case side2 => exact HC1.out); rintro e w' ⟨rfl, ⟨nd, rfl⟩⟩; refine ⟨_, rfl, ?_⟩) | ((with_reducible refine gate_callee (f := 55) rfl ?_); refine gL_ (some 165) rfl rfl Try.func55 #[.int .i64 (t218.length : Int), .int .i64 (Int.tmod t245 t233)] rfl ?_; (with_reducible refine (impl_NumberedScale.calls kj44 (t218.length : Int) (Int.tmod t245 t233) t246 t247 _ A52.out).mono ?_); rintro e w71 ⟨v248, rfl, ho0, hb⟩; refine ⟨_, rfl, ?_⟩; have HO249 := Aside0.mk (Kd.R_lower ho0 (below_size (tH HB))); replace HB := Aside0.mk (below_step (tH HB) hb); (try clear hb); (try clear hb2); (try clear hk); (try clear hi); (try clear ho0); obtain ⟨Ao72, co72, eo72⟩ := Kd.R_slice HO249.out; subst eo72) | ((with_reducible refine gate_callee (f := 53) rfl ?_); refine gL_ (some 170) rfl rfl Try.func53 #[.slice Ao72 t246.length co72] rfl ?_; (with_reducible refine (impl_ScaleNumber.calls kj44 _ _ t246 t250 t251 _ ?side1 ?side2 A53.out).mono ?_); (case side1 => exact tC (Kd.R_reads' HO249.out).2.2); (case side2 => exact (Kd.R_reads' HO249.out).2.1); rintro e w' ⟨rfl, ⟨nd, rfl⟩⟩; refine ⟨_, rfl, ?_⟩) | ((with_reducible refine gate_callee (f := 48) rfl ?_); refine gL_ (some 175) rfl rfl Try.func48 #[.slice A1 l1.length c1, .int .i64 3, .int .i64 12] rfl ?_; (with_reducible refine (laws_r8At.calls _ _ l1 3 12 t252 _ ?side1 ?side2 A54.out).mono ?_); (case side1 => exact Kd.C_below HR1.out (tH HB)); (case side2 => exact HC1.out); rintro e w' ⟨rfl, ⟨nd, rfl⟩⟩; refine ⟨_, rfl, ?_⟩) | ((with_reducible refine gate_callee (f := 61) rfl ?_); refine gL_ (some 176) rfl rfl Try.func61 #[.int .i64 t252] rfl ?_; (with_reducible refine (impl_ToneName.calls t252 t253 _ A55.out).mono ?_); rintro e w' ⟨rfl, ⟨nd, rfl⟩⟩; refine ⟨_, rfl, ?_⟩) | ((with_reducible refine gate_callee (f := 60) rfl ?_); refine gL_ (some 177) rfl rfl Try.func60 #[.string t253] rfl ?_; (with_reducible refine (impl_ToneNamed.calls t253 t254 t255 _ A56.out).mono ?_); rintro e w' ⟨rfl, ⟨nd, rfl⟩⟩; refine ⟨_, rfl, ?_⟩) | (go_at_call 62; (with_reducible refine (spec_ValidScale.calls kj44 _ _ t246 true _ ?side1 ?side2 A58.out).mono ?_); (case side1 => exact tC (Kd.R_reads' HO249.out).2.2); (case side2 => exact (Kd.R_reads' HO249.out).2.1); rintro e w' ⟨rfl, ⟨nd, rfl⟩⟩))
       go_ret
       exact ⟨tE, tH HB⟩
     rw [if_neg c60] at H
     have c60b0 : ((t246.length : Int) == (t218.length : Int)) = false := beq_eq_false_iff_ne.mpr c60
     have c60b1 : ((t246.length : Int) != (t218.length : Int)) = true := bne_iff_ne.mpr c60
     have c60b2 : (t246.length == t218.length) = false := by first | simpa using c60 | (simp at c60 ⊢; omega)
     obtain rfl := Option.some.inj H
     go_wp2_with (first | ((with_reducible refine gate_callee (f := 59) rfl ?_); refine gL_ (some 159) rfl rfl Try.func59 #[.slice A1 l1.length c1, .int .i64 1, .int .i64 462] rfl ?_; (with_reducible refine (laws_r8Wide.calls _ _ l1 1 462 t245 _ ?side1 ?side2 A50.out).mono ?_); (case side1 => exact tC (Kd.C_below HR1.out HB.out)); (case side2 => exact HC1.out); rintro e w' ⟨rfl, ⟨nd, rfl⟩⟩; refine ⟨_, rfl, ?_⟩) | ((with_reducible refine gate_callee (f := 55) rfl ?_); refine gL_ (some 165) rfl rfl Try.func55 #[.int .i64 (t218.length : Int), .int .i64 (Int.tmod t245 t233)] rfl ?_; (with_reducible refine (impl_NumberedScale.calls kj44 (t218.length : Int) (Int.tmod t245 t233) t246 t247 _ A52.out).mono ?_); rintro e w73 ⟨v248, rfl, ho0, hb⟩; refine ⟨_, rfl, ?_⟩; have HO249 := Aside0.mk (Kd.R_lower ho0 (below_size (tH HB))); replace HB := Aside0.mk (below_step (tH HB) hb); (try clear hb); (try clear hb2); (try clear hk); (try clear hi); (try clear ho0); obtain ⟨Ao74, co74, eo74⟩ := Kd.R_slice HO249.out; subst eo74) | ((with_reducible refine gate_callee (f := 53) rfl ?_); refine gL_ (some 170) rfl rfl Try.func53 #[.slice Ao74 t246.length co74] rfl ?_; (with_reducible refine (impl_ScaleNumber.calls kj44 _ _ t246 t250 t251 _ ?side1 ?side2 A53.out).mono ?_); (case side1 => exact tC (Kd.R_reads' HO249.out).2.2); (case side2 => exact (Kd.R_reads' HO249.out).2.1); rintro e w' ⟨rfl, ⟨nd, rfl⟩⟩; refine ⟨_, rfl, ?_⟩) | ((with_reducible refine gate_callee (f := 48) rfl ?_); refine gL_ (some 175) rfl rfl Try.func48 #[.slice A1 l1.length c1, .int .i64 3, .int .i64 12] rfl ?_; (with_reducible refine (laws_r8At.calls _ _ l1 3 12 t252 _ ?side1 ?side2 A54.out).mono ?_); (case side1 => exact Kd.C_below HR1.out (tH HB)); (case side2 => exact HC1.out); rintro e w' ⟨rfl, ⟨nd, rfl⟩⟩; refine ⟨_, rfl, ?_⟩) | ((with_reducible refine gate_callee (f := 61) rfl ?_); refine gL_ (some 176) rfl rfl Try.func61 #[.int .i64 t252] rfl ?_; (with_reducible refine (impl_ToneName.calls t252 t253 _ A55.out).mono ?_); rintro e w' ⟨rfl, ⟨nd, rfl⟩⟩; refine ⟨_, rfl, ?_⟩) | ((with_reducible refine gate_callee (f := 60) rfl ?_); refine gL_ (some 177) rfl rfl Try.func60 #[.string t253] rfl ?_; (with_reducible refine (impl_ToneNamed.calls t253 t254 t255 _ A56.out).mono ?_); rintro e w' ⟨rfl, ⟨nd, rfl⟩⟩; refine ⟨_, rfl, ?_⟩) | (go_at_call 62; (with_reducible refine (spec_ValidScale.calls kj44 _ _ t246 true _ ?side1 ?side2 A58.out).mono ?_); (case side1 => exact tC (Kd.R_reads' HO249.out).2.2); (case side2 => exact (Kd.R_reads' HO249.out).2.1); rintro e w' ⟨rfl, ⟨nd, rfl⟩⟩))
     go_ret
     exact ⟨tE, tH HB⟩
   replace c59 := Bool.eq_false_iff.mpr c59
   subst c59
   have H1 : (some false) = some r := by rw [if_neg (show ¬ (false = true) by decide)] at H; exact H
   clear H
   have H := H1
   clear H1
   obtain rfl := Option.some.inj H
   go_wp2_with (first | ((with_reducible refine gate_callee (f := 59) rfl ?_); refine gL_ (some 159) rfl rfl Try.func59 #[.slice A1 l1.length c1, .int .i64 1, .int .i64 462] rfl ?_; (with_reducible refine (laws_r8Wide.calls _ _ l1 1 462 t245 _ ?side1 ?side2 A50.out).mono ?_); (case side1 => exact tC (Kd.C_below HR1.out HB.out)); (case side2 => exact HC1.out); rintro e w' ⟨rfl, ⟨nd, rfl⟩⟩; refine ⟨_, rfl, ?_⟩) | ((with_reducible refine gate_callee (f := 55) rfl ?_); refine gL_ (some 165) rfl rfl Try.func55 #[.int .i64 (t218.length : Int), .int .i64 (Int.tmod t245 t233)] rfl ?_; (with_reducible refine (impl_NumberedScale.calls kj44 (t218.length : Int) (Int.tmod t245 t233) t246 t247 _ A52.out).mono ?_); rintro e w75 ⟨v248, rfl, ho0, hb⟩; refine ⟨_, rfl, ?_⟩; have HO249 := Aside0.mk (Kd.R_lower ho0 (below_size (tH HB))); replace HB := Aside0.mk (below_step (tH HB) hb); (try clear hb); (try clear hb2); (try clear hk); (try clear hi); (try clear ho0); obtain ⟨Ao76, co76, eo76⟩ := Kd.R_slice HO249.out; subst eo76) | ((with_reducible refine gate_callee (f := 53) rfl ?_); refine gL_ (some 170) rfl rfl Try.func53 #[.slice Ao76 t246.length co76] rfl ?_; (with_reducible refine (impl_ScaleNumber.calls kj44 _ _ t246 t250 t251 _ ?side1 ?side2 A53.out).mono ?_); (case side1 => exact tC (Kd.R_reads' HO249.out).2.2); (case side2 => exact (Kd.R_reads' HO249.out).2.1); rintro e w' ⟨rfl, ⟨nd, rfl⟩⟩; refine ⟨_, rfl, ?_⟩) | ((with_reducible refine gate_callee (f := 48) rfl ?_); refine gL_ (some 175) rfl rfl Try.func48 #[.slice A1 l1.length c1, .int .i64 3, .int .i64 12] rfl ?_; (with_reducible refine (laws_r8At.calls _ _ l1 3 12 t252 _ ?side1 ?side2 A54.out).mono ?_); (case side1 => exact Kd.C_below HR1.out (tH HB)); (case side2 => exact HC1.out); rintro e w' ⟨rfl, ⟨nd, rfl⟩⟩; refine ⟨_, rfl, ?_⟩) | ((with_reducible refine gate_callee (f := 61) rfl ?_); refine gL_ (some 176) rfl rfl Try.func61 #[.int .i64 t252] rfl ?_; (with_reducible refine (impl_ToneName.calls t252 t253 _ A55.out).mono ?_); rintro e w' ⟨rfl, ⟨nd, rfl⟩⟩; refine ⟨_, rfl, ?_⟩) | ((with_reducible refine gate_callee (f := 60) rfl ?_); refine gL_ (some 177) rfl rfl Try.func60 #[.string t253] rfl ?_; (with_reducible refine (impl_ToneNamed.calls t253 t254 t255 _ A56.out).mono ?_); rintro e w' ⟨rfl, ⟨nd, rfl⟩⟩; refine ⟨_, rfl, ?_⟩) | (go_at_call 62; (with_reducible refine (spec_ValidScale.calls kj44 _ _ t246 false _ ?side1 ?side2 A58.out).mono ?_); (case side1 => exact tC (Kd.R_reads' HO249.out).2.2); (case side2 => exact (Kd.R_reads' HO249.out).2.1); rintro e w' ⟨rfl, ⟨nd, rfl⟩⟩))
   go_ret
   exact ⟨tE, tH HB⟩
 rw [if_neg c57] at H
 have c57b0 : (t247 == 0) = false := beq_eq_false_iff_ne.mpr c57
 have c57b1 : (t247 != 0) = true := bne_iff_ne.mpr c57
 obtain rfl := Option.some.inj H
 go_wp2_with (first | ((with_reducible refine gate_callee (f := 59) rfl ?_); refine gL_ (some 159) rfl rfl Try.func59 #[.slice A1 l1.length c1, .int .i64 1, .int .i64 462] rfl ?_; (with_reducible refine (laws_r8Wide.calls _ _ l1 1 462 t245 _ ?side1 ?side2 A50.out).mono ?_); (case side1 => exact tC (Kd.C_below HR1.out HB.out)); (case side2 => exact HC1.out); rintro e w' ⟨rfl, ⟨nd, rfl⟩⟩; refine ⟨_, rfl, ?_⟩) | ((with_reducible refine gate_callee (f := 55) rfl ?_); refine gL_ (some 165) rfl rfl Try.func55 #[.int .i64 (t218.length : Int), .int .i64 (Int.tmod t245 t233)] rfl ?_; (with_reducible refine (impl_NumberedScale.calls kj44 (t218.length : Int) (Int.tmod t245 t233) t246 t247 _ A52.out).mono ?_); rintro e w77 ⟨v248, rfl, ho0, hb⟩; refine ⟨_, rfl, ?_⟩; have HO249 := Aside0.mk (Kd.R_lower ho0 (below_size (tH HB))); replace HB := Aside0.mk (below_step (tH HB) hb); (try clear hb); (try clear hb2); (try clear hk); (try clear hi); (try clear ho0); obtain ⟨Ao78, co78, eo78⟩ := Kd.R_slice HO249.out; subst eo78) | ((with_reducible refine gate_callee (f := 53) rfl ?_); refine gL_ (some 170) rfl rfl Try.func53 #[.slice Ao78 t246.length co78] rfl ?_; (with_reducible refine (impl_ScaleNumber.calls kj44 _ _ t246 t250 t251 _ ?side1 ?side2 A53.out).mono ?_); (case side1 => exact tC (Kd.R_reads' HO249.out).2.2); (case side2 => exact (Kd.R_reads' HO249.out).2.1); rintro e w' ⟨rfl, ⟨nd, rfl⟩⟩; refine ⟨_, rfl, ?_⟩) | ((with_reducible refine gate_callee (f := 48) rfl ?_); refine gL_ (some 175) rfl rfl Try.func48 #[.slice A1 l1.length c1, .int .i64 3, .int .i64 12] rfl ?_; (with_reducible refine (laws_r8At.calls _ _ l1 3 12 t252 _ ?side1 ?side2 A54.out).mono ?_); (case side1 => exact Kd.C_below HR1.out (tH HB)); (case side2 => exact HC1.out); rintro e w' ⟨rfl, ⟨nd, rfl⟩⟩; refine ⟨_, rfl, ?_⟩) | ((with_reducible refine gate_callee (f := 61) rfl ?_); refine gL_ (some 176) rfl rfl Try.func61 #[.int .i64 t252] rfl ?_; (with_reducible refine (impl_ToneName.calls t252 t253 _ A55.out).mono ?_); rintro e w' ⟨rfl, ⟨nd, rfl⟩⟩; refine ⟨_, rfl, ?_⟩) | ((with_reducible refine gate_callee (f := 60) rfl ?_); refine gL_ (some 177) rfl rfl Try.func60 #[.string t253] rfl ?_; (with_reducible refine (impl_ToneNamed.calls t253 t254 t255 _ A56.out).mono ?_); rintro e w' ⟨rfl, ⟨nd, rfl⟩⟩; refine ⟨_, rfl, ?_⟩))
 go_ret
 exact ⟨tE, tH HB⟩

/-- THE ONE PURE STATEMENT of laws_FnScales: yours. -/
def laws_FnScales.Pure : Prop := ∀ (l0 : List Int) (l1 : List Int), (l0.length ≤ maxLen ∧ ∀ y0 ∈ l0, (Lit.int .u8 y0).wf = true) → (l1.length ≤ maxLen ∧ ∀ y0 ∈ l1, (Lit.int .u8 y0).wf = true) → ∃ k, laws_FnScales.f k l0 l1 = some true
theorem laws_FnScales.walk (P : laws_FnScales.Pure) (A0 : Option Addr) (c0 : Nat) (l0 : List Int) (A1 : Option Addr) (c1 : Nat) (l1 : List Int) (w : World) (hr0 : Kd.C (Kd.int .u8) w A0 l0.length l0) (hc0 : l0.length ≤ c0) (hr1 : Kd.C (Kd.int .u8) w A1 l1.length l1) (hc1 : l1.length ≤ c1) (hk0 : (l0.length ≤ maxLen ∧ ∀ y0 ∈ l0, (Lit.int .u8 y0).wf = true)) (hk1 : (l1.length ≤ maxLen ∧ ∀ y0 ∈ l1, (Lit.int .u8 y0).wf = true)) :
 Calls Try.prog 7 #[.slice A0 l0.length c0, .slice A1 l1.length c1] w fun e w' => e = .returned (.bool true) ∧ Below w.heap.size w w' := by
 obtain ⟨k, h⟩ := P l0 l1 hk0 hk1
 refine (laws_FnScales.calls k _ _ l0 _ _ l1 true w hr0 hc0 hr1 hc1 h).mono ?_
 rintro e w' ⟨rfl, hd⟩
 exact ⟨rfl, hd⟩

end Go.Proofs.Ytbedlmlofnphkaa.PO
