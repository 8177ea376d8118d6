-- WRITTEN BY wip/gprint.py, a program of this session's over the kit's print, with contracts given by hand
import Derived.Test.YtmeflmlejcmckaaDoorPSx0
import Derived.Test.YtmeflmlejcmckaaDoorPSx4
import Derived.Test.YtmeflmlejcmckaaDoorPSx9
import Derived.Test.YtmeflmlejcmckaaDoorPSx14
import Derived.Test.YtmeflmlejcmckaaDoorPSx16
namespace Go.Proofs.YtmeflmlejcmckaaDoor.PS
open Go.RowKit Go.Proofs.YtmeflmlejcmckaaDoorW.PrintWords Go.Proofs.YtmeflmlejcmckaaDoorW.PrintLast Go.Proofs.YtmeflmlejcmckaaDoorW.PrintMore
attribute [local go_sem] max2_int min2_int max_two min_two max_three min_three max_four min_four   -- for this text's walks alone
set_option linter.unusedVariables false
set_option linter.unusedSimpArgs false

/-! ### laws_FnExactSyllablesText: function 4 -/
def laws_FnExactSyllablesText.f (k : Nat) (l0 : List (S116)) : Option (Bool) := (laws_szSyllableS.f k l0 1048576).bind fun t231 => (if t231 < 0 then (some true) else ((laws_toSyllableS.f k l0).bind fun t232 => ((spec_SyllablesText.f k t232).bind fun t235 => ((laws_toSyllableS.f k l0).bind fun t236 => ((impl_SyllablesText.f k t236).bind fun t239 => (if t239.toList = t235.toList then ((laws_toSyllableS.f k l0).bind fun t240 => ((laws_eqSyllableS.f k t236 t240).bind fun t243 => (if t243 = true then (some true) else (some false)))) else (some false)))))))
theorem laws_FnExactSyllablesText.mono : ∀ a0 k, LeO (laws_FnExactSyllablesText.f k a0) (laws_FnExactSyllablesText.f (k + 1) a0) := by
 intro a0 k
 unfold laws_FnExactSyllablesText.f
 repeat' first
  | (with_reducible exact impl_SyllablesText.mono _ _)
  | (with_reducible exact laws_eqSyllableS.mono _ _ _)
  | (with_reducible exact laws_szSyllableS.mono _ _ _)
  | (with_reducible exact laws_toSyllableS.mono _ _)
  | (with_reducible exact spec_SyllablesText.mono _ _)
  | (with_reducible exact LeO.refl _)
  | (with_reducible exact LeO.none _)
  | (with_reducible refine LeO.ite ?_ ?_)
  | (with_reducible refine LeO.bind ?_ (fun _ => ?_))
  | exact impl_SyllablesText.mono _ _
  | exact laws_eqSyllableS.mono _ _ _
  | exact laws_szSyllableS.mono _ _ _
  | exact laws_toSyllableS.mono _ _
  | exact spec_SyllablesText.mono _ _
  | exact LeO.none _
  | refine LeO.ite ?_ ?_
  | refine LeO.bind ?_ (fun _ => ?_)
set_option maxHeartbeats 8000000 in
set_option maxRecDepth 100000 in
theorem laws_FnExactSyllablesText.calls (k : Nat) (A0 : Option Addr) (c0 : Nat) (l0 : List (S116)) (r : Bool) (w : World) (hr0 : Kd.C k116 w A0 l0.length l0) (hc0 : l0.length ≤ c0) (h : laws_FnExactSyllablesText.f k l0 = some r) :
 Calls Tryd.prog 4 #[.slice A0 l0.length c0] w fun e w' => e = .returned (.bool r) ∧ Below w.heap.size w w' := by
 have HR0 := Aside0.mk hr0
 have HC0 := Aside0.mk hc0
 clear hr0 hc0
 have HB := Aside0.mk (Below.refl w.heap.size w)
 have H : ((laws_szSyllableS.f k l0 1048576).bind fun t231 => (if t231 < 0 then (some true) else ((laws_toSyllableS.f k l0).bind fun t232 => ((spec_SyllablesText.f k t232).bind fun t235 => ((laws_toSyllableS.f k l0).bind fun t236 => ((impl_SyllablesText.f k t236).bind fun t239 => (if t239.toList = t235.toList then ((laws_toSyllableS.f k l0).bind fun t240 => ((laws_eqSyllableS.f k t236 t240).bind fun t243 => (if t243 = true then (some true) else (some false)))) else (some false)))))))) = some r := h
 clear h
 replace H := Option.bind_eq_some_iff.mp H
 obtain ⟨t231, A20, H⟩ := H
 replace H : (if t231 < 0 then (some true) else ((laws_toSyllableS.f k l0).bind fun t232 => ((spec_SyllablesText.f k t232).bind fun t235 => ((laws_toSyllableS.f k l0).bind fun t236 => ((impl_SyllablesText.f k t236).bind fun t239 => (if t239.toList = t235.toList then ((laws_toSyllableS.f k l0).bind fun t240 => ((laws_eqSyllableS.f k t236 t240).bind fun t243 => (if t243 = true then (some true) else (some false)))) else (some false))))))) = some r := H
 have A2 := Aside0.mk A20
 clear A20
 by_cases c3 : t231 < 0
 · rw [if_pos c3] at H
   have c3b0 : decide (t231 < 0) = true := decide_eq_true c3
   clear c3
   obtain rfl := Option.some.inj H
   go_enter Tryd.func4, Tryd.ntmps4
   go_wp2_with (first | ((with_reducible refine gate_callee (f := 17) rfl ?_); refine gL_ (some 9) rfl rfl Tryd.func17 #[.slice A0 l0.length c0, .int .i64 1048576] rfl ?_; (with_reducible refine (laws_szSyllableS.calls k _ _ l0 1048576 t231 _ ?side1 ?side2 A2.out).mono ?_); (case side1 => exact tC HR0.out); (case side2 => exact HC0.out); rintro e w4 ⟨rfl, hb⟩; refine ⟨_, rfl, ?_⟩; replace HB := Aside0.mk (below_step (tH HB) hb); (try clear hb); (try clear hb2); (try clear hk); (try clear hi)))
   go_ret
   exact ⟨tE, tH HB⟩
 rw [if_neg c3] at H
 have c3b0 : decide (t231 < 0) = false := decide_eq_false c3
 clear c3
 replace H := Option.bind_eq_some_iff.mp H
 obtain ⟨t232, A50, H⟩ := H
 replace H : ((spec_SyllablesText.f k t232).bind fun t235 => ((laws_toSyllableS.f k l0).bind fun t236 => ((impl_SyllablesText.f k t236).bind fun t239 => (if t239.toList = t235.toList then ((laws_toSyllableS.f k l0).bind fun t240 => ((laws_eqSyllableS.f k t236 t240).bind fun t243 => (if t243 = true then (some true) else (some false)))) else (some false))))) = some r := H
 have A5 := Aside0.mk A50
 clear A50
 replace H := Option.bind_eq_some_iff.mp H
 obtain ⟨t235, A60, H⟩ := H
 replace H : ((laws_toSyllableS.f k l0).bind fun t236 => ((impl_SyllablesText.f k t236).bind fun t239 => (if t239.toList = t235.toList then ((laws_toSyllableS.f k l0).bind fun t240 => ((laws_eqSyllableS.f k t236 t240).bind fun t243 => (if t243 = true then (some true) else (some false)))) else (some false)))) = some r := H
 have A6 := Aside0.mk A60
 clear A60
 replace H := Option.bind_eq_some_iff.mp H
 obtain ⟨t236, A70, H⟩ := H
 replace H : ((impl_SyllablesText.f k t236).bind fun t239 => (if t239.toList = t235.toList then ((laws_toSyllableS.f k l0).bind fun t240 => ((laws_eqSyllableS.f k t236 t240).bind fun t243 => (if t243 = true then (some true) else (some false)))) else (some false))) = some r := H
 have A7 := Aside0.mk A70
 clear A70
 replace H := Option.bind_eq_some_iff.mp H
 obtain ⟨t239, A80, H⟩ := H
 replace H : (if t239.toList = t235.toList then ((laws_toSyllableS.f k l0).bind fun t240 => ((laws_eqSyllableS.f k t236 t240).bind fun t243 => (if t243 = true then (some true) else (some false)))) else (some false)) = some r := H
 have A8 := Aside0.mk A80
 clear A80
 by_cases c9 : t239.toList = t235.toList
 · rw [if_pos c9] at H
   have c9b0 : (t239.toList == t235.toList) = true := beq_iff_eq.mpr c9
   have c9b1 : (t239.toList != t235.toList) = false := bne_eq_false_iff_eq.mpr c9
   clear c9
   replace H := Option.bind_eq_some_iff.mp H
   obtain ⟨t240, A100, H⟩ := H
   replace H : ((laws_eqSyllableS.f k t236 t240).bind fun t243 => (if t243 = true then (some true) else (some false))) = some r := H
   have A10 := Aside0.mk A100
   clear A100
   replace H := Option.bind_eq_some_iff.mp H
   obtain ⟨t243, A110, H⟩ := H
   replace H : (if t243 = true then (some true) else (some false)) = some r := H
   have A11 := Aside0.mk A110
   clear A110
   by_cases c12 : t243 = true
   · subst c12
     have H1 : (some true) = some r := by rw [if_pos rfl] at H; exact H
     clear H
     have H := H1
     clear H1
     obtain rfl := Option.some.inj H
     go_enter Tryd.func4, Tryd.ntmps4
     go_wp2_with (first | ((with_reducible refine gate_callee (f := 17) rfl ?_); refine gL_ (some 9) rfl rfl Tryd.func17 #[.slice A0 l0.length c0, .int .i64 1048576] rfl ?_; (with_reducible refine (laws_szSyllableS.calls k _ _ l0 1048576 t231 _ ?side1 ?side2 A2.out).mono ?_); (case side1 => exact tC HR0.out); (case side2 => exact HC0.out); rintro e w13 ⟨rfl, hb⟩; refine ⟨_, rfl, ?_⟩; replace HB := Aside0.mk (below_step (tH HB) hb); (try clear hb); (try clear hb2); (try clear hk); (try clear hi)) | ((with_reducible refine gate_callee (f := 19) rfl ?_); refine gL_ (some 13) rfl rfl Tryd.func19 #[.slice A0 l0.length c0] rfl ?_; (with_reducible refine (laws_toSyllableS.calls k _ _ l0 t232 _ ?side1 ?side2 A5.out).mono ?_); (case side1 => exact tC (Kd.C_below HR0.out HB.out)); (case side2 => exact HC0.out); rintro e w14 ⟨v233, rfl, ho0, hb⟩; refine ⟨_, rfl, ?_⟩; have HO234 := Aside0.mk (Kd.R_lower ho0 (below_size (tH HB))); replace HB := Aside0.mk (below_step (tH HB) hb); (try clear hb); (try clear hb2); (try clear hk); (try clear hi); (try clear ho0); obtain ⟨Ao15, co15, eo15⟩ := Kd.R_slice HO234.out; subst eo15) | ((with_reducible refine gate_callee (f := 18) rfl ?_); refine gL_ (some 14) rfl rfl Tryd.func18 #[.slice Ao15 t232.length co15] rfl ?_; (with_reducible refine (spec_SyllablesText.calls k _ _ t232 t235 _ ?side1 ?side2 A6.out).mono ?_); (case side1 => exact tC (Kd.R_reads' HO234.out).2.2); (case side2 => exact (Kd.R_reads' HO234.out).2.1); rintro e w16 ⟨rfl, hb⟩; refine ⟨_, rfl, ?_⟩; replace HO234 := Aside0.mk (Kd.R_below (tR HO234) hb); replace HB := Aside0.mk (below_step (tH HB) hb); (try clear hb); (try clear hb2); (try clear hk); (try clear hi)) | ((with_reducible refine gate_callee (f := 19) rfl ?_); refine gL_ (some 16) rfl rfl Tryd.func19 #[.slice A0 l0.length c0] rfl ?_; (with_reducible refine (laws_toSyllableS.calls k _ _ l0 t236 _ ?side1 ?side2 A7.out).mono ?_); (case side1 => exact tC (Kd.C_below HR0.out HB.out)); (case side2 => exact HC0.out); rintro e w17 ⟨v237, rfl, ho0, hb⟩; refine ⟨_, rfl, ?_⟩; have HO238 := Aside0.mk (Kd.R_lower (Kd.R_new' ho0 (Kd.R_lt (tR HO234))) (below_size (tH HB))); replace HO234 := Aside0.mk (Kd.R_elder' (tR HO234) (Kd.R_base ho0) hb); replace HB := Aside0.mk (below_step (tH HB) hb); (try clear hb); (try clear hb2); (try clear hk); (try clear hi); (try clear ho0); obtain ⟨Ao18, co18, eo18⟩ := Kd.R_slice HO238.out; subst eo18) | ((with_reducible refine gate_callee (f := 20) rfl ?_); refine gL_ (some 18) rfl rfl Tryd.func20 #[.slice Ao18 t236.length co18] rfl ?_; (with_reducible refine (impl_SyllablesText.calls k _ _ t236 t239 _ ?side1 ?side2 A8.out).mono ?_); (case side1 => exact tC (Kd.R_reads' HO238.out).2.2); (case side2 => exact (Kd.R_reads' HO238.out).2.1); rintro e w19 ⟨rfl, hb⟩; refine ⟨_, rfl, ?_⟩; replace HO234 := Aside0.mk (Kd.R_below (tR HO234) hb); replace HO238 := Aside0.mk (Kd.R_below (tR HO238) hb); replace HB := Aside0.mk (below_step (tH HB) hb); (try clear hb); (try clear hb2); (try clear hk); (try clear hi)) | ((with_reducible refine gate_callee (f := 19) rfl ?_); refine gL_ (some 24) rfl rfl Tryd.func19 #[.slice A0 l0.length c0] rfl ?_; (with_reducible refine (laws_toSyllableS.calls k _ _ l0 t240 _ ?side1 ?side2 A10.out).mono ?_); (case side1 => exact tC (Kd.C_below HR0.out HB.out)); (case side2 => exact HC0.out); rintro e w20 ⟨v241, rfl, ho0, hb⟩; refine ⟨_, rfl, ?_⟩; have HO242 := Aside0.mk (Kd.R_lower (Kd.R_new' (Kd.R_new' ho0 (Kd.R_lt (tR HO234))) (Kd.R_lt (tR HO238))) (below_size (tH HB))); replace HO234 := Aside0.mk (Kd.R_elder' (tR HO234) (Kd.R_base ho0) hb); replace HO238 := Aside0.mk (Kd.R_elder' (tR HO238) (Kd.R_base ho0) hb); replace HB := Aside0.mk (below_step (tH HB) hb); (try clear hb); (try clear hb2); (try clear hk); (try clear hi); (try clear ho0); obtain ⟨Ao21, co21, eo21⟩ := Kd.R_slice HO242.out; subst eo21) | ((with_reducible refine gate_callee (f := 21) rfl ?_); refine gL_ (some 25) rfl rfl Tryd.func21 #[.slice Ao18 t236.length co18, .slice Ao21 t240.length co21] rfl ?_; (with_reducible refine (laws_eqSyllableS.calls k _ _ t236 _ _ t240 true _ ?side1 ?side2 ?side3 ?side4 A11.out).mono ?_); (case side1 => exact tC (Kd.R_reads' HO238.out).2.2); (case side2 => exact (Kd.R_reads' HO238.out).2.1); (case side3 => exact tC (Kd.R_reads' HO242.out).2.2); (case side4 => exact (Kd.R_reads' HO242.out).2.1); rintro e w22 ⟨rfl, hb⟩; refine ⟨_, rfl, ?_⟩; replace HO234 := Aside0.mk (Kd.R_below (tR HO234) hb); replace HO238 := Aside0.mk (Kd.R_below (tR HO238) hb); replace HO242 := Aside0.mk (Kd.R_below (tR HO242) hb); replace HB := Aside0.mk (below_step (tH HB) hb); (try clear hb); (try clear hb2); (try clear hk); (try clear hi)))
     go_ret
     exact ⟨tE, tH HB⟩
   replace c12 := Bool.eq_false_iff.mpr c12
   subst c12
   have H1 : (some false) = some r := by rw [if_neg (show ¬ (false = true) by decide)] at H; exact H
   clear H
   have H := H1
   clear H1
   obtain rfl := Option.some.inj H
   go_enter Tryd.func4, Tryd.ntmps4
   go_wp2_with (first | ((with_reducible refine gate_callee (f := 17) rfl ?_); refine gL_ (some 9) rfl rfl Tryd.func17 #[.slice A0 l0.length c0, .int .i64 1048576] rfl ?_; (with_reducible refine (laws_szSyllableS.calls k _ _ l0 1048576 t231 _ ?side1 ?side2 A2.out).mono ?_); (case side1 => exact tC HR0.out); (case side2 => exact HC0.out); rintro e w23 ⟨rfl, hb⟩; refine ⟨_, rfl, ?_⟩; replace HB := Aside0.mk (below_step (tH HB) hb); (try clear hb); (try clear hb2); (try clear hk); (try clear hi)) | ((with_reducible refine gate_callee (f := 19) rfl ?_); refine gL_ (some 13) rfl rfl Tryd.func19 #[.slice A0 l0.length c0] rfl ?_; (with_reducible refine (laws_toSyllableS.calls k _ _ l0 t232 _ ?side1 ?side2 A5.out).mono ?_); (case side1 => exact tC (Kd.C_below HR0.out HB.out)); (case side2 => exact HC0.out); rintro e w24 ⟨v233, rfl, ho0, hb⟩; refine ⟨_, rfl, ?_⟩; have HO234 := Aside0.mk (Kd.R_lower ho0 (below_size (tH HB))); replace HB := Aside0.mk (below_step (tH HB) hb); (try clear hb); (try clear hb2); (try clear hk); (try clear hi); (try clear ho0); obtain ⟨Ao25, co25, eo25⟩ := Kd.R_slice HO234.out; subst eo25) | ((with_reducible refine gate_callee (f := 18) rfl ?_); refine gL_ (some 14) rfl rfl Tryd.func18 #[.slice Ao25 t232.length co25] rfl ?_; (with_reducible refine (spec_SyllablesText.calls k _ _ t232 t235 _ ?side1 ?side2 A6.out).mono ?_); (case side1 => exact tC (Kd.R_reads' HO234.out).2.2); (case side2 => exact (Kd.R_reads' HO234.out).2.1); rintro e w26 ⟨rfl, hb⟩; refine ⟨_, rfl, ?_⟩; replace HO234 := Aside0.mk (Kd.R_below (tR HO234) hb); replace HB := Aside0.mk (below_step (tH HB) hb); (try clear hb); (try clear hb2); (try clear hk); (try clear hi)) | ((with_reducible refine gate_callee (f := 19) rfl ?_); refine gL_ (some 16) rfl rfl Tryd.func19 #[.slice A0 l0.length c0] rfl ?_; (with_reducible refine (laws_toSyllableS.calls k _ _ l0 t236 _ ?side1 ?side2 A7.out).mono ?_); (case side1 => exact tC (Kd.C_below HR0.out HB.out)); (case side2 => exact HC0.out); rintro e w27 ⟨v237, rfl, ho0, hb⟩; refine ⟨_, rfl, ?_⟩; have HO238 := Aside0.mk (Kd.R_lower (Kd.R_new' ho0 (Kd.R_lt (tR HO234))) (below_size (tH HB))); replace HO234 := Aside0.mk (Kd.R_elder' (tR HO234) (Kd.R_base ho0) hb); replace HB := Aside0.mk (below_step (tH HB) hb); (try clear hb); (try clear hb2); (try clear hk); (try clear hi); (try clear ho0); obtain ⟨Ao28, co28, eo28⟩ := Kd.R_slice HO238.out; subst eo28) | ((with_reducible refine gate_callee (f := 20) rfl ?_); refine gL_ (some 18) rfl rfl Tryd.func20 #[.slice Ao28 t236.length co28] rfl ?_; (with_reducible refine (impl_SyllablesText.calls k _ _ t236 t239 _ ?side1 ?side2 A8.out).mono ?_); (case side1 => exact tC (Kd.R_reads' HO238.out).2.2); (case side2 => exact (Kd.R_reads' HO238.out).2.1); rintro e w29 ⟨rfl, hb⟩; refine ⟨_, rfl, ?_⟩; replace HO234 := Aside0.mk (Kd.R_below (tR HO234) hb); replace HO238 := Aside0.mk (Kd.R_below (tR HO238) hb); replace HB := Aside0.mk (below_step (tH HB) hb); (try clear hb); (try clear hb2); (try clear hk); (try clear hi)) | ((with_reducible refine gate_callee (f := 19) rfl ?_); refine gL_ (some 24) rfl rfl Tryd.func19 #[.slice A0 l0.length c0] rfl ?_; (with_reducible refine (laws_toSyllableS.calls k _ _ l0 t240 _ ?side1 ?side2 A10.out).mono ?_); (case side1 => exact tC (Kd.C_below HR0.out HB.out)); (case side2 => exact HC0.out); rintro e w30 ⟨v241, rfl, ho0, hb⟩; refine ⟨_, rfl, ?_⟩; have HO242 := Aside0.mk (Kd.R_lower (Kd.R_new' (Kd.R_new' ho0 (Kd.R_lt (tR HO234))) (Kd.R_lt (tR HO238))) (below_size (tH HB))); replace HO234 := Aside0.mk (Kd.R_elder' (tR HO234) (Kd.R_base ho0) hb); replace HO238 := Aside0.mk (Kd.R_elder' (tR HO238) (Kd.R_base ho0) hb); replace HB := Aside0.mk (below_step (tH HB) hb); (try clear hb); (try clear hb2); (try clear hk); (try clear hi); (try clear ho0); obtain ⟨Ao31, co31, eo31⟩ := Kd.R_slice HO242.out; subst eo31) | ((with_reducible refine gate_callee (f := 21) rfl ?_); refine gL_ (some 25) rfl rfl Tryd.func21 #[.slice Ao28 t236.length co28, .slice Ao31 t240.length co31] rfl ?_; (with_reducible refine (laws_eqSyllableS.calls k _ _ t236 _ _ t240 false _ ?side1 ?side2 ?side3 ?side4 A11.out).mono ?_); (case side1 => exact tC (Kd.R_reads' HO238.out).2.2); (case side2 => exact (Kd.R_reads' HO238.out).2.1); (case side3 => exact tC (Kd.R_reads' HO242.out).2.2); (case side4 => exact (Kd.R_reads' HO242.out).2.1); rintro e w32 ⟨rfl, hb⟩; refine ⟨_, rfl, ?_⟩; replace HO234 := Aside0.mk (Kd.R_below (tR HO234) hb); replace HO238 := Aside0.mk (Kd.R_below (tR HO238) hb); replace HO242 := Aside0.mk (Kd.R_below (tR HO242) hb); replace HB := Aside0.mk (below_step (tH HB) hb); (try clear hb); (try clear hb2); (try clear hk); (try clear hi)))
   go_ret
   exact ⟨tE, tH HB⟩
 rw [if_neg c9] at H
 have c9b0 : (t239.toList == t235.toList) = false := beq_eq_false_iff_ne.mpr c9
 have c9b1 : (t239.toList != t235.toList) = true := bne_iff_ne.mpr c9
 obtain rfl := Option.some.inj H
 go_enter Tryd.func4, Tryd.ntmps4
 go_wp2_with (first | ((with_reducible refine gate_callee (f := 17) rfl ?_); refine gL_ (some 9) rfl rfl Tryd.func17 #[.slice A0 l0.length c0, .int .i64 1048576] rfl ?_; (with_reducible refine (laws_szSyllableS.calls k _ _ l0 1048576 t231 _ ?side1 ?side2 A2.out).mono ?_); (case side1 => exact tC HR0.out); (case side2 => exact HC0.out); rintro e w33 ⟨rfl, hb⟩; refine ⟨_, rfl, ?_⟩; replace HB := Aside0.mk (below_step (tH HB) hb); (try clear hb); (try clear hb2); (try clear hk); (try clear hi)) | ((with_reducible refine gate_callee (f := 19) rfl ?_); refine gL_ (some 13) rfl rfl Tryd.func19 #[.slice A0 l0.length c0] rfl ?_; (with_reducible refine (laws_toSyllableS.calls k _ _ l0 t232 _ ?side1 ?side2 A5.out).mono ?_); (case side1 => exact tC (Kd.C_below HR0.out HB.out)); (case side2 => exact HC0.out); rintro e w34 ⟨v233, rfl, ho0, hb⟩; refine ⟨_, rfl, ?_⟩; have HO234 := Aside0.mk (Kd.R_lower ho0 (below_size (tH HB))); replace HB := Aside0.mk (below_step (tH HB) hb); (try clear hb); (try clear hb2); (try clear hk); (try clear hi); (try clear ho0); obtain ⟨Ao35, co35, eo35⟩ := Kd.R_slice HO234.out; subst eo35) | ((with_reducible refine gate_callee (f := 18) rfl ?_); refine gL_ (some 14) rfl rfl Tryd.func18 #[.slice Ao35 t232.length co35] rfl ?_; (with_reducible refine (spec_SyllablesText.calls k _ _ t232 t235 _ ?side1 ?side2 A6.out).mono ?_); (case side1 => exact tC (Kd.R_reads' HO234.out).2.2); (case side2 => exact (Kd.R_reads' HO234.out).2.1); rintro e w36 ⟨rfl, hb⟩; refine ⟨_, rfl, ?_⟩; replace HO234 := Aside0.mk (Kd.R_below (tR HO234) hb); replace HB := Aside0.mk (below_step (tH HB) hb); (try clear hb); (try clear hb2); (try clear hk); (try clear hi)) | ((with_reducible refine gate_callee (f := 19) rfl ?_); refine gL_ (some 16) rfl rfl Tryd.func19 #[.slice A0 l0.length c0] rfl ?_; (with_reducible refine (laws_toSyllableS.calls k _ _ l0 t236 _ ?side1 ?side2 A7.out).mono ?_); (case side1 => exact tC (Kd.C_below HR0.out HB.out)); (case side2 => exact HC0.out); rintro e w37 ⟨v237, rfl, ho0, hb⟩; refine ⟨_, rfl, ?_⟩; have HO238 := Aside0.mk (Kd.R_lower (Kd.R_new' ho0 (Kd.R_lt (tR HO234))) (below_size (tH HB))); replace HO234 := Aside0.mk (Kd.R_elder' (tR HO234) (Kd.R_base ho0) hb); replace HB := Aside0.mk (below_step (tH HB) hb); (try clear hb); (try clear hb2); (try clear hk); (try clear hi); (try clear ho0); obtain ⟨Ao38, co38, eo38⟩ := Kd.R_slice HO238.out; subst eo38) | ((with_reducible refine gate_callee (f := 20) rfl ?_); refine gL_ (some 18) rfl rfl Tryd.func20 #[.slice Ao38 t236.length co38] rfl ?_; (with_reducible refine (impl_SyllablesText.calls k _ _ t236 t239 _ ?side1 ?side2 A8.out).mono ?_); (case side1 => exact tC (Kd.R_reads' HO238.out).2.2); (case side2 => exact (Kd.R_reads' HO238.out).2.1); rintro e w39 ⟨rfl, hb⟩; refine ⟨_, rfl, ?_⟩; replace HO234 := Aside0.mk (Kd.R_below (tR HO234) hb); replace HO238 := Aside0.mk (Kd.R_below (tR HO238) hb); replace HB := Aside0.mk (below_step (tH HB) hb); (try clear hb); (try clear hb2); (try clear hk); (try clear hi)))
 go_ret
 exact ⟨tE, tH HB⟩

/-- THE ONE PURE STATEMENT of laws_FnExactSyllablesText: yours. -/
def laws_FnExactSyllablesText.Pure : Prop := ∀ (l0 : List (S116)), (l0.length ≤ maxLen ∧ ∀ y0 ∈ l0, (y0.f0.size ≤ maxLen ∧ (Lit.int .i64 y0.f1).wf = true ∧ (Lit.int .i64 y0.f2).wf = true)) → ∃ k, laws_FnExactSyllablesText.f k l0 = some true
theorem laws_FnExactSyllablesText.walk (P : laws_FnExactSyllablesText.Pure) (A0 : Option Addr) (c0 : Nat) (l0 : List (S116)) (w : World) (hr0 : Kd.C k116 w A0 l0.length l0) (hc0 : l0.length ≤ c0) (hk0 : (l0.length ≤ maxLen ∧ ∀ y0 ∈ l0, (y0.f0.size ≤ maxLen ∧ (Lit.int .i64 y0.f1).wf = true ∧ (Lit.int .i64 y0.f2).wf = true))) :
 Calls Tryd.prog 4 #[.slice A0 l0.length c0] w fun e w' => e = .returned (.bool true) ∧ Below w.heap.size w w' := by
 obtain ⟨k, h⟩ := P l0 hk0
 refine (laws_FnExactSyllablesText.calls k _ _ l0 true w hr0 hc0 h).mono ?_
 rintro e w' ⟨rfl, hd⟩
 exact ⟨rfl, hd⟩

/-! ### laws_szInt64S: function 95 -/
def laws_szInt64S.f (l0 : List Int) (a1 : Int) : Option (Int) := if (wrap64 (a1 - (l0.length : Int))) < 0 then (some (-1)) else (some (wrap64 (a1 - (l0.length : Int))))
set_option maxHeartbeats 8000000 in
set_option maxRecDepth 100000 in
theorem laws_szInt64S.calls (A0 : Option Addr) (c0 : Nat) (l0 : List Int) (a1 : Int) (r : Int) (w : World) (hr0 : Kd.C (Kd.int .i64) w A0 l0.length l0) (hc0 : l0.length ≤ c0) (h : laws_szInt64S.f l0 a1 = some r) :
 Calls Tryd.prog 95 #[.slice A0 l0.length c0, .int .i64 a1] w fun e w' => e = .returned (.int .i64 r) ∧ Drawn0 w w' := by
 have HR0 := Aside0.mk hr0
 have HC0 := Aside0.mk hc0
 clear hr0 hc0
 have H : (if (wrap64 (a1 - (l0.length : Int))) < 0 then (some (-1)) else (some (wrap64 (a1 - (l0.length : Int))))) = some r := h
 clear h
 by_cases c3 : (wrap64 (a1 - (l0.length : Int))) < 0
 · rw [if_pos c3] at H
   have c3b0 : decide ((wrap64 (a1 - (l0.length : Int))) < 0) = true := decide_eq_true c3
   clear c3
   obtain rfl := Option.some.inj H
   go_enter Tryd.func95, Tryd.ntmps95
   go_wp2
   go_ret
   exact ⟨by first | rfl | (simp; done) | (simp [*]; done), tZ⟩
 rw [if_neg c3] at H
 have c3b0 : decide ((wrap64 (a1 - (l0.length : Int))) < 0) = false := decide_eq_false c3
 clear c3
 obtain rfl := Option.some.inj H
 go_enter Tryd.func95, Tryd.ntmps95
 go_wp2
 go_ret
 exact ⟨by first | rfl | (simp; done) | (simp [*]; done), tZ⟩

/-! ### laws_szTala: function 22 -/
def laws_szTala.f (a0_0 : ByteArray) (l0_1 : List Int) (l0_2 : List Int) (a1 : Int) : Option (Int) := if (wrap64 (a1 - (a0_0.size : Int))) < 0 then (some (-1)) else ((laws_szInt64S.f l0_1 (wrap64 (a1 - (a0_0.size : Int)))).bind fun t245 => (if t245 < 0 then (some (-1)) else ((laws_szInt64S.f l0_2 t245).bind fun t246 => (if t246 < 0 then (some (-1)) else (some t246)))))
set_option maxHeartbeats 8000000 in
set_option maxRecDepth 100000 in
theorem laws_szTala.calls (a0_0 : ByteArray) (A0_1 : Option Addr) (c0_1 : Nat) (l0_1 : List Int) (A0_2 : Option Addr) (c0_2 : Nat) (l0_2 : List Int) (a1 : Int) (r : Int) (w : World) (hr0_1 : Kd.C (Kd.int .i64) w A0_1 l0_1.length l0_1) (hc0_1 : l0_1.length ≤ c0_1) (hr0_2 : Kd.C (Kd.int .i64) w A0_2 l0_2.length l0_2) (hc0_2 : l0_2.length ≤ c0_2) (h : laws_szTala.f a0_0 l0_1 l0_2 a1 = some r) :
 Calls Tryd.prog 22 #[.agg #[.string a0_0, .slice A0_1 l0_1.length c0_1, .slice A0_2 l0_2.length c0_2], .int .i64 a1] w fun e w' => e = .returned (.int .i64 r) ∧ Below w.heap.size w w' := by
 have hu36 := Tryd.underlying36
 have HR0_1 := Aside0.mk hr0_1
 have HC0_1 := Aside0.mk hc0_1
 clear hr0_1 hc0_1
 have HR0_2 := Aside0.mk hr0_2
 have HC0_2 := Aside0.mk hc0_2
 clear hr0_2 hc0_2
 have HB := Aside0.mk (Below.refl w.heap.size w)
 have H : (if (wrap64 (a1 - (a0_0.size : Int))) < 0 then (some (-1)) else ((laws_szInt64S.f l0_1 (wrap64 (a1 - (a0_0.size : Int)))).bind fun t245 => (if t245 < 0 then (some (-1)) else ((laws_szInt64S.f l0_2 t245).bind fun t246 => (if t246 < 0 then (some (-1)) else (some t246)))))) = some r := h
 clear h
 by_cases c3 : (wrap64 (a1 - (a0_0.size : Int))) < 0
 · rw [if_pos c3] at H
   have c3b0 : decide ((wrap64 (a1 - (a0_0.size : Int))) < 0) = true := decide_eq_true c3
   clear c3
   obtain rfl := Option.some.inj H
   go_enter Tryd.func22, Tryd.ntmps22
   go_wp2_with (first | ((with_reducible refine gate_dst (N := 2) rfl ?_); refine box_event ?hg (N := 2) ?hd (cs := #[.string a0_0, .slice A0_1 l0_1.length c0_1, .slice A0_2 l0_2.length c0_2]) (t := 36) ?hr ?_; (case hd => rfl); (case hg => rfl); (case hr => first | (go_simp; done) | (go_simp; rfl)); intro gb244 hg w4 hbox hb; have BK244 := Aside0.mk (hbox); have GW244 := Aside0.mk ((by rw [hg]; exact (below_size (tH HB)) : w.heap.size ≤ gb244)); have GE244 := Aside0.mk ((by rw [hg]; exact (below_size (tH HB)) : w.heap.size ≤ gb244)); replace HB := Aside0.mk (below_step (tH HB) hb); clear hb hbox hg; have hcz5_0 : w4.cell? ⟨gb244, 0, none⟩ = some (.string a0_0) := (blk_cell BK244.out 0).trans rfl; have hcz5_1 : w4.cell? ⟨gb244, 1, none⟩ = some (.slice A0_1 l0_1.length c0_1) := (blk_cell BK244.out 1).trans rfl; have hcz5_2 : w4.cell? ⟨gb244, 2, none⟩ = some (.slice A0_2 l0_2.length c0_2) := (blk_cell BK244.out 2).trans rfl; have hfz5_0 := blk_frozen BK244.out 0; have hfz5_1 := blk_frozen BK244.out 1; have hfz5_2 := blk_frozen BK244.out 2))
   go_ret
   exact ⟨tE, tH1 HB GE244.out⟩
 rw [if_neg c3] at H
 have c3b0 : decide ((wrap64 (a1 - (a0_0.size : Int))) < 0) = false := decide_eq_false c3
 clear c3
 replace H := Option.bind_eq_some_iff.mp H
 obtain ⟨t245, A60, H⟩ := H
 replace H : (if t245 < 0 then (some (-1)) else ((laws_szInt64S.f l0_2 t245).bind fun t246 => (if t246 < 0 then (some (-1)) else (some t246)))) = some r := H
 have A6 := Aside0.mk A60
 clear A60
 by_cases c7 : t245 < 0
 · rw [if_pos c7] at H
   have c7b0 : decide (t245 < 0) = true := decide_eq_true c7
   clear c7
   obtain rfl := Option.some.inj H
   go_enter Tryd.func22, Tryd.ntmps22
   go_wp2_with (first | ((with_reducible refine gate_dst (N := 2) rfl ?_); refine box_event ?hg (N := 2) ?hd (cs := #[.string a0_0, .slice A0_1 l0_1.length c0_1, .slice A0_2 l0_2.length c0_2]) (t := 36) ?hr ?_; (case hd => rfl); (case hg => rfl); (case hr => first | (go_simp; done) | (go_simp; rfl)); intro gb244 hg w8 hbox hb; have BK244 := Aside0.mk (hbox); have GW244 := Aside0.mk ((by rw [hg]; exact (below_size (tH HB)) : w.heap.size ≤ gb244)); have GE244 := Aside0.mk ((by rw [hg]; exact (below_size (tH HB)) : w.heap.size ≤ gb244)); replace HB := Aside0.mk (below_step (tH HB) hb); clear hb hbox hg; have hcz9_0 : w8.cell? ⟨gb244, 0, none⟩ = some (.string a0_0) := (blk_cell BK244.out 0).trans rfl; have hcz9_1 : w8.cell? ⟨gb244, 1, none⟩ = some (.slice A0_1 l0_1.length c0_1) := (blk_cell BK244.out 1).trans rfl; have hcz9_2 : w8.cell? ⟨gb244, 2, none⟩ = some (.slice A0_2 l0_2.length c0_2) := (blk_cell BK244.out 2).trans rfl; have hfz9_0 := blk_frozen BK244.out 0; have hfz9_1 := blk_frozen BK244.out 1; have hfz9_2 := blk_frozen BK244.out 2) | ((with_reducible refine gate_callee (f := 95) rfl ?_); refine gL_ (some 15) rfl rfl Tryd.func95 #[.slice A0_1 l0_1.length c0_1, .int .i64 (wrap64 (a1 - (a0_0.size : Int)))] rfl ?_; (with_reducible refine (laws_szInt64S.calls _ _ l0_1 (wrap64 (a1 - (a0_0.size : Int))) t245 _ ?side1 ?side2 A6.out).mono ?_); (case side1 => exact tC (Kd.C_below HR0_1.out HB.out)); (case side2 => exact HC0_1.out); rintro e w' ⟨rfl, ⟨nd, rfl⟩⟩; refine ⟨_, rfl, ?_⟩))
   go_ret
   exact ⟨tE, tH1 HB GE244.out⟩
 rw [if_neg c7] at H
 have c7b0 : decide (t245 < 0) = false := decide_eq_false c7
 clear c7
 replace H := Option.bind_eq_some_iff.mp H
 obtain ⟨t246, A100, H⟩ := H
 replace H : (if t246 < 0 then (some (-1)) else (some t246)) = some r := H
 have A10 := Aside0.mk A100
 clear A100
 by_cases c11 : t246 < 0
 · rw [if_pos c11] at H
   have c11b0 : decide (t246 < 0) = true := decide_eq_true c11
   clear c11
   obtain rfl := Option.some.inj H
   go_enter Tryd.func22, Tryd.ntmps22
   go_wp2_with (first | ((with_reducible refine gate_dst (N := 2) rfl ?_); refine box_event ?hg (N := 2) ?hd (cs := #[.string a0_0, .slice A0_1 l0_1.length c0_1, .slice A0_2 l0_2.length c0_2]) (t := 36) ?hr ?_; (case hd => rfl); (case hg => rfl); (case hr => first | (go_simp; done) | (go_simp; rfl)); intro gb244 hg w12 hbox hb; have BK244 := Aside0.mk (hbox); have GW244 := Aside0.mk ((by rw [hg]; exact (below_size (tH HB)) : w.heap.size ≤ gb244)); have GE244 := Aside0.mk ((by rw [hg]; exact (below_size (tH HB)) : w.heap.size ≤ gb244)); replace HB := Aside0.mk (below_step (tH HB) hb); clear hb hbox hg; have hcz13_0 : w12.cell? ⟨gb244, 0, none⟩ = some (.string a0_0) := (blk_cell BK244.out 0).trans rfl; have hcz13_1 : w12.cell? ⟨gb244, 1, none⟩ = some (.slice A0_1 l0_1.length c0_1) := (blk_cell BK244.out 1).trans rfl; have hcz13_2 : w12.cell? ⟨gb244, 2, none⟩ = some (.slice A0_2 l0_2.length c0_2) := (blk_cell BK244.out 2).trans rfl; have hfz13_0 := blk_frozen BK244.out 0; have hfz13_1 := blk_frozen BK244.out 1; have hfz13_2 := blk_frozen BK244.out 2) | ((with_reducible refine gate_callee (f := 95) rfl ?_); refine gL_ (some 15) rfl rfl Tryd.func95 #[.slice A0_1 l0_1.length c0_1, .int .i64 (wrap64 (a1 - (a0_0.size : Int)))] rfl ?_; (with_reducible refine (laws_szInt64S.calls _ _ l0_1 (wrap64 (a1 - (a0_0.size : Int))) t245 _ ?side1 ?side2 A6.out).mono ?_); (case side1 => exact tC (Kd.C_below HR0_1.out HB.out)); (case side2 => exact HC0_1.out); rintro e w' ⟨rfl, ⟨nd, rfl⟩⟩; refine ⟨_, rfl, ?_⟩) | ((with_reducible refine gate_callee (f := 95) rfl ?_); refine gL_ (some 21) rfl rfl Tryd.func95 #[.slice A0_2 l0_2.length c0_2, .int .i64 t245] rfl ?_; (with_reducible refine (laws_szInt64S.calls _ _ l0_2 t245 t246 _ ?side1 ?side2 A10.out).mono ?_); (case side1 => exact Kd.C_below HR0_2.out (tH1 HB GE244.out)); (case side2 => exact HC0_2.out); rintro e w' ⟨rfl, ⟨nd, rfl⟩⟩; refine ⟨_, rfl, ?_⟩))
   go_ret
   exact ⟨tE, tH1 HB GE244.out⟩
 rw [if_neg c11] at H
 have c11b0 : decide (t246 < 0) = false := decide_eq_false c11
 clear c11
 obtain rfl := Option.some.inj H
 go_enter Tryd.func22, Tryd.ntmps22
 go_wp2_with (first | ((with_reducible refine gate_dst (N := 2) rfl ?_); refine box_event ?hg (N := 2) ?hd (cs := #[.string a0_0, .slice A0_1 l0_1.length c0_1, .slice A0_2 l0_2.length c0_2]) (t := 36) ?hr ?_; (case hd => rfl); (case hg => rfl); (case hr => first | (go_simp; done) | (go_simp; rfl)); intro gb244 hg w14 hbox hb; have BK244 := Aside0.mk (hbox); have GW244 := Aside0.mk ((by rw [hg]; exact (below_size (tH HB)) : w.heap.size ≤ gb244)); have GE244 := Aside0.mk ((by rw [hg]; exact (below_size (tH HB)) : w.heap.size ≤ gb244)); replace HB := Aside0.mk (below_step (tH HB) hb); clear hb hbox hg; have hcz15_0 : w14.cell? ⟨gb244, 0, none⟩ = some (.string a0_0) := (blk_cell BK244.out 0).trans rfl; have hcz15_1 : w14.cell? ⟨gb244, 1, none⟩ = some (.slice A0_1 l0_1.length c0_1) := (blk_cell BK244.out 1).trans rfl; have hcz15_2 : w14.cell? ⟨gb244, 2, none⟩ = some (.slice A0_2 l0_2.length c0_2) := (blk_cell BK244.out 2).trans rfl; have hfz15_0 := blk_frozen BK244.out 0; have hfz15_1 := blk_frozen BK244.out 1; have hfz15_2 := blk_frozen BK244.out 2) | ((with_reducible refine gate_callee (f := 95) rfl ?_); refine gL_ (some 15) rfl rfl Tryd.func95 #[.slice A0_1 l0_1.length c0_1, .int .i64 (wrap64 (a1 - (a0_0.size : Int)))] rfl ?_; (with_reducible refine (laws_szInt64S.calls _ _ l0_1 (wrap64 (a1 - (a0_0.size : Int))) t245 _ ?side1 ?side2 A6.out).mono ?_); (case side1 => exact tC (Kd.C_below HR0_1.out HB.out)); (case side2 => exact HC0_1.out); rintro e w' ⟨rfl, ⟨nd, rfl⟩⟩; refine ⟨_, rfl, ?_⟩) | ((with_reducible refine gate_callee (f := 95) rfl ?_); refine gL_ (some 21) rfl rfl Tryd.func95 #[.slice A0_2 l0_2.length c0_2, .int .i64 t245] rfl ?_; (with_reducible refine (laws_szInt64S.calls _ _ l0_2 t245 t246 _ ?side1 ?side2 A10.out).mono ?_); (case side1 => exact Kd.C_below HR0_2.out (tH1 HB GE244.out)); (case side2 => exact HC0_2.out); rintro e w' ⟨rfl, ⟨nd, rfl⟩⟩; refine ⟨_, rfl, ?_⟩))
 go_ret
 exact ⟨tE, tH1 HB GE244.out⟩

/-! ### spec_l17Sum: function 157 -/
def spec_l17Sum.l0 : Nat → List Int → Int → Int → Option (Int)
 | 0, _, _, _ => none
 | k + 1, x0, x3, x4 => if x4 < (x0.length : Int) then (if 0 ≤ x4 then (spec_l17Sum.l0 k x0 (wrap64 (x3 + (rd x0 x4))) (wrap64 (x4 + 1))) else (none)) else (some x3)
def spec_l17Sum.f (k : Nat) (l0 : List Int) : Option (Int) := spec_l17Sum.l0 k l0 0 0
theorem spec_l17Sum.mono_l : ∀ k, (∀ y0 y1 y2, LeO (spec_l17Sum.l0 k y0 y1 y2) (spec_l17Sum.l0 (k + 1) y0 y1 y2))
 | 0 => fun _ _ _ r h => by simp [spec_l17Sum.l0] at h
 | k + 1 => by
  have ih0 := spec_l17Sum.mono_l k
  · intro y0 y1 y2
    unfold spec_l17Sum.l0
    repeat' first
    | (with_reducible exact ih0 _ _ _)
    | (with_reducible exact LeO.refl _)
    | (with_reducible exact LeO.none _)
    | (with_reducible refine LeO.ite ?_ ?_)
    | (with_reducible refine LeO.bind ?_ (fun _ => ?_))
    | exact ih0 _ _ _
    | exact LeO.none _
    | refine LeO.ite ?_ ?_
    | refine LeO.bind ?_ (fun _ => ?_)
theorem spec_l17Sum.mono : ∀ a0 k, LeO (spec_l17Sum.f k a0) (spec_l17Sum.f (k + 1) a0) := by
 intro a0 k
 have ih0 := spec_l17Sum.mono_l k
 unfold spec_l17Sum.f
 repeat' first
  | (with_reducible exact ih0 _ _ _)
  | (with_reducible exact LeO.refl _)
  | (with_reducible exact LeO.none _)
  | (with_reducible refine LeO.ite ?_ ?_)
  | (with_reducible refine LeO.bind ?_ (fun _ => ?_))
  | exact ih0 _ _ _
  | exact LeO.none _
  | refine LeO.ite ?_ ?_
  | refine LeO.bind ?_ (fun _ => ?_)
set_option maxHeartbeats 8000000 in
set_option maxRecDepth 100000 in
theorem spec_l17Sum.calls (k : Nat) (A0 : Option Addr) (c0 : Nat) (l0 : List Int) (r : Int) (w : World) (hr0 : Kd.C (Kd.int .i64) w A0 l0.length l0) (hc0 : l0.length ≤ c0) (h : spec_l17Sum.f k l0 = some r) :
 Calls Tryd.prog 157 #[.slice A0 l0.length c0] w fun e w' => e = .returned (.int .i64 r) ∧ Drawn0 w w' := by
 have HR0 := Aside0.mk hr0
 have HC0 := Aside0.mk hc0
 clear hr0 hc0
 have H : (spec_l17Sum.l0 k l0 0 0) = some r := h
 clear h
 have H' := Aside0.mk H
 clear H
 go_enter Tryd.func157, Tryd.ntmps157
 go_wp2
 go_loopg [3, 4] k (fun kq v3 v4 w' => ∃ (x3_1 : Int) (x4_1 : Int), v3 = .int .i64 x3_1 ∧ v4 = .int .i64 x4_1 ∧ Aside0 (spec_l17Sum.l0 kq l0 x3_1 x4_1 = some r) ∧ Aside0 (kq ≤ k) ∧ Drawn0 w w')
 case atStart => exact ⟨(0), (0), tq, tq, H', ⟨Nat.le_refl _⟩, tZ⟩
 case round =>
 clear H'
 try clear c1
 obtain ⟨x3_1, x4_1, rfl, rfl, HA, HK1, ⟨m1, rfl⟩⟩ := hrel
 cases gk with
 | zero => exact absurd HA.out (by simp [spec_l17Sum.l0])
 | succ k1 =>
 have H := HA.out
 clear HA
 simp only [spec_l17Sum.l0] at H
 by_cases c2 : x4_1 < (l0.length : Int)
 · rw [if_pos c2] at H
   have c2b0 : decide (x4_1 < (l0.length : Int)) = true := decide_eq_true c2
   clear c2
   by_cases c3 : 0 ≤ x4_1
   · rw [if_pos c3] at H
     have c3b0 : decide (0 ≤ x4_1) = true := decide_eq_true c3
     clear c3
     have H' := Aside0.mk H
     clear H
     have p247 : 0 ≤ (x4_1 : Int) := of_decide_eq_true tA
     have q247 : x4_1 < (l0.length : Int) := of_decide_eq_true tA
     obtain ⟨ad247, e247, hx247_0⟩ := Kd.at_int HR0.out x4_1 p247 q247
     cases e247
     replace p247 := eq_true p247
     replace q247 := eq_true q247
     go_wp2
     go_roundg k1
     case measure => have := HK1.out; omega
     case rel => exact ⟨(wrap64 (x3_1 + (rd l0 x4_1))), (wrap64 (x4_1 + 1)), tq, tq, H', ⟨by have := HK1.out; omega⟩, tZ⟩
   rw [if_neg c3] at H
   exact absurd H (by simp)
 rw [if_neg c2] at H
 have c2b0 : decide (x4_1 < (l0.length : Int)) = false := decide_eq_false c2
 clear c2
 obtain rfl := Option.some.inj H
 go_wp2
 go_ret
 exact ⟨by first | rfl | (simp; done) | (simp [*]; done), tZ⟩

end Go.Proofs.YtmeflmlejcmckaaDoor.PS
