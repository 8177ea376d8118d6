-- WRITTEN BY wip/gprint.py, a program of this session's over the kit's print, with contracts given by hand
import Derived.Test.YtmeflmlejcmckaaDoorPSx0
import Derived.Test.YtmeflmlejcmckaaDoorPSx4
import Derived.Test.YtmeflmlejcmckaaDoorPSx9
import Derived.Test.YtmeflmlejcmckaaDoorPSx16
import Derived.Test.YtmeflmlejcmckaaDoorPSx23
import Derived.Test.YtmeflmlejcmckaaDoorPSx26
import Derived.Test.YtmeflmlejcmckaaDoorPSx28
import Derived.Test.YtmeflmlejcmckaaDoorPSx29
namespace Go.Proofs.YtmeflmlejcmckaaDoor.PS
open Go.RowKit Go.Proofs.YtmeflmlejcmckaaDoorW.PrintWords Go.Proofs.YtmeflmlejcmckaaDoorW.PrintLast Go.Proofs.YtmeflmlejcmckaaDoorW.PrintMore
attribute [local go_sem] max2_int min2_int max_two min_two max_three min_three max_four min_four   -- for this text's walks alone
set_option linter.unusedVariables false
set_option linter.unusedSimpArgs false

/-! ### laws_FnExactReadComposed: function 6 -/
mutual
def laws_FnExactReadComposed.j0 : Nat → List (S116) → ByteArray → List Int → Int → List (S118) → List Int → Int → Bool → Option (Bool)
 | 0, _, _, _, _, _, _, _, _ => none
 | k + 1, x0, x1, x6, x7, x8, x9, x10, x47 => if x47 = true then (some false) else ((laws_toSyllableS.f k x0).bind fun t394 => ((laws_eqSyllableS.f k x8 t394).bind fun t397 => (if t397 = true then ((laws_markSyllableS.f k x8 1).bind fun bt398 => (if bt398.1 < 0 then (laws_FnExactReadComposed.j1 k x0 x1 x6 x7 x9 true) else ((laws_eqInt64S.f k x9 x6).bind fun t400 => (if t400 = true then (laws_FnExactReadComposed.j1 k x0 x1 x6 x7 x9 (x10 != x7)) else (laws_FnExactReadComposed.j1 k x0 x1 x6 x7 x9 true))))) else (some false))))
def laws_FnExactReadComposed.j1 : Nat → List (S116) → ByteArray → List Int → Int → List Int → Bool → Option (Bool)
 | 0, _, _, _, _, _, _ => none
 | k + 1, x0, x1, x6, x7, x9, x68 => if x68 = true then (some false) else ((laws_markInt64S.f k x9 1).bind fun bt401 => ((laws_heldInt64S.f k bt401.2 1).bind fun t403 => (if t403 < 0 then (some false) else (if t403 = bt401.1 then ((laws_toSyllableS.f k x0).bind fun t404 => ((impl_ReadComposed.f k t404 x1).bind fun bt407 => ((laws_eqInt64S.f k bt407.1 x6).bind fun t411 => (if t411 = true then (laws_FnExactReadComposed.j2 k bt401.2 bt401.1 (bt407.2 != x7)) else (laws_FnExactReadComposed.j2 k bt401.2 bt401.1 true))))) else (some false)))))
def laws_FnExactReadComposed.j2 : Nat → List Int → Int → Bool → Option (Bool)
 | 0, _, _, _ => none
 | k + 1, x9, x12, x95 => if x95 = true then (some false) else ((laws_heldInt64S.f k x9 1).bind fun t412 => (if t412 < 0 then (some false) else (if t412 = x12 then (some true) else (some false))))
end
def laws_FnExactReadComposed.f (k : Nat) (l0 : List (S116)) (a1 : ByteArray) : Option (Bool) := if (a1.size : Int) > 1048576 then (some true) else ((laws_szSyllableS.f k l0 1048576).bind fun t378 => (if t378 < 0 then (some true) else ((laws_toSyllableS.f k l0).bind fun t379 => ((spec_ReadComposed.f k t379 a1).bind fun bt382 => ((laws_toSyllableS.f k l0).bind fun t386 => ((impl_ReadComposed.f k t386 a1).bind fun bt389 => ((laws_eqInt64S.f k bt389.1 bt382.1).bind fun t393 => (if t393 = true then (laws_FnExactReadComposed.j0 k l0 a1 bt382.1 bt382.2 t386 bt389.1 bt389.2 (bt389.2 != bt382.2)) else (laws_FnExactReadComposed.j0 k l0 a1 bt382.1 bt382.2 t386 bt389.1 bt389.2 true)))))))))
theorem laws_FnExactReadComposed.mono_l : ∀ k, (∀ y0 y1 y2 y3 y4 y5 y6 y7, LeO (laws_FnExactReadComposed.j0 k y0 y1 y2 y3 y4 y5 y6 y7) (laws_FnExactReadComposed.j0 (k + 1) y0 y1 y2 y3 y4 y5 y6 y7)) ∧ (∀ y0 y1 y2 y3 y4 y5, LeO (laws_FnExactReadComposed.j1 k y0 y1 y2 y3 y4 y5) (laws_FnExactReadComposed.j1 (k + 1) y0 y1 y2 y3 y4 y5)) ∧ (∀ y0 y1 y2, LeO (laws_FnExactReadComposed.j2 k y0 y1 y2) (laws_FnExactReadComposed.j2 (k + 1) y0 y1 y2))
 | 0 => ⟨fun _ _ _ _ _ _ _ _ r h => by simp [laws_FnExactReadComposed.j0] at h, fun _ _ _ _ _ _ r h => by simp [laws_FnExactReadComposed.j1] at h, fun _ _ _ r h => by simp [laws_FnExactReadComposed.j2] at h⟩
 | k + 1 => by
  obtain ⟨ih0, ih1, ih2⟩ := laws_FnExactReadComposed.mono_l k
  refine ⟨?_, ?_, ?_⟩
  all_goals (intros; (first | unfold laws_FnExactReadComposed.j0 | unfold laws_FnExactReadComposed.j1 | unfold laws_FnExactReadComposed.j2); repeat' first
   | (with_reducible exact ih0 _ _ _ _ _ _ _ _)
   | (with_reducible exact ih1 _ _ _ _ _ _)
   | (with_reducible exact ih2 _ _ _)
   | (with_reducible exact impl_ReadComposed.mono _ _ _)
   | (with_reducible exact laws_eqInt64S.mono _ _ _)
   | (with_reducible exact laws_eqSyllableS.mono _ _ _)
   | (with_reducible exact laws_heldInt64S.mono _ _ _)
   | (with_reducible exact laws_markInt64S.mono _ _ _)
   | (with_reducible exact laws_markSyllableS.mono _ _ _)
   | (with_reducible exact laws_szSyllableS.mono _ _ _)
   | (with_reducible exact laws_toSyllableS.mono _ _)
   | (with_reducible exact spec_ReadComposed.mono _ _ _)
   | (with_reducible exact LeO.refl _)
   | (with_reducible exact LeO.none _)
   | (with_reducible refine LeO.ite ?_ ?_)
   | (with_reducible refine LeO.bind ?_ (fun _ => ?_))
   | exact ih0 _ _ _ _ _ _ _ _
   | exact ih1 _ _ _ _ _ _
   | exact ih2 _ _ _
   | exact impl_ReadComposed.mono _ _ _
   | exact laws_eqInt64S.mono _ _ _
   | exact laws_eqSyllableS.mono _ _ _
   | exact laws_heldInt64S.mono _ _ _
   | exact laws_markInt64S.mono _ _ _
   | exact laws_markSyllableS.mono _ _ _
   | exact laws_szSyllableS.mono _ _ _
   | exact laws_toSyllableS.mono _ _
   | exact spec_ReadComposed.mono _ _ _
   | exact LeO.none _
   | refine LeO.ite ?_ ?_
   | refine LeO.bind ?_ (fun _ => ?_))
theorem laws_FnExactReadComposed.mono : ∀ a0 a1 k, LeO (laws_FnExactReadComposed.f k a0 a1) (laws_FnExactReadComposed.f (k + 1) a0 a1) := by
 intro a0 a1 k
 obtain ⟨ih0, ih1, ih2⟩ := laws_FnExactReadComposed.mono_l k
 unfold laws_FnExactReadComposed.f
 repeat' first
  | (with_reducible exact ih0 _ _ _ _ _ _ _ _)
  | (with_reducible exact ih1 _ _ _ _ _ _)
  | (with_reducible exact ih2 _ _ _)
  | (with_reducible exact impl_ReadComposed.mono _ _ _)
  | (with_reducible exact laws_eqInt64S.mono _ _ _)
  | (with_reducible exact laws_eqSyllableS.mono _ _ _)
  | (with_reducible exact laws_heldInt64S.mono _ _ _)
  | (with_reducible exact laws_markInt64S.mono _ _ _)
  | (with_reducible exact laws_markSyllableS.mono _ _ _)
  | (with_reducible exact laws_szSyllableS.mono _ _ _)
  | (with_reducible exact laws_toSyllableS.mono _ _)
  | (with_reducible exact spec_ReadComposed.mono _ _ _)
  | (with_reducible exact LeO.refl _)
  | (with_reducible exact LeO.none _)
  | (with_reducible refine LeO.ite ?_ ?_)
  | (with_reducible refine LeO.bind ?_ (fun _ => ?_))
  | exact ih0 _ _ _ _ _ _ _ _
  | exact ih1 _ _ _ _ _ _
  | exact ih2 _ _ _
  | exact impl_ReadComposed.mono _ _ _
  | exact laws_eqInt64S.mono _ _ _
  | exact laws_eqSyllableS.mono _ _ _
  | exact laws_heldInt64S.mono _ _ _
  | exact laws_markInt64S.mono _ _ _
  | exact laws_markSyllableS.mono _ _ _
  | exact laws_szSyllableS.mono _ _ _
  | exact laws_toSyllableS.mono _ _
  | exact spec_ReadComposed.mono _ _ _
  | exact LeO.none _
  | refine LeO.ite ?_ ?_
  | refine LeO.bind ?_ (fun _ => ?_)
set_option maxHeartbeats 8000000 in
set_option maxRecDepth 100000 in
theorem laws_FnExactReadComposed.calls (k : Nat) (A0 : Option Addr) (c0 : Nat) (l0 : List (S116)) (a1 : ByteArray) (r : Bool) (w : World) (hr0 : Kd.C k116 w A0 l0.length l0) (hc0 : l0.length ≤ c0) (h : laws_FnExactReadComposed.f k l0 a1 = some r) :
 Calls Tryd.prog 6 #[.slice A0 l0.length c0, .string a1] w fun e w' => e = .returned (.bool r) ∧ Below w.heap.size w w' := by
 have HR0 := Aside0.mk hr0
 have HC0 := Aside0.mk hc0
 clear hr0 hc0
 have HB := Aside0.mk (Below.refl w.heap.size w)
 have H : (if (a1.size : Int) > 1048576 then (some true) else ((laws_szSyllableS.f k l0 1048576).bind fun t378 => (if t378 < 0 then (some true) else ((laws_toSyllableS.f k l0).bind fun t379 => ((spec_ReadComposed.f k t379 a1).bind fun bt382 => ((laws_toSyllableS.f k l0).bind fun t386 => ((impl_ReadComposed.f k t386 a1).bind fun bt389 => ((laws_eqInt64S.f k bt389.1 bt382.1).bind fun t393 => (if t393 = true then (laws_FnExactReadComposed.j0 k l0 a1 bt382.1 bt382.2 t386 bt389.1 bt389.2 (bt389.2 != bt382.2)) else (laws_FnExactReadComposed.j0 k l0 a1 bt382.1 bt382.2 t386 bt389.1 bt389.2 true)))))))))) = some r := h
 clear h
 by_cases c3 : (a1.size : Int) > 1048576
 · rw [if_pos c3] at H
   have c3b0 : decide (1048576 < (a1.size : Int)) = true := decide_eq_true c3
   have c3b1 : decide (1048576 < a1.size) = true := decide_eq_true (by omega)
   clear c3
   obtain rfl := Option.some.inj H
   go_enter Tryd.func6, Tryd.ntmps6
   go_wp2
   go_ret
   exact ⟨tE, tH HB⟩
 rw [if_neg c3] at H
 have c3b0 : decide (1048576 < (a1.size : Int)) = false := decide_eq_false c3
 have c3b1 : decide (1048576 < a1.size) = false := decide_eq_false (by omega)
 clear c3
 replace H := Option.bind_eq_some_iff.mp H
 obtain ⟨t378, A40, H⟩ := H
 replace H : (if t378 < 0 then (some true) else ((laws_toSyllableS.f k l0).bind fun t379 => ((spec_ReadComposed.f k t379 a1).bind fun bt382 => ((laws_toSyllableS.f k l0).bind fun t386 => ((impl_ReadComposed.f k t386 a1).bind fun bt389 => ((laws_eqInt64S.f k bt389.1 bt382.1).bind fun t393 => (if t393 = true then (laws_FnExactReadComposed.j0 k l0 a1 bt382.1 bt382.2 t386 bt389.1 bt389.2 (bt389.2 != bt382.2)) else (laws_FnExactReadComposed.j0 k l0 a1 bt382.1 bt382.2 t386 bt389.1 bt389.2 true)))))))) = some r := H
 have A4 := Aside0.mk A40
 clear A40
 by_cases c5 : t378 < 0
 · rw [if_pos c5] at H
   have c5b0 : decide (t378 < 0) = true := decide_eq_true c5
   clear c5
   obtain rfl := Option.some.inj H
   go_enter Tryd.func6, Tryd.ntmps6
   go_wp2_with (first | ((with_reducible refine gate_callee (f := 17) rfl ?_); refine gL_ (some 21) rfl rfl Tryd.func17 #[.slice A0 l0.length c0, .int .i64 1048576] rfl ?_; (with_reducible refine (laws_szSyllableS.calls k _ _ l0 1048576 t378 _ ?side1 ?side2 A4.out).mono ?_); (case side1 => exact tC HR0.out); (case side2 => exact HC0.out); rintro e w6 ⟨rfl, hb⟩; refine ⟨_, rfl, ?_⟩; replace HB := Aside0.mk (below_step (tH HB) hb); (try clear hb); (try clear hb2); (try clear hk); (try clear hi)))
   go_ret
   exact ⟨tE, tH HB⟩
 rw [if_neg c5] at H
 have c5b0 : decide (t378 < 0) = false := decide_eq_false c5
 clear c5
 replace H := Option.bind_eq_some_iff.mp H
 obtain ⟨t379, A70, H⟩ := H
 replace H : ((spec_ReadComposed.f k t379 a1).bind fun bt382 => ((laws_toSyllableS.f k l0).bind fun t386 => ((impl_ReadComposed.f k t386 a1).bind fun bt389 => ((laws_eqInt64S.f k bt389.1 bt382.1).bind fun t393 => (if t393 = true then (laws_FnExactReadComposed.j0 k l0 a1 bt382.1 bt382.2 t386 bt389.1 bt389.2 (bt389.2 != bt382.2)) else (laws_FnExactReadComposed.j0 k l0 a1 bt382.1 bt382.2 t386 bt389.1 bt389.2 true)))))) = some r := H
 have A7 := Aside0.mk A70
 clear A70
 replace H := Option.bind_eq_some_iff.mp H
 obtain ⟨⟨t382, t383⟩, A80, H⟩ := H
 replace H : ((laws_toSyllableS.f k l0).bind fun t386 => ((impl_ReadComposed.f k t386 a1).bind fun bt389 => ((laws_eqInt64S.f k bt389.1 t382).bind fun t393 => (if t393 = true then (laws_FnExactReadComposed.j0 k l0 a1 t382 t383 t386 bt389.1 bt389.2 (bt389.2 != t383)) else (laws_FnExactReadComposed.j0 k l0 a1 t382 t383 t386 bt389.1 bt389.2 true))))) = some r := H
 have A8 := Aside0.mk A80
 clear A80
 replace H := Option.bind_eq_some_iff.mp H
 obtain ⟨t386, A90, H⟩ := H
 replace H : ((impl_ReadComposed.f k t386 a1).bind fun bt389 => ((laws_eqInt64S.f k bt389.1 t382).bind fun t393 => (if t393 = true then (laws_FnExactReadComposed.j0 k l0 a1 t382 t383 t386 bt389.1 bt389.2 (bt389.2 != t383)) else (laws_FnExactReadComposed.j0 k l0 a1 t382 t383 t386 bt389.1 bt389.2 true)))) = some r := H
 have A9 := Aside0.mk A90
 clear A90
 replace H := Option.bind_eq_some_iff.mp H
 obtain ⟨⟨t389, t390⟩, A100, H⟩ := H
 replace H : ((laws_eqInt64S.f k t389 t382).bind fun t393 => (if t393 = true then (laws_FnExactReadComposed.j0 k l0 a1 t382 t383 t386 t389 t390 (t390 != t383)) else (laws_FnExactReadComposed.j0 k l0 a1 t382 t383 t386 t389 t390 true))) = some r := H
 have A10 := Aside0.mk A100
 clear A100
 have HC11 := Aside0.mk H
 clear H
 go_enter Tryd.func6, Tryd.ntmps6
 go_upto_region 10 with (first | ((with_reducible refine gate_callee (f := 17) rfl ?_); refine gL_ (some 21) rfl rfl Tryd.func17 #[.slice A0 l0.length c0, .int .i64 1048576] rfl ?_; (with_reducible refine (laws_szSyllableS.calls k _ _ l0 1048576 t378 _ ?side1 ?side2 A4.out).mono ?_); (case side1 => exact tC HR0.out); (case side2 => exact HC0.out); rintro e w12 ⟨rfl, hb⟩; refine ⟨_, rfl, ?_⟩; replace HB := Aside0.mk (below_step (tH HB) hb); (try clear hb); (try clear hb2); (try clear hk); (try clear hi)) | ((with_reducible refine gate_callee (f := 19) rfl ?_); refine gL_ (some 26) rfl rfl Tryd.func19 #[.slice A0 l0.length c0] rfl ?_; (with_reducible refine (laws_toSyllableS.calls k _ _ l0 t379 _ ?side1 ?side2 A7.out).mono ?_); (case side1 => exact tC (Kd.C_below HR0.out HB.out)); (case side2 => exact HC0.out); rintro e w13 ⟨v380, rfl, ho0, hb⟩; refine ⟨_, rfl, ?_⟩; have HO381 := Aside0.mk (Kd.R_lower ho0 (below_size (tH HB))); replace HB := Aside0.mk (below_step (tH HB) hb); (try clear hb); (try clear hb2); (try clear hk); (try clear hi); (try clear ho0); obtain ⟨Ao14, co14, eo14⟩ := Kd.R_slice HO381.out; subst eo14) | ((with_reducible refine gate_callee (f := 27) rfl ?_); refine gL_ (some 28) rfl rfl Tryd.func27 #[.slice Ao14 t379.length co14, .string a1] rfl ?_; (with_reducible refine (spec_ReadComposed.calls k _ _ t379 a1 t382 t383 _ ?side1 ?side2 A8.out).mono ?_); (case side1 => exact tC (Kd.R_reads' HO381.out).2.2); (case side2 => exact (Kd.R_reads' HO381.out).2.1); rintro e w15 ⟨v384, rfl, ho0, hb⟩; refine ⟨_, rfl, ?_⟩; replace HO381 := Aside0.mk (Kd.R_below (tR HO381) hb); have HO385 := Aside0.mk (Kd.R_lower ho0 (below_size (tH HB))); replace HB := Aside0.mk (below_step (tH HB) hb); (try clear hb); (try clear hb2); (try clear hk); (try clear hi); (try clear ho0)) | ((with_reducible refine gate_callee (f := 19) rfl ?_); refine gL_ (some 32) rfl rfl Tryd.func19 #[.slice A0 l0.length c0] rfl ?_; (with_reducible refine (laws_toSyllableS.calls k _ _ l0 t386 _ ?side1 ?side2 A9.out).mono ?_); (case side1 => exact tC (Kd.C_below HR0.out HB.out)); (case side2 => exact HC0.out); rintro e w16 ⟨v387, rfl, ho0, hb⟩; refine ⟨_, rfl, ?_⟩; replace HO385 := Aside0.mk (Kd.R_below (tR HO385) hb); have HO388 := Aside0.mk (Kd.R_lower (Kd.R_new' ho0 (Kd.R_lt (tR HO381))) (below_size (tH HB))); replace HO381 := Aside0.mk (Kd.R_elder' (tR HO381) (Kd.R_base ho0) hb); replace HB := Aside0.mk (below_step (tH HB) hb); (try clear hb); (try clear hb2); (try clear hk); (try clear hi); (try clear ho0); obtain ⟨Ao17, co17, eo17⟩ := Kd.R_slice HO388.out; subst eo17) | ((with_reducible refine gate_callee (f := 28) rfl ?_); refine gL_ (some 36) rfl rfl Tryd.func28 #[.slice Ao17 t386.length co17, .string a1] rfl ?_; (with_reducible refine (impl_ReadComposed.calls k _ _ t386 a1 t389 t390 _ ?side1 ?side2 A10.out).mono ?_); (case side1 => exact tC (Kd.R_reads' HO388.out).2.2); (case side2 => exact (Kd.R_reads' HO388.out).2.1); rintro e w18 ⟨v391, rfl, ho0, hb⟩; refine ⟨_, rfl, ?_⟩; replace HO381 := Aside0.mk (Kd.R_below (tR HO381) hb); replace HO388 := Aside0.mk (Kd.R_below (tR HO388) hb); have HO392 := Aside0.mk (Kd.R_lower (Kd.R_new' ho0 (Kd.R_lt (tR HO385))) (below_size (tH HB))); replace HO385 := Aside0.mk (Kd.R_elder' (tR HO385) (Kd.R_base ho0) hb); replace HB := Aside0.mk (below_step (tH HB) hb); (try clear hb); (try clear hb2); (try clear hk); (try clear hi); (try clear ho0)))
 (try simp only [Act.put, sx0, sx1, sx2])
 go_cut [47] (fun v47 wc => ∃ (kq : Nat) (x47_10 : Bool), v47 = .bool x47_10 ∧ Aside0 (laws_FnExactReadComposed.j0 kq l0 a1 t382 t383 t386 t389 t390 x47_10 = some r) ∧ Aside0 (kq ≤ k) ∧ Aside0 (Kd.R (Kd.int .i64) 2 wc w.heap.size (fun k_ => some k_ ≠ (v391 : Value).ownBlock) v384 t382) ∧ Aside0 (Kd.R k118 118 wc w.heap.size (fun _ => True) (.slice Ao17 t386.length co17) t386) ∧ Aside0 (Kd.R (Kd.int .i64) 2 wc w.heap.size (fun k_ => some k_ ≠ (v384 : Value).ownBlock) v391 t389) ∧ Aside0 (Below w.heap.size w wc))
 case first =>
  have H := HC11.out
  clear HC11
  replace H := Option.bind_eq_some_iff.mp H
  obtain ⟨t393, A190, H⟩ := H
  replace H : (if t393 = true then (laws_FnExactReadComposed.j0 k l0 a1 t382 t383 t386 t389 t390 (t390 != t383)) else (laws_FnExactReadComposed.j0 k l0 a1 t382 t383 t386 t389 t390 true)) = some r := H
  have A19 := Aside0.mk A190
  clear A190
  by_cases c20 : t393 = true
  · subst c20
    have H1 : (laws_FnExactReadComposed.j0 k l0 a1 t382 t383 t386 t389 t390 (t390 != t383)) = some r := by rw [if_pos rfl] at H; exact H
    clear H
    have H := H1
    clear H1
    have H' := Aside0.mk H
    clear H
    obtain ⟨Ao21, co21, eo21⟩ := Kd.R_slice HO392.out
    subst eo21
    obtain ⟨Ao22, co22, eo22⟩ := Kd.R_slice HO385.out
    subst eo22
    go_wp2_with (first | ((with_reducible refine gate_callee (f := 29) rfl ?_); refine gL_ (some 41) rfl rfl Tryd.func29 #[.slice Ao21 t389.length co21, .slice Ao22 t382.length co22] rfl ?_; (with_reducible refine (laws_eqInt64S.calls k _ _ t389 _ _ t382 true _ ?side1 ?side2 ?side3 ?side4 A19.out).mono ?_); (case side1 => exact tC (Kd.R_reads' HO392.out).2.2); (case side2 => exact (Kd.R_reads' HO392.out).2.1); (case side3 => exact tC (Kd.R_reads' HO385.out).2.2); (case side4 => exact (Kd.R_reads' HO385.out).2.1); rintro e w' ⟨rfl, ⟨nd, rfl⟩⟩; refine ⟨_, rfl, ?_⟩))
    go_meet
    case rel => exact ⟨_, ((t390 != t383)), tq, H', ⟨by first | omega | exact Nat.le_refl _⟩, ⟨by (with_reducible repeat (first | apply qra | apply qrn | apply qrd)); exact Kd.R_mono HO385.out (fun _ hk => hk.2)⟩, ⟨by (with_reducible repeat (first | apply qra | apply qrn | apply qrd)); exact Kd.R_mono HO388.out (fun _ hk => trivial)⟩, ⟨by (with_reducible repeat (first | apply qra | apply qrn | apply qrd)); exact Kd.R_mono HO392.out (fun _ hk => hk.2)⟩, ⟨tH HB⟩⟩
  replace c20 := Bool.eq_false_iff.mpr c20
  subst c20
  have H1 : (laws_FnExactReadComposed.j0 k l0 a1 t382 t383 t386 t389 t390 true) = some r := by rw [if_neg (show ¬ (false = true) by decide)] at H; exact H
  clear H
  have H := H1
  clear H1
  have H' := Aside0.mk H
  clear H
  obtain ⟨Ao23, co23, eo23⟩ := Kd.R_slice HO392.out
  subst eo23
  obtain ⟨Ao24, co24, eo24⟩ := Kd.R_slice HO385.out
  subst eo24
  go_wp2_with (first | ((with_reducible refine gate_callee (f := 29) rfl ?_); refine gL_ (some 41) rfl rfl Tryd.func29 #[.slice Ao23 t389.length co23, .slice Ao24 t382.length co24] rfl ?_; (with_reducible refine (laws_eqInt64S.calls k _ _ t389 _ _ t382 false _ ?side1 ?side2 ?side3 ?side4 A19.out).mono ?_); (case side1 => exact tC (Kd.R_reads' HO392.out).2.2); (case side2 => exact (Kd.R_reads' HO392.out).2.1); (case side3 => exact tC (Kd.R_reads' HO385.out).2.2); (case side4 => exact (Kd.R_reads' HO385.out).2.1); rintro e w' ⟨rfl, ⟨nd, rfl⟩⟩; refine ⟨_, rfl, ?_⟩))
  go_meet
  case rel => exact ⟨_, (true), tq, H', ⟨by first | omega | exact Nat.le_refl _⟩, ⟨by (with_reducible repeat (first | apply qra | apply qrn | apply qrd)); exact Kd.R_mono HO385.out (fun _ hk => hk.2)⟩, ⟨by (with_reducible repeat (first | apply qra | apply qrn | apply qrd)); exact Kd.R_mono HO388.out (fun _ hk => trivial)⟩, ⟨by (with_reducible repeat (first | apply qra | apply qrn | apply qrd)); exact Kd.R_mono HO392.out (fun _ hk => hk.2)⟩, ⟨tH HB⟩⟩
 case rest =>
 clear HC11
 try clear c1
 try clear c2
 try clear p2
 try clear c3
 try clear c3b0
 try clear c3b1
 try clear c5
 try clear c5b0
 try clear c6
 try clear c17
 try clear c19
 try clear c20
 obtain ⟨kq, x47_10, rfl, HA, HJ10, HO_6, HO_8, HO_9, HB⟩ := hcut
 cases kq with
 | zero => exact absurd HA.out (by simp [laws_FnExactReadComposed.j0])
 | succ kj10 =>
 have H := HA.out
 clear HA
 simp only [laws_FnExactReadComposed.j0] at H
 by_cases c25 : x47_10 = true
 · subst c25
   have H1 : (some false) = some r := by rw [if_pos rfl] at H; exact H
   clear H
   have H := H1
   clear H1
   obtain rfl := Option.some.inj H
   go_wp2
   go_ret
   exact ⟨tE, tH HB⟩
 replace c25 := Bool.eq_false_iff.mpr c25
 subst c25
 have H1 : ((laws_toSyllableS.f kj10 l0).bind fun t394 => ((laws_eqSyllableS.f kj10 t386 t394).bind fun t397 => (if t397 = true then ((laws_markSyllableS.f kj10 t386 1).bind fun bt398 => (if bt398.1 < 0 then (laws_FnExactReadComposed.j1 kj10 l0 a1 t382 t383 t389 true) else ((laws_eqInt64S.f kj10 t389 t382).bind fun t400 => (if t400 = true then (laws_FnExactReadComposed.j1 kj10 l0 a1 t382 t383 t389 (t390 != t383)) else (laws_FnExactReadComposed.j1 kj10 l0 a1 t382 t383 t389 true))))) else (some false)))) = some r := by rw [if_neg (show ¬ (false = true) by decide)] at H; exact H
 clear H
 have H := H1
 clear H1
 replace H := Option.bind_eq_some_iff.mp H
 obtain ⟨t394, A260, H⟩ := H
 replace H : ((laws_eqSyllableS.f kj10 t386 t394).bind fun t397 => (if t397 = true then ((laws_markSyllableS.f kj10 t386 1).bind fun bt398 => (if bt398.1 < 0 then (laws_FnExactReadComposed.j1 kj10 l0 a1 t382 t383 t389 true) else ((laws_eqInt64S.f kj10 t389 t382).bind fun t400 => (if t400 = true then (laws_FnExactReadComposed.j1 kj10 l0 a1 t382 t383 t389 (t390 != t383)) else (laws_FnExactReadComposed.j1 kj10 l0 a1 t382 t383 t389 true))))) else (some false))) = some r := H
 have A26 := Aside0.mk A260
 clear A260
 replace H := Option.bind_eq_some_iff.mp H
 obtain ⟨t397, A270, H⟩ := H
 replace H : (if t397 = true then ((laws_markSyllableS.f kj10 t386 1).bind fun bt398 => (if bt398.1 < 0 then (laws_FnExactReadComposed.j1 kj10 l0 a1 t382 t383 t389 true) else ((laws_eqInt64S.f kj10 t389 t382).bind fun t400 => (if t400 = true then (laws_FnExactReadComposed.j1 kj10 l0 a1 t382 t383 t389 (t390 != t383)) else (laws_FnExactReadComposed.j1 kj10 l0 a1 t382 t383 t389 true))))) else (some false)) = some r := H
 have A27 := Aside0.mk A270
 clear A270
 by_cases c28 : t397 = true
 · subst c28
   have H1 : ((laws_markSyllableS.f kj10 t386 1).bind fun bt398 => (if bt398.1 < 0 then (laws_FnExactReadComposed.j1 kj10 l0 a1 t382 t383 t389 true) else ((laws_eqInt64S.f kj10 t389 t382).bind fun t400 => (if t400 = true then (laws_FnExactReadComposed.j1 kj10 l0 a1 t382 t383 t389 (t390 != t383)) else (laws_FnExactReadComposed.j1 kj10 l0 a1 t382 t383 t389 true))))) = some r := by rw [if_pos rfl] at H; exact H
   clear H
   have H := H1
   clear H1
   replace H := Option.bind_eq_some_iff.mp H
   obtain ⟨⟨t398, t399⟩, A290, H⟩ := H
   replace H : (if t398 < 0 then (laws_FnExactReadComposed.j1 kj10 l0 a1 t382 t383 t389 true) else ((laws_eqInt64S.f kj10 t389 t382).bind fun t400 => (if t400 = true then (laws_FnExactReadComposed.j1 kj10 l0 a1 t382 t383 t389 (t390 != t383)) else (laws_FnExactReadComposed.j1 kj10 l0 a1 t382 t383 t389 true)))) = some r := H
   have A29 := Aside0.mk A290
   clear A290
   have HC30 := Aside0.mk H
   clear H
   go_upto_region 16 with (first | ((with_reducible refine gate_callee (f := 19) rfl ?_); refine gL_ (some 50) rfl rfl Tryd.func19 #[.slice A0 l0.length c0] rfl ?_; (with_reducible refine (laws_toSyllableS.calls kj10 _ _ l0 t394 _ ?side1 ?side2 A26.out).mono ?_); (case side1 => exact tC (Kd.C_below HR0.out HB.out)); (case side2 => exact HC0.out); rintro e w31 ⟨v395, rfl, ho0, hb⟩; refine ⟨_, rfl, ?_⟩; replace HO_6 := Aside0.mk (Kd.R_below (tR HO_6) hb); replace HO_9 := Aside0.mk (Kd.R_below (tR HO_9) hb); have HO396 := Aside0.mk (Kd.R_lower (Kd.R_new' ho0 (Kd.R_lt (tR HO_8))) (below_size (tH HB))); replace HO_8 := Aside0.mk (Kd.R_elder' (tR HO_8) (Kd.R_base ho0) hb); replace HB := Aside0.mk (below_step (tH HB) hb); (try clear hb); (try clear hb2); (try clear hk); (try clear hi); (try clear ho0); obtain ⟨Ao32, co32, eo32⟩ := Kd.R_slice HO396.out; subst eo32) | ((with_reducible refine gate_callee (f := 21) rfl ?_); refine gL_ (some 51) rfl rfl Tryd.func21 #[.slice Ao17 t386.length co17, .slice Ao32 t394.length co32] rfl ?_; (with_reducible refine (laws_eqSyllableS.calls kj10 _ _ t386 _ _ t394 true _ ?side1 ?side2 ?side3 ?side4 A27.out).mono ?_); (case side1 => exact tC (Kd.R_reads' HO_8.out).2.2); (case side2 => exact (Kd.R_reads' HO_8.out).2.1); (case side3 => exact tC (Kd.R_reads' HO396.out).2.2); (case side4 => exact (Kd.R_reads' HO396.out).2.1); rintro e w33 ⟨rfl, hb⟩; refine ⟨_, rfl, ?_⟩; replace HO_6 := Aside0.mk (Kd.R_below (tR HO_6) hb); replace HO_8 := Aside0.mk (Kd.R_below (tR HO_8) hb); replace HO_9 := Aside0.mk (Kd.R_below (tR HO_9) hb); replace HO396 := Aside0.mk (Kd.R_below (tR HO396) hb); replace HB := Aside0.mk (below_step (tH HB) hb); (try clear hb); (try clear hb2); (try clear hk); (try clear hi)) | ((with_reducible refine gate_callee (f := 30) rfl ?_); refine gL_ (some 55) rfl rfl Tryd.func30 #[.slice Ao17 t386.length co17, .int .i64 1] rfl ?_; (with_reducible refine (laws_markSyllableS.calls kj10 (fun k_ => some k_ = (.slice Ao17 t386.length co17 : Value).ownBlock) (.slice Ao17 t386.length co17) t386 1 t398 t399 w _ ?side1 ?side2 A29.out).mono ?_); (case side1 => exact tH HB); (case side2 => exact Kd.R_tight rfl HO_8.out); rintro e w34 ⟨rfl, hy0, hb, hkp⟩; refine ⟨_, rfl, ?_⟩; replace HO_6 := Aside0.mk (Kd.R_mono (ok' := fun k_ => some k_ ≠ (v391 : Value).ownBlock) (Kd.R_keptB ((Kd.R_apart' HO_6.out (Kd.R_typed HO_8.out) (by decide))) hkp (fun k_ hk_ hs_ => (hk_.2) hs_)) (fun k_ hk_ => hk_.1.1)); replace HO_9 := Aside0.mk (Kd.R_mono (ok' := fun k_ => some k_ ≠ (v384 : Value).ownBlock) (Kd.R_keptB ((Kd.R_apart' HO_9.out (Kd.R_typed HO_8.out) (by decide))) hkp (fun k_ hk_ hs_ => (hk_.2) hs_)) (fun k_ hk_ => hk_.1.1)); replace HO_8 := Aside0.mk (Kd.R_reok rfl hy0 (fun k_ e_ => HO_8.out.1 k_ e_)); replace HO396 := Aside0.mk (Kd.R_mono (ok' := fun k_ => some k_ ≠ (.slice Ao17 t386.length co17 : Value).ownBlock) (Kd.R_keptB (HO396.out) hkp (fun k_ hk_ hs_ => (hk_.2) hs_)) (fun k_ hk_ => hk_.1.2)); replace HB := Aside0.mk (hb); (try clear hb); (try clear hkp); (try clear hy0)))
   (try simp only [Act.put, sx0, sx1, sx2])
   go_cut [68] (fun v68 wc => ∃ (kq : Nat) (x68_29 : Bool), v68 = .bool x68_29 ∧ Aside0 (laws_FnExactReadComposed.j1 kq l0 a1 t382 t383 t389 x68_29 = some r) ∧ Aside0 (kq ≤ kj10) ∧ Aside0 (Kd.R (Kd.int .i64) 2 wc w.heap.size (fun k_ => some k_ ≠ (v391 : Value).ownBlock) v384 t382) ∧ Aside0 (Kd.R (Kd.int .i64) 2 wc w.heap.size (fun k_ => some k_ ≠ (v384 : Value).ownBlock) v391 t389) ∧ Aside0 (Below w.heap.size w wc))
   case first =>
    have H := HC30.out
    clear HC30
    by_cases c35 : t398 < 0
    · rw [if_pos c35] at H
      have c35b0 : decide (t398 < 0) = true := decide_eq_true c35
      clear c35
      (first | rw [c35b0] | (simp only [i64_w, i32_w]; rw [c35b0]) | skip)
      have H' := Aside0.mk H
      clear H
      go_wp2
      go_meet
      case rel => exact ⟨_, (true), tq, H', ⟨by have := HJ10.out; first | omega | exact Nat.le_refl _⟩, ⟨tR HO_6⟩, ⟨tR HO_9⟩, ⟨tH HB⟩⟩
    rw [if_neg c35] at H
    have c35b0 : decide (t398 < 0) = false := decide_eq_false c35
    clear c35
    (first | rw [c35b0] | (simp only [i64_w, i32_w]; rw [c35b0]) | skip)
    replace H := Option.bind_eq_some_iff.mp H
    obtain ⟨t400, A360, H⟩ := H
    replace H : (if t400 = true then (laws_FnExactReadComposed.j1 kj10 l0 a1 t382 t383 t389 (t390 != t383)) else (laws_FnExactReadComposed.j1 kj10 l0 a1 t382 t383 t389 true)) = some r := H
    have A36 := Aside0.mk A360
    clear A360
    by_cases c37 : t400 = true
    · subst c37
      have H1 : (laws_FnExactReadComposed.j1 kj10 l0 a1 t382 t383 t389 (t390 != t383)) = some r := by rw [if_pos rfl] at H; exact H
      clear H
      have H := H1
      clear H1
      have H' := Aside0.mk H
      clear H
      obtain ⟨Ao38, co38, eo38⟩ := Kd.R_slice HO_9.out
      subst eo38
      obtain ⟨Ao39, co39, eo39⟩ := Kd.R_slice HO_6.out
      subst eo39
      go_wp2_with (first | (go_at_call 29; (with_reducible refine (laws_eqInt64S.calls kj10 _ _ t389 _ _ t382 true _ ?side1 ?side2 ?side3 ?side4 A36.out).mono ?_); (case side1 => exact tC (Kd.R_reads' HO_9.out).2.2); (case side2 => exact (Kd.R_reads' HO_9.out).2.1); (case side3 => exact tC (Kd.R_reads' HO_6.out).2.2); (case side4 => exact (Kd.R_reads' HO_6.out).2.1); rintro e w' ⟨rfl, ⟨nd, rfl⟩⟩))
      go_meet
      case rel => exact ⟨_, ((t390 != t383)), tq, H', ⟨by have := HJ10.out; first | omega | exact Nat.le_refl _⟩, ⟨tR HO_6⟩, ⟨tR HO_9⟩, ⟨tH HB⟩⟩
    replace c37 := Bool.eq_false_iff.mpr c37
    subst c37
    have H1 : (laws_FnExactReadComposed.j1 kj10 l0 a1 t382 t383 t389 true) = some r := by rw [if_neg (show ¬ (false = true) by decide)] at H; exact H
    clear H
    have H := H1
    clear H1
    have H' := Aside0.mk H
    clear H
    obtain ⟨Ao40, co40, eo40⟩ := Kd.R_slice HO_9.out
    subst eo40
    obtain ⟨Ao41, co41, eo41⟩ := Kd.R_slice HO_6.out
    subst eo41
    go_wp2_with (first | (go_at_call 29; (with_reducible refine (laws_eqInt64S.calls kj10 _ _ t389 _ _ t382 false _ ?side1 ?side2 ?side3 ?side4 A36.out).mono ?_); (case side1 => exact tC (Kd.R_reads' HO_9.out).2.2); (case side2 => exact (Kd.R_reads' HO_9.out).2.1); (case side3 => exact tC (Kd.R_reads' HO_6.out).2.2); (case side4 => exact (Kd.R_reads' HO_6.out).2.1); rintro e w' ⟨rfl, ⟨nd, rfl⟩⟩))
    go_meet
    case rel => exact ⟨_, (true), tq, H', ⟨by have := HJ10.out; first | omega | exact Nat.le_refl _⟩, ⟨tR HO_6⟩, ⟨tR HO_9⟩, ⟨tH HB⟩⟩
   case rest =>
   clear HC30
   try clear c1
   try clear c2
   try clear p2
   try clear c3
   try clear c3b0
   try clear c3b1
   try clear c5
   try clear c5b0
   try clear c6
   try clear c17
   try clear c19
   try clear c20
   try clear c21
   try clear c25
   try clear c27
   try clear c28
   try clear c29
   try clear c30
   try clear c35
   try clear c35b0
   try clear c37
   try clear p2
   obtain ⟨kq, x68_29, rfl, HA, HJ29, HO_6, HO_9, HB⟩ := hcut
   cases kq with
   | zero => exact absurd HA.out (by simp [laws_FnExactReadComposed.j1])
   | succ kj29 =>
   have H := HA.out
   clear HA
   simp only [laws_FnExactReadComposed.j1] at H
   by_cases c42 : x68_29 = true
   · subst c42
     have H1 : (some false) = some r := by rw [if_pos rfl] at H; exact H
     clear H
     have H := H1
     clear H1
     obtain rfl := Option.some.inj H
     go_wp2
     go_ret
     exact ⟨tE, tH HB⟩
   replace c42 := Bool.eq_false_iff.mpr c42
   subst c42
   have H1 : ((laws_markInt64S.f kj29 t389 1).bind fun bt401 => ((laws_heldInt64S.f kj29 bt401.2 1).bind fun t403 => (if t403 < 0 then (some false) else (if t403 = bt401.1 then ((laws_toSyllableS.f kj29 l0).bind fun t404 => ((impl_ReadComposed.f kj29 t404 a1).bind fun bt407 => ((laws_eqInt64S.f kj29 bt407.1 t382).bind fun t411 => (if t411 = true then (laws_FnExactReadComposed.j2 kj29 bt401.2 bt401.1 (bt407.2 != t383)) else (laws_FnExactReadComposed.j2 kj29 bt401.2 bt401.1 true))))) else (some false))))) = some r := by rw [if_neg (show ¬ (false = true) by decide)] at H; exact H
   clear H
   have H := H1
   clear H1
   replace H := Option.bind_eq_some_iff.mp H
   obtain ⟨⟨t401, t402⟩, A430, H⟩ := H
   replace H : ((laws_heldInt64S.f kj29 t402 1).bind fun t403 => (if t403 < 0 then (some false) else (if t403 = t401 then ((laws_toSyllableS.f kj29 l0).bind fun t404 => ((impl_ReadComposed.f kj29 t404 a1).bind fun bt407 => ((laws_eqInt64S.f kj29 bt407.1 t382).bind fun t411 => (if t411 = true then (laws_FnExactReadComposed.j2 kj29 t402 t401 (bt407.2 != t383)) else (laws_FnExactReadComposed.j2 kj29 t402 t401 true))))) else (some false)))) = some r := H
   have A43 := Aside0.mk A430
   clear A430
   replace H := Option.bind_eq_some_iff.mp H
   obtain ⟨t403, A440, H⟩ := H
   replace H : (if t403 < 0 then (some false) else (if t403 = t401 then ((laws_toSyllableS.f kj29 l0).bind fun t404 => ((impl_ReadComposed.f kj29 t404 a1).bind fun bt407 => ((laws_eqInt64S.f kj29 bt407.1 t382).bind fun t411 => (if t411 = true then (laws_FnExactReadComposed.j2 kj29 t402 t401 (bt407.2 != t383)) else (laws_FnExactReadComposed.j2 kj29 t402 t401 true))))) else (some false))) = some r := H
   have A44 := Aside0.mk A440
   clear A440
   by_cases c45 : t403 < 0
   · rw [if_pos c45] at H
     have c45b0 : decide (t403 < 0) = true := decide_eq_true c45
     clear c45
     obtain rfl := Option.some.inj H
     obtain ⟨Ao46, co46, eo46⟩ := Kd.R_slice HO_9.out
     subst eo46
     go_wp2_with (first | ((with_reducible refine gate_callee (f := 31) rfl ?_); refine gL_ (some 71) rfl rfl Tryd.func31 #[.slice Ao46 t389.length co46, .int .i64 1] rfl ?_; (with_reducible refine (laws_markInt64S.calls kj29 (fun k_ => some k_ = (.slice Ao46 t389.length co46 : Value).ownBlock) (.slice Ao46 t389.length co46) t389 1 t401 t402 w _ ?side1 ?side2 A43.out).mono ?_); (case side1 => exact tH HB); (case side2 => exact Kd.R_tight rfl HO_9.out); rintro e w47 ⟨rfl, hy0, hb, hkp⟩; refine ⟨_, rfl, ?_⟩; replace HO_6 := Aside0.mk (Kd.R_mono (ok' := fun k_ => some k_ ≠ (.slice Ao46 t389.length co46 : Value).ownBlock) (Kd.R_keptB (HO_6.out) hkp (fun k_ hk_ hs_ => (hk_) hs_)) (fun k_ hk_ => hk_.1)); replace HO_9 := Aside0.mk (Kd.R_reok rfl hy0 (fun k_ e_ => HO_9.out.1 k_ e_)); replace HB := Aside0.mk (hb); (try clear hb); (try clear hkp); (try clear hy0)) | ((with_reducible refine gate_callee (f := 32) rfl ?_); refine goesL_ (some 74) rfl rfl Tryd.func32 (by kernel_rfl) rfl #[.slice Ao46 t402.length co46, .int .i64 1] rfl (by (try simp only [List.map_toArray, List.map_cons, List.map_nil]); first | done | (rw [show t402.length = t389.length from (Kd.R_reads' HO_9.out).1.symm] <;> rfl) | rfl | (simp only [List.length_drop, List.length_take]; rfl)) ?_; (with_reducible refine (laws_heldInt64S.calls kj29 _ _ t402 1 t403 _ ?side1 ?side2 A44.out).mono ?_); (case side1 => exact tC (Kd.R_reads' HO_9.out).2.2); (case side2 => rw [show t402.length = t389.length from (Kd.R_reads' HO_9.out).1.symm]; exact (Kd.R_reads' HO_9.out).2.1); rintro e w' ⟨rfl, ⟨nd, rfl⟩⟩; refine ⟨_, rfl, ?_⟩))
     go_ret
     exact ⟨tE, tH HB⟩
   rw [if_neg c45] at H
   have c45b0 : decide (t403 < 0) = false := decide_eq_false c45
   clear c45
   by_cases c48 : t403 = t401
   · rw [if_pos c48] at H
     have c48b0 : (t403 == t401) = true := beq_iff_eq.mpr c48
     have c48b1 : (t403 != t401) = false := bne_eq_false_iff_eq.mpr c48
     clear c48
     replace H := Option.bind_eq_some_iff.mp H
     obtain ⟨t404, A490, H⟩ := H
     replace H : ((impl_ReadComposed.f kj29 t404 a1).bind fun bt407 => ((laws_eqInt64S.f kj29 bt407.1 t382).bind fun t411 => (if t411 = true then (laws_FnExactReadComposed.j2 kj29 t402 t401 (bt407.2 != t383)) else (laws_FnExactReadComposed.j2 kj29 t402 t401 true)))) = some r := H
     have A49 := Aside0.mk A490
     clear A490
     replace H := Option.bind_eq_some_iff.mp H
     obtain ⟨⟨t407, t408⟩, A500, H⟩ := H
     replace H : ((laws_eqInt64S.f kj29 t407 t382).bind fun t411 => (if t411 = true then (laws_FnExactReadComposed.j2 kj29 t402 t401 (t408 != t383)) else (laws_FnExactReadComposed.j2 kj29 t402 t401 true))) = some r := H
     have A50 := Aside0.mk A500
     clear A500
     have HC51 := Aside0.mk H
     clear H
     obtain ⟨Ao52, co52, eo52⟩ := Kd.R_slice HO_9.out
     subst eo52
     go_upto_region 27 with (first | ((with_reducible refine gate_callee (f := 31) rfl ?_); refine gL_ (some 71) rfl rfl Tryd.func31 #[.slice Ao52 t389.length co52, .int .i64 1] rfl ?_; (with_reducible refine (laws_markInt64S.calls kj29 (fun k_ => some k_ = (.slice Ao52 t389.length co52 : Value).ownBlock) (.slice Ao52 t389.length co52) t389 1 t401 t402 w _ ?side1 ?side2 A43.out).mono ?_); (case side1 => exact tH HB); (case side2 => exact Kd.R_tight rfl HO_9.out); rintro e w53 ⟨rfl, hy0, hb, hkp⟩; refine ⟨_, rfl, ?_⟩; replace HO_6 := Aside0.mk (Kd.R_mono (ok' := fun k_ => some k_ ≠ (.slice Ao52 t389.length co52 : Value).ownBlock) (Kd.R_keptB (HO_6.out) hkp (fun k_ hk_ hs_ => (hk_) hs_)) (fun k_ hk_ => hk_.1)); replace HO_9 := Aside0.mk (Kd.R_reok rfl hy0 (fun k_ e_ => HO_9.out.1 k_ e_)); replace HB := Aside0.mk (hb); (try clear hb); (try clear hkp); (try clear hy0)) | ((with_reducible refine gate_callee (f := 32) rfl ?_); refine goesL_ (some 74) rfl rfl Tryd.func32 (by kernel_rfl) rfl #[.slice Ao52 t402.length co52, .int .i64 1] rfl (by (try simp only [List.map_toArray, List.map_cons, List.map_nil]); first | done | (rw [show t402.length = t389.length from (Kd.R_reads' HO_9.out).1.symm] <;> rfl) | rfl | (simp only [List.length_drop, List.length_take]; rfl)) ?_; (with_reducible refine (laws_heldInt64S.calls kj29 _ _ t402 1 t403 _ ?side1 ?side2 A44.out).mono ?_); (case side1 => exact tC (Kd.R_reads' HO_9.out).2.2); (case side2 => rw [show t402.length = t389.length from (Kd.R_reads' HO_9.out).1.symm]; exact (Kd.R_reads' HO_9.out).2.1); rintro e w' ⟨rfl, ⟨nd, rfl⟩⟩; refine ⟨_, rfl, ?_⟩) | ((with_reducible refine gate_callee (f := 19) rfl ?_); refine gL_ (some 82) rfl rfl Tryd.func19 #[.slice A0 l0.length c0] rfl ?_; (with_reducible refine (laws_toSyllableS.calls kj29 _ _ l0 t404 _ ?side1 ?side2 A49.out).mono ?_); (case side1 => exact Kd.C_below HR0.out (tH HB)); (case side2 => exact HC0.out); rintro e w54 ⟨v405, rfl, ho0, hb⟩; refine ⟨_, rfl, ?_⟩; replace HO_6 := Aside0.mk (Kd.R_below (tR HO_6) hb); replace HO_9 := Aside0.mk (Kd.R_below (tR HO_9) hb); have HO406 := Aside0.mk (Kd.R_lower ho0 (below_size (tH HB))); replace HB := Aside0.mk (below_step (tH HB) hb); (try clear hb); (try clear hb2); (try clear hk); (try clear hi); (try clear ho0); obtain ⟨Ao55, co55, eo55⟩ := Kd.R_slice HO406.out; subst eo55) | ((with_reducible refine gate_callee (f := 28) rfl ?_); refine gL_ (some 84) rfl rfl Tryd.func28 #[.slice Ao55 t404.length co55, .string a1] rfl ?_; (with_reducible refine (impl_ReadComposed.calls kj29 _ _ t404 a1 t407 t408 _ ?side1 ?side2 A50.out).mono ?_); (case side1 => exact tC (Kd.R_reads' HO406.out).2.2); (case side2 => exact (Kd.R_reads' HO406.out).2.1); rintro e w56 ⟨v409, rfl, ho0, hb⟩; refine ⟨_, rfl, ?_⟩; replace HO406 := Aside0.mk (Kd.R_below (tR HO406) hb); have HO410 := Aside0.mk (Kd.R_lower (Kd.R_new' (Kd.R_new' ho0 (Kd.R_lt (tR HO_6))) (Kd.R_lt (tR HO_9))) (below_size (tH HB))); replace HO_6 := Aside0.mk (Kd.R_elder' (tR HO_6) (Kd.R_base ho0) hb); replace HO_9 := Aside0.mk (Kd.R_elder' (tR HO_9) (Kd.R_base ho0) hb); replace HB := Aside0.mk (below_step (tH HB) hb); (try clear hb); (try clear hb2); (try clear hk); (try clear hi); (try clear ho0)))
     (try simp only [Act.put, sx0, sx1, sx2])
     go_cut [95] (fun v95 wc => ∃ (kq : Nat) (x95_50 : Bool), v95 = .bool x95_50 ∧ Aside0 (laws_FnExactReadComposed.j2 kq t402 t401 x95_50 = some r) ∧ Aside0 (kq ≤ kj29) ∧ Aside0 (Kd.R (Kd.int .i64) 2 wc w.heap.size (fun _ => True) (.slice Ao52 t389.length co52) t402) ∧ Aside0 (Below w.heap.size w wc))
     case first =>
      have H := HC51.out
      clear HC51
      replace H := Option.bind_eq_some_iff.mp H
      obtain ⟨t411, A570, H⟩ := H
      replace H : (if t411 = true then (laws_FnExactReadComposed.j2 kj29 t402 t401 (t408 != t383)) else (laws_FnExactReadComposed.j2 kj29 t402 t401 true)) = some r := H
      have A57 := Aside0.mk A570
      clear A570
      by_cases c58 : t411 = true
      · subst c58
        have H1 : (laws_FnExactReadComposed.j2 kj29 t402 t401 (t408 != t383)) = some r := by rw [if_pos rfl] at H; exact H
        clear H
        have H := H1
        clear H1
        have H' := Aside0.mk H
        clear H
        obtain ⟨Ao59, co59, eo59⟩ := Kd.R_slice HO410.out
        subst eo59
        obtain ⟨Ao60, co60, eo60⟩ := Kd.R_slice HO_6.out
        subst eo60
        go_wp2_with (first | ((with_reducible refine gate_callee (f := 29) rfl ?_); refine gL_ (some 89) rfl rfl Tryd.func29 #[.slice Ao59 t407.length co59, .slice Ao60 t382.length co60] rfl ?_; (with_reducible refine (laws_eqInt64S.calls kj29 _ _ t407 _ _ t382 true _ ?side1 ?side2 ?side3 ?side4 A57.out).mono ?_); (case side1 => exact tC (Kd.R_reads' HO410.out).2.2); (case side2 => exact (Kd.R_reads' HO410.out).2.1); (case side3 => exact tC (Kd.R_reads' HO_6.out).2.2); (case side4 => exact (Kd.R_reads' HO_6.out).2.1); rintro e w' ⟨rfl, ⟨nd, rfl⟩⟩; refine ⟨_, rfl, ?_⟩))
        go_meet
        case rel => exact ⟨_, ((t408 != t383)), tq, H', ⟨by have := HJ10.out; have := HJ29.out; first | omega | exact Nat.le_refl _⟩, ⟨by (with_reducible repeat (first | apply qra | apply qrn | apply qrd)); exact Kd.R_mono HO_9.out (fun _ hk => trivial)⟩, ⟨tH HB⟩⟩
      replace c58 := Bool.eq_false_iff.mpr c58
      subst c58
      have H1 : (laws_FnExactReadComposed.j2 kj29 t402 t401 true) = some r := by rw [if_neg (show ¬ (false = true) by decide)] at H; exact H
      clear H
      have H := H1
      clear H1
      have H' := Aside0.mk H
      clear H
      obtain ⟨Ao61, co61, eo61⟩ := Kd.R_slice HO410.out
      subst eo61
      obtain ⟨Ao62, co62, eo62⟩ := Kd.R_slice HO_6.out
      subst eo62
      go_wp2_with (first | ((with_reducible refine gate_callee (f := 29) rfl ?_); refine gL_ (some 89) rfl rfl Tryd.func29 #[.slice Ao61 t407.length co61, .slice Ao62 t382.length co62] rfl ?_; (with_reducible refine (laws_eqInt64S.calls kj29 _ _ t407 _ _ t382 false _ ?side1 ?side2 ?side3 ?side4 A57.out).mono ?_); (case side1 => exact tC (Kd.R_reads' HO410.out).2.2); (case side2 => exact (Kd.R_reads' HO410.out).2.1); (case side3 => exact tC (Kd.R_reads' HO_6.out).2.2); (case side4 => exact (Kd.R_reads' HO_6.out).2.1); rintro e w' ⟨rfl, ⟨nd, rfl⟩⟩; refine ⟨_, rfl, ?_⟩))
      go_meet
      case rel => exact ⟨_, (true), tq, H', ⟨by have := HJ10.out; have := HJ29.out; first | omega | exact Nat.le_refl _⟩, ⟨by (with_reducible repeat (first | apply qra | apply qrn | apply qrd)); exact Kd.R_mono HO_9.out (fun _ hk => trivial)⟩, ⟨tH HB⟩⟩
     case rest =>
     clear HC51
     try clear c1
     try clear c2
     try clear p2
     try clear c3
     try clear c3b0
     try clear c3b1
     try clear c4
     try clear c5
     try clear c5b0
     try clear c6
     try clear c17
     try clear c19
     try clear c20
     try clear c21
     try clear c25
     try clear c27
     try clear c28
     try clear c29
     try clear c30
     try clear c31
     try clear c32
     try clear c35
     try clear c35b0
     try clear c37
     try clear c42
     try clear c45
     try clear c45b0
     try clear c48
     try clear c48b0
     try clear c48b1
     try clear c58
     try clear p2
     obtain ⟨kq, x95_50, rfl, HA, HJ50, HO_9, HB⟩ := hcut
     have hl9_50 := (Kd.R_reads' HO_9.out).1
     rw [hl9_50] at HO_9
     (try simp only [hl9_50])
     cases kq with
     | zero => exact absurd HA.out (by simp [laws_FnExactReadComposed.j2])
     | succ kj50 =>
     have H := HA.out
     clear HA
     simp only [laws_FnExactReadComposed.j2] at H
     by_cases c63 : x95_50 = true
     · subst c63
       have H1 : (some false) = some r := by rw [if_pos rfl] at H; exact H
       clear H
       have H := H1
       clear H1
       obtain rfl := Option.some.inj H
       go_wp2
       go_ret
       exact ⟨tE, tH HB⟩
     replace c63 := Bool.eq_false_iff.mpr c63
     subst c63
     have H1 : ((laws_heldInt64S.f kj50 t402 1).bind fun t412 => (if t412 < 0 then (some false) else (if t412 = t401 then (some true) else (some false)))) = some r := by rw [if_neg (show ¬ (false = true) by decide)] at H; exact H
     clear H
     have H := H1
     clear H1
     replace H := Option.bind_eq_some_iff.mp H
     obtain ⟨t412, A640, H⟩ := H
     replace H : (if t412 < 0 then (some false) else (if t412 = t401 then (some true) else (some false))) = some r := H
     have A64 := Aside0.mk A640
     clear A640
     by_cases c65 : t412 < 0
     · rw [if_pos c65] at H
       have c65b0 : decide (t412 < 0) = true := decide_eq_true c65
       clear c65
       obtain rfl := Option.some.inj H
       go_wp2_with (first | ((with_reducible refine gate_callee (f := 32) rfl ?_); refine gL_ (some 98) rfl rfl Tryd.func32 #[.slice Ao52 t402.length co52, .int .i64 1] rfl ?_; (with_reducible refine (laws_heldInt64S.calls kj50 _ _ t402 1 t412 _ ?side1 ?side2 A64.out).mono ?_); (case side1 => exact tC (Kd.R_reads' HO_9.out).2.2); (case side2 => exact (Kd.R_reads' HO_9.out).2.1); rintro e w' ⟨rfl, ⟨nd, rfl⟩⟩; refine ⟨_, rfl, ?_⟩))
       go_ret
       exact ⟨tE, tH HB⟩
     rw [if_neg c65] at H
     have c65b0 : decide (t412 < 0) = false := decide_eq_false c65
     clear c65
     by_cases c66 : t412 = t401
     · rw [if_pos c66] at H
       have c66b0 : (t412 == t401) = true := beq_iff_eq.mpr c66
       have c66b1 : (t412 != t401) = false := bne_eq_false_iff_eq.mpr c66
       clear c66
       obtain rfl := Option.some.inj H
       go_wp2_with (first | ((with_reducible refine gate_callee (f := 32) rfl ?_); refine gL_ (some 98) rfl rfl Tryd.func32 #[.slice Ao52 t402.length co52, .int .i64 1] rfl ?_; (with_reducible refine (laws_heldInt64S.calls kj50 _ _ t402 1 t412 _ ?side1 ?side2 A64.out).mono ?_); (case side1 => exact tC (Kd.R_reads' HO_9.out).2.2); (case side2 => exact (Kd.R_reads' HO_9.out).2.1); rintro e w' ⟨rfl, ⟨nd, rfl⟩⟩; refine ⟨_, rfl, ?_⟩))
       go_ret
       exact ⟨tE, tH HB⟩
     rw [if_neg c66] at H
     have c66b0 : (t412 == t401) = false := beq_eq_false_iff_ne.mpr c66
     have c66b1 : (t412 != t401) = true := bne_iff_ne.mpr c66
     obtain rfl := Option.some.inj H
     go_wp2_with (first | ((with_reducible refine gate_callee (f := 32) rfl ?_); refine gL_ (some 98) rfl rfl Tryd.func32 #[.slice Ao52 t402.length co52, .int .i64 1] rfl ?_; (with_reducible refine (laws_heldInt64S.calls kj50 _ _ t402 1 t412 _ ?side1 ?side2 A64.out).mono ?_); (case side1 => exact tC (Kd.R_reads' HO_9.out).2.2); (case side2 => exact (Kd.R_reads' HO_9.out).2.1); rintro e w' ⟨rfl, ⟨nd, rfl⟩⟩; refine ⟨_, rfl, ?_⟩))
     go_ret
     exact ⟨tE, tH HB⟩
   rw [if_neg c48] at H
   have c48b0 : (t403 == t401) = false := beq_eq_false_iff_ne.mpr c48
   have c48b1 : (t403 != t401) = true := bne_iff_ne.mpr c48
   obtain rfl := Option.some.inj H
   obtain ⟨Ao67, co67, eo67⟩ := Kd.R_slice HO_9.out
   subst eo67
   go_wp2_with (first | ((with_reducible refine gate_callee (f := 31) rfl ?_); refine gL_ (some 71) rfl rfl Tryd.func31 #[.slice Ao67 t389.length co67, .int .i64 1] rfl ?_; (with_reducible refine (laws_markInt64S.calls kj29 (fun k_ => some k_ = (.slice Ao67 t389.length co67 : Value).ownBlock) (.slice Ao67 t389.length co67) t389 1 t401 t402 w _ ?side1 ?side2 A43.out).mono ?_); (case side1 => exact tH HB); (case side2 => exact Kd.R_tight rfl HO_9.out); rintro e w68 ⟨rfl, hy0, hb, hkp⟩; refine ⟨_, rfl, ?_⟩; replace HO_6 := Aside0.mk (Kd.R_mono (ok' := fun k_ => some k_ ≠ (.slice Ao67 t389.length co67 : Value).ownBlock) (Kd.R_keptB (HO_6.out) hkp (fun k_ hk_ hs_ => (hk_) hs_)) (fun k_ hk_ => hk_.1)); replace HO_9 := Aside0.mk (Kd.R_reok rfl hy0 (fun k_ e_ => HO_9.out.1 k_ e_)); replace HB := Aside0.mk (hb); (try clear hb); (try clear hkp); (try clear hy0)) | ((with_reducible refine gate_callee (f := 32) rfl ?_); refine goesL_ (some 74) rfl rfl Tryd.func32 (by kernel_rfl) rfl #[.slice Ao67 t402.length co67, .int .i64 1] rfl (by (try simp only [List.map_toArray, List.map_cons, List.map_nil]); first | done | (rw [show t402.length = t389.length from (Kd.R_reads' HO_9.out).1.symm] <;> rfl) | rfl | (simp only [List.length_drop, List.length_take]; rfl)) ?_; (with_reducible refine (laws_heldInt64S.calls kj29 _ _ t402 1 t403 _ ?side1 ?side2 A44.out).mono ?_); (case side1 => exact tC (Kd.R_reads' HO_9.out).2.2); (case side2 => rw [show t402.length = t389.length from (Kd.R_reads' HO_9.out).1.symm]; exact (Kd.R_reads' HO_9.out).2.1); rintro e w' ⟨rfl, ⟨nd, rfl⟩⟩; refine ⟨_, rfl, ?_⟩))
   go_ret
   exact ⟨tE, tH HB⟩
 replace c28 := Bool.eq_false_iff.mpr c28
 subst c28
 have H1 : (some false) = some r := by rw [if_neg (show ¬ (false = true) by decide)] at H; exact H
 clear H
 have H := H1
 clear H1
 obtain rfl := Option.some.inj H
 go_wp2_with (first | ((with_reducible refine gate_callee (f := 19) rfl ?_); refine gL_ (some 50) rfl rfl Tryd.func19 #[.slice A0 l0.length c0] rfl ?_; (with_reducible refine (laws_toSyllableS.calls kj10 _ _ l0 t394 _ ?side1 ?side2 A26.out).mono ?_); (case side1 => exact tC (Kd.C_below HR0.out HB.out)); (case side2 => exact HC0.out); rintro e w69 ⟨v395, rfl, ho0, hb⟩; refine ⟨_, rfl, ?_⟩; replace HO_6 := Aside0.mk (Kd.R_below (tR HO_6) hb); replace HO_9 := Aside0.mk (Kd.R_below (tR HO_9) hb); have HO396 := Aside0.mk (Kd.R_lower (Kd.R_new' ho0 (Kd.R_lt (tR HO_8))) (below_size (tH HB))); replace HO_8 := Aside0.mk (Kd.R_elder' (tR HO_8) (Kd.R_base ho0) hb); replace HB := Aside0.mk (below_step (tH HB) hb); (try clear hb); (try clear hb2); (try clear hk); (try clear hi); (try clear ho0); obtain ⟨Ao70, co70, eo70⟩ := Kd.R_slice HO396.out; subst eo70) | ((with_reducible refine gate_callee (f := 21) rfl ?_); refine gL_ (some 51) rfl rfl Tryd.func21 #[.slice Ao17 t386.length co17, .slice Ao70 t394.length co70] rfl ?_; (with_reducible refine (laws_eqSyllableS.calls kj10 _ _ t386 _ _ t394 false _ ?side1 ?side2 ?side3 ?side4 A27.out).mono ?_); (case side1 => exact tC (Kd.R_reads' HO_8.out).2.2); (case side2 => exact (Kd.R_reads' HO_8.out).2.1); (case side3 => exact tC (Kd.R_reads' HO396.out).2.2); (case side4 => exact (Kd.R_reads' HO396.out).2.1); rintro e w71 ⟨rfl, hb⟩; refine ⟨_, rfl, ?_⟩; replace HO_6 := Aside0.mk (Kd.R_below (tR HO_6) hb); replace HO_8 := Aside0.mk (Kd.R_below (tR HO_8) hb); replace HO_9 := Aside0.mk (Kd.R_below (tR HO_9) hb); replace HO396 := Aside0.mk (Kd.R_below (tR HO396) hb); replace HB := Aside0.mk (below_step (tH HB) hb); (try clear hb); (try clear hb2); (try clear hk); (try clear hi)))
 go_ret
 exact ⟨tE, tH HB⟩

/-- THE ONE PURE STATEMENT of laws_FnExactReadComposed: yours. -/
def laws_FnExactReadComposed.Pure : Prop := ∀ (l0 : List (S116)) (a1 : ByteArray), (l0.length ≤ maxLen ∧ ∀ y0 ∈ l0, (y0.f0.size ≤ maxLen ∧ (Lit.int .i64 y0.f1).wf = true ∧ (Lit.int .i64 y0.f2).wf = true)) → a1.size ≤ maxLen → ∃ k, laws_FnExactReadComposed.f k l0 a1 = some true
theorem laws_FnExactReadComposed.walk (P : laws_FnExactReadComposed.Pure) (A0 : Option Addr) (c0 : Nat) (l0 : List (S116)) (a1 : ByteArray) (w : World) (hr0 : Kd.C k116 w A0 l0.length l0) (hc0 : l0.length ≤ c0) (hk0 : (l0.length ≤ maxLen ∧ ∀ y0 ∈ l0, (y0.f0.size ≤ maxLen ∧ (Lit.int .i64 y0.f1).wf = true ∧ (Lit.int .i64 y0.f2).wf = true))) (hk1 : a1.size ≤ maxLen) :
 Calls Tryd.prog 6 #[.slice A0 l0.length c0, .string a1] w fun e w' => e = .returned (.bool true) ∧ Below w.heap.size w w' := by
 obtain ⟨k, h⟩ := P l0 a1 hk0 hk1
 refine (laws_FnExactReadComposed.calls k _ _ l0 a1 true w hr0 hc0 h).mono ?_
 rintro e w' ⟨rfl, hd⟩
 exact ⟨rfl, hd⟩

end Go.Proofs.YtmeflmlejcmckaaDoor.PS
