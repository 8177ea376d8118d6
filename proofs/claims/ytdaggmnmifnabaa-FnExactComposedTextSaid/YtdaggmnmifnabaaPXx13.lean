-- WRITTEN BY wip/gprint.py, a program of this session's over the kit's print, with contracts given by hand
import Derived.Test.YtdaggmnmifnabaaPXx0
import Derived.Test.YtdaggmnmifnabaaPXx1
import Derived.Test.YtdaggmnmifnabaaPXx5
import Derived.Test.YtdaggmnmifnabaaPXx10
import Derived.Test.YtdaggmnmifnabaaPXx11
import Derived.Test.YtdaggmnmifnabaaPXx12
namespace Go.Proofs.Ytdaggmnmifnabaa.PX
open Go.RowKit Go.Proofs.YtdaggmnmifnabaaW.PrintWords Go.Proofs.YtdaggmnmifnabaaW.PrintLast Go.Proofs.YtdaggmnmifnabaaW.PrintMore
attribute [local go_sem] max2_int min2_int max_two min_two max_three min_three max_four min_four   -- for this text's walks alone
set_option linter.unusedVariables false
set_option linter.unusedSimpArgs false

/-! ### laws_FnExactComposedText: function 3 -/
def laws_FnExactComposedText.j0 : Nat → List (S35) → List Int → List (S38) → List Int → Bool → Option (Bool)
 | 0, _, _, _, _, _ => none
 | k + 1, x0, x1, x8, x9, x45 => if x45 = true then (some false) else ((laws_toSyllableS.f k x0).bind fun t184 => ((laws_eqSyllableS.f k x8 t184).bind fun t187 => (if t187 = true then ((laws_toInt64S.f k x1).bind fun t188 => ((laws_eqInt64S.f k x9 t188).bind fun t191 => (if t191 = true then (some true) else (some false)))) else (some false))))
def laws_FnExactComposedText.f (k : Nat) (l0 : List (S35)) (l1 : List Int) : Option (Bool) := if (l1.length : Int) > 1048576 then (some true) else ((laws_szSyllableS.f k l0 1048576).bind fun t167 => (if t167 < 0 then (some true) else ((laws_toSyllableS.f k l0).bind fun t168 => ((laws_toInt64S.f k l1).bind fun t171 => ((spec_ComposedText.f k t168 t171).bind fun bt174 => ((laws_toSyllableS.f k l0).bind fun t176 => ((laws_toInt64S.f k l1).bind fun t179 => ((impl_ComposedText.f k t176 t179).bind fun bt182 => (if bt182.1.toList = bt174.1.toList then (laws_FnExactComposedText.j0 k l0 l1 t176 t179 (bt182.2 != bt174.2)) else (laws_FnExactComposedText.j0 k l0 l1 t176 t179 true))))))))))
theorem laws_FnExactComposedText.mono_l : ∀ k, (∀ y0 y1 y2 y3 y4, LeO (laws_FnExactComposedText.j0 k y0 y1 y2 y3 y4) (laws_FnExactComposedText.j0 (k + 1) y0 y1 y2 y3 y4))
 | 0 => fun _ _ _ _ _ r h => by simp [laws_FnExactComposedText.j0] at h
 | k + 1 => by
  have ih0 := laws_FnExactComposedText.mono_l k
  · intro y0 y1 y2 y3 y4
    unfold laws_FnExactComposedText.j0
    repeat' first
    | (with_reducible exact ih0 _ _ _ _ _)
    | (with_reducible exact impl_ComposedText.mono _ _ _)
    | (with_reducible exact laws_eqInt64S.mono _ _ _)
    | (with_reducible exact laws_eqSyllableS.mono _ _ _)
    | (with_reducible exact laws_szSyllableS.mono _ _ _)
    | (with_reducible exact laws_toInt64S.mono _ _)
    | (with_reducible exact laws_toSyllableS.mono _ _)
    | (with_reducible exact spec_ComposedText.mono _ _ _)
    | (with_reducible exact LeO.refl _)
    | (with_reducible exact LeO.none _)
    | (with_reducible refine LeO.ite ?_ ?_)
    | (with_reducible refine LeO.bind ?_ (fun _ => ?_))
    | exact ih0 _ _ _ _ _
    | exact impl_ComposedText.mono _ _ _
    | exact laws_eqInt64S.mono _ _ _
    | exact laws_eqSyllableS.mono _ _ _
    | exact laws_szSyllableS.mono _ _ _
    | exact laws_toInt64S.mono _ _
    | exact laws_toSyllableS.mono _ _
    | exact spec_ComposedText.mono _ _ _
    | exact LeO.none _
    | refine LeO.ite ?_ ?_
    | refine LeO.bind ?_ (fun _ => ?_)
theorem laws_FnExactComposedText.mono : ∀ a0 a1 k, LeO (laws_FnExactComposedText.f k a0 a1) (laws_FnExactComposedText.f (k + 1) a0 a1) := by
 intro a0 a1 k
 have ih0 := laws_FnExactComposedText.mono_l k
 unfold laws_FnExactComposedText.f
 repeat' first
  | (with_reducible exact ih0 _ _ _ _ _)
  | (with_reducible exact impl_ComposedText.mono _ _ _)
  | (with_reducible exact laws_eqInt64S.mono _ _ _)
  | (with_reducible exact laws_eqSyllableS.mono _ _ _)
  | (with_reducible exact laws_szSyllableS.mono _ _ _)
  | (with_reducible exact laws_toInt64S.mono _ _)
  | (with_reducible exact laws_toSyllableS.mono _ _)
  | (with_reducible exact spec_ComposedText.mono _ _ _)
  | (with_reducible exact LeO.refl _)
  | (with_reducible exact LeO.none _)
  | (with_reducible refine LeO.ite ?_ ?_)
  | (with_reducible refine LeO.bind ?_ (fun _ => ?_))
  | exact ih0 _ _ _ _ _
  | exact impl_ComposedText.mono _ _ _
  | exact laws_eqInt64S.mono _ _ _
  | exact laws_eqSyllableS.mono _ _ _
  | exact laws_szSyllableS.mono _ _ _
  | exact laws_toInt64S.mono _ _
  | exact laws_toSyllableS.mono _ _
  | exact spec_ComposedText.mono _ _ _
  | exact LeO.none _
  | refine LeO.ite ?_ ?_
  | refine LeO.bind ?_ (fun _ => ?_)
set_option maxHeartbeats 8000000 in
set_option maxRecDepth 100000 in
theorem laws_FnExactComposedText.calls (k : Nat) (A0 : Option Addr) (c0 : Nat) (l0 : List (S35)) (A1 : Option Addr) (c1 : Nat) (l1 : List Int) (r : Bool) (w : World) (hr0 : Kd.C k35 w A0 l0.length l0) (hc0 : l0.length ≤ c0) (hr1 : Kd.C (Kd.int .i64) w A1 l1.length l1) (hc1 : l1.length ≤ c1) (h : laws_FnExactComposedText.f k l0 l1 = some r) :
 Calls Try.prog 3 #[.slice A0 l0.length c0, .slice A1 l1.length c1] w fun e w' => e = .returned (.bool r) ∧ Below w.heap.size w w' := by
 have HR0 := Aside0.mk hr0
 have HC0 := Aside0.mk hc0
 clear hr0 hc0
 have HR1 := Aside0.mk hr1
 have HC1 := Aside0.mk hc1
 clear hr1 hc1
 have HB := Aside0.mk (Below.refl w.heap.size w)
 have H : (if (l1.length : Int) > 1048576 then (some true) else ((laws_szSyllableS.f k l0 1048576).bind fun t167 => (if t167 < 0 then (some true) else ((laws_toSyllableS.f k l0).bind fun t168 => ((laws_toInt64S.f k l1).bind fun t171 => ((spec_ComposedText.f k t168 t171).bind fun bt174 => ((laws_toSyllableS.f k l0).bind fun t176 => ((laws_toInt64S.f k l1).bind fun t179 => ((impl_ComposedText.f k t176 t179).bind fun bt182 => (if bt182.1.toList = bt174.1.toList then (laws_FnExactComposedText.j0 k l0 l1 t176 t179 (bt182.2 != bt174.2)) else (laws_FnExactComposedText.j0 k l0 l1 t176 t179 true))))))))))) = some r := h
 clear h
 by_cases c3 : (l1.length : Int) > 1048576
 · rw [if_pos c3] at H
   have c3b0 : decide (1048576 < (l1.length : Int)) = true := decide_eq_true c3
   have c3b1 : decide (1048576 < l1.length) = true := decide_eq_true (by omega)
   clear c3
   obtain rfl := Option.some.inj H
   go_enter Try.func3, Try.ntmps3
   go_wp2
   go_ret
   exact ⟨tE, tH HB⟩
 rw [if_neg c3] at H
 have c3b0 : decide (1048576 < (l1.length : Int)) = false := decide_eq_false c3
 have c3b1 : decide (1048576 < l1.length) = false := decide_eq_false (by omega)
 clear c3
 replace H := Option.bind_eq_some_iff.mp H
 obtain ⟨t167, A40, H⟩ := H
 replace H : (if t167 < 0 then (some true) else ((laws_toSyllableS.f k l0).bind fun t168 => ((laws_toInt64S.f k l1).bind fun t171 => ((spec_ComposedText.f k t168 t171).bind fun bt174 => ((laws_toSyllableS.f k l0).bind fun t176 => ((laws_toInt64S.f k l1).bind fun t179 => ((impl_ComposedText.f k t176 t179).bind fun bt182 => (if bt182.1.toList = bt174.1.toList then (laws_FnExactComposedText.j0 k l0 l1 t176 t179 (bt182.2 != bt174.2)) else (laws_FnExactComposedText.j0 k l0 l1 t176 t179 true))))))))) = some r := H
 have A4 := Aside0.mk A40
 clear A40
 by_cases c5 : t167 < 0
 · rw [if_pos c5] at H
   have c5b0 : decide (t167 < 0) = true := decide_eq_true c5
   clear c5
   obtain rfl := Option.some.inj H
   go_enter Try.func3, Try.ntmps3
   go_wp2_with (first | ((with_reducible refine gate_callee (f := 4) rfl ?_); refine gL_ (some 17) rfl rfl Try.func4 #[.slice A0 l0.length c0, .int .i64 1048576] rfl ?_; (with_reducible refine (laws_szSyllableS.calls k _ _ l0 1048576 t167 _ ?side1 ?side2 A4.out).mono ?_); (case side1 => exact tC HR0.out); (case side2 => exact HC0.out); rintro e w6 ⟨rfl, hb⟩; refine ⟨_, rfl, ?_⟩; replace HB := Aside0.mk (below_step (tH HB) hb); (try clear hb); (try clear hb2); (try clear hk); (try clear hi)))
   go_ret
   exact ⟨tE, tH HB⟩
 rw [if_neg c5] at H
 have c5b0 : decide (t167 < 0) = false := decide_eq_false c5
 clear c5
 replace H := Option.bind_eq_some_iff.mp H
 obtain ⟨t168, A70, H⟩ := H
 replace H : ((laws_toInt64S.f k l1).bind fun t171 => ((spec_ComposedText.f k t168 t171).bind fun bt174 => ((laws_toSyllableS.f k l0).bind fun t176 => ((laws_toInt64S.f k l1).bind fun t179 => ((impl_ComposedText.f k t176 t179).bind fun bt182 => (if bt182.1.toList = bt174.1.toList then (laws_FnExactComposedText.j0 k l0 l1 t176 t179 (bt182.2 != bt174.2)) else (laws_FnExactComposedText.j0 k l0 l1 t176 t179 true))))))) = some r := H
 have A7 := Aside0.mk A70
 clear A70
 replace H := Option.bind_eq_some_iff.mp H
 obtain ⟨t171, A80, H⟩ := H
 replace H : ((spec_ComposedText.f k t168 t171).bind fun bt174 => ((laws_toSyllableS.f k l0).bind fun t176 => ((laws_toInt64S.f k l1).bind fun t179 => ((impl_ComposedText.f k t176 t179).bind fun bt182 => (if bt182.1.toList = bt174.1.toList then (laws_FnExactComposedText.j0 k l0 l1 t176 t179 (bt182.2 != bt174.2)) else (laws_FnExactComposedText.j0 k l0 l1 t176 t179 true)))))) = some r := H
 have A8 := Aside0.mk A80
 clear A80
 replace H := Option.bind_eq_some_iff.mp H
 obtain ⟨⟨t174, t175⟩, A90, H⟩ := H
 replace H : ((laws_toSyllableS.f k l0).bind fun t176 => ((laws_toInt64S.f k l1).bind fun t179 => ((impl_ComposedText.f k t176 t179).bind fun bt182 => (if bt182.1.toList = t174.toList then (laws_FnExactComposedText.j0 k l0 l1 t176 t179 (bt182.2 != t175)) else (laws_FnExactComposedText.j0 k l0 l1 t176 t179 true))))) = some r := H
 have A9 := Aside0.mk A90
 clear A90
 replace H := Option.bind_eq_some_iff.mp H
 obtain ⟨t176, A100, H⟩ := H
 replace H : ((laws_toInt64S.f k l1).bind fun t179 => ((impl_ComposedText.f k t176 t179).bind fun bt182 => (if bt182.1.toList = t174.toList then (laws_FnExactComposedText.j0 k l0 l1 t176 t179 (bt182.2 != t175)) else (laws_FnExactComposedText.j0 k l0 l1 t176 t179 true)))) = some r := H
 have A10 := Aside0.mk A100
 clear A100
 replace H := Option.bind_eq_some_iff.mp H
 obtain ⟨t179, A110, H⟩ := H
 replace H : ((impl_ComposedText.f k t176 t179).bind fun bt182 => (if bt182.1.toList = t174.toList then (laws_FnExactComposedText.j0 k l0 l1 t176 t179 (bt182.2 != t175)) else (laws_FnExactComposedText.j0 k l0 l1 t176 t179 true))) = some r := H
 have A11 := Aside0.mk A110
 clear A110
 replace H := Option.bind_eq_some_iff.mp H
 obtain ⟨⟨t182, t183⟩, A120, H⟩ := H
 replace H : (if t182.toList = t174.toList then (laws_FnExactComposedText.j0 k l0 l1 t176 t179 (t183 != t175)) else (laws_FnExactComposedText.j0 k l0 l1 t176 t179 true)) = some r := H
 have A12 := Aside0.mk A120
 clear A120
 have HC13 := Aside0.mk H
 clear H
 go_enter Try.func3, Try.ntmps3
 go_upto_region 11 with (first | ((with_reducible refine gate_callee (f := 4) rfl ?_); refine gL_ (some 17) rfl rfl Try.func4 #[.slice A0 l0.length c0, .int .i64 1048576] rfl ?_; (with_reducible refine (laws_szSyllableS.calls k _ _ l0 1048576 t167 _ ?side1 ?side2 A4.out).mono ?_); (case side1 => exact tC HR0.out); (case side2 => exact HC0.out); rintro e w14 ⟨rfl, hb⟩; refine ⟨_, rfl, ?_⟩; replace HB := Aside0.mk (below_step (tH HB) hb); (try clear hb); (try clear hb2); (try clear hk); (try clear hi)) | ((with_reducible refine gate_callee (f := 6) rfl ?_); refine gL_ (some 22) rfl rfl Try.func6 #[.slice A0 l0.length c0] rfl ?_; (with_reducible refine (laws_toSyllableS.calls k _ _ l0 t168 _ ?side1 ?side2 A7.out).mono ?_); (case side1 => exact tC (Kd.C_below HR0.out HB.out)); (case side2 => exact HC0.out); rintro e w15 ⟨v169, rfl, ho0, hb⟩; refine ⟨_, rfl, ?_⟩; have HO170 := Aside0.mk (Kd.R_lower ho0 (below_size (tH HB))); replace HB := Aside0.mk (below_step (tH HB) hb); (try clear hb); (try clear hb2); (try clear hk); (try clear hi); (try clear ho0)) | ((with_reducible refine gate_callee (f := 7) rfl ?_); refine gL_ (some 24) rfl rfl Try.func7 #[.slice A1 l1.length c1] rfl ?_; (with_reducible refine (laws_toInt64S.calls k _ _ l1 t171 _ ?side1 ?side2 A8.out).mono ?_); (case side1 => exact tC (Kd.C_below HR1.out HB.out)); (case side2 => exact HC1.out); rintro e w16 ⟨v172, rfl, ho0, hb⟩; refine ⟨_, rfl, ?_⟩; replace HO170 := Aside0.mk (Kd.R_below (tR HO170) hb); have HO173 := Aside0.mk (Kd.R_lower ho0 (below_size (tH HB))); replace HB := Aside0.mk (below_step (tH HB) hb); (try clear hb); (try clear hb2); (try clear hk); (try clear hi); (try clear ho0); obtain ⟨Ao17, co17, eo17⟩ := Kd.R_slice HO170.out; subst eo17; obtain ⟨Ao18, co18, eo18⟩ := Kd.R_slice HO173.out; subst eo18) | ((with_reducible refine gate_callee (f := 5) rfl ?_); refine gL_ (some 25) rfl rfl Try.func5 #[.slice Ao17 t168.length co17, .slice Ao18 t171.length co18] rfl ?_; (with_reducible refine (spec_ComposedText.calls k _ _ t168 _ _ t171 t174 t175 _ ?side1 ?side2 ?side3 ?side4 A9.out).mono ?_); (case side1 => exact tC (Kd.R_reads' HO170.out).2.2); (case side2 => exact (Kd.R_reads' HO170.out).2.1); (case side3 => exact tC (Kd.R_reads' HO173.out).2.2); (case side4 => exact (Kd.R_reads' HO173.out).2.1); rintro e w' ⟨rfl, ⟨nd, rfl⟩⟩; refine ⟨_, rfl, ?_⟩) | ((with_reducible refine gate_callee (f := 6) rfl ?_); refine gL_ (some 29) rfl rfl Try.func6 #[.slice A0 l0.length c0] rfl ?_; (with_reducible refine (laws_toSyllableS.calls k _ _ l0 t176 _ ?side1 ?side2 A10.out).mono ?_); (case side1 => exact Kd.C_below HR0.out (tH HB)); (case side2 => exact HC0.out); rintro e w19 ⟨v177, rfl, ho0, hb⟩; refine ⟨_, rfl, ?_⟩; replace HO173 := Aside0.mk (Kd.R_below (tR HO173) hb); have HO178 := Aside0.mk (Kd.R_lower (Kd.R_new' ho0 (Kd.R_lt (tR HO170))) (below_size (tH HB))); replace HO170 := Aside0.mk (Kd.R_elder' (tR HO170) (Kd.R_base ho0) hb); replace HB := Aside0.mk (below_step (tH HB) hb); (try clear hb); (try clear hb2); (try clear hk); (try clear hi); (try clear ho0)) | ((with_reducible refine gate_callee (f := 7) rfl ?_); refine gL_ (some 31) rfl rfl Try.func7 #[.slice A1 l1.length c1] rfl ?_; (with_reducible refine (laws_toInt64S.calls k _ _ l1 t179 _ ?side1 ?side2 A11.out).mono ?_); (case side1 => exact tC (Kd.C_below HR1.out HB.out)); (case side2 => exact HC1.out); rintro e w20 ⟨v180, rfl, ho0, hb⟩; refine ⟨_, rfl, ?_⟩; replace HO170 := Aside0.mk (Kd.R_below (tR HO170) hb); replace HO178 := Aside0.mk (Kd.R_below (tR HO178) hb); have HO181 := Aside0.mk (Kd.R_lower (Kd.R_new' ho0 (Kd.R_lt (tR HO173))) (below_size (tH HB))); replace HO173 := Aside0.mk (Kd.R_elder' (tR HO173) (Kd.R_base ho0) hb); replace HB := Aside0.mk (below_step (tH HB) hb); (try clear hb); (try clear hb2); (try clear hk); (try clear hi); (try clear ho0); obtain ⟨Ao21, co21, eo21⟩ := Kd.R_slice HO178.out; subst eo21; obtain ⟨Ao22, co22, eo22⟩ := Kd.R_slice HO181.out; subst eo22) | ((with_reducible refine gate_callee (f := 8) rfl ?_); refine gL_ (some 35) rfl rfl Try.func8 #[.slice Ao21 t176.length co21, .slice Ao22 t179.length co22] rfl ?_; (with_reducible refine (impl_ComposedText.calls k _ _ t176 _ _ t179 t182 t183 _ ?side1 ?side2 ?side3 ?side4 A12.out).mono ?_); (case side1 => exact tC (Kd.R_reads' HO178.out).2.2); (case side2 => exact (Kd.R_reads' HO178.out).2.1); (case side3 => exact tC (Kd.R_reads' HO181.out).2.2); (case side4 => exact (Kd.R_reads' HO181.out).2.1); rintro e w23 ⟨rfl, hb⟩; refine ⟨_, rfl, ?_⟩; replace HO170 := Aside0.mk (Kd.R_below (tR HO170) hb); replace HO173 := Aside0.mk (Kd.R_below (tR HO173) hb); replace HO178 := Aside0.mk (Kd.R_below (tR HO178) hb); replace HO181 := Aside0.mk (Kd.R_below (tR HO181) hb); replace HB := Aside0.mk (below_step (tH HB) hb); (try clear hb); (try clear hb2); (try clear hk); (try clear hi)))
 (try simp only [Act.put, sx0, sx1, sx2])
 go_cut [45] (fun v45 wc => ∃ (kq : Nat) (x45_12 : Bool), v45 = .bool x45_12 ∧ Aside0 (laws_FnExactComposedText.j0 kq l0 l1 t176 t179 x45_12 = some r) ∧ Aside0 (kq ≤ k) ∧ Aside0 (Kd.R k38 38 wc w.heap.size (fun _ => True) (.slice Ao21 t176.length co21) t176) ∧ Aside0 (Kd.R (Kd.int .i64) 2 wc w.heap.size (fun _ => True) (.slice Ao22 t179.length co22) t179) ∧ Aside0 (Below w.heap.size w wc))
 case first =>
  have H := HC13.out
  clear HC13
  by_cases c24 : t182.toList = t174.toList
  · rw [if_pos c24] at H
    have c24b0 : (t182.toList == t174.toList) = true := beq_iff_eq.mpr c24
    have c24b1 : (t182.toList != t174.toList) = false := bne_eq_false_iff_eq.mpr c24
    clear c24
    (first | rw [c24b0] | (simp only [i64_w, i32_w]; rw [c24b0]) | skip)
    have H' := Aside0.mk H
    clear H
    go_wp2
    go_meet
    case rel => exact ⟨_, ((t183 != t175)), tq, H', ⟨by first | omega | exact Nat.le_refl _⟩, ⟨by (with_reducible repeat (first | apply qra | apply qrn | apply qrd)); exact Kd.R_mono HO178.out (fun _ hk => trivial)⟩, ⟨by (with_reducible repeat (first | apply qra | apply qrn | apply qrd)); exact Kd.R_mono HO181.out (fun _ hk => trivial)⟩, ⟨tH HB⟩⟩
  rw [if_neg c24] at H
  have c24b0 : (t182.toList == t174.toList) = false := beq_eq_false_iff_ne.mpr c24
  have c24b1 : (t182.toList != t174.toList) = true := bne_iff_ne.mpr c24
  (first | rw [c24b0] | (simp only [i64_w, i32_w]; rw [c24b0]) | skip)
  have H' := Aside0.mk H
  clear H
  go_wp2
  go_meet
  case rel => exact ⟨_, (true), tq, H', ⟨by first | omega | exact Nat.le_refl _⟩, ⟨by (with_reducible repeat (first | apply qra | apply qrn | apply qrd)); exact Kd.R_mono HO178.out (fun _ hk => trivial)⟩, ⟨by (with_reducible repeat (first | apply qra | apply qrn | apply qrd)); exact Kd.R_mono HO181.out (fun _ hk => trivial)⟩, ⟨tH HB⟩⟩
 case rest =>
 clear HC13
 try clear c1
 try clear c2
 try clear p2
 try clear c3
 try clear c3b0
 try clear c3b1
 try clear c4
 try clear c5
 try clear c5b0
 try clear c6
 try clear c7
 try clear c8
 try clear c24
 try clear c24b0
 try clear c24b1
 obtain ⟨kq, x45_12, rfl, HA, HJ12, HO_8, HO_9, HB⟩ := hcut
 cases kq with
 | zero => exact absurd HA.out (by simp [laws_FnExactComposedText.j0])
 | succ kj12 =>
 have H := HA.out
 clear HA
 simp only [laws_FnExactComposedText.j0] at H
 by_cases c25 : x45_12 = true
 · subst c25
   have H1 : (some false) = some r := by rw [if_pos rfl] at H; exact H
   clear H
   have H := H1
   clear H1
   obtain rfl := Option.some.inj H
   go_wp2
   go_ret
   exact ⟨tE, tH HB⟩
 replace c25 := Bool.eq_false_iff.mpr c25
 subst c25
 have H1 : ((laws_toSyllableS.f kj12 l0).bind fun t184 => ((laws_eqSyllableS.f kj12 t176 t184).bind fun t187 => (if t187 = true then ((laws_toInt64S.f kj12 l1).bind fun t188 => ((laws_eqInt64S.f kj12 t179 t188).bind fun t191 => (if t191 = true then (some true) else (some false)))) else (some false)))) = some r := by rw [if_neg (show ¬ (false = true) by decide)] at H; exact H
 clear H
 have H := H1
 clear H1
 replace H := Option.bind_eq_some_iff.mp H
 obtain ⟨t184, A260, H⟩ := H
 replace H : ((laws_eqSyllableS.f kj12 t176 t184).bind fun t187 => (if t187 = true then ((laws_toInt64S.f kj12 l1).bind fun t188 => ((laws_eqInt64S.f kj12 t179 t188).bind fun t191 => (if t191 = true then (some true) else (some false)))) else (some false))) = some r := H
 have A26 := Aside0.mk A260
 clear A260
 replace H := Option.bind_eq_some_iff.mp H
 obtain ⟨t187, A270, H⟩ := H
 replace H : (if t187 = true then ((laws_toInt64S.f kj12 l1).bind fun t188 => ((laws_eqInt64S.f kj12 t179 t188).bind fun t191 => (if t191 = true then (some true) else (some false)))) else (some false)) = some r := H
 have A27 := Aside0.mk A270
 clear A270
 by_cases c28 : t187 = true
 · subst c28
   have H1 : ((laws_toInt64S.f kj12 l1).bind fun t188 => ((laws_eqInt64S.f kj12 t179 t188).bind fun t191 => (if t191 = true then (some true) else (some false)))) = some r := by rw [if_pos rfl] at H; exact H
   clear H
   have H := H1
   clear H1
   replace H := Option.bind_eq_some_iff.mp H
   obtain ⟨t188, A290, H⟩ := H
   replace H : ((laws_eqInt64S.f kj12 t179 t188).bind fun t191 => (if t191 = true then (some true) else (some false))) = some r := H
   have A29 := Aside0.mk A290
   clear A290
   replace H := Option.bind_eq_some_iff.mp H
   obtain ⟨t191, A300, H⟩ := H
   replace H : (if t191 = true then (some true) else (some false)) = some r := H
   have A30 := Aside0.mk A300
   clear A300
   by_cases c31 : t191 = true
   · subst c31
     have H1 : (some true) = some r := by rw [if_pos rfl] at H; exact H
     clear H
     have H := H1
     clear H1
     obtain rfl := Option.some.inj H
     go_wp2_with (first | ((with_reducible refine gate_callee (f := 6) rfl ?_); refine gL_ (some 48) rfl rfl Try.func6 #[.slice A0 l0.length c0] rfl ?_; (with_reducible refine (laws_toSyllableS.calls kj12 _ _ l0 t184 _ ?side1 ?side2 A26.out).mono ?_); (case side1 => exact tC (Kd.C_below HR0.out HB.out)); (case side2 => exact HC0.out); rintro e w32 ⟨v185, rfl, ho0, hb⟩; refine ⟨_, rfl, ?_⟩; replace HO_9 := Aside0.mk (Kd.R_below (tR HO_9) hb); have HO186 := Aside0.mk (Kd.R_lower (Kd.R_new' ho0 (Kd.R_lt (tR HO_8))) (below_size (tH HB))); replace HO_8 := Aside0.mk (Kd.R_elder' (tR HO_8) (Kd.R_base ho0) hb); replace HB := Aside0.mk (below_step (tH HB) hb); (try clear hb); (try clear hb2); (try clear hk); (try clear hi); (try clear ho0); obtain ⟨Ao33, co33, eo33⟩ := Kd.R_slice HO186.out; subst eo33) | ((with_reducible refine gate_callee (f := 9) rfl ?_); refine gL_ (some 49) rfl rfl Try.func9 #[.slice Ao21 t176.length co21, .slice Ao33 t184.length co33] rfl ?_; (with_reducible refine (laws_eqSyllableS.calls kj12 _ _ t176 _ _ t184 true _ ?side1 ?side2 ?side3 ?side4 A27.out).mono ?_); (case side1 => exact tC (Kd.R_reads' HO_8.out).2.2); (case side2 => exact (Kd.R_reads' HO_8.out).2.1); (case side3 => exact tC (Kd.R_reads' HO186.out).2.2); (case side4 => exact (Kd.R_reads' HO186.out).2.1); rintro e w34 ⟨rfl, hb⟩; refine ⟨_, rfl, ?_⟩; replace HO_8 := Aside0.mk (Kd.R_below (tR HO_8) hb); replace HO_9 := Aside0.mk (Kd.R_below (tR HO_9) hb); replace HO186 := Aside0.mk (Kd.R_below (tR HO186) hb); replace HB := Aside0.mk (below_step (tH HB) hb); (try clear hb); (try clear hb2); (try clear hk); (try clear hi)) | ((with_reducible refine gate_callee (f := 7) rfl ?_); refine gL_ (some 53) rfl rfl Try.func7 #[.slice A1 l1.length c1] rfl ?_; (with_reducible refine (laws_toInt64S.calls kj12 _ _ l1 t188 _ ?side1 ?side2 A29.out).mono ?_); (case side1 => exact tC (Kd.C_below HR1.out HB.out)); (case side2 => exact HC1.out); rintro e w35 ⟨v189, rfl, ho0, hb⟩; refine ⟨_, rfl, ?_⟩; replace HO_8 := Aside0.mk (Kd.R_below (tR HO_8) hb); replace HO186 := Aside0.mk (Kd.R_below (tR HO186) hb); have HO190 := Aside0.mk (Kd.R_lower (Kd.R_new' ho0 (Kd.R_lt (tR HO_9))) (below_size (tH HB))); replace HO_9 := Aside0.mk (Kd.R_elder' (tR HO_9) (Kd.R_base ho0) hb); replace HB := Aside0.mk (below_step (tH HB) hb); (try clear hb); (try clear hb2); (try clear hk); (try clear hi); (try clear ho0); obtain ⟨Ao36, co36, eo36⟩ := Kd.R_slice HO190.out; subst eo36) | ((with_reducible refine gate_callee (f := 10) rfl ?_); refine gL_ (some 54) rfl rfl Try.func10 #[.slice Ao22 t179.length co22, .slice Ao36 t188.length co36] rfl ?_; (with_reducible refine (laws_eqInt64S.calls kj12 _ _ t179 _ _ t188 true _ ?side1 ?side2 ?side3 ?side4 A30.out).mono ?_); (case side1 => exact tC (Kd.R_reads' HO_9.out).2.2); (case side2 => exact (Kd.R_reads' HO_9.out).2.1); (case side3 => exact tC (Kd.R_reads' HO190.out).2.2); (case side4 => exact (Kd.R_reads' HO190.out).2.1); rintro e w' ⟨rfl, ⟨nd, rfl⟩⟩; refine ⟨_, rfl, ?_⟩))
     go_ret
     exact ⟨tE, tH HB⟩
   replace c31 := Bool.eq_false_iff.mpr c31
   subst c31
   have H1 : (some false) = some r := by rw [if_neg (show ¬ (false = true) by decide)] at H; exact H
   clear H
   have H := H1
   clear H1
   obtain rfl := Option.some.inj H
   go_wp2_with (first | ((with_reducible refine gate_callee (f := 6) rfl ?_); refine gL_ (some 48) rfl rfl Try.func6 #[.slice A0 l0.length c0] rfl ?_; (with_reducible refine (laws_toSyllableS.calls kj12 _ _ l0 t184 _ ?side1 ?side2 A26.out).mono ?_); (case side1 => exact tC (Kd.C_below HR0.out HB.out)); (case side2 => exact HC0.out); rintro e w37 ⟨v185, rfl, ho0, hb⟩; refine ⟨_, rfl, ?_⟩; replace HO_9 := Aside0.mk (Kd.R_below (tR HO_9) hb); have HO186 := Aside0.mk (Kd.R_lower (Kd.R_new' ho0 (Kd.R_lt (tR HO_8))) (below_size (tH HB))); replace HO_8 := Aside0.mk (Kd.R_elder' (tR HO_8) (Kd.R_base ho0) hb); replace HB := Aside0.mk (below_step (tH HB) hb); (try clear hb); (try clear hb2); (try clear hk); (try clear hi); (try clear ho0); obtain ⟨Ao38, co38, eo38⟩ := Kd.R_slice HO186.out; subst eo38) | ((with_reducible refine gate_callee (f := 9) rfl ?_); refine gL_ (some 49) rfl rfl Try.func9 #[.slice Ao21 t176.length co21, .slice Ao38 t184.length co38] rfl ?_; (with_reducible refine (laws_eqSyllableS.calls kj12 _ _ t176 _ _ t184 true _ ?side1 ?side2 ?side3 ?side4 A27.out).mono ?_); (case side1 => exact tC (Kd.R_reads' HO_8.out).2.2); (case side2 => exact (Kd.R_reads' HO_8.out).2.1); (case side3 => exact tC (Kd.R_reads' HO186.out).2.2); (case side4 => exact (Kd.R_reads' HO186.out).2.1); rintro e w39 ⟨rfl, hb⟩; refine ⟨_, rfl, ?_⟩; replace HO_8 := Aside0.mk (Kd.R_below (tR HO_8) hb); replace HO_9 := Aside0.mk (Kd.R_below (tR HO_9) hb); replace HO186 := Aside0.mk (Kd.R_below (tR HO186) hb); replace HB := Aside0.mk (below_step (tH HB) hb); (try clear hb); (try clear hb2); (try clear hk); (try clear hi)) | ((with_reducible refine gate_callee (f := 7) rfl ?_); refine gL_ (some 53) rfl rfl Try.func7 #[.slice A1 l1.length c1] rfl ?_; (with_reducible refine (laws_toInt64S.calls kj12 _ _ l1 t188 _ ?side1 ?side2 A29.out).mono ?_); (case side1 => exact tC (Kd.C_below HR1.out HB.out)); (case side2 => exact HC1.out); rintro e w40 ⟨v189, rfl, ho0, hb⟩; refine ⟨_, rfl, ?_⟩; replace HO_8 := Aside0.mk (Kd.R_below (tR HO_8) hb); replace HO186 := Aside0.mk (Kd.R_below (tR HO186) hb); have HO190 := Aside0.mk (Kd.R_lower (Kd.R_new' ho0 (Kd.R_lt (tR HO_9))) (below_size (tH HB))); replace HO_9 := Aside0.mk (Kd.R_elder' (tR HO_9) (Kd.R_base ho0) hb); replace HB := Aside0.mk (below_step (tH HB) hb); (try clear hb); (try clear hb2); (try clear hk); (try clear hi); (try clear ho0); obtain ⟨Ao41, co41, eo41⟩ := Kd.R_slice HO190.out; subst eo41) | ((with_reducible refine gate_callee (f := 10) rfl ?_); refine gL_ (some 54) rfl rfl Try.func10 #[.slice Ao22 t179.length co22, .slice Ao41 t188.length co41] rfl ?_; (with_reducible refine (laws_eqInt64S.calls kj12 _ _ t179 _ _ t188 false _ ?side1 ?side2 ?side3 ?side4 A30.out).mono ?_); (case side1 => exact tC (Kd.R_reads' HO_9.out).2.2); (case side2 => exact (Kd.R_reads' HO_9.out).2.1); (case side3 => exact tC (Kd.R_reads' HO190.out).2.2); (case side4 => exact (Kd.R_reads' HO190.out).2.1); rintro e w' ⟨rfl, ⟨nd, rfl⟩⟩; refine ⟨_, rfl, ?_⟩))
   go_ret
   exact ⟨tE, tH HB⟩
 replace c28 := Bool.eq_false_iff.mpr c28
 subst c28
 have H1 : (some false) = some r := by rw [if_neg (show ¬ (false = true) by decide)] at H; exact H
 clear H
 have H := H1
 clear H1
 obtain rfl := Option.some.inj H
 go_wp2_with (first | ((with_reducible refine gate_callee (f := 6) rfl ?_); refine gL_ (some 48) rfl rfl Try.func6 #[.slice A0 l0.length c0] rfl ?_; (with_reducible refine (laws_toSyllableS.calls kj12 _ _ l0 t184 _ ?side1 ?side2 A26.out).mono ?_); (case side1 => exact tC (Kd.C_below HR0.out HB.out)); (case side2 => exact HC0.out); rintro e w42 ⟨v185, rfl, ho0, hb⟩; refine ⟨_, rfl, ?_⟩; replace HO_9 := Aside0.mk (Kd.R_below (tR HO_9) hb); have HO186 := Aside0.mk (Kd.R_lower (Kd.R_new' ho0 (Kd.R_lt (tR HO_8))) (below_size (tH HB))); replace HO_8 := Aside0.mk (Kd.R_elder' (tR HO_8) (Kd.R_base ho0) hb); replace HB := Aside0.mk (below_step (tH HB) hb); (try clear hb); (try clear hb2); (try clear hk); (try clear hi); (try clear ho0); obtain ⟨Ao43, co43, eo43⟩ := Kd.R_slice HO186.out; subst eo43) | ((with_reducible refine gate_callee (f := 9) rfl ?_); refine gL_ (some 49) rfl rfl Try.func9 #[.slice Ao21 t176.length co21, .slice Ao43 t184.length co43] rfl ?_; (with_reducible refine (laws_eqSyllableS.calls kj12 _ _ t176 _ _ t184 false _ ?side1 ?side2 ?side3 ?side4 A27.out).mono ?_); (case side1 => exact tC (Kd.R_reads' HO_8.out).2.2); (case side2 => exact (Kd.R_reads' HO_8.out).2.1); (case side3 => exact tC (Kd.R_reads' HO186.out).2.2); (case side4 => exact (Kd.R_reads' HO186.out).2.1); rintro e w44 ⟨rfl, hb⟩; refine ⟨_, rfl, ?_⟩; replace HO_8 := Aside0.mk (Kd.R_below (tR HO_8) hb); replace HO_9 := Aside0.mk (Kd.R_below (tR HO_9) hb); replace HO186 := Aside0.mk (Kd.R_below (tR HO186) hb); replace HB := Aside0.mk (below_step (tH HB) hb); (try clear hb); (try clear hb2); (try clear hk); (try clear hi)))
 go_ret
 exact ⟨tE, tH HB⟩

/-- THE ONE PURE STATEMENT of laws_FnExactComposedText: yours. -/
def laws_FnExactComposedText.Pure : Prop := ∀ (l0 : List (S35)) (l1 : List Int), (l0.length ≤ maxLen ∧ ∀ y0 ∈ l0, (y0.f0.size ≤ maxLen ∧ (Lit.int .i64 y0.f1).wf = true ∧ (Lit.int .i64 y0.f2).wf = true)) → (l1.length ≤ maxLen ∧ ∀ y0 ∈ l1, (Lit.int .i64 y0).wf = true) → ∃ k, laws_FnExactComposedText.f k l0 l1 = some true
theorem laws_FnExactComposedText.walk (P : laws_FnExactComposedText.Pure) (A0 : Option Addr) (c0 : Nat) (l0 : List (S35)) (A1 : Option Addr) (c1 : Nat) (l1 : List Int) (w : World) (hr0 : Kd.C k35 w A0 l0.length l0) (hc0 : l0.length ≤ c0) (hr1 : Kd.C (Kd.int .i64) w A1 l1.length l1) (hc1 : l1.length ≤ c1) (hk0 : (l0.length ≤ maxLen ∧ ∀ y0 ∈ l0, (y0.f0.size ≤ maxLen ∧ (Lit.int .i64 y0.f1).wf = true ∧ (Lit.int .i64 y0.f2).wf = true))) (hk1 : (l1.length ≤ maxLen ∧ ∀ y0 ∈ l1, (Lit.int .i64 y0).wf = true)) :
 Calls Try.prog 3 #[.slice A0 l0.length c0, .slice A1 l1.length c1] w fun e w' => e = .returned (.bool true) ∧ Below w.heap.size w w' := by
 obtain ⟨k, h⟩ := P l0 l1 hk0 hk1
 refine (laws_FnExactComposedText.calls k _ _ l0 _ _ l1 true w hr0 hc0 hr1 hc1 h).mono ?_
 rintro e w' ⟨rfl, hd⟩
 exact ⟨rfl, hd⟩

end Go.Proofs.Ytdaggmnmifnabaa.PX
