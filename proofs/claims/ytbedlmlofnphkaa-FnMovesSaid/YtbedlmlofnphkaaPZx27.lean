-- WRITTEN BY wip/gprint.py, a program of this session's over the kit's print, with contracts given by hand
import Derived.Test.YtbedlmlofnphkaaPZx0
import Derived.Test.YtbedlmlofnphkaaPZx8
import Derived.Test.YtbedlmlofnphkaaPZx13
import Derived.Test.YtbedlmlofnphkaaPZx14
import Derived.Test.YtbedlmlofnphkaaPZx26
namespace Go.Proofs.Ytbedlmlofnphkaa.PZ
open Go.RowKit Go.Proofs.YtbedlmlofnphkaaW.PrintWords Go.Proofs.YtbedlmlofnphkaaW.PrintLast Go.Proofs.YtbedlmlofnphkaaW.PrintMore
attribute [local go_sem] max2_int min2_int max_two min_two max_three min_three max_four min_four   -- for this text's walks alone
set_option linter.unusedVariables false
set_option linter.unusedSimpArgs false

/-! ### spec_ToneOf: function 87 -/
def spec_ToneOf.f (a0 : Int) : Option (Int) := (spec_l03Tone.f a0).bind fun t456 => (some t456)
set_option maxHeartbeats 8000000 in
set_option maxRecDepth 100000 in
theorem spec_ToneOf.calls (a0 : Int) (r : Int) (w : World) (h : spec_ToneOf.f a0 = some r) :
 Calls Try.prog 87 #[.int .i64 a0] w fun e w' => e = .returned (.int .i64 r) ∧ Drawn0 w w' := by
 have H : ((spec_l03Tone.f a0).bind fun t456 => (some t456)) = some r := h
 clear h
 replace H := Option.bind_eq_some_iff.mp H
 obtain ⟨t456, A20, H⟩ := H
 replace H : (some t456) = some r := H
 have A2 := Aside0.mk A20
 clear A20
 obtain rfl := Option.some.inj H
 go_enter Try.func87, Try.ntmps87
 go_wp2_with (first | ((with_reducible refine gate_callee (f := 193) rfl ?_); refine gL_ (some 4) rfl rfl Try.func193 #[.int .i64 a0] rfl ?_; (with_reducible refine (spec_l03Tone.calls a0 t456 _ A2.out).mono ?_); rintro e w' ⟨rfl, ⟨nd, rfl⟩⟩; refine ⟨_, rfl, ?_⟩))
 go_ret
 exact ⟨by first | rfl | (simp; done) | (simp [*]; done), tZ⟩

/-! ### spec_IsAllowed: function 88 -/
def spec_IsAllowed.f (k : Nat) (a0_0 : ByteArray) (l0_1 : List Int) (l0_2 : List Int) (a0_3 : Int) (a0_4 : Int) (l0_5 : List (List Int)) (a1 : Int) (a2 : Int) : Option (Bool) := (spec_l05Ok.f k [(⟨a0_0, l0_1, l0_2, a0_3, a0_4, l0_5⟩ : S27)]).bind fun t458 => (if t458 = true then ((spec_l03Pitch.f a1).bind fun t459 => (if t459 = true then ((spec_l03Pitch.f a2).bind fun t460 => (if t460 = true then ((spec_l05Reason.f k [(⟨a0_0, l0_1, l0_2, a0_3, a0_4, l0_5⟩ : S27)] a1 a2).bind fun t461 => (some (t461 == 0))) else (some false))) else (some false))) else (some false))
theorem spec_IsAllowed.mono : ∀ a0 a1 a2 a3 a4 a5 a6 a7 k, LeO (spec_IsAllowed.f k a0 a1 a2 a3 a4 a5 a6 a7) (spec_IsAllowed.f (k + 1) a0 a1 a2 a3 a4 a5 a6 a7) := by
 intro a0 a1 a2 a3 a4 a5 a6 a7 k
 unfold spec_IsAllowed.f
 repeat' first
  | (with_reducible exact spec_l05Ok.mono _ _)
  | (with_reducible exact spec_l05Reason.mono _ _ _ _)
  | (with_reducible exact LeO.refl _)
  | (with_reducible exact LeO.none _)
  | (with_reducible refine LeO.ite ?_ ?_)
  | (with_reducible refine LeO.bind ?_ (fun _ => ?_))
  | exact spec_l05Ok.mono _ _
  | exact spec_l05Reason.mono _ _ _ _
  | exact LeO.none _
  | refine LeO.ite ?_ ?_
  | refine LeO.bind ?_ (fun _ => ?_)
set_option maxHeartbeats 8000000 in
set_option maxRecDepth 100000 in
theorem spec_IsAllowed.calls (k : Nat) (a0_0 : ByteArray) (A0_1 : Option Addr) (c0_1 : Nat) (l0_1 : List Int) (A0_2 : Option Addr) (c0_2 : Nat) (l0_2 : List Int) (a0_3 : Int) (a0_4 : Int) (A0_5 : Option Addr) (c0_5 : Nat) (l0_5 : List (List Int)) (a1 : Int) (a2 : Int) (r : Bool) (w : World) (hr0_1 : Kd.C (Kd.int .i64) w A0_1 l0_1.length l0_1) (hc0_1 : l0_1.length ≤ c0_1) (hr0_2 : Kd.C (Kd.int .i64) w A0_2 l0_2.length l0_2) (hc0_2 : l0_2.length ≤ c0_2) (hr0_5 : Kd.C (Kd.slice 2 (Kd.int .i64)) w A0_5 l0_5.length l0_5) (hc0_5 : l0_5.length ≤ c0_5) (h : spec_IsAllowed.f k a0_0 l0_1 l0_2 a0_3 a0_4 l0_5 a1 a2 = some r) :
 Calls Try.prog 88 #[.agg #[.string a0_0, .slice A0_1 l0_1.length c0_1, .slice A0_2 l0_2.length c0_2, .int .i64 a0_3, .int .i64 a0_4, .slice A0_5 l0_5.length c0_5], .int .i64 a1, .int .i64 a2] w fun e w' => e = .returned (.bool r) ∧ Below w.heap.size w w' := by
 have hu27 := Try.underlying27
 have HR0_1 := Aside0.mk hr0_1
 have HC0_1 := Aside0.mk hc0_1
 clear hr0_1 hc0_1
 have HR0_2 := Aside0.mk hr0_2
 have HC0_2 := Aside0.mk hc0_2
 clear hr0_2 hc0_2
 have HR0_5 := Aside0.mk hr0_5
 have HC0_5 := Aside0.mk hc0_5
 clear hr0_5 hc0_5
 have HB := Aside0.mk (Below.refl w.heap.size w)
 have H : ((spec_l05Ok.f k [(⟨a0_0, l0_1, l0_2, a0_3, a0_4, l0_5⟩ : S27)]).bind fun t458 => (if t458 = true then ((spec_l03Pitch.f a1).bind fun t459 => (if t459 = true then ((spec_l03Pitch.f a2).bind fun t460 => (if t460 = true then ((spec_l05Reason.f k [(⟨a0_0, l0_1, l0_2, a0_3, a0_4, l0_5⟩ : S27)] a1 a2).bind fun t461 => (some (t461 == 0))) else (some false))) else (some false))) else (some false))) = some r := h
 clear h
 replace H := Option.bind_eq_some_iff.mp H
 obtain ⟨t458, A40, H⟩ := H
 replace H : (if t458 = true then ((spec_l03Pitch.f a1).bind fun t459 => (if t459 = true then ((spec_l03Pitch.f a2).bind fun t460 => (if t460 = true then ((spec_l05Reason.f k [(⟨a0_0, l0_1, l0_2, a0_3, a0_4, l0_5⟩ : S27)] a1 a2).bind fun t461 => (some (t461 == 0))) else (some false))) else (some false))) else (some false)) = some r := H
 have A4 := Aside0.mk A40
 clear A40
 by_cases c5 : t458 = true
 · subst c5
   have H1 : ((spec_l03Pitch.f a1).bind fun t459 => (if t459 = true then ((spec_l03Pitch.f a2).bind fun t460 => (if t460 = true then ((spec_l05Reason.f k [(⟨a0_0, l0_1, l0_2, a0_3, a0_4, l0_5⟩ : S27)] a1 a2).bind fun t461 => (some (t461 == 0))) else (some false))) else (some false))) = some r := by rw [if_pos rfl] at H; exact H
   clear H
   have H := H1
   clear H1
   replace H := Option.bind_eq_some_iff.mp H
   obtain ⟨t459, A60, H⟩ := H
   replace H : (if t459 = true then ((spec_l03Pitch.f a2).bind fun t460 => (if t460 = true then ((spec_l05Reason.f k [(⟨a0_0, l0_1, l0_2, a0_3, a0_4, l0_5⟩ : S27)] a1 a2).bind fun t461 => (some (t461 == 0))) else (some false))) else (some false)) = some r := H
   have A6 := Aside0.mk A60
   clear A60
   by_cases c7 : t459 = true
   · subst c7
     have H1 : ((spec_l03Pitch.f a2).bind fun t460 => (if t460 = true then ((spec_l05Reason.f k [(⟨a0_0, l0_1, l0_2, a0_3, a0_4, l0_5⟩ : S27)] a1 a2).bind fun t461 => (some (t461 == 0))) else (some false))) = some r := by rw [if_pos rfl] at H; exact H
     clear H
     have H := H1
     clear H1
     replace H := Option.bind_eq_some_iff.mp H
     obtain ⟨t460, A80, H⟩ := H
     replace H : (if t460 = true then ((spec_l05Reason.f k [(⟨a0_0, l0_1, l0_2, a0_3, a0_4, l0_5⟩ : S27)] a1 a2).bind fun t461 => (some (t461 == 0))) else (some false)) = some r := H
     have A8 := Aside0.mk A80
     clear A80
     by_cases c9 : t460 = true
     · subst c9
       have H1 : ((spec_l05Reason.f k [(⟨a0_0, l0_1, l0_2, a0_3, a0_4, l0_5⟩ : S27)] a1 a2).bind fun t461 => (some (t461 == 0))) = some r := by rw [if_pos rfl] at H; exact H
       clear H
       have H := H1
       clear H1
       replace H := Option.bind_eq_some_iff.mp H
       obtain ⟨t461, A100, H⟩ := H
       replace H : (some (t461 == 0)) = some r := H
       have A10 := Aside0.mk A100
       clear A100
       obtain rfl := Option.some.inj H
       go_enter Try.func88, Try.ntmps88
       go_wp2_with (first | ((with_reducible refine gate_dst (N := 3) rfl ?_); refine box_event ?hg (N := 3) ?hd (cs := #[.string a0_0, .slice A0_1 l0_1.length c0_1, .slice A0_2 l0_2.length c0_2, .int .i64 a0_3, .int .i64 a0_4, .slice A0_5 l0_5.length c0_5]) (t := 27) ?hr ?_; (case hd => rfl); (case hg => rfl); (case hr => first | (go_simp; done) | (go_simp; rfl)); intro gb457 hg w11 hbox hb; have BK457 := Aside0.mk (hbox); have GW457 := Aside0.mk ((by rw [hg]; exact (below_size (tH HB)) : w.heap.size ≤ gb457)); have GE457 := Aside0.mk ((by rw [hg]; exact (below_size (tH HB)) : w.heap.size ≤ gb457)); replace HB := Aside0.mk (below_step (tH HB) hb); clear hb hbox hg) | ((with_reducible refine gate_callee (f := 109) rfl ?_); refine gL_ (some 7) rfl rfl Try.func109 #[.pointer (some ⟨gb457, 0, none⟩)] rfl ?_; (with_reducible refine (spec_l05Ok.calls k _ [(⟨a0_0, l0_1, l0_2, a0_3, a0_4, l0_5⟩ : S27)] true _ ?side1 ?side2 A4.out).mono ?_); (case side1 => exact Kd.C_box (k27_mk _ _ (by exact HC0_1.out) (tC (Kd.C_below HR0_1.out HB.out)) (by exact HC0_2.out) (tC (Kd.C_below HR0_2.out HB.out)) (by exact HC0_5.out) (tC (Kd.C_below HR0_5.out HB.out))) (tB BK457)); (case side2 => exact Nat.one_pos); rintro e w12 ⟨rfl, hb⟩; refine ⟨_, rfl, ?_⟩; replace BK457 := tbB BK457 hb; replace HB := Aside0.mk (below_step (tH1 HB GE457.out) hb); (try clear hb); (try clear hb2); (try clear hk); (try clear hi)) | (go_at_call 126; (with_reducible refine (spec_l03Pitch.calls a1 true _ A6.out).mono ?_); rintro e w' ⟨rfl, ⟨nd, rfl⟩⟩) | (go_at_call 126; (with_reducible refine (spec_l03Pitch.calls a2 true _ A8.out).mono ?_); rintro e w' ⟨rfl, ⟨nd, rfl⟩⟩) | (go_at_call 192; (with_reducible refine (spec_l05Reason.calls k _ [(⟨a0_0, l0_1, l0_2, a0_3, a0_4, l0_5⟩ : S27)] a1 a2 t461 _ ?side1 ?side2 A10.out).mono ?_); (case side1 => exact Kd.C_box (k27_mk _ _ (by exact HC0_1.out) (by exact Kd.C_below HR0_1.out (tH1 HB GE457.out)) (by exact HC0_2.out) (by exact Kd.C_below HR0_2.out (tH1 HB GE457.out)) (by exact HC0_5.out) (by exact Kd.C_below HR0_5.out (tH1 HB GE457.out))) (tB BK457)); (case side2 => exact Nat.one_pos); rintro e w' ⟨rfl, ⟨nd, rfl⟩⟩))
       go_ret
       exact ⟨tE, tH1 HB GE457.out⟩
     replace c9 := Bool.eq_false_iff.mpr c9
     subst c9
     have H1 : (some false) = some r := by rw [if_neg (show ¬ (false = true) by decide)] at H; exact H
     clear H
     have H := H1
     clear H1
     obtain rfl := Option.some.inj H
     go_enter Try.func88, Try.ntmps88
     go_wp2_with (first | ((with_reducible refine gate_dst (N := 3) rfl ?_); refine box_event ?hg (N := 3) ?hd (cs := #[.string a0_0, .slice A0_1 l0_1.length c0_1, .slice A0_2 l0_2.length c0_2, .int .i64 a0_3, .int .i64 a0_4, .slice A0_5 l0_5.length c0_5]) (t := 27) ?hr ?_; (case hd => rfl); (case hg => rfl); (case hr => first | (go_simp; done) | (go_simp; rfl)); intro gb457 hg w13 hbox hb; have BK457 := Aside0.mk (hbox); have GW457 := Aside0.mk ((by rw [hg]; exact (below_size (tH HB)) : w.heap.size ≤ gb457)); have GE457 := Aside0.mk ((by rw [hg]; exact (below_size (tH HB)) : w.heap.size ≤ gb457)); replace HB := Aside0.mk (below_step (tH HB) hb); clear hb hbox hg) | ((with_reducible refine gate_callee (f := 109) rfl ?_); refine gL_ (some 7) rfl rfl Try.func109 #[.pointer (some ⟨gb457, 0, none⟩)] rfl ?_; (with_reducible refine (spec_l05Ok.calls k _ [(⟨a0_0, l0_1, l0_2, a0_3, a0_4, l0_5⟩ : S27)] true _ ?side1 ?side2 A4.out).mono ?_); (case side1 => exact Kd.C_box (k27_mk _ _ (by exact HC0_1.out) (tC (Kd.C_below HR0_1.out HB.out)) (by exact HC0_2.out) (tC (Kd.C_below HR0_2.out HB.out)) (by exact HC0_5.out) (tC (Kd.C_below HR0_5.out HB.out))) (tB BK457)); (case side2 => exact Nat.one_pos); rintro e w14 ⟨rfl, hb⟩; refine ⟨_, rfl, ?_⟩; replace BK457 := tbB BK457 hb; replace HB := Aside0.mk (below_step (tH1 HB GE457.out) hb); (try clear hb); (try clear hb2); (try clear hk); (try clear hi)) | (go_at_call 126; (with_reducible refine (spec_l03Pitch.calls a1 true _ A6.out).mono ?_); rintro e w' ⟨rfl, ⟨nd, rfl⟩⟩) | (go_at_call 126; (with_reducible refine (spec_l03Pitch.calls a2 false _ A8.out).mono ?_); rintro e w' ⟨rfl, ⟨nd, rfl⟩⟩))
     go_ret
     exact ⟨tE, tH1 HB GE457.out⟩
   replace c7 := Bool.eq_false_iff.mpr c7
   subst c7
   have H1 : (some false) = some r := by rw [if_neg (show ¬ (false = true) by decide)] at H; exact H
   clear H
   have H := H1
   clear H1
   obtain rfl := Option.some.inj H
   go_enter Try.func88, Try.ntmps88
   go_wp2_with (first | ((with_reducible refine gate_dst (N := 3) rfl ?_); refine box_event ?hg (N := 3) ?hd (cs := #[.string a0_0, .slice A0_1 l0_1.length c0_1, .slice A0_2 l0_2.length c0_2, .int .i64 a0_3, .int .i64 a0_4, .slice A0_5 l0_5.length c0_5]) (t := 27) ?hr ?_; (case hd => rfl); (case hg => rfl); (case hr => first | (go_simp; done) | (go_simp; rfl)); intro gb457 hg w15 hbox hb; have BK457 := Aside0.mk (hbox); have GW457 := Aside0.mk ((by rw [hg]; exact (below_size (tH HB)) : w.heap.size ≤ gb457)); have GE457 := Aside0.mk ((by rw [hg]; exact (below_size (tH HB)) : w.heap.size ≤ gb457)); replace HB := Aside0.mk (below_step (tH HB) hb); clear hb hbox hg) | ((with_reducible refine gate_callee (f := 109) rfl ?_); refine gL_ (some 7) rfl rfl Try.func109 #[.pointer (some ⟨gb457, 0, none⟩)] rfl ?_; (with_reducible refine (spec_l05Ok.calls k _ [(⟨a0_0, l0_1, l0_2, a0_3, a0_4, l0_5⟩ : S27)] true _ ?side1 ?side2 A4.out).mono ?_); (case side1 => exact Kd.C_box (k27_mk _ _ (by exact HC0_1.out) (tC (Kd.C_below HR0_1.out HB.out)) (by exact HC0_2.out) (tC (Kd.C_below HR0_2.out HB.out)) (by exact HC0_5.out) (tC (Kd.C_below HR0_5.out HB.out))) (tB BK457)); (case side2 => exact Nat.one_pos); rintro e w16 ⟨rfl, hb⟩; refine ⟨_, rfl, ?_⟩; replace BK457 := tbB BK457 hb; replace HB := Aside0.mk (below_step (tH1 HB GE457.out) hb); (try clear hb); (try clear hb2); (try clear hk); (try clear hi)) | (go_at_call 126; (with_reducible refine (spec_l03Pitch.calls a1 false _ A6.out).mono ?_); rintro e w' ⟨rfl, ⟨nd, rfl⟩⟩))
   go_ret
   exact ⟨tE, tH1 HB GE457.out⟩
 replace c5 := Bool.eq_false_iff.mpr c5
 subst c5
 have H1 : (some false) = some r := by rw [if_neg (show ¬ (false = true) by decide)] at H; exact H
 clear H
 have H := H1
 clear H1
 obtain rfl := Option.some.inj H
 go_enter Try.func88, Try.ntmps88
 go_wp2_with (first | ((with_reducible refine gate_dst (N := 3) rfl ?_); refine box_event ?hg (N := 3) ?hd (cs := #[.string a0_0, .slice A0_1 l0_1.length c0_1, .slice A0_2 l0_2.length c0_2, .int .i64 a0_3, .int .i64 a0_4, .slice A0_5 l0_5.length c0_5]) (t := 27) ?hr ?_; (case hd => rfl); (case hg => rfl); (case hr => first | (go_simp; done) | (go_simp; rfl)); intro gb457 hg w17 hbox hb; have BK457 := Aside0.mk (hbox); have GW457 := Aside0.mk ((by rw [hg]; exact (below_size (tH HB)) : w.heap.size ≤ gb457)); have GE457 := Aside0.mk ((by rw [hg]; exact (below_size (tH HB)) : w.heap.size ≤ gb457)); replace HB := Aside0.mk (below_step (tH HB) hb); clear hb hbox hg) | ((with_reducible refine gate_callee (f := 109) rfl ?_); refine gL_ (some 7) rfl rfl Try.func109 #[.pointer (some ⟨gb457, 0, none⟩)] rfl ?_; (with_reducible refine (spec_l05Ok.calls k _ [(⟨a0_0, l0_1, l0_2, a0_3, a0_4, l0_5⟩ : S27)] false _ ?side1 ?side2 A4.out).mono ?_); (case side1 => exact Kd.C_box (k27_mk _ _ (by exact HC0_1.out) (tC (Kd.C_below HR0_1.out HB.out)) (by exact HC0_2.out) (tC (Kd.C_below HR0_2.out HB.out)) (by exact HC0_5.out) (tC (Kd.C_below HR0_5.out HB.out))) (tB BK457)); (case side2 => exact Nat.one_pos); rintro e w18 ⟨rfl, hb⟩; refine ⟨_, rfl, ?_⟩; replace BK457 := tbB BK457 hb; replace HB := Aside0.mk (below_step (tH1 HB GE457.out) hb); (try clear hb); (try clear hb2); (try clear hk); (try clear hi)))
 go_ret
 exact ⟨tE, tH1 HB GE457.out⟩

end Go.Proofs.Ytbedlmlofnphkaa.PZ
