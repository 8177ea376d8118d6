-- WRITTEN BY wip/gprint.py, a program of this session's over the kit's print, with contracts given by hand
import Derived.Test.YtbedlmlofnphkaaPZx0
import Derived.Test.YtbedlmlofnphkaaPZx4
import Derived.Test.YtbedlmlofnphkaaPZx13
namespace Go.Proofs.Ytbedlmlofnphkaa.PZ
open Go.RowKit Go.Proofs.YtbedlmlofnphkaaW.PrintWords Go.Proofs.YtbedlmlofnphkaaW.PrintLast Go.Proofs.YtbedlmlofnphkaaW.PrintMore
attribute [local go_sem] max2_int min2_int max_two min_two max_three min_three max_four min_four   -- for this text's walks alone
set_option linter.unusedVariables false
set_option linter.unusedSimpArgs false

/-! ### spec_l05Reason: function 192 -/
mutual
def spec_l05Reason.j0 : Nat → List (S27) → Int → Int → Int → Int → Bool → Option (Int)
 | 0, _, _, _, _, _, _ => none
 | k + 1, x0, x1, x2, x7, x8, x23 => if x23 = true then (some 1) else ((spec_l00Max.f (wrap64 (x1 - x2)) (wrap64 (x2 - x1))).bind fun t320 => (if t320 > 12 then (some 2) else (if x2 > x1 then ((spec_l00Has.f k ((rd_T27 x0 0).f1) x8).bind fun t322 => (spec_l05Reason.j1 k x0 x1 x2 x7 x8 (!t322))) else (spec_l05Reason.j1 k x0 x1 x2 x7 x8 false))))
def spec_l05Reason.j1 : Nat → List (S27) → Int → Int → Int → Int → Bool → Option (Int)
 | 0, _, _, _, _, _, _ => none
 | k + 1, x0, x1, x2, x7, x8, x43 => if x43 = true then (some 3) else (if x2 < x1 then ((spec_l00Has.f k ((rd_T27 x0 0).f2) x8).bind fun t324 => (spec_l05Reason.j2 k x0 x7 x8 (!t324))) else (spec_l05Reason.j2 k x0 x7 x8 false))
def spec_l05Reason.j2 : Nat → List (S27) → Int → Int → Bool → Option (Int)
 | 0, _, _, _, _ => none
 | k + 1, x0, x7, x8, x55 => if x55 = true then (some 4) else (spec_l05Reason.l0 k x0 x7 x8 0)
def spec_l05Reason.l0 : Nat → List (S27) → Int → Int → Int → Option (Int)
 | 0, _, _, _, _ => none
 | k + 1, x0, x7, x8, x9 => if x9 < (((rd_T27 x0 0).f5).length : Int) then (if 0 ≤ x9 then (if 0 < ((rd_L3 ((rd_T27 x0 0).f5) x9).length : Int) then (if (rd (rd_L3 ((rd_T27 x0 0).f5) x9) 0) = x7 then (if 1 < ((rd_L3 ((rd_T27 x0 0).f5) x9).length : Int) then (if (rd (rd_L3 ((rd_T27 x0 0).f5) x9) 1) = x8 then (some 5) else (spec_l05Reason.l0 k x0 x7 x8 (wrap64 (x9 + 1)))) else (none)) else (spec_l05Reason.l0 k x0 x7 x8 (wrap64 (x9 + 1)))) else (none)) else (none)) else (some 0)
end
def spec_l05Reason.f (k : Nat) (l0 : List (S27)) (a1 : Int) (a2 : Int) : Option (Int) := (spec_l03Tone.f a1).bind fun t316 => ((spec_l03Tone.f a2).bind fun t317 => ((spec_l05Tone.f k l0 t316).bind fun t318 => (if t318 = true then ((spec_l05Tone.f k l0 t317).bind fun t319 => (spec_l05Reason.j0 k l0 a1 a2 t316 t317 (!t319))) else (spec_l05Reason.j0 k l0 a1 a2 t316 t317 true))))
theorem spec_l05Reason.mono_l : ∀ k, (∀ y0 y1 y2 y3 y4 y5, LeO (spec_l05Reason.j0 k y0 y1 y2 y3 y4 y5) (spec_l05Reason.j0 (k + 1) y0 y1 y2 y3 y4 y5)) ∧ (∀ y0 y1 y2 y3 y4 y5, LeO (spec_l05Reason.j1 k y0 y1 y2 y3 y4 y5) (spec_l05Reason.j1 (k + 1) y0 y1 y2 y3 y4 y5)) ∧ (∀ y0 y1 y2 y3, LeO (spec_l05Reason.j2 k y0 y1 y2 y3) (spec_l05Reason.j2 (k + 1) y0 y1 y2 y3)) ∧ (∀ y0 y1 y2 y3, LeO (spec_l05Reason.l0 k y0 y1 y2 y3) (spec_l05Reason.l0 (k + 1) y0 y1 y2 y3))
 | 0 => ⟨fun _ _ _ _ _ _ r h => by simp [spec_l05Reason.j0] at h, fun _ _ _ _ _ _ r h => by simp [spec_l05Reason.j1] at h, fun _ _ _ _ r h => by simp [spec_l05Reason.j2] at h, fun _ _ _ _ r h => by simp [spec_l05Reason.l0] at h⟩
 | k + 1 => by
  obtain ⟨ih0, ih1, ih2, ih3⟩ := spec_l05Reason.mono_l k
  refine ⟨?_, ?_, ?_, ?_⟩
  all_goals (intros; (first | unfold spec_l05Reason.j0 | unfold spec_l05Reason.j1 | unfold spec_l05Reason.j2 | unfold spec_l05Reason.l0); repeat' first
   | (with_reducible exact ih0 _ _ _ _ _ _)
   | (with_reducible exact ih1 _ _ _ _ _ _)
   | (with_reducible exact ih2 _ _ _ _)
   | (with_reducible exact ih3 _ _ _ _)
   | (with_reducible exact spec_l00Has.mono _ _ _)
   | (with_reducible exact spec_l05Tone.mono _ _ _)
   | (with_reducible exact LeO.refl _)
   | (with_reducible exact LeO.none _)
   | (with_reducible refine LeO.ite ?_ ?_)
   | (with_reducible refine LeO.bind ?_ (fun _ => ?_))
   | exact ih0 _ _ _ _ _ _
   | exact ih1 _ _ _ _ _ _
   | exact ih2 _ _ _ _
   | exact ih3 _ _ _ _
   | exact spec_l00Has.mono _ _ _
   | exact spec_l05Tone.mono _ _ _
   | exact LeO.none _
   | refine LeO.ite ?_ ?_
   | refine LeO.bind ?_ (fun _ => ?_))
theorem spec_l05Reason.mono : ∀ a0 a1 a2 k, LeO (spec_l05Reason.f k a0 a1 a2) (spec_l05Reason.f (k + 1) a0 a1 a2) := by
 intro a0 a1 a2 k
 obtain ⟨ih0, ih1, ih2, ih3⟩ := spec_l05Reason.mono_l k
 unfold spec_l05Reason.f
 repeat' first
  | (with_reducible exact ih0 _ _ _ _ _ _)
  | (with_reducible exact ih1 _ _ _ _ _ _)
  | (with_reducible exact ih2 _ _ _ _)
  | (with_reducible exact ih3 _ _ _ _)
  | (with_reducible exact spec_l00Has.mono _ _ _)
  | (with_reducible exact spec_l05Tone.mono _ _ _)
  | (with_reducible exact LeO.refl _)
  | (with_reducible exact LeO.none _)
  | (with_reducible refine LeO.ite ?_ ?_)
  | (with_reducible refine LeO.bind ?_ (fun _ => ?_))
  | exact ih0 _ _ _ _ _ _
  | exact ih1 _ _ _ _ _ _
  | exact ih2 _ _ _ _
  | exact ih3 _ _ _ _
  | exact spec_l00Has.mono _ _ _
  | exact spec_l05Tone.mono _ _ _
  | exact LeO.none _
  | refine LeO.ite ?_ ?_
  | refine LeO.bind ?_ (fun _ => ?_)
set_option maxHeartbeats 8000000 in
set_option maxRecDepth 100000 in
theorem spec_l05Reason.calls (k : Nat) (A0 : Option Addr) (l0 : List (S27)) (a1 : Int) (a2 : Int) (r : Int) (w : World) (hr0 : Kd.C k27 w A0 l0.length l0) (hn0 : 0 < l0.length) (h : spec_l05Reason.f k l0 a1 a2 = some r) :
 Calls Try.prog 192 #[.pointer A0, .int .i64 a1, .int .i64 a2] w fun e w' => e = .returned (.int .i64 r) ∧ Drawn0 w w' := by
 have HR0 := Aside0.mk hr0
 clear hr0
 have HN0 := Aside0.mk hn0
 have hn0b0 : decide ((0 : Int) < (l0.length : Int)) = true := decide_eq_true (Int.ofNat_lt.2 hn0)
 have hn0b1 : decide (0 < l0.length) = true := decide_eq_true hn0
 clear hn0
 have H : ((spec_l03Tone.f a1).bind fun t316 => ((spec_l03Tone.f a2).bind fun t317 => ((spec_l05Tone.f k l0 t316).bind fun t318 => (if t318 = true then ((spec_l05Tone.f k l0 t317).bind fun t319 => (spec_l05Reason.j0 k l0 a1 a2 t316 t317 (!t319))) else (spec_l05Reason.j0 k l0 a1 a2 t316 t317 true))))) = some r := h
 clear h
 replace H := Option.bind_eq_some_iff.mp H
 obtain ⟨t316, A40, H⟩ := H
 replace H : ((spec_l03Tone.f a2).bind fun t317 => ((spec_l05Tone.f k l0 t316).bind fun t318 => (if t318 = true then ((spec_l05Tone.f k l0 t317).bind fun t319 => (spec_l05Reason.j0 k l0 a1 a2 t316 t317 (!t319))) else (spec_l05Reason.j0 k l0 a1 a2 t316 t317 true)))) = some r := H
 have A4 := Aside0.mk A40
 clear A40
 replace H := Option.bind_eq_some_iff.mp H
 obtain ⟨t317, A50, H⟩ := H
 replace H : ((spec_l05Tone.f k l0 t316).bind fun t318 => (if t318 = true then ((spec_l05Tone.f k l0 t317).bind fun t319 => (spec_l05Reason.j0 k l0 a1 a2 t316 t317 (!t319))) else (spec_l05Reason.j0 k l0 a1 a2 t316 t317 true))) = some r := H
 have A5 := Aside0.mk A50
 clear A50
 have HC6 := Aside0.mk H
 clear H
 go_enter Try.func192, Try.ntmps192
 go_upto_region 3 with (first | ((with_reducible refine gate_callee (f := 193) rfl ?_); refine gL_ (some 11) rfl rfl Try.func193 #[.int .i64 a1] rfl ?_; (with_reducible refine (spec_l03Tone.calls a1 t316 _ A4.out).mono ?_); rintro e w' ⟨rfl, ⟨nd, rfl⟩⟩; refine ⟨_, rfl, ?_⟩) | ((with_reducible refine gate_callee (f := 193) rfl ?_); refine gL_ (some 13) rfl rfl Try.func193 #[.int .i64 a2] rfl ?_; (with_reducible refine (spec_l03Tone.calls a2 t317 _ A5.out).mono ?_); rintro e w' ⟨rfl, ⟨nd, rfl⟩⟩; refine ⟨_, rfl, ?_⟩))
 (try simp only [Act.put, sx0, sx1, sx2])
 go_cut [23] (fun v23 wc => ∃ (kq : Nat) (x23_5 : Bool), v23 = .bool x23_5 ∧ Aside0 (spec_l05Reason.j0 kq l0 a1 a2 t316 t317 x23_5 = some r) ∧ Aside0 (kq ≤ k) ∧ Drawn0 w wc)
 case first =>
  have H := HC6.out
  clear HC6
  replace H := Option.bind_eq_some_iff.mp H
  obtain ⟨t318, A70, H⟩ := H
  replace H : (if t318 = true then ((spec_l05Tone.f k l0 t317).bind fun t319 => (spec_l05Reason.j0 k l0 a1 a2 t316 t317 (!t319))) else (spec_l05Reason.j0 k l0 a1 a2 t316 t317 true)) = some r := H
  have A7 := Aside0.mk A70
  clear A70
  by_cases c8 : t318 = true
  · subst c8
    have H1 : ((spec_l05Tone.f k l0 t317).bind fun t319 => (spec_l05Reason.j0 k l0 a1 a2 t316 t317 (!t319))) = some r := by rw [if_pos rfl] at H; exact H
    clear H
    have H := H1
    clear H1
    replace H := Option.bind_eq_some_iff.mp H
    obtain ⟨t319, A90, H⟩ := H
    replace H : (spec_l05Reason.j0 k l0 a1 a2 t316 t317 (!t319)) = some r := H
    have A9 := Aside0.mk A90
    clear A90
    have H' := Aside0.mk H
    clear H
    go_wp2_with (first | ((with_reducible refine gate_callee (f := 210) rfl ?_); refine gL_ (some 16) rfl rfl Try.func210 #[.pointer A0, .int .i64 t316] rfl ?_; (with_reducible refine (spec_l05Tone.calls k _ l0 t316 true _ ?side1 ?side2 A7.out).mono ?_); (case side1 => exact tC HR0.out); (case side2 => exact HN0.out); rintro e w' ⟨rfl, ⟨nd, rfl⟩⟩; refine ⟨_, rfl, ?_⟩) | (go_at_call 210; (with_reducible refine (spec_l05Tone.calls k _ l0 t317 t319 _ ?side1 ?side2 A9.out).mono ?_); (case side1 => exact tC HR0.out); (case side2 => exact HN0.out); rintro e w' ⟨rfl, ⟨nd, rfl⟩⟩))
    go_meet
    case rel => exact ⟨_, (!t319), tq, H', ⟨by first | omega | exact Nat.le_refl _⟩, tZ⟩
  replace c8 := Bool.eq_false_iff.mpr c8
  subst c8
  have H1 : (spec_l05Reason.j0 k l0 a1 a2 t316 t317 true) = some r := by rw [if_neg (show ¬ (false = true) by decide)] at H; exact H
  clear H
  have H := H1
  clear H1
  have H' := Aside0.mk H
  clear H
  go_wp2_with (first | ((with_reducible refine gate_callee (f := 210) rfl ?_); refine gL_ (some 16) rfl rfl Try.func210 #[.pointer A0, .int .i64 t316] rfl ?_; (with_reducible refine (spec_l05Tone.calls k _ l0 t316 false _ ?side1 ?side2 A7.out).mono ?_); (case side1 => exact tC HR0.out); (case side2 => exact HN0.out); rintro e w' ⟨rfl, ⟨nd, rfl⟩⟩; refine ⟨_, rfl, ?_⟩))
  go_meet
  case rel => exact ⟨_, (true), tq, H', ⟨by first | omega | exact Nat.le_refl _⟩, tZ⟩
 case rest =>
 clear HC6
 try clear c1
 try clear c2
 try clear p2
 try clear c8
 obtain ⟨kq, x23_5, rfl, HA, HJ5, ⟨mc5, rfl⟩⟩ := hcut
 cases kq with
 | zero => exact absurd HA.out (by simp [spec_l05Reason.j0])
 | succ kj5 =>
 have H := HA.out
 clear HA
 simp only [spec_l05Reason.j0] at H
 by_cases c10 : x23_5 = true
 · subst c10
   have H1 : (some 1) = some r := by rw [if_pos rfl] at H; exact H
   clear H
   have H := H1
   clear H1
   obtain rfl := Option.some.inj H
   go_wp2
   go_ret
   exact ⟨by first | rfl | (simp; done) | (simp [*]; done), tZ⟩
 replace c10 := Bool.eq_false_iff.mpr c10
 subst c10
 have H1 : ((spec_l00Max.f (wrap64 (a1 - a2)) (wrap64 (a2 - a1))).bind fun t320 => (if t320 > 12 then (some 2) else (if a2 > a1 then ((spec_l00Has.f kj5 ((rd_T27 l0 0).f1) t317).bind fun t322 => (spec_l05Reason.j1 kj5 l0 a1 a2 t316 t317 (!t322))) else (spec_l05Reason.j1 kj5 l0 a1 a2 t316 t317 false)))) = some r := by rw [if_neg (show ¬ (false = true) by decide)] at H; exact H
 clear H
 have H := H1
 clear H1
 replace H := Option.bind_eq_some_iff.mp H
 obtain ⟨t320, A110, H⟩ := H
 replace H : (if t320 > 12 then (some 2) else (if a2 > a1 then ((spec_l00Has.f kj5 ((rd_T27 l0 0).f1) t317).bind fun t322 => (spec_l05Reason.j1 kj5 l0 a1 a2 t316 t317 (!t322))) else (spec_l05Reason.j1 kj5 l0 a1 a2 t316 t317 false))) = some r := H
 have A11 := Aside0.mk A110
 clear A110
 by_cases c12 : t320 > 12
 · rw [if_pos c12] at H
   have c12b0 : decide (12 < t320) = true := decide_eq_true c12
   clear c12
   obtain rfl := Option.some.inj H
   go_wp2_with (first | ((with_reducible refine gate_callee (f := 257) rfl ?_); refine gL_ (some 30) rfl rfl Try.func257 #[.int .i64 (wrap64 (a1 - a2)), .int .i64 (wrap64 (a2 - a1))] rfl ?_; (with_reducible refine (spec_l00Max.calls (wrap64 (a1 - a2)) (wrap64 (a2 - a1)) t320 _ A11.out).mono ?_); rintro e w' ⟨rfl, ⟨nd, rfl⟩⟩; refine ⟨_, rfl, ?_⟩))
   go_ret
   exact ⟨by first | rfl | (simp; done) | (simp [*]; done), tZ⟩
 rw [if_neg c12] at H
 have c12b0 : decide (12 < t320) = false := decide_eq_false c12
 clear c12
 have HC13 := Aside0.mk H
 clear H
 go_upto_region 7 with (first | ((with_reducible refine gate_callee (f := 257) rfl ?_); refine gL_ (some 30) rfl rfl Try.func257 #[.int .i64 (wrap64 (a1 - a2)), .int .i64 (wrap64 (a2 - a1))] rfl ?_; (with_reducible refine (spec_l00Max.calls (wrap64 (a1 - a2)) (wrap64 (a2 - a1)) t320 _ A11.out).mono ?_); rintro e w' ⟨rfl, ⟨nd, rfl⟩⟩; refine ⟨_, rfl, ?_⟩))
 (try simp only [Act.put, sx0, sx1, sx2])
 go_cut [43] (fun v43 wc => ∃ (kq : Nat) (x43_12 : Bool), v43 = .bool x43_12 ∧ Aside0 (spec_l05Reason.j1 kq l0 a1 a2 t316 t317 x43_12 = some r) ∧ Aside0 (kq ≤ kj5) ∧ Drawn0 w wc)
 case first =>
  have H := HC13.out
  clear HC13
  by_cases c14 : a2 > a1
  · rw [if_pos c14] at H
    have c14b0 : decide (a1 < a2) = true := decide_eq_true c14
    clear c14
    (first | rw [c14b0] | (simp only [i64_w, i32_w]; rw [c14b0]) | skip)
    replace H := Option.bind_eq_some_iff.mp H
    obtain ⟨t322, A150, H⟩ := H
    replace H : (spec_l05Reason.j1 kj5 l0 a1 a2 t316 t317 (!t322)) = some r := H
    have A15 := Aside0.mk A150
    clear A150
    have H' := Aside0.mk H
    clear H
    have p321 : 0 ≤ (0 : Int) := (by omega)
    have q321 : 0 < (l0.length : Int) := of_decide_eq_true tA
    obtain ⟨ad321, A321_1, c321_1, A321_2, c321_2, A321_5, c321_5, e321, hx321_0, hx321_1, hx321_2, hx321_3, hx321_4, hx321_5, hl321_1, hi321_1, hl321_2, hi321_2, hl321_5, hi321_5⟩ := at_T27 HR0.out 0 p321 q321
    cases e321
    have qi321 : (0 < l0.length) = True := eq_true (by omega)
    (try rw [t0n] at hx321_0)
    (try rw [show 0 * 6 = 0 from rfl] at hx321_0)
    (try rw [Addr.add_zero'] at hx321_0)
    (try rw [t0n] at hx321_1)
    (try rw [show 0 * 6 = 0 from rfl] at hx321_1)
    (try rw [Addr.add_zero'] at hx321_1)
    (try rw [t0n] at hx321_2)
    (try rw [show 0 * 6 = 0 from rfl] at hx321_2)
    (try rw [Addr.add_zero'] at hx321_2)
    (try rw [t0n] at hx321_3)
    (try rw [show 0 * 6 = 0 from rfl] at hx321_3)
    (try rw [Addr.add_zero'] at hx321_3)
    (try rw [t0n] at hx321_4)
    (try rw [show 0 * 6 = 0 from rfl] at hx321_4)
    (try rw [Addr.add_zero'] at hx321_4)
    (try rw [t0n] at hx321_5)
    (try rw [show 0 * 6 = 0 from rfl] at hx321_5)
    (try rw [Addr.add_zero'] at hx321_5)
    have HR321_1 := Aside0.mk hi321_1
    have HC321_1 := Aside0.mk hl321_1
    clear hi321_1 hl321_1
    have HR321_2 := Aside0.mk hi321_2
    have HC321_2 := Aside0.mk hl321_2
    clear hi321_2 hl321_2
    have HR321_5 := Aside0.mk hi321_5
    have HC321_5 := Aside0.mk hl321_5
    clear hi321_5 hl321_5
    replace p321 := eq_true p321
    replace q321 := eq_true q321
    go_wp2_with (first | (go_at_call 241; (with_reducible refine (spec_l00Has.calls kj5 _ _ ((rd_T27 l0 0).f1) t317 t322 _ ?side1 ?side2 A15.out).mono ?_); (case side1 => exact tC HR321_1.out); (case side2 => exact HC321_1.out); rintro e w' ⟨rfl, ⟨nd, rfl⟩⟩))
    go_meet
    case rel => exact ⟨_, (!t322), tq, H', ⟨by have := HJ5.out; first | omega | exact Nat.le_refl _⟩, tZ⟩
  rw [if_neg c14] at H
  have c14b0 : decide (a1 < a2) = false := decide_eq_false c14
  clear c14
  (first | rw [c14b0] | (simp only [i64_w, i32_w]; rw [c14b0]) | skip)
  have H' := Aside0.mk H
  clear H
  go_wp2
  go_meet
  case rel => exact ⟨_, (false), tq, H', ⟨by have := HJ5.out; first | omega | exact Nat.le_refl _⟩, tZ⟩
 case rest =>
 clear HC13
 try clear c1
 try clear c2
 try clear p2
 try clear c3
 try clear p3
 try clear q3
 try clear hx3
 try clear qi3
 try clear c5
 try clear p6
 try clear c8
 try clear c10
 try clear c12
 try clear c12b0
 try clear c14
 try clear c14b0
 try clear hx321_0
 try clear hx321_1
 try clear hx321_2
 try clear hx321_3
 try clear hx321_4
 try clear hx321_5
 try clear p2
 try clear p321
 try clear q321
 obtain ⟨kq, x43_12, rfl, HA, HJ12, ⟨mc12, rfl⟩⟩ := hcut
 cases kq with
 | zero => exact absurd HA.out (by simp [spec_l05Reason.j1])
 | succ kj12 =>
 have H := HA.out
 clear HA
 simp only [spec_l05Reason.j1] at H
 by_cases c16 : x43_12 = true
 · subst c16
   have H1 : (some 3) = some r := by rw [if_pos rfl] at H; exact H
   clear H
   have H := H1
   clear H1
   obtain rfl := Option.some.inj H
   go_wp2
   go_ret
   exact ⟨by first | rfl | (simp; done) | (simp [*]; done), tZ⟩
 replace c16 := Bool.eq_false_iff.mpr c16
 subst c16
 have H1 : (if a2 < a1 then ((spec_l00Has.f kj12 ((rd_T27 l0 0).f2) t317).bind fun t324 => (spec_l05Reason.j2 kj12 l0 t316 t317 (!t324))) else (spec_l05Reason.j2 kj12 l0 t316 t317 false)) = some r := by rw [if_neg (show ¬ (false = true) by decide)] at H; exact H
 clear H
 have H := H1
 clear H1
 have HC17 := Aside0.mk H
 clear H
 go_upto_region 9 with (fail)
 go_cut [55] (fun v55 wc => ∃ (kq : Nat) (x55_16 : Bool), v55 = .bool x55_16 ∧ Aside0 (spec_l05Reason.j2 kq l0 t316 t317 x55_16 = some r) ∧ Aside0 (kq ≤ kj12) ∧ Drawn0 w wc)
 case first =>
  have H := HC17.out
  clear HC17
  by_cases c18 : a2 < a1
  · rw [if_pos c18] at H
    have c18b0 : decide (a2 < a1) = true := decide_eq_true c18
    clear c18
    (first | rw [c18b0] | (simp only [i64_w, i32_w]; rw [c18b0]) | skip)
    replace H := Option.bind_eq_some_iff.mp H
    obtain ⟨t324, A190, H⟩ := H
    replace H : (spec_l05Reason.j2 kj12 l0 t316 t317 (!t324)) = some r := H
    have A19 := Aside0.mk A190
    clear A190
    have H' := Aside0.mk H
    clear H
    have p323 : 0 ≤ (0 : Int) := (by omega)
    have q323 : 0 < (l0.length : Int) := of_decide_eq_true tA
    obtain ⟨ad323, A323_1, c323_1, A323_2, c323_2, A323_5, c323_5, e323, hx323_0, hx323_1, hx323_2, hx323_3, hx323_4, hx323_5, hl323_1, hi323_1, hl323_2, hi323_2, hl323_5, hi323_5⟩ := at_T27 HR0.out 0 p323 q323
    cases e323
    have qi323 : (0 < l0.length) = True := eq_true (by omega)
    (try rw [t0n] at hx323_0)
    (try rw [show 0 * 6 = 0 from rfl] at hx323_0)
    (try rw [Addr.add_zero'] at hx323_0)
    (try rw [t0n] at hx323_1)
    (try rw [show 0 * 6 = 0 from rfl] at hx323_1)
    (try rw [Addr.add_zero'] at hx323_1)
    (try rw [t0n] at hx323_2)
    (try rw [show 0 * 6 = 0 from rfl] at hx323_2)
    (try rw [Addr.add_zero'] at hx323_2)
    (try rw [t0n] at hx323_3)
    (try rw [show 0 * 6 = 0 from rfl] at hx323_3)
    (try rw [Addr.add_zero'] at hx323_3)
    (try rw [t0n] at hx323_4)
    (try rw [show 0 * 6 = 0 from rfl] at hx323_4)
    (try rw [Addr.add_zero'] at hx323_4)
    (try rw [t0n] at hx323_5)
    (try rw [show 0 * 6 = 0 from rfl] at hx323_5)
    (try rw [Addr.add_zero'] at hx323_5)
    have HR323_1 := Aside0.mk hi323_1
    have HC323_1 := Aside0.mk hl323_1
    clear hi323_1 hl323_1
    have HR323_2 := Aside0.mk hi323_2
    have HC323_2 := Aside0.mk hl323_2
    clear hi323_2 hl323_2
    have HR323_5 := Aside0.mk hi323_5
    have HC323_5 := Aside0.mk hl323_5
    clear hi323_5 hl323_5
    replace p323 := eq_true p323
    replace q323 := eq_true q323
    go_wp2_with (first | (go_at_call 241; (with_reducible refine (spec_l00Has.calls kj12 _ _ ((rd_T27 l0 0).f2) t317 t324 _ ?side1 ?side2 A19.out).mono ?_); (case side1 => exact tC HR323_2.out); (case side2 => exact HC323_2.out); rintro e w' ⟨rfl, ⟨nd, rfl⟩⟩))
    go_meet
    case rel => exact ⟨_, (!t324), tq, H', ⟨by have := HJ5.out; have := HJ12.out; first | omega | exact Nat.le_refl _⟩, tZ⟩
  rw [if_neg c18] at H
  have c18b0 : decide (a2 < a1) = false := decide_eq_false c18
  clear c18
  (first | rw [c18b0] | (simp only [i64_w, i32_w]; rw [c18b0]) | skip)
  have H' := Aside0.mk H
  clear H
  go_wp2
  go_meet
  case rel => exact ⟨_, (false), tq, H', ⟨by have := HJ5.out; have := HJ12.out; first | omega | exact Nat.le_refl _⟩, tZ⟩
 case rest =>
 clear HC17
 try clear c1
 try clear c2
 try clear p2
 try clear c3
 try clear p3
 try clear q3
 try clear hx3
 try clear qi3
 try clear c5
 try clear p6
 try clear c8
 try clear c10
 try clear c12
 try clear c12b0
 try clear c14
 try clear c14b0
 try clear c16
 try clear c18
 try clear c18b0
 try clear c19
 try clear hx321_0
 try clear hx321_1
 try clear hx321_2
 try clear hx321_3
 try clear hx321_4
 try clear hx321_5
 try clear hx323_0
 try clear hx323_1
 try clear hx323_2
 try clear hx323_3
 try clear hx323_4
 try clear hx323_5
 try clear p2
 try clear p3
 try clear p321
 try clear p323
 try clear p6
 try clear q3
 try clear q321
 try clear q323
 obtain ⟨kq, x55_16, rfl, HA, HJ16, ⟨mc16, rfl⟩⟩ := hcut
 cases kq with
 | zero => exact absurd HA.out (by simp [spec_l05Reason.j2])
 | succ kj16 =>
 have H := HA.out
 clear HA
 simp only [spec_l05Reason.j2] at H
 by_cases c20 : x55_16 = true
 · subst c20
   have H1 : (some 4) = some r := by rw [if_pos rfl] at H; exact H
   clear H
   have H := H1
   clear H1
   obtain rfl := Option.some.inj H
   go_wp2
   go_ret
   exact ⟨by first | rfl | (simp; done) | (simp [*]; done), tZ⟩
 replace c20 := Bool.eq_false_iff.mpr c20
 subst c20
 have H1 : (spec_l05Reason.l0 kj16 l0 t316 t317 0) = some r := by rw [if_neg (show ¬ (false = true) by decide)] at H; exact H
 clear H
 have H := H1
 clear H1
 have H' := Aside0.mk H
 clear H
 go_wp2
 go_loopg [9] kj16 (fun kq v9 w' => ∃ (x9_4 : Int), v9 = .int .i64 x9_4 ∧ Aside0 (spec_l05Reason.l0 kq l0 t316 t317 x9_4 = some r) ∧ Aside0 (kq ≤ kj16) ∧ Drawn0 w w')
 case atStart => exact ⟨(0), tq, H', ⟨Nat.le_refl _⟩, tZ⟩
 case round =>
 clear H'
 try clear c1
 try clear c2
 try clear p2
 try clear c3
 try clear p3
 try clear q3
 try clear hx3
 try clear qi3
 try clear c5
 try clear p6
 try clear c8
 try clear c10
 try clear c12
 try clear c12b0
 try clear c14
 try clear c14b0
 try clear c16
 try clear c18
 try clear c18b0
 try clear c19
 try clear c20
 try clear hx321_0
 try clear hx321_1
 try clear hx321_2
 try clear hx321_3
 try clear hx321_4
 try clear hx321_5
 try clear hx323_0
 try clear hx323_1
 try clear hx323_2
 try clear hx323_3
 try clear hx323_4
 try clear hx323_5
 try clear p2
 try clear p3
 try clear p321
 try clear p323
 try clear p6
 try clear q3
 try clear q321
 try clear q323
 obtain ⟨x9_4, rfl, HA, HK4, ⟨m4, rfl⟩⟩ := hrel
 cases gk with
 | zero => exact absurd HA.out (by simp [spec_l05Reason.l0])
 | succ k4 =>
 have H := HA.out
 clear HA
 simp only [spec_l05Reason.l0] at H
 by_cases c21 : x9_4 < (((rd_T27 l0 0).f5).length : Int)
 · rw [if_pos c21] at H
   have c21b0 : decide (x9_4 < (((rd_T27 l0 0).f5).length : Int)) = true := decide_eq_true c21
   clear c21
   by_cases c22 : 0 ≤ x9_4
   · rw [if_pos c22] at H
     have c22b0 : decide (0 ≤ x9_4) = true := decide_eq_true c22
     clear c22
     by_cases c23 : 0 < ((rd_L3 ((rd_T27 l0 0).f5) x9_4).length : Int)
     · rw [if_pos c23] at H
       have c23b0 : decide (0 < ((rd_L3 ((rd_T27 l0 0).f5) x9_4).length : Int)) = true := decide_eq_true c23
       have c23b1 : decide (0 < (rd_L3 ((rd_T27 l0 0).f5) x9_4).length) = true := decide_eq_true (by omega)
       clear c23
       by_cases c24 : (rd (rd_L3 ((rd_T27 l0 0).f5) x9_4) 0) = t316
       · rw [if_pos c24] at H
         have c24b0 : ((rd (rd_L3 ((rd_T27 l0 0).f5) x9_4) 0) == t316) = true := beq_iff_eq.mpr c24
         have c24b1 : ((rd (rd_L3 ((rd_T27 l0 0).f5) x9_4) 0) != t316) = false := bne_eq_false_iff_eq.mpr c24
         clear c24
         by_cases c25 : 1 < ((rd_L3 ((rd_T27 l0 0).f5) x9_4).length : Int)
         · rw [if_pos c25] at H
           have c25b0 : decide (1 < ((rd_L3 ((rd_T27 l0 0).f5) x9_4).length : Int)) = true := decide_eq_true c25
           have c25b1 : decide (1 < (rd_L3 ((rd_T27 l0 0).f5) x9_4).length) = true := decide_eq_true (by omega)
           clear c25
           by_cases c26 : (rd (rd_L3 ((rd_T27 l0 0).f5) x9_4) 1) = t317
           · rw [if_pos c26] at H
             have c26b0 : ((rd (rd_L3 ((rd_T27 l0 0).f5) x9_4) 1) == t317) = true := beq_iff_eq.mpr c26
             have c26b1 : ((rd (rd_L3 ((rd_T27 l0 0).f5) x9_4) 1) != t317) = false := bne_eq_false_iff_eq.mpr c26
             clear c26
             obtain rfl := Option.some.inj H
             have p325 : 0 ≤ (0 : Int) := (by omega)
             have q325 : 0 < (l0.length : Int) := of_decide_eq_true tA
             obtain ⟨ad325, A325_1, c325_1, A325_2, c325_2, A325_5, c325_5, e325, hx325_0, hx325_1, hx325_2, hx325_3, hx325_4, hx325_5, hl325_1, hi325_1, hl325_2, hi325_2, hl325_5, hi325_5⟩ := at_T27 HR0.out 0 p325 q325
             cases e325
             have qi325 : (0 < l0.length) = True := eq_true (by omega)
             (try rw [t0n] at hx325_0)
             (try rw [show 0 * 6 = 0 from rfl] at hx325_0)
             (try rw [Addr.add_zero'] at hx325_0)
             (try rw [t0n] at hx325_1)
             (try rw [show 0 * 6 = 0 from rfl] at hx325_1)
             (try rw [Addr.add_zero'] at hx325_1)
             (try rw [t0n] at hx325_2)
             (try rw [show 0 * 6 = 0 from rfl] at hx325_2)
             (try rw [Addr.add_zero'] at hx325_2)
             (try rw [t0n] at hx325_3)
             (try rw [show 0 * 6 = 0 from rfl] at hx325_3)
             (try rw [Addr.add_zero'] at hx325_3)
             (try rw [t0n] at hx325_4)
             (try rw [show 0 * 6 = 0 from rfl] at hx325_4)
             (try rw [Addr.add_zero'] at hx325_4)
             (try rw [t0n] at hx325_5)
             (try rw [show 0 * 6 = 0 from rfl] at hx325_5)
             (try rw [Addr.add_zero'] at hx325_5)
             have HR325_1 := Aside0.mk hi325_1
             have HC325_1 := Aside0.mk hl325_1
             clear hi325_1 hl325_1
             have HR325_2 := Aside0.mk hi325_2
             have HC325_2 := Aside0.mk hl325_2
             clear hi325_2 hl325_2
             have HR325_5 := Aside0.mk hi325_5
             have HC325_5 := Aside0.mk hl325_5
             clear hi325_5 hl325_5
             replace p325 := eq_true p325
             replace q325 := eq_true q325
             have p326 : 0 ≤ (0 : Int) := (by omega)
             have q326 : 0 < (l0.length : Int) := of_decide_eq_true tA
             obtain ⟨ad326, A326_1, c326_1, A326_2, c326_2, A326_5, c326_5, e326, hx326_0, hx326_1, hx326_2, hx326_3, hx326_4, hx326_5, hl326_1, hi326_1, hl326_2, hi326_2, hl326_5, hi326_5⟩ := at_T27 HR0.out 0 p326 q326
             obtain rfl : ad325 = ad326 := (by injection e326)
             have qi326 : (0 < l0.length) = True := eq_true (by omega)
             (try rw [t0n] at hx326_0)
             (try rw [show 0 * 6 = 0 from rfl] at hx326_0)
             (try rw [Addr.add_zero'] at hx326_0)
             (try rw [t0n] at hx326_1)
             (try rw [show 0 * 6 = 0 from rfl] at hx326_1)
             (try rw [Addr.add_zero'] at hx326_1)
             (try rw [t0n] at hx326_2)
             (try rw [show 0 * 6 = 0 from rfl] at hx326_2)
             (try rw [Addr.add_zero'] at hx326_2)
             (try rw [t0n] at hx326_3)
             (try rw [show 0 * 6 = 0 from rfl] at hx326_3)
             (try rw [Addr.add_zero'] at hx326_3)
             (try rw [t0n] at hx326_4)
             (try rw [show 0 * 6 = 0 from rfl] at hx326_4)
             (try rw [Addr.add_zero'] at hx326_4)
             (try rw [t0n] at hx326_5)
             (try rw [show 0 * 6 = 0 from rfl] at hx326_5)
             (try rw [Addr.add_zero'] at hx326_5)
             have HR326_1 := Aside0.mk hi326_1
             have HC326_1 := Aside0.mk hl326_1
             clear hi326_1 hl326_1
             have HR326_2 := Aside0.mk hi326_2
             have HC326_2 := Aside0.mk hl326_2
             clear hi326_2 hl326_2
             have HR326_5 := Aside0.mk hi326_5
             have HC326_5 := Aside0.mk hl326_5
             clear hi326_5 hl326_5
             replace p326 := eq_true p326
             replace q326 := eq_true q326
             have ea_ := Option.some.inj (hx325_1.symm.trans hx326_1)
             injection ea_ with ea_ en_ ec_
             subst ea_
             subst ec_
             clear en_
             have ea_ := Option.some.inj (hx325_2.symm.trans hx326_2)
             injection ea_ with ea_ en_ ec_
             subst ea_
             subst ec_
             clear en_
             have ea_ := Option.some.inj (hx325_5.symm.trans hx326_5)
             injection ea_ with ea_ en_ ec_
             subst ea_
             subst ec_
             clear en_
             have p327 : 0 ≤ (x9_4 : Int) := of_decide_eq_true tA
             have q327 : x9_4 < (((rd_T27 l0 0).f5).length : Int) := of_decide_eq_true tA
             obtain ⟨ad327, A327_0, c327_0, e327, hx327_0, hl327_0, hi327_0⟩ := at_L3 HR326_5.out x9_4 p327 q327
             cases e327
             have HR327_0 := Aside0.mk hi327_0
             have HC327_0 := Aside0.mk hl327_0
             clear hi327_0 hl327_0
             replace p327 := eq_true p327
             replace q327 := eq_true q327
             have p328 : 0 ≤ (0 : Int) := (by omega)
             have q328 : 0 < ((rd_L3 ((rd_T27 l0 0).f5) x9_4).length : Int) := of_decide_eq_true tA
             obtain ⟨ad328, e328, hx328_0⟩ := Kd.at_int HR327_0.out 0 p328 q328
             cases e328
             have qi328 : (0 < (rd_L3 ((rd_T27 l0 0).f5) x9_4).length) = True := eq_true (by omega)
             (try rw [t0n] at hx328_0)
             (try rw [Addr.add_zero'] at hx328_0)
             replace p328 := eq_true p328
             replace q328 := eq_true q328
             have p329 : 0 ≤ (x9_4 : Int) := of_decide_eq_true tA
             have q329 : x9_4 < (((rd_T27 l0 0).f5).length : Int) := of_decide_eq_true tA
             obtain ⟨ad329, A329_0, c329_0, e329, hx329_0, hl329_0, hi329_0⟩ := at_L3 HR326_5.out x9_4 p329 q329
             cases e329
             have HR329_0 := Aside0.mk hi329_0
             have HC329_0 := Aside0.mk hl329_0
             clear hi329_0 hl329_0
             replace p329 := eq_true p329
             replace q329 := eq_true q329
             have ea_ := Option.some.inj (hx327_0.symm.trans hx329_0)
             injection ea_ with ea_ en_ ec_
             subst ea_
             subst ec_
             clear en_
             have p330 : 0 ≤ (1 : Int) := (by omega)
             have q330 : 1 < ((rd_L3 ((rd_T27 l0 0).f5) x9_4).length : Int) := of_decide_eq_true tA
             obtain ⟨ad330, e330, hx330_0⟩ := Kd.at_int HR329_0.out 1 p330 q330
             cases e330
             (try simp only [show (1 : Int).toNat = 1 from rfl, Nat.reduceMul, Nat.reduceEqDiff, Go.Addr.add, ↓reduceIte] at hx330_0)
             have qi330 : (1 < (rd_L3 ((rd_T27 l0 0).f5) x9_4).length) = True := eq_true (by omega)
             (try rw [t1n] at hx330_0)
             replace p330 := eq_true p330
             replace q330 := eq_true q330
             go_wp2
             go_ret
             exact ⟨by first | rfl | (simp; done) | (simp [*]; done), tZ⟩
           rw [if_neg c26] at H
           have c26b0 : ((rd (rd_L3 ((rd_T27 l0 0).f5) x9_4) 1) == t317) = false := beq_eq_false_iff_ne.mpr c26
           have c26b1 : ((rd (rd_L3 ((rd_T27 l0 0).f5) x9_4) 1) != t317) = true := bne_iff_ne.mpr c26
           have H' := Aside0.mk H
           clear H
           have p325 : 0 ≤ (0 : Int) := (by omega)
           have q325 : 0 < (l0.length : Int) := of_decide_eq_true tA
           obtain ⟨ad325, A325_1, c325_1, A325_2, c325_2, A325_5, c325_5, e325, hx325_0, hx325_1, hx325_2, hx325_3, hx325_4, hx325_5, hl325_1, hi325_1, hl325_2, hi325_2, hl325_5, hi325_5⟩ := at_T27 HR0.out 0 p325 q325
           cases e325
           have qi325 : (0 < l0.length) = True := eq_true (by omega)
           (try rw [t0n] at hx325_0)
           (try rw [show 0 * 6 = 0 from rfl] at hx325_0)
           (try rw [Addr.add_zero'] at hx325_0)
           (try rw [t0n] at hx325_1)
           (try rw [show 0 * 6 = 0 from rfl] at hx325_1)
           (try rw [Addr.add_zero'] at hx325_1)
           (try rw [t0n] at hx325_2)
           (try rw [show 0 * 6 = 0 from rfl] at hx325_2)
           (try rw [Addr.add_zero'] at hx325_2)
           (try rw [t0n] at hx325_3)
           (try rw [show 0 * 6 = 0 from rfl] at hx325_3)
           (try rw [Addr.add_zero'] at hx325_3)
           (try rw [t0n] at hx325_4)
           (try rw [show 0 * 6 = 0 from rfl] at hx325_4)
           (try rw [Addr.add_zero'] at hx325_4)
           (try rw [t0n] at hx325_5)
           (try rw [show 0 * 6 = 0 from rfl] at hx325_5)
           (try rw [Addr.add_zero'] at hx325_5)
           have HR325_1 := Aside0.mk hi325_1
           have HC325_1 := Aside0.mk hl325_1
           clear hi325_1 hl325_1
           have HR325_2 := Aside0.mk hi325_2
           have HC325_2 := Aside0.mk hl325_2
           clear hi325_2 hl325_2
           have HR325_5 := Aside0.mk hi325_5
           have HC325_5 := Aside0.mk hl325_5
           clear hi325_5 hl325_5
           replace p325 := eq_true p325
           replace q325 := eq_true q325
           have p326 : 0 ≤ (0 : Int) := (by omega)
           have q326 : 0 < (l0.length : Int) := of_decide_eq_true tA
           obtain ⟨ad326, A326_1, c326_1, A326_2, c326_2, A326_5, c326_5, e326, hx326_0, hx326_1, hx326_2, hx326_3, hx326_4, hx326_5, hl326_1, hi326_1, hl326_2, hi326_2, hl326_5, hi326_5⟩ := at_T27 HR0.out 0 p326 q326
           obtain rfl : ad325 = ad326 := (by injection e326)
           have qi326 : (0 < l0.length) = True := eq_true (by omega)
           (try rw [t0n] at hx326_0)
           (try rw [show 0 * 6 = 0 from rfl] at hx326_0)
           (try rw [Addr.add_zero'] at hx326_0)
           (try rw [t0n] at hx326_1)
           (try rw [show 0 * 6 = 0 from rfl] at hx326_1)
           (try rw [Addr.add_zero'] at hx326_1)
           (try rw [t0n] at hx326_2)
           (try rw [show 0 * 6 = 0 from rfl] at hx326_2)
           (try rw [Addr.add_zero'] at hx326_2)
           (try rw [t0n] at hx326_3)
           (try rw [show 0 * 6 = 0 from rfl] at hx326_3)
           (try rw [Addr.add_zero'] at hx326_3)
           (try rw [t0n] at hx326_4)
           (try rw [show 0 * 6 = 0 from rfl] at hx326_4)
           (try rw [Addr.add_zero'] at hx326_4)
           (try rw [t0n] at hx326_5)
           (try rw [show 0 * 6 = 0 from rfl] at hx326_5)
           (try rw [Addr.add_zero'] at hx326_5)
           have HR326_1 := Aside0.mk hi326_1
           have HC326_1 := Aside0.mk hl326_1
           clear hi326_1 hl326_1
           have HR326_2 := Aside0.mk hi326_2
           have HC326_2 := Aside0.mk hl326_2
           clear hi326_2 hl326_2
           have HR326_5 := Aside0.mk hi326_5
           have HC326_5 := Aside0.mk hl326_5
           clear hi326_5 hl326_5
           replace p326 := eq_true p326
           replace q326 := eq_true q326
           have ea_ := Option.some.inj (hx325_1.symm.trans hx326_1)
           injection ea_ with ea_ en_ ec_
           subst ea_
           subst ec_
           clear en_
           have ea_ := Option.some.inj (hx325_2.symm.trans hx326_2)
           injection ea_ with ea_ en_ ec_
           subst ea_
           subst ec_
           clear en_
           have ea_ := Option.some.inj (hx325_5.symm.trans hx326_5)
           injection ea_ with ea_ en_ ec_
           subst ea_
           subst ec_
           clear en_
           have p327 : 0 ≤ (x9_4 : Int) := of_decide_eq_true tA
           have q327 : x9_4 < (((rd_T27 l0 0).f5).length : Int) := of_decide_eq_true tA
           obtain ⟨ad327, A327_0, c327_0, e327, hx327_0, hl327_0, hi327_0⟩ := at_L3 HR326_5.out x9_4 p327 q327
           cases e327
           have HR327_0 := Aside0.mk hi327_0
           have HC327_0 := Aside0.mk hl327_0
           clear hi327_0 hl327_0
           replace p327 := eq_true p327
           replace q327 := eq_true q327
           have p328 : 0 ≤ (0 : Int) := (by omega)
           have q328 : 0 < ((rd_L3 ((rd_T27 l0 0).f5) x9_4).length : Int) := of_decide_eq_true tA
           obtain ⟨ad328, e328, hx328_0⟩ := Kd.at_int HR327_0.out 0 p328 q328
           cases e328
           have qi328 : (0 < (rd_L3 ((rd_T27 l0 0).f5) x9_4).length) = True := eq_true (by omega)
           (try rw [t0n] at hx328_0)
           (try rw [Addr.add_zero'] at hx328_0)
           replace p328 := eq_true p328
           replace q328 := eq_true q328
           have p329 : 0 ≤ (x9_4 : Int) := of_decide_eq_true tA
           have q329 : x9_4 < (((rd_T27 l0 0).f5).length : Int) := of_decide_eq_true tA
           obtain ⟨ad329, A329_0, c329_0, e329, hx329_0, hl329_0, hi329_0⟩ := at_L3 HR326_5.out x9_4 p329 q329
           cases e329
           have HR329_0 := Aside0.mk hi329_0
           have HC329_0 := Aside0.mk hl329_0
           clear hi329_0 hl329_0
           replace p329 := eq_true p329
           replace q329 := eq_true q329
           have ea_ := Option.some.inj (hx327_0.symm.trans hx329_0)
           injection ea_ with ea_ en_ ec_
           subst ea_
           subst ec_
           clear en_
           have p330 : 0 ≤ (1 : Int) := (by omega)
           have q330 : 1 < ((rd_L3 ((rd_T27 l0 0).f5) x9_4).length : Int) := of_decide_eq_true tA
           obtain ⟨ad330, e330, hx330_0⟩ := Kd.at_int HR329_0.out 1 p330 q330
           cases e330
           (try simp only [show (1 : Int).toNat = 1 from rfl, Nat.reduceMul, Nat.reduceEqDiff, Go.Addr.add, ↓reduceIte] at hx330_0)
           have qi330 : (1 < (rd_L3 ((rd_T27 l0 0).f5) x9_4).length) = True := eq_true (by omega)
           (try rw [t1n] at hx330_0)
           replace p330 := eq_true p330
           replace q330 := eq_true q330
           go_wp2
           go_roundg k4
           case measure => have := HJ5.out; have := HJ12.out; have := HJ16.out; have := HK4.out; omega
           case rel => exact ⟨(wrap64 (x9_4 + 1)), tq, H', ⟨by have := HJ5.out; have := HJ12.out; have := HJ16.out; have := HK4.out; omega⟩, tZ⟩
         rw [if_neg c25] at H
         exact absurd H (by simp)
       rw [if_neg c24] at H
       have c24b0 : ((rd (rd_L3 ((rd_T27 l0 0).f5) x9_4) 0) == t316) = false := beq_eq_false_iff_ne.mpr c24
       have c24b1 : ((rd (rd_L3 ((rd_T27 l0 0).f5) x9_4) 0) != t316) = true := bne_iff_ne.mpr c24
       have H' := Aside0.mk H
       clear H
       have p325 : 0 ≤ (0 : Int) := (by omega)
       have q325 : 0 < (l0.length : Int) := of_decide_eq_true tA
       obtain ⟨ad325, A325_1, c325_1, A325_2, c325_2, A325_5, c325_5, e325, hx325_0, hx325_1, hx325_2, hx325_3, hx325_4, hx325_5, hl325_1, hi325_1, hl325_2, hi325_2, hl325_5, hi325_5⟩ := at_T27 HR0.out 0 p325 q325
       cases e325
       have qi325 : (0 < l0.length) = True := eq_true (by omega)
       (try rw [t0n] at hx325_0)
       (try rw [show 0 * 6 = 0 from rfl] at hx325_0)
       (try rw [Addr.add_zero'] at hx325_0)
       (try rw [t0n] at hx325_1)
       (try rw [show 0 * 6 = 0 from rfl] at hx325_1)
       (try rw [Addr.add_zero'] at hx325_1)
       (try rw [t0n] at hx325_2)
       (try rw [show 0 * 6 = 0 from rfl] at hx325_2)
       (try rw [Addr.add_zero'] at hx325_2)
       (try rw [t0n] at hx325_3)
       (try rw [show 0 * 6 = 0 from rfl] at hx325_3)
       (try rw [Addr.add_zero'] at hx325_3)
       (try rw [t0n] at hx325_4)
       (try rw [show 0 * 6 = 0 from rfl] at hx325_4)
       (try rw [Addr.add_zero'] at hx325_4)
       (try rw [t0n] at hx325_5)
       (try rw [show 0 * 6 = 0 from rfl] at hx325_5)
       (try rw [Addr.add_zero'] at hx325_5)
       have HR325_1 := Aside0.mk hi325_1
       have HC325_1 := Aside0.mk hl325_1
       clear hi325_1 hl325_1
       have HR325_2 := Aside0.mk hi325_2
       have HC325_2 := Aside0.mk hl325_2
       clear hi325_2 hl325_2
       have HR325_5 := Aside0.mk hi325_5
       have HC325_5 := Aside0.mk hl325_5
       clear hi325_5 hl325_5
       replace p325 := eq_true p325
       replace q325 := eq_true q325
       have p326 : 0 ≤ (0 : Int) := (by omega)
       have q326 : 0 < (l0.length : Int) := of_decide_eq_true tA
       obtain ⟨ad326, A326_1, c326_1, A326_2, c326_2, A326_5, c326_5, e326, hx326_0, hx326_1, hx326_2, hx326_3, hx326_4, hx326_5, hl326_1, hi326_1, hl326_2, hi326_2, hl326_5, hi326_5⟩ := at_T27 HR0.out 0 p326 q326
       obtain rfl : ad325 = ad326 := (by injection e326)
       have qi326 : (0 < l0.length) = True := eq_true (by omega)
       (try rw [t0n] at hx326_0)
       (try rw [show 0 * 6 = 0 from rfl] at hx326_0)
       (try rw [Addr.add_zero'] at hx326_0)
       (try rw [t0n] at hx326_1)
       (try rw [show 0 * 6 = 0 from rfl] at hx326_1)
       (try rw [Addr.add_zero'] at hx326_1)
       (try rw [t0n] at hx326_2)
       (try rw [show 0 * 6 = 0 from rfl] at hx326_2)
       (try rw [Addr.add_zero'] at hx326_2)
       (try rw [t0n] at hx326_3)
       (try rw [show 0 * 6 = 0 from rfl] at hx326_3)
       (try rw [Addr.add_zero'] at hx326_3)
       (try rw [t0n] at hx326_4)
       (try rw [show 0 * 6 = 0 from rfl] at hx326_4)
       (try rw [Addr.add_zero'] at hx326_4)
       (try rw [t0n] at hx326_5)
       (try rw [show 0 * 6 = 0 from rfl] at hx326_5)
       (try rw [Addr.add_zero'] at hx326_5)
       have HR326_1 := Aside0.mk hi326_1
       have HC326_1 := Aside0.mk hl326_1
       clear hi326_1 hl326_1
       have HR326_2 := Aside0.mk hi326_2
       have HC326_2 := Aside0.mk hl326_2
       clear hi326_2 hl326_2
       have HR326_5 := Aside0.mk hi326_5
       have HC326_5 := Aside0.mk hl326_5
       clear hi326_5 hl326_5
       replace p326 := eq_true p326
       replace q326 := eq_true q326
       have ea_ := Option.some.inj (hx325_1.symm.trans hx326_1)
       injection ea_ with ea_ en_ ec_
       subst ea_
       subst ec_
       clear en_
       have ea_ := Option.some.inj (hx325_2.symm.trans hx326_2)
       injection ea_ with ea_ en_ ec_
       subst ea_
       subst ec_
       clear en_
       have ea_ := Option.some.inj (hx325_5.symm.trans hx326_5)
       injection ea_ with ea_ en_ ec_
       subst ea_
       subst ec_
       clear en_
       have p327 : 0 ≤ (x9_4 : Int) := of_decide_eq_true tA
       have q327 : x9_4 < (((rd_T27 l0 0).f5).length : Int) := of_decide_eq_true tA
       obtain ⟨ad327, A327_0, c327_0, e327, hx327_0, hl327_0, hi327_0⟩ := at_L3 HR326_5.out x9_4 p327 q327
       cases e327
       have HR327_0 := Aside0.mk hi327_0
       have HC327_0 := Aside0.mk hl327_0
       clear hi327_0 hl327_0
       replace p327 := eq_true p327
       replace q327 := eq_true q327
       have p328 : 0 ≤ (0 : Int) := (by omega)
       have q328 : 0 < ((rd_L3 ((rd_T27 l0 0).f5) x9_4).length : Int) := of_decide_eq_true tA
       obtain ⟨ad328, e328, hx328_0⟩ := Kd.at_int HR327_0.out 0 p328 q328
       cases e328
       have qi328 : (0 < (rd_L3 ((rd_T27 l0 0).f5) x9_4).length) = True := eq_true (by omega)
       (try rw [t0n] at hx328_0)
       (try rw [Addr.add_zero'] at hx328_0)
       replace p328 := eq_true p328
       replace q328 := eq_true q328
       go_wp2
       go_roundg k4
       case measure => have := HJ5.out; have := HJ12.out; have := HJ16.out; have := HK4.out; omega
       case rel => exact ⟨(wrap64 (x9_4 + 1)), tq, H', ⟨by have := HJ5.out; have := HJ12.out; have := HJ16.out; have := HK4.out; omega⟩, tZ⟩
     rw [if_neg c23] at H
     exact absurd H (by simp)
   rw [if_neg c22] at H
   exact absurd H (by simp)
 rw [if_neg c21] at H
 have c21b0 : decide (x9_4 < (((rd_T27 l0 0).f5).length : Int)) = false := decide_eq_false c21
 clear c21
 obtain rfl := Option.some.inj H
 have p325 : 0 ≤ (0 : Int) := (by omega)
 have q325 : 0 < (l0.length : Int) := of_decide_eq_true tA
 obtain ⟨ad325, A325_1, c325_1, A325_2, c325_2, A325_5, c325_5, e325, hx325_0, hx325_1, hx325_2, hx325_3, hx325_4, hx325_5, hl325_1, hi325_1, hl325_2, hi325_2, hl325_5, hi325_5⟩ := at_T27 HR0.out 0 p325 q325
 cases e325
 have qi325 : (0 < l0.length) = True := eq_true (by omega)
 (try rw [t0n] at hx325_0)
 (try rw [show 0 * 6 = 0 from rfl] at hx325_0)
 (try rw [Addr.add_zero'] at hx325_0)
 (try rw [t0n] at hx325_1)
 (try rw [show 0 * 6 = 0 from rfl] at hx325_1)
 (try rw [Addr.add_zero'] at hx325_1)
 (try rw [t0n] at hx325_2)
 (try rw [show 0 * 6 = 0 from rfl] at hx325_2)
 (try rw [Addr.add_zero'] at hx325_2)
 (try rw [t0n] at hx325_3)
 (try rw [show 0 * 6 = 0 from rfl] at hx325_3)
 (try rw [Addr.add_zero'] at hx325_3)
 (try rw [t0n] at hx325_4)
 (try rw [show 0 * 6 = 0 from rfl] at hx325_4)
 (try rw [Addr.add_zero'] at hx325_4)
 (try rw [t0n] at hx325_5)
 (try rw [show 0 * 6 = 0 from rfl] at hx325_5)
 (try rw [Addr.add_zero'] at hx325_5)
 have HR325_1 := Aside0.mk hi325_1
 have HC325_1 := Aside0.mk hl325_1
 clear hi325_1 hl325_1
 have HR325_2 := Aside0.mk hi325_2
 have HC325_2 := Aside0.mk hl325_2
 clear hi325_2 hl325_2
 have HR325_5 := Aside0.mk hi325_5
 have HC325_5 := Aside0.mk hl325_5
 clear hi325_5 hl325_5
 replace p325 := eq_true p325
 replace q325 := eq_true q325
 go_wp2
 go_ret
 exact ⟨by first | rfl | (simp; done) | (simp [*]; done), tZ⟩

end Go.Proofs.Ytbedlmlofnphkaa.PZ
