-- WRITTEN BY wip/gprint.py, a program of this session's over the kit's print, with contracts given by hand
import Derived.Test.YtbedlmlofnphkaaPZx0
namespace Go.Proofs.Ytbedlmlofnphkaa.PZ
open Go.RowKit Go.Proofs.YtbedlmlofnphkaaW.PrintWords Go.Proofs.YtbedlmlofnphkaaW.PrintLast Go.Proofs.YtbedlmlofnphkaaW.PrintMore
attribute [local go_sem] max2_int min2_int max_two min_two max_three min_three max_four min_four   -- for this text's walks alone
set_option linter.unusedVariables false
set_option linter.unusedSimpArgs false

/-! ### spec_l00Has: function 241 -/
def spec_l00Has.l0 : Nat → List Int → Int → Int → Option (Bool)
 | 0, _, _, _ => none
 | k + 1, x0, x1, x5 => if x5 < (x0.length : Int) then (if 0 ≤ x5 then (if (rd x0 x5) = x1 then (some true) else (spec_l00Has.l0 k x0 x1 (wrap64 (x5 + 1)))) else (none)) else (some false)
def spec_l00Has.f (k : Nat) (l0 : List Int) (a1 : Int) : Option (Bool) := spec_l00Has.l0 k l0 a1 0
theorem spec_l00Has.mono_l : ∀ k, (∀ y0 y1 y2, LeO (spec_l00Has.l0 k y0 y1 y2) (spec_l00Has.l0 (k + 1) y0 y1 y2))
 | 0 => fun _ _ _ r h => by simp [spec_l00Has.l0] at h
 | k + 1 => by
  have ih0 := spec_l00Has.mono_l k
  · intro y0 y1 y2
    unfold spec_l00Has.l0
    repeat' first
    | (with_reducible exact ih0 _ _ _)
    | (with_reducible exact LeO.refl _)
    | (with_reducible exact LeO.none _)
    | (with_reducible refine LeO.ite ?_ ?_)
    | (with_reducible refine LeO.bind ?_ (fun _ => ?_))
    | exact ih0 _ _ _
    | exact LeO.none _
    | refine LeO.ite ?_ ?_
    | refine LeO.bind ?_ (fun _ => ?_)
theorem spec_l00Has.mono : ∀ a0 a1 k, LeO (spec_l00Has.f k a0 a1) (spec_l00Has.f (k + 1) a0 a1) := by
 intro a0 a1 k
 have ih0 := spec_l00Has.mono_l k
 unfold spec_l00Has.f
 repeat' first
  | (with_reducible exact ih0 _ _ _)
  | (with_reducible exact LeO.refl _)
  | (with_reducible exact LeO.none _)
  | (with_reducible refine LeO.ite ?_ ?_)
  | (with_reducible refine LeO.bind ?_ (fun _ => ?_))
  | exact ih0 _ _ _
  | exact LeO.none _
  | refine LeO.ite ?_ ?_
  | refine LeO.bind ?_ (fun _ => ?_)
set_option maxHeartbeats 8000000 in
set_option maxRecDepth 100000 in
theorem spec_l00Has.calls (k : Nat) (A0 : Option Addr) (c0 : Nat) (l0 : List Int) (a1 : Int) (r : Bool) (w : World) (hr0 : Kd.C (Kd.int .i64) w A0 l0.length l0) (hc0 : l0.length ≤ c0) (h : spec_l00Has.f k l0 a1 = some r) :
 Calls Try.prog 241 #[.slice A0 l0.length c0, .int .i64 a1] w fun e w' => e = .returned (.bool r) ∧ Drawn0 w w' := by
 have HR0 := Aside0.mk hr0
 have HC0 := Aside0.mk hc0
 clear hr0 hc0
 have H : (spec_l00Has.l0 k l0 a1 0) = some r := h
 clear h
 have H' := Aside0.mk H
 clear H
 go_enter Try.func241, Try.ntmps241
 go_wp2
 go_loopg [5] k (fun kq v5 w' => ∃ (x5_1 : Int), v5 = .int .i64 x5_1 ∧ Aside0 (spec_l00Has.l0 kq l0 a1 x5_1 = some r) ∧ Aside0 (kq ≤ k) ∧ Drawn0 w w')
 case atStart => exact ⟨(0), tq, H', ⟨Nat.le_refl _⟩, tZ⟩
 case round =>
 clear H'
 try clear c2
 try clear p2
 obtain ⟨x5_1, rfl, HA, HK1, ⟨m1, rfl⟩⟩ := hrel
 cases gk with
 | zero => exact absurd HA.out (by simp [spec_l00Has.l0])
 | succ k1 =>
 have H := HA.out
 clear HA
 simp only [spec_l00Has.l0] at H
 by_cases c3 : x5_1 < (l0.length : Int)
 · rw [if_pos c3] at H
   have c3b0 : decide (x5_1 < (l0.length : Int)) = true := decide_eq_true c3
   clear c3
   by_cases c4 : 0 ≤ x5_1
   · rw [if_pos c4] at H
     have c4b0 : decide (0 ≤ x5_1) = true := decide_eq_true c4
     clear c4
     by_cases c5 : (rd l0 x5_1) = a1
     · rw [if_pos c5] at H
       have c5b0 : ((rd l0 x5_1) == a1) = true := beq_iff_eq.mpr c5
       have c5b1 : ((rd l0 x5_1) != a1) = false := bne_eq_false_iff_eq.mpr c5
       clear c5
       obtain rfl := Option.some.inj H
       have p156 : 0 ≤ (x5_1 : Int) := of_decide_eq_true tA
       have q156 : x5_1 < (l0.length : Int) := of_decide_eq_true tA
       obtain ⟨ad156, e156, hx156_0⟩ := Kd.at_int HR0.out x5_1 p156 q156
       cases e156
       replace p156 := eq_true p156
       replace q156 := eq_true q156
       go_wp2
       go_ret
       exact ⟨by first | rfl | (simp; done) | (simp [*]; done), tZ⟩
     rw [if_neg c5] at H
     have c5b0 : ((rd l0 x5_1) == a1) = false := beq_eq_false_iff_ne.mpr c5
     have c5b1 : ((rd l0 x5_1) != a1) = true := bne_iff_ne.mpr c5
     have H' := Aside0.mk H
     clear H
     have p156 : 0 ≤ (x5_1 : Int) := of_decide_eq_true tA
     have q156 : x5_1 < (l0.length : Int) := of_decide_eq_true tA
     obtain ⟨ad156, e156, hx156_0⟩ := Kd.at_int HR0.out x5_1 p156 q156
     cases e156
     replace p156 := eq_true p156
     replace q156 := eq_true q156
     go_wp2
     go_roundg k1
     case measure => have := HK1.out; omega
     case rel => exact ⟨(wrap64 (x5_1 + 1)), tq, H', ⟨by have := HK1.out; omega⟩, tZ⟩
   rw [if_neg c4] at H
   exact absurd H (by simp)
 rw [if_neg c3] at H
 have c3b0 : decide (x5_1 < (l0.length : Int)) = false := decide_eq_false c3
 clear c3
 obtain rfl := Option.some.inj H
 go_wp2
 go_ret
 exact ⟨by first | rfl | (simp; done) | (simp [*]; done), tZ⟩

/-! ### spec_l05Tone: function 210 -/
def spec_l05Tone.f (k : Nat) (l0 : List (S27)) (a1 : Int) : Option (Bool) := (spec_l00Has.f k ((rd_T27 l0 0).f1) a1).bind fun t158 => (if t158 = true then (some true) else ((spec_l00Has.f k ((rd_T27 l0 0).f2) a1).bind fun t159 => (some t159)))
theorem spec_l05Tone.mono : ∀ a0 a1 k, LeO (spec_l05Tone.f k a0 a1) (spec_l05Tone.f (k + 1) a0 a1) := by
 intro a0 a1 k
 unfold spec_l05Tone.f
 repeat' first
  | (with_reducible exact spec_l00Has.mono _ _ _)
  | (with_reducible exact LeO.refl _)
  | (with_reducible exact LeO.none _)
  | (with_reducible refine LeO.ite ?_ ?_)
  | (with_reducible refine LeO.bind ?_ (fun _ => ?_))
  | exact spec_l00Has.mono _ _ _
  | exact LeO.none _
  | refine LeO.ite ?_ ?_
  | refine LeO.bind ?_ (fun _ => ?_)
set_option maxHeartbeats 8000000 in
set_option maxRecDepth 100000 in
theorem spec_l05Tone.calls (k : Nat) (A0 : Option Addr) (l0 : List (S27)) (a1 : Int) (r : Bool) (w : World) (hr0 : Kd.C k27 w A0 l0.length l0) (hn0 : 0 < l0.length) (h : spec_l05Tone.f k l0 a1 = some r) :
 Calls Try.prog 210 #[.pointer A0, .int .i64 a1] w fun e w' => e = .returned (.bool r) ∧ Drawn0 w w' := by
 have HR0 := Aside0.mk hr0
 clear hr0
 have HN0 := Aside0.mk hn0
 have hn0b0 : decide ((0 : Int) < (l0.length : Int)) = true := decide_eq_true (Int.ofNat_lt.2 hn0)
 have hn0b1 : decide (0 < l0.length) = true := decide_eq_true hn0
 clear hn0
 have H : ((spec_l00Has.f k ((rd_T27 l0 0).f1) a1).bind fun t158 => (if t158 = true then (some true) else ((spec_l00Has.f k ((rd_T27 l0 0).f2) a1).bind fun t159 => (some t159)))) = some r := h
 clear h
 replace H := Option.bind_eq_some_iff.mp H
 obtain ⟨t158, A30, H⟩ := H
 replace H : (if t158 = true then (some true) else ((spec_l00Has.f k ((rd_T27 l0 0).f2) a1).bind fun t159 => (some t159))) = some r := H
 have A3 := Aside0.mk A30
 clear A30
 by_cases c4 : t158 = true
 · subst c4
   have H1 : (some true) = some r := by rw [if_pos rfl] at H; exact H
   clear H
   have H := H1
   clear H1
   obtain rfl := Option.some.inj H
   have p157 : 0 ≤ (0 : Int) := (by omega)
   have q157 : 0 < (l0.length : Int) := of_decide_eq_true tA
   obtain ⟨ad157, A157_1, c157_1, A157_2, c157_2, A157_5, c157_5, e157, hx157_0, hx157_1, hx157_2, hx157_3, hx157_4, hx157_5, hl157_1, hi157_1, hl157_2, hi157_2, hl157_5, hi157_5⟩ := at_T27 HR0.out 0 p157 q157
   cases e157
   have qi157 : (0 < l0.length) = True := eq_true (by omega)
   (try rw [t0n] at hx157_0)
   (try rw [show 0 * 6 = 0 from rfl] at hx157_0)
   (try rw [Addr.add_zero'] at hx157_0)
   (try rw [t0n] at hx157_1)
   (try rw [show 0 * 6 = 0 from rfl] at hx157_1)
   (try rw [Addr.add_zero'] at hx157_1)
   (try rw [t0n] at hx157_2)
   (try rw [show 0 * 6 = 0 from rfl] at hx157_2)
   (try rw [Addr.add_zero'] at hx157_2)
   (try rw [t0n] at hx157_3)
   (try rw [show 0 * 6 = 0 from rfl] at hx157_3)
   (try rw [Addr.add_zero'] at hx157_3)
   (try rw [t0n] at hx157_4)
   (try rw [show 0 * 6 = 0 from rfl] at hx157_4)
   (try rw [Addr.add_zero'] at hx157_4)
   (try rw [t0n] at hx157_5)
   (try rw [show 0 * 6 = 0 from rfl] at hx157_5)
   (try rw [Addr.add_zero'] at hx157_5)
   have HR157_1 := Aside0.mk hi157_1
   have HC157_1 := Aside0.mk hl157_1
   clear hi157_1 hl157_1
   have HR157_2 := Aside0.mk hi157_2
   have HC157_2 := Aside0.mk hl157_2
   clear hi157_2 hl157_2
   have HR157_5 := Aside0.mk hi157_5
   have HC157_5 := Aside0.mk hl157_5
   clear hi157_5 hl157_5
   replace p157 := eq_true p157
   replace q157 := eq_true q157
   go_enter Try.func210, Try.ntmps210
   go_wp2_with (first | ((with_reducible refine gate_callee (f := 241) rfl ?_); refine gL_ (some 10) rfl rfl Try.func241 #[.slice A157_1 ((rd_T27 l0 0).f1).length c157_1, .int .i64 a1] rfl ?_; (with_reducible refine (spec_l00Has.calls k _ _ ((rd_T27 l0 0).f1) a1 true _ ?side1 ?side2 A3.out).mono ?_); (case side1 => exact tC HR157_1.out); (case side2 => exact HC157_1.out); rintro e w' ⟨rfl, ⟨nd, rfl⟩⟩; refine ⟨_, rfl, ?_⟩))
   go_ret
   exact ⟨by first | rfl | (simp; done) | (simp [*]; done), tZ⟩
 replace c4 := Bool.eq_false_iff.mpr c4
 subst c4
 have H1 : ((spec_l00Has.f k ((rd_T27 l0 0).f2) a1).bind fun t159 => (some t159)) = some r := by rw [if_neg (show ¬ (false = true) by decide)] at H; exact H
 clear H
 have H := H1
 clear H1
 replace H := Option.bind_eq_some_iff.mp H
 obtain ⟨t159, A50, H⟩ := H
 replace H : (some t159) = some r := H
 have A5 := Aside0.mk A50
 clear A50
 obtain rfl := Option.some.inj H
 have p157 : 0 ≤ (0 : Int) := (by omega)
 have q157 : 0 < (l0.length : Int) := of_decide_eq_true tA
 obtain ⟨ad157, A157_1, c157_1, A157_2, c157_2, A157_5, c157_5, e157, hx157_0, hx157_1, hx157_2, hx157_3, hx157_4, hx157_5, hl157_1, hi157_1, hl157_2, hi157_2, hl157_5, hi157_5⟩ := at_T27 HR0.out 0 p157 q157
 cases e157
 have qi157 : (0 < l0.length) = True := eq_true (by omega)
 (try rw [t0n] at hx157_0)
 (try rw [show 0 * 6 = 0 from rfl] at hx157_0)
 (try rw [Addr.add_zero'] at hx157_0)
 (try rw [t0n] at hx157_1)
 (try rw [show 0 * 6 = 0 from rfl] at hx157_1)
 (try rw [Addr.add_zero'] at hx157_1)
 (try rw [t0n] at hx157_2)
 (try rw [show 0 * 6 = 0 from rfl] at hx157_2)
 (try rw [Addr.add_zero'] at hx157_2)
 (try rw [t0n] at hx157_3)
 (try rw [show 0 * 6 = 0 from rfl] at hx157_3)
 (try rw [Addr.add_zero'] at hx157_3)
 (try rw [t0n] at hx157_4)
 (try rw [show 0 * 6 = 0 from rfl] at hx157_4)
 (try rw [Addr.add_zero'] at hx157_4)
 (try rw [t0n] at hx157_5)
 (try rw [show 0 * 6 = 0 from rfl] at hx157_5)
 (try rw [Addr.add_zero'] at hx157_5)
 have HR157_1 := Aside0.mk hi157_1
 have HC157_1 := Aside0.mk hl157_1
 clear hi157_1 hl157_1
 have HR157_2 := Aside0.mk hi157_2
 have HC157_2 := Aside0.mk hl157_2
 clear hi157_2 hl157_2
 have HR157_5 := Aside0.mk hi157_5
 have HC157_5 := Aside0.mk hl157_5
 clear hi157_5 hl157_5
 replace p157 := eq_true p157
 replace q157 := eq_true q157
 go_enter Try.func210, Try.ntmps210
 go_wp2_with (first | ((with_reducible refine gate_callee (f := 241) rfl ?_); refine gL_ (some 10) rfl rfl Try.func241 #[.slice A157_1 ((rd_T27 l0 0).f1).length c157_1, .int .i64 a1] rfl ?_; (with_reducible refine (spec_l00Has.calls k _ _ ((rd_T27 l0 0).f1) a1 false _ ?side1 ?side2 A3.out).mono ?_); (case side1 => exact tC HR157_1.out); (case side2 => exact HC157_1.out); rintro e w' ⟨rfl, ⟨nd, rfl⟩⟩; refine ⟨_, rfl, ?_⟩) | (go_at_call 241; (with_reducible refine (spec_l00Has.calls k _ _ ((rd_T27 l0 0).f2) a1 t159 _ ?side1 ?side2 A5.out).mono ?_); (case side1 => exact tC HR157_2.out); (case side2 => exact HC157_2.out); rintro e w' ⟨rfl, ⟨nd, rfl⟩⟩))
 go_ret
 exact ⟨by first | rfl | (simp; done) | (simp [*]; done), tZ⟩

/-! ### spec_l01Small: function 271 -/
def spec_l01Small.f (a0 : Int) : Option (Bool) := if a0 ≥ 97 then (some (decide (a0 ≤ 122))) else (some false)
set_option maxHeartbeats 8000000 in
set_option maxRecDepth 100000 in
theorem spec_l01Small.calls (a0 : Int) (r : Bool) (w : World) (h : spec_l01Small.f a0 = some r) :
 Calls Try.prog 271 #[.int .u8 a0] w fun e w' => e = .returned (.bool r) ∧ Drawn0 w w' := by
 have H : (if a0 ≥ 97 then (some (decide (a0 ≤ 122))) else (some false)) = some r := h
 clear h
 by_cases c2 : a0 ≥ 97
 · rw [if_pos c2] at H
   have c2b0 : decide (97 ≤ a0) = true := decide_eq_true c2
   clear c2
   obtain rfl := Option.some.inj H
   go_enter Try.func271, Try.ntmps271
   go_wp2
   go_ret
   exact ⟨by first | rfl | (simp; done) | (simp [*]; done), tZ⟩
 rw [if_neg c2] at H
 have c2b0 : decide (97 ≤ a0) = false := decide_eq_false c2
 clear c2
 obtain rfl := Option.some.inj H
 go_enter Try.func271, Try.ntmps271
 go_wp2
 go_ret
 exact ⟨by first | rfl | (simp; done) | (simp [*]; done), tZ⟩

/-! ### spec_l01Digit: function 272 -/
def spec_l01Digit.f (a0 : Int) : Option (Bool) := if a0 ≥ 48 then (some (decide (a0 ≤ 57))) else (some false)
set_option maxHeartbeats 8000000 in
set_option maxRecDepth 100000 in
theorem spec_l01Digit.calls (a0 : Int) (r : Bool) (w : World) (h : spec_l01Digit.f a0 = some r) :
 Calls Try.prog 272 #[.int .u8 a0] w fun e w' => e = .returned (.bool r) ∧ Drawn0 w w' := by
 have H : (if a0 ≥ 48 then (some (decide (a0 ≤ 57))) else (some false)) = some r := h
 clear h
 by_cases c2 : a0 ≥ 48
 · rw [if_pos c2] at H
   have c2b0 : decide (48 ≤ a0) = true := decide_eq_true c2
   clear c2
   obtain rfl := Option.some.inj H
   go_enter Try.func272, Try.ntmps272
   go_wp2
   go_ret
   exact ⟨by first | rfl | (simp; done) | (simp [*]; done), tZ⟩
 rw [if_neg c2] at H
 have c2b0 : decide (48 ≤ a0) = false := decide_eq_false c2
 clear c2
 obtain rfl := Option.some.inj H
 go_enter Try.func272, Try.ntmps272
 go_wp2
 go_ret
 exact ⟨by first | rfl | (simp; done) | (simp [*]; done), tZ⟩

end Go.Proofs.Ytbedlmlofnphkaa.PZ
