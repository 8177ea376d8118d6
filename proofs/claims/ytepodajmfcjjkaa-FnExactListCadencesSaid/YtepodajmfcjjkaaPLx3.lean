-- WRITTEN BY wip/gprint.py, a program of this session's over the kit's print, with contracts given by hand
import Derived.Test.YtepodajmfcjjkaaPLx0
import Derived.Test.YtepodajmfcjjkaaPLx1
import Derived.Test.YtepodajmfcjjkaaPLx2
namespace Go.Proofs.Ytepodajmfcjjkaa.PL
open Go.RowKit Go.Proofs.YtepodajmfcjjkaaW.PrintWords Go.Proofs.YtepodajmfcjjkaaW.PrintLast Go.Proofs.YtepodajmfcjjkaaW.PrintMore
attribute [local go_sem] max2_int min2_int max_two min_two max_three min_three max_four min_four   -- for this text's walks alone
set_option linter.unusedVariables false
set_option linter.unusedSimpArgs false

/-! ### spec_l17Ok: function 37 -/
mutual
def spec_l17Ok.j0 : Nat → List (S29) → Int → Bool → Option (Bool)
 | 0, _, _, _ => none
 | k + 1, x0, x3, x29 => if x29 = true then (some false) else (spec_l17Ok.l0 k x0 x3 0)
def spec_l17Ok.l0 : Nat → List (S29) → Int → Int → Option (Bool)
 | 0, _, _, _ => none
 | k + 1, x0, x3, x4 => if x4 < x3 then (if 0 ≤ x4 then (if x4 < (((rd_T29 x0 0).f1).length : Int) then ((spec_l00In.f (rd ((rd_T29 x0 0).f1) x4) 1 16).bind fun t116 => (if t116 = true then (if x4 = 0 then (if x4 < (((rd_T29 x0 0).f2).length : Int) then (if (rd ((rd_T29 x0 0).f2) x4) = 1 then (if x4 > 0 then ((spec_l00In.f (rd ((rd_T29 x0 0).f2) x4) 2 3).bind fun t120 => (if t120 = true then (spec_l17Ok.l0 k x0 x3 (wrap64 (x4 + 1))) else (some false))) else (spec_l17Ok.l0 k x0 x3 (wrap64 (x4 + 1)))) else (some false)) else (none)) else (if x4 > 0 then (if x4 < (((rd_T29 x0 0).f2).length : Int) then ((spec_l00In.f (rd ((rd_T29 x0 0).f2) x4) 2 3).bind fun t123 => (if t123 = true then (spec_l17Ok.l0 k x0 x3 (wrap64 (x4 + 1))) else (some false))) else (none)) else (spec_l17Ok.l0 k x0 x3 (wrap64 (x4 + 1))))) else (some false))) else (none)) else (none)) else ((spec_l17Sum.f k ((rd_T29 x0 0).f1)).bind fun t113 => (some (decide (t113 ≤ 32))))
end
def spec_l17Ok.f (k : Nat) (l0 : List (S29)) : Option (Bool) := (spec_l01Name.f k ((rd_T29 l0 0).f0)).bind fun t110 => (if t110 = true then ((spec_l00In.f (((rd_T29 l0 0).f1).length : Int) 1 8).bind fun t111 => (if t111 = true then (spec_l17Ok.j0 k l0 (((rd_T29 l0 0).f1).length : Int) ((((rd_T29 l0 0).f2).length : Int) != (((rd_T29 l0 0).f1).length : Int))) else (spec_l17Ok.j0 k l0 (((rd_T29 l0 0).f1).length : Int) true))) else (spec_l17Ok.j0 k l0 (((rd_T29 l0 0).f1).length : Int) true))
theorem spec_l17Ok.mono_l : ∀ k, (∀ y0 y1 y2, LeO (spec_l17Ok.j0 k y0 y1 y2) (spec_l17Ok.j0 (k + 1) y0 y1 y2)) ∧ (∀ y0 y1 y2, LeO (spec_l17Ok.l0 k y0 y1 y2) (spec_l17Ok.l0 (k + 1) y0 y1 y2))
 | 0 => ⟨fun _ _ _ r h => by simp [spec_l17Ok.j0] at h, fun _ _ _ r h => by simp [spec_l17Ok.l0] at h⟩
 | k + 1 => by
  obtain ⟨ih0, ih1⟩ := spec_l17Ok.mono_l k
  refine ⟨?_, ?_⟩
  · intro y0 y1 y2
    unfold spec_l17Ok.j0
    repeat' first
    | (with_reducible exact ih0 _ _ _)
    | (with_reducible exact ih1 _ _ _)
    | (with_reducible exact spec_l01Name.mono _ _)
    | (with_reducible exact spec_l17Sum.mono _ _)
    | (with_reducible exact LeO.refl _)
    | (with_reducible exact LeO.none _)
    | (with_reducible refine LeO.ite ?_ ?_)
    | (with_reducible refine LeO.bind ?_ (fun _ => ?_))
    | exact ih0 _ _ _
    | exact ih1 _ _ _
    | exact spec_l01Name.mono _ _
    | exact spec_l17Sum.mono _ _
    | exact LeO.none _
    | refine LeO.ite ?_ ?_
    | refine LeO.bind ?_ (fun _ => ?_)
  · intro y0 y1 y2
    unfold spec_l17Ok.l0
    repeat' first
    | (with_reducible exact ih0 _ _ _)
    | (with_reducible exact ih1 _ _ _)
    | (with_reducible exact spec_l01Name.mono _ _)
    | (with_reducible exact spec_l17Sum.mono _ _)
    | (with_reducible exact LeO.refl _)
    | (with_reducible exact LeO.none _)
    | (with_reducible refine LeO.ite ?_ ?_)
    | (with_reducible refine LeO.bind ?_ (fun _ => ?_))
    | exact ih0 _ _ _
    | exact ih1 _ _ _
    | exact spec_l01Name.mono _ _
    | exact spec_l17Sum.mono _ _
    | exact LeO.none _
    | refine LeO.ite ?_ ?_
    | refine LeO.bind ?_ (fun _ => ?_)
theorem spec_l17Ok.mono : ∀ a0 k, LeO (spec_l17Ok.f k a0) (spec_l17Ok.f (k + 1) a0) := by
 intro a0 k
 obtain ⟨ih0, ih1⟩ := spec_l17Ok.mono_l k
 unfold spec_l17Ok.f
 repeat' first
  | (with_reducible exact ih0 _ _ _)
  | (with_reducible exact ih1 _ _ _)
  | (with_reducible exact spec_l01Name.mono _ _)
  | (with_reducible exact spec_l17Sum.mono _ _)
  | (with_reducible exact LeO.refl _)
  | (with_reducible exact LeO.none _)
  | (with_reducible refine LeO.ite ?_ ?_)
  | (with_reducible refine LeO.bind ?_ (fun _ => ?_))
  | exact ih0 _ _ _
  | exact ih1 _ _ _
  | exact spec_l01Name.mono _ _
  | exact spec_l17Sum.mono _ _
  | exact LeO.none _
  | refine LeO.ite ?_ ?_
  | refine LeO.bind ?_ (fun _ => ?_)
set_option maxHeartbeats 8000000 in
set_option maxRecDepth 100000 in
theorem spec_l17Ok.calls (k : Nat) (A0 : Option Addr) (l0 : List (S29)) (r : Bool) (w : World) (hr0 : Kd.C k29 w A0 l0.length l0) (hn0 : 0 < l0.length) (h : spec_l17Ok.f k l0 = some r) :
 Calls Try.prog 37 #[.pointer A0] w fun e w' => e = .returned (.bool r) ∧ Drawn0 w w' := by
 have HR0 := Aside0.mk hr0
 clear hr0
 have HN0 := Aside0.mk hn0
 have hn0b0 : decide ((0 : Int) < (l0.length : Int)) = true := decide_eq_true (Int.ofNat_lt.2 hn0)
 have hn0b1 : decide (0 < l0.length) = true := decide_eq_true hn0
 clear hn0
 have H : ((spec_l01Name.f k ((rd_T29 l0 0).f0)).bind fun t110 => (if t110 = true then ((spec_l00In.f (((rd_T29 l0 0).f1).length : Int) 1 8).bind fun t111 => (if t111 = true then (spec_l17Ok.j0 k l0 (((rd_T29 l0 0).f1).length : Int) ((((rd_T29 l0 0).f2).length : Int) != (((rd_T29 l0 0).f1).length : Int))) else (spec_l17Ok.j0 k l0 (((rd_T29 l0 0).f1).length : Int) true))) else (spec_l17Ok.j0 k l0 (((rd_T29 l0 0).f1).length : Int) true))) = some r := h
 clear h
 have HC2 := Aside0.mk H
 clear H
 have p108 : 0 ≤ (0 : Int) := (by omega)
 have q108 : 0 < (l0.length : Int) := of_decide_eq_true (by first | (with_reducible assumption) | assumption)
 obtain ⟨ad108, A108_1, c108_1, A108_2, c108_2, e108, hx108_0, hx108_1, hx108_2, hl108_1, hi108_1, hl108_2, hi108_2⟩ := at_T29 HR0.out 0 p108 q108
 cases e108
 have qi108 : (0 < l0.length) = True := eq_true (by omega)
 (try rw [show ((0 : Int)).toNat = 0 from rfl] at hx108_0)
 (try rw [show 0 * 3 = 0 from rfl] at hx108_0)
 (try rw [Addr.add_zero'] at hx108_0)
 (try rw [show ((0 : Int)).toNat = 0 from rfl] at hx108_1)
 (try rw [show 0 * 3 = 0 from rfl] at hx108_1)
 (try rw [Addr.add_zero'] at hx108_1)
 (try rw [show ((0 : Int)).toNat = 0 from rfl] at hx108_2)
 (try rw [show 0 * 3 = 0 from rfl] at hx108_2)
 (try rw [Addr.add_zero'] at hx108_2)
 have HR108_1 := Aside0.mk hi108_1
 have HC108_1 := Aside0.mk hl108_1
 clear hi108_1 hl108_1
 have HR108_2 := Aside0.mk hi108_2
 have HC108_2 := Aside0.mk hl108_2
 clear hi108_2 hl108_2
 replace p108 := eq_true p108
 replace q108 := eq_true q108
 go_enter Try.func37, Try.ntmps37
 go_upto_region 2 with (fail)
 go_cut [29] (fun v29 wc => ∃ (kq : Nat) (x29_1 : Bool), v29 = .bool x29_1 ∧ Aside0 (spec_l17Ok.j0 kq l0 (((rd_T29 l0 0).f1).length : Int) x29_1 = some r) ∧ Aside0 (kq ≤ k) ∧ Drawn0 w wc)
 case first =>
  have H := HC2.out
  clear HC2
  replace H := Option.bind_eq_some_iff.mp H
  obtain ⟨t110, A30, H⟩ := H
  replace H : (if t110 = true then ((spec_l00In.f (((rd_T29 l0 0).f1).length : Int) 1 8).bind fun t111 => (if t111 = true then (spec_l17Ok.j0 k l0 (((rd_T29 l0 0).f1).length : Int) ((((rd_T29 l0 0).f2).length : Int) != (((rd_T29 l0 0).f1).length : Int))) else (spec_l17Ok.j0 k l0 (((rd_T29 l0 0).f1).length : Int) true))) else (spec_l17Ok.j0 k l0 (((rd_T29 l0 0).f1).length : Int) true)) = some r := H
  have A3 := Aside0.mk A30
  clear A30
  by_cases c4 : t110 = true
  · subst c4
    have H1 : ((spec_l00In.f (((rd_T29 l0 0).f1).length : Int) 1 8).bind fun t111 => (if t111 = true then (spec_l17Ok.j0 k l0 (((rd_T29 l0 0).f1).length : Int) ((((rd_T29 l0 0).f2).length : Int) != (((rd_T29 l0 0).f1).length : Int))) else (spec_l17Ok.j0 k l0 (((rd_T29 l0 0).f1).length : Int) true))) = some r := by rw [if_pos rfl] at H; exact H
    clear H
    have H := H1
    clear H1
    replace H := Option.bind_eq_some_iff.mp H
    obtain ⟨t111, A50, H⟩ := H
    replace H : (if t111 = true then (spec_l17Ok.j0 k l0 (((rd_T29 l0 0).f1).length : Int) ((((rd_T29 l0 0).f2).length : Int) != (((rd_T29 l0 0).f1).length : Int))) else (spec_l17Ok.j0 k l0 (((rd_T29 l0 0).f1).length : Int) true)) = some r := H
    have A5 := Aside0.mk A50
    clear A50
    by_cases c6 : t111 = true
    · subst c6
      have H1 : (spec_l17Ok.j0 k l0 (((rd_T29 l0 0).f1).length : Int) ((((rd_T29 l0 0).f2).length : Int) != (((rd_T29 l0 0).f1).length : Int))) = some r := by rw [if_pos rfl] at H; exact H
      clear H
      have H := H1
      clear H1
      have H' := Aside0.mk H
      clear H
      have p109 : 0 ≤ (0 : Int) := (by omega)
      have q109 : 0 < (l0.length : Int) := of_decide_eq_true (by first | (with_reducible assumption) | assumption)
      obtain ⟨ad109, A109_1, c109_1, A109_2, c109_2, e109, hx109_0, hx109_1, hx109_2, hl109_1, hi109_1, hl109_2, hi109_2⟩ := at_T29 HR0.out 0 p109 q109
      obtain rfl : ad108 = ad109 := (by injection e109)
      have qi109 : (0 < l0.length) = True := eq_true (by omega)
      (try rw [show ((0 : Int)).toNat = 0 from rfl] at hx109_0)
      (try rw [show 0 * 3 = 0 from rfl] at hx109_0)
      (try rw [Addr.add_zero'] at hx109_0)
      (try rw [show ((0 : Int)).toNat = 0 from rfl] at hx109_1)
      (try rw [show 0 * 3 = 0 from rfl] at hx109_1)
      (try rw [Addr.add_zero'] at hx109_1)
      (try rw [show ((0 : Int)).toNat = 0 from rfl] at hx109_2)
      (try rw [show 0 * 3 = 0 from rfl] at hx109_2)
      (try rw [Addr.add_zero'] at hx109_2)
      have HR109_1 := Aside0.mk hi109_1
      have HC109_1 := Aside0.mk hl109_1
      clear hi109_1 hl109_1
      have HR109_2 := Aside0.mk hi109_2
      have HC109_2 := Aside0.mk hl109_2
      clear hi109_2 hl109_2
      replace p109 := eq_true p109
      replace q109 := eq_true q109
      go_wp2_with (first | ((with_reducible refine gate_callee (f := 42) rfl ?_); refine gL_ (some 14) rfl rfl Try.func42 #[.string ((rd_T29 l0 0).f0)] rfl ?_; (with_reducible refine (spec_l01Name.calls k ((rd_T29 l0 0).f0) true _ A3.out).mono ?_); rintro e w' ⟨rfl, ⟨nd, rfl⟩⟩; refine ⟨_, rfl, ?_⟩) | (go_at_call 32; (with_reducible refine (spec_l00In.calls (((rd_T29 l0 0).f1).length : Int) 1 8 true _ A5.out).mono ?_); rintro e w' ⟨rfl, ⟨nd, rfl⟩⟩))
      go_meet
      case rel => exact ⟨_, (((((rd_T29 l0 0).f2).length : Int) != (((rd_T29 l0 0).f1).length : Int))), (by first | rfl | (simp; done) | (simp [*]; done)), H', ⟨by first | omega | exact Nat.le_refl _⟩, by repeat (first | exact Drawn0.refl _ | apply Drawn0.step)⟩
    · replace c6 := Bool.eq_false_iff.mpr c6
      subst c6
      have H1 : (spec_l17Ok.j0 k l0 (((rd_T29 l0 0).f1).length : Int) true) = some r := by rw [if_neg (show ¬ (false = true) by decide)] at H; exact H
      clear H
      have H := H1
      clear H1
      have H' := Aside0.mk H
      clear H
      have p109 : 0 ≤ (0 : Int) := (by omega)
      have q109 : 0 < (l0.length : Int) := of_decide_eq_true (by first | (with_reducible assumption) | assumption)
      obtain ⟨ad109, A109_1, c109_1, A109_2, c109_2, e109, hx109_0, hx109_1, hx109_2, hl109_1, hi109_1, hl109_2, hi109_2⟩ := at_T29 HR0.out 0 p109 q109
      obtain rfl : ad108 = ad109 := (by injection e109)
      have qi109 : (0 < l0.length) = True := eq_true (by omega)
      (try rw [show ((0 : Int)).toNat = 0 from rfl] at hx109_0)
      (try rw [show 0 * 3 = 0 from rfl] at hx109_0)
      (try rw [Addr.add_zero'] at hx109_0)
      (try rw [show ((0 : Int)).toNat = 0 from rfl] at hx109_1)
      (try rw [show 0 * 3 = 0 from rfl] at hx109_1)
      (try rw [Addr.add_zero'] at hx109_1)
      (try rw [show ((0 : Int)).toNat = 0 from rfl] at hx109_2)
      (try rw [show 0 * 3 = 0 from rfl] at hx109_2)
      (try rw [Addr.add_zero'] at hx109_2)
      have HR109_1 := Aside0.mk hi109_1
      have HC109_1 := Aside0.mk hl109_1
      clear hi109_1 hl109_1
      have HR109_2 := Aside0.mk hi109_2
      have HC109_2 := Aside0.mk hl109_2
      clear hi109_2 hl109_2
      replace p109 := eq_true p109
      replace q109 := eq_true q109
      go_wp2_with (first | ((with_reducible refine gate_callee (f := 42) rfl ?_); refine gL_ (some 14) rfl rfl Try.func42 #[.string ((rd_T29 l0 0).f0)] rfl ?_; (with_reducible refine (spec_l01Name.calls k ((rd_T29 l0 0).f0) true _ A3.out).mono ?_); rintro e w' ⟨rfl, ⟨nd, rfl⟩⟩; refine ⟨_, rfl, ?_⟩) | (go_at_call 32; (with_reducible refine (spec_l00In.calls (((rd_T29 l0 0).f1).length : Int) 1 8 false _ A5.out).mono ?_); rintro e w' ⟨rfl, ⟨nd, rfl⟩⟩))
      go_meet
      case rel => exact ⟨_, (true), (by first | rfl | (simp; done) | (simp [*]; done)), H', ⟨by first | omega | exact Nat.le_refl _⟩, by repeat (first | exact Drawn0.refl _ | apply Drawn0.step)⟩
  · replace c4 := Bool.eq_false_iff.mpr c4
    subst c4
    have H1 : (spec_l17Ok.j0 k l0 (((rd_T29 l0 0).f1).length : Int) true) = some r := by rw [if_neg (show ¬ (false = true) by decide)] at H; exact H
    clear H
    have H := H1
    clear H1
    have H' := Aside0.mk H
    clear H
    have p109 : 0 ≤ (0 : Int) := (by omega)
    have q109 : 0 < (l0.length : Int) := of_decide_eq_true (by first | (with_reducible assumption) | assumption)
    obtain ⟨ad109, A109_1, c109_1, A109_2, c109_2, e109, hx109_0, hx109_1, hx109_2, hl109_1, hi109_1, hl109_2, hi109_2⟩ := at_T29 HR0.out 0 p109 q109
    obtain rfl : ad108 = ad109 := (by injection e109)
    have qi109 : (0 < l0.length) = True := eq_true (by omega)
    (try rw [show ((0 : Int)).toNat = 0 from rfl] at hx109_0)
    (try rw [show 0 * 3 = 0 from rfl] at hx109_0)
    (try rw [Addr.add_zero'] at hx109_0)
    (try rw [show ((0 : Int)).toNat = 0 from rfl] at hx109_1)
    (try rw [show 0 * 3 = 0 from rfl] at hx109_1)
    (try rw [Addr.add_zero'] at hx109_1)
    (try rw [show ((0 : Int)).toNat = 0 from rfl] at hx109_2)
    (try rw [show 0 * 3 = 0 from rfl] at hx109_2)
    (try rw [Addr.add_zero'] at hx109_2)
    have HR109_1 := Aside0.mk hi109_1
    have HC109_1 := Aside0.mk hl109_1
    clear hi109_1 hl109_1
    have HR109_2 := Aside0.mk hi109_2
    have HC109_2 := Aside0.mk hl109_2
    clear hi109_2 hl109_2
    replace p109 := eq_true p109
    replace q109 := eq_true q109
    go_wp2_with (first | ((with_reducible refine gate_callee (f := 42) rfl ?_); refine gL_ (some 14) rfl rfl Try.func42 #[.string ((rd_T29 l0 0).f0)] rfl ?_; (with_reducible refine (spec_l01Name.calls k ((rd_T29 l0 0).f0) false _ A3.out).mono ?_); rintro e w' ⟨rfl, ⟨nd, rfl⟩⟩; refine ⟨_, rfl, ?_⟩))
    go_meet
    case rel => exact ⟨_, (true), (by first | rfl | (simp; done) | (simp [*]; done)), H', ⟨by first | omega | exact Nat.le_refl _⟩, by repeat (first | exact Drawn0.refl _ | apply Drawn0.step)⟩
 case rest =>
  clear HC2
  try clear c1
  try clear p1
  try clear q1
  try clear hx1
  try clear qi1
  try clear p2
  try clear c3
  try clear c4
  try clear c6
  try clear hx108_0
  try clear hx108_1
  try clear hx108_2
  try clear hx109_0
  try clear hx109_1
  try clear hx109_2
  try clear p108
  try clear p109
  try clear q108
  try clear q109
  obtain ⟨kq, x29_1, rfl, HA, HJ1, ⟨mc1, rfl⟩⟩ := hcut
  cases kq with
  | zero => exact absurd HA.out (by simp [spec_l17Ok.j0])
  | succ kj1 =>
   have H := HA.out
   clear HA
   simp only [spec_l17Ok.j0] at H
   by_cases c7 : x29_1 = true
   · subst c7
     have H1 : (some false) = some r := by rw [if_pos rfl] at H; exact H
     clear H
     have H := H1
     clear H1
     obtain rfl := Option.some.inj H
     go_wp2
     go_ret
     exact ⟨by first | rfl | (simp; done) | (simp [*]; done), by repeat (first | exact Drawn0.refl _ | apply Drawn0.step)⟩
   · replace c7 := Bool.eq_false_iff.mpr c7
     subst c7
     have H1 : (spec_l17Ok.l0 kj1 l0 (((rd_T29 l0 0).f1).length : Int) 0) = some r := by rw [if_neg (show ¬ (false = true) by decide)] at H; exact H
     clear H
     have H := H1
     clear H1
     have H' := Aside0.mk H
     clear H
     go_wp2
     go_loopg [4] kj1 (fun kq v4 w' => ∃ (x4_2 : Int), v4 = .int .i64 x4_2 ∧ Aside0 (spec_l17Ok.l0 kq l0 (((rd_T29 l0 0).f1).length : Int) x4_2 = some r) ∧ Aside0 (kq ≤ kj1) ∧ Drawn0 w w')
     case atStart => exact ⟨(0), (by first | rfl | (simp; done) | (simp [*]; done)), H', ⟨Nat.le_refl _⟩, by repeat (first | exact Drawn0.refl _ | apply Drawn0.step)⟩
     case round =>
      clear H'
      try clear c1
      try clear p1
      try clear q1
      try clear hx1
      try clear qi1
      try clear p2
      try clear c3
      try clear c4
      try clear c6
      try clear c7
      try clear hx108_0
      try clear hx108_1
      try clear hx108_2
      try clear hx109_0
      try clear hx109_1
      try clear hx109_2
      try clear p1
      try clear p108
      try clear p109
      try clear p2
      try clear q1
      try clear q108
      try clear q109
      obtain ⟨x4_2, rfl, HA, HK2, ⟨m2, rfl⟩⟩ := hrel
      cases gk with
      | zero => exact absurd HA.out (by simp [spec_l17Ok.l0])
      | succ k2 =>
       have H := HA.out
       clear HA
       simp only [spec_l17Ok.l0] at H
       by_cases c8 : x4_2 < (((rd_T29 l0 0).f1).length : Int)
       · rw [if_pos c8] at H
         have c8b0 : decide (x4_2 < (((rd_T29 l0 0).f1).length : Int)) = true := decide_eq_true c8
         clear c8
         by_cases c9 : 0 ≤ x4_2
         · rw [if_pos c9] at H
           have c9b0 : decide (0 ≤ x4_2) = true := decide_eq_true c9
           clear c9
           by_cases c10 : x4_2 < (((rd_T29 l0 0).f1).length : Int)
           · rw [if_pos c10] at H
             have c10b0 : decide (x4_2 < (((rd_T29 l0 0).f1).length : Int)) = true := decide_eq_true c10
             clear c10
             replace H := Option.bind_eq_some_iff.mp H
             obtain ⟨t116, A110, H⟩ := H
             replace H : (if t116 = true then (if x4_2 = 0 then (if x4_2 < (((rd_T29 l0 0).f2).length : Int) then (if (rd ((rd_T29 l0 0).f2) x4_2) = 1 then (if x4_2 > 0 then ((spec_l00In.f (rd ((rd_T29 l0 0).f2) x4_2) 2 3).bind fun t120 => (if t120 = true then (spec_l17Ok.l0 k2 l0 (((rd_T29 l0 0).f1).length : Int) (wrap64 (x4_2 + 1))) else (some false))) else (spec_l17Ok.l0 k2 l0 (((rd_T29 l0 0).f1).length : Int) (wrap64 (x4_2 + 1)))) else (some false)) else (none)) else (if x4_2 > 0 then (if x4_2 < (((rd_T29 l0 0).f2).length : Int) then ((spec_l00In.f (rd ((rd_T29 l0 0).f2) x4_2) 2 3).bind fun t123 => (if t123 = true then (spec_l17Ok.l0 k2 l0 (((rd_T29 l0 0).f1).length : Int) (wrap64 (x4_2 + 1))) else (some false))) else (none)) else (spec_l17Ok.l0 k2 l0 (((rd_T29 l0 0).f1).length : Int) (wrap64 (x4_2 + 1))))) else (some false)) = some r := H
             have A11 := Aside0.mk A110
             clear A110
             by_cases c12 : t116 = true
             · subst c12
               have H1 : (if x4_2 = 0 then (if x4_2 < (((rd_T29 l0 0).f2).length : Int) then (if (rd ((rd_T29 l0 0).f2) x4_2) = 1 then (if x4_2 > 0 then ((spec_l00In.f (rd ((rd_T29 l0 0).f2) x4_2) 2 3).bind fun t120 => (if t120 = true then (spec_l17Ok.l0 k2 l0 (((rd_T29 l0 0).f1).length : Int) (wrap64 (x4_2 + 1))) else (some false))) else (spec_l17Ok.l0 k2 l0 (((rd_T29 l0 0).f1).length : Int) (wrap64 (x4_2 + 1)))) else (some false)) else (none)) else (if x4_2 > 0 then (if x4_2 < (((rd_T29 l0 0).f2).length : Int) then ((spec_l00In.f (rd ((rd_T29 l0 0).f2) x4_2) 2 3).bind fun t123 => (if t123 = true then (spec_l17Ok.l0 k2 l0 (((rd_T29 l0 0).f1).length : Int) (wrap64 (x4_2 + 1))) else (some false))) else (none)) else (spec_l17Ok.l0 k2 l0 (((rd_T29 l0 0).f1).length : Int) (wrap64 (x4_2 + 1))))) = some r := by rw [if_pos rfl] at H; exact H
               clear H
               have H := H1
               clear H1
               by_cases c13 : x4_2 = 0
               · rw [if_pos c13] at H
                 have c13b0 : (x4_2 == 0) = true := beq_iff_eq.mpr c13
                 have c13b1 : (x4_2 != 0) = false := bne_eq_false_iff_eq.mpr c13
                 clear c13
                 by_cases c14 : x4_2 < (((rd_T29 l0 0).f2).length : Int)
                 · rw [if_pos c14] at H
                   have c14b0 : decide (x4_2 < (((rd_T29 l0 0).f2).length : Int)) = true := decide_eq_true c14
                   clear c14
                   by_cases c15 : (rd ((rd_T29 l0 0).f2) x4_2) = 1
                   · rw [if_pos c15] at H
                     have c15b0 : ((rd ((rd_T29 l0 0).f2) x4_2) == 1) = true := beq_iff_eq.mpr c15
                     have c15b1 : ((rd ((rd_T29 l0 0).f2) x4_2) != 1) = false := bne_eq_false_iff_eq.mpr c15
                     clear c15
                     by_cases c16 : x4_2 > 0
                     · rw [if_pos c16] at H
                       have c16b0 : decide (0 < x4_2) = true := decide_eq_true c16
                       clear c16
                       replace H := Option.bind_eq_some_iff.mp H
                       obtain ⟨t120, A170, H⟩ := H
                       replace H : (if t120 = true then (spec_l17Ok.l0 k2 l0 (((rd_T29 l0 0).f1).length : Int) (wrap64 (x4_2 + 1))) else (some false)) = some r := H
                       have A17 := Aside0.mk A170
                       clear A170
                       by_cases c18 : t120 = true
                       · subst c18
                         have H1 : (spec_l17Ok.l0 k2 l0 (((rd_T29 l0 0).f1).length : Int) (wrap64 (x4_2 + 1))) = some r := by rw [if_pos rfl] at H; exact H
                         clear H
                         have H := H1
                         clear H1
                         have H' := Aside0.mk H
                         clear H
                         have p114 : 0 ≤ (0 : Int) := (by omega)
                         have q114 : 0 < (l0.length : Int) := of_decide_eq_true (by first | (with_reducible assumption) | assumption)
                         obtain ⟨ad114, A114_1, c114_1, A114_2, c114_2, e114, hx114_0, hx114_1, hx114_2, hl114_1, hi114_1, hl114_2, hi114_2⟩ := at_T29 HR0.out 0 p114 q114
                         obtain rfl : ad108 = ad114 := (by injection e114)
                         have qi114 : (0 < l0.length) = True := eq_true (by omega)
                         (try rw [show ((0 : Int)).toNat = 0 from rfl] at hx114_0)
                         (try rw [show 0 * 3 = 0 from rfl] at hx114_0)
                         (try rw [Addr.add_zero'] at hx114_0)
                         (try rw [show ((0 : Int)).toNat = 0 from rfl] at hx114_1)
                         (try rw [show 0 * 3 = 0 from rfl] at hx114_1)
                         (try rw [Addr.add_zero'] at hx114_1)
                         (try rw [show ((0 : Int)).toNat = 0 from rfl] at hx114_2)
                         (try rw [show 0 * 3 = 0 from rfl] at hx114_2)
                         (try rw [Addr.add_zero'] at hx114_2)
                         have HR114_1 := Aside0.mk hi114_1
                         have HC114_1 := Aside0.mk hl114_1
                         clear hi114_1 hl114_1
                         have HR114_2 := Aside0.mk hi114_2
                         have HC114_2 := Aside0.mk hl114_2
                         clear hi114_2 hl114_2
                         replace p114 := eq_true p114
                         replace q114 := eq_true q114
                         have p115 : 0 ≤ (x4_2 : Int) := of_decide_eq_true (by first | (with_reducible assumption) | assumption)
                         have q115 : x4_2 < (((rd_T29 l0 0).f1).length : Int) := of_decide_eq_true (by first | (with_reducible assumption) | assumption)
                         obtain ⟨ad115, e115, hx115_0⟩ := Kd.at_int HR114_1.out x4_2 p115 q115
                         cases e115
                         replace p115 := eq_true p115
                         replace q115 := eq_true q115
                         go_wp2_with (first | ((with_reducible refine gate_callee (f := 32) rfl ?_); refine gL_ (some 42) rfl rfl Try.func32 #[.int .i64 (rd ((rd_T29 l0 0).f1) x4_2), .int .i64 1, .int .i64 16] rfl ?_; (with_reducible refine (spec_l00In.calls (rd ((rd_T29 l0 0).f1) x4_2) 1 16 true _ A11.out).mono ?_); rintro e w' ⟨rfl, ⟨nd, rfl⟩⟩; refine ⟨_, rfl, ?_⟩; have p117 : 0 ≤ (0 : Int) := (by omega); have q117 : 0 < (l0.length : Int) := of_decide_eq_true (by first | (with_reducible assumption) | assumption); obtain ⟨ad117, A117_1, c117_1, A117_2, c117_2, e117, hx117_0, hx117_1, hx117_2, hl117_1, hi117_1, hl117_2, hi117_2⟩ := at_T29 HR0.out 0 p117 q117; obtain rfl : ad108 = ad117 := (by injection e117); have qi117 : (0 < l0.length) = True := eq_true (by omega); (try rw [show ((0 : Int)).toNat = 0 from rfl] at hx117_0); (try rw [show 0 * 3 = 0 from rfl] at hx117_0); (try rw [Addr.add_zero'] at hx117_0); (try rw [show ((0 : Int)).toNat = 0 from rfl] at hx117_1); (try rw [show 0 * 3 = 0 from rfl] at hx117_1); (try rw [Addr.add_zero'] at hx117_1); (try rw [show ((0 : Int)).toNat = 0 from rfl] at hx117_2); (try rw [show 0 * 3 = 0 from rfl] at hx117_2); (try rw [Addr.add_zero'] at hx117_2); have HR117_1 := Aside0.mk hi117_1; have HC117_1 := Aside0.mk hl117_1; clear hi117_1 hl117_1; have HR117_2 := Aside0.mk hi117_2; have HC117_2 := Aside0.mk hl117_2; clear hi117_2 hl117_2; replace p117 := eq_true p117; replace q117 := eq_true q117; have ea_ := Option.some.inj (hx114_1.symm.trans hx117_1); injection ea_ with ea_ en_ ec_; subst ea_; subst ec_; clear en_; have ea_ := Option.some.inj (hx114_2.symm.trans hx117_2); injection ea_ with ea_ en_ ec_; subst ea_; subst ec_; clear en_; have p118 : 0 ≤ (x4_2 : Int) := of_decide_eq_true (by first | (with_reducible assumption) | assumption); have q118 : x4_2 < (((rd_T29 l0 0).f2).length : Int) := of_decide_eq_true (by first | (with_reducible assumption) | assumption); obtain ⟨ad118, e118, hx118_0⟩ := Kd.at_int HR117_2.out x4_2 p118 q118; cases e118; replace p118 := eq_true p118; replace q118 := eq_true q118; have p119 : 0 ≤ (x4_2 : Int) := of_decide_eq_true (by first | (with_reducible assumption) | assumption); have q119 : x4_2 < (((rd_T29 l0 0).f2).length : Int) := of_decide_eq_true (by first | (with_reducible assumption) | assumption); obtain ⟨ad119, e119, hx119_0⟩ := Kd.at_int HR117_2.out x4_2 p119 q119; cases e119; replace p119 := eq_true p119; replace q119 := eq_true q119) | (go_at_call 32; (with_reducible refine (spec_l00In.calls (rd ((rd_T29 l0 0).f2) x4_2) 2 3 true _ A17.out).mono ?_); rintro e w' ⟨rfl, ⟨nd, rfl⟩⟩))
                         go_roundg k2
                         case measure => have := HJ1.out; have := HK2.out; omega
                         case rel => exact ⟨(wrap64 (x4_2 + 1)), (by first | rfl | (simp; done) | (simp [*]; done)), H', ⟨by have := HJ1.out; have := HK2.out; omega⟩, by repeat (first | exact Drawn0.refl _ | apply Drawn0.step)⟩
                       · replace c18 := Bool.eq_false_iff.mpr c18
                         subst c18
                         have H1 : (some false) = some r := by rw [if_neg (show ¬ (false = true) by decide)] at H; exact H
                         clear H
                         have H := H1
                         clear H1
                         obtain rfl := Option.some.inj H
                         have p114 : 0 ≤ (0 : Int) := (by omega)
                         have q114 : 0 < (l0.length : Int) := of_decide_eq_true (by first | (with_reducible assumption) | assumption)
                         obtain ⟨ad114, A114_1, c114_1, A114_2, c114_2, e114, hx114_0, hx114_1, hx114_2, hl114_1, hi114_1, hl114_2, hi114_2⟩ := at_T29 HR0.out 0 p114 q114
                         obtain rfl : ad108 = ad114 := (by injection e114)
                         have qi114 : (0 < l0.length) = True := eq_true (by omega)
                         (try rw [show ((0 : Int)).toNat = 0 from rfl] at hx114_0)
                         (try rw [show 0 * 3 = 0 from rfl] at hx114_0)
                         (try rw [Addr.add_zero'] at hx114_0)
                         (try rw [show ((0 : Int)).toNat = 0 from rfl] at hx114_1)
                         (try rw [show 0 * 3 = 0 from rfl] at hx114_1)
                         (try rw [Addr.add_zero'] at hx114_1)
                         (try rw [show ((0 : Int)).toNat = 0 from rfl] at hx114_2)
                         (try rw [show 0 * 3 = 0 from rfl] at hx114_2)
                         (try rw [Addr.add_zero'] at hx114_2)
                         have HR114_1 := Aside0.mk hi114_1
                         have HC114_1 := Aside0.mk hl114_1
                         clear hi114_1 hl114_1
                         have HR114_2 := Aside0.mk hi114_2
                         have HC114_2 := Aside0.mk hl114_2
                         clear hi114_2 hl114_2
                         replace p114 := eq_true p114
                         replace q114 := eq_true q114
                         have p115 : 0 ≤ (x4_2 : Int) := of_decide_eq_true (by first | (with_reducible assumption) | assumption)
                         have q115 : x4_2 < (((rd_T29 l0 0).f1).length : Int) := of_decide_eq_true (by first | (with_reducible assumption) | assumption)
                         obtain ⟨ad115, e115, hx115_0⟩ := Kd.at_int HR114_1.out x4_2 p115 q115
                         cases e115
                         replace p115 := eq_true p115
                         replace q115 := eq_true q115
                         go_wp2_with (first | ((with_reducible refine gate_callee (f := 32) rfl ?_); refine gL_ (some 42) rfl rfl Try.func32 #[.int .i64 (rd ((rd_T29 l0 0).f1) x4_2), .int .i64 1, .int .i64 16] rfl ?_; (with_reducible refine (spec_l00In.calls (rd ((rd_T29 l0 0).f1) x4_2) 1 16 true _ A11.out).mono ?_); rintro e w' ⟨rfl, ⟨nd, rfl⟩⟩; refine ⟨_, rfl, ?_⟩; have p117 : 0 ≤ (0 : Int) := (by omega); have q117 : 0 < (l0.length : Int) := of_decide_eq_true (by first | (with_reducible assumption) | assumption); obtain ⟨ad117, A117_1, c117_1, A117_2, c117_2, e117, hx117_0, hx117_1, hx117_2, hl117_1, hi117_1, hl117_2, hi117_2⟩ := at_T29 HR0.out 0 p117 q117; obtain rfl : ad108 = ad117 := (by injection e117); have qi117 : (0 < l0.length) = True := eq_true (by omega); (try rw [show ((0 : Int)).toNat = 0 from rfl] at hx117_0); (try rw [show 0 * 3 = 0 from rfl] at hx117_0); (try rw [Addr.add_zero'] at hx117_0); (try rw [show ((0 : Int)).toNat = 0 from rfl] at hx117_1); (try rw [show 0 * 3 = 0 from rfl] at hx117_1); (try rw [Addr.add_zero'] at hx117_1); (try rw [show ((0 : Int)).toNat = 0 from rfl] at hx117_2); (try rw [show 0 * 3 = 0 from rfl] at hx117_2); (try rw [Addr.add_zero'] at hx117_2); have HR117_1 := Aside0.mk hi117_1; have HC117_1 := Aside0.mk hl117_1; clear hi117_1 hl117_1; have HR117_2 := Aside0.mk hi117_2; have HC117_2 := Aside0.mk hl117_2; clear hi117_2 hl117_2; replace p117 := eq_true p117; replace q117 := eq_true q117; have ea_ := Option.some.inj (hx114_1.symm.trans hx117_1); injection ea_ with ea_ en_ ec_; subst ea_; subst ec_; clear en_; have ea_ := Option.some.inj (hx114_2.symm.trans hx117_2); injection ea_ with ea_ en_ ec_; subst ea_; subst ec_; clear en_; have p118 : 0 ≤ (x4_2 : Int) := of_decide_eq_true (by first | (with_reducible assumption) | assumption); have q118 : x4_2 < (((rd_T29 l0 0).f2).length : Int) := of_decide_eq_true (by first | (with_reducible assumption) | assumption); obtain ⟨ad118, e118, hx118_0⟩ := Kd.at_int HR117_2.out x4_2 p118 q118; cases e118; replace p118 := eq_true p118; replace q118 := eq_true q118; have p119 : 0 ≤ (x4_2 : Int) := of_decide_eq_true (by first | (with_reducible assumption) | assumption); have q119 : x4_2 < (((rd_T29 l0 0).f2).length : Int) := of_decide_eq_true (by first | (with_reducible assumption) | assumption); obtain ⟨ad119, e119, hx119_0⟩ := Kd.at_int HR117_2.out x4_2 p119 q119; cases e119; replace p119 := eq_true p119; replace q119 := eq_true q119) | (go_at_call 32; (with_reducible refine (spec_l00In.calls (rd ((rd_T29 l0 0).f2) x4_2) 2 3 false _ A17.out).mono ?_); rintro e w' ⟨rfl, ⟨nd, rfl⟩⟩))
                         go_ret
                         exact ⟨by first | rfl | (simp; done) | (simp [*]; done), by repeat (first | exact Drawn0.refl _ | apply Drawn0.step)⟩
                     · rw [if_neg c16] at H
                       have c16b0 : decide (0 < x4_2) = false := decide_eq_false c16
                       clear c16
                       have H' := Aside0.mk H
                       clear H
                       have p114 : 0 ≤ (0 : Int) := (by omega)
                       have q114 : 0 < (l0.length : Int) := of_decide_eq_true (by first | (with_reducible assumption) | assumption)
                       obtain ⟨ad114, A114_1, c114_1, A114_2, c114_2, e114, hx114_0, hx114_1, hx114_2, hl114_1, hi114_1, hl114_2, hi114_2⟩ := at_T29 HR0.out 0 p114 q114
                       obtain rfl : ad108 = ad114 := (by injection e114)
                       have qi114 : (0 < l0.length) = True := eq_true (by omega)
                       (try rw [show ((0 : Int)).toNat = 0 from rfl] at hx114_0)
                       (try rw [show 0 * 3 = 0 from rfl] at hx114_0)
                       (try rw [Addr.add_zero'] at hx114_0)
                       (try rw [show ((0 : Int)).toNat = 0 from rfl] at hx114_1)
                       (try rw [show 0 * 3 = 0 from rfl] at hx114_1)
                       (try rw [Addr.add_zero'] at hx114_1)
                       (try rw [show ((0 : Int)).toNat = 0 from rfl] at hx114_2)
                       (try rw [show 0 * 3 = 0 from rfl] at hx114_2)
                       (try rw [Addr.add_zero'] at hx114_2)
                       have HR114_1 := Aside0.mk hi114_1
                       have HC114_1 := Aside0.mk hl114_1
                       clear hi114_1 hl114_1
                       have HR114_2 := Aside0.mk hi114_2
                       have HC114_2 := Aside0.mk hl114_2
                       clear hi114_2 hl114_2
                       replace p114 := eq_true p114
                       replace q114 := eq_true q114
                       have p115 : 0 ≤ (x4_2 : Int) := of_decide_eq_true (by first | (with_reducible assumption) | assumption)
                       have q115 : x4_2 < (((rd_T29 l0 0).f1).length : Int) := of_decide_eq_true (by first | (with_reducible assumption) | assumption)
                       obtain ⟨ad115, e115, hx115_0⟩ := Kd.at_int HR114_1.out x4_2 p115 q115
                       cases e115
                       replace p115 := eq_true p115
                       replace q115 := eq_true q115
                       go_wp2_with (first | ((with_reducible refine gate_callee (f := 32) rfl ?_); refine gL_ (some 42) rfl rfl Try.func32 #[.int .i64 (rd ((rd_T29 l0 0).f1) x4_2), .int .i64 1, .int .i64 16] rfl ?_; (with_reducible refine (spec_l00In.calls (rd ((rd_T29 l0 0).f1) x4_2) 1 16 true _ A11.out).mono ?_); rintro e w' ⟨rfl, ⟨nd, rfl⟩⟩; refine ⟨_, rfl, ?_⟩; have p117 : 0 ≤ (0 : Int) := (by omega); have q117 : 0 < (l0.length : Int) := of_decide_eq_true (by first | (with_reducible assumption) | assumption); obtain ⟨ad117, A117_1, c117_1, A117_2, c117_2, e117, hx117_0, hx117_1, hx117_2, hl117_1, hi117_1, hl117_2, hi117_2⟩ := at_T29 HR0.out 0 p117 q117; obtain rfl : ad108 = ad117 := (by injection e117); have qi117 : (0 < l0.length) = True := eq_true (by omega); (try rw [show ((0 : Int)).toNat = 0 from rfl] at hx117_0); (try rw [show 0 * 3 = 0 from rfl] at hx117_0); (try rw [Addr.add_zero'] at hx117_0); (try rw [show ((0 : Int)).toNat = 0 from rfl] at hx117_1); (try rw [show 0 * 3 = 0 from rfl] at hx117_1); (try rw [Addr.add_zero'] at hx117_1); (try rw [show ((0 : Int)).toNat = 0 from rfl] at hx117_2); (try rw [show 0 * 3 = 0 from rfl] at hx117_2); (try rw [Addr.add_zero'] at hx117_2); have HR117_1 := Aside0.mk hi117_1; have HC117_1 := Aside0.mk hl117_1; clear hi117_1 hl117_1; have HR117_2 := Aside0.mk hi117_2; have HC117_2 := Aside0.mk hl117_2; clear hi117_2 hl117_2; replace p117 := eq_true p117; replace q117 := eq_true q117; have ea_ := Option.some.inj (hx114_1.symm.trans hx117_1); injection ea_ with ea_ en_ ec_; subst ea_; subst ec_; clear en_; have ea_ := Option.some.inj (hx114_2.symm.trans hx117_2); injection ea_ with ea_ en_ ec_; subst ea_; subst ec_; clear en_; have p118 : 0 ≤ (x4_2 : Int) := of_decide_eq_true (by first | (with_reducible assumption) | assumption); have q118 : x4_2 < (((rd_T29 l0 0).f2).length : Int) := of_decide_eq_true (by first | (with_reducible assumption) | assumption); obtain ⟨ad118, e118, hx118_0⟩ := Kd.at_int HR117_2.out x4_2 p118 q118; cases e118; replace p118 := eq_true p118; replace q118 := eq_true q118))
                       go_roundg k2
                       case measure => have := HJ1.out; have := HK2.out; omega
                       case rel => exact ⟨(wrap64 (x4_2 + 1)), (by first | rfl | (simp; done) | (simp [*]; done)), H', ⟨by have := HJ1.out; have := HK2.out; omega⟩, by repeat (first | exact Drawn0.refl _ | apply Drawn0.step)⟩
                   · rw [if_neg c15] at H
                     have c15b0 : ((rd ((rd_T29 l0 0).f2) x4_2) == 1) = false := beq_eq_false_iff_ne.mpr c15
                     have c15b1 : ((rd ((rd_T29 l0 0).f2) x4_2) != 1) = true := bne_iff_ne.mpr c15
                     obtain rfl := Option.some.inj H
                     have p114 : 0 ≤ (0 : Int) := (by omega)
                     have q114 : 0 < (l0.length : Int) := of_decide_eq_true (by first | (with_reducible assumption) | assumption)
                     obtain ⟨ad114, A114_1, c114_1, A114_2, c114_2, e114, hx114_0, hx114_1, hx114_2, hl114_1, hi114_1, hl114_2, hi114_2⟩ := at_T29 HR0.out 0 p114 q114
                     obtain rfl : ad108 = ad114 := (by injection e114)
                     have qi114 : (0 < l0.length) = True := eq_true (by omega)
                     (try rw [show ((0 : Int)).toNat = 0 from rfl] at hx114_0)
                     (try rw [show 0 * 3 = 0 from rfl] at hx114_0)
                     (try rw [Addr.add_zero'] at hx114_0)
                     (try rw [show ((0 : Int)).toNat = 0 from rfl] at hx114_1)
                     (try rw [show 0 * 3 = 0 from rfl] at hx114_1)
                     (try rw [Addr.add_zero'] at hx114_1)
                     (try rw [show ((0 : Int)).toNat = 0 from rfl] at hx114_2)
                     (try rw [show 0 * 3 = 0 from rfl] at hx114_2)
                     (try rw [Addr.add_zero'] at hx114_2)
                     have HR114_1 := Aside0.mk hi114_1
                     have HC114_1 := Aside0.mk hl114_1
                     clear hi114_1 hl114_1
                     have HR114_2 := Aside0.mk hi114_2
                     have HC114_2 := Aside0.mk hl114_2
                     clear hi114_2 hl114_2
                     replace p114 := eq_true p114
                     replace q114 := eq_true q114
                     have p115 : 0 ≤ (x4_2 : Int) := of_decide_eq_true (by first | (with_reducible assumption) | assumption)
                     have q115 : x4_2 < (((rd_T29 l0 0).f1).length : Int) := of_decide_eq_true (by first | (with_reducible assumption) | assumption)
                     obtain ⟨ad115, e115, hx115_0⟩ := Kd.at_int HR114_1.out x4_2 p115 q115
                     cases e115
                     replace p115 := eq_true p115
                     replace q115 := eq_true q115
                     go_wp2_with (first | ((with_reducible refine gate_callee (f := 32) rfl ?_); refine gL_ (some 42) rfl rfl Try.func32 #[.int .i64 (rd ((rd_T29 l0 0).f1) x4_2), .int .i64 1, .int .i64 16] rfl ?_; (with_reducible refine (spec_l00In.calls (rd ((rd_T29 l0 0).f1) x4_2) 1 16 true _ A11.out).mono ?_); rintro e w' ⟨rfl, ⟨nd, rfl⟩⟩; refine ⟨_, rfl, ?_⟩; have p117 : 0 ≤ (0 : Int) := (by omega); have q117 : 0 < (l0.length : Int) := of_decide_eq_true (by first | (with_reducible assumption) | assumption); obtain ⟨ad117, A117_1, c117_1, A117_2, c117_2, e117, hx117_0, hx117_1, hx117_2, hl117_1, hi117_1, hl117_2, hi117_2⟩ := at_T29 HR0.out 0 p117 q117; obtain rfl : ad108 = ad117 := (by injection e117); have qi117 : (0 < l0.length) = True := eq_true (by omega); (try rw [show ((0 : Int)).toNat = 0 from rfl] at hx117_0); (try rw [show 0 * 3 = 0 from rfl] at hx117_0); (try rw [Addr.add_zero'] at hx117_0); (try rw [show ((0 : Int)).toNat = 0 from rfl] at hx117_1); (try rw [show 0 * 3 = 0 from rfl] at hx117_1); (try rw [Addr.add_zero'] at hx117_1); (try rw [show ((0 : Int)).toNat = 0 from rfl] at hx117_2); (try rw [show 0 * 3 = 0 from rfl] at hx117_2); (try rw [Addr.add_zero'] at hx117_2); have HR117_1 := Aside0.mk hi117_1; have HC117_1 := Aside0.mk hl117_1; clear hi117_1 hl117_1; have HR117_2 := Aside0.mk hi117_2; have HC117_2 := Aside0.mk hl117_2; clear hi117_2 hl117_2; replace p117 := eq_true p117; replace q117 := eq_true q117; have ea_ := Option.some.inj (hx114_1.symm.trans hx117_1); injection ea_ with ea_ en_ ec_; subst ea_; subst ec_; clear en_; have ea_ := Option.some.inj (hx114_2.symm.trans hx117_2); injection ea_ with ea_ en_ ec_; subst ea_; subst ec_; clear en_; have p118 : 0 ≤ (x4_2 : Int) := of_decide_eq_true (by first | (with_reducible assumption) | assumption); have q118 : x4_2 < (((rd_T29 l0 0).f2).length : Int) := of_decide_eq_true (by first | (with_reducible assumption) | assumption); obtain ⟨ad118, e118, hx118_0⟩ := Kd.at_int HR117_2.out x4_2 p118 q118; cases e118; replace p118 := eq_true p118; replace q118 := eq_true q118))
                     go_ret
                     exact ⟨by first | rfl | (simp; done) | (simp [*]; done), by repeat (first | exact Drawn0.refl _ | apply Drawn0.step)⟩
                 · rw [if_neg c14] at H
                   exact absurd H (by simp)
               · rw [if_neg c13] at H
                 have c13b0 : (x4_2 == 0) = false := beq_eq_false_iff_ne.mpr c13
                 have c13b1 : (x4_2 != 0) = true := bne_iff_ne.mpr c13
                 by_cases c19 : x4_2 > 0
                 · rw [if_pos c19] at H
                   have c19b0 : decide (0 < x4_2) = true := decide_eq_true c19
                   clear c19
                   by_cases c20 : x4_2 < (((rd_T29 l0 0).f2).length : Int)
                   · rw [if_pos c20] at H
                     have c20b0 : decide (x4_2 < (((rd_T29 l0 0).f2).length : Int)) = true := decide_eq_true c20
                     clear c20
                     replace H := Option.bind_eq_some_iff.mp H
                     obtain ⟨t123, A210, H⟩ := H
                     replace H : (if t123 = true then (spec_l17Ok.l0 k2 l0 (((rd_T29 l0 0).f1).length : Int) (wrap64 (x4_2 + 1))) else (some false)) = some r := H
                     have A21 := Aside0.mk A210
                     clear A210
                     by_cases c22 : t123 = true
                     · subst c22
                       have H1 : (spec_l17Ok.l0 k2 l0 (((rd_T29 l0 0).f1).length : Int) (wrap64 (x4_2 + 1))) = some r := by rw [if_pos rfl] at H; exact H
                       clear H
                       have H := H1
                       clear H1
                       have H' := Aside0.mk H
                       clear H
                       have p114 : 0 ≤ (0 : Int) := (by omega)
                       have q114 : 0 < (l0.length : Int) := of_decide_eq_true (by first | (with_reducible assumption) | assumption)
                       obtain ⟨ad114, A114_1, c114_1, A114_2, c114_2, e114, hx114_0, hx114_1, hx114_2, hl114_1, hi114_1, hl114_2, hi114_2⟩ := at_T29 HR0.out 0 p114 q114
                       obtain rfl : ad108 = ad114 := (by injection e114)
                       have qi114 : (0 < l0.length) = True := eq_true (by omega)
                       (try rw [show ((0 : Int)).toNat = 0 from rfl] at hx114_0)
                       (try rw [show 0 * 3 = 0 from rfl] at hx114_0)
                       (try rw [Addr.add_zero'] at hx114_0)
                       (try rw [show ((0 : Int)).toNat = 0 from rfl] at hx114_1)
                       (try rw [show 0 * 3 = 0 from rfl] at hx114_1)
                       (try rw [Addr.add_zero'] at hx114_1)
                       (try rw [show ((0 : Int)).toNat = 0 from rfl] at hx114_2)
                       (try rw [show 0 * 3 = 0 from rfl] at hx114_2)
                       (try rw [Addr.add_zero'] at hx114_2)
                       have HR114_1 := Aside0.mk hi114_1
                       have HC114_1 := Aside0.mk hl114_1
                       clear hi114_1 hl114_1
                       have HR114_2 := Aside0.mk hi114_2
                       have HC114_2 := Aside0.mk hl114_2
                       clear hi114_2 hl114_2
                       replace p114 := eq_true p114
                       replace q114 := eq_true q114
                       have p115 : 0 ≤ (x4_2 : Int) := of_decide_eq_true (by first | (with_reducible assumption) | assumption)
                       have q115 : x4_2 < (((rd_T29 l0 0).f1).length : Int) := of_decide_eq_true (by first | (with_reducible assumption) | assumption)
                       obtain ⟨ad115, e115, hx115_0⟩ := Kd.at_int HR114_1.out x4_2 p115 q115
                       cases e115
                       replace p115 := eq_true p115
                       replace q115 := eq_true q115
                       go_wp2_with (first | ((with_reducible refine gate_callee (f := 32) rfl ?_); refine gL_ (some 42) rfl rfl Try.func32 #[.int .i64 (rd ((rd_T29 l0 0).f1) x4_2), .int .i64 1, .int .i64 16] rfl ?_; (with_reducible refine (spec_l00In.calls (rd ((rd_T29 l0 0).f1) x4_2) 1 16 true _ A11.out).mono ?_); rintro e w' ⟨rfl, ⟨nd, rfl⟩⟩; refine ⟨_, rfl, ?_⟩; have p121 : 0 ≤ (0 : Int) := (by omega); have q121 : 0 < (l0.length : Int) := of_decide_eq_true (by first | (with_reducible assumption) | assumption); obtain ⟨ad121, A121_1, c121_1, A121_2, c121_2, e121, hx121_0, hx121_1, hx121_2, hl121_1, hi121_1, hl121_2, hi121_2⟩ := at_T29 HR0.out 0 p121 q121; obtain rfl : ad108 = ad121 := (by injection e121); have qi121 : (0 < l0.length) = True := eq_true (by omega); (try rw [show ((0 : Int)).toNat = 0 from rfl] at hx121_0); (try rw [show 0 * 3 = 0 from rfl] at hx121_0); (try rw [Addr.add_zero'] at hx121_0); (try rw [show ((0 : Int)).toNat = 0 from rfl] at hx121_1); (try rw [show 0 * 3 = 0 from rfl] at hx121_1); (try rw [Addr.add_zero'] at hx121_1); (try rw [show ((0 : Int)).toNat = 0 from rfl] at hx121_2); (try rw [show 0 * 3 = 0 from rfl] at hx121_2); (try rw [Addr.add_zero'] at hx121_2); have HR121_1 := Aside0.mk hi121_1; have HC121_1 := Aside0.mk hl121_1; clear hi121_1 hl121_1; have HR121_2 := Aside0.mk hi121_2; have HC121_2 := Aside0.mk hl121_2; clear hi121_2 hl121_2; replace p121 := eq_true p121; replace q121 := eq_true q121; have ea_ := Option.some.inj (hx114_1.symm.trans hx121_1); injection ea_ with ea_ en_ ec_; subst ea_; subst ec_; clear en_; have ea_ := Option.some.inj (hx114_2.symm.trans hx121_2); injection ea_ with ea_ en_ ec_; subst ea_; subst ec_; clear en_; have p122 : 0 ≤ (x4_2 : Int) := of_decide_eq_true (by first | (with_reducible assumption) | assumption); have q122 : x4_2 < (((rd_T29 l0 0).f2).length : Int) := of_decide_eq_true (by first | (with_reducible assumption) | assumption); obtain ⟨ad122, e122, hx122_0⟩ := Kd.at_int HR121_2.out x4_2 p122 q122; cases e122; replace p122 := eq_true p122; replace q122 := eq_true q122) | (go_at_call 32; (with_reducible refine (spec_l00In.calls (rd ((rd_T29 l0 0).f2) x4_2) 2 3 true _ A21.out).mono ?_); rintro e w' ⟨rfl, ⟨nd, rfl⟩⟩))
                       go_roundg k2
                       case measure => have := HJ1.out; have := HK2.out; omega
                       case rel => exact ⟨(wrap64 (x4_2 + 1)), (by first | rfl | (simp; done) | (simp [*]; done)), H', ⟨by have := HJ1.out; have := HK2.out; omega⟩, by repeat (first | exact Drawn0.refl _ | apply Drawn0.step)⟩
                     · replace c22 := Bool.eq_false_iff.mpr c22
                       subst c22
                       have H1 : (some false) = some r := by rw [if_neg (show ¬ (false = true) by decide)] at H; exact H
                       clear H
                       have H := H1
                       clear H1
                       obtain rfl := Option.some.inj H
                       have p114 : 0 ≤ (0 : Int) := (by omega)
                       have q114 : 0 < (l0.length : Int) := of_decide_eq_true (by first | (with_reducible assumption) | assumption)
                       obtain ⟨ad114, A114_1, c114_1, A114_2, c114_2, e114, hx114_0, hx114_1, hx114_2, hl114_1, hi114_1, hl114_2, hi114_2⟩ := at_T29 HR0.out 0 p114 q114
                       obtain rfl : ad108 = ad114 := (by injection e114)
                       have qi114 : (0 < l0.length) = True := eq_true (by omega)
                       (try rw [show ((0 : Int)).toNat = 0 from rfl] at hx114_0)
                       (try rw [show 0 * 3 = 0 from rfl] at hx114_0)
                       (try rw [Addr.add_zero'] at hx114_0)
                       (try rw [show ((0 : Int)).toNat = 0 from rfl] at hx114_1)
                       (try rw [show 0 * 3 = 0 from rfl] at hx114_1)
                       (try rw [Addr.add_zero'] at hx114_1)
                       (try rw [show ((0 : Int)).toNat = 0 from rfl] at hx114_2)
                       (try rw [show 0 * 3 = 0 from rfl] at hx114_2)
                       (try rw [Addr.add_zero'] at hx114_2)
                       have HR114_1 := Aside0.mk hi114_1
                       have HC114_1 := Aside0.mk hl114_1
                       clear hi114_1 hl114_1
                       have HR114_2 := Aside0.mk hi114_2
                       have HC114_2 := Aside0.mk hl114_2
                       clear hi114_2 hl114_2
                       replace p114 := eq_true p114
                       replace q114 := eq_true q114
                       have p115 : 0 ≤ (x4_2 : Int) := of_decide_eq_true (by first | (with_reducible assumption) | assumption)
                       have q115 : x4_2 < (((rd_T29 l0 0).f1).length : Int) := of_decide_eq_true (by first | (with_reducible assumption) | assumption)
                       obtain ⟨ad115, e115, hx115_0⟩ := Kd.at_int HR114_1.out x4_2 p115 q115
                       cases e115
                       replace p115 := eq_true p115
                       replace q115 := eq_true q115
                       go_wp2_with (first | ((with_reducible refine gate_callee (f := 32) rfl ?_); refine gL_ (some 42) rfl rfl Try.func32 #[.int .i64 (rd ((rd_T29 l0 0).f1) x4_2), .int .i64 1, .int .i64 16] rfl ?_; (with_reducible refine (spec_l00In.calls (rd ((rd_T29 l0 0).f1) x4_2) 1 16 true _ A11.out).mono ?_); rintro e w' ⟨rfl, ⟨nd, rfl⟩⟩; refine ⟨_, rfl, ?_⟩; have p121 : 0 ≤ (0 : Int) := (by omega); have q121 : 0 < (l0.length : Int) := of_decide_eq_true (by first | (with_reducible assumption) | assumption); obtain ⟨ad121, A121_1, c121_1, A121_2, c121_2, e121, hx121_0, hx121_1, hx121_2, hl121_1, hi121_1, hl121_2, hi121_2⟩ := at_T29 HR0.out 0 p121 q121; obtain rfl : ad108 = ad121 := (by injection e121); have qi121 : (0 < l0.length) = True := eq_true (by omega); (try rw [show ((0 : Int)).toNat = 0 from rfl] at hx121_0); (try rw [show 0 * 3 = 0 from rfl] at hx121_0); (try rw [Addr.add_zero'] at hx121_0); (try rw [show ((0 : Int)).toNat = 0 from rfl] at hx121_1); (try rw [show 0 * 3 = 0 from rfl] at hx121_1); (try rw [Addr.add_zero'] at hx121_1); (try rw [show ((0 : Int)).toNat = 0 from rfl] at hx121_2); (try rw [show 0 * 3 = 0 from rfl] at hx121_2); (try rw [Addr.add_zero'] at hx121_2); have HR121_1 := Aside0.mk hi121_1; have HC121_1 := Aside0.mk hl121_1; clear hi121_1 hl121_1; have HR121_2 := Aside0.mk hi121_2; have HC121_2 := Aside0.mk hl121_2; clear hi121_2 hl121_2; replace p121 := eq_true p121; replace q121 := eq_true q121; have ea_ := Option.some.inj (hx114_1.symm.trans hx121_1); injection ea_ with ea_ en_ ec_; subst ea_; subst ec_; clear en_; have ea_ := Option.some.inj (hx114_2.symm.trans hx121_2); injection ea_ with ea_ en_ ec_; subst ea_; subst ec_; clear en_; have p122 : 0 ≤ (x4_2 : Int) := of_decide_eq_true (by first | (with_reducible assumption) | assumption); have q122 : x4_2 < (((rd_T29 l0 0).f2).length : Int) := of_decide_eq_true (by first | (with_reducible assumption) | assumption); obtain ⟨ad122, e122, hx122_0⟩ := Kd.at_int HR121_2.out x4_2 p122 q122; cases e122; replace p122 := eq_true p122; replace q122 := eq_true q122) | (go_at_call 32; (with_reducible refine (spec_l00In.calls (rd ((rd_T29 l0 0).f2) x4_2) 2 3 false _ A21.out).mono ?_); rintro e w' ⟨rfl, ⟨nd, rfl⟩⟩))
                       go_ret
                       exact ⟨by first | rfl | (simp; done) | (simp [*]; done), by repeat (first | exact Drawn0.refl _ | apply Drawn0.step)⟩
                   · rw [if_neg c20] at H
                     exact absurd H (by simp)
                 · rw [if_neg c19] at H
                   have c19b0 : decide (0 < x4_2) = false := decide_eq_false c19
                   clear c19
                   have H' := Aside0.mk H
                   clear H
                   have p114 : 0 ≤ (0 : Int) := (by omega)
                   have q114 : 0 < (l0.length : Int) := of_decide_eq_true (by first | (with_reducible assumption) | assumption)
                   obtain ⟨ad114, A114_1, c114_1, A114_2, c114_2, e114, hx114_0, hx114_1, hx114_2, hl114_1, hi114_1, hl114_2, hi114_2⟩ := at_T29 HR0.out 0 p114 q114
                   obtain rfl : ad108 = ad114 := (by injection e114)
                   have qi114 : (0 < l0.length) = True := eq_true (by omega)
                   (try rw [show ((0 : Int)).toNat = 0 from rfl] at hx114_0)
                   (try rw [show 0 * 3 = 0 from rfl] at hx114_0)
                   (try rw [Addr.add_zero'] at hx114_0)
                   (try rw [show ((0 : Int)).toNat = 0 from rfl] at hx114_1)
                   (try rw [show 0 * 3 = 0 from rfl] at hx114_1)
                   (try rw [Addr.add_zero'] at hx114_1)
                   (try rw [show ((0 : Int)).toNat = 0 from rfl] at hx114_2)
                   (try rw [show 0 * 3 = 0 from rfl] at hx114_2)
                   (try rw [Addr.add_zero'] at hx114_2)
                   have HR114_1 := Aside0.mk hi114_1
                   have HC114_1 := Aside0.mk hl114_1
                   clear hi114_1 hl114_1
                   have HR114_2 := Aside0.mk hi114_2
                   have HC114_2 := Aside0.mk hl114_2
                   clear hi114_2 hl114_2
                   replace p114 := eq_true p114
                   replace q114 := eq_true q114
                   have p115 : 0 ≤ (x4_2 : Int) := of_decide_eq_true (by first | (with_reducible assumption) | assumption)
                   have q115 : x4_2 < (((rd_T29 l0 0).f1).length : Int) := of_decide_eq_true (by first | (with_reducible assumption) | assumption)
                   obtain ⟨ad115, e115, hx115_0⟩ := Kd.at_int HR114_1.out x4_2 p115 q115
                   cases e115
                   replace p115 := eq_true p115
                   replace q115 := eq_true q115
                   go_wp2_with (first | ((with_reducible refine gate_callee (f := 32) rfl ?_); refine gL_ (some 42) rfl rfl Try.func32 #[.int .i64 (rd ((rd_T29 l0 0).f1) x4_2), .int .i64 1, .int .i64 16] rfl ?_; (with_reducible refine (spec_l00In.calls (rd ((rd_T29 l0 0).f1) x4_2) 1 16 true _ A11.out).mono ?_); rintro e w' ⟨rfl, ⟨nd, rfl⟩⟩; refine ⟨_, rfl, ?_⟩))
                   go_roundg k2
                   case measure => have := HJ1.out; have := HK2.out; omega
                   case rel => exact ⟨(wrap64 (x4_2 + 1)), (by first | rfl | (simp; done) | (simp [*]; done)), H', ⟨by have := HJ1.out; have := HK2.out; omega⟩, by repeat (first | exact Drawn0.refl _ | apply Drawn0.step)⟩
             · replace c12 := Bool.eq_false_iff.mpr c12
               subst c12
               have H1 : (some false) = some r := by rw [if_neg (show ¬ (false = true) by decide)] at H; exact H
               clear H
               have H := H1
               clear H1
               obtain rfl := Option.some.inj H
               have p114 : 0 ≤ (0 : Int) := (by omega)
               have q114 : 0 < (l0.length : Int) := of_decide_eq_true (by first | (with_reducible assumption) | assumption)
               obtain ⟨ad114, A114_1, c114_1, A114_2, c114_2, e114, hx114_0, hx114_1, hx114_2, hl114_1, hi114_1, hl114_2, hi114_2⟩ := at_T29 HR0.out 0 p114 q114
               obtain rfl : ad108 = ad114 := (by injection e114)
               have qi114 : (0 < l0.length) = True := eq_true (by omega)
               (try rw [show ((0 : Int)).toNat = 0 from rfl] at hx114_0)
               (try rw [show 0 * 3 = 0 from rfl] at hx114_0)
               (try rw [Addr.add_zero'] at hx114_0)
               (try rw [show ((0 : Int)).toNat = 0 from rfl] at hx114_1)
               (try rw [show 0 * 3 = 0 from rfl] at hx114_1)
               (try rw [Addr.add_zero'] at hx114_1)
               (try rw [show ((0 : Int)).toNat = 0 from rfl] at hx114_2)
               (try rw [show 0 * 3 = 0 from rfl] at hx114_2)
               (try rw [Addr.add_zero'] at hx114_2)
               have HR114_1 := Aside0.mk hi114_1
               have HC114_1 := Aside0.mk hl114_1
               clear hi114_1 hl114_1
               have HR114_2 := Aside0.mk hi114_2
               have HC114_2 := Aside0.mk hl114_2
               clear hi114_2 hl114_2
               replace p114 := eq_true p114
               replace q114 := eq_true q114
               have p115 : 0 ≤ (x4_2 : Int) := of_decide_eq_true (by first | (with_reducible assumption) | assumption)
               have q115 : x4_2 < (((rd_T29 l0 0).f1).length : Int) := of_decide_eq_true (by first | (with_reducible assumption) | assumption)
               obtain ⟨ad115, e115, hx115_0⟩ := Kd.at_int HR114_1.out x4_2 p115 q115
               cases e115
               replace p115 := eq_true p115
               replace q115 := eq_true q115
               go_wp2_with (first | ((with_reducible refine gate_callee (f := 32) rfl ?_); refine gL_ (some 42) rfl rfl Try.func32 #[.int .i64 (rd ((rd_T29 l0 0).f1) x4_2), .int .i64 1, .int .i64 16] rfl ?_; (with_reducible refine (spec_l00In.calls (rd ((rd_T29 l0 0).f1) x4_2) 1 16 false _ A11.out).mono ?_); rintro e w' ⟨rfl, ⟨nd, rfl⟩⟩; refine ⟨_, rfl, ?_⟩))
               go_ret
               exact ⟨by first | rfl | (simp; done) | (simp [*]; done), by repeat (first | exact Drawn0.refl _ | apply Drawn0.step)⟩
           · rw [if_neg c10] at H
             exact absurd H (by simp)
         · rw [if_neg c9] at H
           exact absurd H (by simp)
       · rw [if_neg c8] at H
         have c8b0 : decide (x4_2 < (((rd_T29 l0 0).f1).length : Int)) = false := decide_eq_false c8
         clear c8
         replace H := Option.bind_eq_some_iff.mp H
         obtain ⟨t113, A230, H⟩ := H
         replace H : (some (decide (t113 ≤ 32))) = some r := H
         have A23 := Aside0.mk A230
         clear A230
         obtain rfl := Option.some.inj H
         have p112 : 0 ≤ (0 : Int) := (by omega)
         have q112 : 0 < (l0.length : Int) := of_decide_eq_true (by first | (with_reducible assumption) | assumption)
         obtain ⟨ad112, A112_1, c112_1, A112_2, c112_2, e112, hx112_0, hx112_1, hx112_2, hl112_1, hi112_1, hl112_2, hi112_2⟩ := at_T29 HR0.out 0 p112 q112
         obtain rfl : ad108 = ad112 := (by injection e112)
         have qi112 : (0 < l0.length) = True := eq_true (by omega)
         (try rw [show ((0 : Int)).toNat = 0 from rfl] at hx112_0)
         (try rw [show 0 * 3 = 0 from rfl] at hx112_0)
         (try rw [Addr.add_zero'] at hx112_0)
         (try rw [show ((0 : Int)).toNat = 0 from rfl] at hx112_1)
         (try rw [show 0 * 3 = 0 from rfl] at hx112_1)
         (try rw [Addr.add_zero'] at hx112_1)
         (try rw [show ((0 : Int)).toNat = 0 from rfl] at hx112_2)
         (try rw [show 0 * 3 = 0 from rfl] at hx112_2)
         (try rw [Addr.add_zero'] at hx112_2)
         have HR112_1 := Aside0.mk hi112_1
         have HC112_1 := Aside0.mk hl112_1
         clear hi112_1 hl112_1
         have HR112_2 := Aside0.mk hi112_2
         have HC112_2 := Aside0.mk hl112_2
         clear hi112_2 hl112_2
         replace p112 := eq_true p112
         replace q112 := eq_true q112
         go_wp2_with (first | ((with_reducible refine gate_callee (f := 43) rfl ?_); refine gL_ (some 75) rfl rfl Try.func43 #[.slice A112_1 ((rd_T29 l0 0).f1).length c112_1] rfl ?_; (with_reducible refine (spec_l17Sum.calls k2 _ _ ((rd_T29 l0 0).f1) t113 _ ?side1 ?side2 A23.out).mono ?_); (case side1 => repeat (first | exact HR112_1.out | (with_reducible refine Kd.C_alloc ?_ _) | (with_reducible refine Kd.C_drewN ?_ _) | (with_reducible refine Kd.C_drew ?_))); (case side2 => exact HC112_1.out); rintro e w' ⟨rfl, ⟨nd, rfl⟩⟩; refine ⟨_, rfl, ?_⟩))
         go_ret
         exact ⟨by first | rfl | (simp; done) | (simp [*]; done), by repeat (first | exact Drawn0.refl _ | apply Drawn0.step)⟩

end Go.Proofs.Ytepodajmfcjjkaa.PL
