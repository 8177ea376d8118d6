-- WRITTEN BY wip/gprint.py, a program of this session's over the kit's print, with contracts given by hand
import Derived.Test.YtmeflmlejcmckaaDoorPSx0
import Derived.Test.YtmeflmlejcmckaaDoorPSx4
import Derived.Test.YtmeflmlejcmckaaDoorPSx5
import Derived.Test.YtmeflmlejcmckaaDoorPSx17
namespace Go.Proofs.YtmeflmlejcmckaaDoor.PS
open Go.RowKit Go.Proofs.YtmeflmlejcmckaaDoorW.PrintWords Go.Proofs.YtmeflmlejcmckaaDoorW.PrintLast Go.Proofs.YtmeflmlejcmckaaDoorW.PrintMore
attribute [local go_sem] max2_int min2_int max_two min_two max_three min_three max_four min_four   -- for this text's walks alone
set_option linter.unusedVariables false
set_option linter.unusedSimpArgs false

/-! ### spec_l17Ok: function 96 -/
mutual
def spec_l17Ok.j0 : Nat → List (S39) → Int → Bool → Option (Bool)
 | 0, _, _, _ => none
 | k + 1, x0, x3, x29 => if x29 = true then (some false) else (spec_l17Ok.l0 k x0 x3 0)
def spec_l17Ok.l0 : Nat → List (S39) → Int → Int → Option (Bool)
 | 0, _, _, _ => none
 | k + 1, x0, x3, x4 => if x4 < x3 then (if 0 ≤ x4 then (if x4 < (((rd_T39 x0 0).f1).length : Int) then ((spec_l00In.f (rd ((rd_T39 x0 0).f1) x4) 1 16).bind fun t256 => (if t256 = true then (if x4 = 0 then (if x4 < (((rd_T39 x0 0).f2).length : Int) then (if (rd ((rd_T39 x0 0).f2) x4) = 1 then (if x4 > 0 then ((spec_l00In.f (rd ((rd_T39 x0 0).f2) x4) 2 3).bind fun t260 => (if t260 = true then (spec_l17Ok.l0 k x0 x3 (wrap64 (x4 + 1))) else (some false))) else (spec_l17Ok.l0 k x0 x3 (wrap64 (x4 + 1)))) else (some false)) else (none)) else (if x4 > 0 then (if x4 < (((rd_T39 x0 0).f2).length : Int) then ((spec_l00In.f (rd ((rd_T39 x0 0).f2) x4) 2 3).bind fun t263 => (if t263 = true then (spec_l17Ok.l0 k x0 x3 (wrap64 (x4 + 1))) else (some false))) else (none)) else (spec_l17Ok.l0 k x0 x3 (wrap64 (x4 + 1))))) else (some false))) else (none)) else (none)) else ((spec_l17Sum.f k ((rd_T39 x0 0).f1)).bind fun t253 => (some (decide (t253 ≤ 32))))
end
def spec_l17Ok.f (k : Nat) (l0 : List (S39)) : Option (Bool) := (spec_l01Name.f k ((rd_T39 l0 0).f0)).bind fun t250 => (if t250 = true then ((spec_l00In.f (((rd_T39 l0 0).f1).length : Int) 1 8).bind fun t251 => (if t251 = true then (spec_l17Ok.j0 k l0 (((rd_T39 l0 0).f1).length : Int) ((((rd_T39 l0 0).f2).length : Int) != (((rd_T39 l0 0).f1).length : Int))) else (spec_l17Ok.j0 k l0 (((rd_T39 l0 0).f1).length : Int) true))) else (spec_l17Ok.j0 k l0 (((rd_T39 l0 0).f1).length : Int) true))
theorem spec_l17Ok.mono_l : ∀ k, (∀ y0 y1 y2, LeO (spec_l17Ok.j0 k y0 y1 y2) (spec_l17Ok.j0 (k + 1) y0 y1 y2)) ∧ (∀ y0 y1 y2, LeO (spec_l17Ok.l0 k y0 y1 y2) (spec_l17Ok.l0 (k + 1) y0 y1 y2))
 | 0 => ⟨fun _ _ _ r h => by simp [spec_l17Ok.j0] at h, fun _ _ _ r h => by simp [spec_l17Ok.l0] at h⟩
 | k + 1 => by
  obtain ⟨ih0, ih1⟩ := spec_l17Ok.mono_l k
  refine ⟨?_, ?_⟩
  all_goals (intros; (first | unfold spec_l17Ok.j0 | unfold spec_l17Ok.l0); repeat' first
   | (with_reducible exact ih0 _ _ _)
   | (with_reducible exact ih1 _ _ _)
   | (with_reducible exact spec_l01Name.mono _ _)
   | (with_reducible exact spec_l17Sum.mono _ _)
   | (with_reducible exact LeO.refl _)
   | (with_reducible exact LeO.none _)
   | (with_reducible refine LeO.ite ?_ ?_)
   | (with_reducible refine LeO.bind ?_ (fun _ => ?_))
   | exact ih0 _ _ _
   | exact ih1 _ _ _
   | exact spec_l01Name.mono _ _
   | exact spec_l17Sum.mono _ _
   | exact LeO.none _
   | refine LeO.ite ?_ ?_
   | refine LeO.bind ?_ (fun _ => ?_))
theorem spec_l17Ok.mono : ∀ a0 k, LeO (spec_l17Ok.f k a0) (spec_l17Ok.f (k + 1) a0) := by
 intro a0 k
 obtain ⟨ih0, ih1⟩ := spec_l17Ok.mono_l k
 unfold spec_l17Ok.f
 repeat' first
  | (with_reducible exact ih0 _ _ _)
  | (with_reducible exact ih1 _ _ _)
  | (with_reducible exact spec_l01Name.mono _ _)
  | (with_reducible exact spec_l17Sum.mono _ _)
  | (with_reducible exact LeO.refl _)
  | (with_reducible exact LeO.none _)
  | (with_reducible refine LeO.ite ?_ ?_)
  | (with_reducible refine LeO.bind ?_ (fun _ => ?_))
  | exact ih0 _ _ _
  | exact ih1 _ _ _
  | exact spec_l01Name.mono _ _
  | exact spec_l17Sum.mono _ _
  | exact LeO.none _
  | refine LeO.ite ?_ ?_
  | refine LeO.bind ?_ (fun _ => ?_)
set_option maxHeartbeats 8000000 in
set_option maxRecDepth 100000 in
theorem spec_l17Ok.calls (k : Nat) (A0 : Option Addr) (l0 : List (S39)) (r : Bool) (w : World) (hr0 : Kd.C k39 w A0 l0.length l0) (hn0 : 0 < l0.length) (h : spec_l17Ok.f k l0 = some r) :
 Calls Tryd.prog 96 #[.pointer A0] w fun e w' => e = .returned (.bool r) ∧ Drawn0 w w' := by
 have HR0 := Aside0.mk hr0
 clear hr0
 have HN0 := Aside0.mk hn0
 have hn0b0 : decide ((0 : Int) < (l0.length : Int)) = true := decide_eq_true (Int.ofNat_lt.2 hn0)
 have hn0b1 : decide (0 < l0.length) = true := decide_eq_true hn0
 clear hn0
 have H : ((spec_l01Name.f k ((rd_T39 l0 0).f0)).bind fun t250 => (if t250 = true then ((spec_l00In.f (((rd_T39 l0 0).f1).length : Int) 1 8).bind fun t251 => (if t251 = true then (spec_l17Ok.j0 k l0 (((rd_T39 l0 0).f1).length : Int) ((((rd_T39 l0 0).f2).length : Int) != (((rd_T39 l0 0).f1).length : Int))) else (spec_l17Ok.j0 k l0 (((rd_T39 l0 0).f1).length : Int) true))) else (spec_l17Ok.j0 k l0 (((rd_T39 l0 0).f1).length : Int) true))) = some r := h
 clear h
 have HC2 := Aside0.mk H
 clear H
 have p248 : 0 ≤ (0 : Int) := (by omega)
 have q248 : 0 < (l0.length : Int) := of_decide_eq_true tA
 obtain ⟨ad248, A248_1, c248_1, A248_2, c248_2, e248, hx248_0, hx248_1, hx248_2, hl248_1, hi248_1, hl248_2, hi248_2⟩ := at_T39 HR0.out 0 p248 q248
 cases e248
 have qi248 : (0 < l0.length) = True := eq_true (by omega)
 (try rw [t0n] at hx248_0)
 (try rw [show 0 * 3 = 0 from rfl] at hx248_0)
 (try rw [Addr.add_zero'] at hx248_0)
 (try rw [t0n] at hx248_1)
 (try rw [show 0 * 3 = 0 from rfl] at hx248_1)
 (try rw [Addr.add_zero'] at hx248_1)
 (try rw [t0n] at hx248_2)
 (try rw [show 0 * 3 = 0 from rfl] at hx248_2)
 (try rw [Addr.add_zero'] at hx248_2)
 have HR248_1 := Aside0.mk hi248_1
 have HC248_1 := Aside0.mk hl248_1
 clear hi248_1 hl248_1
 have HR248_2 := Aside0.mk hi248_2
 have HC248_2 := Aside0.mk hl248_2
 clear hi248_2 hl248_2
 replace p248 := eq_true p248
 replace q248 := eq_true q248
 go_enter Tryd.func96, Tryd.ntmps96
 go_upto_region 2 with (fail)
 go_cut [29] (fun v29 wc => ∃ (kq : Nat) (x29_1 : Bool), v29 = .bool x29_1 ∧ Aside0 (spec_l17Ok.j0 kq l0 (((rd_T39 l0 0).f1).length : Int) x29_1 = some r) ∧ Aside0 (kq ≤ k) ∧ Drawn0 w wc)
 case first =>
  have H := HC2.out
  clear HC2
  replace H := Option.bind_eq_some_iff.mp H
  obtain ⟨t250, A30, H⟩ := H
  replace H : (if t250 = true then ((spec_l00In.f (((rd_T39 l0 0).f1).length : Int) 1 8).bind fun t251 => (if t251 = true then (spec_l17Ok.j0 k l0 (((rd_T39 l0 0).f1).length : Int) ((((rd_T39 l0 0).f2).length : Int) != (((rd_T39 l0 0).f1).length : Int))) else (spec_l17Ok.j0 k l0 (((rd_T39 l0 0).f1).length : Int) true))) else (spec_l17Ok.j0 k l0 (((rd_T39 l0 0).f1).length : Int) true)) = some r := H
  have A3 := Aside0.mk A30
  clear A30
  by_cases c4 : t250 = true
  · subst c4
    have H1 : ((spec_l00In.f (((rd_T39 l0 0).f1).length : Int) 1 8).bind fun t251 => (if t251 = true then (spec_l17Ok.j0 k l0 (((rd_T39 l0 0).f1).length : Int) ((((rd_T39 l0 0).f2).length : Int) != (((rd_T39 l0 0).f1).length : Int))) else (spec_l17Ok.j0 k l0 (((rd_T39 l0 0).f1).length : Int) true))) = some r := by rw [if_pos rfl] at H; exact H
    clear H
    have H := H1
    clear H1
    replace H := Option.bind_eq_some_iff.mp H
    obtain ⟨t251, A50, H⟩ := H
    replace H : (if t251 = true then (spec_l17Ok.j0 k l0 (((rd_T39 l0 0).f1).length : Int) ((((rd_T39 l0 0).f2).length : Int) != (((rd_T39 l0 0).f1).length : Int))) else (spec_l17Ok.j0 k l0 (((rd_T39 l0 0).f1).length : Int) true)) = some r := H
    have A5 := Aside0.mk A50
    clear A50
    by_cases c6 : t251 = true
    · subst c6
      have H1 : (spec_l17Ok.j0 k l0 (((rd_T39 l0 0).f1).length : Int) ((((rd_T39 l0 0).f2).length : Int) != (((rd_T39 l0 0).f1).length : Int))) = some r := by rw [if_pos rfl] at H; exact H
      clear H
      have H := H1
      clear H1
      have H' := Aside0.mk H
      clear H
      have p249 : 0 ≤ (0 : Int) := (by omega)
      have q249 : 0 < (l0.length : Int) := of_decide_eq_true tA
      obtain ⟨ad249, A249_1, c249_1, A249_2, c249_2, e249, hx249_0, hx249_1, hx249_2, hl249_1, hi249_1, hl249_2, hi249_2⟩ := at_T39 HR0.out 0 p249 q249
      obtain rfl : ad248 = ad249 := (by injection e249)
      have qi249 : (0 < l0.length) = True := eq_true (by omega)
      (try rw [t0n] at hx249_0)
      (try rw [show 0 * 3 = 0 from rfl] at hx249_0)
      (try rw [Addr.add_zero'] at hx249_0)
      (try rw [t0n] at hx249_1)
      (try rw [show 0 * 3 = 0 from rfl] at hx249_1)
      (try rw [Addr.add_zero'] at hx249_1)
      (try rw [t0n] at hx249_2)
      (try rw [show 0 * 3 = 0 from rfl] at hx249_2)
      (try rw [Addr.add_zero'] at hx249_2)
      have HR249_1 := Aside0.mk hi249_1
      have HC249_1 := Aside0.mk hl249_1
      clear hi249_1 hl249_1
      have HR249_2 := Aside0.mk hi249_2
      have HC249_2 := Aside0.mk hl249_2
      clear hi249_2 hl249_2
      replace p249 := eq_true p249
      replace q249 := eq_true q249
      go_wp2_with (first | ((with_reducible refine gate_callee (f := 156) rfl ?_); refine gL_ (some 14) rfl rfl Tryd.func156 #[.string ((rd_T39 l0 0).f0)] rfl ?_; (with_reducible refine (spec_l01Name.calls k ((rd_T39 l0 0).f0) true _ A3.out).mono ?_); rintro e w' ⟨rfl, ⟨nd, rfl⟩⟩; refine ⟨_, rfl, ?_⟩) | (go_at_call 118; (with_reducible refine (spec_l00In.calls (((rd_T39 l0 0).f1).length : Int) 1 8 true _ A5.out).mono ?_); rintro e w' ⟨rfl, ⟨nd, rfl⟩⟩))
      go_meet
      case rel => exact ⟨_, (((((rd_T39 l0 0).f2).length : Int) != (((rd_T39 l0 0).f1).length : Int))), tq, H', ⟨by first | omega | exact Nat.le_refl _⟩, tZ⟩
    replace c6 := Bool.eq_false_iff.mpr c6
    subst c6
    have H1 : (spec_l17Ok.j0 k l0 (((rd_T39 l0 0).f1).length : Int) true) = some r := by rw [if_neg (show ¬ (false = true) by decide)] at H; exact H
    clear H
    have H := H1
    clear H1
    have H' := Aside0.mk H
    clear H
    have p249 : 0 ≤ (0 : Int) := (by omega)
    have q249 : 0 < (l0.length : Int) := of_decide_eq_true tA
    obtain ⟨ad249, A249_1, c249_1, A249_2, c249_2, e249, hx249_0, hx249_1, hx249_2, hl249_1, hi249_1, hl249_2, hi249_2⟩ := at_T39 HR0.out 0 p249 q249
    obtain rfl : ad248 = ad249 := (by injection e249)
    have qi249 : (0 < l0.length) = True := eq_true (by omega)
    (try rw [t0n] at hx249_0)
    (try rw [show 0 * 3 = 0 from rfl] at hx249_0)
    (try rw [Addr.add_zero'] at hx249_0)
    (try rw [t0n] at hx249_1)
    (try rw [show 0 * 3 = 0 from rfl] at hx249_1)
    (try rw [Addr.add_zero'] at hx249_1)
    (try rw [t0n] at hx249_2)
    (try rw [show 0 * 3 = 0 from rfl] at hx249_2)
    (try rw [Addr.add_zero'] at hx249_2)
    have HR249_1 := Aside0.mk hi249_1
    have HC249_1 := Aside0.mk hl249_1
    clear hi249_1 hl249_1
    have HR249_2 := Aside0.mk hi249_2
    have HC249_2 := Aside0.mk hl249_2
    clear hi249_2 hl249_2
    replace p249 := eq_true p249
    replace q249 := eq_true q249
    go_wp2_with (first | ((with_reducible refine gate_callee (f := 156) rfl ?_); refine gL_ (some 14) rfl rfl Tryd.func156 #[.string ((rd_T39 l0 0).f0)] rfl ?_; (with_reducible refine (spec_l01Name.calls k ((rd_T39 l0 0).f0) true _ A3.out).mono ?_); rintro e w' ⟨rfl, ⟨nd, rfl⟩⟩; refine ⟨_, rfl, ?_⟩) | (go_at_call 118; (with_reducible refine (spec_l00In.calls (((rd_T39 l0 0).f1).length : Int) 1 8 false _ A5.out).mono ?_); rintro e w' ⟨rfl, ⟨nd, rfl⟩⟩))
    go_meet
    case rel => exact ⟨_, (true), tq, H', ⟨by first | omega | exact Nat.le_refl _⟩, tZ⟩
  replace c4 := Bool.eq_false_iff.mpr c4
  subst c4
  have H1 : (spec_l17Ok.j0 k l0 (((rd_T39 l0 0).f1).length : Int) true) = some r := by rw [if_neg (show ¬ (false = true) by decide)] at H; exact H
  clear H
  have H := H1
  clear H1
  have H' := Aside0.mk H
  clear H
  have p249 : 0 ≤ (0 : Int) := (by omega)
  have q249 : 0 < (l0.length : Int) := of_decide_eq_true tA
  obtain ⟨ad249, A249_1, c249_1, A249_2, c249_2, e249, hx249_0, hx249_1, hx249_2, hl249_1, hi249_1, hl249_2, hi249_2⟩ := at_T39 HR0.out 0 p249 q249
  obtain rfl : ad248 = ad249 := (by injection e249)
  have qi249 : (0 < l0.length) = True := eq_true (by omega)
  (try rw [t0n] at hx249_0)
  (try rw [show 0 * 3 = 0 from rfl] at hx249_0)
  (try rw [Addr.add_zero'] at hx249_0)
  (try rw [t0n] at hx249_1)
  (try rw [show 0 * 3 = 0 from rfl] at hx249_1)
  (try rw [Addr.add_zero'] at hx249_1)
  (try rw [t0n] at hx249_2)
  (try rw [show 0 * 3 = 0 from rfl] at hx249_2)
  (try rw [Addr.add_zero'] at hx249_2)
  have HR249_1 := Aside0.mk hi249_1
  have HC249_1 := Aside0.mk hl249_1
  clear hi249_1 hl249_1
  have HR249_2 := Aside0.mk hi249_2
  have HC249_2 := Aside0.mk hl249_2
  clear hi249_2 hl249_2
  replace p249 := eq_true p249
  replace q249 := eq_true q249
  go_wp2_with (first | ((with_reducible refine gate_callee (f := 156) rfl ?_); refine gL_ (some 14) rfl rfl Tryd.func156 #[.string ((rd_T39 l0 0).f0)] rfl ?_; (with_reducible refine (spec_l01Name.calls k ((rd_T39 l0 0).f0) false _ A3.out).mono ?_); rintro e w' ⟨rfl, ⟨nd, rfl⟩⟩; refine ⟨_, rfl, ?_⟩))
  go_meet
  case rel => exact ⟨_, (true), tq, H', ⟨by first | omega | exact Nat.le_refl _⟩, tZ⟩
 case rest =>
 clear HC2
 try clear c1
 try clear c2
 try clear p2
 try clear q2
 try clear hx2
 try clear qi2
 try clear c4
 try clear c6
 try clear hx248_0
 try clear hx248_1
 try clear hx248_2
 try clear hx249_0
 try clear hx249_1
 try clear hx249_2
 try clear p248
 try clear p249
 try clear q248
 try clear q249
 obtain ⟨kq, x29_1, rfl, HA, HJ1, ⟨mc1, rfl⟩⟩ := hcut
 cases kq with
 | zero => exact absurd HA.out (by simp [spec_l17Ok.j0])
 | succ kj1 =>
 have H := HA.out
 clear HA
 simp only [spec_l17Ok.j0] at H
 by_cases c7 : x29_1 = true
 · subst c7
   have H1 : (some false) = some r := by rw [if_pos rfl] at H; exact H
   clear H
   have H := H1
   clear H1
   obtain rfl := Option.some.inj H
   go_wp2
   go_ret
   exact ⟨by first | rfl | (simp; done) | (simp [*]; done), tZ⟩
 replace c7 := Bool.eq_false_iff.mpr c7
 subst c7
 have H1 : (spec_l17Ok.l0 kj1 l0 (((rd_T39 l0 0).f1).length : Int) 0) = some r := by rw [if_neg (show ¬ (false = true) by decide)] at H; exact H
 clear H
 have H := H1
 clear H1
 have H' := Aside0.mk H
 clear H
 go_wp2
 go_loopg [4] kj1 (fun kq v4 w' => ∃ (x4_2 : Int), v4 = .int .i64 x4_2 ∧ Aside0 (spec_l17Ok.l0 kq l0 (((rd_T39 l0 0).f1).length : Int) x4_2 = some r) ∧ Aside0 (kq ≤ kj1) ∧ Drawn0 w w')
 case atStart => exact ⟨(0), tq, H', ⟨Nat.le_refl _⟩, tZ⟩
 case round =>
 clear H'
 try clear c1
 try clear c2
 try clear p2
 try clear q2
 try clear hx2
 try clear qi2
 try clear c4
 try clear c6
 try clear c7
 try clear hx248_0
 try clear hx248_1
 try clear hx248_2
 try clear hx249_0
 try clear hx249_1
 try clear hx249_2
 try clear p2
 try clear p248
 try clear p249
 try clear q2
 try clear q248
 try clear q249
 obtain ⟨x4_2, rfl, HA, HK2, ⟨m2, rfl⟩⟩ := hrel
 cases gk with
 | zero => exact absurd HA.out (by simp [spec_l17Ok.l0])
 | succ k2 =>
 have H := HA.out
 clear HA
 simp only [spec_l17Ok.l0] at H
 by_cases c8 : x4_2 < (((rd_T39 l0 0).f1).length : Int)
 · rw [if_pos c8] at H
   have c8b0 : decide (x4_2 < (((rd_T39 l0 0).f1).length : Int)) = true := decide_eq_true c8
   clear c8
   by_cases c9 : 0 ≤ x4_2
   · rw [if_pos c9] at H
     have c9b0 : decide (0 ≤ x4_2) = true := decide_eq_true c9
     clear c9
     by_cases c10 : x4_2 < (((rd_T39 l0 0).f1).length : Int)
     · rw [if_pos c10] at H
       have c10b0 : decide (x4_2 < (((rd_T39 l0 0).f1).length : Int)) = true := decide_eq_true c10
       clear c10
       replace H := Option.bind_eq_some_iff.mp H
       obtain ⟨t256, A110, H⟩ := H
       replace H : (if t256 = true then (if x4_2 = 0 then (if x4_2 < (((rd_T39 l0 0).f2).length : Int) then (if (rd ((rd_T39 l0 0).f2) x4_2) = 1 then (if x4_2 > 0 then ((spec_l00In.f (rd ((rd_T39 l0 0).f2) x4_2) 2 3).bind fun t260 => (if t260 = true then (spec_l17Ok.l0 k2 l0 (((rd_T39 l0 0).f1).length : Int) (wrap64 (x4_2 + 1))) else (some false))) else (spec_l17Ok.l0 k2 l0 (((rd_T39 l0 0).f1).length : Int) (wrap64 (x4_2 + 1)))) else (some false)) else (none)) else (if x4_2 > 0 then (if x4_2 < (((rd_T39 l0 0).f2).length : Int) then ((spec_l00In.f (rd ((rd_T39 l0 0).f2) x4_2) 2 3).bind fun t263 => (if t263 = true then (spec_l17Ok.l0 k2 l0 (((rd_T39 l0 0).f1).length : Int) (wrap64 (x4_2 + 1))) else (some false))) else (none)) else (spec_l17Ok.l0 k2 l0 (((rd_T39 l0 0).f1).length : Int) (wrap64 (x4_2 + 1))))) else (some false)) = some r := H
       have A11 := Aside0.mk A110
       clear A110
       by_cases c12 : t256 = true
       · subst c12
         have H1 : (if x4_2 = 0 then (if x4_2 < (((rd_T39 l0 0).f2).length : Int) then (if (rd ((rd_T39 l0 0).f2) x4_2) = 1 then (if x4_2 > 0 then ((spec_l00In.f (rd ((rd_T39 l0 0).f2) x4_2) 2 3).bind fun t260 => (if t260 = true then (spec_l17Ok.l0 k2 l0 (((rd_T39 l0 0).f1).length : Int) (wrap64 (x4_2 + 1))) else (some false))) else (spec_l17Ok.l0 k2 l0 (((rd_T39 l0 0).f1).length : Int) (wrap64 (x4_2 + 1)))) else (some false)) else (none)) else (if x4_2 > 0 then (if x4_2 < (((rd_T39 l0 0).f2).length : Int) then ((spec_l00In.f (rd ((rd_T39 l0 0).f2) x4_2) 2 3).bind fun t263 => (if t263 = true then (spec_l17Ok.l0 k2 l0 (((rd_T39 l0 0).f1).length : Int) (wrap64 (x4_2 + 1))) else (some false))) else (none)) else (spec_l17Ok.l0 k2 l0 (((rd_T39 l0 0).f1).length : Int) (wrap64 (x4_2 + 1))))) = some r := by rw [if_pos rfl] at H; exact H
         clear H
         have H := H1
         clear H1
         by_cases c13 : x4_2 = 0
         · rw [if_pos c13] at H
           have c13b0 : (x4_2 == 0) = true := beq_iff_eq.mpr c13
           have c13b1 : (x4_2 != 0) = false := bne_eq_false_iff_eq.mpr c13
           clear c13
           by_cases c14 : x4_2 < (((rd_T39 l0 0).f2).length : Int)
           · rw [if_pos c14] at H
             have c14b0 : decide (x4_2 < (((rd_T39 l0 0).f2).length : Int)) = true := decide_eq_true c14
             clear c14
             by_cases c15 : (rd ((rd_T39 l0 0).f2) x4_2) = 1
             · rw [if_pos c15] at H
               have c15b0 : ((rd ((rd_T39 l0 0).f2) x4_2) == 1) = true := beq_iff_eq.mpr c15
               have c15b1 : ((rd ((rd_T39 l0 0).f2) x4_2) != 1) = false := bne_eq_false_iff_eq.mpr c15
               clear c15
               by_cases c16 : x4_2 > 0
               · rw [if_pos c16] at H
                 have c16b0 : decide (0 < x4_2) = true := decide_eq_true c16
                 clear c16
                 replace H := Option.bind_eq_some_iff.mp H
                 obtain ⟨t260, A170, H⟩ := H
                 replace H : (if t260 = true then (spec_l17Ok.l0 k2 l0 (((rd_T39 l0 0).f1).length : Int) (wrap64 (x4_2 + 1))) else (some false)) = some r := H
                 have A17 := Aside0.mk A170
                 clear A170
                 by_cases c18 : t260 = true
                 · subst c18
                   have H1 : (spec_l17Ok.l0 k2 l0 (((rd_T39 l0 0).f1).length : Int) (wrap64 (x4_2 + 1))) = some r := by rw [if_pos rfl] at H; exact H
                   clear H
                   have H := H1
                   clear H1
                   have H' := Aside0.mk H
                   clear H
                   have p254 : 0 ≤ (0 : Int) := (by omega)
                   have q254 : 0 < (l0.length : Int) := of_decide_eq_true tA
                   obtain ⟨ad254, A254_1, c254_1, A254_2, c254_2, e254, hx254_0, hx254_1, hx254_2, hl254_1, hi254_1, hl254_2, hi254_2⟩ := at_T39 HR0.out 0 p254 q254
                   obtain rfl : ad248 = ad254 := (by injection e254)
                   have qi254 : (0 < l0.length) = True := eq_true (by omega)
                   (try rw [t0n] at hx254_0)
                   (try rw [show 0 * 3 = 0 from rfl] at hx254_0)
                   (try rw [Addr.add_zero'] at hx254_0)
                   (try rw [t0n] at hx254_1)
                   (try rw [show 0 * 3 = 0 from rfl] at hx254_1)
                   (try rw [Addr.add_zero'] at hx254_1)
                   (try rw [t0n] at hx254_2)
                   (try rw [show 0 * 3 = 0 from rfl] at hx254_2)
                   (try rw [Addr.add_zero'] at hx254_2)
                   have HR254_1 := Aside0.mk hi254_1
                   have HC254_1 := Aside0.mk hl254_1
                   clear hi254_1 hl254_1
                   have HR254_2 := Aside0.mk hi254_2
                   have HC254_2 := Aside0.mk hl254_2
                   clear hi254_2 hl254_2
                   replace p254 := eq_true p254
                   replace q254 := eq_true q254
                   have p255 : 0 ≤ (x4_2 : Int) := of_decide_eq_true tA
                   have q255 : x4_2 < (((rd_T39 l0 0).f1).length : Int) := of_decide_eq_true tA
                   obtain ⟨ad255, e255, hx255_0⟩ := Kd.at_int HR254_1.out x4_2 p255 q255
                   cases e255
                   replace p255 := eq_true p255
                   replace q255 := eq_true q255
                   go_wp2_with (first | ((with_reducible refine gate_callee (f := 118) rfl ?_); refine gL_ (some 42) rfl rfl Tryd.func118 #[.int .i64 (rd ((rd_T39 l0 0).f1) x4_2), .int .i64 1, .int .i64 16] rfl ?_; (with_reducible refine (spec_l00In.calls (rd ((rd_T39 l0 0).f1) x4_2) 1 16 true _ A11.out).mono ?_); rintro e w' ⟨rfl, ⟨nd, rfl⟩⟩; refine ⟨_, rfl, ?_⟩; have p257 : 0 ≤ (0 : Int) := (by omega); have q257 : 0 < (l0.length : Int) := of_decide_eq_true tA; obtain ⟨ad257, A257_1, c257_1, A257_2, c257_2, e257, hx257_0, hx257_1, hx257_2, hl257_1, hi257_1, hl257_2, hi257_2⟩ := at_T39 HR0.out 0 p257 q257; obtain rfl : ad248 = ad257 := (by injection e257); have qi257 : (0 < l0.length) = True := eq_true (by omega); (try rw [t0n] at hx257_0); (try rw [show 0 * 3 = 0 from rfl] at hx257_0); (try rw [Addr.add_zero'] at hx257_0); (try rw [t0n] at hx257_1); (try rw [show 0 * 3 = 0 from rfl] at hx257_1); (try rw [Addr.add_zero'] at hx257_1); (try rw [t0n] at hx257_2); (try rw [show 0 * 3 = 0 from rfl] at hx257_2); (try rw [Addr.add_zero'] at hx257_2); have HR257_1 := Aside0.mk hi257_1; have HC257_1 := Aside0.mk hl257_1; clear hi257_1 hl257_1; have HR257_2 := Aside0.mk hi257_2; have HC257_2 := Aside0.mk hl257_2; clear hi257_2 hl257_2; replace p257 := eq_true p257; replace q257 := eq_true q257; have ea_ := Option.some.inj (hx254_1.symm.trans hx257_1); injection ea_ with ea_ en_ ec_; subst ea_; subst ec_; clear en_; have ea_ := Option.some.inj (hx254_2.symm.trans hx257_2); injection ea_ with ea_ en_ ec_; subst ea_; subst ec_; clear en_; have p258 : 0 ≤ (x4_2 : Int) := of_decide_eq_true tA; have q258 : x4_2 < (((rd_T39 l0 0).f2).length : Int) := of_decide_eq_true tA; obtain ⟨ad258, e258, hx258_0⟩ := Kd.at_int HR257_2.out x4_2 p258 q258; cases e258; replace p258 := eq_true p258; replace q258 := eq_true q258; have p259 : 0 ≤ (x4_2 : Int) := of_decide_eq_true tA; have q259 : x4_2 < (((rd_T39 l0 0).f2).length : Int) := of_decide_eq_true tA; obtain ⟨ad259, e259, hx259_0⟩ := Kd.at_int HR257_2.out x4_2 p259 q259; cases e259; replace p259 := eq_true p259; replace q259 := eq_true q259) | (go_at_call 118; (with_reducible refine (spec_l00In.calls (rd ((rd_T39 l0 0).f2) x4_2) 2 3 true _ A17.out).mono ?_); rintro e w' ⟨rfl, ⟨nd, rfl⟩⟩))
                   go_roundg k2
                   case measure => have := HJ1.out; have := HK2.out; omega
                   case rel => exact ⟨(wrap64 (x4_2 + 1)), tq, H', ⟨by have := HJ1.out; have := HK2.out; omega⟩, tZ⟩
                 replace c18 := Bool.eq_false_iff.mpr c18
                 subst c18
                 have H1 : (some false) = some r := by rw [if_neg (show ¬ (false = true) by decide)] at H; exact H
                 clear H
                 have H := H1
                 clear H1
                 obtain rfl := Option.some.inj H
                 have p254 : 0 ≤ (0 : Int) := (by omega)
                 have q254 : 0 < (l0.length : Int) := of_decide_eq_true tA
                 obtain ⟨ad254, A254_1, c254_1, A254_2, c254_2, e254, hx254_0, hx254_1, hx254_2, hl254_1, hi254_1, hl254_2, hi254_2⟩ := at_T39 HR0.out 0 p254 q254
                 obtain rfl : ad248 = ad254 := (by injection e254)
                 have qi254 : (0 < l0.length) = True := eq_true (by omega)
                 (try rw [t0n] at hx254_0)
                 (try rw [show 0 * 3 = 0 from rfl] at hx254_0)
                 (try rw [Addr.add_zero'] at hx254_0)
                 (try rw [t0n] at hx254_1)
                 (try rw [show 0 * 3 = 0 from rfl] at hx254_1)
                 (try rw [Addr.add_zero'] at hx254_1)
                 (try rw [t0n] at hx254_2)
                 (try rw [show 0 * 3 = 0 from rfl] at hx254_2)
                 (try rw [Addr.add_zero'] at hx254_2)
                 have HR254_1 := Aside0.mk hi254_1
                 have HC254_1 := Aside0.mk hl254_1
                 clear hi254_1 hl254_1
                 have HR254_2 := Aside0.mk hi254_2
                 have HC254_2 := Aside0.mk hl254_2
                 clear hi254_2 hl254_2
                 replace p254 := eq_true p254
                 replace q254 := eq_true q254
                 have p255 : 0 ≤ (x4_2 : Int) := of_decide_eq_true tA
                 have q255 : x4_2 < (((rd_T39 l0 0).f1).length : Int) := of_decide_eq_true tA
                 obtain ⟨ad255, e255, hx255_0⟩ := Kd.at_int HR254_1.out x4_2 p255 q255
                 cases e255
                 replace p255 := eq_true p255
                 replace q255 := eq_true q255
                 go_wp2_with (first | ((with_reducible refine gate_callee (f := 118) rfl ?_); refine gL_ (some 42) rfl rfl Tryd.func118 #[.int .i64 (rd ((rd_T39 l0 0).f1) x4_2), .int .i64 1, .int .i64 16] rfl ?_; (with_reducible refine (spec_l00In.calls (rd ((rd_T39 l0 0).f1) x4_2) 1 16 true _ A11.out).mono ?_); rintro e w' ⟨rfl, ⟨nd, rfl⟩⟩; refine ⟨_, rfl, ?_⟩; have p257 : 0 ≤ (0 : Int) := (by omega); have q257 : 0 < (l0.length : Int) := of_decide_eq_true tA; obtain ⟨ad257, A257_1, c257_1, A257_2, c257_2, e257, hx257_0, hx257_1, hx257_2, hl257_1, hi257_1, hl257_2, hi257_2⟩ := at_T39 HR0.out 0 p257 q257; obtain rfl : ad248 = ad257 := (by injection e257); have qi257 : (0 < l0.length) = True := eq_true (by omega); (try rw [t0n] at hx257_0); (try rw [show 0 * 3 = 0 from rfl] at hx257_0); (try rw [Addr.add_zero'] at hx257_0); (try rw [t0n] at hx257_1); (try rw [show 0 * 3 = 0 from rfl] at hx257_1); (try rw [Addr.add_zero'] at hx257_1); (try rw [t0n] at hx257_2); (try rw [show 0 * 3 = 0 from rfl] at hx257_2); (try rw [Addr.add_zero'] at hx257_2); have HR257_1 := Aside0.mk hi257_1; have HC257_1 := Aside0.mk hl257_1; clear hi257_1 hl257_1; have HR257_2 := Aside0.mk hi257_2; have HC257_2 := Aside0.mk hl257_2; clear hi257_2 hl257_2; replace p257 := eq_true p257; replace q257 := eq_true q257; have ea_ := Option.some.inj (hx254_1.symm.trans hx257_1); injection ea_ with ea_ en_ ec_; subst ea_; subst ec_; clear en_; have ea_ := Option.some.inj (hx254_2.symm.trans hx257_2); injection ea_ with ea_ en_ ec_; subst ea_; subst ec_; clear en_; have p258 : 0 ≤ (x4_2 : Int) := of_decide_eq_true tA; have q258 : x4_2 < (((rd_T39 l0 0).f2).length : Int) := of_decide_eq_true tA; obtain ⟨ad258, e258, hx258_0⟩ := Kd.at_int HR257_2.out x4_2 p258 q258; cases e258; replace p258 := eq_true p258; replace q258 := eq_true q258; have p259 : 0 ≤ (x4_2 : Int) := of_decide_eq_true tA; have q259 : x4_2 < (((rd_T39 l0 0).f2).length : Int) := of_decide_eq_true tA; obtain ⟨ad259, e259, hx259_0⟩ := Kd.at_int HR257_2.out x4_2 p259 q259; cases e259; replace p259 := eq_true p259; replace q259 := eq_true q259) | (go_at_call 118; (with_reducible refine (spec_l00In.calls (rd ((rd_T39 l0 0).f2) x4_2) 2 3 false _ A17.out).mono ?_); rintro e w' ⟨rfl, ⟨nd, rfl⟩⟩))
                 go_ret
                 exact ⟨by first | rfl | (simp; done) | (simp [*]; done), tZ⟩
               rw [if_neg c16] at H
               have c16b0 : decide (0 < x4_2) = false := decide_eq_false c16
               clear c16
               have H' := Aside0.mk H
               clear H
               have p254 : 0 ≤ (0 : Int) := (by omega)
               have q254 : 0 < (l0.length : Int) := of_decide_eq_true tA
               obtain ⟨ad254, A254_1, c254_1, A254_2, c254_2, e254, hx254_0, hx254_1, hx254_2, hl254_1, hi254_1, hl254_2, hi254_2⟩ := at_T39 HR0.out 0 p254 q254
               obtain rfl : ad248 = ad254 := (by injection e254)
               have qi254 : (0 < l0.length) = True := eq_true (by omega)
               (try rw [t0n] at hx254_0)
               (try rw [show 0 * 3 = 0 from rfl] at hx254_0)
               (try rw [Addr.add_zero'] at hx254_0)
               (try rw [t0n] at hx254_1)
               (try rw [show 0 * 3 = 0 from rfl] at hx254_1)
               (try rw [Addr.add_zero'] at hx254_1)
               (try rw [t0n] at hx254_2)
               (try rw [show 0 * 3 = 0 from rfl] at hx254_2)
               (try rw [Addr.add_zero'] at hx254_2)
               have HR254_1 := Aside0.mk hi254_1
               have HC254_1 := Aside0.mk hl254_1
               clear hi254_1 hl254_1
               have HR254_2 := Aside0.mk hi254_2
               have HC254_2 := Aside0.mk hl254_2
               clear hi254_2 hl254_2
               replace p254 := eq_true p254
               replace q254 := eq_true q254
               have p255 : 0 ≤ (x4_2 : Int) := of_decide_eq_true tA
               have q255 : x4_2 < (((rd_T39 l0 0).f1).length : Int) := of_decide_eq_true tA
               obtain ⟨ad255, e255, hx255_0⟩ := Kd.at_int HR254_1.out x4_2 p255 q255
               cases e255
               replace p255 := eq_true p255
               replace q255 := eq_true q255
               go_wp2_with (first | ((with_reducible refine gate_callee (f := 118) rfl ?_); refine gL_ (some 42) rfl rfl Tryd.func118 #[.int .i64 (rd ((rd_T39 l0 0).f1) x4_2), .int .i64 1, .int .i64 16] rfl ?_; (with_reducible refine (spec_l00In.calls (rd ((rd_T39 l0 0).f1) x4_2) 1 16 true _ A11.out).mono ?_); rintro e w' ⟨rfl, ⟨nd, rfl⟩⟩; refine ⟨_, rfl, ?_⟩; have p257 : 0 ≤ (0 : Int) := (by omega); have q257 : 0 < (l0.length : Int) := of_decide_eq_true tA; obtain ⟨ad257, A257_1, c257_1, A257_2, c257_2, e257, hx257_0, hx257_1, hx257_2, hl257_1, hi257_1, hl257_2, hi257_2⟩ := at_T39 HR0.out 0 p257 q257; obtain rfl : ad248 = ad257 := (by injection e257); have qi257 : (0 < l0.length) = True := eq_true (by omega); (try rw [t0n] at hx257_0); (try rw [show 0 * 3 = 0 from rfl] at hx257_0); (try rw [Addr.add_zero'] at hx257_0); (try rw [t0n] at hx257_1); (try rw [show 0 * 3 = 0 from rfl] at hx257_1); (try rw [Addr.add_zero'] at hx257_1); (try rw [t0n] at hx257_2); (try rw [show 0 * 3 = 0 from rfl] at hx257_2); (try rw [Addr.add_zero'] at hx257_2); have HR257_1 := Aside0.mk hi257_1; have HC257_1 := Aside0.mk hl257_1; clear hi257_1 hl257_1; have HR257_2 := Aside0.mk hi257_2; have HC257_2 := Aside0.mk hl257_2; clear hi257_2 hl257_2; replace p257 := eq_true p257; replace q257 := eq_true q257; have ea_ := Option.some.inj (hx254_1.symm.trans hx257_1); injection ea_ with ea_ en_ ec_; subst ea_; subst ec_; clear en_; have ea_ := Option.some.inj (hx254_2.symm.trans hx257_2); injection ea_ with ea_ en_ ec_; subst ea_; subst ec_; clear en_; have p258 : 0 ≤ (x4_2 : Int) := of_decide_eq_true tA; have q258 : x4_2 < (((rd_T39 l0 0).f2).length : Int) := of_decide_eq_true tA; obtain ⟨ad258, e258, hx258_0⟩ := Kd.at_int HR257_2.out x4_2 p258 q258; cases e258; replace p258 := eq_true p258; replace q258 := eq_true q258))
               go_roundg k2
               case measure => have := HJ1.out; have := HK2.out; omega
               case rel => exact ⟨(wrap64 (x4_2 + 1)), tq, H', ⟨by have := HJ1.out; have := HK2.out; omega⟩, tZ⟩
             rw [if_neg c15] at H
             have c15b0 : ((rd ((rd_T39 l0 0).f2) x4_2) == 1) = false := beq_eq_false_iff_ne.mpr c15
             have c15b1 : ((rd ((rd_T39 l0 0).f2) x4_2) != 1) = true := bne_iff_ne.mpr c15
             obtain rfl := Option.some.inj H
             have p254 : 0 ≤ (0 : Int) := (by omega)
             have q254 : 0 < (l0.length : Int) := of_decide_eq_true tA
             obtain ⟨ad254, A254_1, c254_1, A254_2, c254_2, e254, hx254_0, hx254_1, hx254_2, hl254_1, hi254_1, hl254_2, hi254_2⟩ := at_T39 HR0.out 0 p254 q254
             obtain rfl : ad248 = ad254 := (by injection e254)
             have qi254 : (0 < l0.length) = True := eq_true (by omega)
             (try rw [t0n] at hx254_0)
             (try rw [show 0 * 3 = 0 from rfl] at hx254_0)
             (try rw [Addr.add_zero'] at hx254_0)
             (try rw [t0n] at hx254_1)
             (try rw [show 0 * 3 = 0 from rfl] at hx254_1)
             (try rw [Addr.add_zero'] at hx254_1)
             (try rw [t0n] at hx254_2)
             (try rw [show 0 * 3 = 0 from rfl] at hx254_2)
             (try rw [Addr.add_zero'] at hx254_2)
             have HR254_1 := Aside0.mk hi254_1
             have HC254_1 := Aside0.mk hl254_1
             clear hi254_1 hl254_1
             have HR254_2 := Aside0.mk hi254_2
             have HC254_2 := Aside0.mk hl254_2
             clear hi254_2 hl254_2
             replace p254 := eq_true p254
             replace q254 := eq_true q254
             have p255 : 0 ≤ (x4_2 : Int) := of_decide_eq_true tA
             have q255 : x4_2 < (((rd_T39 l0 0).f1).length : Int) := of_decide_eq_true tA
             obtain ⟨ad255, e255, hx255_0⟩ := Kd.at_int HR254_1.out x4_2 p255 q255
             cases e255
             replace p255 := eq_true p255
             replace q255 := eq_true q255
             go_wp2_with (first | ((with_reducible refine gate_callee (f := 118) rfl ?_); refine gL_ (some 42) rfl rfl Tryd.func118 #[.int .i64 (rd ((rd_T39 l0 0).f1) x4_2), .int .i64 1, .int .i64 16] rfl ?_; (with_reducible refine (spec_l00In.calls (rd ((rd_T39 l0 0).f1) x4_2) 1 16 true _ A11.out).mono ?_); rintro e w' ⟨rfl, ⟨nd, rfl⟩⟩; refine ⟨_, rfl, ?_⟩; have p257 : 0 ≤ (0 : Int) := (by omega); have q257 : 0 < (l0.length : Int) := of_decide_eq_true tA; obtain ⟨ad257, A257_1, c257_1, A257_2, c257_2, e257, hx257_0, hx257_1, hx257_2, hl257_1, hi257_1, hl257_2, hi257_2⟩ := at_T39 HR0.out 0 p257 q257; obtain rfl : ad248 = ad257 := (by injection e257); have qi257 : (0 < l0.length) = True := eq_true (by omega); (try rw [t0n] at hx257_0); (try rw [show 0 * 3 = 0 from rfl] at hx257_0); (try rw [Addr.add_zero'] at hx257_0); (try rw [t0n] at hx257_1); (try rw [show 0 * 3 = 0 from rfl] at hx257_1); (try rw [Addr.add_zero'] at hx257_1); (try rw [t0n] at hx257_2); (try rw [show 0 * 3 = 0 from rfl] at hx257_2); (try rw [Addr.add_zero'] at hx257_2); have HR257_1 := Aside0.mk hi257_1; have HC257_1 := Aside0.mk hl257_1; clear hi257_1 hl257_1; have HR257_2 := Aside0.mk hi257_2; have HC257_2 := Aside0.mk hl257_2; clear hi257_2 hl257_2; replace p257 := eq_true p257; replace q257 := eq_true q257; have ea_ := Option.some.inj (hx254_1.symm.trans hx257_1); injection ea_ with ea_ en_ ec_; subst ea_; subst ec_; clear en_; have ea_ := Option.some.inj (hx254_2.symm.trans hx257_2); injection ea_ with ea_ en_ ec_; subst ea_; subst ec_; clear en_; have p258 : 0 ≤ (x4_2 : Int) := of_decide_eq_true tA; have q258 : x4_2 < (((rd_T39 l0 0).f2).length : Int) := of_decide_eq_true tA; obtain ⟨ad258, e258, hx258_0⟩ := Kd.at_int HR257_2.out x4_2 p258 q258; cases e258; replace p258 := eq_true p258; replace q258 := eq_true q258))
             go_ret
             exact ⟨by first | rfl | (simp; done) | (simp [*]; done), tZ⟩
           rw [if_neg c14] at H
           exact absurd H (by simp)
         rw [if_neg c13] at H
         have c13b0 : (x4_2 == 0) = false := beq_eq_false_iff_ne.mpr c13
         have c13b1 : (x4_2 != 0) = true := bne_iff_ne.mpr c13
         by_cases c19 : x4_2 > 0
         · rw [if_pos c19] at H
           have c19b0 : decide (0 < x4_2) = true := decide_eq_true c19
           clear c19
           by_cases c20 : x4_2 < (((rd_T39 l0 0).f2).length : Int)
           · rw [if_pos c20] at H
             have c20b0 : decide (x4_2 < (((rd_T39 l0 0).f2).length : Int)) = true := decide_eq_true c20
             clear c20
             replace H := Option.bind_eq_some_iff.mp H
             obtain ⟨t263, A210, H⟩ := H
             replace H : (if t263 = true then (spec_l17Ok.l0 k2 l0 (((rd_T39 l0 0).f1).length : Int) (wrap64 (x4_2 + 1))) else (some false)) = some r := H
             have A21 := Aside0.mk A210
             clear A210
             by_cases c22 : t263 = true
             · subst c22
               have H1 : (spec_l17Ok.l0 k2 l0 (((rd_T39 l0 0).f1).length : Int) (wrap64 (x4_2 + 1))) = some r := by rw [if_pos rfl] at H; exact H
               clear H
               have H := H1
               clear H1
               have H' := Aside0.mk H
               clear H
               have p254 : 0 ≤ (0 : Int) := (by omega)
               have q254 : 0 < (l0.length : Int) := of_decide_eq_true tA
               obtain ⟨ad254, A254_1, c254_1, A254_2, c254_2, e254, hx254_0, hx254_1, hx254_2, hl254_1, hi254_1, hl254_2, hi254_2⟩ := at_T39 HR0.out 0 p254 q254
               obtain rfl : ad248 = ad254 := (by injection e254)
               have qi254 : (0 < l0.length) = True := eq_true (by omega)
               (try rw [t0n] at hx254_0)
               (try rw [show 0 * 3 = 0 from rfl] at hx254_0)
               (try rw [Addr.add_zero'] at hx254_0)
               (try rw [t0n] at hx254_1)
               (try rw [show 0 * 3 = 0 from rfl] at hx254_1)
               (try rw [Addr.add_zero'] at hx254_1)
               (try rw [t0n] at hx254_2)
               (try rw [show 0 * 3 = 0 from rfl] at hx254_2)
               (try rw [Addr.add_zero'] at hx254_2)
               have HR254_1 := Aside0.mk hi254_1
               have HC254_1 := Aside0.mk hl254_1
               clear hi254_1 hl254_1
               have HR254_2 := Aside0.mk hi254_2
               have HC254_2 := Aside0.mk hl254_2
               clear hi254_2 hl254_2
               replace p254 := eq_true p254
               replace q254 := eq_true q254
               have p255 : 0 ≤ (x4_2 : Int) := of_decide_eq_true tA
               have q255 : x4_2 < (((rd_T39 l0 0).f1).length : Int) := of_decide_eq_true tA
               obtain ⟨ad255, e255, hx255_0⟩ := Kd.at_int HR254_1.out x4_2 p255 q255
               cases e255
               replace p255 := eq_true p255
               replace q255 := eq_true q255
               go_wp2_with (first | ((with_reducible refine gate_callee (f := 118) rfl ?_); refine gL_ (some 42) rfl rfl Tryd.func118 #[.int .i64 (rd ((rd_T39 l0 0).f1) x4_2), .int .i64 1, .int .i64 16] rfl ?_; (with_reducible refine (spec_l00In.calls (rd ((rd_T39 l0 0).f1) x4_2) 1 16 true _ A11.out).mono ?_); rintro e w' ⟨rfl, ⟨nd, rfl⟩⟩; refine ⟨_, rfl, ?_⟩; have p261 : 0 ≤ (0 : Int) := (by omega); have q261 : 0 < (l0.length : Int) := of_decide_eq_true tA; obtain ⟨ad261, A261_1, c261_1, A261_2, c261_2, e261, hx261_0, hx261_1, hx261_2, hl261_1, hi261_1, hl261_2, hi261_2⟩ := at_T39 HR0.out 0 p261 q261; obtain rfl : ad248 = ad261 := (by injection e261); have qi261 : (0 < l0.length) = True := eq_true (by omega); (try rw [t0n] at hx261_0); (try rw [show 0 * 3 = 0 from rfl] at hx261_0); (try rw [Addr.add_zero'] at hx261_0); (try rw [t0n] at hx261_1); (try rw [show 0 * 3 = 0 from rfl] at hx261_1); (try rw [Addr.add_zero'] at hx261_1); (try rw [t0n] at hx261_2); (try rw [show 0 * 3 = 0 from rfl] at hx261_2); (try rw [Addr.add_zero'] at hx261_2); have HR261_1 := Aside0.mk hi261_1; have HC261_1 := Aside0.mk hl261_1; clear hi261_1 hl261_1; have HR261_2 := Aside0.mk hi261_2; have HC261_2 := Aside0.mk hl261_2; clear hi261_2 hl261_2; replace p261 := eq_true p261; replace q261 := eq_true q261; have ea_ := Option.some.inj (hx254_1.symm.trans hx261_1); injection ea_ with ea_ en_ ec_; subst ea_; subst ec_; clear en_; have ea_ := Option.some.inj (hx254_2.symm.trans hx261_2); injection ea_ with ea_ en_ ec_; subst ea_; subst ec_; clear en_; have p262 : 0 ≤ (x4_2 : Int) := of_decide_eq_true tA; have q262 : x4_2 < (((rd_T39 l0 0).f2).length : Int) := of_decide_eq_true tA; obtain ⟨ad262, e262, hx262_0⟩ := Kd.at_int HR261_2.out x4_2 p262 q262; cases e262; replace p262 := eq_true p262; replace q262 := eq_true q262) | (go_at_call 118; (with_reducible refine (spec_l00In.calls (rd ((rd_T39 l0 0).f2) x4_2) 2 3 true _ A21.out).mono ?_); rintro e w' ⟨rfl, ⟨nd, rfl⟩⟩))
               go_roundg k2
               case measure => have := HJ1.out; have := HK2.out; omega
               case rel => exact ⟨(wrap64 (x4_2 + 1)), tq, H', ⟨by have := HJ1.out; have := HK2.out; omega⟩, tZ⟩
             replace c22 := Bool.eq_false_iff.mpr c22
             subst c22
             have H1 : (some false) = some r := by rw [if_neg (show ¬ (false = true) by decide)] at H; exact H
             clear H
             have H := H1
             clear H1
             obtain rfl := Option.some.inj H
             have p254 : 0 ≤ (0 : Int) := (by omega)
             have q254 : 0 < (l0.length : Int) := of_decide_eq_true tA
             obtain ⟨ad254, A254_1, c254_1, A254_2, c254_2, e254, hx254_0, hx254_1, hx254_2, hl254_1, hi254_1, hl254_2, hi254_2⟩ := at_T39 HR0.out 0 p254 q254
             obtain rfl : ad248 = ad254 := (by injection e254)
             have qi254 : (0 < l0.length) = True := eq_true (by omega)
             (try rw [t0n] at hx254_0)
             (try rw [show 0 * 3 = 0 from rfl] at hx254_0)
             (try rw [Addr.add_zero'] at hx254_0)
             (try rw [t0n] at hx254_1)
             (try rw [show 0 * 3 = 0 from rfl] at hx254_1)
             (try rw [Addr.add_zero'] at hx254_1)
             (try rw [t0n] at hx254_2)
             (try rw [show 0 * 3 = 0 from rfl] at hx254_2)
             (try rw [Addr.add_zero'] at hx254_2)
             have HR254_1 := Aside0.mk hi254_1
             have HC254_1 := Aside0.mk hl254_1
             clear hi254_1 hl254_1
             have HR254_2 := Aside0.mk hi254_2
             have HC254_2 := Aside0.mk hl254_2
             clear hi254_2 hl254_2
             replace p254 := eq_true p254
             replace q254 := eq_true q254
             have p255 : 0 ≤ (x4_2 : Int) := of_decide_eq_true tA
             have q255 : x4_2 < (((rd_T39 l0 0).f1).length : Int) := of_decide_eq_true tA
             obtain ⟨ad255, e255, hx255_0⟩ := Kd.at_int HR254_1.out x4_2 p255 q255
             cases e255
             replace p255 := eq_true p255
             replace q255 := eq_true q255
             go_wp2_with (first | ((with_reducible refine gate_callee (f := 118) rfl ?_); refine gL_ (some 42) rfl rfl Tryd.func118 #[.int .i64 (rd ((rd_T39 l0 0).f1) x4_2), .int .i64 1, .int .i64 16] rfl ?_; (with_reducible refine (spec_l00In.calls (rd ((rd_T39 l0 0).f1) x4_2) 1 16 true _ A11.out).mono ?_); rintro e w' ⟨rfl, ⟨nd, rfl⟩⟩; refine ⟨_, rfl, ?_⟩; have p261 : 0 ≤ (0 : Int) := (by omega); have q261 : 0 < (l0.length : Int) := of_decide_eq_true tA; obtain ⟨ad261, A261_1, c261_1, A261_2, c261_2, e261, hx261_0, hx261_1, hx261_2, hl261_1, hi261_1, hl261_2, hi261_2⟩ := at_T39 HR0.out 0 p261 q261; obtain rfl : ad248 = ad261 := (by injection e261); have qi261 : (0 < l0.length) = True := eq_true (by omega); (try rw [t0n] at hx261_0); (try rw [show 0 * 3 = 0 from rfl] at hx261_0); (try rw [Addr.add_zero'] at hx261_0); (try rw [t0n] at hx261_1); (try rw [show 0 * 3 = 0 from rfl] at hx261_1); (try rw [Addr.add_zero'] at hx261_1); (try rw [t0n] at hx261_2); (try rw [show 0 * 3 = 0 from rfl] at hx261_2); (try rw [Addr.add_zero'] at hx261_2); have HR261_1 := Aside0.mk hi261_1; have HC261_1 := Aside0.mk hl261_1; clear hi261_1 hl261_1; have HR261_2 := Aside0.mk hi261_2; have HC261_2 := Aside0.mk hl261_2; clear hi261_2 hl261_2; replace p261 := eq_true p261; replace q261 := eq_true q261; have ea_ := Option.some.inj (hx254_1.symm.trans hx261_1); injection ea_ with ea_ en_ ec_; subst ea_; subst ec_; clear en_; have ea_ := Option.some.inj (hx254_2.symm.trans hx261_2); injection ea_ with ea_ en_ ec_; subst ea_; subst ec_; clear en_; have p262 : 0 ≤ (x4_2 : Int) := of_decide_eq_true tA; have q262 : x4_2 < (((rd_T39 l0 0).f2).length : Int) := of_decide_eq_true tA; obtain ⟨ad262, e262, hx262_0⟩ := Kd.at_int HR261_2.out x4_2 p262 q262; cases e262; replace p262 := eq_true p262; replace q262 := eq_true q262) | (go_at_call 118; (with_reducible refine (spec_l00In.calls (rd ((rd_T39 l0 0).f2) x4_2) 2 3 false _ A21.out).mono ?_); rintro e w' ⟨rfl, ⟨nd, rfl⟩⟩))
             go_ret
             exact ⟨by first | rfl | (simp; done) | (simp [*]; done), tZ⟩
           rw [if_neg c20] at H
           exact absurd H (by simp)
         rw [if_neg c19] at H
         have c19b0 : decide (0 < x4_2) = false := decide_eq_false c19
         clear c19
         have H' := Aside0.mk H
         clear H
         have p254 : 0 ≤ (0 : Int) := (by omega)
         have q254 : 0 < (l0.length : Int) := of_decide_eq_true tA
         obtain ⟨ad254, A254_1, c254_1, A254_2, c254_2, e254, hx254_0, hx254_1, hx254_2, hl254_1, hi254_1, hl254_2, hi254_2⟩ := at_T39 HR0.out 0 p254 q254
         obtain rfl : ad248 = ad254 := (by injection e254)
         have qi254 : (0 < l0.length) = True := eq_true (by omega)
         (try rw [t0n] at hx254_0)
         (try rw [show 0 * 3 = 0 from rfl] at hx254_0)
         (try rw [Addr.add_zero'] at hx254_0)
         (try rw [t0n] at hx254_1)
         (try rw [show 0 * 3 = 0 from rfl] at hx254_1)
         (try rw [Addr.add_zero'] at hx254_1)
         (try rw [t0n] at hx254_2)
         (try rw [show 0 * 3 = 0 from rfl] at hx254_2)
         (try rw [Addr.add_zero'] at hx254_2)
         have HR254_1 := Aside0.mk hi254_1
         have HC254_1 := Aside0.mk hl254_1
         clear hi254_1 hl254_1
         have HR254_2 := Aside0.mk hi254_2
         have HC254_2 := Aside0.mk hl254_2
         clear hi254_2 hl254_2
         replace p254 := eq_true p254
         replace q254 := eq_true q254
         have p255 : 0 ≤ (x4_2 : Int) := of_decide_eq_true tA
         have q255 : x4_2 < (((rd_T39 l0 0).f1).length : Int) := of_decide_eq_true tA
         obtain ⟨ad255, e255, hx255_0⟩ := Kd.at_int HR254_1.out x4_2 p255 q255
         cases e255
         replace p255 := eq_true p255
         replace q255 := eq_true q255
         go_wp2_with (first | ((with_reducible refine gate_callee (f := 118) rfl ?_); refine gL_ (some 42) rfl rfl Tryd.func118 #[.int .i64 (rd ((rd_T39 l0 0).f1) x4_2), .int .i64 1, .int .i64 16] rfl ?_; (with_reducible refine (spec_l00In.calls (rd ((rd_T39 l0 0).f1) x4_2) 1 16 true _ A11.out).mono ?_); rintro e w' ⟨rfl, ⟨nd, rfl⟩⟩; refine ⟨_, rfl, ?_⟩))
         go_roundg k2
         case measure => have := HJ1.out; have := HK2.out; omega
         case rel => exact ⟨(wrap64 (x4_2 + 1)), tq, H', ⟨by have := HJ1.out; have := HK2.out; omega⟩, tZ⟩
       replace c12 := Bool.eq_false_iff.mpr c12
       subst c12
       have H1 : (some false) = some r := by rw [if_neg (show ¬ (false = true) by decide)] at H; exact H
       clear H
       have H := H1
       clear H1
       obtain rfl := Option.some.inj H
       have p254 : 0 ≤ (0 : Int) := (by omega)
       have q254 : 0 < (l0.length : Int) := of_decide_eq_true tA
       obtain ⟨ad254, A254_1, c254_1, A254_2, c254_2, e254, hx254_0, hx254_1, hx254_2, hl254_1, hi254_1, hl254_2, hi254_2⟩ := at_T39 HR0.out 0 p254 q254
       obtain rfl : ad248 = ad254 := (by injection e254)
       have qi254 : (0 < l0.length) = True := eq_true (by omega)
       (try rw [t0n] at hx254_0)
       (try rw [show 0 * 3 = 0 from rfl] at hx254_0)
       (try rw [Addr.add_zero'] at hx254_0)
       (try rw [t0n] at hx254_1)
       (try rw [show 0 * 3 = 0 from rfl] at hx254_1)
       (try rw [Addr.add_zero'] at hx254_1)
       (try rw [t0n] at hx254_2)
       (try rw [show 0 * 3 = 0 from rfl] at hx254_2)
       (try rw [Addr.add_zero'] at hx254_2)
       have HR254_1 := Aside0.mk hi254_1
       have HC254_1 := Aside0.mk hl254_1
       clear hi254_1 hl254_1
       have HR254_2 := Aside0.mk hi254_2
       have HC254_2 := Aside0.mk hl254_2
       clear hi254_2 hl254_2
       replace p254 := eq_true p254
       replace q254 := eq_true q254
       have p255 : 0 ≤ (x4_2 : Int) := of_decide_eq_true tA
       have q255 : x4_2 < (((rd_T39 l0 0).f1).length : Int) := of_decide_eq_true tA
       obtain ⟨ad255, e255, hx255_0⟩ := Kd.at_int HR254_1.out x4_2 p255 q255
       cases e255
       replace p255 := eq_true p255
       replace q255 := eq_true q255
       go_wp2_with (first | ((with_reducible refine gate_callee (f := 118) rfl ?_); refine gL_ (some 42) rfl rfl Tryd.func118 #[.int .i64 (rd ((rd_T39 l0 0).f1) x4_2), .int .i64 1, .int .i64 16] rfl ?_; (with_reducible refine (spec_l00In.calls (rd ((rd_T39 l0 0).f1) x4_2) 1 16 false _ A11.out).mono ?_); rintro e w' ⟨rfl, ⟨nd, rfl⟩⟩; refine ⟨_, rfl, ?_⟩))
       go_ret
       exact ⟨by first | rfl | (simp; done) | (simp [*]; done), tZ⟩
     rw [if_neg c10] at H
     exact absurd H (by simp)
   rw [if_neg c9] at H
   exact absurd H (by simp)
 rw [if_neg c8] at H
 have c8b0 : decide (x4_2 < (((rd_T39 l0 0).f1).length : Int)) = false := decide_eq_false c8
 clear c8
 replace H := Option.bind_eq_some_iff.mp H
 obtain ⟨t253, A230, H⟩ := H
 replace H : (some (decide (t253 ≤ 32))) = some r := H
 have A23 := Aside0.mk A230
 clear A230
 obtain rfl := Option.some.inj H
 have p252 : 0 ≤ (0 : Int) := (by omega)
 have q252 : 0 < (l0.length : Int) := of_decide_eq_true tA
 obtain ⟨ad252, A252_1, c252_1, A252_2, c252_2, e252, hx252_0, hx252_1, hx252_2, hl252_1, hi252_1, hl252_2, hi252_2⟩ := at_T39 HR0.out 0 p252 q252
 obtain rfl : ad248 = ad252 := (by injection e252)
 have qi252 : (0 < l0.length) = True := eq_true (by omega)
 (try rw [t0n] at hx252_0)
 (try rw [show 0 * 3 = 0 from rfl] at hx252_0)
 (try rw [Addr.add_zero'] at hx252_0)
 (try rw [t0n] at hx252_1)
 (try rw [show 0 * 3 = 0 from rfl] at hx252_1)
 (try rw [Addr.add_zero'] at hx252_1)
 (try rw [t0n] at hx252_2)
 (try rw [show 0 * 3 = 0 from rfl] at hx252_2)
 (try rw [Addr.add_zero'] at hx252_2)
 have HR252_1 := Aside0.mk hi252_1
 have HC252_1 := Aside0.mk hl252_1
 clear hi252_1 hl252_1
 have HR252_2 := Aside0.mk hi252_2
 have HC252_2 := Aside0.mk hl252_2
 clear hi252_2 hl252_2
 replace p252 := eq_true p252
 replace q252 := eq_true q252
 go_wp2_with (first | ((with_reducible refine gate_callee (f := 157) rfl ?_); refine gL_ (some 75) rfl rfl Tryd.func157 #[.slice A252_1 ((rd_T39 l0 0).f1).length c252_1] rfl ?_; (with_reducible refine (spec_l17Sum.calls k2 _ _ ((rd_T39 l0 0).f1) t253 _ ?side1 ?side2 A23.out).mono ?_); (case side1 => exact tC HR252_1.out); (case side2 => exact HC252_1.out); rintro e w' ⟨rfl, ⟨nd, rfl⟩⟩; refine ⟨_, rfl, ?_⟩))
 go_ret
 exact ⟨by first | rfl | (simp; done) | (simp [*]; done), tZ⟩

end Go.Proofs.YtmeflmlejcmckaaDoor.PS
