-- WRITTEN BY wip/gprint.py, a program of this session's over the kit's print, with contracts given by hand
import Derived.Test.YtomeeimjlagbbaaPHx0
namespace Go.Proofs.Ytomeeimjlagbbaa.PH
open Go.RowKit Go.Proofs.YtomeeimjlagbbaaW.PrintWords Go.Proofs.YtomeeimjlagbbaaW.PrintLast Go.Proofs.YtomeeimjlagbbaaW.PrintMore
attribute [local go_sem] max2_int min2_int max_two min_two max_three min_three max_four min_four   -- for this text's walks alone
set_option linter.unusedVariables false
set_option linter.unusedSimpArgs false

/-! ### spec_l08Fits: function 92 -/
def spec_l08Fits.j0 : Nat → List (S43) → Int → Bool → Option (Bool)
 | 0, _, _, _ => none
 | k + 1, x0, x7, x22 => if x22 = true then (some false) else (if ((rd_T43 x0 0).f1) < ((rd_T43 x0 0).f2) then (if x7 ≥ ((rd_T43 x0 0).f1) then (some (decide (x7 < ((rd_T43 x0 0).f2)))) else (some false)) else (if x7 ≥ ((rd_T43 x0 0).f1) then (some true) else (some (decide (x7 < ((rd_T43 x0 0).f2))))))
def spec_l08Fits.f (k : Nat) (l0 : List (S43)) (a1 : Int) (a2 : Int) : Option (Bool) := if ((rd_T43 l0 0).f3) ≥ 0 then (spec_l08Fits.j0 k l0 (Int.tmod a1 1440) (((rd_T43 l0 0).f3) != a2)) else (spec_l08Fits.j0 k l0 (Int.tmod a1 1440) false)
theorem spec_l08Fits.mono_l : ∀ k, (∀ y0 y1 y2, LeO (spec_l08Fits.j0 k y0 y1 y2) (spec_l08Fits.j0 (k + 1) y0 y1 y2))
 | 0 => fun _ _ _ r h => by simp [spec_l08Fits.j0] at h
 | k + 1 => by
  have ih0 := spec_l08Fits.mono_l k
  · intro y0 y1 y2
    unfold spec_l08Fits.j0
    repeat' first
    | (with_reducible exact ih0 _ _ _)
    | (with_reducible exact LeO.refl _)
    | (with_reducible exact LeO.none _)
    | (with_reducible refine LeO.ite ?_ ?_)
    | (with_reducible refine LeO.bind ?_ (fun _ => ?_))
    | exact ih0 _ _ _
    | exact LeO.none _
    | refine LeO.ite ?_ ?_
    | refine LeO.bind ?_ (fun _ => ?_)
theorem spec_l08Fits.mono : ∀ a0 a1 a2 k, LeO (spec_l08Fits.f k a0 a1 a2) (spec_l08Fits.f (k + 1) a0 a1 a2) := by
 intro a0 a1 a2 k
 have ih0 := spec_l08Fits.mono_l k
 unfold spec_l08Fits.f
 repeat' first
  | (with_reducible exact ih0 _ _ _)
  | (with_reducible exact LeO.refl _)
  | (with_reducible exact LeO.none _)
  | (with_reducible refine LeO.ite ?_ ?_)
  | (with_reducible refine LeO.bind ?_ (fun _ => ?_))
  | exact ih0 _ _ _
  | exact LeO.none _
  | refine LeO.ite ?_ ?_
  | refine LeO.bind ?_ (fun _ => ?_)
set_option maxHeartbeats 8000000 in
set_option maxRecDepth 100000 in
theorem spec_l08Fits.calls (k : Nat) (A0 : Option Addr) (l0 : List (S43)) (a1 : Int) (a2 : Int) (r : Bool) (w : World) (hr0 : Kd.C k43 w A0 l0.length l0) (hn0 : 0 < l0.length) (h : spec_l08Fits.f k l0 a1 a2 = some r) :
 Calls Try.prog 92 #[.pointer A0, .int .i64 a1, .int .i64 a2] w fun e w' => e = .returned (.bool r) ∧ Drawn0 w w' := by
 have HR0 := Aside0.mk hr0
 clear hr0
 have HN0 := Aside0.mk hn0
 have hn0b0 : decide ((0 : Int) < (l0.length : Int)) = true := decide_eq_true (Int.ofNat_lt.2 hn0)
 have hn0b1 : decide (0 < l0.length) = true := decide_eq_true hn0
 clear hn0
 have H : (if ((rd_T43 l0 0).f3) ≥ 0 then (spec_l08Fits.j0 k l0 (Int.tmod a1 1440) (((rd_T43 l0 0).f3) != a2)) else (spec_l08Fits.j0 k l0 (Int.tmod a1 1440) false)) = some r := h
 clear h
 have HC4 := Aside0.mk H
 clear H
 go_enter Try.func92, Try.ntmps92
 go_upto_region 2 with (fail)
 repeat (go_quiet (fail); go_upto_region 2 with (fail))
 go_cut [22] (fun v22 wc => ∃ (kq : Nat) (x22_3 : Bool), v22 = .bool x22_3 ∧ Aside0 (spec_l08Fits.j0 kq l0 (Int.tmod a1 1440) x22_3 = some r) ∧ Aside0 (kq ≤ k) ∧ Drawn0 w wc)
 case first =>
  have H := HC4.out
  clear HC4
  by_cases c5 : ((rd_T43 l0 0).f3) ≥ 0
  · rw [if_pos c5] at H
    have c5b0 : decide (0 ≤ ((rd_T43 l0 0).f3)) = true := decide_eq_true c5
    clear c5
    (first | rw [c5b0] | (simp only [i64_w, i32_w]; rw [c5b0]) | skip)
    have H' := Aside0.mk H
    clear H
    have p250 : 0 ≤ (0 : Int) := (by omega)
    have q250 : 0 < (l0.length : Int) := of_decide_eq_true (by first | (with_reducible assumption) | assumption)
    obtain ⟨ad250, e250, hx250_0, hx250_1, hx250_2, hx250_3, hx250_4, hx250_5⟩ := at_T43 HR0.out 0 p250 q250
    cases e250
    have qi250 : (0 < l0.length) = True := eq_true (by omega)
    (try rw [show ((0 : Int)).toNat = 0 from rfl] at hx250_0)
    (try rw [show 0 * 6 = 0 from rfl] at hx250_0)
    (try rw [Addr.add_zero'] at hx250_0)
    (try rw [show ((0 : Int)).toNat = 0 from rfl] at hx250_1)
    (try rw [show 0 * 6 = 0 from rfl] at hx250_1)
    (try rw [Addr.add_zero'] at hx250_1)
    (try rw [show ((0 : Int)).toNat = 0 from rfl] at hx250_2)
    (try rw [show 0 * 6 = 0 from rfl] at hx250_2)
    (try rw [Addr.add_zero'] at hx250_2)
    (try rw [show ((0 : Int)).toNat = 0 from rfl] at hx250_3)
    (try rw [show 0 * 6 = 0 from rfl] at hx250_3)
    (try rw [Addr.add_zero'] at hx250_3)
    (try rw [show ((0 : Int)).toNat = 0 from rfl] at hx250_4)
    (try rw [show 0 * 6 = 0 from rfl] at hx250_4)
    (try rw [Addr.add_zero'] at hx250_4)
    (try rw [show ((0 : Int)).toNat = 0 from rfl] at hx250_5)
    (try rw [show 0 * 6 = 0 from rfl] at hx250_5)
    (try rw [Addr.add_zero'] at hx250_5)
    replace p250 := eq_true p250
    replace q250 := eq_true q250
    go_wp2
    repeat (go_quiet (fail); try go_wp2)
    go_meet
    case rel => exact ⟨_, ((((rd_T43 l0 0).f3) != a2)), (by first | rfl | (simp; done) | (simp [*]; done)), H', ⟨by first | omega | exact Nat.le_refl _⟩, by repeat (first | exact Drawn0.refl _ | apply Drawn0.step)⟩
  · rw [if_neg c5] at H
    have c5b0 : decide (0 ≤ ((rd_T43 l0 0).f3)) = false := decide_eq_false c5
    clear c5
    (first | rw [c5b0] | (simp only [i64_w, i32_w]; rw [c5b0]) | skip)
    have H' := Aside0.mk H
    clear H
    have p250 : 0 ≤ (0 : Int) := (by omega)
    have q250 : 0 < (l0.length : Int) := of_decide_eq_true (by first | (with_reducible assumption) | assumption)
    obtain ⟨ad250, e250, hx250_0, hx250_1, hx250_2, hx250_3, hx250_4, hx250_5⟩ := at_T43 HR0.out 0 p250 q250
    cases e250
    have qi250 : (0 < l0.length) = True := eq_true (by omega)
    (try rw [show ((0 : Int)).toNat = 0 from rfl] at hx250_0)
    (try rw [show 0 * 6 = 0 from rfl] at hx250_0)
    (try rw [Addr.add_zero'] at hx250_0)
    (try rw [show ((0 : Int)).toNat = 0 from rfl] at hx250_1)
    (try rw [show 0 * 6 = 0 from rfl] at hx250_1)
    (try rw [Addr.add_zero'] at hx250_1)
    (try rw [show ((0 : Int)).toNat = 0 from rfl] at hx250_2)
    (try rw [show 0 * 6 = 0 from rfl] at hx250_2)
    (try rw [Addr.add_zero'] at hx250_2)
    (try rw [show ((0 : Int)).toNat = 0 from rfl] at hx250_3)
    (try rw [show 0 * 6 = 0 from rfl] at hx250_3)
    (try rw [Addr.add_zero'] at hx250_3)
    (try rw [show ((0 : Int)).toNat = 0 from rfl] at hx250_4)
    (try rw [show 0 * 6 = 0 from rfl] at hx250_4)
    (try rw [Addr.add_zero'] at hx250_4)
    (try rw [show ((0 : Int)).toNat = 0 from rfl] at hx250_5)
    (try rw [show 0 * 6 = 0 from rfl] at hx250_5)
    (try rw [Addr.add_zero'] at hx250_5)
    replace p250 := eq_true p250
    replace q250 := eq_true q250
    go_wp2
    repeat (go_quiet (fail); try go_wp2)
    go_meet
    case rel => exact ⟨_, (false), (by first | rfl | (simp; done) | (simp [*]; done)), H', ⟨by first | omega | exact Nat.le_refl _⟩, by repeat (first | exact Drawn0.refl _ | apply Drawn0.step)⟩
 case rest =>
  clear HC4
  try clear p2
  try clear q2
  try clear hx2
  try clear qi2
  try clear c5
  try clear c5b0
  try clear hx250_0
  try clear hx250_1
  try clear hx250_2
  try clear hx250_3
  try clear hx250_4
  try clear hx250_5
  try clear p250
  try clear q250
  obtain ⟨kq, x22_3, rfl, HA, HJ3, ⟨mc3, rfl⟩⟩ := hcut
  cases kq with
  | zero => exact absurd HA.out (by simp [spec_l08Fits.j0])
  | succ kj3 =>
   have H := HA.out
   clear HA
   simp only [spec_l08Fits.j0] at H
   by_cases c6 : x22_3 = true
   · subst c6
     have H1 : (some false) = some r := by rw [if_pos rfl] at H; exact H
     clear H
     have H := H1
     clear H1
     obtain rfl := Option.some.inj H
     go_wp2
     repeat (go_quiet (fail); try go_wp2)
     go_ret
     exact ⟨by first | rfl | (simp; done) | (simp [*]; done), by repeat (first | exact Drawn0.refl _ | apply Drawn0.step)⟩
   · replace c6 := Bool.eq_false_iff.mpr c6
     subst c6
     have H1 : (if ((rd_T43 l0 0).f1) < ((rd_T43 l0 0).f2) then (if (Int.tmod a1 1440) ≥ ((rd_T43 l0 0).f1) then (some (decide ((Int.tmod a1 1440) < ((rd_T43 l0 0).f2)))) else (some false)) else (if (Int.tmod a1 1440) ≥ ((rd_T43 l0 0).f1) then (some true) else (some (decide ((Int.tmod a1 1440) < ((rd_T43 l0 0).f2)))))) = some r := by rw [if_neg (show ¬ (false = true) by decide)] at H; exact H
     clear H
     have H := H1
     clear H1
     by_cases c7 : ((rd_T43 l0 0).f1) < ((rd_T43 l0 0).f2)
     · rw [if_pos c7] at H
       have c7b0 : decide (((rd_T43 l0 0).f1) < ((rd_T43 l0 0).f2)) = true := decide_eq_true c7
       clear c7
       by_cases c8 : (Int.tmod a1 1440) ≥ ((rd_T43 l0 0).f1)
       · rw [if_pos c8] at H
         have c8b0 : decide (((rd_T43 l0 0).f1) ≤ (Int.tmod a1 1440)) = true := decide_eq_true c8
         clear c8
         obtain rfl := Option.some.inj H
         have p251 : 0 ≤ (0 : Int) := (by omega)
         have q251 : 0 < (l0.length : Int) := of_decide_eq_true (by first | (with_reducible assumption) | assumption)
         obtain ⟨ad251, e251, hx251_0, hx251_1, hx251_2, hx251_3, hx251_4, hx251_5⟩ := at_T43 HR0.out 0 p251 q251
         cases e251
         have qi251 : (0 < l0.length) = True := eq_true (by omega)
         (try rw [show ((0 : Int)).toNat = 0 from rfl] at hx251_0)
         (try rw [show 0 * 6 = 0 from rfl] at hx251_0)
         (try rw [Addr.add_zero'] at hx251_0)
         (try rw [show ((0 : Int)).toNat = 0 from rfl] at hx251_1)
         (try rw [show 0 * 6 = 0 from rfl] at hx251_1)
         (try rw [Addr.add_zero'] at hx251_1)
         (try rw [show ((0 : Int)).toNat = 0 from rfl] at hx251_2)
         (try rw [show 0 * 6 = 0 from rfl] at hx251_2)
         (try rw [Addr.add_zero'] at hx251_2)
         (try rw [show ((0 : Int)).toNat = 0 from rfl] at hx251_3)
         (try rw [show 0 * 6 = 0 from rfl] at hx251_3)
         (try rw [Addr.add_zero'] at hx251_3)
         (try rw [show ((0 : Int)).toNat = 0 from rfl] at hx251_4)
         (try rw [show 0 * 6 = 0 from rfl] at hx251_4)
         (try rw [Addr.add_zero'] at hx251_4)
         (try rw [show ((0 : Int)).toNat = 0 from rfl] at hx251_5)
         (try rw [show 0 * 6 = 0 from rfl] at hx251_5)
         (try rw [Addr.add_zero'] at hx251_5)
         replace p251 := eq_true p251
         replace q251 := eq_true q251
         have p252 : 0 ≤ (0 : Int) := (by omega)
         have q252 : 0 < (l0.length : Int) := of_decide_eq_true (by first | (with_reducible assumption) | assumption)
         obtain ⟨ad252, e252, hx252_0, hx252_1, hx252_2, hx252_3, hx252_4, hx252_5⟩ := at_T43 HR0.out 0 p252 q252
         obtain rfl : ad251 = ad252 := (by injection e252)
         have qi252 : (0 < l0.length) = True := eq_true (by omega)
         (try rw [show ((0 : Int)).toNat = 0 from rfl] at hx252_0)
         (try rw [show 0 * 6 = 0 from rfl] at hx252_0)
         (try rw [Addr.add_zero'] at hx252_0)
         (try rw [show ((0 : Int)).toNat = 0 from rfl] at hx252_1)
         (try rw [show 0 * 6 = 0 from rfl] at hx252_1)
         (try rw [Addr.add_zero'] at hx252_1)
         (try rw [show ((0 : Int)).toNat = 0 from rfl] at hx252_2)
         (try rw [show 0 * 6 = 0 from rfl] at hx252_2)
         (try rw [Addr.add_zero'] at hx252_2)
         (try rw [show ((0 : Int)).toNat = 0 from rfl] at hx252_3)
         (try rw [show 0 * 6 = 0 from rfl] at hx252_3)
         (try rw [Addr.add_zero'] at hx252_3)
         (try rw [show ((0 : Int)).toNat = 0 from rfl] at hx252_4)
         (try rw [show 0 * 6 = 0 from rfl] at hx252_4)
         (try rw [Addr.add_zero'] at hx252_4)
         (try rw [show ((0 : Int)).toNat = 0 from rfl] at hx252_5)
         (try rw [show 0 * 6 = 0 from rfl] at hx252_5)
         (try rw [Addr.add_zero'] at hx252_5)
         replace p252 := eq_true p252
         replace q252 := eq_true q252
         go_wp2
         repeat (go_quiet (fail); try go_wp2)
         go_ret
         exact ⟨by first | rfl | (simp; done) | (simp [*]; done), by repeat (first | exact Drawn0.refl _ | apply Drawn0.step)⟩
       · rw [if_neg c8] at H
         have c8b0 : decide (((rd_T43 l0 0).f1) ≤ (Int.tmod a1 1440)) = false := decide_eq_false c8
         clear c8
         obtain rfl := Option.some.inj H
         have p251 : 0 ≤ (0 : Int) := (by omega)
         have q251 : 0 < (l0.length : Int) := of_decide_eq_true (by first | (with_reducible assumption) | assumption)
         obtain ⟨ad251, e251, hx251_0, hx251_1, hx251_2, hx251_3, hx251_4, hx251_5⟩ := at_T43 HR0.out 0 p251 q251
         cases e251
         have qi251 : (0 < l0.length) = True := eq_true (by omega)
         (try rw [show ((0 : Int)).toNat = 0 from rfl] at hx251_0)
         (try rw [show 0 * 6 = 0 from rfl] at hx251_0)
         (try rw [Addr.add_zero'] at hx251_0)
         (try rw [show ((0 : Int)).toNat = 0 from rfl] at hx251_1)
         (try rw [show 0 * 6 = 0 from rfl] at hx251_1)
         (try rw [Addr.add_zero'] at hx251_1)
         (try rw [show ((0 : Int)).toNat = 0 from rfl] at hx251_2)
         (try rw [show 0 * 6 = 0 from rfl] at hx251_2)
         (try rw [Addr.add_zero'] at hx251_2)
         (try rw [show ((0 : Int)).toNat = 0 from rfl] at hx251_3)
         (try rw [show 0 * 6 = 0 from rfl] at hx251_3)
         (try rw [Addr.add_zero'] at hx251_3)
         (try rw [show ((0 : Int)).toNat = 0 from rfl] at hx251_4)
         (try rw [show 0 * 6 = 0 from rfl] at hx251_4)
         (try rw [Addr.add_zero'] at hx251_4)
         (try rw [show ((0 : Int)).toNat = 0 from rfl] at hx251_5)
         (try rw [show 0 * 6 = 0 from rfl] at hx251_5)
         (try rw [Addr.add_zero'] at hx251_5)
         replace p251 := eq_true p251
         replace q251 := eq_true q251
         have p252 : 0 ≤ (0 : Int) := (by omega)
         have q252 : 0 < (l0.length : Int) := of_decide_eq_true (by first | (with_reducible assumption) | assumption)
         obtain ⟨ad252, e252, hx252_0, hx252_1, hx252_2, hx252_3, hx252_4, hx252_5⟩ := at_T43 HR0.out 0 p252 q252
         obtain rfl : ad251 = ad252 := (by injection e252)
         have qi252 : (0 < l0.length) = True := eq_true (by omega)
         (try rw [show ((0 : Int)).toNat = 0 from rfl] at hx252_0)
         (try rw [show 0 * 6 = 0 from rfl] at hx252_0)
         (try rw [Addr.add_zero'] at hx252_0)
         (try rw [show ((0 : Int)).toNat = 0 from rfl] at hx252_1)
         (try rw [show 0 * 6 = 0 from rfl] at hx252_1)
         (try rw [Addr.add_zero'] at hx252_1)
         (try rw [show ((0 : Int)).toNat = 0 from rfl] at hx252_2)
         (try rw [show 0 * 6 = 0 from rfl] at hx252_2)
         (try rw [Addr.add_zero'] at hx252_2)
         (try rw [show ((0 : Int)).toNat = 0 from rfl] at hx252_3)
         (try rw [show 0 * 6 = 0 from rfl] at hx252_3)
         (try rw [Addr.add_zero'] at hx252_3)
         (try rw [show ((0 : Int)).toNat = 0 from rfl] at hx252_4)
         (try rw [show 0 * 6 = 0 from rfl] at hx252_4)
         (try rw [Addr.add_zero'] at hx252_4)
         (try rw [show ((0 : Int)).toNat = 0 from rfl] at hx252_5)
         (try rw [show 0 * 6 = 0 from rfl] at hx252_5)
         (try rw [Addr.add_zero'] at hx252_5)
         replace p252 := eq_true p252
         replace q252 := eq_true q252
         go_wp2
         repeat (go_quiet (fail); try go_wp2)
         go_ret
         exact ⟨by first | rfl | (simp; done) | (simp [*]; done), by repeat (first | exact Drawn0.refl _ | apply Drawn0.step)⟩
     · rw [if_neg c7] at H
       have c7b0 : decide (((rd_T43 l0 0).f1) < ((rd_T43 l0 0).f2)) = false := decide_eq_false c7
       clear c7
       by_cases c9 : (Int.tmod a1 1440) ≥ ((rd_T43 l0 0).f1)
       · rw [if_pos c9] at H
         have c9b0 : decide (((rd_T43 l0 0).f1) ≤ (Int.tmod a1 1440)) = true := decide_eq_true c9
         clear c9
         obtain rfl := Option.some.inj H
         have p251 : 0 ≤ (0 : Int) := (by omega)
         have q251 : 0 < (l0.length : Int) := of_decide_eq_true (by first | (with_reducible assumption) | assumption)
         obtain ⟨ad251, e251, hx251_0, hx251_1, hx251_2, hx251_3, hx251_4, hx251_5⟩ := at_T43 HR0.out 0 p251 q251
         cases e251
         have qi251 : (0 < l0.length) = True := eq_true (by omega)
         (try rw [show ((0 : Int)).toNat = 0 from rfl] at hx251_0)
         (try rw [show 0 * 6 = 0 from rfl] at hx251_0)
         (try rw [Addr.add_zero'] at hx251_0)
         (try rw [show ((0 : Int)).toNat = 0 from rfl] at hx251_1)
         (try rw [show 0 * 6 = 0 from rfl] at hx251_1)
         (try rw [Addr.add_zero'] at hx251_1)
         (try rw [show ((0 : Int)).toNat = 0 from rfl] at hx251_2)
         (try rw [show 0 * 6 = 0 from rfl] at hx251_2)
         (try rw [Addr.add_zero'] at hx251_2)
         (try rw [show ((0 : Int)).toNat = 0 from rfl] at hx251_3)
         (try rw [show 0 * 6 = 0 from rfl] at hx251_3)
         (try rw [Addr.add_zero'] at hx251_3)
         (try rw [show ((0 : Int)).toNat = 0 from rfl] at hx251_4)
         (try rw [show 0 * 6 = 0 from rfl] at hx251_4)
         (try rw [Addr.add_zero'] at hx251_4)
         (try rw [show ((0 : Int)).toNat = 0 from rfl] at hx251_5)
         (try rw [show 0 * 6 = 0 from rfl] at hx251_5)
         (try rw [Addr.add_zero'] at hx251_5)
         replace p251 := eq_true p251
         replace q251 := eq_true q251
         have p253 : 0 ≤ (0 : Int) := (by omega)
         have q253 : 0 < (l0.length : Int) := of_decide_eq_true (by first | (with_reducible assumption) | assumption)
         obtain ⟨ad253, e253, hx253_0, hx253_1, hx253_2, hx253_3, hx253_4, hx253_5⟩ := at_T43 HR0.out 0 p253 q253
         obtain rfl : ad251 = ad253 := (by injection e253)
         have qi253 : (0 < l0.length) = True := eq_true (by omega)
         (try rw [show ((0 : Int)).toNat = 0 from rfl] at hx253_0)
         (try rw [show 0 * 6 = 0 from rfl] at hx253_0)
         (try rw [Addr.add_zero'] at hx253_0)
         (try rw [show ((0 : Int)).toNat = 0 from rfl] at hx253_1)
         (try rw [show 0 * 6 = 0 from rfl] at hx253_1)
         (try rw [Addr.add_zero'] at hx253_1)
         (try rw [show ((0 : Int)).toNat = 0 from rfl] at hx253_2)
         (try rw [show 0 * 6 = 0 from rfl] at hx253_2)
         (try rw [Addr.add_zero'] at hx253_2)
         (try rw [show ((0 : Int)).toNat = 0 from rfl] at hx253_3)
         (try rw [show 0 * 6 = 0 from rfl] at hx253_3)
         (try rw [Addr.add_zero'] at hx253_3)
         (try rw [show ((0 : Int)).toNat = 0 from rfl] at hx253_4)
         (try rw [show 0 * 6 = 0 from rfl] at hx253_4)
         (try rw [Addr.add_zero'] at hx253_4)
         (try rw [show ((0 : Int)).toNat = 0 from rfl] at hx253_5)
         (try rw [show 0 * 6 = 0 from rfl] at hx253_5)
         (try rw [Addr.add_zero'] at hx253_5)
         replace p253 := eq_true p253
         replace q253 := eq_true q253
         go_wp2
         repeat (go_quiet (fail); try go_wp2)
         go_ret
         exact ⟨by first | rfl | (simp; done) | (simp [*]; done), by repeat (first | exact Drawn0.refl _ | apply Drawn0.step)⟩
       · rw [if_neg c9] at H
         have c9b0 : decide (((rd_T43 l0 0).f1) ≤ (Int.tmod a1 1440)) = false := decide_eq_false c9
         clear c9
         obtain rfl := Option.some.inj H
         have p251 : 0 ≤ (0 : Int) := (by omega)
         have q251 : 0 < (l0.length : Int) := of_decide_eq_true (by first | (with_reducible assumption) | assumption)
         obtain ⟨ad251, e251, hx251_0, hx251_1, hx251_2, hx251_3, hx251_4, hx251_5⟩ := at_T43 HR0.out 0 p251 q251
         cases e251
         have qi251 : (0 < l0.length) = True := eq_true (by omega)
         (try rw [show ((0 : Int)).toNat = 0 from rfl] at hx251_0)
         (try rw [show 0 * 6 = 0 from rfl] at hx251_0)
         (try rw [Addr.add_zero'] at hx251_0)
         (try rw [show ((0 : Int)).toNat = 0 from rfl] at hx251_1)
         (try rw [show 0 * 6 = 0 from rfl] at hx251_1)
         (try rw [Addr.add_zero'] at hx251_1)
         (try rw [show ((0 : Int)).toNat = 0 from rfl] at hx251_2)
         (try rw [show 0 * 6 = 0 from rfl] at hx251_2)
         (try rw [Addr.add_zero'] at hx251_2)
         (try rw [show ((0 : Int)).toNat = 0 from rfl] at hx251_3)
         (try rw [show 0 * 6 = 0 from rfl] at hx251_3)
         (try rw [Addr.add_zero'] at hx251_3)
         (try rw [show ((0 : Int)).toNat = 0 from rfl] at hx251_4)
         (try rw [show 0 * 6 = 0 from rfl] at hx251_4)
         (try rw [Addr.add_zero'] at hx251_4)
         (try rw [show ((0 : Int)).toNat = 0 from rfl] at hx251_5)
         (try rw [show 0 * 6 = 0 from rfl] at hx251_5)
         (try rw [Addr.add_zero'] at hx251_5)
         replace p251 := eq_true p251
         replace q251 := eq_true q251
         have p253 : 0 ≤ (0 : Int) := (by omega)
         have q253 : 0 < (l0.length : Int) := of_decide_eq_true (by first | (with_reducible assumption) | assumption)
         obtain ⟨ad253, e253, hx253_0, hx253_1, hx253_2, hx253_3, hx253_4, hx253_5⟩ := at_T43 HR0.out 0 p253 q253
         obtain rfl : ad251 = ad253 := (by injection e253)
         have qi253 : (0 < l0.length) = True := eq_true (by omega)
         (try rw [show ((0 : Int)).toNat = 0 from rfl] at hx253_0)
         (try rw [show 0 * 6 = 0 from rfl] at hx253_0)
         (try rw [Addr.add_zero'] at hx253_0)
         (try rw [show ((0 : Int)).toNat = 0 from rfl] at hx253_1)
         (try rw [show 0 * 6 = 0 from rfl] at hx253_1)
         (try rw [Addr.add_zero'] at hx253_1)
         (try rw [show ((0 : Int)).toNat = 0 from rfl] at hx253_2)
         (try rw [show 0 * 6 = 0 from rfl] at hx253_2)
         (try rw [Addr.add_zero'] at hx253_2)
         (try rw [show ((0 : Int)).toNat = 0 from rfl] at hx253_3)
         (try rw [show 0 * 6 = 0 from rfl] at hx253_3)
         (try rw [Addr.add_zero'] at hx253_3)
         (try rw [show ((0 : Int)).toNat = 0 from rfl] at hx253_4)
         (try rw [show 0 * 6 = 0 from rfl] at hx253_4)
         (try rw [Addr.add_zero'] at hx253_4)
         (try rw [show ((0 : Int)).toNat = 0 from rfl] at hx253_5)
         (try rw [show 0 * 6 = 0 from rfl] at hx253_5)
         (try rw [Addr.add_zero'] at hx253_5)
         replace p253 := eq_true p253
         replace q253 := eq_true q253
         go_wp2
         repeat (go_quiet (fail); try go_wp2)
         go_ret
         exact ⟨by first | rfl | (simp; done) | (simp [*]; done), by repeat (first | exact Drawn0.refl _ | apply Drawn0.step)⟩

end Go.Proofs.Ytomeeimjlagbbaa.PH
