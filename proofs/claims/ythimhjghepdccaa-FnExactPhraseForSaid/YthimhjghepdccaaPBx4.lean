-- WRITTEN BY wip/gprint.py, a program of this session's over the kit's print, with contracts given by hand
import Derived.Test.YthimhjghepdccaaPBx0
import Derived.Test.YthimhjghepdccaaPBx2
import Derived.Test.YthimhjghepdccaaPBx3
namespace Go.Proofs.Ythimhjghepdccaa.PB
open Go.RowKit Go.Proofs.YthimhjghepdccaaW.PrintWords Go.Proofs.YthimhjghepdccaaW.PrintLast Go.Proofs.YthimhjghepdccaaW.PrintMore
attribute [local go_sem] max2_int min2_int max_two min_two max_three min_three max_four min_four   -- for this text's walks alone
set_option linter.unusedVariables false
set_option linter.unusedSimpArgs false

/-! ### spec_l17Ok: function 78 -/
mutual
def spec_l17Ok.j0 : Nat → List (S27) → Int → Bool → Option (Bool)
  | 0, _, _, _ => none
  | k + 1, x0, x3, x29 => if x29 = true then (some false) else (spec_l17Ok.l0 k x0 x3 0)
def spec_l17Ok.l0 : Nat → List (S27) → Int → Int → Option (Bool)
  | 0, _, _, _ => none
  | k + 1, x0, x3, x4 => if x4 < x3 then (if 0 ≤ x4 then (if x4 < (((rd_T27 x0 0).f1).length : Int) then ((spec_l00In.f (rd ((rd_T27 x0 0).f1) x4) 1 16).bind fun t137 => (if t137 = true then (if x4 = 0 then (if x4 < (((rd_T27 x0 0).f2).length : Int) then (if (rd ((rd_T27 x0 0).f2) x4) = 1 then (if x4 > 0 then ((spec_l00In.f (rd ((rd_T27 x0 0).f2) x4) 2 3).bind fun t142 => (if t142 = true then (spec_l17Ok.l0 k x0 x3 (wrap64 (x4 + 1))) else (some false))) else (spec_l17Ok.l0 k x0 x3 (wrap64 (x4 + 1)))) else (some false)) else (none)) else (if x4 > 0 then (if x4 < (((rd_T27 x0 0).f2).length : Int) then ((spec_l00In.f (rd ((rd_T27 x0 0).f2) x4) 2 3).bind fun t145 => (if t145 = true then (spec_l17Ok.l0 k x0 x3 (wrap64 (x4 + 1))) else (some false))) else (none)) else (spec_l17Ok.l0 k x0 x3 (wrap64 (x4 + 1))))) else (some false))) else (none)) else (none)) else ((spec_l17Sum.f k ((rd_T27 x0 0).f1)).bind fun t134 => (some (decide (t134 ≤ 32))))
end
def spec_l17Ok.f (k : Nat) (l0 : List (S27)) : Option (Bool) := (spec_l01Name.f k ((rd_T27 l0 0).f0)).bind fun t130 => (if t130 = true then ((spec_l00In.f (((rd_T27 l0 0).f1).length : Int) 1 8).bind fun t131 => (if t131 = true then (spec_l17Ok.j0 k l0 (((rd_T27 l0 0).f1).length : Int) ((((rd_T27 l0 0).f2).length : Int) != (((rd_T27 l0 0).f1).length : Int))) else (spec_l17Ok.j0 k l0 (((rd_T27 l0 0).f1).length : Int) true))) else (spec_l17Ok.j0 k l0 (((rd_T27 l0 0).f1).length : Int) true))
theorem spec_l17Ok.mono_l : ∀ k, (∀ y0 y1 y2, LeO (spec_l17Ok.j0 k y0 y1 y2) (spec_l17Ok.j0 (k + 1) y0 y1 y2)) ∧ (∀ y0 y1 y2, LeO (spec_l17Ok.l0 k y0 y1 y2) (spec_l17Ok.l0 (k + 1) y0 y1 y2))
  | 0 => ⟨fun _ _ _ r h => by simp [spec_l17Ok.j0] at h, fun _ _ _ r h => by simp [spec_l17Ok.l0] at h⟩
  | k + 1 => by
    obtain ⟨ih0, ih1⟩ := spec_l17Ok.mono_l k
    refine ⟨?_, ?_⟩
    · intro y0 y1 y2
      unfold spec_l17Ok.j0
      repeat' first
      | (with_reducible exact ih0 _ _ _)
      | (with_reducible exact ih1 _ _ _)
      | (with_reducible exact spec_l01Name.mono _ _)
      | (with_reducible exact spec_l17Sum.mono _ _)
      | (with_reducible exact LeO.refl _)
      | (with_reducible exact LeO.none _)
      | (with_reducible refine LeO.ite ?_ ?_)
      | (with_reducible refine LeO.bind ?_ (fun _ => ?_))
      | exact ih0 _ _ _
      | exact ih1 _ _ _
      | exact spec_l01Name.mono _ _
      | exact spec_l17Sum.mono _ _
      | exact LeO.none _
      | refine LeO.ite ?_ ?_
      | refine LeO.bind ?_ (fun _ => ?_)
    · intro y0 y1 y2
      unfold spec_l17Ok.l0
      repeat' first
      | (with_reducible exact ih0 _ _ _)
      | (with_reducible exact ih1 _ _ _)
      | (with_reducible exact spec_l01Name.mono _ _)
      | (with_reducible exact spec_l17Sum.mono _ _)
      | (with_reducible exact LeO.refl _)
      | (with_reducible exact LeO.none _)
      | (with_reducible refine LeO.ite ?_ ?_)
      | (with_reducible refine LeO.bind ?_ (fun _ => ?_))
      | exact ih0 _ _ _
      | exact ih1 _ _ _
      | exact spec_l01Name.mono _ _
      | exact spec_l17Sum.mono _ _
      | exact LeO.none _
      | refine LeO.ite ?_ ?_
      | refine LeO.bind ?_ (fun _ => ?_)
theorem spec_l17Ok.mono : ∀ a0 k, LeO (spec_l17Ok.f k a0) (spec_l17Ok.f (k + 1) a0) := by
  intro a0 k
  obtain ⟨ih0, ih1⟩ := spec_l17Ok.mono_l k
  unfold spec_l17Ok.f
  repeat' first
      | (with_reducible exact ih0 _ _ _)
      | (with_reducible exact ih1 _ _ _)
      | (with_reducible exact spec_l01Name.mono _ _)
      | (with_reducible exact spec_l17Sum.mono _ _)
      | (with_reducible exact LeO.refl _)
      | (with_reducible exact LeO.none _)
      | (with_reducible refine LeO.ite ?_ ?_)
      | (with_reducible refine LeO.bind ?_ (fun _ => ?_))
      | exact ih0 _ _ _
      | exact ih1 _ _ _
      | exact spec_l01Name.mono _ _
      | exact spec_l17Sum.mono _ _
      | exact LeO.none _
      | refine LeO.ite ?_ ?_
      | refine LeO.bind ?_ (fun _ => ?_)
set_option maxHeartbeats 8000000 in
set_option maxRecDepth 100000 in
theorem spec_l17Ok.calls (k : Nat) (A0 : Option Addr) (l0 : List (S27)) (r : Bool) (w : World) (hr0 : Kd.C k27 w A0 l0.length l0) (hn0 : 0 < l0.length) (h : spec_l17Ok.f k l0 = some r) :
    Calls Try.prog 78 #[.pointer A0] w fun e w' => e = .returned (.bool r) ∧ Drawn0 w w' := by
  have HR0 := Aside0.mk hr0
  clear hr0
  have HN0 := Aside0.mk hn0
  have hn0b0 : decide ((0 : Int) < (l0.length : Int)) = true := decide_eq_true (Int.ofNat_lt.2 hn0)
  have hn0b1 : decide (0 < l0.length) = true := decide_eq_true hn0
  clear hn0
  have H : ((spec_l01Name.f k ((rd_T27 l0 0).f0)).bind fun t130 => (if t130 = true then ((spec_l00In.f (((rd_T27 l0 0).f1).length : Int) 1 8).bind fun t131 => (if t131 = true then (spec_l17Ok.j0 k l0 (((rd_T27 l0 0).f1).length : Int) ((((rd_T27 l0 0).f2).length : Int) != (((rd_T27 l0 0).f1).length : Int))) else (spec_l17Ok.j0 k l0 (((rd_T27 l0 0).f1).length : Int) true))) else (spec_l17Ok.j0 k l0 (((rd_T27 l0 0).f1).length : Int) true))) = some r := h
  clear h
  have HC2 := Aside0.mk H
  clear H
  have p128 : 0 ≤ (0 : Int) := (by omega)
  have q128 : 0 < (l0.length : Int) := of_decide_eq_true (by first | (with_reducible assumption) | assumption)
  obtain ⟨ad128, A128_1, c128_1, A128_2, c128_2, e128, hx128_0, hx128_1, hx128_2, hl128_1, hi128_1, hl128_2, hi128_2⟩ := at_T27 HR0.out 0 p128 q128
  cases e128
  have qi128 : (0 < l0.length) = True := eq_true (by omega)
  (try rw [show ((0 : Int)).toNat = 0 from rfl] at hx128_0)
  (try rw [show 0 * 3 = 0 from rfl] at hx128_0)
  (try rw [Addr.add_zero'] at hx128_0)
  (try rw [show ((0 : Int)).toNat = 0 from rfl] at hx128_1)
  (try rw [show 0 * 3 = 0 from rfl] at hx128_1)
  (try rw [Addr.add_zero'] at hx128_1)
  (try rw [show ((0 : Int)).toNat = 0 from rfl] at hx128_2)
  (try rw [show 0 * 3 = 0 from rfl] at hx128_2)
  (try rw [Addr.add_zero'] at hx128_2)
  have HR128_1 := Aside0.mk hi128_1
  have HC128_1 := Aside0.mk hl128_1
  clear hi128_1 hl128_1
  have HR128_2 := Aside0.mk hi128_2
  have HC128_2 := Aside0.mk hl128_2
  clear hi128_2 hl128_2
  replace p128 := eq_true p128
  replace q128 := eq_true q128
  go_enter Try.func78, Try.ntmps78
  go_upto_region 2 with (fail)
  go_cut [29] (fun v29 wc => ∃ (kq : Nat) (x29_1 : Bool), v29 = .bool x29_1 ∧ Aside0 (spec_l17Ok.j0 kq l0 (((rd_T27 l0 0).f1).length : Int) x29_1 = some r) ∧ Aside0 (kq ≤ k) ∧ Drawn0 w wc)
  case first =>
    have H := HC2.out
    clear HC2
    replace H := Option.bind_eq_some_iff.mp H
    obtain ⟨t130, A30, H⟩ := H
    replace H : (if t130 = true then ((spec_l00In.f (((rd_T27 l0 0).f1).length : Int) 1 8).bind fun t131 => (if t131 = true then (spec_l17Ok.j0 k l0 (((rd_T27 l0 0).f1).length : Int) ((((rd_T27 l0 0).f2).length : Int) != (((rd_T27 l0 0).f1).length : Int))) else (spec_l17Ok.j0 k l0 (((rd_T27 l0 0).f1).length : Int) true))) else (spec_l17Ok.j0 k l0 (((rd_T27 l0 0).f1).length : Int) true)) = some r := H
    have A3 := Aside0.mk A30
    clear A30
    by_cases c4 : t130 = true
    · subst c4
      have H1 : ((spec_l00In.f (((rd_T27 l0 0).f1).length : Int) 1 8).bind fun t131 => (if t131 = true then (spec_l17Ok.j0 k l0 (((rd_T27 l0 0).f1).length : Int) ((((rd_T27 l0 0).f2).length : Int) != (((rd_T27 l0 0).f1).length : Int))) else (spec_l17Ok.j0 k l0 (((rd_T27 l0 0).f1).length : Int) true))) = some r := by rw [if_pos rfl] at H; exact H
      clear H
      have H := H1
      clear H1
      replace H := Option.bind_eq_some_iff.mp H
      obtain ⟨t131, A50, H⟩ := H
      replace H : (if t131 = true then (spec_l17Ok.j0 k l0 (((rd_T27 l0 0).f1).length : Int) ((((rd_T27 l0 0).f2).length : Int) != (((rd_T27 l0 0).f1).length : Int))) else (spec_l17Ok.j0 k l0 (((rd_T27 l0 0).f1).length : Int) true)) = some r := H
      have A5 := Aside0.mk A50
      clear A50
      by_cases c6 : t131 = true
      · subst c6
        have H1 : (spec_l17Ok.j0 k l0 (((rd_T27 l0 0).f1).length : Int) ((((rd_T27 l0 0).f2).length : Int) != (((rd_T27 l0 0).f1).length : Int))) = some r := by rw [if_pos rfl] at H; exact H
        clear H
        have H := H1
        clear H1
        have H' := Aside0.mk H
        clear H
        have p129 : 0 ≤ (0 : Int) := (by omega)
        have q129 : 0 < (l0.length : Int) := of_decide_eq_true (by first | (with_reducible assumption) | assumption)
        obtain ⟨ad129, A129_1, c129_1, A129_2, c129_2, e129, hx129_0, hx129_1, hx129_2, hl129_1, hi129_1, hl129_2, hi129_2⟩ := at_T27 HR0.out 0 p129 q129
        obtain rfl : ad128 = ad129 := (by injection e129)
        have qi129 : (0 < l0.length) = True := eq_true (by omega)
        (try rw [show ((0 : Int)).toNat = 0 from rfl] at hx129_0)
        (try rw [show 0 * 3 = 0 from rfl] at hx129_0)
        (try rw [Addr.add_zero'] at hx129_0)
        (try rw [show ((0 : Int)).toNat = 0 from rfl] at hx129_1)
        (try rw [show 0 * 3 = 0 from rfl] at hx129_1)
        (try rw [Addr.add_zero'] at hx129_1)
        (try rw [show ((0 : Int)).toNat = 0 from rfl] at hx129_2)
        (try rw [show 0 * 3 = 0 from rfl] at hx129_2)
        (try rw [Addr.add_zero'] at hx129_2)
        have HR129_1 := Aside0.mk hi129_1
        have HC129_1 := Aside0.mk hl129_1
        clear hi129_1 hl129_1
        have HR129_2 := Aside0.mk hi129_2
        have HC129_2 := Aside0.mk hl129_2
        clear hi129_2 hl129_2
        replace p129 := eq_true p129
        replace q129 := eq_true q129
        go_wp2_with (first | ((with_reducible refine gate_callee (f := 86) rfl ?_); refine goesL_ (some 14) rfl rfl Try.func86 (by kernel_rfl) rfl #[.string ((rd_T27 l0 0).f0)] rfl (by (try simp only [List.map_toArray, List.map_cons, List.map_nil]); first | done | rfl | (simp only [List.length_drop, List.length_take]; rfl)) ?_; (with_reducible refine (spec_l01Name.calls k ((rd_T27 l0 0).f0) true _ A3.out).mono ?_); rintro e w' ⟨rfl, ⟨nd, rfl⟩⟩; refine ⟨_, rfl, ?_⟩) | (go_at_call 53; (with_reducible refine (spec_l00In.calls (((rd_T27 l0 0).f1).length : Int) 1 8 true _ A5.out).mono ?_); rintro e w' ⟨rfl, ⟨nd, rfl⟩⟩; have p132 : 0 ≤ (0 : Int) := (by omega); have q132 : 0 < (l0.length : Int) := of_decide_eq_true (by first | (with_reducible assumption) | assumption); obtain ⟨ad132, A132_1, c132_1, A132_2, c132_2, e132, hx132_0, hx132_1, hx132_2, hl132_1, hi132_1, hl132_2, hi132_2⟩ := at_T27 HR0.out 0 p132 q132; obtain rfl : ad128 = ad132 := (by injection e132); have qi132 : (0 < l0.length) = True := eq_true (by omega); (try rw [show ((0 : Int)).toNat = 0 from rfl] at hx132_0); (try rw [show 0 * 3 = 0 from rfl] at hx132_0); (try rw [Addr.add_zero'] at hx132_0); (try rw [show ((0 : Int)).toNat = 0 from rfl] at hx132_1); (try rw [show 0 * 3 = 0 from rfl] at hx132_1); (try rw [Addr.add_zero'] at hx132_1); (try rw [show ((0 : Int)).toNat = 0 from rfl] at hx132_2); (try rw [show 0 * 3 = 0 from rfl] at hx132_2); (try rw [Addr.add_zero'] at hx132_2); have HR132_1 := Aside0.mk hi132_1; have HC132_1 := Aside0.mk hl132_1; clear hi132_1 hl132_1; have HR132_2 := Aside0.mk hi132_2; have HC132_2 := Aside0.mk hl132_2; clear hi132_2 hl132_2; replace p132 := eq_true p132; replace q132 := eq_true q132; have ea_ := Option.some.inj (hx129_1.symm.trans hx132_1); injection ea_ with ea_ en_ ec_; subst ea_; subst ec_; clear en_; have ea_ := Option.some.inj (hx129_2.symm.trans hx132_2); injection ea_ with ea_ en_ ec_; subst ea_; subst ec_; clear en_))
        go_meet
        case rel => exact ⟨_, (((((rd_T27 l0 0).f2).length : Int) != (((rd_T27 l0 0).f1).length : Int))), (by first | rfl | (simp; done) | (simp [*]; done)), H', ⟨by first | omega | exact Nat.le_refl _⟩, by repeat (first | exact Drawn0.refl _ | apply Drawn0.step)⟩
      · replace c6 := Bool.eq_false_iff.mpr c6
        subst c6
        have H1 : (spec_l17Ok.j0 k l0 (((rd_T27 l0 0).f1).length : Int) true) = some r := by rw [if_neg (show ¬ (false = true) by decide)] at H; exact H
        clear H
        have H := H1
        clear H1
        have H' := Aside0.mk H
        clear H
        have p129 : 0 ≤ (0 : Int) := (by omega)
        have q129 : 0 < (l0.length : Int) := of_decide_eq_true (by first | (with_reducible assumption) | assumption)
        obtain ⟨ad129, A129_1, c129_1, A129_2, c129_2, e129, hx129_0, hx129_1, hx129_2, hl129_1, hi129_1, hl129_2, hi129_2⟩ := at_T27 HR0.out 0 p129 q129
        obtain rfl : ad128 = ad129 := (by injection e129)
        have qi129 : (0 < l0.length) = True := eq_true (by omega)
        (try rw [show ((0 : Int)).toNat = 0 from rfl] at hx129_0)
        (try rw [show 0 * 3 = 0 from rfl] at hx129_0)
        (try rw [Addr.add_zero'] at hx129_0)
        (try rw [show ((0 : Int)).toNat = 0 from rfl] at hx129_1)
        (try rw [show 0 * 3 = 0 from rfl] at hx129_1)
        (try rw [Addr.add_zero'] at hx129_1)
        (try rw [show ((0 : Int)).toNat = 0 from rfl] at hx129_2)
        (try rw [show 0 * 3 = 0 from rfl] at hx129_2)
        (try rw [Addr.add_zero'] at hx129_2)
        have HR129_1 := Aside0.mk hi129_1
        have HC129_1 := Aside0.mk hl129_1
        clear hi129_1 hl129_1
        have HR129_2 := Aside0.mk hi129_2
        have HC129_2 := Aside0.mk hl129_2
        clear hi129_2 hl129_2
        replace p129 := eq_true p129
        replace q129 := eq_true q129
        go_wp2_with (first | ((with_reducible refine gate_callee (f := 86) rfl ?_); refine goesL_ (some 14) rfl rfl Try.func86 (by kernel_rfl) rfl #[.string ((rd_T27 l0 0).f0)] rfl (by (try simp only [List.map_toArray, List.map_cons, List.map_nil]); first | done | rfl | (simp only [List.length_drop, List.length_take]; rfl)) ?_; (with_reducible refine (spec_l01Name.calls k ((rd_T27 l0 0).f0) true _ A3.out).mono ?_); rintro e w' ⟨rfl, ⟨nd, rfl⟩⟩; refine ⟨_, rfl, ?_⟩) | (go_at_call 53; (with_reducible refine (spec_l00In.calls (((rd_T27 l0 0).f1).length : Int) 1 8 false _ A5.out).mono ?_); rintro e w' ⟨rfl, ⟨nd, rfl⟩⟩))
        go_meet
        case rel => exact ⟨_, (true), (by first | rfl | (simp; done) | (simp [*]; done)), H', ⟨by first | omega | exact Nat.le_refl _⟩, by repeat (first | exact Drawn0.refl _ | apply Drawn0.step)⟩
    · replace c4 := Bool.eq_false_iff.mpr c4
      subst c4
      have H1 : (spec_l17Ok.j0 k l0 (((rd_T27 l0 0).f1).length : Int) true) = some r := by rw [if_neg (show ¬ (false = true) by decide)] at H; exact H
      clear H
      have H := H1
      clear H1
      have H' := Aside0.mk H
      clear H
      have p129 : 0 ≤ (0 : Int) := (by omega)
      have q129 : 0 < (l0.length : Int) := of_decide_eq_true (by first | (with_reducible assumption) | assumption)
      obtain ⟨ad129, A129_1, c129_1, A129_2, c129_2, e129, hx129_0, hx129_1, hx129_2, hl129_1, hi129_1, hl129_2, hi129_2⟩ := at_T27 HR0.out 0 p129 q129
      obtain rfl : ad128 = ad129 := (by injection e129)
      have qi129 : (0 < l0.length) = True := eq_true (by omega)
      (try rw [show ((0 : Int)).toNat = 0 from rfl] at hx129_0)
      (try rw [show 0 * 3 = 0 from rfl] at hx129_0)
      (try rw [Addr.add_zero'] at hx129_0)
      (try rw [show ((0 : Int)).toNat = 0 from rfl] at hx129_1)
      (try rw [show 0 * 3 = 0 from rfl] at hx129_1)
      (try rw [Addr.add_zero'] at hx129_1)
      (try rw [show ((0 : Int)).toNat = 0 from rfl] at hx129_2)
      (try rw [show 0 * 3 = 0 from rfl] at hx129_2)
      (try rw [Addr.add_zero'] at hx129_2)
      have HR129_1 := Aside0.mk hi129_1
      have HC129_1 := Aside0.mk hl129_1
      clear hi129_1 hl129_1
      have HR129_2 := Aside0.mk hi129_2
      have HC129_2 := Aside0.mk hl129_2
      clear hi129_2 hl129_2
      replace p129 := eq_true p129
      replace q129 := eq_true q129
      go_wp2_with (first | ((with_reducible refine gate_callee (f := 86) rfl ?_); refine goesL_ (some 14) rfl rfl Try.func86 (by kernel_rfl) rfl #[.string ((rd_T27 l0 0).f0)] rfl (by (try simp only [List.map_toArray, List.map_cons, List.map_nil]); first | done | rfl | (simp only [List.length_drop, List.length_take]; rfl)) ?_; (with_reducible refine (spec_l01Name.calls k ((rd_T27 l0 0).f0) false _ A3.out).mono ?_); rintro e w' ⟨rfl, ⟨nd, rfl⟩⟩; refine ⟨_, rfl, ?_⟩))
      go_meet
      case rel => exact ⟨_, (true), (by first | rfl | (simp; done) | (simp [*]; done)), H', ⟨by first | omega | exact Nat.le_refl _⟩, by repeat (first | exact Drawn0.refl _ | apply Drawn0.step)⟩
  case rest =>
    clear HC2
    try clear c1
    try clear p1
    try clear q1
    try clear hx1
    try clear qi1
    try clear p2
    try clear c4
    try clear c6
    try clear hx128_0
    try clear hx128_1
    try clear hx128_2
    try clear hx129_0
    try clear hx129_1
    try clear hx129_2
    try clear hx132_0
    try clear hx132_1
    try clear hx132_2
    try clear p128
    try clear p129
    try clear p132
    try clear q128
    try clear q129
    try clear q132
    obtain ⟨kq, x29_1, rfl, HA, HJ1, ⟨mc1, rfl⟩⟩ := hcut
    cases kq with
    | zero => exact absurd HA.out (by simp [spec_l17Ok.j0])
    | succ kj1 =>
      have H := HA.out
      clear HA
      simp only [spec_l17Ok.j0] at H
      by_cases c7 : x29_1 = true
      · subst c7
        have H1 : (some false) = some r := by rw [if_pos rfl] at H; exact H
        clear H
        have H := H1
        clear H1
        obtain rfl := Option.some.inj H
        go_wp2
        go_ret
        exact ⟨by first | rfl | (simp; done) | (simp [*]; done), by repeat (first | exact Drawn0.refl _ | apply Drawn0.step)⟩
      · replace c7 := Bool.eq_false_iff.mpr c7
        subst c7
        have H1 : (spec_l17Ok.l0 kj1 l0 (((rd_T27 l0 0).f1).length : Int) 0) = some r := by rw [if_neg (show ¬ (false = true) by decide)] at H; exact H
        clear H
        have H := H1
        clear H1
        have H' := Aside0.mk H
        clear H
        go_wp2
        go_loopg [4] kj1 (fun kq v4 w' => ∃ (x4_2 : Int), v4 = .int .i64 x4_2 ∧ Aside0 (spec_l17Ok.l0 kq l0 (((rd_T27 l0 0).f1).length : Int) x4_2 = some r) ∧ Aside0 (kq ≤ kj1) ∧ Drawn0 w w')
        case atStart => exact ⟨(0), (by first | rfl | (simp; done) | (simp [*]; done)), H', ⟨Nat.le_refl _⟩, by repeat (first | exact Drawn0.refl _ | apply Drawn0.step)⟩
        case round =>
          clear H'
          try clear c1
          try clear p1
          try clear q1
          try clear hx1
          try clear qi1
          try clear p2
          try clear c4
          try clear c6
          try clear c7
          try clear hx128_0
          try clear hx128_1
          try clear hx128_2
          try clear hx129_0
          try clear hx129_1
          try clear hx129_2
          try clear hx132_0
          try clear hx132_1
          try clear hx132_2
          try clear p1
          try clear p128
          try clear p129
          try clear p132
          try clear p2
          try clear q1
          try clear q128
          try clear q129
          try clear q132
          obtain ⟨x4_2, rfl, HA, HK2, ⟨m2, rfl⟩⟩ := hrel
          cases gk with
          | zero => exact absurd HA.out (by simp [spec_l17Ok.l0])
          | succ k2 =>
            have H := HA.out
            clear HA
            simp only [spec_l17Ok.l0] at H
            by_cases c8 : x4_2 < (((rd_T27 l0 0).f1).length : Int)
            · rw [if_pos c8] at H
              have c8b0 : decide (x4_2 < (((rd_T27 l0 0).f1).length : Int)) = true := decide_eq_true c8
              clear c8
              by_cases c9 : 0 ≤ x4_2
              · rw [if_pos c9] at H
                have c9b0 : decide (0 ≤ x4_2) = true := decide_eq_true c9
                clear c9
                by_cases c10 : x4_2 < (((rd_T27 l0 0).f1).length : Int)
                · rw [if_pos c10] at H
                  have c10b0 : decide (x4_2 < (((rd_T27 l0 0).f1).length : Int)) = true := decide_eq_true c10
                  clear c10
                  replace H := Option.bind_eq_some_iff.mp H
                  obtain ⟨t137, A110, H⟩ := H
                  replace H : (if t137 = true then (if x4_2 = 0 then (if x4_2 < (((rd_T27 l0 0).f2).length : Int) then (if (rd ((rd_T27 l0 0).f2) x4_2) = 1 then (if x4_2 > 0 then ((spec_l00In.f (rd ((rd_T27 l0 0).f2) x4_2) 2 3).bind fun t142 => (if t142 = true then (spec_l17Ok.l0 k2 l0 (((rd_T27 l0 0).f1).length : Int) (wrap64 (x4_2 + 1))) else (some false))) else (spec_l17Ok.l0 k2 l0 (((rd_T27 l0 0).f1).length : Int) (wrap64 (x4_2 + 1)))) else (some false)) else (none)) else (if x4_2 > 0 then (if x4_2 < (((rd_T27 l0 0).f2).length : Int) then ((spec_l00In.f (rd ((rd_T27 l0 0).f2) x4_2) 2 3).bind fun t145 => (if t145 = true then (spec_l17Ok.l0 k2 l0 (((rd_T27 l0 0).f1).length : Int) (wrap64 (x4_2 + 1))) else (some false))) else (none)) else (spec_l17Ok.l0 k2 l0 (((rd_T27 l0 0).f1).length : Int) (wrap64 (x4_2 + 1))))) else (some false)) = some r := H
                  have A11 := Aside0.mk A110
                  clear A110
                  by_cases c12 : t137 = true
                  · subst c12
                    have H1 : (if x4_2 = 0 then (if x4_2 < (((rd_T27 l0 0).f2).length : Int) then (if (rd ((rd_T27 l0 0).f2) x4_2) = 1 then (if x4_2 > 0 then ((spec_l00In.f (rd ((rd_T27 l0 0).f2) x4_2) 2 3).bind fun t142 => (if t142 = true then (spec_l17Ok.l0 k2 l0 (((rd_T27 l0 0).f1).length : Int) (wrap64 (x4_2 + 1))) else (some false))) else (spec_l17Ok.l0 k2 l0 (((rd_T27 l0 0).f1).length : Int) (wrap64 (x4_2 + 1)))) else (some false)) else (none)) else (if x4_2 > 0 then (if x4_2 < (((rd_T27 l0 0).f2).length : Int) then ((spec_l00In.f (rd ((rd_T27 l0 0).f2) x4_2) 2 3).bind fun t145 => (if t145 = true then (spec_l17Ok.l0 k2 l0 (((rd_T27 l0 0).f1).length : Int) (wrap64 (x4_2 + 1))) else (some false))) else (none)) else (spec_l17Ok.l0 k2 l0 (((rd_T27 l0 0).f1).length : Int) (wrap64 (x4_2 + 1))))) = some r := by rw [if_pos rfl] at H; exact H
                    clear H
                    have H := H1
                    clear H1
                    by_cases c13 : x4_2 = 0
                    · rw [if_pos c13] at H
                      have c13b0 : (x4_2 == 0) = true := beq_iff_eq.mpr c13
                      have c13b1 : (x4_2 != 0) = false := bne_eq_false_iff_eq.mpr c13
                      clear c13
                      by_cases c14 : x4_2 < (((rd_T27 l0 0).f2).length : Int)
                      · rw [if_pos c14] at H
                        have c14b0 : decide (x4_2 < (((rd_T27 l0 0).f2).length : Int)) = true := decide_eq_true c14
                        clear c14
                        by_cases c15 : (rd ((rd_T27 l0 0).f2) x4_2) = 1
                        · rw [if_pos c15] at H
                          have c15b0 : ((rd ((rd_T27 l0 0).f2) x4_2) == 1) = true := beq_iff_eq.mpr c15
                          have c15b1 : ((rd ((rd_T27 l0 0).f2) x4_2) != 1) = false := bne_eq_false_iff_eq.mpr c15
                          clear c15
                          by_cases c16 : x4_2 > 0
                          · rw [if_pos c16] at H
                            have c16b0 : decide (0 < x4_2) = true := decide_eq_true c16
                            clear c16
                            replace H := Option.bind_eq_some_iff.mp H
                            obtain ⟨t142, A170, H⟩ := H
                            replace H : (if t142 = true then (spec_l17Ok.l0 k2 l0 (((rd_T27 l0 0).f1).length : Int) (wrap64 (x4_2 + 1))) else (some false)) = some r := H
                            have A17 := Aside0.mk A170
                            clear A170
                            by_cases c18 : t142 = true
                            · subst c18
                              have H1 : (spec_l17Ok.l0 k2 l0 (((rd_T27 l0 0).f1).length : Int) (wrap64 (x4_2 + 1))) = some r := by rw [if_pos rfl] at H; exact H
                              clear H
                              have H := H1
                              clear H1
                              have H' := Aside0.mk H
                              clear H
                              have p135 : 0 ≤ (0 : Int) := (by omega)
                              have q135 : 0 < (l0.length : Int) := of_decide_eq_true (by first | (with_reducible assumption) | assumption)
                              obtain ⟨ad135, A135_1, c135_1, A135_2, c135_2, e135, hx135_0, hx135_1, hx135_2, hl135_1, hi135_1, hl135_2, hi135_2⟩ := at_T27 HR0.out 0 p135 q135
                              obtain rfl : ad128 = ad135 := (by injection e135)
                              have qi135 : (0 < l0.length) = True := eq_true (by omega)
                              (try rw [show ((0 : Int)).toNat = 0 from rfl] at hx135_0)
                              (try rw [show 0 * 3 = 0 from rfl] at hx135_0)
                              (try rw [Addr.add_zero'] at hx135_0)
                              (try rw [show ((0 : Int)).toNat = 0 from rfl] at hx135_1)
                              (try rw [show 0 * 3 = 0 from rfl] at hx135_1)
                              (try rw [Addr.add_zero'] at hx135_1)
                              (try rw [show ((0 : Int)).toNat = 0 from rfl] at hx135_2)
                              (try rw [show 0 * 3 = 0 from rfl] at hx135_2)
                              (try rw [Addr.add_zero'] at hx135_2)
                              have HR135_1 := Aside0.mk hi135_1
                              have HC135_1 := Aside0.mk hl135_1
                              clear hi135_1 hl135_1
                              have HR135_2 := Aside0.mk hi135_2
                              have HC135_2 := Aside0.mk hl135_2
                              clear hi135_2 hl135_2
                              replace p135 := eq_true p135
                              replace q135 := eq_true q135
                              have p136 : 0 ≤ (x4_2 : Int) := of_decide_eq_true (by first | (with_reducible assumption) | assumption)
                              have q136 : x4_2 < (((rd_T27 l0 0).f1).length : Int) := of_decide_eq_true (by first | (with_reducible assumption) | assumption)
                              obtain ⟨ad136, e136, hx136_0⟩ := Kd.at_int HR135_1.out x4_2 p136 q136
                              cases e136
                              replace p136 := eq_true p136
                              replace q136 := eq_true q136
                              go_wp2_with (first | ((with_reducible refine gate_callee (f := 53) rfl ?_); refine goesL_ (some 42) rfl rfl Try.func53 (by kernel_rfl) rfl #[.int .i64 (rd ((rd_T27 l0 0).f1) x4_2), .int .i64 1, .int .i64 16] rfl (by (try simp only [List.map_toArray, List.map_cons, List.map_nil]); first | done | rfl | (simp only [List.length_drop, List.length_take]; rfl)) ?_; (with_reducible refine (spec_l00In.calls (rd ((rd_T27 l0 0).f1) x4_2) 1 16 true _ A11.out).mono ?_); rintro e w' ⟨rfl, ⟨nd, rfl⟩⟩; refine ⟨_, rfl, ?_⟩; have p138 : 0 ≤ (0 : Int) := (by omega); have q138 : 0 < (l0.length : Int) := of_decide_eq_true (by first | (with_reducible assumption) | assumption); obtain ⟨ad138, A138_1, c138_1, A138_2, c138_2, e138, hx138_0, hx138_1, hx138_2, hl138_1, hi138_1, hl138_2, hi138_2⟩ := at_T27 HR0.out 0 p138 q138; obtain rfl : ad128 = ad138 := (by injection e138); have qi138 : (0 < l0.length) = True := eq_true (by omega); (try rw [show ((0 : Int)).toNat = 0 from rfl] at hx138_0); (try rw [show 0 * 3 = 0 from rfl] at hx138_0); (try rw [Addr.add_zero'] at hx138_0); (try rw [show ((0 : Int)).toNat = 0 from rfl] at hx138_1); (try rw [show 0 * 3 = 0 from rfl] at hx138_1); (try rw [Addr.add_zero'] at hx138_1); (try rw [show ((0 : Int)).toNat = 0 from rfl] at hx138_2); (try rw [show 0 * 3 = 0 from rfl] at hx138_2); (try rw [Addr.add_zero'] at hx138_2); have HR138_1 := Aside0.mk hi138_1; have HC138_1 := Aside0.mk hl138_1; clear hi138_1 hl138_1; have HR138_2 := Aside0.mk hi138_2; have HC138_2 := Aside0.mk hl138_2; clear hi138_2 hl138_2; replace p138 := eq_true p138; replace q138 := eq_true q138; have ea_ := Option.some.inj (hx135_1.symm.trans hx138_1); injection ea_ with ea_ en_ ec_; subst ea_; subst ec_; clear en_; have ea_ := Option.some.inj (hx135_2.symm.trans hx138_2); injection ea_ with ea_ en_ ec_; subst ea_; subst ec_; clear en_; have p139 : 0 ≤ (x4_2 : Int) := of_decide_eq_true (by first | (with_reducible assumption) | assumption); have q139 : x4_2 < (((rd_T27 l0 0).f2).length : Int) := of_decide_eq_true (by first | (with_reducible assumption) | assumption); obtain ⟨ad139, e139, hx139_0⟩ := Kd.at_int HR138_2.out x4_2 p139 q139; cases e139; replace p139 := eq_true p139; replace q139 := eq_true q139; have p140 : 0 ≤ (0 : Int) := (by omega); have q140 : 0 < (l0.length : Int) := of_decide_eq_true (by first | (with_reducible assumption) | assumption); obtain ⟨ad140, A140_1, c140_1, A140_2, c140_2, e140, hx140_0, hx140_1, hx140_2, hl140_1, hi140_1, hl140_2, hi140_2⟩ := at_T27 HR0.out 0 p140 q140; obtain rfl : ad128 = ad140 := (by injection e140); have qi140 : (0 < l0.length) = True := eq_true (by omega); (try rw [show ((0 : Int)).toNat = 0 from rfl] at hx140_0); (try rw [show 0 * 3 = 0 from rfl] at hx140_0); (try rw [Addr.add_zero'] at hx140_0); (try rw [show ((0 : Int)).toNat = 0 from rfl] at hx140_1); (try rw [show 0 * 3 = 0 from rfl] at hx140_1); (try rw [Addr.add_zero'] at hx140_1); (try rw [show ((0 : Int)).toNat = 0 from rfl] at hx140_2); (try rw [show 0 * 3 = 0 from rfl] at hx140_2); (try rw [Addr.add_zero'] at hx140_2); have HR140_1 := Aside0.mk hi140_1; have HC140_1 := Aside0.mk hl140_1; clear hi140_1 hl140_1; have HR140_2 := Aside0.mk hi140_2; have HC140_2 := Aside0.mk hl140_2; clear hi140_2 hl140_2; replace p140 := eq_true p140; replace q140 := eq_true q140; have ea_ := Option.some.inj (hx135_1.symm.trans hx140_1); injection ea_ with ea_ en_ ec_; subst ea_; subst ec_; clear en_; have ea_ := Option.some.inj (hx135_2.symm.trans hx140_2); injection ea_ with ea_ en_ ec_; subst ea_; subst ec_; clear en_; have p141 : 0 ≤ (x4_2 : Int) := of_decide_eq_true (by first | (with_reducible assumption) | assumption); have q141 : x4_2 < (((rd_T27 l0 0).f2).length : Int) := of_decide_eq_true (by first | (with_reducible assumption) | assumption); obtain ⟨ad141, e141, hx141_0⟩ := Kd.at_int HR140_2.out x4_2 p141 q141; cases e141; replace p141 := eq_true p141; replace q141 := eq_true q141) | (go_at_call 53; (with_reducible refine (spec_l00In.calls (rd ((rd_T27 l0 0).f2) x4_2) 2 3 true _ A17.out).mono ?_); rintro e w' ⟨rfl, ⟨nd, rfl⟩⟩))
                              go_roundg k2
                              case measure => have := HJ1.out; have := HK2.out; omega
                              case rel => exact ⟨(wrap64 (x4_2 + 1)), (by first | rfl | (simp; done) | (simp [*]; done)), H', ⟨by have := HJ1.out; have := HK2.out; omega⟩, by repeat (first | exact Drawn0.refl _ | apply Drawn0.step)⟩
                            · replace c18 := Bool.eq_false_iff.mpr c18
                              subst c18
                              have H1 : (some false) = some r := by rw [if_neg (show ¬ (false = true) by decide)] at H; exact H
                              clear H
                              have H := H1
                              clear H1
                              obtain rfl := Option.some.inj H
                              have p135 : 0 ≤ (0 : Int) := (by omega)
                              have q135 : 0 < (l0.length : Int) := of_decide_eq_true (by first | (with_reducible assumption) | assumption)
                              obtain ⟨ad135, A135_1, c135_1, A135_2, c135_2, e135, hx135_0, hx135_1, hx135_2, hl135_1, hi135_1, hl135_2, hi135_2⟩ := at_T27 HR0.out 0 p135 q135
                              obtain rfl : ad128 = ad135 := (by injection e135)
                              have qi135 : (0 < l0.length) = True := eq_true (by omega)
                              (try rw [show ((0 : Int)).toNat = 0 from rfl] at hx135_0)
                              (try rw [show 0 * 3 = 0 from rfl] at hx135_0)
                              (try rw [Addr.add_zero'] at hx135_0)
                              (try rw [show ((0 : Int)).toNat = 0 from rfl] at hx135_1)
                              (try rw [show 0 * 3 = 0 from rfl] at hx135_1)
                              (try rw [Addr.add_zero'] at hx135_1)
                              (try rw [show ((0 : Int)).toNat = 0 from rfl] at hx135_2)
                              (try rw [show 0 * 3 = 0 from rfl] at hx135_2)
                              (try rw [Addr.add_zero'] at hx135_2)
                              have HR135_1 := Aside0.mk hi135_1
                              have HC135_1 := Aside0.mk hl135_1
                              clear hi135_1 hl135_1
                              have HR135_2 := Aside0.mk hi135_2
                              have HC135_2 := Aside0.mk hl135_2
                              clear hi135_2 hl135_2
                              replace p135 := eq_true p135
                              replace q135 := eq_true q135
                              have p136 : 0 ≤ (x4_2 : Int) := of_decide_eq_true (by first | (with_reducible assumption) | assumption)
                              have q136 : x4_2 < (((rd_T27 l0 0).f1).length : Int) := of_decide_eq_true (by first | (with_reducible assumption) | assumption)
                              obtain ⟨ad136, e136, hx136_0⟩ := Kd.at_int HR135_1.out x4_2 p136 q136
                              cases e136
                              replace p136 := eq_true p136
                              replace q136 := eq_true q136
                              go_wp2_with (first | ((with_reducible refine gate_callee (f := 53) rfl ?_); refine goesL_ (some 42) rfl rfl Try.func53 (by kernel_rfl) rfl #[.int .i64 (rd ((rd_T27 l0 0).f1) x4_2), .int .i64 1, .int .i64 16] rfl (by (try simp only [List.map_toArray, List.map_cons, List.map_nil]); first | done | rfl | (simp only [List.length_drop, List.length_take]; rfl)) ?_; (with_reducible refine (spec_l00In.calls (rd ((rd_T27 l0 0).f1) x4_2) 1 16 true _ A11.out).mono ?_); rintro e w' ⟨rfl, ⟨nd, rfl⟩⟩; refine ⟨_, rfl, ?_⟩; have p138 : 0 ≤ (0 : Int) := (by omega); have q138 : 0 < (l0.length : Int) := of_decide_eq_true (by first | (with_reducible assumption) | assumption); obtain ⟨ad138, A138_1, c138_1, A138_2, c138_2, e138, hx138_0, hx138_1, hx138_2, hl138_1, hi138_1, hl138_2, hi138_2⟩ := at_T27 HR0.out 0 p138 q138; obtain rfl : ad128 = ad138 := (by injection e138); have qi138 : (0 < l0.length) = True := eq_true (by omega); (try rw [show ((0 : Int)).toNat = 0 from rfl] at hx138_0); (try rw [show 0 * 3 = 0 from rfl] at hx138_0); (try rw [Addr.add_zero'] at hx138_0); (try rw [show ((0 : Int)).toNat = 0 from rfl] at hx138_1); (try rw [show 0 * 3 = 0 from rfl] at hx138_1); (try rw [Addr.add_zero'] at hx138_1); (try rw [show ((0 : Int)).toNat = 0 from rfl] at hx138_2); (try rw [show 0 * 3 = 0 from rfl] at hx138_2); (try rw [Addr.add_zero'] at hx138_2); have HR138_1 := Aside0.mk hi138_1; have HC138_1 := Aside0.mk hl138_1; clear hi138_1 hl138_1; have HR138_2 := Aside0.mk hi138_2; have HC138_2 := Aside0.mk hl138_2; clear hi138_2 hl138_2; replace p138 := eq_true p138; replace q138 := eq_true q138; have ea_ := Option.some.inj (hx135_1.symm.trans hx138_1); injection ea_ with ea_ en_ ec_; subst ea_; subst ec_; clear en_; have ea_ := Option.some.inj (hx135_2.symm.trans hx138_2); injection ea_ with ea_ en_ ec_; subst ea_; subst ec_; clear en_; have p139 : 0 ≤ (x4_2 : Int) := of_decide_eq_true (by first | (with_reducible assumption) | assumption); have q139 : x4_2 < (((rd_T27 l0 0).f2).length : Int) := of_decide_eq_true (by first | (with_reducible assumption) | assumption); obtain ⟨ad139, e139, hx139_0⟩ := Kd.at_int HR138_2.out x4_2 p139 q139; cases e139; replace p139 := eq_true p139; replace q139 := eq_true q139; have p140 : 0 ≤ (0 : Int) := (by omega); have q140 : 0 < (l0.length : Int) := of_decide_eq_true (by first | (with_reducible assumption) | assumption); obtain ⟨ad140, A140_1, c140_1, A140_2, c140_2, e140, hx140_0, hx140_1, hx140_2, hl140_1, hi140_1, hl140_2, hi140_2⟩ := at_T27 HR0.out 0 p140 q140; obtain rfl : ad128 = ad140 := (by injection e140); have qi140 : (0 < l0.length) = True := eq_true (by omega); (try rw [show ((0 : Int)).toNat = 0 from rfl] at hx140_0); (try rw [show 0 * 3 = 0 from rfl] at hx140_0); (try rw [Addr.add_zero'] at hx140_0); (try rw [show ((0 : Int)).toNat = 0 from rfl] at hx140_1); (try rw [show 0 * 3 = 0 from rfl] at hx140_1); (try rw [Addr.add_zero'] at hx140_1); (try rw [show ((0 : Int)).toNat = 0 from rfl] at hx140_2); (try rw [show 0 * 3 = 0 from rfl] at hx140_2); (try rw [Addr.add_zero'] at hx140_2); have HR140_1 := Aside0.mk hi140_1; have HC140_1 := Aside0.mk hl140_1; clear hi140_1 hl140_1; have HR140_2 := Aside0.mk hi140_2; have HC140_2 := Aside0.mk hl140_2; clear hi140_2 hl140_2; replace p140 := eq_true p140; replace q140 := eq_true q140; have ea_ := Option.some.inj (hx135_1.symm.trans hx140_1); injection ea_ with ea_ en_ ec_; subst ea_; subst ec_; clear en_; have ea_ := Option.some.inj (hx135_2.symm.trans hx140_2); injection ea_ with ea_ en_ ec_; subst ea_; subst ec_; clear en_; have p141 : 0 ≤ (x4_2 : Int) := of_decide_eq_true (by first | (with_reducible assumption) | assumption); have q141 : x4_2 < (((rd_T27 l0 0).f2).length : Int) := of_decide_eq_true (by first | (with_reducible assumption) | assumption); obtain ⟨ad141, e141, hx141_0⟩ := Kd.at_int HR140_2.out x4_2 p141 q141; cases e141; replace p141 := eq_true p141; replace q141 := eq_true q141) | (go_at_call 53; (with_reducible refine (spec_l00In.calls (rd ((rd_T27 l0 0).f2) x4_2) 2 3 false _ A17.out).mono ?_); rintro e w' ⟨rfl, ⟨nd, rfl⟩⟩))
                              go_ret
                              exact ⟨by first | rfl | (simp; done) | (simp [*]; done), by repeat (first | exact Drawn0.refl _ | apply Drawn0.step)⟩
                          · rw [if_neg c16] at H
                            have c16b0 : decide (0 < x4_2) = false := decide_eq_false c16
                            clear c16
                            have H' := Aside0.mk H
                            clear H
                            have p135 : 0 ≤ (0 : Int) := (by omega)
                            have q135 : 0 < (l0.length : Int) := of_decide_eq_true (by first | (with_reducible assumption) | assumption)
                            obtain ⟨ad135, A135_1, c135_1, A135_2, c135_2, e135, hx135_0, hx135_1, hx135_2, hl135_1, hi135_1, hl135_2, hi135_2⟩ := at_T27 HR0.out 0 p135 q135
                            obtain rfl : ad128 = ad135 := (by injection e135)
                            have qi135 : (0 < l0.length) = True := eq_true (by omega)
                            (try rw [show ((0 : Int)).toNat = 0 from rfl] at hx135_0)
                            (try rw [show 0 * 3 = 0 from rfl] at hx135_0)
                            (try rw [Addr.add_zero'] at hx135_0)
                            (try rw [show ((0 : Int)).toNat = 0 from rfl] at hx135_1)
                            (try rw [show 0 * 3 = 0 from rfl] at hx135_1)
                            (try rw [Addr.add_zero'] at hx135_1)
                            (try rw [show ((0 : Int)).toNat = 0 from rfl] at hx135_2)
                            (try rw [show 0 * 3 = 0 from rfl] at hx135_2)
                            (try rw [Addr.add_zero'] at hx135_2)
                            have HR135_1 := Aside0.mk hi135_1
                            have HC135_1 := Aside0.mk hl135_1
                            clear hi135_1 hl135_1
                            have HR135_2 := Aside0.mk hi135_2
                            have HC135_2 := Aside0.mk hl135_2
                            clear hi135_2 hl135_2
                            replace p135 := eq_true p135
                            replace q135 := eq_true q135
                            have p136 : 0 ≤ (x4_2 : Int) := of_decide_eq_true (by first | (with_reducible assumption) | assumption)
                            have q136 : x4_2 < (((rd_T27 l0 0).f1).length : Int) := of_decide_eq_true (by first | (with_reducible assumption) | assumption)
                            obtain ⟨ad136, e136, hx136_0⟩ := Kd.at_int HR135_1.out x4_2 p136 q136
                            cases e136
                            replace p136 := eq_true p136
                            replace q136 := eq_true q136
                            go_wp2_with (first | ((with_reducible refine gate_callee (f := 53) rfl ?_); refine goesL_ (some 42) rfl rfl Try.func53 (by kernel_rfl) rfl #[.int .i64 (rd ((rd_T27 l0 0).f1) x4_2), .int .i64 1, .int .i64 16] rfl (by (try simp only [List.map_toArray, List.map_cons, List.map_nil]); first | done | rfl | (simp only [List.length_drop, List.length_take]; rfl)) ?_; (with_reducible refine (spec_l00In.calls (rd ((rd_T27 l0 0).f1) x4_2) 1 16 true _ A11.out).mono ?_); rintro e w' ⟨rfl, ⟨nd, rfl⟩⟩; refine ⟨_, rfl, ?_⟩; have p138 : 0 ≤ (0 : Int) := (by omega); have q138 : 0 < (l0.length : Int) := of_decide_eq_true (by first | (with_reducible assumption) | assumption); obtain ⟨ad138, A138_1, c138_1, A138_2, c138_2, e138, hx138_0, hx138_1, hx138_2, hl138_1, hi138_1, hl138_2, hi138_2⟩ := at_T27 HR0.out 0 p138 q138; obtain rfl : ad128 = ad138 := (by injection e138); have qi138 : (0 < l0.length) = True := eq_true (by omega); (try rw [show ((0 : Int)).toNat = 0 from rfl] at hx138_0); (try rw [show 0 * 3 = 0 from rfl] at hx138_0); (try rw [Addr.add_zero'] at hx138_0); (try rw [show ((0 : Int)).toNat = 0 from rfl] at hx138_1); (try rw [show 0 * 3 = 0 from rfl] at hx138_1); (try rw [Addr.add_zero'] at hx138_1); (try rw [show ((0 : Int)).toNat = 0 from rfl] at hx138_2); (try rw [show 0 * 3 = 0 from rfl] at hx138_2); (try rw [Addr.add_zero'] at hx138_2); have HR138_1 := Aside0.mk hi138_1; have HC138_1 := Aside0.mk hl138_1; clear hi138_1 hl138_1; have HR138_2 := Aside0.mk hi138_2; have HC138_2 := Aside0.mk hl138_2; clear hi138_2 hl138_2; replace p138 := eq_true p138; replace q138 := eq_true q138; have ea_ := Option.some.inj (hx135_1.symm.trans hx138_1); injection ea_ with ea_ en_ ec_; subst ea_; subst ec_; clear en_; have ea_ := Option.some.inj (hx135_2.symm.trans hx138_2); injection ea_ with ea_ en_ ec_; subst ea_; subst ec_; clear en_; have p139 : 0 ≤ (x4_2 : Int) := of_decide_eq_true (by first | (with_reducible assumption) | assumption); have q139 : x4_2 < (((rd_T27 l0 0).f2).length : Int) := of_decide_eq_true (by first | (with_reducible assumption) | assumption); obtain ⟨ad139, e139, hx139_0⟩ := Kd.at_int HR138_2.out x4_2 p139 q139; cases e139; replace p139 := eq_true p139; replace q139 := eq_true q139))
                            go_roundg k2
                            case measure => have := HJ1.out; have := HK2.out; omega
                            case rel => exact ⟨(wrap64 (x4_2 + 1)), (by first | rfl | (simp; done) | (simp [*]; done)), H', ⟨by have := HJ1.out; have := HK2.out; omega⟩, by repeat (first | exact Drawn0.refl _ | apply Drawn0.step)⟩
                        · rw [if_neg c15] at H
                          have c15b0 : ((rd ((rd_T27 l0 0).f2) x4_2) == 1) = false := beq_eq_false_iff_ne.mpr c15
                          have c15b1 : ((rd ((rd_T27 l0 0).f2) x4_2) != 1) = true := bne_iff_ne.mpr c15
                          obtain rfl := Option.some.inj H
                          have p135 : 0 ≤ (0 : Int) := (by omega)
                          have q135 : 0 < (l0.length : Int) := of_decide_eq_true (by first | (with_reducible assumption) | assumption)
                          obtain ⟨ad135, A135_1, c135_1, A135_2, c135_2, e135, hx135_0, hx135_1, hx135_2, hl135_1, hi135_1, hl135_2, hi135_2⟩ := at_T27 HR0.out 0 p135 q135
                          obtain rfl : ad128 = ad135 := (by injection e135)
                          have qi135 : (0 < l0.length) = True := eq_true (by omega)
                          (try rw [show ((0 : Int)).toNat = 0 from rfl] at hx135_0)
                          (try rw [show 0 * 3 = 0 from rfl] at hx135_0)
                          (try rw [Addr.add_zero'] at hx135_0)
                          (try rw [show ((0 : Int)).toNat = 0 from rfl] at hx135_1)
                          (try rw [show 0 * 3 = 0 from rfl] at hx135_1)
                          (try rw [Addr.add_zero'] at hx135_1)
                          (try rw [show ((0 : Int)).toNat = 0 from rfl] at hx135_2)
                          (try rw [show 0 * 3 = 0 from rfl] at hx135_2)
                          (try rw [Addr.add_zero'] at hx135_2)
                          have HR135_1 := Aside0.mk hi135_1
                          have HC135_1 := Aside0.mk hl135_1
                          clear hi135_1 hl135_1
                          have HR135_2 := Aside0.mk hi135_2
                          have HC135_2 := Aside0.mk hl135_2
                          clear hi135_2 hl135_2
                          replace p135 := eq_true p135
                          replace q135 := eq_true q135
                          have p136 : 0 ≤ (x4_2 : Int) := of_decide_eq_true (by first | (with_reducible assumption) | assumption)
                          have q136 : x4_2 < (((rd_T27 l0 0).f1).length : Int) := of_decide_eq_true (by first | (with_reducible assumption) | assumption)
                          obtain ⟨ad136, e136, hx136_0⟩ := Kd.at_int HR135_1.out x4_2 p136 q136
                          cases e136
                          replace p136 := eq_true p136
                          replace q136 := eq_true q136
                          go_wp2_with (first | ((with_reducible refine gate_callee (f := 53) rfl ?_); refine goesL_ (some 42) rfl rfl Try.func53 (by kernel_rfl) rfl #[.int .i64 (rd ((rd_T27 l0 0).f1) x4_2), .int .i64 1, .int .i64 16] rfl (by (try simp only [List.map_toArray, List.map_cons, List.map_nil]); first | done | rfl | (simp only [List.length_drop, List.length_take]; rfl)) ?_; (with_reducible refine (spec_l00In.calls (rd ((rd_T27 l0 0).f1) x4_2) 1 16 true _ A11.out).mono ?_); rintro e w' ⟨rfl, ⟨nd, rfl⟩⟩; refine ⟨_, rfl, ?_⟩; have p138 : 0 ≤ (0 : Int) := (by omega); have q138 : 0 < (l0.length : Int) := of_decide_eq_true (by first | (with_reducible assumption) | assumption); obtain ⟨ad138, A138_1, c138_1, A138_2, c138_2, e138, hx138_0, hx138_1, hx138_2, hl138_1, hi138_1, hl138_2, hi138_2⟩ := at_T27 HR0.out 0 p138 q138; obtain rfl : ad128 = ad138 := (by injection e138); have qi138 : (0 < l0.length) = True := eq_true (by omega); (try rw [show ((0 : Int)).toNat = 0 from rfl] at hx138_0); (try rw [show 0 * 3 = 0 from rfl] at hx138_0); (try rw [Addr.add_zero'] at hx138_0); (try rw [show ((0 : Int)).toNat = 0 from rfl] at hx138_1); (try rw [show 0 * 3 = 0 from rfl] at hx138_1); (try rw [Addr.add_zero'] at hx138_1); (try rw [show ((0 : Int)).toNat = 0 from rfl] at hx138_2); (try rw [show 0 * 3 = 0 from rfl] at hx138_2); (try rw [Addr.add_zero'] at hx138_2); have HR138_1 := Aside0.mk hi138_1; have HC138_1 := Aside0.mk hl138_1; clear hi138_1 hl138_1; have HR138_2 := Aside0.mk hi138_2; have HC138_2 := Aside0.mk hl138_2; clear hi138_2 hl138_2; replace p138 := eq_true p138; replace q138 := eq_true q138; have ea_ := Option.some.inj (hx135_1.symm.trans hx138_1); injection ea_ with ea_ en_ ec_; subst ea_; subst ec_; clear en_; have ea_ := Option.some.inj (hx135_2.symm.trans hx138_2); injection ea_ with ea_ en_ ec_; subst ea_; subst ec_; clear en_; have p139 : 0 ≤ (x4_2 : Int) := of_decide_eq_true (by first | (with_reducible assumption) | assumption); have q139 : x4_2 < (((rd_T27 l0 0).f2).length : Int) := of_decide_eq_true (by first | (with_reducible assumption) | assumption); obtain ⟨ad139, e139, hx139_0⟩ := Kd.at_int HR138_2.out x4_2 p139 q139; cases e139; replace p139 := eq_true p139; replace q139 := eq_true q139))
                          go_ret
                          exact ⟨by first | rfl | (simp; done) | (simp [*]; done), by repeat (first | exact Drawn0.refl _ | apply Drawn0.step)⟩
                      · rw [if_neg c14] at H
                        exact absurd H (by simp)
                    · rw [if_neg c13] at H
                      have c13b0 : (x4_2 == 0) = false := beq_eq_false_iff_ne.mpr c13
                      have c13b1 : (x4_2 != 0) = true := bne_iff_ne.mpr c13
                      by_cases c19 : x4_2 > 0
                      · rw [if_pos c19] at H
                        have c19b0 : decide (0 < x4_2) = true := decide_eq_true c19
                        clear c19
                        by_cases c20 : x4_2 < (((rd_T27 l0 0).f2).length : Int)
                        · rw [if_pos c20] at H
                          have c20b0 : decide (x4_2 < (((rd_T27 l0 0).f2).length : Int)) = true := decide_eq_true c20
                          clear c20
                          replace H := Option.bind_eq_some_iff.mp H
                          obtain ⟨t145, A210, H⟩ := H
                          replace H : (if t145 = true then (spec_l17Ok.l0 k2 l0 (((rd_T27 l0 0).f1).length : Int) (wrap64 (x4_2 + 1))) else (some false)) = some r := H
                          have A21 := Aside0.mk A210
                          clear A210
                          by_cases c22 : t145 = true
                          · subst c22
                            have H1 : (spec_l17Ok.l0 k2 l0 (((rd_T27 l0 0).f1).length : Int) (wrap64 (x4_2 + 1))) = some r := by rw [if_pos rfl] at H; exact H
                            clear H
                            have H := H1
                            clear H1
                            have H' := Aside0.mk H
                            clear H
                            have p135 : 0 ≤ (0 : Int) := (by omega)
                            have q135 : 0 < (l0.length : Int) := of_decide_eq_true (by first | (with_reducible assumption) | assumption)
                            obtain ⟨ad135, A135_1, c135_1, A135_2, c135_2, e135, hx135_0, hx135_1, hx135_2, hl135_1, hi135_1, hl135_2, hi135_2⟩ := at_T27 HR0.out 0 p135 q135
                            obtain rfl : ad128 = ad135 := (by injection e135)
                            have qi135 : (0 < l0.length) = True := eq_true (by omega)
                            (try rw [show ((0 : Int)).toNat = 0 from rfl] at hx135_0)
                            (try rw [show 0 * 3 = 0 from rfl] at hx135_0)
                            (try rw [Addr.add_zero'] at hx135_0)
                            (try rw [show ((0 : Int)).toNat = 0 from rfl] at hx135_1)
                            (try rw [show 0 * 3 = 0 from rfl] at hx135_1)
                            (try rw [Addr.add_zero'] at hx135_1)
                            (try rw [show ((0 : Int)).toNat = 0 from rfl] at hx135_2)
                            (try rw [show 0 * 3 = 0 from rfl] at hx135_2)
                            (try rw [Addr.add_zero'] at hx135_2)
                            have HR135_1 := Aside0.mk hi135_1
                            have HC135_1 := Aside0.mk hl135_1
                            clear hi135_1 hl135_1
                            have HR135_2 := Aside0.mk hi135_2
                            have HC135_2 := Aside0.mk hl135_2
                            clear hi135_2 hl135_2
                            replace p135 := eq_true p135
                            replace q135 := eq_true q135
                            have p136 : 0 ≤ (x4_2 : Int) := of_decide_eq_true (by first | (with_reducible assumption) | assumption)
                            have q136 : x4_2 < (((rd_T27 l0 0).f1).length : Int) := of_decide_eq_true (by first | (with_reducible assumption) | assumption)
                            obtain ⟨ad136, e136, hx136_0⟩ := Kd.at_int HR135_1.out x4_2 p136 q136
                            cases e136
                            replace p136 := eq_true p136
                            replace q136 := eq_true q136
                            go_wp2_with (first | ((with_reducible refine gate_callee (f := 53) rfl ?_); refine goesL_ (some 42) rfl rfl Try.func53 (by kernel_rfl) rfl #[.int .i64 (rd ((rd_T27 l0 0).f1) x4_2), .int .i64 1, .int .i64 16] rfl (by (try simp only [List.map_toArray, List.map_cons, List.map_nil]); first | done | rfl | (simp only [List.length_drop, List.length_take]; rfl)) ?_; (with_reducible refine (spec_l00In.calls (rd ((rd_T27 l0 0).f1) x4_2) 1 16 true _ A11.out).mono ?_); rintro e w' ⟨rfl, ⟨nd, rfl⟩⟩; refine ⟨_, rfl, ?_⟩; have p143 : 0 ≤ (0 : Int) := (by omega); have q143 : 0 < (l0.length : Int) := of_decide_eq_true (by first | (with_reducible assumption) | assumption); obtain ⟨ad143, A143_1, c143_1, A143_2, c143_2, e143, hx143_0, hx143_1, hx143_2, hl143_1, hi143_1, hl143_2, hi143_2⟩ := at_T27 HR0.out 0 p143 q143; obtain rfl : ad128 = ad143 := (by injection e143); have qi143 : (0 < l0.length) = True := eq_true (by omega); (try rw [show ((0 : Int)).toNat = 0 from rfl] at hx143_0); (try rw [show 0 * 3 = 0 from rfl] at hx143_0); (try rw [Addr.add_zero'] at hx143_0); (try rw [show ((0 : Int)).toNat = 0 from rfl] at hx143_1); (try rw [show 0 * 3 = 0 from rfl] at hx143_1); (try rw [Addr.add_zero'] at hx143_1); (try rw [show ((0 : Int)).toNat = 0 from rfl] at hx143_2); (try rw [show 0 * 3 = 0 from rfl] at hx143_2); (try rw [Addr.add_zero'] at hx143_2); have HR143_1 := Aside0.mk hi143_1; have HC143_1 := Aside0.mk hl143_1; clear hi143_1 hl143_1; have HR143_2 := Aside0.mk hi143_2; have HC143_2 := Aside0.mk hl143_2; clear hi143_2 hl143_2; replace p143 := eq_true p143; replace q143 := eq_true q143; have ea_ := Option.some.inj (hx135_1.symm.trans hx143_1); injection ea_ with ea_ en_ ec_; subst ea_; subst ec_; clear en_; have ea_ := Option.some.inj (hx135_2.symm.trans hx143_2); injection ea_ with ea_ en_ ec_; subst ea_; subst ec_; clear en_; have p144 : 0 ≤ (x4_2 : Int) := of_decide_eq_true (by first | (with_reducible assumption) | assumption); have q144 : x4_2 < (((rd_T27 l0 0).f2).length : Int) := of_decide_eq_true (by first | (with_reducible assumption) | assumption); obtain ⟨ad144, e144, hx144_0⟩ := Kd.at_int HR143_2.out x4_2 p144 q144; cases e144; replace p144 := eq_true p144; replace q144 := eq_true q144) | (go_at_call 53; (with_reducible refine (spec_l00In.calls (rd ((rd_T27 l0 0).f2) x4_2) 2 3 true _ A21.out).mono ?_); rintro e w' ⟨rfl, ⟨nd, rfl⟩⟩))
                            go_roundg k2
                            case measure => have := HJ1.out; have := HK2.out; omega
                            case rel => exact ⟨(wrap64 (x4_2 + 1)), (by first | rfl | (simp; done) | (simp [*]; done)), H', ⟨by have := HJ1.out; have := HK2.out; omega⟩, by repeat (first | exact Drawn0.refl _ | apply Drawn0.step)⟩
                          · replace c22 := Bool.eq_false_iff.mpr c22
                            subst c22
                            have H1 : (some false) = some r := by rw [if_neg (show ¬ (false = true) by decide)] at H; exact H
                            clear H
                            have H := H1
                            clear H1
                            obtain rfl := Option.some.inj H
                            have p135 : 0 ≤ (0 : Int) := (by omega)
                            have q135 : 0 < (l0.length : Int) := of_decide_eq_true (by first | (with_reducible assumption) | assumption)
                            obtain ⟨ad135, A135_1, c135_1, A135_2, c135_2, e135, hx135_0, hx135_1, hx135_2, hl135_1, hi135_1, hl135_2, hi135_2⟩ := at_T27 HR0.out 0 p135 q135
                            obtain rfl : ad128 = ad135 := (by injection e135)
                            have qi135 : (0 < l0.length) = True := eq_true (by omega)
                            (try rw [show ((0 : Int)).toNat = 0 from rfl] at hx135_0)
                            (try rw [show 0 * 3 = 0 from rfl] at hx135_0)
                            (try rw [Addr.add_zero'] at hx135_0)
                            (try rw [show ((0 : Int)).toNat = 0 from rfl] at hx135_1)
                            (try rw [show 0 * 3 = 0 from rfl] at hx135_1)
                            (try rw [Addr.add_zero'] at hx135_1)
                            (try rw [show ((0 : Int)).toNat = 0 from rfl] at hx135_2)
                            (try rw [show 0 * 3 = 0 from rfl] at hx135_2)
                            (try rw [Addr.add_zero'] at hx135_2)
                            have HR135_1 := Aside0.mk hi135_1
                            have HC135_1 := Aside0.mk hl135_1
                            clear hi135_1 hl135_1
                            have HR135_2 := Aside0.mk hi135_2
                            have HC135_2 := Aside0.mk hl135_2
                            clear hi135_2 hl135_2
                            replace p135 := eq_true p135
                            replace q135 := eq_true q135
                            have p136 : 0 ≤ (x4_2 : Int) := of_decide_eq_true (by first | (with_reducible assumption) | assumption)
                            have q136 : x4_2 < (((rd_T27 l0 0).f1).length : Int) := of_decide_eq_true (by first | (with_reducible assumption) | assumption)
                            obtain ⟨ad136, e136, hx136_0⟩ := Kd.at_int HR135_1.out x4_2 p136 q136
                            cases e136
                            replace p136 := eq_true p136
                            replace q136 := eq_true q136
                            go_wp2_with (first | ((with_reducible refine gate_callee (f := 53) rfl ?_); refine goesL_ (some 42) rfl rfl Try.func53 (by kernel_rfl) rfl #[.int .i64 (rd ((rd_T27 l0 0).f1) x4_2), .int .i64 1, .int .i64 16] rfl (by (try simp only [List.map_toArray, List.map_cons, List.map_nil]); first | done | rfl | (simp only [List.length_drop, List.length_take]; rfl)) ?_; (with_reducible refine (spec_l00In.calls (rd ((rd_T27 l0 0).f1) x4_2) 1 16 true _ A11.out).mono ?_); rintro e w' ⟨rfl, ⟨nd, rfl⟩⟩; refine ⟨_, rfl, ?_⟩; have p143 : 0 ≤ (0 : Int) := (by omega); have q143 : 0 < (l0.length : Int) := of_decide_eq_true (by first | (with_reducible assumption) | assumption); obtain ⟨ad143, A143_1, c143_1, A143_2, c143_2, e143, hx143_0, hx143_1, hx143_2, hl143_1, hi143_1, hl143_2, hi143_2⟩ := at_T27 HR0.out 0 p143 q143; obtain rfl : ad128 = ad143 := (by injection e143); have qi143 : (0 < l0.length) = True := eq_true (by omega); (try rw [show ((0 : Int)).toNat = 0 from rfl] at hx143_0); (try rw [show 0 * 3 = 0 from rfl] at hx143_0); (try rw [Addr.add_zero'] at hx143_0); (try rw [show ((0 : Int)).toNat = 0 from rfl] at hx143_1); (try rw [show 0 * 3 = 0 from rfl] at hx143_1); (try rw [Addr.add_zero'] at hx143_1); (try rw [show ((0 : Int)).toNat = 0 from rfl] at hx143_2); (try rw [show 0 * 3 = 0 from rfl] at hx143_2); (try rw [Addr.add_zero'] at hx143_2); have HR143_1 := Aside0.mk hi143_1; have HC143_1 := Aside0.mk hl143_1; clear hi143_1 hl143_1; have HR143_2 := Aside0.mk hi143_2; have HC143_2 := Aside0.mk hl143_2; clear hi143_2 hl143_2; replace p143 := eq_true p143; replace q143 := eq_true q143; have ea_ := Option.some.inj (hx135_1.symm.trans hx143_1); injection ea_ with ea_ en_ ec_; subst ea_; subst ec_; clear en_; have ea_ := Option.some.inj (hx135_2.symm.trans hx143_2); injection ea_ with ea_ en_ ec_; subst ea_; subst ec_; clear en_; have p144 : 0 ≤ (x4_2 : Int) := of_decide_eq_true (by first | (with_reducible assumption) | assumption); have q144 : x4_2 < (((rd_T27 l0 0).f2).length : Int) := of_decide_eq_true (by first | (with_reducible assumption) | assumption); obtain ⟨ad144, e144, hx144_0⟩ := Kd.at_int HR143_2.out x4_2 p144 q144; cases e144; replace p144 := eq_true p144; replace q144 := eq_true q144) | (go_at_call 53; (with_reducible refine (spec_l00In.calls (rd ((rd_T27 l0 0).f2) x4_2) 2 3 false _ A21.out).mono ?_); rintro e w' ⟨rfl, ⟨nd, rfl⟩⟩))
                            go_ret
                            exact ⟨by first | rfl | (simp; done) | (simp [*]; done), by repeat (first | exact Drawn0.refl _ | apply Drawn0.step)⟩
                        · rw [if_neg c20] at H
                          exact absurd H (by simp)
                      · rw [if_neg c19] at H
                        have c19b0 : decide (0 < x4_2) = false := decide_eq_false c19
                        clear c19
                        have H' := Aside0.mk H
                        clear H
                        have p135 : 0 ≤ (0 : Int) := (by omega)
                        have q135 : 0 < (l0.length : Int) := of_decide_eq_true (by first | (with_reducible assumption) | assumption)
                        obtain ⟨ad135, A135_1, c135_1, A135_2, c135_2, e135, hx135_0, hx135_1, hx135_2, hl135_1, hi135_1, hl135_2, hi135_2⟩ := at_T27 HR0.out 0 p135 q135
                        obtain rfl : ad128 = ad135 := (by injection e135)
                        have qi135 : (0 < l0.length) = True := eq_true (by omega)
                        (try rw [show ((0 : Int)).toNat = 0 from rfl] at hx135_0)
                        (try rw [show 0 * 3 = 0 from rfl] at hx135_0)
                        (try rw [Addr.add_zero'] at hx135_0)
                        (try rw [show ((0 : Int)).toNat = 0 from rfl] at hx135_1)
                        (try rw [show 0 * 3 = 0 from rfl] at hx135_1)
                        (try rw [Addr.add_zero'] at hx135_1)
                        (try rw [show ((0 : Int)).toNat = 0 from rfl] at hx135_2)
                        (try rw [show 0 * 3 = 0 from rfl] at hx135_2)
                        (try rw [Addr.add_zero'] at hx135_2)
                        have HR135_1 := Aside0.mk hi135_1
                        have HC135_1 := Aside0.mk hl135_1
                        clear hi135_1 hl135_1
                        have HR135_2 := Aside0.mk hi135_2
                        have HC135_2 := Aside0.mk hl135_2
                        clear hi135_2 hl135_2
                        replace p135 := eq_true p135
                        replace q135 := eq_true q135
                        have p136 : 0 ≤ (x4_2 : Int) := of_decide_eq_true (by first | (with_reducible assumption) | assumption)
                        have q136 : x4_2 < (((rd_T27 l0 0).f1).length : Int) := of_decide_eq_true (by first | (with_reducible assumption) | assumption)
                        obtain ⟨ad136, e136, hx136_0⟩ := Kd.at_int HR135_1.out x4_2 p136 q136
                        cases e136
                        replace p136 := eq_true p136
                        replace q136 := eq_true q136
                        go_wp2_with (first | ((with_reducible refine gate_callee (f := 53) rfl ?_); refine goesL_ (some 42) rfl rfl Try.func53 (by kernel_rfl) rfl #[.int .i64 (rd ((rd_T27 l0 0).f1) x4_2), .int .i64 1, .int .i64 16] rfl (by (try simp only [List.map_toArray, List.map_cons, List.map_nil]); first | done | rfl | (simp only [List.length_drop, List.length_take]; rfl)) ?_; (with_reducible refine (spec_l00In.calls (rd ((rd_T27 l0 0).f1) x4_2) 1 16 true _ A11.out).mono ?_); rintro e w' ⟨rfl, ⟨nd, rfl⟩⟩; refine ⟨_, rfl, ?_⟩))
                        go_roundg k2
                        case measure => have := HJ1.out; have := HK2.out; omega
                        case rel => exact ⟨(wrap64 (x4_2 + 1)), (by first | rfl | (simp; done) | (simp [*]; done)), H', ⟨by have := HJ1.out; have := HK2.out; omega⟩, by repeat (first | exact Drawn0.refl _ | apply Drawn0.step)⟩
                  · replace c12 := Bool.eq_false_iff.mpr c12
                    subst c12
                    have H1 : (some false) = some r := by rw [if_neg (show ¬ (false = true) by decide)] at H; exact H
                    clear H
                    have H := H1
                    clear H1
                    obtain rfl := Option.some.inj H
                    have p135 : 0 ≤ (0 : Int) := (by omega)
                    have q135 : 0 < (l0.length : Int) := of_decide_eq_true (by first | (with_reducible assumption) | assumption)
                    obtain ⟨ad135, A135_1, c135_1, A135_2, c135_2, e135, hx135_0, hx135_1, hx135_2, hl135_1, hi135_1, hl135_2, hi135_2⟩ := at_T27 HR0.out 0 p135 q135
                    obtain rfl : ad128 = ad135 := (by injection e135)
                    have qi135 : (0 < l0.length) = True := eq_true (by omega)
                    (try rw [show ((0 : Int)).toNat = 0 from rfl] at hx135_0)
                    (try rw [show 0 * 3 = 0 from rfl] at hx135_0)
                    (try rw [Addr.add_zero'] at hx135_0)
                    (try rw [show ((0 : Int)).toNat = 0 from rfl] at hx135_1)
                    (try rw [show 0 * 3 = 0 from rfl] at hx135_1)
                    (try rw [Addr.add_zero'] at hx135_1)
                    (try rw [show ((0 : Int)).toNat = 0 from rfl] at hx135_2)
                    (try rw [show 0 * 3 = 0 from rfl] at hx135_2)
                    (try rw [Addr.add_zero'] at hx135_2)
                    have HR135_1 := Aside0.mk hi135_1
                    have HC135_1 := Aside0.mk hl135_1
                    clear hi135_1 hl135_1
                    have HR135_2 := Aside0.mk hi135_2
                    have HC135_2 := Aside0.mk hl135_2
                    clear hi135_2 hl135_2
                    replace p135 := eq_true p135
                    replace q135 := eq_true q135
                    have p136 : 0 ≤ (x4_2 : Int) := of_decide_eq_true (by first | (with_reducible assumption) | assumption)
                    have q136 : x4_2 < (((rd_T27 l0 0).f1).length : Int) := of_decide_eq_true (by first | (with_reducible assumption) | assumption)
                    obtain ⟨ad136, e136, hx136_0⟩ := Kd.at_int HR135_1.out x4_2 p136 q136
                    cases e136
                    replace p136 := eq_true p136
                    replace q136 := eq_true q136
                    go_wp2_with (first | ((with_reducible refine gate_callee (f := 53) rfl ?_); refine goesL_ (some 42) rfl rfl Try.func53 (by kernel_rfl) rfl #[.int .i64 (rd ((rd_T27 l0 0).f1) x4_2), .int .i64 1, .int .i64 16] rfl (by (try simp only [List.map_toArray, List.map_cons, List.map_nil]); first | done | rfl | (simp only [List.length_drop, List.length_take]; rfl)) ?_; (with_reducible refine (spec_l00In.calls (rd ((rd_T27 l0 0).f1) x4_2) 1 16 false _ A11.out).mono ?_); rintro e w' ⟨rfl, ⟨nd, rfl⟩⟩; refine ⟨_, rfl, ?_⟩))
                    go_ret
                    exact ⟨by first | rfl | (simp; done) | (simp [*]; done), by repeat (first | exact Drawn0.refl _ | apply Drawn0.step)⟩
                · rw [if_neg c10] at H
                  exact absurd H (by simp)
              · rw [if_neg c9] at H
                exact absurd H (by simp)
            · rw [if_neg c8] at H
              have c8b0 : decide (x4_2 < (((rd_T27 l0 0).f1).length : Int)) = false := decide_eq_false c8
              clear c8
              replace H := Option.bind_eq_some_iff.mp H
              obtain ⟨t134, A230, H⟩ := H
              replace H : (some (decide (t134 ≤ 32))) = some r := H
              have A23 := Aside0.mk A230
              clear A230
              obtain rfl := Option.some.inj H
              have p133 : 0 ≤ (0 : Int) := (by omega)
              have q133 : 0 < (l0.length : Int) := of_decide_eq_true (by first | (with_reducible assumption) | assumption)
              obtain ⟨ad133, A133_1, c133_1, A133_2, c133_2, e133, hx133_0, hx133_1, hx133_2, hl133_1, hi133_1, hl133_2, hi133_2⟩ := at_T27 HR0.out 0 p133 q133
              obtain rfl : ad128 = ad133 := (by injection e133)
              have qi133 : (0 < l0.length) = True := eq_true (by omega)
              (try rw [show ((0 : Int)).toNat = 0 from rfl] at hx133_0)
              (try rw [show 0 * 3 = 0 from rfl] at hx133_0)
              (try rw [Addr.add_zero'] at hx133_0)
              (try rw [show ((0 : Int)).toNat = 0 from rfl] at hx133_1)
              (try rw [show 0 * 3 = 0 from rfl] at hx133_1)
              (try rw [Addr.add_zero'] at hx133_1)
              (try rw [show ((0 : Int)).toNat = 0 from rfl] at hx133_2)
              (try rw [show 0 * 3 = 0 from rfl] at hx133_2)
              (try rw [Addr.add_zero'] at hx133_2)
              have HR133_1 := Aside0.mk hi133_1
              have HC133_1 := Aside0.mk hl133_1
              clear hi133_1 hl133_1
              have HR133_2 := Aside0.mk hi133_2
              have HC133_2 := Aside0.mk hl133_2
              clear hi133_2 hl133_2
              replace p133 := eq_true p133
              replace q133 := eq_true q133
              go_wp2_with (first | ((with_reducible refine gate_callee (f := 87) rfl ?_); refine goesL_ (some 75) rfl rfl Try.func87 (by kernel_rfl) rfl #[.slice A133_1 ((rd_T27 l0 0).f1).length c133_1] rfl (by (try simp only [List.map_toArray, List.map_cons, List.map_nil]); first | done | rfl | (simp only [List.length_drop, List.length_take]; rfl)) ?_; (with_reducible refine (spec_l17Sum.calls k2 _ _ ((rd_T27 l0 0).f1) t134 _ ?side1 ?side2 A23.out).mono ?_); (case side1 => repeat (first | exact HR133_1.out | (with_reducible refine Kd.C_alloc ?_ _) | (with_reducible refine Kd.C_drewN ?_ _) | (with_reducible refine Kd.C_drew ?_))); (case side2 => exact HC133_1.out); rintro e w' ⟨rfl, ⟨nd, rfl⟩⟩; refine ⟨_, rfl, ?_⟩))
              go_ret
              exact ⟨by first | rfl | (simp; done) | (simp [*]; done), by repeat (first | exact Drawn0.refl _ | apply Drawn0.step)⟩

end Go.Proofs.Ythimhjghepdccaa.PB
