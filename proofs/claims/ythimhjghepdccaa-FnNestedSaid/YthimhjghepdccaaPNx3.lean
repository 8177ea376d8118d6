-- WRITTEN BY wip/gprint.py, a program of this session's over the kit's print, with contracts given by hand
import Derived.Test.YthimhjghepdccaaPNx0
import Derived.Test.YthimhjghepdccaaPNx1
import Derived.Test.YthimhjghepdccaaPNx2
namespace Go.Proofs.Ythimhjghepdccaa.PN
open Go.RowKit Go.Proofs.YthimhjghepdccaaW.PrintWords Go.Proofs.YthimhjghepdccaaW.PrintLast Go.Proofs.YthimhjghepdccaaW.PrintMore
attribute [local go_sem] max2_int min2_int max_two min_two max_three min_three max_four min_four   -- for this text's walks alone
set_option linter.unusedVariables false
set_option linter.unusedSimpArgs false

/-! ### spec_l17Ok: function 78 -/
mutual
def spec_l17Ok.j0 : Nat → List (S27) → Int → Bool → Option (Bool)
  | 0, _, _, _ => none
  | k + 1, x0, x3, x29 => if x29 = true then (some false) else (spec_l17Ok.l0 k x0 x3 0)
def spec_l17Ok.l0 : Nat → List (S27) → Int → Int → Option (Bool)
  | 0, _, _, _ => none
  | k + 1, x0, x3, x4 => if x4 < x3 then (if 0 ≤ x4 then (if x4 < (((rd_T27 x0 0).f1).length : Int) then ((spec_l00In.f (rd ((rd_T27 x0 0).f1) x4) 1 16).bind fun t114 => (if t114 = true then (if x4 = 0 then (if x4 < (((rd_T27 x0 0).f2).length : Int) then (if (rd ((rd_T27 x0 0).f2) x4) = 1 then (if x4 > 0 then ((spec_l00In.f (rd ((rd_T27 x0 0).f2) x4) 2 3).bind fun t119 => (if t119 = true then (spec_l17Ok.l0 k x0 x3 (wrap64 (x4 + 1))) else (some false))) else (spec_l17Ok.l0 k x0 x3 (wrap64 (x4 + 1)))) else (some false)) else (none)) else (if x4 > 0 then (if x4 < (((rd_T27 x0 0).f2).length : Int) then ((spec_l00In.f (rd ((rd_T27 x0 0).f2) x4) 2 3).bind fun t122 => (if t122 = true then (spec_l17Ok.l0 k x0 x3 (wrap64 (x4 + 1))) else (some false))) else (none)) else (spec_l17Ok.l0 k x0 x3 (wrap64 (x4 + 1))))) else (some false))) else (none)) else (none)) else ((spec_l17Sum.f k ((rd_T27 x0 0).f1)).bind fun t111 => (some (decide (t111 ≤ 32))))
end
def spec_l17Ok.f (k : Nat) (l0 : List (S27)) : Option (Bool) := (spec_l01Name.f k ((rd_T27 l0 0).f0)).bind fun t107 => (if t107 = true then ((spec_l00In.f (((rd_T27 l0 0).f1).length : Int) 1 8).bind fun t108 => (if t108 = true then (spec_l17Ok.j0 k l0 (((rd_T27 l0 0).f1).length : Int) ((((rd_T27 l0 0).f2).length : Int) != (((rd_T27 l0 0).f1).length : Int))) else (spec_l17Ok.j0 k l0 (((rd_T27 l0 0).f1).length : Int) true))) else (spec_l17Ok.j0 k l0 (((rd_T27 l0 0).f1).length : Int) true))
theorem spec_l17Ok.mono_l : ∀ k, (∀ y0 y1 y2, LeO (spec_l17Ok.j0 k y0 y1 y2) (spec_l17Ok.j0 (k + 1) y0 y1 y2)) ∧ (∀ y0 y1 y2, LeO (spec_l17Ok.l0 k y0 y1 y2) (spec_l17Ok.l0 (k + 1) y0 y1 y2))
  | 0 => ⟨fun _ _ _ r h => by simp [spec_l17Ok.j0] at h, fun _ _ _ r h => by simp [spec_l17Ok.l0] at h⟩
  | k + 1 => by
    obtain ⟨ih0, ih1⟩ := spec_l17Ok.mono_l k
    refine ⟨?_, ?_⟩
    · intro y0 y1 y2
      unfold spec_l17Ok.j0
      repeat' first
      | (with_reducible exact ih0 _ _ _)
      | (with_reducible exact ih1 _ _ _)
      | (with_reducible exact spec_l01Name.mono _ _)
      | (with_reducible exact spec_l17Sum.mono _ _)
      | (with_reducible exact LeO.refl _)
      | (with_reducible exact LeO.none _)
      | (with_reducible refine LeO.ite ?_ ?_)
      | (with_reducible refine LeO.bind ?_ (fun _ => ?_))
      | exact ih0 _ _ _
      | exact ih1 _ _ _
      | exact spec_l01Name.mono _ _
      | exact spec_l17Sum.mono _ _
      | exact LeO.none _
      | refine LeO.ite ?_ ?_
      | refine LeO.bind ?_ (fun _ => ?_)
    · intro y0 y1 y2
      unfold spec_l17Ok.l0
      repeat' first
      | (with_reducible exact ih0 _ _ _)
      | (with_reducible exact ih1 _ _ _)
      | (with_reducible exact spec_l01Name.mono _ _)
      | (with_reducible exact spec_l17Sum.mono _ _)
      | (with_reducible exact LeO.refl _)
      | (with_reducible exact LeO.none _)
      | (with_reducible refine LeO.ite ?_ ?_)
      | (with_reducible refine LeO.bind ?_ (fun _ => ?_))
      | exact ih0 _ _ _
      | exact ih1 _ _ _
      | exact spec_l01Name.mono _ _
      | exact spec_l17Sum.mono _ _
      | exact LeO.none _
      | refine LeO.ite ?_ ?_
      | refine LeO.bind ?_ (fun _ => ?_)
theorem spec_l17Ok.mono : ∀ a0 k, LeO (spec_l17Ok.f k a0) (spec_l17Ok.f (k + 1) a0) := by
  intro a0 k
  obtain ⟨ih0, ih1⟩ := spec_l17Ok.mono_l k
  unfold spec_l17Ok.f
  repeat' first
      | (with_reducible exact ih0 _ _ _)
      | (with_reducible exact ih1 _ _ _)
      | (with_reducible exact spec_l01Name.mono _ _)
      | (with_reducible exact spec_l17Sum.mono _ _)
      | (with_reducible exact LeO.refl _)
      | (with_reducible exact LeO.none _)
      | (with_reducible refine LeO.ite ?_ ?_)
      | (with_reducible refine LeO.bind ?_ (fun _ => ?_))
      | exact ih0 _ _ _
      | exact ih1 _ _ _
      | exact spec_l01Name.mono _ _
      | exact spec_l17Sum.mono _ _
      | exact LeO.none _
      | refine LeO.ite ?_ ?_
      | refine LeO.bind ?_ (fun _ => ?_)
set_option maxHeartbeats 8000000 in
set_option maxRecDepth 100000 in
theorem spec_l17Ok.calls (k : Nat) (A0 : Option Addr) (l0 : List (S27)) (r : Bool) (w : World) (hr0 : Kd.C k27 w A0 l0.length l0) (hn0 : 0 < l0.length) (h : spec_l17Ok.f k l0 = some r) :
    Calls Try.prog 78 #[.pointer A0] w fun e w' => e = .returned (.bool r) ∧ Drawn0 w w' := by
  have HR0 := Aside0.mk hr0
  clear hr0
  have HN0 := Aside0.mk hn0
  have hn0b0 : decide ((0 : Int) < (l0.length : Int)) = true := decide_eq_true (Int.ofNat_lt.2 hn0)
  have hn0b1 : decide (0 < l0.length) = true := decide_eq_true hn0
  clear hn0
  have H : ((spec_l01Name.f k ((rd_T27 l0 0).f0)).bind fun t107 => (if t107 = true then ((spec_l00In.f (((rd_T27 l0 0).f1).length : Int) 1 8).bind fun t108 => (if t108 = true then (spec_l17Ok.j0 k l0 (((rd_T27 l0 0).f1).length : Int) ((((rd_T27 l0 0).f2).length : Int) != (((rd_T27 l0 0).f1).length : Int))) else (spec_l17Ok.j0 k l0 (((rd_T27 l0 0).f1).length : Int) true))) else (spec_l17Ok.j0 k l0 (((rd_T27 l0 0).f1).length : Int) true))) = some r := h
  clear h
  have HC2 := Aside0.mk H
  clear H
  have p105 : 0 ≤ (0 : Int) := (by omega)
  have q105 : 0 < (l0.length : Int) := of_decide_eq_true (by first | (with_reducible assumption) | assumption)
  obtain ⟨ad105, A105_1, c105_1, A105_2, c105_2, e105, hx105_0, hx105_1, hx105_2, hl105_1, hi105_1, hl105_2, hi105_2⟩ := at_T27 HR0.out 0 p105 q105
  cases e105
  have qi105 : (0 < l0.length) = True := eq_true (by omega)
  (try rw [show ((0 : Int)).toNat = 0 from rfl] at hx105_0)
  (try rw [show 0 * 3 = 0 from rfl] at hx105_0)
  (try rw [Addr.add_zero'] at hx105_0)
  (try rw [show ((0 : Int)).toNat = 0 from rfl] at hx105_1)
  (try rw [show 0 * 3 = 0 from rfl] at hx105_1)
  (try rw [Addr.add_zero'] at hx105_1)
  (try rw [show ((0 : Int)).toNat = 0 from rfl] at hx105_2)
  (try rw [show 0 * 3 = 0 from rfl] at hx105_2)
  (try rw [Addr.add_zero'] at hx105_2)
  have HR105_1 := Aside0.mk hi105_1
  have HC105_1 := Aside0.mk hl105_1
  clear hi105_1 hl105_1
  have HR105_2 := Aside0.mk hi105_2
  have HC105_2 := Aside0.mk hl105_2
  clear hi105_2 hl105_2
  replace p105 := eq_true p105
  replace q105 := eq_true q105
  go_enter Try.func78, Try.ntmps78
  go_upto_region 2 with (fail)
  go_cut [29] (fun v29 wc => ∃ (kq : Nat) (x29_1 : Bool), v29 = .bool x29_1 ∧ Aside0 (spec_l17Ok.j0 kq l0 (((rd_T27 l0 0).f1).length : Int) x29_1 = some r) ∧ Aside0 (kq ≤ k) ∧ Drawn0 w wc)
  case first =>
    have H := HC2.out
    clear HC2
    replace H := Option.bind_eq_some_iff.mp H
    obtain ⟨t107, A30, H⟩ := H
    replace H : (if t107 = true then ((spec_l00In.f (((rd_T27 l0 0).f1).length : Int) 1 8).bind fun t108 => (if t108 = true then (spec_l17Ok.j0 k l0 (((rd_T27 l0 0).f1).length : Int) ((((rd_T27 l0 0).f2).length : Int) != (((rd_T27 l0 0).f1).length : Int))) else (spec_l17Ok.j0 k l0 (((rd_T27 l0 0).f1).length : Int) true))) else (spec_l17Ok.j0 k l0 (((rd_T27 l0 0).f1).length : Int) true)) = some r := H
    have A3 := Aside0.mk A30
    clear A30
    by_cases c4 : t107 = true
    · subst c4
      have H1 : ((spec_l00In.f (((rd_T27 l0 0).f1).length : Int) 1 8).bind fun t108 => (if t108 = true then (spec_l17Ok.j0 k l0 (((rd_T27 l0 0).f1).length : Int) ((((rd_T27 l0 0).f2).length : Int) != (((rd_T27 l0 0).f1).length : Int))) else (spec_l17Ok.j0 k l0 (((rd_T27 l0 0).f1).length : Int) true))) = some r := by rw [if_pos rfl] at H; exact H
      clear H
      have H := H1
      clear H1
      replace H := Option.bind_eq_some_iff.mp H
      obtain ⟨t108, A50, H⟩ := H
      replace H : (if t108 = true then (spec_l17Ok.j0 k l0 (((rd_T27 l0 0).f1).length : Int) ((((rd_T27 l0 0).f2).length : Int) != (((rd_T27 l0 0).f1).length : Int))) else (spec_l17Ok.j0 k l0 (((rd_T27 l0 0).f1).length : Int) true)) = some r := H
      have A5 := Aside0.mk A50
      clear A50
      by_cases c6 : t108 = true
      · subst c6
        have H1 : (spec_l17Ok.j0 k l0 (((rd_T27 l0 0).f1).length : Int) ((((rd_T27 l0 0).f2).length : Int) != (((rd_T27 l0 0).f1).length : Int))) = some r := by rw [if_pos rfl] at H; exact H
        clear H
        have H := H1
        clear H1
        have H' := Aside0.mk H
        clear H
        have p106 : 0 ≤ (0 : Int) := (by omega)
        have q106 : 0 < (l0.length : Int) := of_decide_eq_true (by first | (with_reducible assumption) | assumption)
        obtain ⟨ad106, A106_1, c106_1, A106_2, c106_2, e106, hx106_0, hx106_1, hx106_2, hl106_1, hi106_1, hl106_2, hi106_2⟩ := at_T27 HR0.out 0 p106 q106
        obtain rfl : ad105 = ad106 := (by injection e106)
        have qi106 : (0 < l0.length) = True := eq_true (by omega)
        (try rw [show ((0 : Int)).toNat = 0 from rfl] at hx106_0)
        (try rw [show 0 * 3 = 0 from rfl] at hx106_0)
        (try rw [Addr.add_zero'] at hx106_0)
        (try rw [show ((0 : Int)).toNat = 0 from rfl] at hx106_1)
        (try rw [show 0 * 3 = 0 from rfl] at hx106_1)
        (try rw [Addr.add_zero'] at hx106_1)
        (try rw [show ((0 : Int)).toNat = 0 from rfl] at hx106_2)
        (try rw [show 0 * 3 = 0 from rfl] at hx106_2)
        (try rw [Addr.add_zero'] at hx106_2)
        have HR106_1 := Aside0.mk hi106_1
        have HC106_1 := Aside0.mk hl106_1
        clear hi106_1 hl106_1
        have HR106_2 := Aside0.mk hi106_2
        have HC106_2 := Aside0.mk hl106_2
        clear hi106_2 hl106_2
        replace p106 := eq_true p106
        replace q106 := eq_true q106
        go_wp2_with (first | ((with_reducible refine gate_callee (f := 86) rfl ?_); refine goesL_ (some 14) rfl rfl Try.func86 (by kernel_rfl) rfl #[.string ((rd_T27 l0 0).f0)] rfl (by (try simp only [List.map_toArray, List.map_cons, List.map_nil]); first | done | rfl | (simp only [List.length_drop, List.length_take]; rfl)) ?_; (with_reducible refine (spec_l01Name.calls k ((rd_T27 l0 0).f0) true _ A3.out).mono ?_); rintro e w' ⟨rfl, ⟨nd, rfl⟩⟩; refine ⟨_, rfl, ?_⟩) | (go_at_call 53; (with_reducible refine (spec_l00In.calls (((rd_T27 l0 0).f1).length : Int) 1 8 true _ A5.out).mono ?_); rintro e w' ⟨rfl, ⟨nd, rfl⟩⟩; have p109 : 0 ≤ (0 : Int) := (by omega); have q109 : 0 < (l0.length : Int) := of_decide_eq_true (by first | (with_reducible assumption) | assumption); obtain ⟨ad109, A109_1, c109_1, A109_2, c109_2, e109, hx109_0, hx109_1, hx109_2, hl109_1, hi109_1, hl109_2, hi109_2⟩ := at_T27 HR0.out 0 p109 q109; obtain rfl : ad105 = ad109 := (by injection e109); have qi109 : (0 < l0.length) = True := eq_true (by omega); (try rw [show ((0 : Int)).toNat = 0 from rfl] at hx109_0); (try rw [show 0 * 3 = 0 from rfl] at hx109_0); (try rw [Addr.add_zero'] at hx109_0); (try rw [show ((0 : Int)).toNat = 0 from rfl] at hx109_1); (try rw [show 0 * 3 = 0 from rfl] at hx109_1); (try rw [Addr.add_zero'] at hx109_1); (try rw [show ((0 : Int)).toNat = 0 from rfl] at hx109_2); (try rw [show 0 * 3 = 0 from rfl] at hx109_2); (try rw [Addr.add_zero'] at hx109_2); have HR109_1 := Aside0.mk hi109_1; have HC109_1 := Aside0.mk hl109_1; clear hi109_1 hl109_1; have HR109_2 := Aside0.mk hi109_2; have HC109_2 := Aside0.mk hl109_2; clear hi109_2 hl109_2; replace p109 := eq_true p109; replace q109 := eq_true q109; have ea_ := Option.some.inj (hx106_1.symm.trans hx109_1); injection ea_ with ea_ en_ ec_; subst ea_; subst ec_; clear en_; have ea_ := Option.some.inj (hx106_2.symm.trans hx109_2); injection ea_ with ea_ en_ ec_; subst ea_; subst ec_; clear en_))
        go_meet
        case rel => exact ⟨_, (((((rd_T27 l0 0).f2).length : Int) != (((rd_T27 l0 0).f1).length : Int))), (by first | rfl | (simp; done) | (simp [*]; done)), H', ⟨by first | omega | exact Nat.le_refl _⟩, by repeat (first | exact Drawn0.refl _ | apply Drawn0.step)⟩
      · replace c6 := Bool.eq_false_iff.mpr c6
        subst c6
        have H1 : (spec_l17Ok.j0 k l0 (((rd_T27 l0 0).f1).length : Int) true) = some r := by rw [if_neg (show ¬ (false = true) by decide)] at H; exact H
        clear H
        have H := H1
        clear H1
        have H' := Aside0.mk H
        clear H
        have p106 : 0 ≤ (0 : Int) := (by omega)
        have q106 : 0 < (l0.length : Int) := of_decide_eq_true (by first | (with_reducible assumption) | assumption)
        obtain ⟨ad106, A106_1, c106_1, A106_2, c106_2, e106, hx106_0, hx106_1, hx106_2, hl106_1, hi106_1, hl106_2, hi106_2⟩ := at_T27 HR0.out 0 p106 q106
        obtain rfl : ad105 = ad106 := (by injection e106)
        have qi106 : (0 < l0.length) = True := eq_true (by omega)
        (try rw [show ((0 : Int)).toNat = 0 from rfl] at hx106_0)
        (try rw [show 0 * 3 = 0 from rfl] at hx106_0)
        (try rw [Addr.add_zero'] at hx106_0)
        (try rw [show ((0 : Int)).toNat = 0 from rfl] at hx106_1)
        (try rw [show 0 * 3 = 0 from rfl] at hx106_1)
        (try rw [Addr.add_zero'] at hx106_1)
        (try rw [show ((0 : Int)).toNat = 0 from rfl] at hx106_2)
        (try rw [show 0 * 3 = 0 from rfl] at hx106_2)
        (try rw [Addr.add_zero'] at hx106_2)
        have HR106_1 := Aside0.mk hi106_1
        have HC106_1 := Aside0.mk hl106_1
        clear hi106_1 hl106_1
        have HR106_2 := Aside0.mk hi106_2
        have HC106_2 := Aside0.mk hl106_2
        clear hi106_2 hl106_2
        replace p106 := eq_true p106
        replace q106 := eq_true q106
        go_wp2_with (first | ((with_reducible refine gate_callee (f := 86) rfl ?_); refine goesL_ (some 14) rfl rfl Try.func86 (by kernel_rfl) rfl #[.string ((rd_T27 l0 0).f0)] rfl (by (try simp only [List.map_toArray, List.map_cons, List.map_nil]); first | done | rfl | (simp only [List.length_drop, List.length_take]; rfl)) ?_; (with_reducible refine (spec_l01Name.calls k ((rd_T27 l0 0).f0) true _ A3.out).mono ?_); rintro e w' ⟨rfl, ⟨nd, rfl⟩⟩; refine ⟨_, rfl, ?_⟩) | (go_at_call 53; (with_reducible refine (spec_l00In.calls (((rd_T27 l0 0).f1).length : Int) 1 8 false _ A5.out).mono ?_); rintro e w' ⟨rfl, ⟨nd, rfl⟩⟩))
        go_meet
        case rel => exact ⟨_, (true), (by first | rfl | (simp; done) | (simp [*]; done)), H', ⟨by first | omega | exact Nat.le_refl _⟩, by repeat (first | exact Drawn0.refl _ | apply Drawn0.step)⟩
    · replace c4 := Bool.eq_false_iff.mpr c4
      subst c4
      have H1 : (spec_l17Ok.j0 k l0 (((rd_T27 l0 0).f1).length : Int) true) = some r := by rw [if_neg (show ¬ (false = true) by decide)] at H; exact H
      clear H
      have H := H1
      clear H1
      have H' := Aside0.mk H
      clear H
      have p106 : 0 ≤ (0 : Int) := (by omega)
      have q106 : 0 < (l0.length : Int) := of_decide_eq_true (by first | (with_reducible assumption) | assumption)
      obtain ⟨ad106, A106_1, c106_1, A106_2, c106_2, e106, hx106_0, hx106_1, hx106_2, hl106_1, hi106_1, hl106_2, hi106_2⟩ := at_T27 HR0.out 0 p106 q106
      obtain rfl : ad105 = ad106 := (by injection e106)
      have qi106 : (0 < l0.length) = True := eq_true (by omega)
      (try rw [show ((0 : Int)).toNat = 0 from rfl] at hx106_0)
      (try rw [show 0 * 3 = 0 from rfl] at hx106_0)
      (try rw [Addr.add_zero'] at hx106_0)
      (try rw [show ((0 : Int)).toNat = 0 from rfl] at hx106_1)
      (try rw [show 0 * 3 = 0 from rfl] at hx106_1)
      (try rw [Addr.add_zero'] at hx106_1)
      (try rw [show ((0 : Int)).toNat = 0 from rfl] at hx106_2)
      (try rw [show 0 * 3 = 0 from rfl] at hx106_2)
      (try rw [Addr.add_zero'] at hx106_2)
      have HR106_1 := Aside0.mk hi106_1
      have HC106_1 := Aside0.mk hl106_1
      clear hi106_1 hl106_1
      have HR106_2 := Aside0.mk hi106_2
      have HC106_2 := Aside0.mk hl106_2
      clear hi106_2 hl106_2
      replace p106 := eq_true p106
      replace q106 := eq_true q106
      go_wp2_with (first | ((with_reducible refine gate_callee (f := 86) rfl ?_); refine goesL_ (some 14) rfl rfl Try.func86 (by kernel_rfl) rfl #[.string ((rd_T27 l0 0).f0)] rfl (by (try simp only [List.map_toArray, List.map_cons, List.map_nil]); first | done | rfl | (simp only [List.length_drop, List.length_take]; rfl)) ?_; (with_reducible refine (spec_l01Name.calls k ((rd_T27 l0 0).f0) false _ A3.out).mono ?_); rintro e w' ⟨rfl, ⟨nd, rfl⟩⟩; refine ⟨_, rfl, ?_⟩))
      go_meet
      case rel => exact ⟨_, (true), (by first | rfl | (simp; done) | (simp [*]; done)), H', ⟨by first | omega | exact Nat.le_refl _⟩, by repeat (first | exact Drawn0.refl _ | apply Drawn0.step)⟩
  case rest =>
    clear HC2
    try clear c1
    try clear p1
    try clear q1
    try clear hx1
    try clear qi1
    try clear p2
    try clear c4
    try clear c6
    try clear hx105_0
    try clear hx105_1
    try clear hx105_2
    try clear hx106_0
    try clear hx106_1
    try clear hx106_2
    try clear hx109_0
    try clear hx109_1
    try clear hx109_2
    try clear p105
    try clear p106
    try clear p109
    try clear q105
    try clear q106
    try clear q109
    obtain ⟨kq, x29_1, rfl, HA, HJ1, ⟨mc1, rfl⟩⟩ := hcut
    cases kq with
    | zero => exact absurd HA.out (by simp [spec_l17Ok.j0])
    | succ kj1 =>
      have H := HA.out
      clear HA
      simp only [spec_l17Ok.j0] at H
      by_cases c7 : x29_1 = true
      · subst c7
        have H1 : (some false) = some r := by rw [if_pos rfl] at H; exact H
        clear H
        have H := H1
        clear H1
        obtain rfl := Option.some.inj H
        go_wp2
        go_ret
        exact ⟨by first | rfl | (simp; done) | (simp [*]; done), by repeat (first | exact Drawn0.refl _ | apply Drawn0.step)⟩
      · replace c7 := Bool.eq_false_iff.mpr c7
        subst c7
        have H1 : (spec_l17Ok.l0 kj1 l0 (((rd_T27 l0 0).f1).length : Int) 0) = some r := by rw [if_neg (show ¬ (false = true) by decide)] at H; exact H
        clear H
        have H := H1
        clear H1
        have H' := Aside0.mk H
        clear H
        go_wp2
        go_loopg [4] kj1 (fun kq v4 w' => ∃ (x4_2 : Int), v4 = .int .i64 x4_2 ∧ Aside0 (spec_l17Ok.l0 kq l0 (((rd_T27 l0 0).f1).length : Int) x4_2 = some r) ∧ Aside0 (kq ≤ kj1) ∧ Drawn0 w w')
        case atStart => exact ⟨(0), (by first | rfl | (simp; done) | (simp [*]; done)), H', ⟨Nat.le_refl _⟩, by repeat (first | exact Drawn0.refl _ | apply Drawn0.step)⟩
        case round =>
          clear H'
          try clear c1
          try clear p1
          try clear q1
          try clear hx1
          try clear qi1
          try clear p2
          try clear c4
          try clear c6
          try clear c7
          try clear hx105_0
          try clear hx105_1
          try clear hx105_2
          try clear hx106_0
          try clear hx106_1
          try clear hx106_2
          try clear hx109_0
          try clear hx109_1
          try clear hx109_2
          try clear p1
          try clear p105
          try clear p106
          try clear p109
          try clear p2
          try clear q1
          try clear q105
          try clear q106
          try clear q109
          obtain ⟨x4_2, rfl, HA, HK2, ⟨m2, rfl⟩⟩ := hrel
          cases gk with
          | zero => exact absurd HA.out (by simp [spec_l17Ok.l0])
          | succ k2 =>
            have H := HA.out
            clear HA
            simp only [spec_l17Ok.l0] at H
            by_cases c8 : x4_2 < (((rd_T27 l0 0).f1).length : Int)
            · rw [if_pos c8] at H
              have c8b0 : decide (x4_2 < (((rd_T27 l0 0).f1).length : Int)) = true := decide_eq_true c8
              clear c8
              by_cases c9 : 0 ≤ x4_2
              · rw [if_pos c9] at H
                have c9b0 : decide (0 ≤ x4_2) = true := decide_eq_true c9
                clear c9
                by_cases c10 : x4_2 < (((rd_T27 l0 0).f1).length : Int)
                · rw [if_pos c10] at H
                  have c10b0 : decide (x4_2 < (((rd_T27 l0 0).f1).length : Int)) = true := decide_eq_true c10
                  clear c10
                  replace H := Option.bind_eq_some_iff.mp H
                  obtain ⟨t114, A110, H⟩ := H
                  replace H : (if t114 = true then (if x4_2 = 0 then (if x4_2 < (((rd_T27 l0 0).f2).length : Int) then (if (rd ((rd_T27 l0 0).f2) x4_2) = 1 then (if x4_2 > 0 then ((spec_l00In.f (rd ((rd_T27 l0 0).f2) x4_2) 2 3).bind fun t119 => (if t119 = true then (spec_l17Ok.l0 k2 l0 (((rd_T27 l0 0).f1).length : Int) (wrap64 (x4_2 + 1))) else (some false))) else (spec_l17Ok.l0 k2 l0 (((rd_T27 l0 0).f1).length : Int) (wrap64 (x4_2 + 1)))) else (some false)) else (none)) else (if x4_2 > 0 then (if x4_2 < (((rd_T27 l0 0).f2).length : Int) then ((spec_l00In.f (rd ((rd_T27 l0 0).f2) x4_2) 2 3).bind fun t122 => (if t122 = true then (spec_l17Ok.l0 k2 l0 (((rd_T27 l0 0).f1).length : Int) (wrap64 (x4_2 + 1))) else (some false))) else (none)) else (spec_l17Ok.l0 k2 l0 (((rd_T27 l0 0).f1).length : Int) (wrap64 (x4_2 + 1))))) else (some false)) = some r := H
                  have A11 := Aside0.mk A110
                  clear A110
                  by_cases c12 : t114 = true
                  · subst c12
                    have H1 : (if x4_2 = 0 then (if x4_2 < (((rd_T27 l0 0).f2).length : Int) then (if (rd ((rd_T27 l0 0).f2) x4_2) = 1 then (if x4_2 > 0 then ((spec_l00In.f (rd ((rd_T27 l0 0).f2) x4_2) 2 3).bind fun t119 => (if t119 = true then (spec_l17Ok.l0 k2 l0 (((rd_T27 l0 0).f1).length : Int) (wrap64 (x4_2 + 1))) else (some false))) else (spec_l17Ok.l0 k2 l0 (((rd_T27 l0 0).f1).length : Int) (wrap64 (x4_2 + 1)))) else (some false)) else (none)) else (if x4_2 > 0 then (if x4_2 < (((rd_T27 l0 0).f2).length : Int) then ((spec_l00In.f (rd ((rd_T27 l0 0).f2) x4_2) 2 3).bind fun t122 => (if t122 = true then (spec_l17Ok.l0 k2 l0 (((rd_T27 l0 0).f1).length : Int) (wrap64 (x4_2 + 1))) else (some false))) else (none)) else (spec_l17Ok.l0 k2 l0 (((rd_T27 l0 0).f1).length : Int) (wrap64 (x4_2 + 1))))) = some r := by rw [if_pos rfl] at H; exact H
                    clear H
                    have H := H1
                    clear H1
                    by_cases c13 : x4_2 = 0
                    · rw [if_pos c13] at H
                      have c13b0 : (x4_2 == 0) = true := beq_iff_eq.mpr c13
                      have c13b1 : (x4_2 != 0) = false := bne_eq_false_iff_eq.mpr c13
                      clear c13
                      by_cases c14 : x4_2 < (((rd_T27 l0 0).f2).length : Int)
                      · rw [if_pos c14] at H
                        have c14b0 : decide (x4_2 < (((rd_T27 l0 0).f2).length : Int)) = true := decide_eq_true c14
                        clear c14
                        by_cases c15 : (rd ((rd_T27 l0 0).f2) x4_2) = 1
                        · rw [if_pos c15] at H
                          have c15b0 : ((rd ((rd_T27 l0 0).f2) x4_2) == 1) = true := beq_iff_eq.mpr c15
                          have c15b1 : ((rd ((rd_T27 l0 0).f2) x4_2) != 1) = false := bne_eq_false_iff_eq.mpr c15
                          clear c15
                          by_cases c16 : x4_2 > 0
                          · rw [if_pos c16] at H
                            have c16b0 : decide (0 < x4_2) = true := decide_eq_true c16
                            clear c16
                            replace H := Option.bind_eq_some_iff.mp H
                            obtain ⟨t119, A170, H⟩ := H
                            replace H : (if t119 = true then (spec_l17Ok.l0 k2 l0 (((rd_T27 l0 0).f1).length : Int) (wrap64 (x4_2 + 1))) else (some false)) = some r := H
                            have A17 := Aside0.mk A170
                            clear A170
                            by_cases c18 : t119 = true
                            · subst c18
                              have H1 : (spec_l17Ok.l0 k2 l0 (((rd_T27 l0 0).f1).length : Int) (wrap64 (x4_2 + 1))) = some r := by rw [if_pos rfl] at H; exact H
                              clear H
                              have H := H1
                              clear H1
                              have H' := Aside0.mk H
                              clear H
                              have p112 : 0 ≤ (0 : Int) := (by omega)
                              have q112 : 0 < (l0.length : Int) := of_decide_eq_true (by first | (with_reducible assumption) | assumption)
                              obtain ⟨ad112, A112_1, c112_1, A112_2, c112_2, e112, hx112_0, hx112_1, hx112_2, hl112_1, hi112_1, hl112_2, hi112_2⟩ := at_T27 HR0.out 0 p112 q112
                              obtain rfl : ad105 = ad112 := (by injection e112)
                              have qi112 : (0 < l0.length) = True := eq_true (by omega)
                              (try rw [show ((0 : Int)).toNat = 0 from rfl] at hx112_0)
                              (try rw [show 0 * 3 = 0 from rfl] at hx112_0)
                              (try rw [Addr.add_zero'] at hx112_0)
                              (try rw [show ((0 : Int)).toNat = 0 from rfl] at hx112_1)
                              (try rw [show 0 * 3 = 0 from rfl] at hx112_1)
                              (try rw [Addr.add_zero'] at hx112_1)
                              (try rw [show ((0 : Int)).toNat = 0 from rfl] at hx112_2)
                              (try rw [show 0 * 3 = 0 from rfl] at hx112_2)
                              (try rw [Addr.add_zero'] at hx112_2)
                              have HR112_1 := Aside0.mk hi112_1
                              have HC112_1 := Aside0.mk hl112_1
                              clear hi112_1 hl112_1
                              have HR112_2 := Aside0.mk hi112_2
                              have HC112_2 := Aside0.mk hl112_2
                              clear hi112_2 hl112_2
                              replace p112 := eq_true p112
                              replace q112 := eq_true q112
                              have p113 : 0 ≤ (x4_2 : Int) := of_decide_eq_true (by first | (with_reducible assumption) | assumption)
                              have q113 : x4_2 < (((rd_T27 l0 0).f1).length : Int) := of_decide_eq_true (by first | (with_reducible assumption) | assumption)
                              obtain ⟨ad113, e113, hx113_0⟩ := Kd.at_int HR112_1.out x4_2 p113 q113
                              cases e113
                              replace p113 := eq_true p113
                              replace q113 := eq_true q113
                              go_wp2_with (first | ((with_reducible refine gate_callee (f := 53) rfl ?_); refine goesL_ (some 42) rfl rfl Try.func53 (by kernel_rfl) rfl #[.int .i64 (rd ((rd_T27 l0 0).f1) x4_2), .int .i64 1, .int .i64 16] rfl (by (try simp only [List.map_toArray, List.map_cons, List.map_nil]); first | done | rfl | (simp only [List.length_drop, List.length_take]; rfl)) ?_; (with_reducible refine (spec_l00In.calls (rd ((rd_T27 l0 0).f1) x4_2) 1 16 true _ A11.out).mono ?_); rintro e w' ⟨rfl, ⟨nd, rfl⟩⟩; refine ⟨_, rfl, ?_⟩; have p115 : 0 ≤ (0 : Int) := (by omega); have q115 : 0 < (l0.length : Int) := of_decide_eq_true (by first | (with_reducible assumption) | assumption); obtain ⟨ad115, A115_1, c115_1, A115_2, c115_2, e115, hx115_0, hx115_1, hx115_2, hl115_1, hi115_1, hl115_2, hi115_2⟩ := at_T27 HR0.out 0 p115 q115; obtain rfl : ad105 = ad115 := (by injection e115); have qi115 : (0 < l0.length) = True := eq_true (by omega); (try rw [show ((0 : Int)).toNat = 0 from rfl] at hx115_0); (try rw [show 0 * 3 = 0 from rfl] at hx115_0); (try rw [Addr.add_zero'] at hx115_0); (try rw [show ((0 : Int)).toNat = 0 from rfl] at hx115_1); (try rw [show 0 * 3 = 0 from rfl] at hx115_1); (try rw [Addr.add_zero'] at hx115_1); (try rw [show ((0 : Int)).toNat = 0 from rfl] at hx115_2); (try rw [show 0 * 3 = 0 from rfl] at hx115_2); (try rw [Addr.add_zero'] at hx115_2); have HR115_1 := Aside0.mk hi115_1; have HC115_1 := Aside0.mk hl115_1; clear hi115_1 hl115_1; have HR115_2 := Aside0.mk hi115_2; have HC115_2 := Aside0.mk hl115_2; clear hi115_2 hl115_2; replace p115 := eq_true p115; replace q115 := eq_true q115; have ea_ := Option.some.inj (hx112_1.symm.trans hx115_1); injection ea_ with ea_ en_ ec_; subst ea_; subst ec_; clear en_; have ea_ := Option.some.inj (hx112_2.symm.trans hx115_2); injection ea_ with ea_ en_ ec_; subst ea_; subst ec_; clear en_; have p116 : 0 ≤ (x4_2 : Int) := of_decide_eq_true (by first | (with_reducible assumption) | assumption); have q116 : x4_2 < (((rd_T27 l0 0).f2).length : Int) := of_decide_eq_true (by first | (with_reducible assumption) | assumption); obtain ⟨ad116, e116, hx116_0⟩ := Kd.at_int HR115_2.out x4_2 p116 q116; cases e116; replace p116 := eq_true p116; replace q116 := eq_true q116; have p117 : 0 ≤ (0 : Int) := (by omega); have q117 : 0 < (l0.length : Int) := of_decide_eq_true (by first | (with_reducible assumption) | assumption); obtain ⟨ad117, A117_1, c117_1, A117_2, c117_2, e117, hx117_0, hx117_1, hx117_2, hl117_1, hi117_1, hl117_2, hi117_2⟩ := at_T27 HR0.out 0 p117 q117; obtain rfl : ad105 = ad117 := (by injection e117); have qi117 : (0 < l0.length) = True := eq_true (by omega); (try rw [show ((0 : Int)).toNat = 0 from rfl] at hx117_0); (try rw [show 0 * 3 = 0 from rfl] at hx117_0); (try rw [Addr.add_zero'] at hx117_0); (try rw [show ((0 : Int)).toNat = 0 from rfl] at hx117_1); (try rw [show 0 * 3 = 0 from rfl] at hx117_1); (try rw [Addr.add_zero'] at hx117_1); (try rw [show ((0 : Int)).toNat = 0 from rfl] at hx117_2); (try rw [show 0 * 3 = 0 from rfl] at hx117_2); (try rw [Addr.add_zero'] at hx117_2); have HR117_1 := Aside0.mk hi117_1; have HC117_1 := Aside0.mk hl117_1; clear hi117_1 hl117_1; have HR117_2 := Aside0.mk hi117_2; have HC117_2 := Aside0.mk hl117_2; clear hi117_2 hl117_2; replace p117 := eq_true p117; replace q117 := eq_true q117; have ea_ := Option.some.inj (hx112_1.symm.trans hx117_1); injection ea_ with ea_ en_ ec_; subst ea_; subst ec_; clear en_; have ea_ := Option.some.inj (hx112_2.symm.trans hx117_2); injection ea_ with ea_ en_ ec_; subst ea_; subst ec_; clear en_; have p118 : 0 ≤ (x4_2 : Int) := of_decide_eq_true (by first | (with_reducible assumption) | assumption); have q118 : x4_2 < (((rd_T27 l0 0).f2).length : Int) := of_decide_eq_true (by first | (with_reducible assumption) | assumption); obtain ⟨ad118, e118, hx118_0⟩ := Kd.at_int HR117_2.out x4_2 p118 q118; cases e118; replace p118 := eq_true p118; replace q118 := eq_true q118) | (go_at_call 53; (with_reducible refine (spec_l00In.calls (rd ((rd_T27 l0 0).f2) x4_2) 2 3 true _ A17.out).mono ?_); rintro e w' ⟨rfl, ⟨nd, rfl⟩⟩))
                              go_roundg k2
                              case measure => have := HJ1.out; have := HK2.out; omega
                              case rel => exact ⟨(wrap64 (x4_2 + 1)), (by first | rfl | (simp; done) | (simp [*]; done)), H', ⟨by have := HJ1.out; have := HK2.out; omega⟩, by repeat (first | exact Drawn0.refl _ | apply Drawn0.step)⟩
                            · replace c18 := Bool.eq_false_iff.mpr c18
                              subst c18
                              have H1 : (some false) = some r := by rw [if_neg (show ¬ (false = true) by decide)] at H; exact H
                              clear H
                              have H := H1
                              clear H1
                              obtain rfl := Option.some.inj H
                              have p112 : 0 ≤ (0 : Int) := (by omega)
                              have q112 : 0 < (l0.length : Int) := of_decide_eq_true (by first | (with_reducible assumption) | assumption)
                              obtain ⟨ad112, A112_1, c112_1, A112_2, c112_2, e112, hx112_0, hx112_1, hx112_2, hl112_1, hi112_1, hl112_2, hi112_2⟩ := at_T27 HR0.out 0 p112 q112
                              obtain rfl : ad105 = ad112 := (by injection e112)
                              have qi112 : (0 < l0.length) = True := eq_true (by omega)
                              (try rw [show ((0 : Int)).toNat = 0 from rfl] at hx112_0)
                              (try rw [show 0 * 3 = 0 from rfl] at hx112_0)
                              (try rw [Addr.add_zero'] at hx112_0)
                              (try rw [show ((0 : Int)).toNat = 0 from rfl] at hx112_1)
                              (try rw [show 0 * 3 = 0 from rfl] at hx112_1)
                              (try rw [Addr.add_zero'] at hx112_1)
                              (try rw [show ((0 : Int)).toNat = 0 from rfl] at hx112_2)
                              (try rw [show 0 * 3 = 0 from rfl] at hx112_2)
                              (try rw [Addr.add_zero'] at hx112_2)
                              have HR112_1 := Aside0.mk hi112_1
                              have HC112_1 := Aside0.mk hl112_1
                              clear hi112_1 hl112_1
                              have HR112_2 := Aside0.mk hi112_2
                              have HC112_2 := Aside0.mk hl112_2
                              clear hi112_2 hl112_2
                              replace p112 := eq_true p112
                              replace q112 := eq_true q112
                              have p113 : 0 ≤ (x4_2 : Int) := of_decide_eq_true (by first | (with_reducible assumption) | assumption)
                              have q113 : x4_2 < (((rd_T27 l0 0).f1).length : Int) := of_decide_eq_true (by first | (with_reducible assumption) | assumption)
                              obtain ⟨ad113, e113, hx113_0⟩ := Kd.at_int HR112_1.out x4_2 p113 q113
                              cases e113
                              replace p113 := eq_true p113
                              replace q113 := eq_true q113
                              go_wp2_with (first | ((with_reducible refine gate_callee (f := 53) rfl ?_); refine goesL_ (some 42) rfl rfl Try.func53 (by kernel_rfl) rfl #[.int .i64 (rd ((rd_T27 l0 0).f1) x4_2), .int .i64 1, .int .i64 16] rfl (by (try simp only [List.map_toArray, List.map_cons, List.map_nil]); first | done | rfl | (simp only [List.length_drop, List.length_take]; rfl)) ?_; (with_reducible refine (spec_l00In.calls (rd ((rd_T27 l0 0).f1) x4_2) 1 16 true _ A11.out).mono ?_); rintro e w' ⟨rfl, ⟨nd, rfl⟩⟩; refine ⟨_, rfl, ?_⟩; have p115 : 0 ≤ (0 : Int) := (by omega); have q115 : 0 < (l0.length : Int) := of_decide_eq_true (by first | (with_reducible assumption) | assumption); obtain ⟨ad115, A115_1, c115_1, A115_2, c115_2, e115, hx115_0, hx115_1, hx115_2, hl115_1, hi115_1, hl115_2, hi115_2⟩ := at_T27 HR0.out 0 p115 q115; obtain rfl : ad105 = ad115 := (by injection e115); have qi115 : (0 < l0.length) = True := eq_true (by omega); (try rw [show ((0 : Int)).toNat = 0 from rfl] at hx115_0); (try rw [show 0 * 3 = 0 from rfl] at hx115_0); (try rw [Addr.add_zero'] at hx115_0); (try rw [show ((0 : Int)).toNat = 0 from rfl] at hx115_1); (try rw [show 0 * 3 = 0 from rfl] at hx115_1); (try rw [Addr.add_zero'] at hx115_1); (try rw [show ((0 : Int)).toNat = 0 from rfl] at hx115_2); (try rw [show 0 * 3 = 0 from rfl] at hx115_2); (try rw [Addr.add_zero'] at hx115_2); have HR115_1 := Aside0.mk hi115_1; have HC115_1 := Aside0.mk hl115_1; clear hi115_1 hl115_1; have HR115_2 := Aside0.mk hi115_2; have HC115_2 := Aside0.mk hl115_2; clear hi115_2 hl115_2; replace p115 := eq_true p115; replace q115 := eq_true q115; have ea_ := Option.some.inj (hx112_1.symm.trans hx115_1); injection ea_ with ea_ en_ ec_; subst ea_; subst ec_; clear en_; have ea_ := Option.some.inj (hx112_2.symm.trans hx115_2); injection ea_ with ea_ en_ ec_; subst ea_; subst ec_; clear en_; have p116 : 0 ≤ (x4_2 : Int) := of_decide_eq_true (by first | (with_reducible assumption) | assumption); have q116 : x4_2 < (((rd_T27 l0 0).f2).length : Int) := of_decide_eq_true (by first | (with_reducible assumption) | assumption); obtain ⟨ad116, e116, hx116_0⟩ := Kd.at_int HR115_2.out x4_2 p116 q116; cases e116; replace p116 := eq_true p116; replace q116 := eq_true q116; have p117 : 0 ≤ (0 : Int) := (by omega); have q117 : 0 < (l0.length : Int) := of_decide_eq_true (by first | (with_reducible assumption) | assumption); obtain ⟨ad117, A117_1, c117_1, A117_2, c117_2, e117, hx117_0, hx117_1, hx117_2, hl117_1, hi117_1, hl117_2, hi117_2⟩ := at_T27 HR0.out 0 p117 q117; obtain rfl : ad105 = ad117 := (by injection e117); have qi117 : (0 < l0.length) = True := eq_true (by omega); (try rw [show ((0 : Int)).toNat = 0 from rfl] at hx117_0); (try rw [show 0 * 3 = 0 from rfl] at hx117_0); (try rw [Addr.add_zero'] at hx117_0); (try rw [show ((0 : Int)).toNat = 0 from rfl] at hx117_1); (try rw [show 0 * 3 = 0 from rfl] at hx117_1); (try rw [Addr.add_zero'] at hx117_1); (try rw [show ((0 : Int)).toNat = 0 from rfl] at hx117_2); (try rw [show 0 * 3 = 0 from rfl] at hx117_2); (try rw [Addr.add_zero'] at hx117_2); have HR117_1 := Aside0.mk hi117_1; have HC117_1 := Aside0.mk hl117_1; clear hi117_1 hl117_1; have HR117_2 := Aside0.mk hi117_2; have HC117_2 := Aside0.mk hl117_2; clear hi117_2 hl117_2; replace p117 := eq_true p117; replace q117 := eq_true q117; have ea_ := Option.some.inj (hx112_1.symm.trans hx117_1); injection ea_ with ea_ en_ ec_; subst ea_; subst ec_; clear en_; have ea_ := Option.some.inj (hx112_2.symm.trans hx117_2); injection ea_ with ea_ en_ ec_; subst ea_; subst ec_; clear en_; have p118 : 0 ≤ (x4_2 : Int) := of_decide_eq_true (by first | (with_reducible assumption) | assumption); have q118 : x4_2 < (((rd_T27 l0 0).f2).length : Int) := of_decide_eq_true (by first | (with_reducible assumption) | assumption); obtain ⟨ad118, e118, hx118_0⟩ := Kd.at_int HR117_2.out x4_2 p118 q118; cases e118; replace p118 := eq_true p118; replace q118 := eq_true q118) | (go_at_call 53; (with_reducible refine (spec_l00In.calls (rd ((rd_T27 l0 0).f2) x4_2) 2 3 false _ A17.out).mono ?_); rintro e w' ⟨rfl, ⟨nd, rfl⟩⟩))
                              go_ret
                              exact ⟨by first | rfl | (simp; done) | (simp [*]; done), by repeat (first | exact Drawn0.refl _ | apply Drawn0.step)⟩
                          · rw [if_neg c16] at H
                            have c16b0 : decide (0 < x4_2) = false := decide_eq_false c16
                            clear c16
                            have H' := Aside0.mk H
                            clear H
                            have p112 : 0 ≤ (0 : Int) := (by omega)
                            have q112 : 0 < (l0.length : Int) := of_decide_eq_true (by first | (with_reducible assumption) | assumption)
                            obtain ⟨ad112, A112_1, c112_1, A112_2, c112_2, e112, hx112_0, hx112_1, hx112_2, hl112_1, hi112_1, hl112_2, hi112_2⟩ := at_T27 HR0.out 0 p112 q112
                            obtain rfl : ad105 = ad112 := (by injection e112)
                            have qi112 : (0 < l0.length) = True := eq_true (by omega)
                            (try rw [show ((0 : Int)).toNat = 0 from rfl] at hx112_0)
                            (try rw [show 0 * 3 = 0 from rfl] at hx112_0)
                            (try rw [Addr.add_zero'] at hx112_0)
                            (try rw [show ((0 : Int)).toNat = 0 from rfl] at hx112_1)
                            (try rw [show 0 * 3 = 0 from rfl] at hx112_1)
                            (try rw [Addr.add_zero'] at hx112_1)
                            (try rw [show ((0 : Int)).toNat = 0 from rfl] at hx112_2)
                            (try rw [show 0 * 3 = 0 from rfl] at hx112_2)
                            (try rw [Addr.add_zero'] at hx112_2)
                            have HR112_1 := Aside0.mk hi112_1
                            have HC112_1 := Aside0.mk hl112_1
                            clear hi112_1 hl112_1
                            have HR112_2 := Aside0.mk hi112_2
                            have HC112_2 := Aside0.mk hl112_2
                            clear hi112_2 hl112_2
                            replace p112 := eq_true p112
                            replace q112 := eq_true q112
                            have p113 : 0 ≤ (x4_2 : Int) := of_decide_eq_true (by first | (with_reducible assumption) | assumption)
                            have q113 : x4_2 < (((rd_T27 l0 0).f1).length : Int) := of_decide_eq_true (by first | (with_reducible assumption) | assumption)
                            obtain ⟨ad113, e113, hx113_0⟩ := Kd.at_int HR112_1.out x4_2 p113 q113
                            cases e113
                            replace p113 := eq_true p113
                            replace q113 := eq_true q113
                            go_wp2_with (first | ((with_reducible refine gate_callee (f := 53) rfl ?_); refine goesL_ (some 42) rfl rfl Try.func53 (by kernel_rfl) rfl #[.int .i64 (rd ((rd_T27 l0 0).f1) x4_2), .int .i64 1, .int .i64 16] rfl (by (try simp only [List.map_toArray, List.map_cons, List.map_nil]); first | done | rfl | (simp only [List.length_drop, List.length_take]; rfl)) ?_; (with_reducible refine (spec_l00In.calls (rd ((rd_T27 l0 0).f1) x4_2) 1 16 true _ A11.out).mono ?_); rintro e w' ⟨rfl, ⟨nd, rfl⟩⟩; refine ⟨_, rfl, ?_⟩; have p115 : 0 ≤ (0 : Int) := (by omega); have q115 : 0 < (l0.length : Int) := of_decide_eq_true (by first | (with_reducible assumption) | assumption); obtain ⟨ad115, A115_1, c115_1, A115_2, c115_2, e115, hx115_0, hx115_1, hx115_2, hl115_1, hi115_1, hl115_2, hi115_2⟩ := at_T27 HR0.out 0 p115 q115; obtain rfl : ad105 = ad115 := (by injection e115); have qi115 : (0 < l0.length) = True := eq_true (by omega); (try rw [show ((0 : Int)).toNat = 0 from rfl] at hx115_0); (try rw [show 0 * 3 = 0 from rfl] at hx115_0); (try rw [Addr.add_zero'] at hx115_0); (try rw [show ((0 : Int)).toNat = 0 from rfl] at hx115_1); (try rw [show 0 * 3 = 0 from rfl] at hx115_1); (try rw [Addr.add_zero'] at hx115_1); (try rw [show ((0 : Int)).toNat = 0 from rfl] at hx115_2); (try rw [show 0 * 3 = 0 from rfl] at hx115_2); (try rw [Addr.add_zero'] at hx115_2); have HR115_1 := Aside0.mk hi115_1; have HC115_1 := Aside0.mk hl115_1; clear hi115_1 hl115_1; have HR115_2 := Aside0.mk hi115_2; have HC115_2 := Aside0.mk hl115_2; clear hi115_2 hl115_2; replace p115 := eq_true p115; replace q115 := eq_true q115; have ea_ := Option.some.inj (hx112_1.symm.trans hx115_1); injection ea_ with ea_ en_ ec_; subst ea_; subst ec_; clear en_; have ea_ := Option.some.inj (hx112_2.symm.trans hx115_2); injection ea_ with ea_ en_ ec_; subst ea_; subst ec_; clear en_; have p116 : 0 ≤ (x4_2 : Int) := of_decide_eq_true (by first | (with_reducible assumption) | assumption); have q116 : x4_2 < (((rd_T27 l0 0).f2).length : Int) := of_decide_eq_true (by first | (with_reducible assumption) | assumption); obtain ⟨ad116, e116, hx116_0⟩ := Kd.at_int HR115_2.out x4_2 p116 q116; cases e116; replace p116 := eq_true p116; replace q116 := eq_true q116))
                            go_roundg k2
                            case measure => have := HJ1.out; have := HK2.out; omega
                            case rel => exact ⟨(wrap64 (x4_2 + 1)), (by first | rfl | (simp; done) | (simp [*]; done)), H', ⟨by have := HJ1.out; have := HK2.out; omega⟩, by repeat (first | exact Drawn0.refl _ | apply Drawn0.step)⟩
                        · rw [if_neg c15] at H
                          have c15b0 : ((rd ((rd_T27 l0 0).f2) x4_2) == 1) = false := beq_eq_false_iff_ne.mpr c15
                          have c15b1 : ((rd ((rd_T27 l0 0).f2) x4_2) != 1) = true := bne_iff_ne.mpr c15
                          obtain rfl := Option.some.inj H
                          have p112 : 0 ≤ (0 : Int) := (by omega)
                          have q112 : 0 < (l0.length : Int) := of_decide_eq_true (by first | (with_reducible assumption) | assumption)
                          obtain ⟨ad112, A112_1, c112_1, A112_2, c112_2, e112, hx112_0, hx112_1, hx112_2, hl112_1, hi112_1, hl112_2, hi112_2⟩ := at_T27 HR0.out 0 p112 q112
                          obtain rfl : ad105 = ad112 := (by injection e112)
                          have qi112 : (0 < l0.length) = True := eq_true (by omega)
                          (try rw [show ((0 : Int)).toNat = 0 from rfl] at hx112_0)
                          (try rw [show 0 * 3 = 0 from rfl] at hx112_0)
                          (try rw [Addr.add_zero'] at hx112_0)
                          (try rw [show ((0 : Int)).toNat = 0 from rfl] at hx112_1)
                          (try rw [show 0 * 3 = 0 from rfl] at hx112_1)
                          (try rw [Addr.add_zero'] at hx112_1)
                          (try rw [show ((0 : Int)).toNat = 0 from rfl] at hx112_2)
                          (try rw [show 0 * 3 = 0 from rfl] at hx112_2)
                          (try rw [Addr.add_zero'] at hx112_2)
                          have HR112_1 := Aside0.mk hi112_1
                          have HC112_1 := Aside0.mk hl112_1
                          clear hi112_1 hl112_1
                          have HR112_2 := Aside0.mk hi112_2
                          have HC112_2 := Aside0.mk hl112_2
                          clear hi112_2 hl112_2
                          replace p112 := eq_true p112
                          replace q112 := eq_true q112
                          have p113 : 0 ≤ (x4_2 : Int) := of_decide_eq_true (by first | (with_reducible assumption) | assumption)
                          have q113 : x4_2 < (((rd_T27 l0 0).f1).length : Int) := of_decide_eq_true (by first | (with_reducible assumption) | assumption)
                          obtain ⟨ad113, e113, hx113_0⟩ := Kd.at_int HR112_1.out x4_2 p113 q113
                          cases e113
                          replace p113 := eq_true p113
                          replace q113 := eq_true q113
                          go_wp2_with (first | ((with_reducible refine gate_callee (f := 53) rfl ?_); refine goesL_ (some 42) rfl rfl Try.func53 (by kernel_rfl) rfl #[.int .i64 (rd ((rd_T27 l0 0).f1) x4_2), .int .i64 1, .int .i64 16] rfl (by (try simp only [List.map_toArray, List.map_cons, List.map_nil]); first | done | rfl | (simp only [List.length_drop, List.length_take]; rfl)) ?_; (with_reducible refine (spec_l00In.calls (rd ((rd_T27 l0 0).f1) x4_2) 1 16 true _ A11.out).mono ?_); rintro e w' ⟨rfl, ⟨nd, rfl⟩⟩; refine ⟨_, rfl, ?_⟩; have p115 : 0 ≤ (0 : Int) := (by omega); have q115 : 0 < (l0.length : Int) := of_decide_eq_true (by first | (with_reducible assumption) | assumption); obtain ⟨ad115, A115_1, c115_1, A115_2, c115_2, e115, hx115_0, hx115_1, hx115_2, hl115_1, hi115_1, hl115_2, hi115_2⟩ := at_T27 HR0.out 0 p115 q115; obtain rfl : ad105 = ad115 := (by injection e115); have qi115 : (0 < l0.length) = True := eq_true (by omega); (try rw [show ((0 : Int)).toNat = 0 from rfl] at hx115_0); (try rw [show 0 * 3 = 0 from rfl] at hx115_0); (try rw [Addr.add_zero'] at hx115_0); (try rw [show ((0 : Int)).toNat = 0 from rfl] at hx115_1); (try rw [show 0 * 3 = 0 from rfl] at hx115_1); (try rw [Addr.add_zero'] at hx115_1); (try rw [show ((0 : Int)).toNat = 0 from rfl] at hx115_2); (try rw [show 0 * 3 = 0 from rfl] at hx115_2); (try rw [Addr.add_zero'] at hx115_2); have HR115_1 := Aside0.mk hi115_1; have HC115_1 := Aside0.mk hl115_1; clear hi115_1 hl115_1; have HR115_2 := Aside0.mk hi115_2; have HC115_2 := Aside0.mk hl115_2; clear hi115_2 hl115_2; replace p115 := eq_true p115; replace q115 := eq_true q115; have ea_ := Option.some.inj (hx112_1.symm.trans hx115_1); injection ea_ with ea_ en_ ec_; subst ea_; subst ec_; clear en_; have ea_ := Option.some.inj (hx112_2.symm.trans hx115_2); injection ea_ with ea_ en_ ec_; subst ea_; subst ec_; clear en_; have p116 : 0 ≤ (x4_2 : Int) := of_decide_eq_true (by first | (with_reducible assumption) | assumption); have q116 : x4_2 < (((rd_T27 l0 0).f2).length : Int) := of_decide_eq_true (by first | (with_reducible assumption) | assumption); obtain ⟨ad116, e116, hx116_0⟩ := Kd.at_int HR115_2.out x4_2 p116 q116; cases e116; replace p116 := eq_true p116; replace q116 := eq_true q116))
                          go_ret
                          exact ⟨by first | rfl | (simp; done) | (simp [*]; done), by repeat (first | exact Drawn0.refl _ | apply Drawn0.step)⟩
                      · rw [if_neg c14] at H
                        exact absurd H (by simp)
                    · rw [if_neg c13] at H
                      have c13b0 : (x4_2 == 0) = false := beq_eq_false_iff_ne.mpr c13
                      have c13b1 : (x4_2 != 0) = true := bne_iff_ne.mpr c13
                      by_cases c19 : x4_2 > 0
                      · rw [if_pos c19] at H
                        have c19b0 : decide (0 < x4_2) = true := decide_eq_true c19
                        clear c19
                        by_cases c20 : x4_2 < (((rd_T27 l0 0).f2).length : Int)
                        · rw [if_pos c20] at H
                          have c20b0 : decide (x4_2 < (((rd_T27 l0 0).f2).length : Int)) = true := decide_eq_true c20
                          clear c20
                          replace H := Option.bind_eq_some_iff.mp H
                          obtain ⟨t122, A210, H⟩ := H
                          replace H : (if t122 = true then (spec_l17Ok.l0 k2 l0 (((rd_T27 l0 0).f1).length : Int) (wrap64 (x4_2 + 1))) else (some false)) = some r := H
                          have A21 := Aside0.mk A210
                          clear A210
                          by_cases c22 : t122 = true
                          · subst c22
                            have H1 : (spec_l17Ok.l0 k2 l0 (((rd_T27 l0 0).f1).length : Int) (wrap64 (x4_2 + 1))) = some r := by rw [if_pos rfl] at H; exact H
                            clear H
                            have H := H1
                            clear H1
                            have H' := Aside0.mk H
                            clear H
                            have p112 : 0 ≤ (0 : Int) := (by omega)
                            have q112 : 0 < (l0.length : Int) := of_decide_eq_true (by first | (with_reducible assumption) | assumption)
                            obtain ⟨ad112, A112_1, c112_1, A112_2, c112_2, e112, hx112_0, hx112_1, hx112_2, hl112_1, hi112_1, hl112_2, hi112_2⟩ := at_T27 HR0.out 0 p112 q112
                            obtain rfl : ad105 = ad112 := (by injection e112)
                            have qi112 : (0 < l0.length) = True := eq_true (by omega)
                            (try rw [show ((0 : Int)).toNat = 0 from rfl] at hx112_0)
                            (try rw [show 0 * 3 = 0 from rfl] at hx112_0)
                            (try rw [Addr.add_zero'] at hx112_0)
                            (try rw [show ((0 : Int)).toNat = 0 from rfl] at hx112_1)
                            (try rw [show 0 * 3 = 0 from rfl] at hx112_1)
                            (try rw [Addr.add_zero'] at hx112_1)
                            (try rw [show ((0 : Int)).toNat = 0 from rfl] at hx112_2)
                            (try rw [show 0 * 3 = 0 from rfl] at hx112_2)
                            (try rw [Addr.add_zero'] at hx112_2)
                            have HR112_1 := Aside0.mk hi112_1
                            have HC112_1 := Aside0.mk hl112_1
                            clear hi112_1 hl112_1
                            have HR112_2 := Aside0.mk hi112_2
                            have HC112_2 := Aside0.mk hl112_2
                            clear hi112_2 hl112_2
                            replace p112 := eq_true p112
                            replace q112 := eq_true q112
                            have p113 : 0 ≤ (x4_2 : Int) := of_decide_eq_true (by first | (with_reducible assumption) | assumption)
                            have q113 : x4_2 < (((rd_T27 l0 0).f1).length : Int) := of_decide_eq_true (by first | (with_reducible assumption) | assumption)
                            obtain ⟨ad113, e113, hx113_0⟩ := Kd.at_int HR112_1.out x4_2 p113 q113
                            cases e113
                            replace p113 := eq_true p113
                            replace q113 := eq_true q113
                            go_wp2_with (first | ((with_reducible refine gate_callee (f := 53) rfl ?_); refine goesL_ (some 42) rfl rfl Try.func53 (by kernel_rfl) rfl #[.int .i64 (rd ((rd_T27 l0 0).f1) x4_2), .int .i64 1, .int .i64 16] rfl (by (try simp only [List.map_toArray, List.map_cons, List.map_nil]); first | done | rfl | (simp only [List.length_drop, List.length_take]; rfl)) ?_; (with_reducible refine (spec_l00In.calls (rd ((rd_T27 l0 0).f1) x4_2) 1 16 true _ A11.out).mono ?_); rintro e w' ⟨rfl, ⟨nd, rfl⟩⟩; refine ⟨_, rfl, ?_⟩; have p120 : 0 ≤ (0 : Int) := (by omega); have q120 : 0 < (l0.length : Int) := of_decide_eq_true (by first | (with_reducible assumption) | assumption); obtain ⟨ad120, A120_1, c120_1, A120_2, c120_2, e120, hx120_0, hx120_1, hx120_2, hl120_1, hi120_1, hl120_2, hi120_2⟩ := at_T27 HR0.out 0 p120 q120; obtain rfl : ad105 = ad120 := (by injection e120); have qi120 : (0 < l0.length) = True := eq_true (by omega); (try rw [show ((0 : Int)).toNat = 0 from rfl] at hx120_0); (try rw [show 0 * 3 = 0 from rfl] at hx120_0); (try rw [Addr.add_zero'] at hx120_0); (try rw [show ((0 : Int)).toNat = 0 from rfl] at hx120_1); (try rw [show 0 * 3 = 0 from rfl] at hx120_1); (try rw [Addr.add_zero'] at hx120_1); (try rw [show ((0 : Int)).toNat = 0 from rfl] at hx120_2); (try rw [show 0 * 3 = 0 from rfl] at hx120_2); (try rw [Addr.add_zero'] at hx120_2); have HR120_1 := Aside0.mk hi120_1; have HC120_1 := Aside0.mk hl120_1; clear hi120_1 hl120_1; have HR120_2 := Aside0.mk hi120_2; have HC120_2 := Aside0.mk hl120_2; clear hi120_2 hl120_2; replace p120 := eq_true p120; replace q120 := eq_true q120; have ea_ := Option.some.inj (hx112_1.symm.trans hx120_1); injection ea_ with ea_ en_ ec_; subst ea_; subst ec_; clear en_; have ea_ := Option.some.inj (hx112_2.symm.trans hx120_2); injection ea_ with ea_ en_ ec_; subst ea_; subst ec_; clear en_; have p121 : 0 ≤ (x4_2 : Int) := of_decide_eq_true (by first | (with_reducible assumption) | assumption); have q121 : x4_2 < (((rd_T27 l0 0).f2).length : Int) := of_decide_eq_true (by first | (with_reducible assumption) | assumption); obtain ⟨ad121, e121, hx121_0⟩ := Kd.at_int HR120_2.out x4_2 p121 q121; cases e121; replace p121 := eq_true p121; replace q121 := eq_true q121) | (go_at_call 53; (with_reducible refine (spec_l00In.calls (rd ((rd_T27 l0 0).f2) x4_2) 2 3 true _ A21.out).mono ?_); rintro e w' ⟨rfl, ⟨nd, rfl⟩⟩))
                            go_roundg k2
                            case measure => have := HJ1.out; have := HK2.out; omega
                            case rel => exact ⟨(wrap64 (x4_2 + 1)), (by first | rfl | (simp; done) | (simp [*]; done)), H', ⟨by have := HJ1.out; have := HK2.out; omega⟩, by repeat (first | exact Drawn0.refl _ | apply Drawn0.step)⟩
                          · replace c22 := Bool.eq_false_iff.mpr c22
                            subst c22
                            have H1 : (some false) = some r := by rw [if_neg (show ¬ (false = true) by decide)] at H; exact H
                            clear H
                            have H := H1
                            clear H1
                            obtain rfl := Option.some.inj H
                            have p112 : 0 ≤ (0 : Int) := (by omega)
                            have q112 : 0 < (l0.length : Int) := of_decide_eq_true (by first | (with_reducible assumption) | assumption)
                            obtain ⟨ad112, A112_1, c112_1, A112_2, c112_2, e112, hx112_0, hx112_1, hx112_2, hl112_1, hi112_1, hl112_2, hi112_2⟩ := at_T27 HR0.out 0 p112 q112
                            obtain rfl : ad105 = ad112 := (by injection e112)
                            have qi112 : (0 < l0.length) = True := eq_true (by omega)
                            (try rw [show ((0 : Int)).toNat = 0 from rfl] at hx112_0)
                            (try rw [show 0 * 3 = 0 from rfl] at hx112_0)
                            (try rw [Addr.add_zero'] at hx112_0)
                            (try rw [show ((0 : Int)).toNat = 0 from rfl] at hx112_1)
                            (try rw [show 0 * 3 = 0 from rfl] at hx112_1)
                            (try rw [Addr.add_zero'] at hx112_1)
                            (try rw [show ((0 : Int)).toNat = 0 from rfl] at hx112_2)
                            (try rw [show 0 * 3 = 0 from rfl] at hx112_2)
                            (try rw [Addr.add_zero'] at hx112_2)
                            have HR112_1 := Aside0.mk hi112_1
                            have HC112_1 := Aside0.mk hl112_1
                            clear hi112_1 hl112_1
                            have HR112_2 := Aside0.mk hi112_2
                            have HC112_2 := Aside0.mk hl112_2
                            clear hi112_2 hl112_2
                            replace p112 := eq_true p112
                            replace q112 := eq_true q112
                            have p113 : 0 ≤ (x4_2 : Int) := of_decide_eq_true (by first | (with_reducible assumption) | assumption)
                            have q113 : x4_2 < (((rd_T27 l0 0).f1).length : Int) := of_decide_eq_true (by first | (with_reducible assumption) | assumption)
                            obtain ⟨ad113, e113, hx113_0⟩ := Kd.at_int HR112_1.out x4_2 p113 q113
                            cases e113
                            replace p113 := eq_true p113
                            replace q113 := eq_true q113
                            go_wp2_with (first | ((with_reducible refine gate_callee (f := 53) rfl ?_); refine goesL_ (some 42) rfl rfl Try.func53 (by kernel_rfl) rfl #[.int .i64 (rd ((rd_T27 l0 0).f1) x4_2), .int .i64 1, .int .i64 16] rfl (by (try simp only [List.map_toArray, List.map_cons, List.map_nil]); first | done | rfl | (simp only [List.length_drop, List.length_take]; rfl)) ?_; (with_reducible refine (spec_l00In.calls (rd ((rd_T27 l0 0).f1) x4_2) 1 16 true _ A11.out).mono ?_); rintro e w' ⟨rfl, ⟨nd, rfl⟩⟩; refine ⟨_, rfl, ?_⟩; have p120 : 0 ≤ (0 : Int) := (by omega); have q120 : 0 < (l0.length : Int) := of_decide_eq_true (by first | (with_reducible assumption) | assumption); obtain ⟨ad120, A120_1, c120_1, A120_2, c120_2, e120, hx120_0, hx120_1, hx120_2, hl120_1, hi120_1, hl120_2, hi120_2⟩ := at_T27 HR0.out 0 p120 q120; obtain rfl : ad105 = ad120 := (by injection e120); have qi120 : (0 < l0.length) = True := eq_true (by omega); (try rw [show ((0 : Int)).toNat = 0 from rfl] at hx120_0); (try rw [show 0 * 3 = 0 from rfl] at hx120_0); (try rw [Addr.add_zero'] at hx120_0); (try rw [show ((0 : Int)).toNat = 0 from rfl] at hx120_1); (try rw [show 0 * 3 = 0 from rfl] at hx120_1); (try rw [Addr.add_zero'] at hx120_1); (try rw [show ((0 : Int)).toNat = 0 from rfl] at hx120_2); (try rw [show 0 * 3 = 0 from rfl] at hx120_2); (try rw [Addr.add_zero'] at hx120_2); have HR120_1 := Aside0.mk hi120_1; have HC120_1 := Aside0.mk hl120_1; clear hi120_1 hl120_1; have HR120_2 := Aside0.mk hi120_2; have HC120_2 := Aside0.mk hl120_2; clear hi120_2 hl120_2; replace p120 := eq_true p120; replace q120 := eq_true q120; have ea_ := Option.some.inj (hx112_1.symm.trans hx120_1); injection ea_ with ea_ en_ ec_; subst ea_; subst ec_; clear en_; have ea_ := Option.some.inj (hx112_2.symm.trans hx120_2); injection ea_ with ea_ en_ ec_; subst ea_; subst ec_; clear en_; have p121 : 0 ≤ (x4_2 : Int) := of_decide_eq_true (by first | (with_reducible assumption) | assumption); have q121 : x4_2 < (((rd_T27 l0 0).f2).length : Int) := of_decide_eq_true (by first | (with_reducible assumption) | assumption); obtain ⟨ad121, e121, hx121_0⟩ := Kd.at_int HR120_2.out x4_2 p121 q121; cases e121; replace p121 := eq_true p121; replace q121 := eq_true q121) | (go_at_call 53; (with_reducible refine (spec_l00In.calls (rd ((rd_T27 l0 0).f2) x4_2) 2 3 false _ A21.out).mono ?_); rintro e w' ⟨rfl, ⟨nd, rfl⟩⟩))
                            go_ret
                            exact ⟨by first | rfl | (simp; done) | (simp [*]; done), by repeat (first | exact Drawn0.refl _ | apply Drawn0.step)⟩
                        · rw [if_neg c20] at H
                          exact absurd H (by simp)
                      · rw [if_neg c19] at H
                        have c19b0 : decide (0 < x4_2) = false := decide_eq_false c19
                        clear c19
                        have H' := Aside0.mk H
                        clear H
                        have p112 : 0 ≤ (0 : Int) := (by omega)
                        have q112 : 0 < (l0.length : Int) := of_decide_eq_true (by first | (with_reducible assumption) | assumption)
                        obtain ⟨ad112, A112_1, c112_1, A112_2, c112_2, e112, hx112_0, hx112_1, hx112_2, hl112_1, hi112_1, hl112_2, hi112_2⟩ := at_T27 HR0.out 0 p112 q112
                        obtain rfl : ad105 = ad112 := (by injection e112)
                        have qi112 : (0 < l0.length) = True := eq_true (by omega)
                        (try rw [show ((0 : Int)).toNat = 0 from rfl] at hx112_0)
                        (try rw [show 0 * 3 = 0 from rfl] at hx112_0)
                        (try rw [Addr.add_zero'] at hx112_0)
                        (try rw [show ((0 : Int)).toNat = 0 from rfl] at hx112_1)
                        (try rw [show 0 * 3 = 0 from rfl] at hx112_1)
                        (try rw [Addr.add_zero'] at hx112_1)
                        (try rw [show ((0 : Int)).toNat = 0 from rfl] at hx112_2)
                        (try rw [show 0 * 3 = 0 from rfl] at hx112_2)
                        (try rw [Addr.add_zero'] at hx112_2)
                        have HR112_1 := Aside0.mk hi112_1
                        have HC112_1 := Aside0.mk hl112_1
                        clear hi112_1 hl112_1
                        have HR112_2 := Aside0.mk hi112_2
                        have HC112_2 := Aside0.mk hl112_2
                        clear hi112_2 hl112_2
                        replace p112 := eq_true p112
                        replace q112 := eq_true q112
                        have p113 : 0 ≤ (x4_2 : Int) := of_decide_eq_true (by first | (with_reducible assumption) | assumption)
                        have q113 : x4_2 < (((rd_T27 l0 0).f1).length : Int) := of_decide_eq_true (by first | (with_reducible assumption) | assumption)
                        obtain ⟨ad113, e113, hx113_0⟩ := Kd.at_int HR112_1.out x4_2 p113 q113
                        cases e113
                        replace p113 := eq_true p113
                        replace q113 := eq_true q113
                        go_wp2_with (first | ((with_reducible refine gate_callee (f := 53) rfl ?_); refine goesL_ (some 42) rfl rfl Try.func53 (by kernel_rfl) rfl #[.int .i64 (rd ((rd_T27 l0 0).f1) x4_2), .int .i64 1, .int .i64 16] rfl (by (try simp only [List.map_toArray, List.map_cons, List.map_nil]); first | done | rfl | (simp only [List.length_drop, List.length_take]; rfl)) ?_; (with_reducible refine (spec_l00In.calls (rd ((rd_T27 l0 0).f1) x4_2) 1 16 true _ A11.out).mono ?_); rintro e w' ⟨rfl, ⟨nd, rfl⟩⟩; refine ⟨_, rfl, ?_⟩))
                        go_roundg k2
                        case measure => have := HJ1.out; have := HK2.out; omega
                        case rel => exact ⟨(wrap64 (x4_2 + 1)), (by first | rfl | (simp; done) | (simp [*]; done)), H', ⟨by have := HJ1.out; have := HK2.out; omega⟩, by repeat (first | exact Drawn0.refl _ | apply Drawn0.step)⟩
                  · replace c12 := Bool.eq_false_iff.mpr c12
                    subst c12
                    have H1 : (some false) = some r := by rw [if_neg (show ¬ (false = true) by decide)] at H; exact H
                    clear H
                    have H := H1
                    clear H1
                    obtain rfl := Option.some.inj H
                    have p112 : 0 ≤ (0 : Int) := (by omega)
                    have q112 : 0 < (l0.length : Int) := of_decide_eq_true (by first | (with_reducible assumption) | assumption)
                    obtain ⟨ad112, A112_1, c112_1, A112_2, c112_2, e112, hx112_0, hx112_1, hx112_2, hl112_1, hi112_1, hl112_2, hi112_2⟩ := at_T27 HR0.out 0 p112 q112
                    obtain rfl : ad105 = ad112 := (by injection e112)
                    have qi112 : (0 < l0.length) = True := eq_true (by omega)
                    (try rw [show ((0 : Int)).toNat = 0 from rfl] at hx112_0)
                    (try rw [show 0 * 3 = 0 from rfl] at hx112_0)
                    (try rw [Addr.add_zero'] at hx112_0)
                    (try rw [show ((0 : Int)).toNat = 0 from rfl] at hx112_1)
                    (try rw [show 0 * 3 = 0 from rfl] at hx112_1)
                    (try rw [Addr.add_zero'] at hx112_1)
                    (try rw [show ((0 : Int)).toNat = 0 from rfl] at hx112_2)
                    (try rw [show 0 * 3 = 0 from rfl] at hx112_2)
                    (try rw [Addr.add_zero'] at hx112_2)
                    have HR112_1 := Aside0.mk hi112_1
                    have HC112_1 := Aside0.mk hl112_1
                    clear hi112_1 hl112_1
                    have HR112_2 := Aside0.mk hi112_2
                    have HC112_2 := Aside0.mk hl112_2
                    clear hi112_2 hl112_2
                    replace p112 := eq_true p112
                    replace q112 := eq_true q112
                    have p113 : 0 ≤ (x4_2 : Int) := of_decide_eq_true (by first | (with_reducible assumption) | assumption)
                    have q113 : x4_2 < (((rd_T27 l0 0).f1).length : Int) := of_decide_eq_true (by first | (with_reducible assumption) | assumption)
                    obtain ⟨ad113, e113, hx113_0⟩ := Kd.at_int HR112_1.out x4_2 p113 q113
                    cases e113
                    replace p113 := eq_true p113
                    replace q113 := eq_true q113
                    go_wp2_with (first | ((with_reducible refine gate_callee (f := 53) rfl ?_); refine goesL_ (some 42) rfl rfl Try.func53 (by kernel_rfl) rfl #[.int .i64 (rd ((rd_T27 l0 0).f1) x4_2), .int .i64 1, .int .i64 16] rfl (by (try simp only [List.map_toArray, List.map_cons, List.map_nil]); first | done | rfl | (simp only [List.length_drop, List.length_take]; rfl)) ?_; (with_reducible refine (spec_l00In.calls (rd ((rd_T27 l0 0).f1) x4_2) 1 16 false _ A11.out).mono ?_); rintro e w' ⟨rfl, ⟨nd, rfl⟩⟩; refine ⟨_, rfl, ?_⟩))
                    go_ret
                    exact ⟨by first | rfl | (simp; done) | (simp [*]; done), by repeat (first | exact Drawn0.refl _ | apply Drawn0.step)⟩
                · rw [if_neg c10] at H
                  exact absurd H (by simp)
              · rw [if_neg c9] at H
                exact absurd H (by simp)
            · rw [if_neg c8] at H
              have c8b0 : decide (x4_2 < (((rd_T27 l0 0).f1).length : Int)) = false := decide_eq_false c8
              clear c8
              replace H := Option.bind_eq_some_iff.mp H
              obtain ⟨t111, A230, H⟩ := H
              replace H : (some (decide (t111 ≤ 32))) = some r := H
              have A23 := Aside0.mk A230
              clear A230
              obtain rfl := Option.some.inj H
              have p110 : 0 ≤ (0 : Int) := (by omega)
              have q110 : 0 < (l0.length : Int) := of_decide_eq_true (by first | (with_reducible assumption) | assumption)
              obtain ⟨ad110, A110_1, c110_1, A110_2, c110_2, e110, hx110_0, hx110_1, hx110_2, hl110_1, hi110_1, hl110_2, hi110_2⟩ := at_T27 HR0.out 0 p110 q110
              obtain rfl : ad105 = ad110 := (by injection e110)
              have qi110 : (0 < l0.length) = True := eq_true (by omega)
              (try rw [show ((0 : Int)).toNat = 0 from rfl] at hx110_0)
              (try rw [show 0 * 3 = 0 from rfl] at hx110_0)
              (try rw [Addr.add_zero'] at hx110_0)
              (try rw [show ((0 : Int)).toNat = 0 from rfl] at hx110_1)
              (try rw [show 0 * 3 = 0 from rfl] at hx110_1)
              (try rw [Addr.add_zero'] at hx110_1)
              (try rw [show ((0 : Int)).toNat = 0 from rfl] at hx110_2)
              (try rw [show 0 * 3 = 0 from rfl] at hx110_2)
              (try rw [Addr.add_zero'] at hx110_2)
              have HR110_1 := Aside0.mk hi110_1
              have HC110_1 := Aside0.mk hl110_1
              clear hi110_1 hl110_1
              have HR110_2 := Aside0.mk hi110_2
              have HC110_2 := Aside0.mk hl110_2
              clear hi110_2 hl110_2
              replace p110 := eq_true p110
              replace q110 := eq_true q110
              go_wp2_with (first | ((with_reducible refine gate_callee (f := 87) rfl ?_); refine goesL_ (some 75) rfl rfl Try.func87 (by kernel_rfl) rfl #[.slice A110_1 ((rd_T27 l0 0).f1).length c110_1] rfl (by (try simp only [List.map_toArray, List.map_cons, List.map_nil]); first | done | rfl | (simp only [List.length_drop, List.length_take]; rfl)) ?_; (with_reducible refine (spec_l17Sum.calls k2 _ _ ((rd_T27 l0 0).f1) t111 _ ?side1 ?side2 A23.out).mono ?_); (case side1 => repeat (first | exact HR110_1.out | (with_reducible refine Kd.C_alloc ?_ _) | (with_reducible refine Kd.C_drewN ?_ _) | (with_reducible refine Kd.C_drew ?_))); (case side2 => exact HC110_1.out); rintro e w' ⟨rfl, ⟨nd, rfl⟩⟩; refine ⟨_, rfl, ?_⟩))
              go_ret
              exact ⟨by first | rfl | (simp; done) | (simp [*]; done), by repeat (first | exact Drawn0.refl _ | apply Drawn0.step)⟩

end Go.Proofs.Ythimhjghepdccaa.PN
