-- WRITTEN BY wip/gprint.py, a program of this session's over the kit's print, with contracts given by hand
import Derived.Test.YtfelkjbfeenmbaaPx0
import Derived.Test.YtfelkjbfeenmbaaPx12
namespace Go.Proofs.Ytfelkjbfeenmbaa.P
open Go.RowKit Go.Proofs.YtfelkjbfeenmbaaW.PrintWords Go.Proofs.YtfelkjbfeenmbaaW.PrintLast Go.Proofs.YtfelkjbfeenmbaaW.PrintMore
attribute [local go_sem] max2_int min2_int max_two min_two max_three min_three max_four min_four   -- for this text's walks alone
set_option linter.unusedVariables false
set_option linter.unusedSimpArgs false

/-! ### spec_l18Next: function 63 -/
def spec_l18Next.f (l0 : List (S26)) (a1 : Int) (a2 : Int) : Option (Int × Int) := if ((rd_T26 l0 0).f1) = 1 then (some (wrap64 (a1 + 1), 0)) else (if ((rd_T26 l0 0).f1) = 2 then (some (0, wrap64 (a2 + 1))) else (some (wrap64 (a1 + 1), wrap64 (a2 + 1))))
set_option maxHeartbeats 8000000 in
set_option maxRecDepth 100000 in
theorem spec_l18Next.calls (A0 : Option Addr) (l0 : List (S26)) (a1 : Int) (a2 : Int) (r1 : Int) (r2 : Int) (w : World) (hr0 : Kd.C k26 w A0 l0.length l0) (hn0 : 0 < l0.length) (h : spec_l18Next.f l0 a1 a2 = some (r1, r2)) :
    Calls Try.prog 63 #[.pointer A0, .int .i64 a1, .int .i64 a2] w fun e w' => e = .returned (.tuple #[.int .i64 r1, .int .i64 r2]) ∧ Drawn0 w w' := by
  have HR0 := Aside0.mk hr0
  clear hr0
  have HN0 := Aside0.mk hn0
  have hn0b0 : decide ((0 : Int) < (l0.length : Int)) = true := decide_eq_true (Int.ofNat_lt.2 hn0)
  have hn0b1 : decide (0 < l0.length) = true := decide_eq_true hn0
  clear hn0
  have H : (if ((rd_T26 l0 0).f1) = 1 then (some (wrap64 (a1 + 1), 0)) else (if ((rd_T26 l0 0).f1) = 2 then (some (0, wrap64 (a2 + 1))) else (some (wrap64 (a1 + 1), wrap64 (a2 + 1))))) = some (r1, r2) := h
  clear h
  by_cases c4 : ((rd_T26 l0 0).f1) = 1
  · rw [if_pos c4] at H
    have c4b0 : (((rd_T26 l0 0).f1) == 1) = true := beq_iff_eq.mpr c4
    have c4b1 : (((rd_T26 l0 0).f1) != 1) = false := bne_eq_false_iff_eq.mpr c4
    clear c4
    simp only [Option.some.injEq, Prod.mk.injEq] at H
    obtain ⟨rfl, rfl⟩ := H
    have p337 : 0 ≤ (0 : Int) := (by omega)
    have q337 : 0 < (l0.length : Int) := of_decide_eq_true (by first | (with_reducible assumption) | assumption)
    obtain ⟨ad337, e337, hx337_0, hx337_1, hx337_2⟩ := at_T26 HR0.out 0 p337 q337
    cases e337
    have qi337 : (0 < l0.length) = True := eq_true (by omega)
    (try rw [show ((0 : Int)).toNat = 0 from rfl] at hx337_0)
    (try rw [show 0 * 3 = 0 from rfl] at hx337_0)
    (try rw [Addr.add_zero'] at hx337_0)
    (try rw [show ((0 : Int)).toNat = 0 from rfl] at hx337_1)
    (try rw [show 0 * 3 = 0 from rfl] at hx337_1)
    (try rw [Addr.add_zero'] at hx337_1)
    (try rw [show ((0 : Int)).toNat = 0 from rfl] at hx337_2)
    (try rw [show 0 * 3 = 0 from rfl] at hx337_2)
    (try rw [Addr.add_zero'] at hx337_2)
    replace p337 := eq_true p337
    replace q337 := eq_true q337
    go_enter Try.func63, Try.ntmps63
    go_wp2
    go_ret2
    exact ⟨by first | rfl | (simp; done) | (simp [*]; done), by repeat (first | exact Drawn0.refl _ | apply Drawn0.step)⟩
  · rw [if_neg c4] at H
    have c4b0 : (((rd_T26 l0 0).f1) == 1) = false := beq_eq_false_iff_ne.mpr c4
    have c4b1 : (((rd_T26 l0 0).f1) != 1) = true := bne_iff_ne.mpr c4
    by_cases c5 : ((rd_T26 l0 0).f1) = 2
    · rw [if_pos c5] at H
      have c5b0 : (((rd_T26 l0 0).f1) == 2) = true := beq_iff_eq.mpr c5
      have c5b1 : (((rd_T26 l0 0).f1) != 2) = false := bne_eq_false_iff_eq.mpr c5
      clear c5
      simp only [Option.some.injEq, Prod.mk.injEq] at H
      obtain ⟨rfl, rfl⟩ := H
      have p337 : 0 ≤ (0 : Int) := (by omega)
      have q337 : 0 < (l0.length : Int) := of_decide_eq_true (by first | (with_reducible assumption) | assumption)
      obtain ⟨ad337, e337, hx337_0, hx337_1, hx337_2⟩ := at_T26 HR0.out 0 p337 q337
      cases e337
      have qi337 : (0 < l0.length) = True := eq_true (by omega)
      (try rw [show ((0 : Int)).toNat = 0 from rfl] at hx337_0)
      (try rw [show 0 * 3 = 0 from rfl] at hx337_0)
      (try rw [Addr.add_zero'] at hx337_0)
      (try rw [show ((0 : Int)).toNat = 0 from rfl] at hx337_1)
      (try rw [show 0 * 3 = 0 from rfl] at hx337_1)
      (try rw [Addr.add_zero'] at hx337_1)
      (try rw [show ((0 : Int)).toNat = 0 from rfl] at hx337_2)
      (try rw [show 0 * 3 = 0 from rfl] at hx337_2)
      (try rw [Addr.add_zero'] at hx337_2)
      replace p337 := eq_true p337
      replace q337 := eq_true q337
      have p338 : 0 ≤ (0 : Int) := (by omega)
      have q338 : 0 < (l0.length : Int) := of_decide_eq_true (by first | (with_reducible assumption) | assumption)
      obtain ⟨ad338, e338, hx338_0, hx338_1, hx338_2⟩ := at_T26 HR0.out 0 p338 q338
      obtain rfl : ad337 = ad338 := (by injection e338)
      have qi338 : (0 < l0.length) = True := eq_true (by omega)
      (try rw [show ((0 : Int)).toNat = 0 from rfl] at hx338_0)
      (try rw [show 0 * 3 = 0 from rfl] at hx338_0)
      (try rw [Addr.add_zero'] at hx338_0)
      (try rw [show ((0 : Int)).toNat = 0 from rfl] at hx338_1)
      (try rw [show 0 * 3 = 0 from rfl] at hx338_1)
      (try rw [Addr.add_zero'] at hx338_1)
      (try rw [show ((0 : Int)).toNat = 0 from rfl] at hx338_2)
      (try rw [show 0 * 3 = 0 from rfl] at hx338_2)
      (try rw [Addr.add_zero'] at hx338_2)
      replace p338 := eq_true p338
      replace q338 := eq_true q338
      go_enter Try.func63, Try.ntmps63
      go_wp2
      go_ret2
      exact ⟨by first | rfl | (simp; done) | (simp [*]; done), by repeat (first | exact Drawn0.refl _ | apply Drawn0.step)⟩
    · rw [if_neg c5] at H
      have c5b0 : (((rd_T26 l0 0).f1) == 2) = false := beq_eq_false_iff_ne.mpr c5
      have c5b1 : (((rd_T26 l0 0).f1) != 2) = true := bne_iff_ne.mpr c5
      simp only [Option.some.injEq, Prod.mk.injEq] at H
      obtain ⟨rfl, rfl⟩ := H
      have p337 : 0 ≤ (0 : Int) := (by omega)
      have q337 : 0 < (l0.length : Int) := of_decide_eq_true (by first | (with_reducible assumption) | assumption)
      obtain ⟨ad337, e337, hx337_0, hx337_1, hx337_2⟩ := at_T26 HR0.out 0 p337 q337
      cases e337
      have qi337 : (0 < l0.length) = True := eq_true (by omega)
      (try rw [show ((0 : Int)).toNat = 0 from rfl] at hx337_0)
      (try rw [show 0 * 3 = 0 from rfl] at hx337_0)
      (try rw [Addr.add_zero'] at hx337_0)
      (try rw [show ((0 : Int)).toNat = 0 from rfl] at hx337_1)
      (try rw [show 0 * 3 = 0 from rfl] at hx337_1)
      (try rw [Addr.add_zero'] at hx337_1)
      (try rw [show ((0 : Int)).toNat = 0 from rfl] at hx337_2)
      (try rw [show 0 * 3 = 0 from rfl] at hx337_2)
      (try rw [Addr.add_zero'] at hx337_2)
      replace p337 := eq_true p337
      replace q337 := eq_true q337
      have p338 : 0 ≤ (0 : Int) := (by omega)
      have q338 : 0 < (l0.length : Int) := of_decide_eq_true (by first | (with_reducible assumption) | assumption)
      obtain ⟨ad338, e338, hx338_0, hx338_1, hx338_2⟩ := at_T26 HR0.out 0 p338 q338
      obtain rfl : ad337 = ad338 := (by injection e338)
      have qi338 : (0 < l0.length) = True := eq_true (by omega)
      (try rw [show ((0 : Int)).toNat = 0 from rfl] at hx338_0)
      (try rw [show 0 * 3 = 0 from rfl] at hx338_0)
      (try rw [Addr.add_zero'] at hx338_0)
      (try rw [show ((0 : Int)).toNat = 0 from rfl] at hx338_1)
      (try rw [show 0 * 3 = 0 from rfl] at hx338_1)
      (try rw [Addr.add_zero'] at hx338_1)
      (try rw [show ((0 : Int)).toNat = 0 from rfl] at hx338_2)
      (try rw [show 0 * 3 = 0 from rfl] at hx338_2)
      (try rw [Addr.add_zero'] at hx338_2)
      replace p338 := eq_true p338
      replace q338 := eq_true q338
      go_enter Try.func63, Try.ntmps63
      go_wp2
      go_ret2
      exact ⟨by first | rfl | (simp; done) | (simp [*]; done), by repeat (first | exact Drawn0.refl _ | apply Drawn0.step)⟩

/-! ### spec_l00Max: function 73 -/
def spec_l00Max.f (a0 : Int) (a1 : Int) : Option (Int) := if a0 > a1 then (some a0) else (some a1)
set_option maxHeartbeats 8000000 in
set_option maxRecDepth 100000 in
theorem spec_l00Max.calls (a0 : Int) (a1 : Int) (r : Int) (w : World) (h : spec_l00Max.f a0 a1 = some r) :
    Calls Try.prog 73 #[.int .i64 a0, .int .i64 a1] w fun e w' => e = .returned (.int .i64 r) ∧ Drawn0 w w' := by
  have H : (if a0 > a1 then (some a0) else (some a1)) = some r := h
  clear h
  by_cases c3 : a0 > a1
  · rw [if_pos c3] at H
    have c3b0 : decide (a1 < a0) = true := decide_eq_true c3
    clear c3
    obtain rfl := Option.some.inj H
    go_enter Try.func73, Try.ntmps73
    go_wp2
    go_ret
    exact ⟨by first | rfl | (simp; done) | (simp [*]; done), by repeat (first | exact Drawn0.refl _ | apply Drawn0.step)⟩
  · rw [if_neg c3] at H
    have c3b0 : decide (a1 < a0) = false := decide_eq_false c3
    clear c3
    obtain rfl := Option.some.inj H
    go_enter Try.func73, Try.ntmps73
    go_wp2
    go_ret
    exact ⟨by first | rfl | (simp; done) | (simp [*]; done), by repeat (first | exact Drawn0.refl _ | apply Drawn0.step)⟩

/-! ### spec_l18Run: function 58 -/
def spec_l18Run.l0 : Nat → List (S26) → List Int → Int → Int → Int → Int → Int → Option (Int × Int)
  | 0, _, _, _, _, _, _, _ => none
  | k + 1, x0, x1, x6, x7, x8, x9, x10 => if x10 < (x1.length : Int) then (if 0 ≤ x10 then (if 0 ≤ (rd x1 x10) then (if (rd x1 x10) < (x0.length : Int) then ((spec_l18Next.f [rd_T26 x0 (rd x1 x10)] x8 x9).bind fun bt341 => ((spec_l00Max.f bt341.1 bt341.2).bind fun t343 => (if t343 > x7 then (spec_l18Run.l0 k x0 x1 (wrap64 ((wrap64 (x10 + 1)) - t343)) t343 bt341.1 bt341.2 (wrap64 (x10 + 1))) else (spec_l18Run.l0 k x0 x1 x6 x7 bt341.1 bt341.2 (wrap64 (x10 + 1)))))) else (none)) else (none)) else (none)) else (some (x6, x7))
def spec_l18Run.f (k : Nat) (l0 : List (S26)) (l1 : List Int) : Option (Int × Int) := spec_l18Run.l0 k l0 l1 0 0 0 0 0
theorem spec_l18Run.mono_l : ∀ k, (∀ y0 y1 y2 y3 y4 y5 y6, LeO (spec_l18Run.l0 k y0 y1 y2 y3 y4 y5 y6) (spec_l18Run.l0 (k + 1) y0 y1 y2 y3 y4 y5 y6))
  | 0 => fun _ _ _ _ _ _ _ r h => by simp [spec_l18Run.l0] at h
  | k + 1 => by
    have ih0 := spec_l18Run.mono_l k
    · intro y0 y1 y2 y3 y4 y5 y6
      unfold spec_l18Run.l0
      repeat' first
      | (with_reducible exact ih0 _ _ _ _ _ _ _)
      | (with_reducible exact LeO.refl _)
      | (with_reducible exact LeO.none _)
      | (with_reducible refine LeO.ite ?_ ?_)
      | (with_reducible refine LeO.bind ?_ (fun _ => ?_))
      | exact ih0 _ _ _ _ _ _ _
      | exact LeO.none _
      | refine LeO.ite ?_ ?_
      | refine LeO.bind ?_ (fun _ => ?_)
theorem spec_l18Run.mono : ∀ a0 a1 k, LeO (spec_l18Run.f k a0 a1) (spec_l18Run.f (k + 1) a0 a1) := by
  intro a0 a1 k
  have ih0 := spec_l18Run.mono_l k
  unfold spec_l18Run.f
  repeat' first
      | (with_reducible exact ih0 _ _ _ _ _ _ _)
      | (with_reducible exact LeO.refl _)
      | (with_reducible exact LeO.none _)
      | (with_reducible refine LeO.ite ?_ ?_)
      | (with_reducible refine LeO.bind ?_ (fun _ => ?_))
      | exact ih0 _ _ _ _ _ _ _
      | exact LeO.none _
      | refine LeO.ite ?_ ?_
      | refine LeO.bind ?_ (fun _ => ?_)
set_option maxHeartbeats 8000000 in
set_option maxRecDepth 100000 in
theorem spec_l18Run.calls (k : Nat) (A0 : Option Addr) (c0 : Nat) (l0 : List (S26)) (A1 : Option Addr) (c1 : Nat) (l1 : List Int) (r1 : Int) (r2 : Int) (w : World) (hr0 : Kd.C k26 w A0 l0.length l0) (hc0 : l0.length ≤ c0) (hr1 : Kd.C (Kd.int .i64) w A1 l1.length l1) (hc1 : l1.length ≤ c1) (h : spec_l18Run.f k l0 l1 = some (r1, r2)) :
    Calls Try.prog 58 #[.slice A0 l0.length c0, .slice A1 l1.length c1] w fun e w' => e = .returned (.tuple #[.int .i64 r1, .int .i64 r2]) ∧ Drawn0 w w' := by
  have HR0 := Aside0.mk hr0
  have HC0 := Aside0.mk hc0
  clear hr0 hc0
  have HR1 := Aside0.mk hr1
  have HC1 := Aside0.mk hc1
  clear hr1 hc1
  have H : (spec_l18Run.l0 k l0 l1 0 0 0 0 0) = some (r1, r2) := h
  clear h
  have H' := Aside0.mk H
  clear H
  go_enter Try.func58, Try.ntmps58
  go_wp2
  go_loopg [6, 7, 8, 9, 10] k (fun kq v6 v7 v8 v9 v10 w' => ∃ (x6_1 : Int) (x7_1 : Int) (x8_1 : Int) (x9_1 : Int) (x10_1 : Int), v6 = .int .i64 x6_1 ∧ v7 = .int .i64 x7_1 ∧ v8 = .int .i64 x8_1 ∧ v9 = .int .i64 x9_1 ∧ v10 = .int .i64 x10_1 ∧ Aside0 (spec_l18Run.l0 kq l0 l1 x6_1 x7_1 x8_1 x9_1 x10_1 = some (r1, r2)) ∧ Aside0 (kq ≤ k) ∧ Drawn0 w w')
  case atStart => exact ⟨(0), (0), (0), (0), (0), (by first | rfl | (simp; done) | (simp [*]; done)), (by first | rfl | (simp; done) | (simp [*]; done)), (by first | rfl | (simp; done) | (simp [*]; done)), (by first | rfl | (simp; done) | (simp [*]; done)), (by first | rfl | (simp; done) | (simp [*]; done)), H', ⟨Nat.le_refl _⟩, by repeat (first | exact Drawn0.refl _ | apply Drawn0.step)⟩
  case round =>
    clear H'
    try clear c1
    try clear p2
    obtain ⟨x6_1, x7_1, x8_1, x9_1, x10_1, rfl, rfl, rfl, rfl, rfl, HA, HK1, ⟨m1, rfl⟩⟩ := hrel
    cases gk with
    | zero => exact absurd HA.out (by simp [spec_l18Run.l0])
    | succ k1 =>
      have H := HA.out
      clear HA
      simp only [spec_l18Run.l0] at H
      by_cases c3 : x10_1 < (l1.length : Int)
      · rw [if_pos c3] at H
        have c3b0 : decide (x10_1 < (l1.length : Int)) = true := decide_eq_true c3
        clear c3
        by_cases c4 : 0 ≤ x10_1
        · rw [if_pos c4] at H
          have c4b0 : decide (0 ≤ x10_1) = true := decide_eq_true c4
          clear c4
          by_cases c5 : 0 ≤ (rd l1 x10_1)
          · rw [if_pos c5] at H
            have c5b0 : decide (0 ≤ (rd l1 x10_1)) = true := decide_eq_true c5
            clear c5
            by_cases c6 : (rd l1 x10_1) < (l0.length : Int)
            · rw [if_pos c6] at H
              have c6b0 : decide ((rd l1 x10_1) < (l0.length : Int)) = true := decide_eq_true c6
              clear c6
              replace H := Option.bind_eq_some_iff.mp H
              obtain ⟨⟨t341, t342⟩, A70, H⟩ := H
              replace H : ((spec_l00Max.f t341 t342).bind fun t343 => (if t343 > x7_1 then (spec_l18Run.l0 k1 l0 l1 (wrap64 ((wrap64 (x10_1 + 1)) - t343)) t343 t341 t342 (wrap64 (x10_1 + 1))) else (spec_l18Run.l0 k1 l0 l1 x6_1 x7_1 t341 t342 (wrap64 (x10_1 + 1))))) = some (r1, r2) := H
              have A7 := Aside0.mk A70
              clear A70
              replace H := Option.bind_eq_some_iff.mp H
              obtain ⟨t343, A80, H⟩ := H
              replace H : (if t343 > x7_1 then (spec_l18Run.l0 k1 l0 l1 (wrap64 ((wrap64 (x10_1 + 1)) - t343)) t343 t341 t342 (wrap64 (x10_1 + 1))) else (spec_l18Run.l0 k1 l0 l1 x6_1 x7_1 t341 t342 (wrap64 (x10_1 + 1)))) = some (r1, r2) := H
              have A8 := Aside0.mk A80
              clear A80
              by_cases c9 : t343 > x7_1
              · rw [if_pos c9] at H
                have c9b0 : decide (x7_1 < t343) = true := decide_eq_true c9
                clear c9
                have H' := Aside0.mk H
                clear H
                have p339 : 0 ≤ (x10_1 : Int) := of_decide_eq_true (by first | (with_reducible assumption) | assumption)
                have q339 : x10_1 < (l1.length : Int) := of_decide_eq_true (by first | (with_reducible assumption) | assumption)
                obtain ⟨ad339, e339, hx339_0⟩ := Kd.at_int HR1.out x10_1 p339 q339
                cases e339
                replace p339 := eq_true p339
                replace q339 := eq_true q339
                have p340 : 0 ≤ ((rd l1 x10_1) : Int) := of_decide_eq_true (by first | (with_reducible assumption) | assumption)
                have q340 : (rd l1 x10_1) < (l0.length : Int) := of_decide_eq_true (by first | (with_reducible assumption) | assumption)
                obtain ⟨ad340, e340, hx340_0, hx340_1, hx340_2⟩ := at_T26 HR0.out (rd l1 x10_1) p340 q340
                cases e340
                replace p340 := eq_true p340
                replace q340 := eq_true q340
                go_wp2_with (first | ((with_reducible refine gate_callee (f := 63) rfl ?_); refine goesL_ (some 29) rfl rfl Try.func63 (by kernel_rfl) rfl #[.pointer (some (ad340.add (((rd l1 x10_1)).toNat * 3))), .int .i64 x8_1, .int .i64 x9_1] rfl (by (try simp only [List.map_toArray, List.map_cons, List.map_nil]); first | done | rfl | (simp only [List.length_drop, List.length_take]; rfl)) ?_; (with_reducible refine (spec_l18Next.calls _ [rd_T26 l0 (rd l1 x10_1)] x8_1 x9_1 t341 t342 _ ?side1 ?side2 A7.out).mono ?_); (case side1 => refine Kd.C_one (i := (rd l1 x10_1)) (n := l0.length) (xs := l0) (z := z26) ?_ (of_eq_true p340) (of_eq_true q340); repeat (first | exact HR0.out | (with_reducible refine Kd.C_alloc ?_ _) | (with_reducible refine Kd.C_drewN ?_ _) | (with_reducible refine Kd.C_drew ?_))); (case side2 => exact Nat.one_pos); rintro e w' ⟨rfl, ⟨nd, rfl⟩⟩; refine ⟨_, rfl, ?_⟩) | ((with_reducible refine gate_callee (f := 73) rfl ?_); refine goesL_ (some 36) rfl rfl Try.func73 (by kernel_rfl) rfl #[.int .i64 t341, .int .i64 t342] rfl (by (try simp only [List.map_toArray, List.map_cons, List.map_nil]); first | done | rfl | (simp only [List.length_drop, List.length_take]; rfl)) ?_; (with_reducible refine (spec_l00Max.calls t341 t342 t343 _ A8.out).mono ?_); rintro e w' ⟨rfl, ⟨nd, rfl⟩⟩; refine ⟨_, rfl, ?_⟩))
                go_roundg k1
                case measure => have := HK1.out; omega
                case rel => exact ⟨(wrap64 ((wrap64 (x10_1 + 1)) - t343)), (t343), (t341), (t342), (wrap64 (x10_1 + 1)), (by first | rfl | (simp; done) | (simp [*]; done)), (by first | rfl | (simp; done) | (simp [*]; done)), (by first | rfl | (simp; done) | (simp [*]; done)), (by first | rfl | (simp; done) | (simp [*]; done)), (by first | rfl | (simp; done) | (simp [*]; done)), H', ⟨by have := HK1.out; omega⟩, by repeat (first | exact Drawn0.refl _ | apply Drawn0.step)⟩
              · rw [if_neg c9] at H
                have c9b0 : decide (x7_1 < t343) = false := decide_eq_false c9
                clear c9
                have H' := Aside0.mk H
                clear H
                have p339 : 0 ≤ (x10_1 : Int) := of_decide_eq_true (by first | (with_reducible assumption) | assumption)
                have q339 : x10_1 < (l1.length : Int) := of_decide_eq_true (by first | (with_reducible assumption) | assumption)
                obtain ⟨ad339, e339, hx339_0⟩ := Kd.at_int HR1.out x10_1 p339 q339
                cases e339
                replace p339 := eq_true p339
                replace q339 := eq_true q339
                have p340 : 0 ≤ ((rd l1 x10_1) : Int) := of_decide_eq_true (by first | (with_reducible assumption) | assumption)
                have q340 : (rd l1 x10_1) < (l0.length : Int) := of_decide_eq_true (by first | (with_reducible assumption) | assumption)
                obtain ⟨ad340, e340, hx340_0, hx340_1, hx340_2⟩ := at_T26 HR0.out (rd l1 x10_1) p340 q340
                cases e340
                replace p340 := eq_true p340
                replace q340 := eq_true q340
                go_wp2_with (first | ((with_reducible refine gate_callee (f := 63) rfl ?_); refine goesL_ (some 29) rfl rfl Try.func63 (by kernel_rfl) rfl #[.pointer (some (ad340.add (((rd l1 x10_1)).toNat * 3))), .int .i64 x8_1, .int .i64 x9_1] rfl (by (try simp only [List.map_toArray, List.map_cons, List.map_nil]); first | done | rfl | (simp only [List.length_drop, List.length_take]; rfl)) ?_; (with_reducible refine (spec_l18Next.calls _ [rd_T26 l0 (rd l1 x10_1)] x8_1 x9_1 t341 t342 _ ?side1 ?side2 A7.out).mono ?_); (case side1 => refine Kd.C_one (i := (rd l1 x10_1)) (n := l0.length) (xs := l0) (z := z26) ?_ (of_eq_true p340) (of_eq_true q340); repeat (first | exact HR0.out | (with_reducible refine Kd.C_alloc ?_ _) | (with_reducible refine Kd.C_drewN ?_ _) | (with_reducible refine Kd.C_drew ?_))); (case side2 => exact Nat.one_pos); rintro e w' ⟨rfl, ⟨nd, rfl⟩⟩; refine ⟨_, rfl, ?_⟩) | ((with_reducible refine gate_callee (f := 73) rfl ?_); refine goesL_ (some 36) rfl rfl Try.func73 (by kernel_rfl) rfl #[.int .i64 t341, .int .i64 t342] rfl (by (try simp only [List.map_toArray, List.map_cons, List.map_nil]); first | done | rfl | (simp only [List.length_drop, List.length_take]; rfl)) ?_; (with_reducible refine (spec_l00Max.calls t341 t342 t343 _ A8.out).mono ?_); rintro e w' ⟨rfl, ⟨nd, rfl⟩⟩; refine ⟨_, rfl, ?_⟩))
                go_roundg k1
                case measure => have := HK1.out; omega
                case rel => exact ⟨(x6_1), (x7_1), (t341), (t342), (wrap64 (x10_1 + 1)), (by first | rfl | (simp; done) | (simp [*]; done)), (by first | rfl | (simp; done) | (simp [*]; done)), (by first | rfl | (simp; done) | (simp [*]; done)), (by first | rfl | (simp; done) | (simp [*]; done)), (by first | rfl | (simp; done) | (simp [*]; done)), H', ⟨by have := HK1.out; omega⟩, by repeat (first | exact Drawn0.refl _ | apply Drawn0.step)⟩
            · rw [if_neg c6] at H
              exact absurd H (by simp)
          · rw [if_neg c5] at H
            exact absurd H (by simp)
        · rw [if_neg c4] at H
          exact absurd H (by simp)
      · rw [if_neg c3] at H
        have c3b0 : decide (x10_1 < (l1.length : Int)) = false := decide_eq_false c3
        clear c3
        simp only [Option.some.injEq, Prod.mk.injEq] at H
        obtain ⟨rfl, rfl⟩ := H
        go_wp2
        go_ret2
        exact ⟨by first | rfl | (simp; done) | (simp [*]; done), by repeat (first | exact Drawn0.refl _ | apply Drawn0.step)⟩

/-! ### spec_LongestRun: function 35 -/
def spec_LongestRun.f (k : Nat) (l0 : List (S26)) (l1 : List Int) : Option (Int × Int × Int) := (spec_l18Ask.f k l0 l1).bind fun t344 => (if t344 = 0 then ((spec_l18Run.f k l0 l1).bind fun bt345 => (some (bt345.1, bt345.2, 0))) else (some (0, 0, t344)))
theorem spec_LongestRun.mono : ∀ a0 a1 k, LeO (spec_LongestRun.f k a0 a1) (spec_LongestRun.f (k + 1) a0 a1) := by
  intro a0 a1 k
  unfold spec_LongestRun.f
  repeat' first
      | (with_reducible exact spec_l18Ask.mono _ _ _)
      | (with_reducible exact spec_l18Run.mono _ _ _)
      | (with_reducible exact LeO.refl _)
      | (with_reducible exact LeO.none _)
      | (with_reducible refine LeO.ite ?_ ?_)
      | (with_reducible refine LeO.bind ?_ (fun _ => ?_))
      | exact spec_l18Ask.mono _ _ _
      | exact spec_l18Run.mono _ _ _
      | exact LeO.none _
      | refine LeO.ite ?_ ?_
      | refine LeO.bind ?_ (fun _ => ?_)
set_option maxHeartbeats 8000000 in
set_option maxRecDepth 100000 in
theorem spec_LongestRun.calls (k : Nat) (A0 : Option Addr) (c0 : Nat) (l0 : List (S26)) (A1 : Option Addr) (c1 : Nat) (l1 : List Int) (r1 : Int) (r2 : Int) (r3 : Int) (w : World) (hr0 : Kd.C k26 w A0 l0.length l0) (hc0 : l0.length ≤ c0) (hr1 : Kd.C (Kd.int .i64) w A1 l1.length l1) (hc1 : l1.length ≤ c1) (h : spec_LongestRun.f k l0 l1 = some (r1, r2, r3)) :
    Calls Try.prog 35 #[.slice A0 l0.length c0, .slice A1 l1.length c1] w fun e w' => e = .returned (.tuple #[.int .i64 r1, .int .i64 r2, .int .i64 r3]) ∧ Drawn0 w w' := by
  have HR0 := Aside0.mk hr0
  have HC0 := Aside0.mk hc0
  clear hr0 hc0
  have HR1 := Aside0.mk hr1
  have HC1 := Aside0.mk hc1
  clear hr1 hc1
  have H : ((spec_l18Ask.f k l0 l1).bind fun t344 => (if t344 = 0 then ((spec_l18Run.f k l0 l1).bind fun bt345 => (some (bt345.1, bt345.2, 0))) else (some (0, 0, t344)))) = some (r1, r2, r3) := h
  clear h
  replace H := Option.bind_eq_some_iff.mp H
  obtain ⟨t344, A30, H⟩ := H
  replace H : (if t344 = 0 then ((spec_l18Run.f k l0 l1).bind fun bt345 => (some (bt345.1, bt345.2, 0))) else (some (0, 0, t344))) = some (r1, r2, r3) := H
  have A3 := Aside0.mk A30
  clear A30
  by_cases c4 : t344 = 0
  · rw [if_pos c4] at H
    have c4b0 : (t344 == 0) = true := beq_iff_eq.mpr c4
    have c4b1 : (t344 != 0) = false := bne_eq_false_iff_eq.mpr c4
    clear c4
    replace H := Option.bind_eq_some_iff.mp H
    obtain ⟨⟨t345, t346⟩, A50, H⟩ := H
    replace H : (some (t345, t346, 0)) = some (r1, r2, r3) := H
    have A5 := Aside0.mk A50
    clear A50
    simp only [Option.some.injEq, Prod.mk.injEq] at H
    obtain ⟨rfl, rfl, rfl⟩ := H
    go_enter Try.func35, Try.ntmps35
    go_wp2_with (first | ((with_reducible refine gate_callee (f := 51) rfl ?_); refine goesL_ (some 12) rfl rfl Try.func51 (by kernel_rfl) rfl #[.slice A0 l0.length c0, .slice A1 l1.length c1] rfl (by (try simp only [List.map_toArray, List.map_cons, List.map_nil]); first | done | rfl | (simp only [List.length_drop, List.length_take]; rfl)) ?_; (with_reducible refine (spec_l18Ask.calls k _ _ l0 _ _ l1 t344 _ ?side1 ?side2 ?side3 ?side4 A3.out).mono ?_); (case side1 => repeat (first | exact HR0.out | (with_reducible refine Kd.C_alloc ?_ _) | (with_reducible refine Kd.C_drewN ?_ _) | (with_reducible refine Kd.C_drew ?_))); (case side2 => exact HC0.out); (case side3 => repeat (first | exact HR1.out | (with_reducible refine Kd.C_alloc ?_ _) | (with_reducible refine Kd.C_drewN ?_ _) | (with_reducible refine Kd.C_drew ?_))); (case side4 => exact HC1.out); rintro e w' ⟨rfl, ⟨nd, rfl⟩⟩; refine ⟨_, rfl, ?_⟩) | ((with_reducible refine gate_callee (f := 58) rfl ?_); refine goesL_ (some 19) rfl rfl Try.func58 (by kernel_rfl) rfl #[.slice A0 l0.length c0, .slice A1 l1.length c1] rfl (by (try simp only [List.map_toArray, List.map_cons, List.map_nil]); first | done | rfl | (simp only [List.length_drop, List.length_take]; rfl)) ?_; (with_reducible refine (spec_l18Run.calls k _ _ l0 _ _ l1 t345 t346 _ ?side1 ?side2 ?side3 ?side4 A5.out).mono ?_); (case side1 => repeat (first | exact HR0.out | (with_reducible refine Kd.C_alloc ?_ _) | (with_reducible refine Kd.C_drewN ?_ _) | (with_reducible refine Kd.C_drew ?_))); (case side2 => exact HC0.out); (case side3 => repeat (first | exact HR1.out | (with_reducible refine Kd.C_alloc ?_ _) | (with_reducible refine Kd.C_drewN ?_ _) | (with_reducible refine Kd.C_drew ?_))); (case side4 => exact HC1.out); rintro e w' ⟨rfl, ⟨nd, rfl⟩⟩; refine ⟨_, rfl, ?_⟩))
    go_ret3
    exact ⟨by first | rfl | (simp; done) | (simp [*]; done), by repeat (first | exact Drawn0.refl _ | apply Drawn0.step)⟩
  · rw [if_neg c4] at H
    have c4b0 : (t344 == 0) = false := beq_eq_false_iff_ne.mpr c4
    have c4b1 : (t344 != 0) = true := bne_iff_ne.mpr c4
    simp only [Option.some.injEq, Prod.mk.injEq] at H
    obtain ⟨rfl, rfl, rfl⟩ := H
    go_enter Try.func35, Try.ntmps35
    go_wp2_with (first | ((with_reducible refine gate_callee (f := 51) rfl ?_); refine goesL_ (some 12) rfl rfl Try.func51 (by kernel_rfl) rfl #[.slice A0 l0.length c0, .slice A1 l1.length c1] rfl (by (try simp only [List.map_toArray, List.map_cons, List.map_nil]); first | done | rfl | (simp only [List.length_drop, List.length_take]; rfl)) ?_; (with_reducible refine (spec_l18Ask.calls k _ _ l0 _ _ l1 t344 _ ?side1 ?side2 ?side3 ?side4 A3.out).mono ?_); (case side1 => repeat (first | exact HR0.out | (with_reducible refine Kd.C_alloc ?_ _) | (with_reducible refine Kd.C_drewN ?_ _) | (with_reducible refine Kd.C_drew ?_))); (case side2 => exact HC0.out); (case side3 => repeat (first | exact HR1.out | (with_reducible refine Kd.C_alloc ?_ _) | (with_reducible refine Kd.C_drewN ?_ _) | (with_reducible refine Kd.C_drew ?_))); (case side4 => exact HC1.out); rintro e w' ⟨rfl, ⟨nd, rfl⟩⟩; refine ⟨_, rfl, ?_⟩))
    go_ret3
    exact ⟨by first | rfl | (simp; done) | (simp [*]; done), by repeat (first | exact Drawn0.refl _ | apply Drawn0.step)⟩

end Go.Proofs.Ytfelkjbfeenmbaa.P
