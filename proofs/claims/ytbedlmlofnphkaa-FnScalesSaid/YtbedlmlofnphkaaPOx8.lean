-- WRITTEN BY wip/gprint.py, a program of this session's over the kit's print, with contracts given by hand
import Derived.Test.YtbedlmlofnphkaaPOx0
import Derived.Test.YtbedlmlofnphkaaPOx4
import Derived.Test.YtbedlmlofnphkaaPOx7
namespace Go.Proofs.Ytbedlmlofnphkaa.PO
open Go.RowKit Go.Proofs.YtbedlmlofnphkaaW.PrintWords Go.Proofs.YtbedlmlofnphkaaW.PrintLast Go.Proofs.YtbedlmlofnphkaaW.PrintMore
attribute [local go_sem] max2_int min2_int max_two min_two max_three min_three max_four min_four   -- for this text's walks alone
set_option linter.unusedVariables false
set_option linter.unusedSimpArgs false

/-! ### impl_ScaleNumber: function 53 -/
mutual
def impl_ScaleNumber.l0 : Nat → List Int → Int → Int → Option (Int × Int)
 | 0, _, _, _ => none
 | k + 1, x0, x4, x5 => if x5 < (x0.length : Int) then (if 0 ≤ (wrap64 (x5 - 1)) then (if (wrap64 (x5 - 1)) < (x0.length : Int) then (impl_ScaleNumber.l1 k x0 x4 x5 (wrap64 ((rd x0 (wrap64 (x5 - 1))) + 1))) else (none)) else (none)) else (some (x4, 0))
def impl_ScaleNumber.l1 : Nat → List Int → Int → Int → Int → Option (Int × Int)
 | 0, _, _, _, _ => none
 | k + 1, x0, x4, x5, x6 => if 0 ≤ x5 then (if x5 < (x0.length : Int) then (if x6 < (rd x0 x5) then ((impl_choose.f k (wrap64 (11 - x6)) (wrap64 ((wrap64 ((x0.length : Int) - 1)) - x5))).bind fun t196 => (impl_ScaleNumber.l1 k x0 (wrap64 (x4 + t196)) x5 (wrap64 (x6 + 1)))) else (impl_ScaleNumber.l0 k x0 x4 (wrap64 (x5 + 1)))) else (none)) else (none)
end
def impl_ScaleNumber.f (k : Nat) (l0 : List Int) : Option (Int × Int) := (impl_ValidScale.f k l0).bind fun t193 => (if t193 = true then (impl_ScaleNumber.l0 k l0 0 1) else (some (0, 1)))
theorem impl_ScaleNumber.mono_l : ∀ k, (∀ y0 y1 y2, LeO (impl_ScaleNumber.l0 k y0 y1 y2) (impl_ScaleNumber.l0 (k + 1) y0 y1 y2)) ∧ (∀ y0 y1 y2 y3, LeO (impl_ScaleNumber.l1 k y0 y1 y2 y3) (impl_ScaleNumber.l1 (k + 1) y0 y1 y2 y3))
 | 0 => ⟨fun _ _ _ r h => by simp [impl_ScaleNumber.l0] at h, fun _ _ _ _ r h => by simp [impl_ScaleNumber.l1] at h⟩
 | k + 1 => by
  obtain ⟨ih0, ih1⟩ := impl_ScaleNumber.mono_l k
  refine ⟨?_, ?_⟩
  all_goals (intros; (first | unfold impl_ScaleNumber.l0 | unfold impl_ScaleNumber.l1); repeat' first
   | (with_reducible exact ih0 _ _ _)
   | (with_reducible exact ih1 _ _ _ _)
   | (with_reducible exact impl_ValidScale.mono _ _)
   | (with_reducible exact impl_choose.mono _ _ _)
   | (with_reducible exact LeO.refl _)
   | (with_reducible exact LeO.none _)
   | (with_reducible refine LeO.ite ?_ ?_)
   | (with_reducible refine LeO.bind ?_ (fun _ => ?_))
   | exact ih0 _ _ _
   | exact ih1 _ _ _ _
   | exact impl_ValidScale.mono _ _
   | exact impl_choose.mono _ _ _
   | exact LeO.none _
   | refine LeO.ite ?_ ?_
   | refine LeO.bind ?_ (fun _ => ?_))
theorem impl_ScaleNumber.mono : ∀ a0 k, LeO (impl_ScaleNumber.f k a0) (impl_ScaleNumber.f (k + 1) a0) := by
 intro a0 k
 obtain ⟨ih0, ih1⟩ := impl_ScaleNumber.mono_l k
 unfold impl_ScaleNumber.f
 repeat' first
  | (with_reducible exact ih0 _ _ _)
  | (with_reducible exact ih1 _ _ _ _)
  | (with_reducible exact impl_ValidScale.mono _ _)
  | (with_reducible exact impl_choose.mono _ _ _)
  | (with_reducible exact LeO.refl _)
  | (with_reducible exact LeO.none _)
  | (with_reducible refine LeO.ite ?_ ?_)
  | (with_reducible refine LeO.bind ?_ (fun _ => ?_))
  | exact ih0 _ _ _
  | exact ih1 _ _ _ _
  | exact impl_ValidScale.mono _ _
  | exact impl_choose.mono _ _ _
  | exact LeO.none _
  | refine LeO.ite ?_ ?_
  | refine LeO.bind ?_ (fun _ => ?_)
set_option maxHeartbeats 8000000 in
set_option maxRecDepth 100000 in
theorem impl_ScaleNumber.calls (k : Nat) (A0 : Option Addr) (c0 : Nat) (l0 : List Int) (r1 : Int) (r2 : Int) (w : World) (hr0 : Kd.C (Kd.int .i64) w A0 l0.length l0) (hc0 : l0.length ≤ c0) (h : impl_ScaleNumber.f k l0 = some (r1, r2)) :
 Calls Try.prog 53 #[.slice A0 l0.length c0] w fun e w' => e = .returned (.tuple #[.int .i64 r1, .int .i64 r2]) ∧ Drawn0 w w' := by
 have HR0 := Aside0.mk hr0
 have HC0 := Aside0.mk hc0
 clear hr0 hc0
 have H : ((impl_ValidScale.f k l0).bind fun t193 => (if t193 = true then (impl_ScaleNumber.l0 k l0 0 1) else (some (0, 1)))) = some (r1, r2) := h
 clear h
 replace H := Option.bind_eq_some_iff.mp H
 obtain ⟨t193, A20, H⟩ := H
 replace H : (if t193 = true then (impl_ScaleNumber.l0 k l0 0 1) else (some (0, 1))) = some (r1, r2) := H
 have A2 := Aside0.mk A20
 clear A20
 by_cases c3 : t193 = true
 · subst c3
   have H1 : (impl_ScaleNumber.l0 k l0 0 1) = some (r1, r2) := by rw [if_pos rfl] at H; exact H
   clear H
   have H := H1
   clear H1
   have H' := Aside0.mk H
   clear H
   go_enter Try.func53, Try.ntmps53
   go_wp2_with (first | ((with_reducible refine gate_callee (f := 156) rfl ?_); refine gL_ (some 8) rfl rfl Try.func156 #[.slice A0 l0.length c0] rfl ?_; (with_reducible refine (impl_ValidScale.calls k _ _ l0 true _ ?side1 ?side2 A2.out).mono ?_); (case side1 => exact tC HR0.out); (case side2 => exact HC0.out); rintro e w' ⟨rfl, ⟨nd, rfl⟩⟩; refine ⟨_, rfl, ?_⟩))
   go_loopg [4, 5] k (fun kq v4 v5 w' => ∃ (x4_1 : Int) (x5_1 : Int), v4 = .int .i64 x4_1 ∧ v5 = .int .i64 x5_1 ∧ Aside0 (impl_ScaleNumber.l0 kq l0 x4_1 x5_1 = some (r1, r2)) ∧ Aside0 (kq ≤ k) ∧ Drawn0 w w')
   case atStart => exact ⟨(0), (1), tq, tq, H', ⟨Nat.le_refl _⟩, tZ⟩
   case round =>
   clear H'
   try clear c1
   try clear p2
   try clear c3
   obtain ⟨x4_1, x5_1, rfl, rfl, HA, HK1, ⟨m1, rfl⟩⟩ := hrel
   cases gk with
   | zero => exact absurd HA.out (by simp [impl_ScaleNumber.l0])
   | succ k1 =>
   have H := HA.out
   clear HA
   simp only [impl_ScaleNumber.l0] at H
   by_cases c4 : x5_1 < (l0.length : Int)
   · rw [if_pos c4] at H
     have c4b0 : decide (x5_1 < (l0.length : Int)) = true := decide_eq_true c4
     clear c4
     obtain ⟨ji5, hji5⟩ : ∃ j_ : Int, (wrap64 (x5_1 - 1)) = j_ := ⟨_, rfl⟩
     replace H : (if 0 ≤ (ji5) then (if (ji5) < (l0.length : Int) then (impl_ScaleNumber.l1 k1 l0 x4_1 x5_1 (wrap64 ((rd l0 (ji5)) + 1))) else (none)) else (none)) = some (r1, r2) := by first | (rw [hji5] at H; exact H) | (simp only [hji5] at H ⊢; exact H)
     have hji5w : (IntKind.i64.wrap (x5_1 - 1)) = ji5 := (i64_w _).trans hji5
     by_cases c6 : 0 ≤ (ji5)
     · rw [if_pos c6] at H
       have c6b0 : decide (0 ≤ (ji5)) = true := decide_eq_true c6
       clear c6
       by_cases c7 : (ji5) < (l0.length : Int)
       · rw [if_pos c7] at H
         have c7b0 : decide ((ji5) < (l0.length : Int)) = true := decide_eq_true c7
         clear c7
         have H' := Aside0.mk H
         clear H
         have p194 : 0 ≤ ((ji5) : Int) := of_decide_eq_true tA
         have q194 : (ji5) < (l0.length : Int) := of_decide_eq_true tA
         obtain ⟨ad194, e194, hx194_0⟩ := Kd.at_int HR0.out (ji5) p194 q194
         cases e194
         replace p194 := eq_true p194
         replace q194 := eq_true q194
         go_wp2
         go_loopg [4, 6] k1 (fun kq v4 v6 w' => ∃ (x4_2 : Int) (x6_2 : Int), v4 = .int .i64 x4_2 ∧ v6 = .int .i64 x6_2 ∧ Aside0 (impl_ScaleNumber.l1 kq l0 x4_2 x5_1 x6_2 = some (r1, r2)) ∧ Aside0 (kq ≤ k1) ∧ Drawn0 w w')
         case atStart => exact ⟨(x4_1), (wrap64 ((rd l0 (ji5)) + 1)), tq, (by first | rfl | (simp; done) | (simp only [← hji5] <;> (first | rfl | simp)) | (simp [*]; done)), H', ⟨Nat.le_refl _⟩, tZ⟩
         case round =>
         clear H'
         try clear c1
         try clear p1
         try clear q1
         try clear hx1
         try clear p2
         try clear c3
         try clear c4
         try clear c4b0
         try clear c5
         try clear c6
         try clear c6b0
         try clear p6
         try clear c7
         try clear c7b0
         try clear hx194_0
         try clear p194
         try clear p2
         try clear q194
         obtain ⟨x4_2, x6_2, rfl, rfl, HA, HK2, ⟨m2, rfl⟩⟩ := hrel
         cases gk with
         | zero => exact absurd HA.out (by simp [impl_ScaleNumber.l1])
         | succ k2 =>
         have H := HA.out
         clear HA
         simp only [impl_ScaleNumber.l1] at H
         by_cases c8 : 0 ≤ x5_1
         · rw [if_pos c8] at H
           have c8b0 : decide (0 ≤ x5_1) = true := decide_eq_true c8
           clear c8
           by_cases c9 : x5_1 < (l0.length : Int)
           · rw [if_pos c9] at H
             have c9b0 : decide (x5_1 < (l0.length : Int)) = true := decide_eq_true c9
             clear c9
             by_cases c10 : x6_2 < (rd l0 x5_1)
             · rw [if_pos c10] at H
               have c10b0 : decide (x6_2 < (rd l0 x5_1)) = true := decide_eq_true c10
               clear c10
               replace H := Option.bind_eq_some_iff.mp H
               obtain ⟨t196, A110, H⟩ := H
               replace H : (impl_ScaleNumber.l1 k2 l0 (wrap64 (x4_2 + t196)) x5_1 (wrap64 (x6_2 + 1))) = some (r1, r2) := H
               have A11 := Aside0.mk A110
               clear A110
               have H' := Aside0.mk H
               clear H
               have p195 : 0 ≤ (x5_1 : Int) := of_decide_eq_true tA
               have q195 : x5_1 < (l0.length : Int) := of_decide_eq_true tA
               obtain ⟨ad195, e195, hx195_0⟩ := Kd.at_int HR0.out x5_1 p195 q195
               obtain rfl : ad194 = ad195 := (by injection e195)
               replace p195 := eq_true p195
               replace q195 := eq_true q195
               go_wp2_with (first | ((with_reducible refine gate_callee (f := 160) rfl ?_); refine gL_ (some 38) rfl rfl Try.func160 #[.int .i64 (wrap64 (11 - x6_2)), .int .i64 (wrap64 ((wrap64 ((l0.length : Int) - 1)) - x5_1))] rfl ?_; (with_reducible refine (impl_choose.calls k2 (wrap64 (11 - x6_2)) (wrap64 ((wrap64 ((l0.length : Int) - 1)) - x5_1)) t196 _ A11.out).mono ?_); rintro e w' ⟨rfl, ⟨nd, rfl⟩⟩; refine ⟨_, rfl, ?_⟩))
               go_roundg k2
               case measure => have := HK1.out; have := HK2.out; omega
               case rel => exact ⟨(wrap64 (x4_2 + t196)), (wrap64 (x6_2 + 1)), tq, tq, H', ⟨by have := HK1.out; have := HK2.out; omega⟩, tZ⟩
             rw [if_neg c10] at H
             have c10b0 : decide (x6_2 < (rd l0 x5_1)) = false := decide_eq_false c10
             clear c10
             have H' := Aside0.mk H
             clear H
             have p195 : 0 ≤ (x5_1 : Int) := of_decide_eq_true tA
             have q195 : x5_1 < (l0.length : Int) := of_decide_eq_true tA
             obtain ⟨ad195, e195, hx195_0⟩ := Kd.at_int HR0.out x5_1 p195 q195
             obtain rfl : ad194 = ad195 := (by injection e195)
             replace p195 := eq_true p195
             replace q195 := eq_true q195
             go_wp2
             go_roundg k2
             case measure => have := HK1.out; have := HK2.out; omega
             case rel => exact ⟨(x4_2), (wrap64 (x5_1 + 1)), tq, tq, H', ⟨by have := HK1.out; have := HK2.out; omega⟩, tZ⟩
           rw [if_neg c9] at H
           exact absurd H (by simp)
         rw [if_neg c8] at H
         exact absurd H (by simp)
       rw [if_neg c7] at H
       exact absurd H (by simp)
     rw [if_neg c6] at H
     exact absurd H (by simp)
   rw [if_neg c4] at H
   have c4b0 : decide (x5_1 < (l0.length : Int)) = false := decide_eq_false c4
   clear c4
   simp only [Option.some.injEq, Prod.mk.injEq] at H
   obtain ⟨rfl, rfl⟩ := H
   go_wp2
   go_ret2
   exact ⟨by first | rfl | (simp; done) | (simp [*]; done), tZ⟩
 replace c3 := Bool.eq_false_iff.mpr c3
 subst c3
 have H1 : (some (0, 1)) = some (r1, r2) := by rw [if_neg (show ¬ (false = true) by decide)] at H; exact H
 clear H
 have H := H1
 clear H1
 simp only [Option.some.injEq, Prod.mk.injEq] at H
 obtain ⟨rfl, rfl⟩ := H
 go_enter Try.func53, Try.ntmps53
 go_wp2_with (first | ((with_reducible refine gate_callee (f := 156) rfl ?_); refine gL_ (some 8) rfl rfl Try.func156 #[.slice A0 l0.length c0] rfl ?_; (with_reducible refine (impl_ValidScale.calls k _ _ l0 false _ ?side1 ?side2 A2.out).mono ?_); (case side1 => exact tC HR0.out); (case side2 => exact HC0.out); rintro e w' ⟨rfl, ⟨nd, rfl⟩⟩; refine ⟨_, rfl, ?_⟩))
 go_ret2
 exact ⟨by first | rfl | (simp; done) | (simp [*]; done), tZ⟩

/-! ### impl_CountScales: function 54 -/
def impl_CountScales.f (k : Nat) (a0 : Int) : Option (Int × Int) := (impl_within.f a0 5 12).bind fun t197 => (if t197 = true then ((impl_choose.f k 11 (wrap64 (a0 - 1))).bind fun t198 => (some (t198, 0))) else (some (0, 2)))
theorem impl_CountScales.mono : ∀ a0 k, LeO (impl_CountScales.f k a0) (impl_CountScales.f (k + 1) a0) := by
 intro a0 k
 unfold impl_CountScales.f
 repeat' first
  | (with_reducible exact impl_choose.mono _ _ _)
  | (with_reducible exact LeO.refl _)
  | (with_reducible exact LeO.none _)
  | (with_reducible refine LeO.ite ?_ ?_)
  | (with_reducible refine LeO.bind ?_ (fun _ => ?_))
  | exact impl_choose.mono _ _ _
  | exact LeO.none _
  | refine LeO.ite ?_ ?_
  | refine LeO.bind ?_ (fun _ => ?_)
set_option maxHeartbeats 8000000 in
set_option maxRecDepth 100000 in
theorem impl_CountScales.calls (k : Nat) (a0 : Int) (r1 : Int) (r2 : Int) (w : World) (h : impl_CountScales.f k a0 = some (r1, r2)) :
 Calls Try.prog 54 #[.int .i64 a0] w fun e w' => e = .returned (.tuple #[.int .i64 r1, .int .i64 r2]) ∧ Drawn0 w w' := by
 have H : ((impl_within.f a0 5 12).bind fun t197 => (if t197 = true then ((impl_choose.f k 11 (wrap64 (a0 - 1))).bind fun t198 => (some (t198, 0))) else (some (0, 2)))) = some (r1, r2) := h
 clear h
 replace H := Option.bind_eq_some_iff.mp H
 obtain ⟨t197, A20, H⟩ := H
 replace H : (if t197 = true then ((impl_choose.f k 11 (wrap64 (a0 - 1))).bind fun t198 => (some (t198, 0))) else (some (0, 2))) = some (r1, r2) := H
 have A2 := Aside0.mk A20
 clear A20
 by_cases c3 : t197 = true
 · subst c3
   have H1 : ((impl_choose.f k 11 (wrap64 (a0 - 1))).bind fun t198 => (some (t198, 0))) = some (r1, r2) := by rw [if_pos rfl] at H; exact H
   clear H
   have H := H1
   clear H1
   replace H := Option.bind_eq_some_iff.mp H
   obtain ⟨t198, A40, H⟩ := H
   replace H : (some (t198, 0)) = some (r1, r2) := H
   have A4 := Aside0.mk A40
   clear A40
   simp only [Option.some.injEq, Prod.mk.injEq] at H
   obtain ⟨rfl, rfl⟩ := H
   go_enter Try.func54, Try.ntmps54
   go_wp2_with (first | ((with_reducible refine gate_callee (f := 117) rfl ?_); refine gL_ (some 5) rfl rfl Try.func117 #[.int .i64 a0, .int .i64 5, .int .i64 12] rfl ?_; (with_reducible refine (impl_within.calls a0 5 12 true _ A2.out).mono ?_); rintro e w' ⟨rfl, ⟨nd, rfl⟩⟩; refine ⟨_, rfl, ?_⟩) | ((with_reducible refine gate_callee (f := 160) rfl ?_); refine gL_ (some 9) rfl rfl Try.func160 #[.int .i64 11, .int .i64 (wrap64 (a0 - 1))] rfl ?_; (with_reducible refine (impl_choose.calls k 11 (wrap64 (a0 - 1)) t198 _ A4.out).mono ?_); rintro e w' ⟨rfl, ⟨nd, rfl⟩⟩; refine ⟨_, rfl, ?_⟩))
   go_ret2
   exact ⟨by first | rfl | (simp; done) | (simp [*]; done), tZ⟩
 replace c3 := Bool.eq_false_iff.mpr c3
 subst c3
 have H1 : (some (0, 2)) = some (r1, r2) := by rw [if_neg (show ¬ (false = true) by decide)] at H; exact H
 clear H
 have H := H1
 clear H1
 simp only [Option.some.injEq, Prod.mk.injEq] at H
 obtain ⟨rfl, rfl⟩ := H
 go_enter Try.func54, Try.ntmps54
 go_wp2_with (first | ((with_reducible refine gate_callee (f := 117) rfl ?_); refine gL_ (some 5) rfl rfl Try.func117 #[.int .i64 a0, .int .i64 5, .int .i64 12] rfl ?_; (with_reducible refine (impl_within.calls a0 5 12 false _ A2.out).mono ?_); rintro e w' ⟨rfl, ⟨nd, rfl⟩⟩; refine ⟨_, rfl, ?_⟩))
 go_ret2
 exact ⟨by first | rfl | (simp; done) | (simp [*]; done), tZ⟩

end Go.Proofs.Ytbedlmlofnphkaa.PO
