-- WRITTEN BY wip/gprint.py, a program of this session's over the kit's print, with contracts given by hand
import Derived.Test.YtbedlmlofnphkaaPOx0
import Derived.Test.YtbedlmlofnphkaaPOx4
namespace Go.Proofs.Ytbedlmlofnphkaa.PO
open Go.RowKit Go.Proofs.YtbedlmlofnphkaaW.PrintWords Go.Proofs.YtbedlmlofnphkaaW.PrintLast Go.Proofs.YtbedlmlofnphkaaW.PrintMore
attribute [local go_sem] max2_int min2_int max_two min_two max_three min_three max_four min_four   -- for this text's walks alone
set_option linter.unusedVariables false
set_option linter.unusedSimpArgs false

/-! ### impl_ToneAt: function 49 -/
def impl_ToneAt.f (k : Nat) (l0 : List Int) (a1 : Int) : Option (Int × Int) := (impl_ValidScale.f k l0).bind fun t171 => (if t171 = true then ((impl_within.f a1 (wrap64 (-(l0.length : Int))) (wrap64 ((wrap64 (2 * (l0.length : Int))) - 1))).bind fun t172 => (if t172 = true then (if (l0.length : Int) = 0 then (none) else (if 0 ≤ (wrap64 (a1 - (wrap64 ((l0.length : Int) * (wrap64 ((wrap64 (Int.tdiv (wrap64 (a1 + (l0.length : Int))) (l0.length : Int))) - 1)))))) then (if (wrap64 (a1 - (wrap64 ((l0.length : Int) * (wrap64 ((wrap64 (Int.tdiv (wrap64 (a1 + (l0.length : Int))) (l0.length : Int))) - 1)))))) < (l0.length : Int) then (some (wrap64 ((wrap64 (12 * (wrap64 ((wrap64 (Int.tdiv (wrap64 (a1 + (l0.length : Int))) (l0.length : Int))) - 1)))) + (rd l0 (wrap64 (a1 - (wrap64 ((l0.length : Int) * (wrap64 ((wrap64 (Int.tdiv (wrap64 (a1 + (l0.length : Int))) (l0.length : Int))) - 1)))))))), 0)) else (none)) else (none))) else (some (0, 2)))) else (some (0, 1)))
theorem impl_ToneAt.mono : ∀ a0 a1 k, LeO (impl_ToneAt.f k a0 a1) (impl_ToneAt.f (k + 1) a0 a1) := by
 intro a0 a1 k
 unfold impl_ToneAt.f
 repeat' first
  | (with_reducible exact impl_ValidScale.mono _ _)
  | (with_reducible exact LeO.refl _)
  | (with_reducible exact LeO.none _)
  | (with_reducible refine LeO.ite ?_ ?_)
  | (with_reducible refine LeO.bind ?_ (fun _ => ?_))
  | exact impl_ValidScale.mono _ _
  | exact LeO.none _
  | refine LeO.ite ?_ ?_
  | refine LeO.bind ?_ (fun _ => ?_)
set_option maxHeartbeats 8000000 in
set_option maxRecDepth 100000 in
theorem impl_ToneAt.calls (k : Nat) (A0 : Option Addr) (c0 : Nat) (l0 : List Int) (a1 : Int) (r1 : Int) (r2 : Int) (w : World) (hr0 : Kd.C (Kd.int .i64) w A0 l0.length l0) (hc0 : l0.length ≤ c0) (h : impl_ToneAt.f k l0 a1 = some (r1, r2)) :
 Calls Try.prog 49 #[.slice A0 l0.length c0, .int .i64 a1] w fun e w' => e = .returned (.tuple #[.int .i64 r1, .int .i64 r2]) ∧ Drawn0 w w' := by
 have HR0 := Aside0.mk hr0
 have HC0 := Aside0.mk hc0
 clear hr0 hc0
 have H : ((impl_ValidScale.f k l0).bind fun t171 => (if t171 = true then ((impl_within.f a1 (wrap64 (-(l0.length : Int))) (wrap64 ((wrap64 (2 * (l0.length : Int))) - 1))).bind fun t172 => (if t172 = true then (if (l0.length : Int) = 0 then (none) else (if 0 ≤ (wrap64 (a1 - (wrap64 ((l0.length : Int) * (wrap64 ((wrap64 (Int.tdiv (wrap64 (a1 + (l0.length : Int))) (l0.length : Int))) - 1)))))) then (if (wrap64 (a1 - (wrap64 ((l0.length : Int) * (wrap64 ((wrap64 (Int.tdiv (wrap64 (a1 + (l0.length : Int))) (l0.length : Int))) - 1)))))) < (l0.length : Int) then (some (wrap64 ((wrap64 (12 * (wrap64 ((wrap64 (Int.tdiv (wrap64 (a1 + (l0.length : Int))) (l0.length : Int))) - 1)))) + (rd l0 (wrap64 (a1 - (wrap64 ((l0.length : Int) * (wrap64 ((wrap64 (Int.tdiv (wrap64 (a1 + (l0.length : Int))) (l0.length : Int))) - 1)))))))), 0)) else (none)) else (none))) else (some (0, 2)))) else (some (0, 1)))) = some (r1, r2) := h
 clear h
 replace H := Option.bind_eq_some_iff.mp H
 obtain ⟨t171, A30, H⟩ := H
 replace H : (if t171 = true then ((impl_within.f a1 (wrap64 (-(l0.length : Int))) (wrap64 ((wrap64 (2 * (l0.length : Int))) - 1))).bind fun t172 => (if t172 = true then (if (l0.length : Int) = 0 then (none) else (if 0 ≤ (wrap64 (a1 - (wrap64 ((l0.length : Int) * (wrap64 ((wrap64 (Int.tdiv (wrap64 (a1 + (l0.length : Int))) (l0.length : Int))) - 1)))))) then (if (wrap64 (a1 - (wrap64 ((l0.length : Int) * (wrap64 ((wrap64 (Int.tdiv (wrap64 (a1 + (l0.length : Int))) (l0.length : Int))) - 1)))))) < (l0.length : Int) then (some (wrap64 ((wrap64 (12 * (wrap64 ((wrap64 (Int.tdiv (wrap64 (a1 + (l0.length : Int))) (l0.length : Int))) - 1)))) + (rd l0 (wrap64 (a1 - (wrap64 ((l0.length : Int) * (wrap64 ((wrap64 (Int.tdiv (wrap64 (a1 + (l0.length : Int))) (l0.length : Int))) - 1)))))))), 0)) else (none)) else (none))) else (some (0, 2)))) else (some (0, 1))) = some (r1, r2) := H
 have A3 := Aside0.mk A30
 clear A30
 by_cases c4 : t171 = true
 · subst c4
   have H1 : ((impl_within.f a1 (wrap64 (-(l0.length : Int))) (wrap64 ((wrap64 (2 * (l0.length : Int))) - 1))).bind fun t172 => (if t172 = true then (if (l0.length : Int) = 0 then (none) else (if 0 ≤ (wrap64 (a1 - (wrap64 ((l0.length : Int) * (wrap64 ((wrap64 (Int.tdiv (wrap64 (a1 + (l0.length : Int))) (l0.length : Int))) - 1)))))) then (if (wrap64 (a1 - (wrap64 ((l0.length : Int) * (wrap64 ((wrap64 (Int.tdiv (wrap64 (a1 + (l0.length : Int))) (l0.length : Int))) - 1)))))) < (l0.length : Int) then (some (wrap64 ((wrap64 (12 * (wrap64 ((wrap64 (Int.tdiv (wrap64 (a1 + (l0.length : Int))) (l0.length : Int))) - 1)))) + (rd l0 (wrap64 (a1 - (wrap64 ((l0.length : Int) * (wrap64 ((wrap64 (Int.tdiv (wrap64 (a1 + (l0.length : Int))) (l0.length : Int))) - 1)))))))), 0)) else (none)) else (none))) else (some (0, 2)))) = some (r1, r2) := by rw [if_pos rfl] at H; exact H
   clear H
   have H := H1
   clear H1
   replace H := Option.bind_eq_some_iff.mp H
   obtain ⟨t172, A50, H⟩ := H
   replace H : (if t172 = true then (if (l0.length : Int) = 0 then (none) else (if 0 ≤ (wrap64 (a1 - (wrap64 ((l0.length : Int) * (wrap64 ((wrap64 (Int.tdiv (wrap64 (a1 + (l0.length : Int))) (l0.length : Int))) - 1)))))) then (if (wrap64 (a1 - (wrap64 ((l0.length : Int) * (wrap64 ((wrap64 (Int.tdiv (wrap64 (a1 + (l0.length : Int))) (l0.length : Int))) - 1)))))) < (l0.length : Int) then (some (wrap64 ((wrap64 (12 * (wrap64 ((wrap64 (Int.tdiv (wrap64 (a1 + (l0.length : Int))) (l0.length : Int))) - 1)))) + (rd l0 (wrap64 (a1 - (wrap64 ((l0.length : Int) * (wrap64 ((wrap64 (Int.tdiv (wrap64 (a1 + (l0.length : Int))) (l0.length : Int))) - 1)))))))), 0)) else (none)) else (none))) else (some (0, 2))) = some (r1, r2) := H
   have A5 := Aside0.mk A50
   clear A50
   by_cases c6 : t172 = true
   · subst c6
     have H1 : (if (l0.length : Int) = 0 then (none) else (if 0 ≤ (wrap64 (a1 - (wrap64 ((l0.length : Int) * (wrap64 ((wrap64 (Int.tdiv (wrap64 (a1 + (l0.length : Int))) (l0.length : Int))) - 1)))))) then (if (wrap64 (a1 - (wrap64 ((l0.length : Int) * (wrap64 ((wrap64 (Int.tdiv (wrap64 (a1 + (l0.length : Int))) (l0.length : Int))) - 1)))))) < (l0.length : Int) then (some (wrap64 ((wrap64 (12 * (wrap64 ((wrap64 (Int.tdiv (wrap64 (a1 + (l0.length : Int))) (l0.length : Int))) - 1)))) + (rd l0 (wrap64 (a1 - (wrap64 ((l0.length : Int) * (wrap64 ((wrap64 (Int.tdiv (wrap64 (a1 + (l0.length : Int))) (l0.length : Int))) - 1)))))))), 0)) else (none)) else (none))) = some (r1, r2) := by rw [if_pos rfl] at H; exact H
     clear H
     have H := H1
     clear H1
     by_cases c7 : (l0.length : Int) = 0
     · rw [if_pos c7] at H
       exact absurd H (by simp)
     rw [if_neg c7] at H
     have c7b0 : ((l0.length : Int) == 0) = false := beq_eq_false_iff_ne.mpr c7
     have c7b1 : ((l0.length : Int) != 0) = true := bne_iff_ne.mpr c7
     have c7b2 : ¬ (l0 = []) := fun h_ => c7 (by rw [h_]; rfl)
     obtain ⟨ji8, hji8⟩ : ∃ j_ : Int, (wrap64 (a1 - (wrap64 ((l0.length : Int) * (wrap64 ((wrap64 (Int.tdiv (wrap64 (a1 + (l0.length : Int))) (l0.length : Int))) - 1)))))) = j_ := ⟨_, rfl⟩
     replace H : (if 0 ≤ (ji8) then (if (ji8) < (l0.length : Int) then (some (wrap64 ((wrap64 (12 * (wrap64 ((wrap64 (Int.tdiv (wrap64 (a1 + (l0.length : Int))) (l0.length : Int))) - 1)))) + (rd l0 (ji8))), 0)) else (none)) else (none)) = some (r1, r2) := by first | (rw [hji8] at H; exact H) | (simp only [hji8] at H ⊢; exact H)
     (try rw [hji8] at A3)
     (try rw [hji8] at A5)
     have hji8w : (IntKind.i64.wrap (a1 - (wrap64 ((l0.length : Int) * (wrap64 ((wrap64 (Int.tdiv (wrap64 (a1 + (l0.length : Int))) (l0.length : Int))) - 1)))))) = ji8 := (i64_w _).trans hji8
     by_cases c9 : 0 ≤ (ji8)
     · rw [if_pos c9] at H
       have c9b0 : decide (0 ≤ (ji8)) = true := decide_eq_true c9
       clear c9
       by_cases c10 : (ji8) < (l0.length : Int)
       · rw [if_pos c10] at H
         have c10b0 : decide ((ji8) < (l0.length : Int)) = true := decide_eq_true c10
         clear c10
         simp only [Option.some.injEq, Prod.mk.injEq] at H
         obtain ⟨rfl, rfl⟩ := H
         go_enter Try.func49, Try.ntmps49
         go_wp2_with (first | ((with_reducible refine gate_callee (f := 156) rfl ?_); refine gL_ (some 12) rfl rfl Try.func156 #[.slice A0 l0.length c0] rfl ?_; (with_reducible refine (impl_ValidScale.calls k _ _ l0 true _ ?side1 ?side2 A3.out).mono ?_); (case side1 => exact tC HR0.out); (case side2 => exact HC0.out); rintro e w' ⟨rfl, ⟨nd, rfl⟩⟩; refine ⟨_, rfl, ?_⟩) | ((with_reducible refine gate_callee (f := 117) rfl ?_); refine gL_ (some 21) rfl rfl Try.func117 #[.int .i64 a1, .int .i64 (wrap64 (-(l0.length : Int))), .int .i64 (wrap64 ((wrap64 (2 * (l0.length : Int))) - 1))] rfl ?_; (with_reducible refine (impl_within.calls a1 (wrap64 (-(l0.length : Int))) (wrap64 ((wrap64 (2 * (l0.length : Int))) - 1)) true _ A5.out).mono ?_); rintro e w' ⟨rfl, ⟨nd, rfl⟩⟩; refine ⟨_, rfl, ?_⟩; have p173 : 0 ≤ ((ji8) : Int) := of_decide_eq_true tA; have q173 : (ji8) < (l0.length : Int) := of_decide_eq_true tA; obtain ⟨ad173, e173, hx173_0⟩ := Kd.at_int HR0.out (ji8) p173 q173; cases e173; replace p173 := eq_true p173; replace q173 := eq_true q173))
         go_ret2
         exact ⟨by first | rfl | (simp; done) | (simp only [← hji8] <;> (first | rfl | simp)) | (simp [*]; done), tZ⟩
       rw [if_neg c10] at H
       exact absurd H (by simp)
     rw [if_neg c9] at H
     exact absurd H (by simp)
   replace c6 := Bool.eq_false_iff.mpr c6
   subst c6
   have H1 : (some (0, 2)) = some (r1, r2) := by rw [if_neg (show ¬ (false = true) by decide)] at H; exact H
   clear H
   have H := H1
   clear H1
   simp only [Option.some.injEq, Prod.mk.injEq] at H
   obtain ⟨rfl, rfl⟩ := H
   go_enter Try.func49, Try.ntmps49
   go_wp2_with (first | ((with_reducible refine gate_callee (f := 156) rfl ?_); refine gL_ (some 12) rfl rfl Try.func156 #[.slice A0 l0.length c0] rfl ?_; (with_reducible refine (impl_ValidScale.calls k _ _ l0 true _ ?side1 ?side2 A3.out).mono ?_); (case side1 => exact tC HR0.out); (case side2 => exact HC0.out); rintro e w' ⟨rfl, ⟨nd, rfl⟩⟩; refine ⟨_, rfl, ?_⟩) | ((with_reducible refine gate_callee (f := 117) rfl ?_); refine gL_ (some 21) rfl rfl Try.func117 #[.int .i64 a1, .int .i64 (wrap64 (-(l0.length : Int))), .int .i64 (wrap64 ((wrap64 (2 * (l0.length : Int))) - 1))] rfl ?_; (with_reducible refine (impl_within.calls a1 (wrap64 (-(l0.length : Int))) (wrap64 ((wrap64 (2 * (l0.length : Int))) - 1)) false _ A5.out).mono ?_); rintro e w' ⟨rfl, ⟨nd, rfl⟩⟩; refine ⟨_, rfl, ?_⟩))
   go_ret2
   exact ⟨by first | rfl | (simp; done) | (simp [*]; done), tZ⟩
 replace c4 := Bool.eq_false_iff.mpr c4
 subst c4
 have H1 : (some (0, 1)) = some (r1, r2) := by rw [if_neg (show ¬ (false = true) by decide)] at H; exact H
 clear H
 have H := H1
 clear H1
 simp only [Option.some.injEq, Prod.mk.injEq] at H
 obtain ⟨rfl, rfl⟩ := H
 go_enter Try.func49, Try.ntmps49
 go_wp2_with (first | ((with_reducible refine gate_callee (f := 156) rfl ?_); refine gL_ (some 12) rfl rfl Try.func156 #[.slice A0 l0.length c0] rfl ?_; (with_reducible refine (impl_ValidScale.calls k _ _ l0 false _ ?side1 ?side2 A3.out).mono ?_); (case side1 => exact tC HR0.out); (case side2 => exact HC0.out); rintro e w' ⟨rfl, ⟨nd, rfl⟩⟩; refine ⟨_, rfl, ?_⟩))
 go_ret2
 exact ⟨by first | rfl | (simp; done) | (simp [*]; done), tZ⟩

/-! ### impl_ToneOf: function 57 -/
def impl_ToneOf.f (a0 : Int) : Option (Int) := some (Int.tmod (wrap64 ((Int.tmod a0 12) + 12)) 12)
set_option maxHeartbeats 8000000 in
set_option maxRecDepth 100000 in
theorem impl_ToneOf.calls (a0 : Int) (r : Int) (w : World) (h : impl_ToneOf.f a0 = some r) :
 Calls Try.prog 57 #[.int .i64 a0] w fun e w' => e = .returned (.int .i64 r) ∧ Drawn0 w w' := by
 have H : (some (Int.tmod (wrap64 ((Int.tmod a0 12) + 12)) 12)) = some r := h
 clear h
 obtain rfl := Option.some.inj H
 go_enter Try.func57, Try.ntmps57
 go_wp2
 go_ret
 exact ⟨by first | rfl | (simp; done) | (simp [*]; done), tZ⟩

/-! ### impl_pitchOk: function 157 -/
def impl_pitchOk.f (a0 : Int) : Option (Bool) := (impl_within.f a0 (-12) 23).bind fun t174 => (some t174)
set_option maxHeartbeats 8000000 in
set_option maxRecDepth 100000 in
theorem impl_pitchOk.calls (a0 : Int) (r : Bool) (w : World) (h : impl_pitchOk.f a0 = some r) :
 Calls Try.prog 157 #[.int .i64 a0] w fun e w' => e = .returned (.bool r) ∧ Drawn0 w w' := by
 have H : ((impl_within.f a0 (-12) 23).bind fun t174 => (some t174)) = some r := h
 clear h
 replace H := Option.bind_eq_some_iff.mp H
 obtain ⟨t174, A20, H⟩ := H
 replace H : (some t174) = some r := H
 have A2 := Aside0.mk A20
 clear A20
 obtain rfl := Option.some.inj H
 go_enter Try.func157, Try.ntmps157
 go_wp2_with (first | ((with_reducible refine gate_callee (f := 117) rfl ?_); refine gL_ (some 4) rfl rfl Try.func117 #[.int .i64 a0, .int .i64 (-12), .int .i64 23] rfl ?_; (with_reducible refine (impl_within.calls a0 (-12) 23 t174 _ A2.out).mono ?_); rintro e w' ⟨rfl, ⟨nd, rfl⟩⟩; refine ⟨_, rfl, ?_⟩))
 go_ret
 exact ⟨by first | rfl | (simp; done) | (simp [*]; done), tZ⟩

/-! ### slices_Index_int64_int64: function 158 -/
def slices_Index_int64_int64.l0 : Nat → List Int → Int → Int → Int → Option (Int)
 | 0, _, _, _, _ => none
 | k + 1, x0, x1, x7, x8 => if x8 < x7 then (if 0 ≤ x8 then (if x8 < (x0.length : Int) then (if x1 = (rd x0 x8) then (some x8) else (slices_Index_int64_int64.l0 k x0 x1 x7 (wrap64 (x8 + 1)))) else (none)) else (none)) else (some (-1))
def slices_Index_int64_int64.f (k : Nat) (l0 : List Int) (a1 : Int) : Option (Int) := slices_Index_int64_int64.l0 k l0 a1 (l0.length : Int) 0
theorem slices_Index_int64_int64.mono_l : ∀ k, (∀ y0 y1 y2 y3, LeO (slices_Index_int64_int64.l0 k y0 y1 y2 y3) (slices_Index_int64_int64.l0 (k + 1) y0 y1 y2 y3))
 | 0 => fun _ _ _ _ r h => by simp [slices_Index_int64_int64.l0] at h
 | k + 1 => by
  have ih0 := slices_Index_int64_int64.mono_l k
  · intro y0 y1 y2 y3
    unfold slices_Index_int64_int64.l0
    repeat' first
    | (with_reducible exact ih0 _ _ _ _)
    | (with_reducible exact LeO.refl _)
    | (with_reducible exact LeO.none _)
    | (with_reducible refine LeO.ite ?_ ?_)
    | (with_reducible refine LeO.bind ?_ (fun _ => ?_))
    | exact ih0 _ _ _ _
    | exact LeO.none _
    | refine LeO.ite ?_ ?_
    | refine LeO.bind ?_ (fun _ => ?_)
theorem slices_Index_int64_int64.mono : ∀ a0 a1 k, LeO (slices_Index_int64_int64.f k a0 a1) (slices_Index_int64_int64.f (k + 1) a0 a1) := by
 intro a0 a1 k
 have ih0 := slices_Index_int64_int64.mono_l k
 unfold slices_Index_int64_int64.f
 repeat' first
  | (with_reducible exact ih0 _ _ _ _)
  | (with_reducible exact LeO.refl _)
  | (with_reducible exact LeO.none _)
  | (with_reducible refine LeO.ite ?_ ?_)
  | (with_reducible refine LeO.bind ?_ (fun _ => ?_))
  | exact ih0 _ _ _ _
  | exact LeO.none _
  | refine LeO.ite ?_ ?_
  | refine LeO.bind ?_ (fun _ => ?_)
set_option maxHeartbeats 8000000 in
set_option maxRecDepth 100000 in
theorem slices_Index_int64_int64.calls (k : Nat) (A0 : Option Addr) (c0 : Nat) (l0 : List Int) (a1 : Int) (r : Int) (w : World) (hr0 : Kd.C (Kd.int .i64) w A0 l0.length l0) (hc0 : l0.length ≤ c0) (h : slices_Index_int64_int64.f k l0 a1 = some r) :
 Calls Try.prog 158 #[.slice A0 l0.length c0, .int .i64 a1] w fun e w' => e = .returned (.int .i64 r) ∧ Drawn0 w w' := by
 have HR0 := Aside0.mk hr0
 have HC0 := Aside0.mk hc0
 clear hr0 hc0
 have H : (slices_Index_int64_int64.l0 k l0 a1 (l0.length : Int) 0) = some r := h
 clear h
 have H' := Aside0.mk H
 clear H
 go_enter Try.func158, Try.ntmps158
 go_wp2
 go_loopg [8] k (fun kq v8 w' => ∃ (x8_1 : Int), v8 = .int .i64 x8_1 ∧ Aside0 (slices_Index_int64_int64.l0 kq l0 a1 (l0.length : Int) x8_1 = some r) ∧ Aside0 (kq ≤ k) ∧ Drawn0 w w')
 case atStart => exact ⟨(0), tq, H', ⟨Nat.le_refl _⟩, tZ⟩
 case round =>
 clear H'
 try clear c1
 try clear p2
 obtain ⟨x8_1, rfl, HA, HK1, ⟨m1, rfl⟩⟩ := hrel
 cases gk with
 | zero => exact absurd HA.out (by simp [slices_Index_int64_int64.l0])
 | succ k1 =>
 have H := HA.out
 clear HA
 simp only [slices_Index_int64_int64.l0] at H
 by_cases c3 : x8_1 < (l0.length : Int)
 · rw [if_pos c3] at H
   have c3b0 : decide (x8_1 < (l0.length : Int)) = true := decide_eq_true c3
   clear c3
   by_cases c4 : 0 ≤ x8_1
   · rw [if_pos c4] at H
     have c4b0 : decide (0 ≤ x8_1) = true := decide_eq_true c4
     clear c4
     by_cases c5 : x8_1 < (l0.length : Int)
     · rw [if_pos c5] at H
       have c5b0 : decide (x8_1 < (l0.length : Int)) = true := decide_eq_true c5
       clear c5
       by_cases c6 : a1 = (rd l0 x8_1)
       · rw [if_pos c6] at H
         have c6b0 : (a1 == (rd l0 x8_1)) = true := beq_iff_eq.mpr c6
         have c6b1 : (a1 != (rd l0 x8_1)) = false := bne_eq_false_iff_eq.mpr c6
         clear c6
         obtain rfl := Option.some.inj H
         have p175 : 0 ≤ (x8_1 : Int) := of_decide_eq_true tA
         have q175 : x8_1 < (l0.length : Int) := of_decide_eq_true tA
         obtain ⟨ad175, e175, hx175_0⟩ := Kd.at_int HR0.out x8_1 p175 q175
         cases e175
         replace p175 := eq_true p175
         replace q175 := eq_true q175
         go_wp2
         go_ret
         exact ⟨by first | rfl | (simp; done) | (simp [*]; done), tZ⟩
       rw [if_neg c6] at H
       have c6b0 : (a1 == (rd l0 x8_1)) = false := beq_eq_false_iff_ne.mpr c6
       have c6b1 : (a1 != (rd l0 x8_1)) = true := bne_iff_ne.mpr c6
       have H' := Aside0.mk H
       clear H
       have p175 : 0 ≤ (x8_1 : Int) := of_decide_eq_true tA
       have q175 : x8_1 < (l0.length : Int) := of_decide_eq_true tA
       obtain ⟨ad175, e175, hx175_0⟩ := Kd.at_int HR0.out x8_1 p175 q175
       cases e175
       replace p175 := eq_true p175
       replace q175 := eq_true q175
       go_wp2
       go_roundg k1
       case measure => have := HK1.out; omega
       case rel => exact ⟨(wrap64 (x8_1 + 1)), tq, H', ⟨by have := HK1.out; omega⟩, tZ⟩
     rw [if_neg c5] at H
     exact absurd H (by simp)
   rw [if_neg c4] at H
   exact absurd H (by simp)
 rw [if_neg c3] at H
 have c3b0 : decide (x8_1 < (l0.length : Int)) = false := decide_eq_false c3
 clear c3
 obtain rfl := Option.some.inj H
 go_wp2
 go_ret
 exact ⟨by first | rfl | (simp; done) | (simp [*]; done), tZ⟩

/-! ### impl_octaveOf: function 159 -/
def impl_octaveOf.f (a0 : Int) : Option (Int) := (impl_ToneOf.f a0).bind fun t176 => (some (wrap64 (Int.tdiv (wrap64 (a0 - t176)) 12)))
set_option maxHeartbeats 8000000 in
set_option maxRecDepth 100000 in
theorem impl_octaveOf.calls (a0 : Int) (r : Int) (w : World) (h : impl_octaveOf.f a0 = some r) :
 Calls Try.prog 159 #[.int .i64 a0] w fun e w' => e = .returned (.int .i64 r) ∧ Drawn0 w w' := by
 have H : ((impl_ToneOf.f a0).bind fun t176 => (some (wrap64 (Int.tdiv (wrap64 (a0 - t176)) 12)))) = some r := h
 clear h
 replace H := Option.bind_eq_some_iff.mp H
 obtain ⟨t176, A20, H⟩ := H
 replace H : (some (wrap64 (Int.tdiv (wrap64 (a0 - t176)) 12))) = some r := H
 have A2 := Aside0.mk A20
 clear A20
 obtain rfl := Option.some.inj H
 go_enter Try.func159, Try.ntmps159
 go_wp2_with (first | ((with_reducible refine gate_callee (f := 57) rfl ?_); refine gL_ (some 5) rfl rfl Try.func57 #[.int .i64 a0] rfl ?_; (with_reducible refine (impl_ToneOf.calls a0 t176 _ A2.out).mono ?_); rintro e w' ⟨rfl, ⟨nd, rfl⟩⟩; refine ⟨_, rfl, ?_⟩))
 go_ret
 exact ⟨by first | rfl | (simp; done) | (simp [*]; done), tZ⟩

/-! ### impl_DegreeOf: function 50 -/
def impl_DegreeOf.f (k : Nat) (l0 : List Int) (a1 : Int) : Option (Int × Int) := (impl_ValidScale.f k l0).bind fun t177 => (if t177 = true then ((impl_pitchOk.f a1).bind fun t178 => (if t178 = true then ((impl_ToneOf.f a1).bind fun t179 => ((slices_Index_int64_int64.f k l0 t179).bind fun t180 => (if t180 < 0 then (some (0, 3)) else ((impl_octaveOf.f a1).bind fun t181 => (some (wrap64 ((wrap64 (t181 * (l0.length : Int))) + t180), 0)))))) else (some (0, 2)))) else (some (0, 1)))
theorem impl_DegreeOf.mono : ∀ a0 a1 k, LeO (impl_DegreeOf.f k a0 a1) (impl_DegreeOf.f (k + 1) a0 a1) := by
 intro a0 a1 k
 unfold impl_DegreeOf.f
 repeat' first
  | (with_reducible exact impl_ValidScale.mono _ _)
  | (with_reducible exact slices_Index_int64_int64.mono _ _ _)
  | (with_reducible exact LeO.refl _)
  | (with_reducible exact LeO.none _)
  | (with_reducible refine LeO.ite ?_ ?_)
  | (with_reducible refine LeO.bind ?_ (fun _ => ?_))
  | exact impl_ValidScale.mono _ _
  | exact slices_Index_int64_int64.mono _ _ _
  | exact LeO.none _
  | refine LeO.ite ?_ ?_
  | refine LeO.bind ?_ (fun _ => ?_)
set_option maxHeartbeats 8000000 in
set_option maxRecDepth 100000 in
theorem impl_DegreeOf.calls (k : Nat) (A0 : Option Addr) (c0 : Nat) (l0 : List Int) (a1 : Int) (r1 : Int) (r2 : Int) (w : World) (hr0 : Kd.C (Kd.int .i64) w A0 l0.length l0) (hc0 : l0.length ≤ c0) (h : impl_DegreeOf.f k l0 a1 = some (r1, r2)) :
 Calls Try.prog 50 #[.slice A0 l0.length c0, .int .i64 a1] w fun e w' => e = .returned (.tuple #[.int .i64 r1, .int .i64 r2]) ∧ Drawn0 w w' := by
 have HR0 := Aside0.mk hr0
 have HC0 := Aside0.mk hc0
 clear hr0 hc0
 have H : ((impl_ValidScale.f k l0).bind fun t177 => (if t177 = true then ((impl_pitchOk.f a1).bind fun t178 => (if t178 = true then ((impl_ToneOf.f a1).bind fun t179 => ((slices_Index_int64_int64.f k l0 t179).bind fun t180 => (if t180 < 0 then (some (0, 3)) else ((impl_octaveOf.f a1).bind fun t181 => (some (wrap64 ((wrap64 (t181 * (l0.length : Int))) + t180), 0)))))) else (some (0, 2)))) else (some (0, 1)))) = some (r1, r2) := h
 clear h
 replace H := Option.bind_eq_some_iff.mp H
 obtain ⟨t177, A30, H⟩ := H
 replace H : (if t177 = true then ((impl_pitchOk.f a1).bind fun t178 => (if t178 = true then ((impl_ToneOf.f a1).bind fun t179 => ((slices_Index_int64_int64.f k l0 t179).bind fun t180 => (if t180 < 0 then (some (0, 3)) else ((impl_octaveOf.f a1).bind fun t181 => (some (wrap64 ((wrap64 (t181 * (l0.length : Int))) + t180), 0)))))) else (some (0, 2)))) else (some (0, 1))) = some (r1, r2) := H
 have A3 := Aside0.mk A30
 clear A30
 by_cases c4 : t177 = true
 · subst c4
   have H1 : ((impl_pitchOk.f a1).bind fun t178 => (if t178 = true then ((impl_ToneOf.f a1).bind fun t179 => ((slices_Index_int64_int64.f k l0 t179).bind fun t180 => (if t180 < 0 then (some (0, 3)) else ((impl_octaveOf.f a1).bind fun t181 => (some (wrap64 ((wrap64 (t181 * (l0.length : Int))) + t180), 0)))))) else (some (0, 2)))) = some (r1, r2) := by rw [if_pos rfl] at H; exact H
   clear H
   have H := H1
   clear H1
   replace H := Option.bind_eq_some_iff.mp H
   obtain ⟨t178, A50, H⟩ := H
   replace H : (if t178 = true then ((impl_ToneOf.f a1).bind fun t179 => ((slices_Index_int64_int64.f k l0 t179).bind fun t180 => (if t180 < 0 then (some (0, 3)) else ((impl_octaveOf.f a1).bind fun t181 => (some (wrap64 ((wrap64 (t181 * (l0.length : Int))) + t180), 0)))))) else (some (0, 2))) = some (r1, r2) := H
   have A5 := Aside0.mk A50
   clear A50
   by_cases c6 : t178 = true
   · subst c6
     have H1 : ((impl_ToneOf.f a1).bind fun t179 => ((slices_Index_int64_int64.f k l0 t179).bind fun t180 => (if t180 < 0 then (some (0, 3)) else ((impl_octaveOf.f a1).bind fun t181 => (some (wrap64 ((wrap64 (t181 * (l0.length : Int))) + t180), 0)))))) = some (r1, r2) := by rw [if_pos rfl] at H; exact H
     clear H
     have H := H1
     clear H1
     replace H := Option.bind_eq_some_iff.mp H
     obtain ⟨t179, A70, H⟩ := H
     replace H : ((slices_Index_int64_int64.f k l0 t179).bind fun t180 => (if t180 < 0 then (some (0, 3)) else ((impl_octaveOf.f a1).bind fun t181 => (some (wrap64 ((wrap64 (t181 * (l0.length : Int))) + t180), 0))))) = some (r1, r2) := H
     have A7 := Aside0.mk A70
     clear A70
     replace H := Option.bind_eq_some_iff.mp H
     obtain ⟨t180, A80, H⟩ := H
     replace H : (if t180 < 0 then (some (0, 3)) else ((impl_octaveOf.f a1).bind fun t181 => (some (wrap64 ((wrap64 (t181 * (l0.length : Int))) + t180), 0)))) = some (r1, r2) := H
     have A8 := Aside0.mk A80
     clear A80
     by_cases c9 : t180 < 0
     · rw [if_pos c9] at H
       have c9b0 : decide (t180 < 0) = true := decide_eq_true c9
       clear c9
       simp only [Option.some.injEq, Prod.mk.injEq] at H
       obtain ⟨rfl, rfl⟩ := H
       go_enter Try.func50, Try.ntmps50
       go_wp2_with (first | ((with_reducible refine gate_callee (f := 156) rfl ?_); refine gL_ (some 9) rfl rfl Try.func156 #[.slice A0 l0.length c0] rfl ?_; (with_reducible refine (impl_ValidScale.calls k _ _ l0 true _ ?side1 ?side2 A3.out).mono ?_); (case side1 => exact tC HR0.out); (case side2 => exact HC0.out); rintro e w' ⟨rfl, ⟨nd, rfl⟩⟩; refine ⟨_, rfl, ?_⟩) | ((with_reducible refine gate_callee (f := 157) rfl ?_); refine gL_ (some 13) rfl rfl Try.func157 #[.int .i64 a1] rfl ?_; (with_reducible refine (impl_pitchOk.calls a1 true _ A5.out).mono ?_); rintro e w' ⟨rfl, ⟨nd, rfl⟩⟩; refine ⟨_, rfl, ?_⟩) | ((with_reducible refine gate_callee (f := 57) rfl ?_); refine gL_ (some 17) rfl rfl Try.func57 #[.int .i64 a1] rfl ?_; (with_reducible refine (impl_ToneOf.calls a1 t179 _ A7.out).mono ?_); rintro e w' ⟨rfl, ⟨nd, rfl⟩⟩; refine ⟨_, rfl, ?_⟩) | ((with_reducible refine gate_callee (f := 158) rfl ?_); refine gL_ (some 18) rfl rfl Try.func158 #[.slice A0 l0.length c0, .int .i64 t179] rfl ?_; (with_reducible refine (slices_Index_int64_int64.calls k _ _ l0 t179 t180 _ ?side1 ?side2 A8.out).mono ?_); (case side1 => exact tC HR0.out); (case side2 => exact HC0.out); rintro e w' ⟨rfl, ⟨nd, rfl⟩⟩; refine ⟨_, rfl, ?_⟩))
       go_ret2
       exact ⟨by first | rfl | (simp; done) | (simp [*]; done), tZ⟩
     rw [if_neg c9] at H
     have c9b0 : decide (t180 < 0) = false := decide_eq_false c9
     clear c9
     replace H := Option.bind_eq_some_iff.mp H
     obtain ⟨t181, A100, H⟩ := H
     replace H : (some (wrap64 ((wrap64 (t181 * (l0.length : Int))) + t180), 0)) = some (r1, r2) := H
     have A10 := Aside0.mk A100
     clear A100
     simp only [Option.some.injEq, Prod.mk.injEq] at H
     obtain ⟨rfl, rfl⟩ := H
     go_enter Try.func50, Try.ntmps50
     go_wp2_with (first | ((with_reducible refine gate_callee (f := 156) rfl ?_); refine gL_ (some 9) rfl rfl Try.func156 #[.slice A0 l0.length c0] rfl ?_; (with_reducible refine (impl_ValidScale.calls k _ _ l0 true _ ?side1 ?side2 A3.out).mono ?_); (case side1 => exact tC HR0.out); (case side2 => exact HC0.out); rintro e w' ⟨rfl, ⟨nd, rfl⟩⟩; refine ⟨_, rfl, ?_⟩) | ((with_reducible refine gate_callee (f := 157) rfl ?_); refine gL_ (some 13) rfl rfl Try.func157 #[.int .i64 a1] rfl ?_; (with_reducible refine (impl_pitchOk.calls a1 true _ A5.out).mono ?_); rintro e w' ⟨rfl, ⟨nd, rfl⟩⟩; refine ⟨_, rfl, ?_⟩) | ((with_reducible refine gate_callee (f := 57) rfl ?_); refine gL_ (some 17) rfl rfl Try.func57 #[.int .i64 a1] rfl ?_; (with_reducible refine (impl_ToneOf.calls a1 t179 _ A7.out).mono ?_); rintro e w' ⟨rfl, ⟨nd, rfl⟩⟩; refine ⟨_, rfl, ?_⟩) | ((with_reducible refine gate_callee (f := 158) rfl ?_); refine gL_ (some 18) rfl rfl Try.func158 #[.slice A0 l0.length c0, .int .i64 t179] rfl ?_; (with_reducible refine (slices_Index_int64_int64.calls k _ _ l0 t179 t180 _ ?side1 ?side2 A8.out).mono ?_); (case side1 => exact tC HR0.out); (case side2 => exact HC0.out); rintro e w' ⟨rfl, ⟨nd, rfl⟩⟩; refine ⟨_, rfl, ?_⟩) | ((with_reducible refine gate_callee (f := 159) rfl ?_); refine gL_ (some 22) rfl rfl Try.func159 #[.int .i64 a1] rfl ?_; (with_reducible refine (impl_octaveOf.calls a1 t181 _ A10.out).mono ?_); rintro e w' ⟨rfl, ⟨nd, rfl⟩⟩; refine ⟨_, rfl, ?_⟩))
     go_ret2
     exact ⟨by first | rfl | (simp; done) | (simp [*]; done), tZ⟩
   replace c6 := Bool.eq_false_iff.mpr c6
   subst c6
   have H1 : (some (0, 2)) = some (r1, r2) := by rw [if_neg (show ¬ (false = true) by decide)] at H; exact H
   clear H
   have H := H1
   clear H1
   simp only [Option.some.injEq, Prod.mk.injEq] at H
   obtain ⟨rfl, rfl⟩ := H
   go_enter Try.func50, Try.ntmps50
   go_wp2_with (first | ((with_reducible refine gate_callee (f := 156) rfl ?_); refine gL_ (some 9) rfl rfl Try.func156 #[.slice A0 l0.length c0] rfl ?_; (with_reducible refine (impl_ValidScale.calls k _ _ l0 true _ ?side1 ?side2 A3.out).mono ?_); (case side1 => exact tC HR0.out); (case side2 => exact HC0.out); rintro e w' ⟨rfl, ⟨nd, rfl⟩⟩; refine ⟨_, rfl, ?_⟩) | ((with_reducible refine gate_callee (f := 157) rfl ?_); refine gL_ (some 13) rfl rfl Try.func157 #[.int .i64 a1] rfl ?_; (with_reducible refine (impl_pitchOk.calls a1 false _ A5.out).mono ?_); rintro e w' ⟨rfl, ⟨nd, rfl⟩⟩; refine ⟨_, rfl, ?_⟩))
   go_ret2
   exact ⟨by first | rfl | (simp; done) | (simp [*]; done), tZ⟩
 replace c4 := Bool.eq_false_iff.mpr c4
 subst c4
 have H1 : (some (0, 1)) = some (r1, r2) := by rw [if_neg (show ¬ (false = true) by decide)] at H; exact H
 clear H
 have H := H1
 clear H1
 simp only [Option.some.injEq, Prod.mk.injEq] at H
 obtain ⟨rfl, rfl⟩ := H
 go_enter Try.func50, Try.ntmps50
 go_wp2_with (first | ((with_reducible refine gate_callee (f := 156) rfl ?_); refine gL_ (some 9) rfl rfl Try.func156 #[.slice A0 l0.length c0] rfl ?_; (with_reducible refine (impl_ValidScale.calls k _ _ l0 false _ ?side1 ?side2 A3.out).mono ?_); (case side1 => exact tC HR0.out); (case side2 => exact HC0.out); rintro e w' ⟨rfl, ⟨nd, rfl⟩⟩; refine ⟨_, rfl, ?_⟩))
 go_ret2
 exact ⟨by first | rfl | (simp; done) | (simp [*]; done), tZ⟩

end Go.Proofs.Ytbedlmlofnphkaa.PO
