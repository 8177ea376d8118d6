-- WRITTEN BY wip/gprint.py, a program of this session's over the kit's print, with contracts given by hand
import Derived.Test.YtmeflmlejcmckaaDoorPSx0
import Derived.Test.YtmeflmlejcmckaaDoorPSx4
import Derived.Test.YtmeflmlejcmckaaDoorPSx5
namespace Go.Proofs.YtmeflmlejcmckaaDoor.PS
open Go.RowKit Go.Proofs.YtmeflmlejcmckaaDoorW.PrintWords Go.Proofs.YtmeflmlejcmckaaDoorW.PrintLast Go.Proofs.YtmeflmlejcmckaaDoorW.PrintMore
attribute [local go_sem] max2_int min2_int max_two min_two max_three min_three max_four min_four   -- for this text's walks alone
set_option linter.unusedVariables false
set_option linter.unusedSimpArgs false

attribute [local go_sem high] leq_strs
/-! ### spec_l18One: function 149 -/
def spec_l18One.f (k : Nat) (l0 : List (S118)) : Option (Bool) := (spec_l01Name.f k ((rd_T118 l0 0).f0)).bind fun t159 => (if t159 = true then (if (((rd_T118 l0 0).f0).size : Int) ≤ 6 then ((spec_l00In.f ((rd_T118 l0 0).f1) 1 3).bind fun t160 => (if t160 = true then ((spec_l00In.f ((rd_T118 l0 0).f2) 1 8).bind fun t161 => (some t161)) else (some false))) else (some false)) else (some false))
theorem spec_l18One.mono : ∀ a0 k, LeO (spec_l18One.f k a0) (spec_l18One.f (k + 1) a0) := by
 intro a0 k
 unfold spec_l18One.f
 repeat' first
  | (with_reducible exact spec_l01Name.mono _ _)
  | (with_reducible exact LeO.refl _)
  | (with_reducible exact LeO.none _)
  | (with_reducible refine LeO.ite ?_ ?_)
  | (with_reducible refine LeO.bind ?_ (fun _ => ?_))
  | exact spec_l01Name.mono _ _
  | exact LeO.none _
  | refine LeO.ite ?_ ?_
  | refine LeO.bind ?_ (fun _ => ?_)
set_option maxHeartbeats 8000000 in
set_option maxRecDepth 100000 in
theorem spec_l18One.calls (k : Nat) (A0 : Option Addr) (l0 : List (S118)) (r : Bool) (w : World) (hr0 : Kd.C k118 w A0 l0.length l0) (hn0 : 0 < l0.length) (h : spec_l18One.f k l0 = some r) :
 Calls Tryd.prog 149 #[.pointer A0] w fun e w' => e = .returned (.bool r) ∧ Drawn0 w w' := by
 have HR0 := Aside0.mk hr0
 clear hr0
 have HN0 := Aside0.mk hn0
 have hn0b0 : decide ((0 : Int) < (l0.length : Int)) = true := decide_eq_true (Int.ofNat_lt.2 hn0)
 have hn0b1 : decide (0 < l0.length) = true := decide_eq_true hn0
 clear hn0
 have H : ((spec_l01Name.f k ((rd_T118 l0 0).f0)).bind fun t159 => (if t159 = true then (if (((rd_T118 l0 0).f0).size : Int) ≤ 6 then ((spec_l00In.f ((rd_T118 l0 0).f1) 1 3).bind fun t160 => (if t160 = true then ((spec_l00In.f ((rd_T118 l0 0).f2) 1 8).bind fun t161 => (some t161)) else (some false))) else (some false)) else (some false))) = some r := h
 clear h
 replace H := Option.bind_eq_some_iff.mp H
 obtain ⟨t159, A20, H⟩ := H
 replace H : (if t159 = true then (if (((rd_T118 l0 0).f0).size : Int) ≤ 6 then ((spec_l00In.f ((rd_T118 l0 0).f1) 1 3).bind fun t160 => (if t160 = true then ((spec_l00In.f ((rd_T118 l0 0).f2) 1 8).bind fun t161 => (some t161)) else (some false))) else (some false)) else (some false)) = some r := H
 have A2 := Aside0.mk A20
 clear A20
 by_cases c3 : t159 = true
 · subst c3
   have H1 : (if (((rd_T118 l0 0).f0).size : Int) ≤ 6 then ((spec_l00In.f ((rd_T118 l0 0).f1) 1 3).bind fun t160 => (if t160 = true then ((spec_l00In.f ((rd_T118 l0 0).f2) 1 8).bind fun t161 => (some t161)) else (some false))) else (some false)) = some r := by rw [if_pos rfl] at H; exact H
   clear H
   have H := H1
   clear H1
   by_cases c4 : (((rd_T118 l0 0).f0).size : Int) ≤ 6
   · rw [if_pos c4] at H
     have c4b0 : decide ((((rd_T118 l0 0).f0).size : Int) ≤ 6) = true := decide_eq_true c4
     have c4b1 : decide (((rd_T118 l0 0).f0).size ≤ 6) = true := decide_eq_true (by omega)
     clear c4
     replace H := Option.bind_eq_some_iff.mp H
     obtain ⟨t160, A50, H⟩ := H
     replace H : (if t160 = true then ((spec_l00In.f ((rd_T118 l0 0).f2) 1 8).bind fun t161 => (some t161)) else (some false)) = some r := H
     have A5 := Aside0.mk A50
     clear A50
     by_cases c6 : t160 = true
     · subst c6
       have H1 : ((spec_l00In.f ((rd_T118 l0 0).f2) 1 8).bind fun t161 => (some t161)) = some r := by rw [if_pos rfl] at H; exact H
       clear H
       have H := H1
       clear H1
       replace H := Option.bind_eq_some_iff.mp H
       obtain ⟨t161, A70, H⟩ := H
       replace H : (some t161) = some r := H
       have A7 := Aside0.mk A70
       clear A70
       obtain rfl := Option.some.inj H
       have p158 : 0 ≤ (0 : Int) := (by omega)
       have q158 : 0 < (l0.length : Int) := of_decide_eq_true tA
       obtain ⟨ad158, e158, hx158_0, hx158_1, hx158_2⟩ := at_T118 HR0.out 0 p158 q158
       cases e158
       have qi158 : (0 < l0.length) = True := eq_true (by omega)
       (try rw [t0n] at hx158_0)
       (try rw [show 0 * 3 = 0 from rfl] at hx158_0)
       (try rw [Addr.add_zero'] at hx158_0)
       (try rw [t0n] at hx158_1)
       (try rw [show 0 * 3 = 0 from rfl] at hx158_1)
       (try rw [Addr.add_zero'] at hx158_1)
       (try rw [t0n] at hx158_2)
       (try rw [show 0 * 3 = 0 from rfl] at hx158_2)
       (try rw [Addr.add_zero'] at hx158_2)
       replace p158 := eq_true p158
       replace q158 := eq_true q158
       go_enter Tryd.func149, Tryd.ntmps149
       go_wp2_with (first | ((with_reducible refine gate_callee (f := 156) rfl ?_); refine gL_ (some 7) rfl rfl Tryd.func156 #[.string ((rd_T118 l0 0).f0)] rfl ?_; (with_reducible refine (spec_l01Name.calls k ((rd_T118 l0 0).f0) true _ A2.out).mono ?_); rintro e w' ⟨rfl, ⟨nd, rfl⟩⟩; refine ⟨_, rfl, ?_⟩) | (go_at_call 118; (with_reducible refine (spec_l00In.calls ((rd_T118 l0 0).f1) 1 3 true _ A5.out).mono ?_); rintro e w' ⟨rfl, ⟨nd, rfl⟩⟩) | (go_at_call 118; (with_reducible refine (spec_l00In.calls ((rd_T118 l0 0).f2) 1 8 t161 _ A7.out).mono ?_); rintro e w' ⟨rfl, ⟨nd, rfl⟩⟩))
       go_ret
       exact ⟨by first | rfl | (simp; done) | (simp [*]; done), tZ⟩
     replace c6 := Bool.eq_false_iff.mpr c6
     subst c6
     have H1 : (some false) = some r := by rw [if_neg (show ¬ (false = true) by decide)] at H; exact H
     clear H
     have H := H1
     clear H1
     obtain rfl := Option.some.inj H
     have p158 : 0 ≤ (0 : Int) := (by omega)
     have q158 : 0 < (l0.length : Int) := of_decide_eq_true tA
     obtain ⟨ad158, e158, hx158_0, hx158_1, hx158_2⟩ := at_T118 HR0.out 0 p158 q158
     cases e158
     have qi158 : (0 < l0.length) = True := eq_true (by omega)
     (try rw [t0n] at hx158_0)
     (try rw [show 0 * 3 = 0 from rfl] at hx158_0)
     (try rw [Addr.add_zero'] at hx158_0)
     (try rw [t0n] at hx158_1)
     (try rw [show 0 * 3 = 0 from rfl] at hx158_1)
     (try rw [Addr.add_zero'] at hx158_1)
     (try rw [t0n] at hx158_2)
     (try rw [show 0 * 3 = 0 from rfl] at hx158_2)
     (try rw [Addr.add_zero'] at hx158_2)
     replace p158 := eq_true p158
     replace q158 := eq_true q158
     go_enter Tryd.func149, Tryd.ntmps149
     go_wp2_with (first | ((with_reducible refine gate_callee (f := 156) rfl ?_); refine gL_ (some 7) rfl rfl Tryd.func156 #[.string ((rd_T118 l0 0).f0)] rfl ?_; (with_reducible refine (spec_l01Name.calls k ((rd_T118 l0 0).f0) true _ A2.out).mono ?_); rintro e w' ⟨rfl, ⟨nd, rfl⟩⟩; refine ⟨_, rfl, ?_⟩) | (go_at_call 118; (with_reducible refine (spec_l00In.calls ((rd_T118 l0 0).f1) 1 3 false _ A5.out).mono ?_); rintro e w' ⟨rfl, ⟨nd, rfl⟩⟩))
     go_ret
     exact ⟨by first | rfl | (simp; done) | (simp [*]; done), tZ⟩
   rw [if_neg c4] at H
   have c4b0 : decide ((((rd_T118 l0 0).f0).size : Int) ≤ 6) = false := decide_eq_false c4
   have c4b1 : decide (((rd_T118 l0 0).f0).size ≤ 6) = false := decide_eq_false (by omega)
   clear c4
   obtain rfl := Option.some.inj H
   have p158 : 0 ≤ (0 : Int) := (by omega)
   have q158 : 0 < (l0.length : Int) := of_decide_eq_true tA
   obtain ⟨ad158, e158, hx158_0, hx158_1, hx158_2⟩ := at_T118 HR0.out 0 p158 q158
   cases e158
   have qi158 : (0 < l0.length) = True := eq_true (by omega)
   (try rw [t0n] at hx158_0)
   (try rw [show 0 * 3 = 0 from rfl] at hx158_0)
   (try rw [Addr.add_zero'] at hx158_0)
   (try rw [t0n] at hx158_1)
   (try rw [show 0 * 3 = 0 from rfl] at hx158_1)
   (try rw [Addr.add_zero'] at hx158_1)
   (try rw [t0n] at hx158_2)
   (try rw [show 0 * 3 = 0 from rfl] at hx158_2)
   (try rw [Addr.add_zero'] at hx158_2)
   replace p158 := eq_true p158
   replace q158 := eq_true q158
   go_enter Tryd.func149, Tryd.ntmps149
   go_wp2_with (first | ((with_reducible refine gate_callee (f := 156) rfl ?_); refine gL_ (some 7) rfl rfl Tryd.func156 #[.string ((rd_T118 l0 0).f0)] rfl ?_; (with_reducible refine (spec_l01Name.calls k ((rd_T118 l0 0).f0) true _ A2.out).mono ?_); rintro e w' ⟨rfl, ⟨nd, rfl⟩⟩; refine ⟨_, rfl, ?_⟩))
   go_ret
   exact ⟨by first | rfl | (simp; done) | (simp [*]; done), tZ⟩
 replace c3 := Bool.eq_false_iff.mpr c3
 subst c3
 have H1 : (some false) = some r := by rw [if_neg (show ¬ (false = true) by decide)] at H; exact H
 clear H
 have H := H1
 clear H1
 obtain rfl := Option.some.inj H
 have p158 : 0 ≤ (0 : Int) := (by omega)
 have q158 : 0 < (l0.length : Int) := of_decide_eq_true tA
 obtain ⟨ad158, e158, hx158_0, hx158_1, hx158_2⟩ := at_T118 HR0.out 0 p158 q158
 cases e158
 have qi158 : (0 < l0.length) = True := eq_true (by omega)
 (try rw [t0n] at hx158_0)
 (try rw [show 0 * 3 = 0 from rfl] at hx158_0)
 (try rw [Addr.add_zero'] at hx158_0)
 (try rw [t0n] at hx158_1)
 (try rw [show 0 * 3 = 0 from rfl] at hx158_1)
 (try rw [Addr.add_zero'] at hx158_1)
 (try rw [t0n] at hx158_2)
 (try rw [show 0 * 3 = 0 from rfl] at hx158_2)
 (try rw [Addr.add_zero'] at hx158_2)
 replace p158 := eq_true p158
 replace q158 := eq_true q158
 go_enter Tryd.func149, Tryd.ntmps149
 go_wp2_with (first | ((with_reducible refine gate_callee (f := 156) rfl ?_); refine gL_ (some 7) rfl rfl Tryd.func156 #[.string ((rd_T118 l0 0).f0)] rfl ?_; (with_reducible refine (spec_l01Name.calls k ((rd_T118 l0 0).f0) false _ A2.out).mono ?_); rintro e w' ⟨rfl, ⟨nd, rfl⟩⟩; refine ⟨_, rfl, ?_⟩))
 go_ret
 exact ⟨by first | rfl | (simp; done) | (simp [*]; done), tZ⟩

/-! ### spec_l18Ok: function 88 -/
def spec_l18Ok.l0 : Nat → List (S118) → Int → Option (Bool)
 | 0, _, _ => none
 | k + 1, x0, x3 => if x3 < (x0.length : Int) then (if 0 ≤ x3 then ((spec_l18One.f k [rd_T118 x0 x3]).bind fun t163 => (if t163 = true then (if x3 > 0 then (if 0 ≤ (wrap64 (x3 - 1)) then (if (wrap64 (x3 - 1)) < (x0.length : Int) then (if ((Op.bytesLess (((rd_T118 x0 (wrap64 (x3 - 1))).f0).toList) (((rd_T118 x0 x3).f0).toList)) = true) then (spec_l18Ok.l0 k x0 (wrap64 (x3 + 1))) else (some false)) else (none)) else (none)) else (spec_l18Ok.l0 k x0 (wrap64 (x3 + 1)))) else (some false))) else (none)) else (some (decide ((x0.length : Int) ≤ 16)))
def spec_l18Ok.f (k : Nat) (l0 : List (S118)) : Option (Bool) := spec_l18Ok.l0 k l0 0
theorem spec_l18Ok.mono_l : ∀ k, (∀ y0 y1, LeO (spec_l18Ok.l0 k y0 y1) (spec_l18Ok.l0 (k + 1) y0 y1))
 | 0 => fun _ _ r h => by simp [spec_l18Ok.l0] at h
 | k + 1 => by
  have ih0 := spec_l18Ok.mono_l k
  · intro y0 y1
    unfold spec_l18Ok.l0
    repeat' first
    | (with_reducible exact ih0 _ _)
    | (with_reducible exact spec_l18One.mono _ _)
    | (with_reducible exact LeO.refl _)
    | (with_reducible exact LeO.none _)
    | (with_reducible refine LeO.ite ?_ ?_)
    | (with_reducible refine LeO.bind ?_ (fun _ => ?_))
    | exact ih0 _ _
    | exact spec_l18One.mono _ _
    | exact LeO.none _
    | refine LeO.ite ?_ ?_
    | refine LeO.bind ?_ (fun _ => ?_)
theorem spec_l18Ok.mono : ∀ a0 k, LeO (spec_l18Ok.f k a0) (spec_l18Ok.f (k + 1) a0) := by
 intro a0 k
 have ih0 := spec_l18Ok.mono_l k
 unfold spec_l18Ok.f
 repeat' first
  | (with_reducible exact ih0 _ _)
  | (with_reducible exact spec_l18One.mono _ _)
  | (with_reducible exact LeO.refl _)
  | (with_reducible exact LeO.none _)
  | (with_reducible refine LeO.ite ?_ ?_)
  | (with_reducible refine LeO.bind ?_ (fun _ => ?_))
  | exact ih0 _ _
  | exact spec_l18One.mono _ _
  | exact LeO.none _
  | refine LeO.ite ?_ ?_
  | refine LeO.bind ?_ (fun _ => ?_)
set_option maxHeartbeats 8000000 in
set_option maxRecDepth 100000 in
theorem spec_l18Ok.calls (k : Nat) (A0 : Option Addr) (c0 : Nat) (l0 : List (S118)) (r : Bool) (w : World) (hr0 : Kd.C k118 w A0 l0.length l0) (hc0 : l0.length ≤ c0) (h : spec_l18Ok.f k l0 = some r) :
 Calls Tryd.prog 88 #[.slice A0 l0.length c0] w fun e w' => e = .returned (.bool r) ∧ Drawn0 w w' := by
 have HR0 := Aside0.mk hr0
 have HC0 := Aside0.mk hc0
 clear hr0 hc0
 have H : (spec_l18Ok.l0 k l0 0) = some r := h
 clear h
 have H' := Aside0.mk H
 clear H
 go_enter Tryd.func88, Tryd.ntmps88
 go_wp2
 repeat (go_quiet (fail); try go_wp2)
 go_loopg [3] k (fun kq v3 w' => ∃ (x3_1 : Int), v3 = .int .i64 x3_1 ∧ Aside0 (spec_l18Ok.l0 kq l0 x3_1 = some r) ∧ Aside0 (kq ≤ k) ∧ Drawn0 w w')
 case atStart => exact ⟨(0), tq, H', ⟨Nat.le_refl _⟩, tZ⟩
 case round =>
 clear H'
 obtain ⟨x3_1, rfl, HA, HK1, ⟨m1, rfl⟩⟩ := hrel
 cases gk with
 | zero => exact absurd HA.out (by simp [spec_l18Ok.l0])
 | succ k1 =>
 have H := HA.out
 clear HA
 simp only [spec_l18Ok.l0] at H
 by_cases c2 : x3_1 < (l0.length : Int)
 · rw [if_pos c2] at H
   have c2b0 : decide (x3_1 < (l0.length : Int)) = true := decide_eq_true c2
   clear c2
   by_cases c3 : 0 ≤ x3_1
   · rw [if_pos c3] at H
     have c3b0 : decide (0 ≤ x3_1) = true := decide_eq_true c3
     clear c3
     replace H := Option.bind_eq_some_iff.mp H
     obtain ⟨t163, A40, H⟩ := H
     replace H : (if t163 = true then (if x3_1 > 0 then (if 0 ≤ (wrap64 (x3_1 - 1)) then (if (wrap64 (x3_1 - 1)) < (l0.length : Int) then (if ((Op.bytesLess (((rd_T118 l0 (wrap64 (x3_1 - 1))).f0).toList) (((rd_T118 l0 x3_1).f0).toList)) = true) then (spec_l18Ok.l0 k1 l0 (wrap64 (x3_1 + 1))) else (some false)) else (none)) else (none)) else (spec_l18Ok.l0 k1 l0 (wrap64 (x3_1 + 1)))) else (some false)) = some r := H
     have A4 := Aside0.mk A40
     clear A40
     by_cases c5 : t163 = true
     · subst c5
       have H1 : (if x3_1 > 0 then (if 0 ≤ (wrap64 (x3_1 - 1)) then (if (wrap64 (x3_1 - 1)) < (l0.length : Int) then (if ((Op.bytesLess (((rd_T118 l0 (wrap64 (x3_1 - 1))).f0).toList) (((rd_T118 l0 x3_1).f0).toList)) = true) then (spec_l18Ok.l0 k1 l0 (wrap64 (x3_1 + 1))) else (some false)) else (none)) else (none)) else (spec_l18Ok.l0 k1 l0 (wrap64 (x3_1 + 1)))) = some r := by rw [if_pos rfl] at H; exact H
       clear H
       have H := H1
       clear H1
       by_cases c6 : x3_1 > 0
       · rw [if_pos c6] at H
         have c6b0 : decide (0 < x3_1) = true := decide_eq_true c6
         clear c6
         obtain ⟨ji7, hji7⟩ : ∃ j_ : Int, (wrap64 (x3_1 - 1)) = j_ := ⟨_, rfl⟩
         replace H : (if 0 ≤ (ji7) then (if (ji7) < (l0.length : Int) then (if ((Op.bytesLess (((rd_T118 l0 (ji7)).f0).toList) (((rd_T118 l0 x3_1).f0).toList)) = true) then (spec_l18Ok.l0 k1 l0 (wrap64 (x3_1 + 1))) else (some false)) else (none)) else (none)) = some r := by first | (rw [hji7] at H; exact H) | (simp only [hji7] at H ⊢; exact H)
         (try rw [hji7] at A4)
         have hji7w : (IntKind.i64.wrap (x3_1 - 1)) = ji7 := (i64_w _).trans hji7
         by_cases c8 : 0 ≤ (ji7)
         · rw [if_pos c8] at H
           have c8b0 : decide (0 ≤ (ji7)) = true := decide_eq_true c8
           clear c8
           by_cases c9 : (ji7) < (l0.length : Int)
           · rw [if_pos c9] at H
             have c9b0 : decide ((ji7) < (l0.length : Int)) = true := decide_eq_true c9
             clear c9
             by_cases c10 : ((Op.bytesLess (((rd_T118 l0 (ji7)).f0).toList) (((rd_T118 l0 x3_1).f0).toList)) = true)
             · rw [if_pos c10] at H
               have c10b0 : (Op.bytesLess (((rd_T118 l0 (ji7)).f0).toList) (((rd_T118 l0 x3_1).f0).toList)) = true := c10
               clear c10
               have H' := Aside0.mk H
               clear H
               have p162 : 0 ≤ (x3_1 : Int) := of_decide_eq_true tA
               have q162 : x3_1 < (l0.length : Int) := of_decide_eq_true tA
               obtain ⟨ad162, e162, hx162_0, hx162_1, hx162_2⟩ := at_T118 HR0.out x3_1 p162 q162
               cases e162
               replace p162 := eq_true p162
               replace q162 := eq_true q162
               have p164 : 0 ≤ ((ji7) : Int) := of_decide_eq_true tA
               have q164 : (ji7) < (l0.length : Int) := of_decide_eq_true tA
               obtain ⟨ad164, e164, hx164_0, hx164_1, hx164_2⟩ := at_T118 HR0.out (ji7) p164 q164
               obtain rfl : ad162 = ad164 := (by injection e164)
               replace p164 := eq_true p164
               replace q164 := eq_true q164
               have p165 : 0 ≤ (x3_1 : Int) := of_decide_eq_true tA
               have q165 : x3_1 < (l0.length : Int) := of_decide_eq_true tA
               obtain ⟨ad165, e165, hx165_0, hx165_1, hx165_2⟩ := at_T118 HR0.out x3_1 p165 q165
               obtain rfl : ad162 = ad165 := (by injection e165)
               replace p165 := eq_true p165
               replace q165 := eq_true q165
               go_wp2_with (first | (go_at_call 149; (with_reducible refine (spec_l18One.calls k1 _ [rd_T118 l0 x3_1] true _ ?side1 ?side2 A4.out).mono ?_); (case side1 => refine Kd.C_one (i := x3_1) (n := l0.length) (xs := l0) (z := z118) ?_ (of_eq_true p162) (of_eq_true q162); exact tC HR0.out); (case side2 => exact Nat.one_pos); rintro e w' ⟨rfl, ⟨nd, rfl⟩⟩; (try exact tD)))
               repeat (go_quiet (first | (go_at_call 149; (with_reducible refine (spec_l18One.calls k1 _ [rd_T118 l0 x3_1] true _ ?side1 ?side2 A4.out).mono ?_); (case side1 => refine Kd.C_one (i := x3_1) (n := l0.length) (xs := l0) (z := z118) ?_ (of_eq_true p162) (of_eq_true q162); exact tC HR0.out); (case side2 => exact Nat.one_pos); rintro e w' ⟨rfl, ⟨nd, rfl⟩⟩; (try exact tD))); try go_wp2_with (first | (go_at_call 149; (with_reducible refine (spec_l18One.calls k1 _ [rd_T118 l0 x3_1] true _ ?side1 ?side2 A4.out).mono ?_); (case side1 => refine Kd.C_one (i := x3_1) (n := l0.length) (xs := l0) (z := z118) ?_ (of_eq_true p162) (of_eq_true q162); exact tC HR0.out); (case side2 => exact Nat.one_pos); rintro e w' ⟨rfl, ⟨nd, rfl⟩⟩; (try exact tD))))
               go_roundg k1
               case measure => have := HK1.out; omega
               case rel => exact ⟨(wrap64 (x3_1 + 1)), tq, H', ⟨by have := HK1.out; omega⟩, tZ⟩
             rw [if_neg c10] at H
             have c10b0 : (Op.bytesLess (((rd_T118 l0 (ji7)).f0).toList) (((rd_T118 l0 x3_1).f0).toList)) = false := by simpa using c10
             clear c10
             obtain rfl := Option.some.inj H
             have p162 : 0 ≤ (x3_1 : Int) := of_decide_eq_true tA
             have q162 : x3_1 < (l0.length : Int) := of_decide_eq_true tA
             obtain ⟨ad162, e162, hx162_0, hx162_1, hx162_2⟩ := at_T118 HR0.out x3_1 p162 q162
             cases e162
             replace p162 := eq_true p162
             replace q162 := eq_true q162
             have p164 : 0 ≤ ((ji7) : Int) := of_decide_eq_true tA
             have q164 : (ji7) < (l0.length : Int) := of_decide_eq_true tA
             obtain ⟨ad164, e164, hx164_0, hx164_1, hx164_2⟩ := at_T118 HR0.out (ji7) p164 q164
             obtain rfl : ad162 = ad164 := (by injection e164)
             replace p164 := eq_true p164
             replace q164 := eq_true q164
             have p165 : 0 ≤ (x3_1 : Int) := of_decide_eq_true tA
             have q165 : x3_1 < (l0.length : Int) := of_decide_eq_true tA
             obtain ⟨ad165, e165, hx165_0, hx165_1, hx165_2⟩ := at_T118 HR0.out x3_1 p165 q165
             obtain rfl : ad162 = ad165 := (by injection e165)
             replace p165 := eq_true p165
             replace q165 := eq_true q165
             go_wp2_with (first | (go_at_call 149; (with_reducible refine (spec_l18One.calls k1 _ [rd_T118 l0 x3_1] true _ ?side1 ?side2 A4.out).mono ?_); (case side1 => refine Kd.C_one (i := x3_1) (n := l0.length) (xs := l0) (z := z118) ?_ (of_eq_true p162) (of_eq_true q162); exact tC HR0.out); (case side2 => exact Nat.one_pos); rintro e w' ⟨rfl, ⟨nd, rfl⟩⟩; (try exact tD)))
             repeat (go_quiet (first | (go_at_call 149; (with_reducible refine (spec_l18One.calls k1 _ [rd_T118 l0 x3_1] true _ ?side1 ?side2 A4.out).mono ?_); (case side1 => refine Kd.C_one (i := x3_1) (n := l0.length) (xs := l0) (z := z118) ?_ (of_eq_true p162) (of_eq_true q162); exact tC HR0.out); (case side2 => exact Nat.one_pos); rintro e w' ⟨rfl, ⟨nd, rfl⟩⟩; (try exact tD))); try go_wp2_with (first | (go_at_call 149; (with_reducible refine (spec_l18One.calls k1 _ [rd_T118 l0 x3_1] true _ ?side1 ?side2 A4.out).mono ?_); (case side1 => refine Kd.C_one (i := x3_1) (n := l0.length) (xs := l0) (z := z118) ?_ (of_eq_true p162) (of_eq_true q162); exact tC HR0.out); (case side2 => exact Nat.one_pos); rintro e w' ⟨rfl, ⟨nd, rfl⟩⟩; (try exact tD))))
             go_ret
             exact ⟨by first | rfl | (simp; done) | (simp only [← hji7] <;> (first | rfl | simp)) | (simp [*]; done), tZ⟩
           rw [if_neg c9] at H
           exact absurd H (by simp)
         rw [if_neg c8] at H
         exact absurd H (by simp)
       rw [if_neg c6] at H
       have c6b0 : decide (0 < x3_1) = false := decide_eq_false c6
       clear c6
       have H' := Aside0.mk H
       clear H
       have p162 : 0 ≤ (x3_1 : Int) := of_decide_eq_true tA
       have q162 : x3_1 < (l0.length : Int) := of_decide_eq_true tA
       obtain ⟨ad162, e162, hx162_0, hx162_1, hx162_2⟩ := at_T118 HR0.out x3_1 p162 q162
       cases e162
       replace p162 := eq_true p162
       replace q162 := eq_true q162
       go_wp2_with (first | (go_at_call 149; (with_reducible refine (spec_l18One.calls k1 _ [rd_T118 l0 x3_1] true _ ?side1 ?side2 A4.out).mono ?_); (case side1 => refine Kd.C_one (i := x3_1) (n := l0.length) (xs := l0) (z := z118) ?_ (of_eq_true p162) (of_eq_true q162); exact tC HR0.out); (case side2 => exact Nat.one_pos); rintro e w' ⟨rfl, ⟨nd, rfl⟩⟩; (try exact tD)))
       repeat (go_quiet (first | (go_at_call 149; (with_reducible refine (spec_l18One.calls k1 _ [rd_T118 l0 x3_1] true _ ?side1 ?side2 A4.out).mono ?_); (case side1 => refine Kd.C_one (i := x3_1) (n := l0.length) (xs := l0) (z := z118) ?_ (of_eq_true p162) (of_eq_true q162); exact tC HR0.out); (case side2 => exact Nat.one_pos); rintro e w' ⟨rfl, ⟨nd, rfl⟩⟩; (try exact tD))); try go_wp2_with (first | (go_at_call 149; (with_reducible refine (spec_l18One.calls k1 _ [rd_T118 l0 x3_1] true _ ?side1 ?side2 A4.out).mono ?_); (case side1 => refine Kd.C_one (i := x3_1) (n := l0.length) (xs := l0) (z := z118) ?_ (of_eq_true p162) (of_eq_true q162); exact tC HR0.out); (case side2 => exact Nat.one_pos); rintro e w' ⟨rfl, ⟨nd, rfl⟩⟩; (try exact tD))))
       go_roundg k1
       case measure => have := HK1.out; omega
       case rel => exact ⟨(wrap64 (x3_1 + 1)), tq, H', ⟨by have := HK1.out; omega⟩, tZ⟩
     replace c5 := Bool.eq_false_iff.mpr c5
     subst c5
     have H1 : (some false) = some r := by rw [if_neg (show ¬ (false = true) by decide)] at H; exact H
     clear H
     have H := H1
     clear H1
     obtain rfl := Option.some.inj H
     have p162 : 0 ≤ (x3_1 : Int) := of_decide_eq_true tA
     have q162 : x3_1 < (l0.length : Int) := of_decide_eq_true tA
     obtain ⟨ad162, e162, hx162_0, hx162_1, hx162_2⟩ := at_T118 HR0.out x3_1 p162 q162
     cases e162
     replace p162 := eq_true p162
     replace q162 := eq_true q162
     go_wp2_with (first | (go_at_call 149; (with_reducible refine (spec_l18One.calls k1 _ [rd_T118 l0 x3_1] false _ ?side1 ?side2 A4.out).mono ?_); (case side1 => refine Kd.C_one (i := x3_1) (n := l0.length) (xs := l0) (z := z118) ?_ (of_eq_true p162) (of_eq_true q162); exact tC HR0.out); (case side2 => exact Nat.one_pos); rintro e w' ⟨rfl, ⟨nd, rfl⟩⟩; (try exact tD)))
     repeat (go_quiet (first | (go_at_call 149; (with_reducible refine (spec_l18One.calls k1 _ [rd_T118 l0 x3_1] false _ ?side1 ?side2 A4.out).mono ?_); (case side1 => refine Kd.C_one (i := x3_1) (n := l0.length) (xs := l0) (z := z118) ?_ (of_eq_true p162) (of_eq_true q162); exact tC HR0.out); (case side2 => exact Nat.one_pos); rintro e w' ⟨rfl, ⟨nd, rfl⟩⟩; (try exact tD))); try go_wp2_with (first | (go_at_call 149; (with_reducible refine (spec_l18One.calls k1 _ [rd_T118 l0 x3_1] false _ ?side1 ?side2 A4.out).mono ?_); (case side1 => refine Kd.C_one (i := x3_1) (n := l0.length) (xs := l0) (z := z118) ?_ (of_eq_true p162) (of_eq_true q162); exact tC HR0.out); (case side2 => exact Nat.one_pos); rintro e w' ⟨rfl, ⟨nd, rfl⟩⟩; (try exact tD))))
     go_ret
     exact ⟨by first | rfl | (simp; done) | (simp [*]; done), tZ⟩
   rw [if_neg c3] at H
   exact absurd H (by simp)
 rw [if_neg c2] at H
 have c2b0 : decide (x3_1 < (l0.length : Int)) = false := decide_eq_false c2
 clear c2
 obtain rfl := Option.some.inj H
 go_wp2
 repeat (go_quiet (fail); try go_wp2)
 go_ret
 exact ⟨by first | rfl | (simp; done) | (simp [*]; done), tZ⟩

/-! ### spec_l18Letter: function 150 -/
def spec_l18Letter.f (a0 : Int) : Option (ByteArray) := if a0 = 1 then (some (⟨#[108]⟩ : ByteArray)) else (if a0 = 2 then (some (⟨#[114]⟩ : ByteArray)) else (some (⟨#[98]⟩ : ByteArray)))
set_option maxHeartbeats 8000000 in
set_option maxRecDepth 100000 in
theorem spec_l18Letter.calls (a0 : Int) (r : ByteArray) (w : World) (h : spec_l18Letter.f a0 = some r) :
 Calls Tryd.prog 150 #[.int .i64 a0] w fun e w' => e = .returned (.string r) ∧ Drawn0 w w' := by
 have H : (if a0 = 1 then (some (⟨#[108]⟩ : ByteArray)) else (if a0 = 2 then (some (⟨#[114]⟩ : ByteArray)) else (some (⟨#[98]⟩ : ByteArray)))) = some r := h
 clear h
 by_cases c2 : a0 = 1
 · rw [if_pos c2] at H
   have c2b0 : (a0 == 1) = true := beq_iff_eq.mpr c2
   have c2b1 : (a0 != 1) = false := bne_eq_false_iff_eq.mpr c2
   clear c2
   obtain rfl := Option.some.inj H
   go_enter Tryd.func150, Tryd.ntmps150
   go_wp2
   go_ret
   exact ⟨by first | rfl | (simp; done) | (simp [*]; done), tZ⟩
 rw [if_neg c2] at H
 have c2b0 : (a0 == 1) = false := beq_eq_false_iff_ne.mpr c2
 have c2b1 : (a0 != 1) = true := bne_iff_ne.mpr c2
 by_cases c3 : a0 = 2
 · rw [if_pos c3] at H
   have c3b0 : (a0 == 2) = true := beq_iff_eq.mpr c3
   have c3b1 : (a0 != 2) = false := bne_eq_false_iff_eq.mpr c3
   clear c3
   obtain rfl := Option.some.inj H
   go_enter Tryd.func150, Tryd.ntmps150
   go_wp2
   go_ret
   exact ⟨by first | rfl | (simp; done) | (simp [*]; done), tZ⟩
 rw [if_neg c3] at H
 have c3b0 : (a0 == 2) = false := beq_eq_false_iff_ne.mpr c3
 have c3b1 : (a0 != 2) = true := bne_iff_ne.mpr c3
 obtain rfl := Option.some.inj H
 go_enter Tryd.func150, Tryd.ntmps150
 go_wp2
 go_ret
 exact ⟨by first | rfl | (simp; done) | (simp [*]; done), tZ⟩

end Go.Proofs.YtmeflmlejcmckaaDoor.PS
