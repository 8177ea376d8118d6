-- WRITTEN BY wip/gprint.py, a program of this session's over the kit's print, with contracts given by hand
import Derived.Test.YtbedlmlofnphkaaPZx0
import Derived.Test.YtbedlmlofnphkaaPZx1
namespace Go.Proofs.Ytbedlmlofnphkaa.PZ
open Go.RowKit Go.Proofs.YtbedlmlofnphkaaW.PrintWords Go.Proofs.YtbedlmlofnphkaaW.PrintLast Go.Proofs.YtbedlmlofnphkaaW.PrintMore
attribute [local go_sem] max2_int min2_int max_two min_two max_three min_three max_four min_four   -- for this text's walks alone
set_option linter.unusedVariables false
set_option linter.unusedSimpArgs false

/-! ### spec_l05Pair: function 273 -/
def spec_l05Pair.f (l0 : List Int) : Option (Bool) := if (l0.length : Int) = 2 then (if 0 < (l0.length : Int) then ((spec_l00In.f (rd l0 0) 0 11).bind fun t164 => (if t164 = true then (if 1 < (l0.length : Int) then ((spec_l00In.f (rd l0 1) 0 11).bind fun t166 => (if t166 = true then (some ((rd l0 0) != (rd l0 1))) else (some false))) else (none)) else (some false))) else (none)) else (some false)
set_option maxHeartbeats 8000000 in
set_option maxRecDepth 100000 in
theorem spec_l05Pair.calls (A0 : Option Addr) (c0 : Nat) (l0 : List Int) (r : Bool) (w : World) (hr0 : Kd.C (Kd.int .i64) w A0 l0.length l0) (hc0 : l0.length ≤ c0) (h : spec_l05Pair.f l0 = some r) :
 Calls Try.prog 273 #[.slice A0 l0.length c0] w fun e w' => e = .returned (.bool r) ∧ Drawn0 w w' := by
 have HR0 := Aside0.mk hr0
 have HC0 := Aside0.mk hc0
 clear hr0 hc0
 have H : (if (l0.length : Int) = 2 then (if 0 < (l0.length : Int) then ((spec_l00In.f (rd l0 0) 0 11).bind fun t164 => (if t164 = true then (if 1 < (l0.length : Int) then ((spec_l00In.f (rd l0 1) 0 11).bind fun t166 => (if t166 = true then (some ((rd l0 0) != (rd l0 1))) else (some false))) else (none)) else (some false))) else (none)) else (some false)) = some r := h
 clear h
 by_cases c2 : (l0.length : Int) = 2
 · rw [if_pos c2] at H
   have c2b0 : ((l0.length : Int) == 2) = true := beq_iff_eq.mpr c2
   have c2b1 : ((l0.length : Int) != 2) = false := bne_eq_false_iff_eq.mpr c2
   clear c2
   by_cases c3 : 0 < (l0.length : Int)
   · rw [if_pos c3] at H
     have c3b0 : decide (0 < (l0.length : Int)) = true := decide_eq_true c3
     have c3b1 : decide (0 < l0.length) = true := decide_eq_true (by omega)
     clear c3
     replace H := Option.bind_eq_some_iff.mp H
     obtain ⟨t164, A40, H⟩ := H
     replace H : (if t164 = true then (if 1 < (l0.length : Int) then ((spec_l00In.f (rd l0 1) 0 11).bind fun t166 => (if t166 = true then (some ((rd l0 0) != (rd l0 1))) else (some false))) else (none)) else (some false)) = some r := H
     have A4 := Aside0.mk A40
     clear A40
     by_cases c5 : t164 = true
     · subst c5
       have H1 : (if 1 < (l0.length : Int) then ((spec_l00In.f (rd l0 1) 0 11).bind fun t166 => (if t166 = true then (some ((rd l0 0) != (rd l0 1))) else (some false))) else (none)) = some r := by rw [if_pos rfl] at H; exact H
       clear H
       have H := H1
       clear H1
       by_cases c6 : 1 < (l0.length : Int)
       · rw [if_pos c6] at H
         have c6b0 : decide (1 < (l0.length : Int)) = true := decide_eq_true c6
         have c6b1 : decide (1 < l0.length) = true := decide_eq_true (by omega)
         clear c6
         replace H := Option.bind_eq_some_iff.mp H
         obtain ⟨t166, A70, H⟩ := H
         replace H : (if t166 = true then (some ((rd l0 0) != (rd l0 1))) else (some false)) = some r := H
         have A7 := Aside0.mk A70
         clear A70
         by_cases c8 : t166 = true
         · subst c8
           have H1 : (some ((rd l0 0) != (rd l0 1))) = some r := by rw [if_pos rfl] at H; exact H
           clear H
           have H := H1
           clear H1
           obtain rfl := Option.some.inj H
           have p163 : 0 ≤ (0 : Int) := (by omega)
           have q163 : 0 < (l0.length : Int) := of_decide_eq_true tA
           obtain ⟨ad163, e163, hx163_0⟩ := Kd.at_int HR0.out 0 p163 q163
           cases e163
           have qi163 : (0 < l0.length) = True := eq_true (by omega)
           (try rw [t0n] at hx163_0)
           (try rw [Addr.add_zero'] at hx163_0)
           replace p163 := eq_true p163
           replace q163 := eq_true q163
           have p165 : 0 ≤ (1 : Int) := (by omega)
           have q165 : 1 < (l0.length : Int) := of_decide_eq_true tA
           obtain ⟨ad165, e165, hx165_0⟩ := Kd.at_int HR0.out 1 p165 q165
           obtain rfl : ad163 = ad165 := (by injection e165)
           (try simp only [show (1 : Int).toNat = 1 from rfl, Nat.reduceMul, Nat.reduceEqDiff, Go.Addr.add, ↓reduceIte] at hx165_0)
           have qi165 : (1 < l0.length) = True := eq_true (by omega)
           (try rw [t1n] at hx165_0)
           replace p165 := eq_true p165
           replace q165 := eq_true q165
           have p167 : 0 ≤ (0 : Int) := (by omega)
           have q167 : 0 < (l0.length : Int) := of_decide_eq_true tA
           obtain ⟨ad167, e167, hx167_0⟩ := Kd.at_int HR0.out 0 p167 q167
           obtain rfl : ad163 = ad167 := (by injection e167)
           have qi167 : (0 < l0.length) = True := eq_true (by omega)
           (try rw [t0n] at hx167_0)
           (try rw [Addr.add_zero'] at hx167_0)
           replace p167 := eq_true p167
           replace q167 := eq_true q167
           have p168 : 0 ≤ (1 : Int) := (by omega)
           have q168 : 1 < (l0.length : Int) := of_decide_eq_true tA
           obtain ⟨ad168, e168, hx168_0⟩ := Kd.at_int HR0.out 1 p168 q168
           obtain rfl : ad163 = ad168 := (by injection e168)
           (try simp only [show (1 : Int).toNat = 1 from rfl, Nat.reduceMul, Nat.reduceEqDiff, Go.Addr.add, ↓reduceIte] at hx168_0)
           have qi168 : (1 < l0.length) = True := eq_true (by omega)
           (try rw [t1n] at hx168_0)
           replace p168 := eq_true p168
           replace q168 := eq_true q168
           go_enter Try.func273, Try.ntmps273
           go_wp2_with (first | (go_at_call 216; (with_reducible refine (spec_l00In.calls (rd l0 0) 0 11 true _ A4.out).mono ?_); rintro e w' ⟨rfl, ⟨nd, rfl⟩⟩; (try exact tD)) | (go_at_call 216; (with_reducible refine (spec_l00In.calls (rd l0 1) 0 11 true _ A7.out).mono ?_); rintro e w' ⟨rfl, ⟨nd, rfl⟩⟩; (try exact tD)))
           repeat (go_quiet (first | (go_at_call 216; (with_reducible refine (spec_l00In.calls (rd l0 0) 0 11 true _ A4.out).mono ?_); rintro e w' ⟨rfl, ⟨nd, rfl⟩⟩; (try exact tD)) | (go_at_call 216; (with_reducible refine (spec_l00In.calls (rd l0 1) 0 11 true _ A7.out).mono ?_); rintro e w' ⟨rfl, ⟨nd, rfl⟩⟩; (try exact tD))); try go_wp2_with (first | (go_at_call 216; (with_reducible refine (spec_l00In.calls (rd l0 0) 0 11 true _ A4.out).mono ?_); rintro e w' ⟨rfl, ⟨nd, rfl⟩⟩; (try exact tD)) | (go_at_call 216; (with_reducible refine (spec_l00In.calls (rd l0 1) 0 11 true _ A7.out).mono ?_); rintro e w' ⟨rfl, ⟨nd, rfl⟩⟩; (try exact tD))))
           go_ret
           exact ⟨by first | rfl | (simp; done) | (simp [*]; done), tZ⟩
         replace c8 := Bool.eq_false_iff.mpr c8
         subst c8
         have H1 : (some false) = some r := by rw [if_neg (show ¬ (false = true) by decide)] at H; exact H
         clear H
         have H := H1
         clear H1
         obtain rfl := Option.some.inj H
         have p163 : 0 ≤ (0 : Int) := (by omega)
         have q163 : 0 < (l0.length : Int) := of_decide_eq_true tA
         obtain ⟨ad163, e163, hx163_0⟩ := Kd.at_int HR0.out 0 p163 q163
         cases e163
         have qi163 : (0 < l0.length) = True := eq_true (by omega)
         (try rw [t0n] at hx163_0)
         (try rw [Addr.add_zero'] at hx163_0)
         replace p163 := eq_true p163
         replace q163 := eq_true q163
         have p165 : 0 ≤ (1 : Int) := (by omega)
         have q165 : 1 < (l0.length : Int) := of_decide_eq_true tA
         obtain ⟨ad165, e165, hx165_0⟩ := Kd.at_int HR0.out 1 p165 q165
         obtain rfl : ad163 = ad165 := (by injection e165)
         (try simp only [show (1 : Int).toNat = 1 from rfl, Nat.reduceMul, Nat.reduceEqDiff, Go.Addr.add, ↓reduceIte] at hx165_0)
         have qi165 : (1 < l0.length) = True := eq_true (by omega)
         (try rw [t1n] at hx165_0)
         replace p165 := eq_true p165
         replace q165 := eq_true q165
         go_enter Try.func273, Try.ntmps273
         go_wp2_with (first | (go_at_call 216; (with_reducible refine (spec_l00In.calls (rd l0 0) 0 11 true _ A4.out).mono ?_); rintro e w' ⟨rfl, ⟨nd, rfl⟩⟩; (try exact tD)) | (go_at_call 216; (with_reducible refine (spec_l00In.calls (rd l0 1) 0 11 false _ A7.out).mono ?_); rintro e w' ⟨rfl, ⟨nd, rfl⟩⟩; (try exact tD)))
         repeat (go_quiet (first | (go_at_call 216; (with_reducible refine (spec_l00In.calls (rd l0 0) 0 11 true _ A4.out).mono ?_); rintro e w' ⟨rfl, ⟨nd, rfl⟩⟩; (try exact tD)) | (go_at_call 216; (with_reducible refine (spec_l00In.calls (rd l0 1) 0 11 false _ A7.out).mono ?_); rintro e w' ⟨rfl, ⟨nd, rfl⟩⟩; (try exact tD))); try go_wp2_with (first | (go_at_call 216; (with_reducible refine (spec_l00In.calls (rd l0 0) 0 11 true _ A4.out).mono ?_); rintro e w' ⟨rfl, ⟨nd, rfl⟩⟩; (try exact tD)) | (go_at_call 216; (with_reducible refine (spec_l00In.calls (rd l0 1) 0 11 false _ A7.out).mono ?_); rintro e w' ⟨rfl, ⟨nd, rfl⟩⟩; (try exact tD))))
         go_ret
         exact ⟨by first | rfl | (simp; done) | (simp [*]; done), tZ⟩
       rw [if_neg c6] at H
       exact absurd H (by simp)
     replace c5 := Bool.eq_false_iff.mpr c5
     subst c5
     have H1 : (some false) = some r := by rw [if_neg (show ¬ (false = true) by decide)] at H; exact H
     clear H
     have H := H1
     clear H1
     obtain rfl := Option.some.inj H
     have p163 : 0 ≤ (0 : Int) := (by omega)
     have q163 : 0 < (l0.length : Int) := of_decide_eq_true tA
     obtain ⟨ad163, e163, hx163_0⟩ := Kd.at_int HR0.out 0 p163 q163
     cases e163
     have qi163 : (0 < l0.length) = True := eq_true (by omega)
     (try rw [t0n] at hx163_0)
     (try rw [Addr.add_zero'] at hx163_0)
     replace p163 := eq_true p163
     replace q163 := eq_true q163
     go_enter Try.func273, Try.ntmps273
     go_wp2_with (first | (go_at_call 216; (with_reducible refine (spec_l00In.calls (rd l0 0) 0 11 false _ A4.out).mono ?_); rintro e w' ⟨rfl, ⟨nd, rfl⟩⟩; (try exact tD)))
     repeat (go_quiet (first | (go_at_call 216; (with_reducible refine (spec_l00In.calls (rd l0 0) 0 11 false _ A4.out).mono ?_); rintro e w' ⟨rfl, ⟨nd, rfl⟩⟩; (try exact tD))); try go_wp2_with (first | (go_at_call 216; (with_reducible refine (spec_l00In.calls (rd l0 0) 0 11 false _ A4.out).mono ?_); rintro e w' ⟨rfl, ⟨nd, rfl⟩⟩; (try exact tD))))
     go_ret
     exact ⟨by first | rfl | (simp; done) | (simp [*]; done), tZ⟩
   rw [if_neg c3] at H
   exact absurd H (by simp)
 rw [if_neg c2] at H
 have c2b0 : ((l0.length : Int) == 2) = false := beq_eq_false_iff_ne.mpr c2
 have c2b1 : ((l0.length : Int) != 2) = true := bne_iff_ne.mpr c2
 obtain rfl := Option.some.inj H
 go_enter Try.func273, Try.ntmps273
 go_wp2
 repeat (go_quiet (fail); try go_wp2)
 go_ret
 exact ⟨by first | rfl | (simp; done) | (simp [*]; done), tZ⟩

end Go.Proofs.Ytbedlmlofnphkaa.PZ
