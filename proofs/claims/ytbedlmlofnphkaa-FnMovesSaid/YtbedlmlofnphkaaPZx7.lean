-- WRITTEN BY wip/gprint.py, a program of this session's over the kit's print, with contracts given by hand
import Derived.Test.YtbedlmlofnphkaaPZx0
import Derived.Test.YtbedlmlofnphkaaPZx6
namespace Go.Proofs.Ytbedlmlofnphkaa.PZ
open Go.RowKit Go.Proofs.YtbedlmlofnphkaaW.PrintWords Go.Proofs.YtbedlmlofnphkaaW.PrintLast Go.Proofs.YtbedlmlofnphkaaW.PrintMore
attribute [local go_sem] max2_int min2_int max_two min_two max_three min_three max_four min_four   -- for this text's walks alone
set_option linter.unusedVariables false
set_option linter.unusedSimpArgs false

/-! ### spec_l05Pairs: function 215 -/
def spec_l05Pairs.l0 : Nat → List (List Int) → Int → Option (Bool)
 | 0, _, _ => none
 | k + 1, x0, x3 => if x3 < (x0.length : Int) then (if 0 ≤ x3 then ((spec_l05Pair.f (rd_L3 x0 x3)).bind fun t170 => (if t170 = true then (if x3 > 0 then (if 0 ≤ (wrap64 (x3 - 1)) then (if (wrap64 (x3 - 1)) < (x0.length : Int) then (if 0 < ((rd_L3 x0 (wrap64 (x3 - 1))).length : Int) then (if 0 < ((rd_L3 x0 x3).length : Int) then (if (rd (rd_L3 x0 (wrap64 (x3 - 1))) 0) > (rd (rd_L3 x0 x3) 0) then (some false) else (if (rd (rd_L3 x0 (wrap64 (x3 - 1))) 0) = (rd (rd_L3 x0 x3) 0) then (if 1 < ((rd_L3 x0 (wrap64 (x3 - 1))).length : Int) then (if 1 < ((rd_L3 x0 x3).length : Int) then (if (rd (rd_L3 x0 (wrap64 (x3 - 1))) 1) ≥ (rd (rd_L3 x0 x3) 1) then (some false) else (spec_l05Pairs.l0 k x0 (wrap64 (x3 + 1)))) else (none)) else (none)) else (spec_l05Pairs.l0 k x0 (wrap64 (x3 + 1))))) else (none)) else (none)) else (none)) else (none)) else (spec_l05Pairs.l0 k x0 (wrap64 (x3 + 1)))) else (some false))) else (none)) else (some (decide ((x0.length : Int) ≤ 8)))
def spec_l05Pairs.f (k : Nat) (l0 : List (List Int)) : Option (Bool) := spec_l05Pairs.l0 k l0 0
theorem spec_l05Pairs.mono_l : ∀ k, (∀ y0 y1, LeO (spec_l05Pairs.l0 k y0 y1) (spec_l05Pairs.l0 (k + 1) y0 y1))
 | 0 => fun _ _ r h => by simp [spec_l05Pairs.l0] at h
 | k + 1 => by
  have ih0 := spec_l05Pairs.mono_l k
  · intro y0 y1
    unfold spec_l05Pairs.l0
    repeat' first
    | (with_reducible exact ih0 _ _)
    | (with_reducible exact LeO.refl _)
    | (with_reducible exact LeO.none _)
    | (with_reducible refine LeO.ite ?_ ?_)
    | (with_reducible refine LeO.bind ?_ (fun _ => ?_))
    | exact ih0 _ _
    | exact LeO.none _
    | refine LeO.ite ?_ ?_
    | refine LeO.bind ?_ (fun _ => ?_)
theorem spec_l05Pairs.mono : ∀ a0 k, LeO (spec_l05Pairs.f k a0) (spec_l05Pairs.f (k + 1) a0) := by
 intro a0 k
 have ih0 := spec_l05Pairs.mono_l k
 unfold spec_l05Pairs.f
 repeat' first
  | (with_reducible exact ih0 _ _)
  | (with_reducible exact LeO.refl _)
  | (with_reducible exact LeO.none _)
  | (with_reducible refine LeO.ite ?_ ?_)
  | (with_reducible refine LeO.bind ?_ (fun _ => ?_))
  | exact ih0 _ _
  | exact LeO.none _
  | refine LeO.ite ?_ ?_
  | refine LeO.bind ?_ (fun _ => ?_)
set_option maxHeartbeats 8000000 in
set_option maxRecDepth 100000 in
theorem spec_l05Pairs.calls (k : Nat) (A0 : Option Addr) (c0 : Nat) (l0 : List (List Int)) (r : Bool) (w : World) (hr0 : Kd.C (Kd.slice 2 (Kd.int .i64)) w A0 l0.length l0) (hc0 : l0.length ≤ c0) (h : spec_l05Pairs.f k l0 = some r) :
 Calls Try.prog 215 #[.slice A0 l0.length c0] w fun e w' => e = .returned (.bool r) ∧ Drawn0 w w' := by
 have HR0 := Aside0.mk hr0
 have HC0 := Aside0.mk hc0
 clear hr0 hc0
 have H : (spec_l05Pairs.l0 k l0 0) = some r := h
 clear h
 have H' := Aside0.mk H
 clear H
 go_enter Try.func215, Try.ntmps215
 go_wp2
 repeat (go_quiet (fail); try go_wp2)
 go_loopg [3] k (fun kq v3 w' => ∃ (x3_1 : Int), v3 = .int .i64 x3_1 ∧ Aside0 (spec_l05Pairs.l0 kq l0 x3_1 = some r) ∧ Aside0 (kq ≤ k) ∧ Drawn0 w w')
 case atStart => exact ⟨(0), tq, H', ⟨Nat.le_refl _⟩, tZ⟩
 case round =>
 clear H'
 obtain ⟨x3_1, rfl, HA, HK1, ⟨m1, rfl⟩⟩ := hrel
 cases gk with
 | zero => exact absurd HA.out (by simp [spec_l05Pairs.l0])
 | succ k1 =>
 have H := HA.out
 clear HA
 simp only [spec_l05Pairs.l0] at H
 by_cases c2 : x3_1 < (l0.length : Int)
 · rw [if_pos c2] at H
   have c2b0 : decide (x3_1 < (l0.length : Int)) = true := decide_eq_true c2
   clear c2
   by_cases c3 : 0 ≤ x3_1
   · rw [if_pos c3] at H
     have c3b0 : decide (0 ≤ x3_1) = true := decide_eq_true c3
     clear c3
     replace H := Option.bind_eq_some_iff.mp H
     obtain ⟨t170, A40, H⟩ := H
     replace H : (if t170 = true then (if x3_1 > 0 then (if 0 ≤ (wrap64 (x3_1 - 1)) then (if (wrap64 (x3_1 - 1)) < (l0.length : Int) then (if 0 < ((rd_L3 l0 (wrap64 (x3_1 - 1))).length : Int) then (if 0 < ((rd_L3 l0 x3_1).length : Int) then (if (rd (rd_L3 l0 (wrap64 (x3_1 - 1))) 0) > (rd (rd_L3 l0 x3_1) 0) then (some false) else (if (rd (rd_L3 l0 (wrap64 (x3_1 - 1))) 0) = (rd (rd_L3 l0 x3_1) 0) then (if 1 < ((rd_L3 l0 (wrap64 (x3_1 - 1))).length : Int) then (if 1 < ((rd_L3 l0 x3_1).length : Int) then (if (rd (rd_L3 l0 (wrap64 (x3_1 - 1))) 1) ≥ (rd (rd_L3 l0 x3_1) 1) then (some false) else (spec_l05Pairs.l0 k1 l0 (wrap64 (x3_1 + 1)))) else (none)) else (none)) else (spec_l05Pairs.l0 k1 l0 (wrap64 (x3_1 + 1))))) else (none)) else (none)) else (none)) else (none)) else (spec_l05Pairs.l0 k1 l0 (wrap64 (x3_1 + 1)))) else (some false)) = some r := H
     have A4 := Aside0.mk A40
     clear A40
     by_cases c5 : t170 = true
     · subst c5
       have H1 : (if x3_1 > 0 then (if 0 ≤ (wrap64 (x3_1 - 1)) then (if (wrap64 (x3_1 - 1)) < (l0.length : Int) then (if 0 < ((rd_L3 l0 (wrap64 (x3_1 - 1))).length : Int) then (if 0 < ((rd_L3 l0 x3_1).length : Int) then (if (rd (rd_L3 l0 (wrap64 (x3_1 - 1))) 0) > (rd (rd_L3 l0 x3_1) 0) then (some false) else (if (rd (rd_L3 l0 (wrap64 (x3_1 - 1))) 0) = (rd (rd_L3 l0 x3_1) 0) then (if 1 < ((rd_L3 l0 (wrap64 (x3_1 - 1))).length : Int) then (if 1 < ((rd_L3 l0 x3_1).length : Int) then (if (rd (rd_L3 l0 (wrap64 (x3_1 - 1))) 1) ≥ (rd (rd_L3 l0 x3_1) 1) then (some false) else (spec_l05Pairs.l0 k1 l0 (wrap64 (x3_1 + 1)))) else (none)) else (none)) else (spec_l05Pairs.l0 k1 l0 (wrap64 (x3_1 + 1))))) else (none)) else (none)) else (none)) else (none)) else (spec_l05Pairs.l0 k1 l0 (wrap64 (x3_1 + 1)))) = some r := by rw [if_pos rfl] at H; exact H
       clear H
       have H := H1
       clear H1
       by_cases c6 : x3_1 > 0
       · rw [if_pos c6] at H
         have c6b0 : decide (0 < x3_1) = true := decide_eq_true c6
         clear c6
         obtain ⟨ji7, hji7⟩ : ∃ j_ : Int, (wrap64 (x3_1 - 1)) = j_ := ⟨_, rfl⟩
         replace H : (if 0 ≤ (ji7) then (if (ji7) < (l0.length : Int) then (if 0 < ((rd_L3 l0 (ji7)).length : Int) then (if 0 < ((rd_L3 l0 x3_1).length : Int) then (if (rd (rd_L3 l0 (ji7)) 0) > (rd (rd_L3 l0 x3_1) 0) then (some false) else (if (rd (rd_L3 l0 (ji7)) 0) = (rd (rd_L3 l0 x3_1) 0) then (if 1 < ((rd_L3 l0 (ji7)).length : Int) then (if 1 < ((rd_L3 l0 x3_1).length : Int) then (if (rd (rd_L3 l0 (ji7)) 1) ≥ (rd (rd_L3 l0 x3_1) 1) then (some false) else (spec_l05Pairs.l0 k1 l0 (wrap64 (x3_1 + 1)))) else (none)) else (none)) else (spec_l05Pairs.l0 k1 l0 (wrap64 (x3_1 + 1))))) else (none)) else (none)) else (none)) else (none)) = some r := by first | (rw [hji7] at H; exact H) | (simp only [hji7] at H ⊢; exact H)
         (try rw [hji7] at A4)
         have hji7w : (IntKind.i64.wrap (x3_1 - 1)) = ji7 := (i64_w _).trans hji7
         by_cases c8 : 0 ≤ (ji7)
         · rw [if_pos c8] at H
           have c8b0 : decide (0 ≤ (ji7)) = true := decide_eq_true c8
           clear c8
           by_cases c9 : (ji7) < (l0.length : Int)
           · rw [if_pos c9] at H
             have c9b0 : decide ((ji7) < (l0.length : Int)) = true := decide_eq_true c9
             clear c9
             by_cases c10 : 0 < ((rd_L3 l0 (ji7)).length : Int)
             · rw [if_pos c10] at H
               have c10b0 : decide (0 < ((rd_L3 l0 (ji7)).length : Int)) = true := decide_eq_true c10
               have c10b1 : decide (0 < (rd_L3 l0 (ji7)).length) = true := decide_eq_true (by omega)
               clear c10
               by_cases c11 : 0 < ((rd_L3 l0 x3_1).length : Int)
               · rw [if_pos c11] at H
                 have c11b0 : decide (0 < ((rd_L3 l0 x3_1).length : Int)) = true := decide_eq_true c11
                 have c11b1 : decide (0 < (rd_L3 l0 x3_1).length) = true := decide_eq_true (by omega)
                 clear c11
                 by_cases c12 : (rd (rd_L3 l0 (ji7)) 0) > (rd (rd_L3 l0 x3_1) 0)
                 · rw [if_pos c12] at H
                   have c12b0 : decide ((rd (rd_L3 l0 x3_1) 0) < (rd (rd_L3 l0 (ji7)) 0)) = true := decide_eq_true c12
                   clear c12
                   obtain rfl := Option.some.inj H
                   have p169 : 0 ≤ (x3_1 : Int) := of_decide_eq_true tA
                   have q169 : x3_1 < (l0.length : Int) := of_decide_eq_true tA
                   obtain ⟨ad169, A169_0, c169_0, e169, hx169_0, hl169_0, hi169_0⟩ := at_L3 HR0.out x3_1 p169 q169
                   cases e169
                   have HR169_0 := Aside0.mk hi169_0
                   have HC169_0 := Aside0.mk hl169_0
                   clear hi169_0 hl169_0
                   replace p169 := eq_true p169
                   replace q169 := eq_true q169
                   have p171 : 0 ≤ ((ji7) : Int) := of_decide_eq_true tA
                   have q171 : (ji7) < (l0.length : Int) := of_decide_eq_true tA
                   obtain ⟨ad171, A171_0, c171_0, e171, hx171_0, hl171_0, hi171_0⟩ := at_L3 HR0.out (ji7) p171 q171
                   obtain rfl : ad169 = ad171 := (by injection e171)
                   have HR171_0 := Aside0.mk hi171_0
                   have HC171_0 := Aside0.mk hl171_0
                   clear hi171_0 hl171_0
                   replace p171 := eq_true p171
                   replace q171 := eq_true q171
                   have p172 : 0 ≤ (0 : Int) := (by omega)
                   have q172 : 0 < ((rd_L3 l0 (ji7)).length : Int) := of_decide_eq_true tA
                   obtain ⟨ad172, e172, hx172_0⟩ := Kd.at_int HR171_0.out 0 p172 q172
                   cases e172
                   have qi172 : (0 < (rd_L3 l0 (ji7)).length) = True := eq_true (by omega)
                   (try rw [t0n] at hx172_0)
                   (try rw [Addr.add_zero'] at hx172_0)
                   replace p172 := eq_true p172
                   replace q172 := eq_true q172
                   have p173 : 0 ≤ (x3_1 : Int) := of_decide_eq_true tA
                   have q173 : x3_1 < (l0.length : Int) := of_decide_eq_true tA
                   obtain ⟨ad173, A173_0, c173_0, e173, hx173_0, hl173_0, hi173_0⟩ := at_L3 HR0.out x3_1 p173 q173
                   obtain rfl : ad169 = ad173 := (by injection e173)
                   have HR173_0 := Aside0.mk hi173_0
                   have HC173_0 := Aside0.mk hl173_0
                   clear hi173_0 hl173_0
                   replace p173 := eq_true p173
                   replace q173 := eq_true q173
                   have ea_ := Option.some.inj (hx169_0.symm.trans hx173_0)
                   injection ea_ with ea_ en_ ec_
                   subst ea_
                   subst ec_
                   clear en_
                   have p174 : 0 ≤ (0 : Int) := (by omega)
                   have q174 : 0 < ((rd_L3 l0 x3_1).length : Int) := of_decide_eq_true tA
                   obtain ⟨ad174, e174, hx174_0⟩ := Kd.at_int HR173_0.out 0 p174 q174
                   cases e174
                   have qi174 : (0 < (rd_L3 l0 x3_1).length) = True := eq_true (by omega)
                   (try rw [t0n] at hx174_0)
                   (try rw [Addr.add_zero'] at hx174_0)
                   replace p174 := eq_true p174
                   replace q174 := eq_true q174
                   go_wp2_with (first | (go_at_call 273; (with_reducible refine (spec_l05Pair.calls _ _ (rd_L3 l0 x3_1) true _ ?side1 ?side2 A4.out).mono ?_); (case side1 => exact tC HR169_0.out); (case side2 => exact HC169_0.out); rintro e w' ⟨rfl, ⟨nd, rfl⟩⟩; (try exact tD)))
                   repeat (go_quiet (first | (go_at_call 273; (with_reducible refine (spec_l05Pair.calls _ _ (rd_L3 l0 x3_1) true _ ?side1 ?side2 A4.out).mono ?_); (case side1 => exact tC HR169_0.out); (case side2 => exact HC169_0.out); rintro e w' ⟨rfl, ⟨nd, rfl⟩⟩; (try exact tD))); try go_wp2_with (first | (go_at_call 273; (with_reducible refine (spec_l05Pair.calls _ _ (rd_L3 l0 x3_1) true _ ?side1 ?side2 A4.out).mono ?_); (case side1 => exact tC HR169_0.out); (case side2 => exact HC169_0.out); rintro e w' ⟨rfl, ⟨nd, rfl⟩⟩; (try exact tD))))
                   go_ret
                   exact ⟨by first | rfl | (simp; done) | (simp only [← hji7] <;> (first | rfl | simp)) | (simp [*]; done), tZ⟩
                 rw [if_neg c12] at H
                 have c12b0 : decide ((rd (rd_L3 l0 x3_1) 0) < (rd (rd_L3 l0 (ji7)) 0)) = false := decide_eq_false c12
                 clear c12
                 by_cases c13 : (rd (rd_L3 l0 (ji7)) 0) = (rd (rd_L3 l0 x3_1) 0)
                 · rw [if_pos c13] at H
                   have c13b0 : ((rd (rd_L3 l0 (ji7)) 0) == (rd (rd_L3 l0 x3_1) 0)) = true := beq_iff_eq.mpr c13
                   have c13b1 : ((rd (rd_L3 l0 (ji7)) 0) != (rd (rd_L3 l0 x3_1) 0)) = false := bne_eq_false_iff_eq.mpr c13
                   clear c13
                   by_cases c14 : 1 < ((rd_L3 l0 (ji7)).length : Int)
                   · rw [if_pos c14] at H
                     have c14b0 : decide (1 < ((rd_L3 l0 (ji7)).length : Int)) = true := decide_eq_true c14
                     have c14b1 : decide (1 < (rd_L3 l0 (ji7)).length) = true := decide_eq_true (by omega)
                     clear c14
                     by_cases c15 : 1 < ((rd_L3 l0 x3_1).length : Int)
                     · rw [if_pos c15] at H
                       have c15b0 : decide (1 < ((rd_L3 l0 x3_1).length : Int)) = true := decide_eq_true c15
                       have c15b1 : decide (1 < (rd_L3 l0 x3_1).length) = true := decide_eq_true (by omega)
                       clear c15
                       by_cases c16 : (rd (rd_L3 l0 (ji7)) 1) ≥ (rd (rd_L3 l0 x3_1) 1)
                       · rw [if_pos c16] at H
                         have c16b0 : decide ((rd (rd_L3 l0 x3_1) 1) ≤ (rd (rd_L3 l0 (ji7)) 1)) = true := decide_eq_true c16
                         clear c16
                         obtain rfl := Option.some.inj H
                         have p169 : 0 ≤ (x3_1 : Int) := of_decide_eq_true tA
                         have q169 : x3_1 < (l0.length : Int) := of_decide_eq_true tA
                         obtain ⟨ad169, A169_0, c169_0, e169, hx169_0, hl169_0, hi169_0⟩ := at_L3 HR0.out x3_1 p169 q169
                         cases e169
                         have HR169_0 := Aside0.mk hi169_0
                         have HC169_0 := Aside0.mk hl169_0
                         clear hi169_0 hl169_0
                         replace p169 := eq_true p169
                         replace q169 := eq_true q169
                         have p171 : 0 ≤ ((ji7) : Int) := of_decide_eq_true tA
                         have q171 : (ji7) < (l0.length : Int) := of_decide_eq_true tA
                         obtain ⟨ad171, A171_0, c171_0, e171, hx171_0, hl171_0, hi171_0⟩ := at_L3 HR0.out (ji7) p171 q171
                         obtain rfl : ad169 = ad171 := (by injection e171)
                         have HR171_0 := Aside0.mk hi171_0
                         have HC171_0 := Aside0.mk hl171_0
                         clear hi171_0 hl171_0
                         replace p171 := eq_true p171
                         replace q171 := eq_true q171
                         have p172 : 0 ≤ (0 : Int) := (by omega)
                         have q172 : 0 < ((rd_L3 l0 (ji7)).length : Int) := of_decide_eq_true tA
                         obtain ⟨ad172, e172, hx172_0⟩ := Kd.at_int HR171_0.out 0 p172 q172
                         cases e172
                         have qi172 : (0 < (rd_L3 l0 (ji7)).length) = True := eq_true (by omega)
                         (try rw [t0n] at hx172_0)
                         (try rw [Addr.add_zero'] at hx172_0)
                         replace p172 := eq_true p172
                         replace q172 := eq_true q172
                         have p173 : 0 ≤ (x3_1 : Int) := of_decide_eq_true tA
                         have q173 : x3_1 < (l0.length : Int) := of_decide_eq_true tA
                         obtain ⟨ad173, A173_0, c173_0, e173, hx173_0, hl173_0, hi173_0⟩ := at_L3 HR0.out x3_1 p173 q173
                         obtain rfl : ad169 = ad173 := (by injection e173)
                         have HR173_0 := Aside0.mk hi173_0
                         have HC173_0 := Aside0.mk hl173_0
                         clear hi173_0 hl173_0
                         replace p173 := eq_true p173
                         replace q173 := eq_true q173
                         have ea_ := Option.some.inj (hx169_0.symm.trans hx173_0)
                         injection ea_ with ea_ en_ ec_
                         subst ea_
                         subst ec_
                         clear en_
                         have p174 : 0 ≤ (0 : Int) := (by omega)
                         have q174 : 0 < ((rd_L3 l0 x3_1).length : Int) := of_decide_eq_true tA
                         obtain ⟨ad174, e174, hx174_0⟩ := Kd.at_int HR173_0.out 0 p174 q174
                         cases e174
                         have qi174 : (0 < (rd_L3 l0 x3_1).length) = True := eq_true (by omega)
                         (try rw [t0n] at hx174_0)
                         (try rw [Addr.add_zero'] at hx174_0)
                         replace p174 := eq_true p174
                         replace q174 := eq_true q174
                         have p175 : 0 ≤ ((ji7) : Int) := of_decide_eq_true tA
                         have q175 : (ji7) < (l0.length : Int) := of_decide_eq_true tA
                         obtain ⟨ad175, A175_0, c175_0, e175, hx175_0, hl175_0, hi175_0⟩ := at_L3 HR0.out (ji7) p175 q175
                         obtain rfl : ad169 = ad175 := (by injection e175)
                         have HR175_0 := Aside0.mk hi175_0
                         have HC175_0 := Aside0.mk hl175_0
                         clear hi175_0 hl175_0
                         replace p175 := eq_true p175
                         replace q175 := eq_true q175
                         have ea_ := Option.some.inj (hx171_0.symm.trans hx175_0)
                         injection ea_ with ea_ en_ ec_
                         subst ea_
                         subst ec_
                         clear en_
                         have p176 : 0 ≤ (0 : Int) := (by omega)
                         have q176 : 0 < ((rd_L3 l0 (ji7)).length : Int) := of_decide_eq_true tA
                         obtain ⟨ad176, e176, hx176_0⟩ := Kd.at_int HR175_0.out 0 p176 q176
                         cases e176
                         have qi176 : (0 < (rd_L3 l0 (ji7)).length) = True := eq_true (by omega)
                         (try rw [t0n] at hx176_0)
                         (try rw [Addr.add_zero'] at hx176_0)
                         replace p176 := eq_true p176
                         replace q176 := eq_true q176
                         have p177 : 0 ≤ (x3_1 : Int) := of_decide_eq_true tA
                         have q177 : x3_1 < (l0.length : Int) := of_decide_eq_true tA
                         obtain ⟨ad177, A177_0, c177_0, e177, hx177_0, hl177_0, hi177_0⟩ := at_L3 HR0.out x3_1 p177 q177
                         obtain rfl : ad169 = ad177 := (by injection e177)
                         have HR177_0 := Aside0.mk hi177_0
                         have HC177_0 := Aside0.mk hl177_0
                         clear hi177_0 hl177_0
                         replace p177 := eq_true p177
                         replace q177 := eq_true q177
                         have ea_ := Option.some.inj (hx169_0.symm.trans hx177_0)
                         injection ea_ with ea_ en_ ec_
                         subst ea_
                         subst ec_
                         clear en_
                         have p178 : 0 ≤ (0 : Int) := (by omega)
                         have q178 : 0 < ((rd_L3 l0 x3_1).length : Int) := of_decide_eq_true tA
                         obtain ⟨ad178, e178, hx178_0⟩ := Kd.at_int HR177_0.out 0 p178 q178
                         cases e178
                         have qi178 : (0 < (rd_L3 l0 x3_1).length) = True := eq_true (by omega)
                         (try rw [t0n] at hx178_0)
                         (try rw [Addr.add_zero'] at hx178_0)
                         replace p178 := eq_true p178
                         replace q178 := eq_true q178
                         have p179 : 0 ≤ ((ji7) : Int) := of_decide_eq_true tA
                         have q179 : (ji7) < (l0.length : Int) := of_decide_eq_true tA
                         obtain ⟨ad179, A179_0, c179_0, e179, hx179_0, hl179_0, hi179_0⟩ := at_L3 HR0.out (ji7) p179 q179
                         obtain rfl : ad169 = ad179 := (by injection e179)
                         have HR179_0 := Aside0.mk hi179_0
                         have HC179_0 := Aside0.mk hl179_0
                         clear hi179_0 hl179_0
                         replace p179 := eq_true p179
                         replace q179 := eq_true q179
                         have ea_ := Option.some.inj (hx171_0.symm.trans hx179_0)
                         injection ea_ with ea_ en_ ec_
                         subst ea_
                         subst ec_
                         clear en_
                         have p180 : 0 ≤ (1 : Int) := (by omega)
                         have q180 : 1 < ((rd_L3 l0 (ji7)).length : Int) := of_decide_eq_true tA
                         obtain ⟨ad180, e180, hx180_0⟩ := Kd.at_int HR179_0.out 1 p180 q180
                         cases e180
                         (try simp only [show (1 : Int).toNat = 1 from rfl, Nat.reduceMul, Nat.reduceEqDiff, Go.Addr.add, ↓reduceIte] at hx180_0)
                         have qi180 : (1 < (rd_L3 l0 (ji7)).length) = True := eq_true (by omega)
                         (try rw [t1n] at hx180_0)
                         replace p180 := eq_true p180
                         replace q180 := eq_true q180
                         have p181 : 0 ≤ (x3_1 : Int) := of_decide_eq_true tA
                         have q181 : x3_1 < (l0.length : Int) := of_decide_eq_true tA
                         obtain ⟨ad181, A181_0, c181_0, e181, hx181_0, hl181_0, hi181_0⟩ := at_L3 HR0.out x3_1 p181 q181
                         obtain rfl : ad169 = ad181 := (by injection e181)
                         have HR181_0 := Aside0.mk hi181_0
                         have HC181_0 := Aside0.mk hl181_0
                         clear hi181_0 hl181_0
                         replace p181 := eq_true p181
                         replace q181 := eq_true q181
                         have ea_ := Option.some.inj (hx169_0.symm.trans hx181_0)
                         injection ea_ with ea_ en_ ec_
                         subst ea_
                         subst ec_
                         clear en_
                         have p182 : 0 ≤ (1 : Int) := (by omega)
                         have q182 : 1 < ((rd_L3 l0 x3_1).length : Int) := of_decide_eq_true tA
                         obtain ⟨ad182, e182, hx182_0⟩ := Kd.at_int HR181_0.out 1 p182 q182
                         cases e182
                         (try simp only [show (1 : Int).toNat = 1 from rfl, Nat.reduceMul, Nat.reduceEqDiff, Go.Addr.add, ↓reduceIte] at hx182_0)
                         have qi182 : (1 < (rd_L3 l0 x3_1).length) = True := eq_true (by omega)
                         (try rw [t1n] at hx182_0)
                         replace p182 := eq_true p182
                         replace q182 := eq_true q182
                         go_wp2_with (first | (go_at_call 273; (with_reducible refine (spec_l05Pair.calls _ _ (rd_L3 l0 x3_1) true _ ?side1 ?side2 A4.out).mono ?_); (case side1 => exact tC HR169_0.out); (case side2 => exact HC169_0.out); rintro e w' ⟨rfl, ⟨nd, rfl⟩⟩; (try exact tD)))
                         repeat (go_quiet (first | (go_at_call 273; (with_reducible refine (spec_l05Pair.calls _ _ (rd_L3 l0 x3_1) true _ ?side1 ?side2 A4.out).mono ?_); (case side1 => exact tC HR169_0.out); (case side2 => exact HC169_0.out); rintro e w' ⟨rfl, ⟨nd, rfl⟩⟩; (try exact tD))); try go_wp2_with (first | (go_at_call 273; (with_reducible refine (spec_l05Pair.calls _ _ (rd_L3 l0 x3_1) true _ ?side1 ?side2 A4.out).mono ?_); (case side1 => exact tC HR169_0.out); (case side2 => exact HC169_0.out); rintro e w' ⟨rfl, ⟨nd, rfl⟩⟩; (try exact tD))))
                         go_ret
                         exact ⟨by first | rfl | (simp; done) | (simp only [← hji7] <;> (first | rfl | simp)) | (simp [*]; done), tZ⟩
                       rw [if_neg c16] at H
                       have c16b0 : decide ((rd (rd_L3 l0 x3_1) 1) ≤ (rd (rd_L3 l0 (ji7)) 1)) = false := decide_eq_false c16
                       clear c16
                       have H' := Aside0.mk H
                       clear H
                       have p169 : 0 ≤ (x3_1 : Int) := of_decide_eq_true tA
                       have q169 : x3_1 < (l0.length : Int) := of_decide_eq_true tA
                       obtain ⟨ad169, A169_0, c169_0, e169, hx169_0, hl169_0, hi169_0⟩ := at_L3 HR0.out x3_1 p169 q169
                       cases e169
                       have HR169_0 := Aside0.mk hi169_0
                       have HC169_0 := Aside0.mk hl169_0
                       clear hi169_0 hl169_0
                       replace p169 := eq_true p169
                       replace q169 := eq_true q169
                       have p171 : 0 ≤ ((ji7) : Int) := of_decide_eq_true tA
                       have q171 : (ji7) < (l0.length : Int) := of_decide_eq_true tA
                       obtain ⟨ad171, A171_0, c171_0, e171, hx171_0, hl171_0, hi171_0⟩ := at_L3 HR0.out (ji7) p171 q171
                       obtain rfl : ad169 = ad171 := (by injection e171)
                       have HR171_0 := Aside0.mk hi171_0
                       have HC171_0 := Aside0.mk hl171_0
                       clear hi171_0 hl171_0
                       replace p171 := eq_true p171
                       replace q171 := eq_true q171
                       have p172 : 0 ≤ (0 : Int) := (by omega)
                       have q172 : 0 < ((rd_L3 l0 (ji7)).length : Int) := of_decide_eq_true tA
                       obtain ⟨ad172, e172, hx172_0⟩ := Kd.at_int HR171_0.out 0 p172 q172
                       cases e172
                       have qi172 : (0 < (rd_L3 l0 (ji7)).length) = True := eq_true (by omega)
                       (try rw [t0n] at hx172_0)
                       (try rw [Addr.add_zero'] at hx172_0)
                       replace p172 := eq_true p172
                       replace q172 := eq_true q172
                       have p173 : 0 ≤ (x3_1 : Int) := of_decide_eq_true tA
                       have q173 : x3_1 < (l0.length : Int) := of_decide_eq_true tA
                       obtain ⟨ad173, A173_0, c173_0, e173, hx173_0, hl173_0, hi173_0⟩ := at_L3 HR0.out x3_1 p173 q173
                       obtain rfl : ad169 = ad173 := (by injection e173)
                       have HR173_0 := Aside0.mk hi173_0
                       have HC173_0 := Aside0.mk hl173_0
                       clear hi173_0 hl173_0
                       replace p173 := eq_true p173
                       replace q173 := eq_true q173
                       have ea_ := Option.some.inj (hx169_0.symm.trans hx173_0)
                       injection ea_ with ea_ en_ ec_
                       subst ea_
                       subst ec_
                       clear en_
                       have p174 : 0 ≤ (0 : Int) := (by omega)
                       have q174 : 0 < ((rd_L3 l0 x3_1).length : Int) := of_decide_eq_true tA
                       obtain ⟨ad174, e174, hx174_0⟩ := Kd.at_int HR173_0.out 0 p174 q174
                       cases e174
                       have qi174 : (0 < (rd_L3 l0 x3_1).length) = True := eq_true (by omega)
                       (try rw [t0n] at hx174_0)
                       (try rw [Addr.add_zero'] at hx174_0)
                       replace p174 := eq_true p174
                       replace q174 := eq_true q174
                       have p175 : 0 ≤ ((ji7) : Int) := of_decide_eq_true tA
                       have q175 : (ji7) < (l0.length : Int) := of_decide_eq_true tA
                       obtain ⟨ad175, A175_0, c175_0, e175, hx175_0, hl175_0, hi175_0⟩ := at_L3 HR0.out (ji7) p175 q175
                       obtain rfl : ad169 = ad175 := (by injection e175)
                       have HR175_0 := Aside0.mk hi175_0
                       have HC175_0 := Aside0.mk hl175_0
                       clear hi175_0 hl175_0
                       replace p175 := eq_true p175
                       replace q175 := eq_true q175
                       have ea_ := Option.some.inj (hx171_0.symm.trans hx175_0)
                       injection ea_ with ea_ en_ ec_
                       subst ea_
                       subst ec_
                       clear en_
                       have p176 : 0 ≤ (0 : Int) := (by omega)
                       have q176 : 0 < ((rd_L3 l0 (ji7)).length : Int) := of_decide_eq_true tA
                       obtain ⟨ad176, e176, hx176_0⟩ := Kd.at_int HR175_0.out 0 p176 q176
                       cases e176
                       have qi176 : (0 < (rd_L3 l0 (ji7)).length) = True := eq_true (by omega)
                       (try rw [t0n] at hx176_0)
                       (try rw [Addr.add_zero'] at hx176_0)
                       replace p176 := eq_true p176
                       replace q176 := eq_true q176
                       have p177 : 0 ≤ (x3_1 : Int) := of_decide_eq_true tA
                       have q177 : x3_1 < (l0.length : Int) := of_decide_eq_true tA
                       obtain ⟨ad177, A177_0, c177_0, e177, hx177_0, hl177_0, hi177_0⟩ := at_L3 HR0.out x3_1 p177 q177
                       obtain rfl : ad169 = ad177 := (by injection e177)
                       have HR177_0 := Aside0.mk hi177_0
                       have HC177_0 := Aside0.mk hl177_0
                       clear hi177_0 hl177_0
                       replace p177 := eq_true p177
                       replace q177 := eq_true q177
                       have ea_ := Option.some.inj (hx169_0.symm.trans hx177_0)
                       injection ea_ with ea_ en_ ec_
                       subst ea_
                       subst ec_
                       clear en_
                       have p178 : 0 ≤ (0 : Int) := (by omega)
                       have q178 : 0 < ((rd_L3 l0 x3_1).length : Int) := of_decide_eq_true tA
                       obtain ⟨ad178, e178, hx178_0⟩ := Kd.at_int HR177_0.out 0 p178 q178
                       cases e178
                       have qi178 : (0 < (rd_L3 l0 x3_1).length) = True := eq_true (by omega)
                       (try rw [t0n] at hx178_0)
                       (try rw [Addr.add_zero'] at hx178_0)
                       replace p178 := eq_true p178
                       replace q178 := eq_true q178
                       have p179 : 0 ≤ ((ji7) : Int) := of_decide_eq_true tA
                       have q179 : (ji7) < (l0.length : Int) := of_decide_eq_true tA
                       obtain ⟨ad179, A179_0, c179_0, e179, hx179_0, hl179_0, hi179_0⟩ := at_L3 HR0.out (ji7) p179 q179
                       obtain rfl : ad169 = ad179 := (by injection e179)
                       have HR179_0 := Aside0.mk hi179_0
                       have HC179_0 := Aside0.mk hl179_0
                       clear hi179_0 hl179_0
                       replace p179 := eq_true p179
                       replace q179 := eq_true q179
                       have ea_ := Option.some.inj (hx171_0.symm.trans hx179_0)
                       injection ea_ with ea_ en_ ec_
                       subst ea_
                       subst ec_
                       clear en_
                       have p180 : 0 ≤ (1 : Int) := (by omega)
                       have q180 : 1 < ((rd_L3 l0 (ji7)).length : Int) := of_decide_eq_true tA
                       obtain ⟨ad180, e180, hx180_0⟩ := Kd.at_int HR179_0.out 1 p180 q180
                       cases e180
                       (try simp only [show (1 : Int).toNat = 1 from rfl, Nat.reduceMul, Nat.reduceEqDiff, Go.Addr.add, ↓reduceIte] at hx180_0)
                       have qi180 : (1 < (rd_L3 l0 (ji7)).length) = True := eq_true (by omega)
                       (try rw [t1n] at hx180_0)
                       replace p180 := eq_true p180
                       replace q180 := eq_true q180
                       have p181 : 0 ≤ (x3_1 : Int) := of_decide_eq_true tA
                       have q181 : x3_1 < (l0.length : Int) := of_decide_eq_true tA
                       obtain ⟨ad181, A181_0, c181_0, e181, hx181_0, hl181_0, hi181_0⟩ := at_L3 HR0.out x3_1 p181 q181
                       obtain rfl : ad169 = ad181 := (by injection e181)
                       have HR181_0 := Aside0.mk hi181_0
                       have HC181_0 := Aside0.mk hl181_0
                       clear hi181_0 hl181_0
                       replace p181 := eq_true p181
                       replace q181 := eq_true q181
                       have ea_ := Option.some.inj (hx169_0.symm.trans hx181_0)
                       injection ea_ with ea_ en_ ec_
                       subst ea_
                       subst ec_
                       clear en_
                       have p182 : 0 ≤ (1 : Int) := (by omega)
                       have q182 : 1 < ((rd_L3 l0 x3_1).length : Int) := of_decide_eq_true tA
                       obtain ⟨ad182, e182, hx182_0⟩ := Kd.at_int HR181_0.out 1 p182 q182
                       cases e182
                       (try simp only [show (1 : Int).toNat = 1 from rfl, Nat.reduceMul, Nat.reduceEqDiff, Go.Addr.add, ↓reduceIte] at hx182_0)
                       have qi182 : (1 < (rd_L3 l0 x3_1).length) = True := eq_true (by omega)
                       (try rw [t1n] at hx182_0)
                       replace p182 := eq_true p182
                       replace q182 := eq_true q182
                       go_wp2_with (first | (go_at_call 273; (with_reducible refine (spec_l05Pair.calls _ _ (rd_L3 l0 x3_1) true _ ?side1 ?side2 A4.out).mono ?_); (case side1 => exact tC HR169_0.out); (case side2 => exact HC169_0.out); rintro e w' ⟨rfl, ⟨nd, rfl⟩⟩; (try exact tD)))
                       repeat (go_quiet (first | (go_at_call 273; (with_reducible refine (spec_l05Pair.calls _ _ (rd_L3 l0 x3_1) true _ ?side1 ?side2 A4.out).mono ?_); (case side1 => exact tC HR169_0.out); (case side2 => exact HC169_0.out); rintro e w' ⟨rfl, ⟨nd, rfl⟩⟩; (try exact tD))); try go_wp2_with (first | (go_at_call 273; (with_reducible refine (spec_l05Pair.calls _ _ (rd_L3 l0 x3_1) true _ ?side1 ?side2 A4.out).mono ?_); (case side1 => exact tC HR169_0.out); (case side2 => exact HC169_0.out); rintro e w' ⟨rfl, ⟨nd, rfl⟩⟩; (try exact tD))))
                       go_roundg k1
                       case measure => have := HK1.out; omega
                       case rel => exact ⟨(wrap64 (x3_1 + 1)), tq, H', ⟨by have := HK1.out; omega⟩, tZ⟩
                     rw [if_neg c15] at H
                     exact absurd H (by simp)
                   rw [if_neg c14] at H
                   exact absurd H (by simp)
                 rw [if_neg c13] at H
                 have c13b0 : ((rd (rd_L3 l0 (ji7)) 0) == (rd (rd_L3 l0 x3_1) 0)) = false := beq_eq_false_iff_ne.mpr c13
                 have c13b1 : ((rd (rd_L3 l0 (ji7)) 0) != (rd (rd_L3 l0 x3_1) 0)) = true := bne_iff_ne.mpr c13
                 have H' := Aside0.mk H
                 clear H
                 have p169 : 0 ≤ (x3_1 : Int) := of_decide_eq_true tA
                 have q169 : x3_1 < (l0.length : Int) := of_decide_eq_true tA
                 obtain ⟨ad169, A169_0, c169_0, e169, hx169_0, hl169_0, hi169_0⟩ := at_L3 HR0.out x3_1 p169 q169
                 cases e169
                 have HR169_0 := Aside0.mk hi169_0
                 have HC169_0 := Aside0.mk hl169_0
                 clear hi169_0 hl169_0
                 replace p169 := eq_true p169
                 replace q169 := eq_true q169
                 have p171 : 0 ≤ ((ji7) : Int) := of_decide_eq_true tA
                 have q171 : (ji7) < (l0.length : Int) := of_decide_eq_true tA
                 obtain ⟨ad171, A171_0, c171_0, e171, hx171_0, hl171_0, hi171_0⟩ := at_L3 HR0.out (ji7) p171 q171
                 obtain rfl : ad169 = ad171 := (by injection e171)
                 have HR171_0 := Aside0.mk hi171_0
                 have HC171_0 := Aside0.mk hl171_0
                 clear hi171_0 hl171_0
                 replace p171 := eq_true p171
                 replace q171 := eq_true q171
                 have p172 : 0 ≤ (0 : Int) := (by omega)
                 have q172 : 0 < ((rd_L3 l0 (ji7)).length : Int) := of_decide_eq_true tA
                 obtain ⟨ad172, e172, hx172_0⟩ := Kd.at_int HR171_0.out 0 p172 q172
                 cases e172
                 have qi172 : (0 < (rd_L3 l0 (ji7)).length) = True := eq_true (by omega)
                 (try rw [t0n] at hx172_0)
                 (try rw [Addr.add_zero'] at hx172_0)
                 replace p172 := eq_true p172
                 replace q172 := eq_true q172
                 have p173 : 0 ≤ (x3_1 : Int) := of_decide_eq_true tA
                 have q173 : x3_1 < (l0.length : Int) := of_decide_eq_true tA
                 obtain ⟨ad173, A173_0, c173_0, e173, hx173_0, hl173_0, hi173_0⟩ := at_L3 HR0.out x3_1 p173 q173
                 obtain rfl : ad169 = ad173 := (by injection e173)
                 have HR173_0 := Aside0.mk hi173_0
                 have HC173_0 := Aside0.mk hl173_0
                 clear hi173_0 hl173_0
                 replace p173 := eq_true p173
                 replace q173 := eq_true q173
                 have ea_ := Option.some.inj (hx169_0.symm.trans hx173_0)
                 injection ea_ with ea_ en_ ec_
                 subst ea_
                 subst ec_
                 clear en_
                 have p174 : 0 ≤ (0 : Int) := (by omega)
                 have q174 : 0 < ((rd_L3 l0 x3_1).length : Int) := of_decide_eq_true tA
                 obtain ⟨ad174, e174, hx174_0⟩ := Kd.at_int HR173_0.out 0 p174 q174
                 cases e174
                 have qi174 : (0 < (rd_L3 l0 x3_1).length) = True := eq_true (by omega)
                 (try rw [t0n] at hx174_0)
                 (try rw [Addr.add_zero'] at hx174_0)
                 replace p174 := eq_true p174
                 replace q174 := eq_true q174
                 have p175 : 0 ≤ ((ji7) : Int) := of_decide_eq_true tA
                 have q175 : (ji7) < (l0.length : Int) := of_decide_eq_true tA
                 obtain ⟨ad175, A175_0, c175_0, e175, hx175_0, hl175_0, hi175_0⟩ := at_L3 HR0.out (ji7) p175 q175
                 obtain rfl : ad169 = ad175 := (by injection e175)
                 have HR175_0 := Aside0.mk hi175_0
                 have HC175_0 := Aside0.mk hl175_0
                 clear hi175_0 hl175_0
                 replace p175 := eq_true p175
                 replace q175 := eq_true q175
                 have ea_ := Option.some.inj (hx171_0.symm.trans hx175_0)
                 injection ea_ with ea_ en_ ec_
                 subst ea_
                 subst ec_
                 clear en_
                 have p176 : 0 ≤ (0 : Int) := (by omega)
                 have q176 : 0 < ((rd_L3 l0 (ji7)).length : Int) := of_decide_eq_true tA
                 obtain ⟨ad176, e176, hx176_0⟩ := Kd.at_int HR175_0.out 0 p176 q176
                 cases e176
                 have qi176 : (0 < (rd_L3 l0 (ji7)).length) = True := eq_true (by omega)
                 (try rw [t0n] at hx176_0)
                 (try rw [Addr.add_zero'] at hx176_0)
                 replace p176 := eq_true p176
                 replace q176 := eq_true q176
                 have p177 : 0 ≤ (x3_1 : Int) := of_decide_eq_true tA
                 have q177 : x3_1 < (l0.length : Int) := of_decide_eq_true tA
                 obtain ⟨ad177, A177_0, c177_0, e177, hx177_0, hl177_0, hi177_0⟩ := at_L3 HR0.out x3_1 p177 q177
                 obtain rfl : ad169 = ad177 := (by injection e177)
                 have HR177_0 := Aside0.mk hi177_0
                 have HC177_0 := Aside0.mk hl177_0
                 clear hi177_0 hl177_0
                 replace p177 := eq_true p177
                 replace q177 := eq_true q177
                 have ea_ := Option.some.inj (hx169_0.symm.trans hx177_0)
                 injection ea_ with ea_ en_ ec_
                 subst ea_
                 subst ec_
                 clear en_
                 have p178 : 0 ≤ (0 : Int) := (by omega)
                 have q178 : 0 < ((rd_L3 l0 x3_1).length : Int) := of_decide_eq_true tA
                 obtain ⟨ad178, e178, hx178_0⟩ := Kd.at_int HR177_0.out 0 p178 q178
                 cases e178
                 have qi178 : (0 < (rd_L3 l0 x3_1).length) = True := eq_true (by omega)
                 (try rw [t0n] at hx178_0)
                 (try rw [Addr.add_zero'] at hx178_0)
                 replace p178 := eq_true p178
                 replace q178 := eq_true q178
                 go_wp2_with (first | (go_at_call 273; (with_reducible refine (spec_l05Pair.calls _ _ (rd_L3 l0 x3_1) true _ ?side1 ?side2 A4.out).mono ?_); (case side1 => exact tC HR169_0.out); (case side2 => exact HC169_0.out); rintro e w' ⟨rfl, ⟨nd, rfl⟩⟩; (try exact tD)))
                 repeat (go_quiet (first | (go_at_call 273; (with_reducible refine (spec_l05Pair.calls _ _ (rd_L3 l0 x3_1) true _ ?side1 ?side2 A4.out).mono ?_); (case side1 => exact tC HR169_0.out); (case side2 => exact HC169_0.out); rintro e w' ⟨rfl, ⟨nd, rfl⟩⟩; (try exact tD))); try go_wp2_with (first | (go_at_call 273; (with_reducible refine (spec_l05Pair.calls _ _ (rd_L3 l0 x3_1) true _ ?side1 ?side2 A4.out).mono ?_); (case side1 => exact tC HR169_0.out); (case side2 => exact HC169_0.out); rintro e w' ⟨rfl, ⟨nd, rfl⟩⟩; (try exact tD))))
                 go_roundg k1
                 case measure => have := HK1.out; omega
                 case rel => exact ⟨(wrap64 (x3_1 + 1)), tq, H', ⟨by have := HK1.out; omega⟩, tZ⟩
               rw [if_neg c11] at H
               exact absurd H (by simp)
             rw [if_neg c10] at H
             exact absurd H (by simp)
           rw [if_neg c9] at H
           exact absurd H (by simp)
         rw [if_neg c8] at H
         exact absurd H (by simp)
       rw [if_neg c6] at H
       have c6b0 : decide (0 < x3_1) = false := decide_eq_false c6
       clear c6
       have H' := Aside0.mk H
       clear H
       have p169 : 0 ≤ (x3_1 : Int) := of_decide_eq_true tA
       have q169 : x3_1 < (l0.length : Int) := of_decide_eq_true tA
       obtain ⟨ad169, A169_0, c169_0, e169, hx169_0, hl169_0, hi169_0⟩ := at_L3 HR0.out x3_1 p169 q169
       cases e169
       have HR169_0 := Aside0.mk hi169_0
       have HC169_0 := Aside0.mk hl169_0
       clear hi169_0 hl169_0
       replace p169 := eq_true p169
       replace q169 := eq_true q169
       go_wp2_with (first | (go_at_call 273; (with_reducible refine (spec_l05Pair.calls _ _ (rd_L3 l0 x3_1) true _ ?side1 ?side2 A4.out).mono ?_); (case side1 => exact tC HR169_0.out); (case side2 => exact HC169_0.out); rintro e w' ⟨rfl, ⟨nd, rfl⟩⟩; (try exact tD)))
       repeat (go_quiet (first | (go_at_call 273; (with_reducible refine (spec_l05Pair.calls _ _ (rd_L3 l0 x3_1) true _ ?side1 ?side2 A4.out).mono ?_); (case side1 => exact tC HR169_0.out); (case side2 => exact HC169_0.out); rintro e w' ⟨rfl, ⟨nd, rfl⟩⟩; (try exact tD))); try go_wp2_with (first | (go_at_call 273; (with_reducible refine (spec_l05Pair.calls _ _ (rd_L3 l0 x3_1) true _ ?side1 ?side2 A4.out).mono ?_); (case side1 => exact tC HR169_0.out); (case side2 => exact HC169_0.out); rintro e w' ⟨rfl, ⟨nd, rfl⟩⟩; (try exact tD))))
       go_roundg k1
       case measure => have := HK1.out; omega
       case rel => exact ⟨(wrap64 (x3_1 + 1)), tq, H', ⟨by have := HK1.out; omega⟩, tZ⟩
     replace c5 := Bool.eq_false_iff.mpr c5
     subst c5
     have H1 : (some false) = some r := by rw [if_neg (show ¬ (false = true) by decide)] at H; exact H
     clear H
     have H := H1
     clear H1
     obtain rfl := Option.some.inj H
     have p169 : 0 ≤ (x3_1 : Int) := of_decide_eq_true tA
     have q169 : x3_1 < (l0.length : Int) := of_decide_eq_true tA
     obtain ⟨ad169, A169_0, c169_0, e169, hx169_0, hl169_0, hi169_0⟩ := at_L3 HR0.out x3_1 p169 q169
     cases e169
     have HR169_0 := Aside0.mk hi169_0
     have HC169_0 := Aside0.mk hl169_0
     clear hi169_0 hl169_0
     replace p169 := eq_true p169
     replace q169 := eq_true q169
     go_wp2_with (first | (go_at_call 273; (with_reducible refine (spec_l05Pair.calls _ _ (rd_L3 l0 x3_1) false _ ?side1 ?side2 A4.out).mono ?_); (case side1 => exact tC HR169_0.out); (case side2 => exact HC169_0.out); rintro e w' ⟨rfl, ⟨nd, rfl⟩⟩; (try exact tD)))
     repeat (go_quiet (first | (go_at_call 273; (with_reducible refine (spec_l05Pair.calls _ _ (rd_L3 l0 x3_1) false _ ?side1 ?side2 A4.out).mono ?_); (case side1 => exact tC HR169_0.out); (case side2 => exact HC169_0.out); rintro e w' ⟨rfl, ⟨nd, rfl⟩⟩; (try exact tD))); try go_wp2_with (first | (go_at_call 273; (with_reducible refine (spec_l05Pair.calls _ _ (rd_L3 l0 x3_1) false _ ?side1 ?side2 A4.out).mono ?_); (case side1 => exact tC HR169_0.out); (case side2 => exact HC169_0.out); rintro e w' ⟨rfl, ⟨nd, rfl⟩⟩; (try exact tD))))
     go_ret
     exact ⟨by first | rfl | (simp; done) | (simp [*]; done), tZ⟩
   rw [if_neg c3] at H
   exact absurd H (by simp)
 rw [if_neg c2] at H
 have c2b0 : decide (x3_1 < (l0.length : Int)) = false := decide_eq_false c2
 clear c2
 obtain rfl := Option.some.inj H
 go_wp2
 repeat (go_quiet (fail); try go_wp2)
 go_ret
 exact ⟨by first | rfl | (simp; done) | (simp [*]; done), tZ⟩

end Go.Proofs.Ytbedlmlofnphkaa.PZ
