-- WRITTEN BY wip/gprint.py, a program of this session's over the kit's print, with contracts given by hand
import Derived.Test.YtmeflmlejcmckaaDoorPBx0
namespace Go.Proofs.YtmeflmlejcmckaaDoor.PB
open Go.RowKit Go.Proofs.YtmeflmlejcmckaaDoorW.PrintWords Go.Proofs.YtmeflmlejcmckaaDoorW.PrintLast Go.Proofs.YtmeflmlejcmckaaDoorW.PrintMore
attribute [local go_sem] max2_int min2_int max_two min_two max_three min_three max_four min_four   -- for this text's walks alone
set_option linter.unusedVariables false
set_option linter.unusedSimpArgs false

/-! ### spec_l02Compare: function 230 -/
def spec_l02Compare.f (l0 : List (S52)) (l1 : List (S52)) : Option (Int) := if (wrap64 (((rd_T52 l0 0).f0) * ((rd_T52 l1 0).f1))) < (wrap64 (((rd_T52 l1 0).f0) * ((rd_T52 l0 0).f1))) then (some (-1)) else (if (wrap64 (((rd_T52 l0 0).f0) * ((rd_T52 l1 0).f1))) > (wrap64 (((rd_T52 l1 0).f0) * ((rd_T52 l0 0).f1))) then (some 1) else (some 0))
set_option maxHeartbeats 8000000 in
set_option maxRecDepth 100000 in
theorem spec_l02Compare.calls (A0 : Option Addr) (l0 : List (S52)) (A1 : Option Addr) (l1 : List (S52)) (r : Int) (w : World) (hr0 : Kd.C k52 w A0 l0.length l0) (hn0 : 0 < l0.length) (hr1 : Kd.C k52 w A1 l1.length l1) (hn1 : 0 < l1.length) (h : spec_l02Compare.f l0 l1 = some r) :
 Calls Tryd.prog 230 #[.pointer A0, .pointer A1] w fun e w' => e = .returned (.int .i64 r) ∧ Drawn0 w w' := by
 have HR0 := Aside0.mk hr0
 clear hr0
 have HN0 := Aside0.mk hn0
 have hn0b0 : decide ((0 : Int) < (l0.length : Int)) = true := decide_eq_true (Int.ofNat_lt.2 hn0)
 have hn0b1 : decide (0 < l0.length) = true := decide_eq_true hn0
 clear hn0
 have HR1 := Aside0.mk hr1
 clear hr1
 have HN1 := Aside0.mk hn1
 have hn1b0 : decide ((0 : Int) < (l1.length : Int)) = true := decide_eq_true (Int.ofNat_lt.2 hn1)
 have hn1b1 : decide (0 < l1.length) = true := decide_eq_true hn1
 clear hn1
 have H : (if (wrap64 (((rd_T52 l0 0).f0) * ((rd_T52 l1 0).f1))) < (wrap64 (((rd_T52 l1 0).f0) * ((rd_T52 l0 0).f1))) then (some (-1)) else (if (wrap64 (((rd_T52 l0 0).f0) * ((rd_T52 l1 0).f1))) > (wrap64 (((rd_T52 l1 0).f0) * ((rd_T52 l0 0).f1))) then (some 1) else (some 0))) = some r := h
 clear h
 by_cases c3 : (wrap64 (((rd_T52 l0 0).f0) * ((rd_T52 l1 0).f1))) < (wrap64 (((rd_T52 l1 0).f0) * ((rd_T52 l0 0).f1)))
 · rw [if_pos c3] at H
   have c3b0 : decide ((wrap64 (((rd_T52 l0 0).f0) * ((rd_T52 l1 0).f1))) < (wrap64 (((rd_T52 l1 0).f0) * ((rd_T52 l0 0).f1)))) = true := decide_eq_true c3
   clear c3
   obtain rfl := Option.some.inj H
   have p186 : 0 ≤ (0 : Int) := (by omega)
   have q186 : 0 < (l0.length : Int) := of_decide_eq_true tA
   obtain ⟨ad186, e186, hx186_0, hx186_1⟩ := at_T52 HR0.out 0 p186 q186
   cases e186
   have qi186 : (0 < l0.length) = True := eq_true (by omega)
   (try rw [t0n] at hx186_0)
   (try rw [show 0 * 2 = 0 from rfl] at hx186_0)
   (try rw [Addr.add_zero'] at hx186_0)
   (try rw [t0n] at hx186_1)
   (try rw [show 0 * 2 = 0 from rfl] at hx186_1)
   (try rw [Addr.add_zero'] at hx186_1)
   replace p186 := eq_true p186
   replace q186 := eq_true q186
   have p187 : 0 ≤ (0 : Int) := (by omega)
   have q187 : 0 < (l1.length : Int) := of_decide_eq_true tA
   obtain ⟨ad187, e187, hx187_0, hx187_1⟩ := at_T52 HR1.out 0 p187 q187
   cases e187
   have qi187 : (0 < l1.length) = True := eq_true (by omega)
   (try rw [t0n] at hx187_0)
   (try rw [show 0 * 2 = 0 from rfl] at hx187_0)
   (try rw [Addr.add_zero'] at hx187_0)
   (try rw [t0n] at hx187_1)
   (try rw [show 0 * 2 = 0 from rfl] at hx187_1)
   (try rw [Addr.add_zero'] at hx187_1)
   replace p187 := eq_true p187
   replace q187 := eq_true q187
   have p188 : 0 ≤ (0 : Int) := (by omega)
   have q188 : 0 < (l1.length : Int) := of_decide_eq_true tA
   obtain ⟨ad188, e188, hx188_0, hx188_1⟩ := at_T52 HR1.out 0 p188 q188
   obtain rfl : ad187 = ad188 := (by injection e188)
   have qi188 : (0 < l1.length) = True := eq_true (by omega)
   (try rw [t0n] at hx188_0)
   (try rw [show 0 * 2 = 0 from rfl] at hx188_0)
   (try rw [Addr.add_zero'] at hx188_0)
   (try rw [t0n] at hx188_1)
   (try rw [show 0 * 2 = 0 from rfl] at hx188_1)
   (try rw [Addr.add_zero'] at hx188_1)
   replace p188 := eq_true p188
   replace q188 := eq_true q188
   have p189 : 0 ≤ (0 : Int) := (by omega)
   have q189 : 0 < (l0.length : Int) := of_decide_eq_true tA
   obtain ⟨ad189, e189, hx189_0, hx189_1⟩ := at_T52 HR0.out 0 p189 q189
   obtain rfl : ad186 = ad189 := (by injection e189)
   have qi189 : (0 < l0.length) = True := eq_true (by omega)
   (try rw [t0n] at hx189_0)
   (try rw [show 0 * 2 = 0 from rfl] at hx189_0)
   (try rw [Addr.add_zero'] at hx189_0)
   (try rw [t0n] at hx189_1)
   (try rw [show 0 * 2 = 0 from rfl] at hx189_1)
   (try rw [Addr.add_zero'] at hx189_1)
   replace p189 := eq_true p189
   replace q189 := eq_true q189
   go_enter Tryd.func230, Tryd.ntmps230
   go_wp2
   repeat (go_quiet (fail); try go_wp2)
   go_ret
   exact ⟨by first | rfl | (simp; done) | (simp [*]; done), tZ⟩
 rw [if_neg c3] at H
 have c3b0 : decide ((wrap64 (((rd_T52 l0 0).f0) * ((rd_T52 l1 0).f1))) < (wrap64 (((rd_T52 l1 0).f0) * ((rd_T52 l0 0).f1)))) = false := decide_eq_false c3
 clear c3
 by_cases c4 : (wrap64 (((rd_T52 l0 0).f0) * ((rd_T52 l1 0).f1))) > (wrap64 (((rd_T52 l1 0).f0) * ((rd_T52 l0 0).f1)))
 · rw [if_pos c4] at H
   have c4b0 : decide ((wrap64 (((rd_T52 l1 0).f0) * ((rd_T52 l0 0).f1))) < (wrap64 (((rd_T52 l0 0).f0) * ((rd_T52 l1 0).f1)))) = true := decide_eq_true c4
   clear c4
   obtain rfl := Option.some.inj H
   have p186 : 0 ≤ (0 : Int) := (by omega)
   have q186 : 0 < (l0.length : Int) := of_decide_eq_true tA
   obtain ⟨ad186, e186, hx186_0, hx186_1⟩ := at_T52 HR0.out 0 p186 q186
   cases e186
   have qi186 : (0 < l0.length) = True := eq_true (by omega)
   (try rw [t0n] at hx186_0)
   (try rw [show 0 * 2 = 0 from rfl] at hx186_0)
   (try rw [Addr.add_zero'] at hx186_0)
   (try rw [t0n] at hx186_1)
   (try rw [show 0 * 2 = 0 from rfl] at hx186_1)
   (try rw [Addr.add_zero'] at hx186_1)
   replace p186 := eq_true p186
   replace q186 := eq_true q186
   have p187 : 0 ≤ (0 : Int) := (by omega)
   have q187 : 0 < (l1.length : Int) := of_decide_eq_true tA
   obtain ⟨ad187, e187, hx187_0, hx187_1⟩ := at_T52 HR1.out 0 p187 q187
   cases e187
   have qi187 : (0 < l1.length) = True := eq_true (by omega)
   (try rw [t0n] at hx187_0)
   (try rw [show 0 * 2 = 0 from rfl] at hx187_0)
   (try rw [Addr.add_zero'] at hx187_0)
   (try rw [t0n] at hx187_1)
   (try rw [show 0 * 2 = 0 from rfl] at hx187_1)
   (try rw [Addr.add_zero'] at hx187_1)
   replace p187 := eq_true p187
   replace q187 := eq_true q187
   have p188 : 0 ≤ (0 : Int) := (by omega)
   have q188 : 0 < (l1.length : Int) := of_decide_eq_true tA
   obtain ⟨ad188, e188, hx188_0, hx188_1⟩ := at_T52 HR1.out 0 p188 q188
   obtain rfl : ad187 = ad188 := (by injection e188)
   have qi188 : (0 < l1.length) = True := eq_true (by omega)
   (try rw [t0n] at hx188_0)
   (try rw [show 0 * 2 = 0 from rfl] at hx188_0)
   (try rw [Addr.add_zero'] at hx188_0)
   (try rw [t0n] at hx188_1)
   (try rw [show 0 * 2 = 0 from rfl] at hx188_1)
   (try rw [Addr.add_zero'] at hx188_1)
   replace p188 := eq_true p188
   replace q188 := eq_true q188
   have p189 : 0 ≤ (0 : Int) := (by omega)
   have q189 : 0 < (l0.length : Int) := of_decide_eq_true tA
   obtain ⟨ad189, e189, hx189_0, hx189_1⟩ := at_T52 HR0.out 0 p189 q189
   obtain rfl : ad186 = ad189 := (by injection e189)
   have qi189 : (0 < l0.length) = True := eq_true (by omega)
   (try rw [t0n] at hx189_0)
   (try rw [show 0 * 2 = 0 from rfl] at hx189_0)
   (try rw [Addr.add_zero'] at hx189_0)
   (try rw [t0n] at hx189_1)
   (try rw [show 0 * 2 = 0 from rfl] at hx189_1)
   (try rw [Addr.add_zero'] at hx189_1)
   replace p189 := eq_true p189
   replace q189 := eq_true q189
   go_enter Tryd.func230, Tryd.ntmps230
   go_wp2
   repeat (go_quiet (fail); try go_wp2)
   go_ret
   exact ⟨by first | rfl | (simp; done) | (simp [*]; done), tZ⟩
 rw [if_neg c4] at H
 have c4b0 : decide ((wrap64 (((rd_T52 l1 0).f0) * ((rd_T52 l0 0).f1))) < (wrap64 (((rd_T52 l0 0).f0) * ((rd_T52 l1 0).f1)))) = false := decide_eq_false c4
 clear c4
 obtain rfl := Option.some.inj H
 have p186 : 0 ≤ (0 : Int) := (by omega)
 have q186 : 0 < (l0.length : Int) := of_decide_eq_true tA
 obtain ⟨ad186, e186, hx186_0, hx186_1⟩ := at_T52 HR0.out 0 p186 q186
 cases e186
 have qi186 : (0 < l0.length) = True := eq_true (by omega)
 (try rw [t0n] at hx186_0)
 (try rw [show 0 * 2 = 0 from rfl] at hx186_0)
 (try rw [Addr.add_zero'] at hx186_0)
 (try rw [t0n] at hx186_1)
 (try rw [show 0 * 2 = 0 from rfl] at hx186_1)
 (try rw [Addr.add_zero'] at hx186_1)
 replace p186 := eq_true p186
 replace q186 := eq_true q186
 have p187 : 0 ≤ (0 : Int) := (by omega)
 have q187 : 0 < (l1.length : Int) := of_decide_eq_true tA
 obtain ⟨ad187, e187, hx187_0, hx187_1⟩ := at_T52 HR1.out 0 p187 q187
 cases e187
 have qi187 : (0 < l1.length) = True := eq_true (by omega)
 (try rw [t0n] at hx187_0)
 (try rw [show 0 * 2 = 0 from rfl] at hx187_0)
 (try rw [Addr.add_zero'] at hx187_0)
 (try rw [t0n] at hx187_1)
 (try rw [show 0 * 2 = 0 from rfl] at hx187_1)
 (try rw [Addr.add_zero'] at hx187_1)
 replace p187 := eq_true p187
 replace q187 := eq_true q187
 have p188 : 0 ≤ (0 : Int) := (by omega)
 have q188 : 0 < (l1.length : Int) := of_decide_eq_true tA
 obtain ⟨ad188, e188, hx188_0, hx188_1⟩ := at_T52 HR1.out 0 p188 q188
 obtain rfl : ad187 = ad188 := (by injection e188)
 have qi188 : (0 < l1.length) = True := eq_true (by omega)
 (try rw [t0n] at hx188_0)
 (try rw [show 0 * 2 = 0 from rfl] at hx188_0)
 (try rw [Addr.add_zero'] at hx188_0)
 (try rw [t0n] at hx188_1)
 (try rw [show 0 * 2 = 0 from rfl] at hx188_1)
 (try rw [Addr.add_zero'] at hx188_1)
 replace p188 := eq_true p188
 replace q188 := eq_true q188
 have p189 : 0 ≤ (0 : Int) := (by omega)
 have q189 : 0 < (l0.length : Int) := of_decide_eq_true tA
 obtain ⟨ad189, e189, hx189_0, hx189_1⟩ := at_T52 HR0.out 0 p189 q189
 obtain rfl : ad186 = ad189 := (by injection e189)
 have qi189 : (0 < l0.length) = True := eq_true (by omega)
 (try rw [t0n] at hx189_0)
 (try rw [show 0 * 2 = 0 from rfl] at hx189_0)
 (try rw [Addr.add_zero'] at hx189_0)
 (try rw [t0n] at hx189_1)
 (try rw [show 0 * 2 = 0 from rfl] at hx189_1)
 (try rw [Addr.add_zero'] at hx189_1)
 replace p189 := eq_true p189
 replace q189 := eq_true q189
 go_enter Tryd.func230, Tryd.ntmps230
 go_wp2
 repeat (go_quiet (fail); try go_wp2)
 go_ret
 exact ⟨by first | rfl | (simp; done) | (simp [*]; done), tZ⟩

end Go.Proofs.YtmeflmlejcmckaaDoor.PB
