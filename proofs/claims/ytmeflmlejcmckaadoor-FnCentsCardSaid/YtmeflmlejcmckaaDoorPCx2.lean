-- WRITTEN BY wip/gprint.py, a program of this session's over the kit's print, with contracts given by hand
import Derived.Test.YtmeflmlejcmckaaDoorPCx0
import Derived.Test.YtmeflmlejcmckaaDoorPCx1
namespace Go.Proofs.YtmeflmlejcmckaaDoor.PC
open Go.RowKit Go.Proofs.YtmeflmlejcmckaaDoorW.PrintWords Go.Proofs.YtmeflmlejcmckaaDoorW.PrintLast Go.Proofs.YtmeflmlejcmckaaDoorW.PrintMore
attribute [local go_sem] max2_int min2_int max_two min_two max_three min_three max_four min_four   -- for this text's walks alone
set_option linter.unusedVariables false
set_option linter.unusedSimpArgs false

/-! ### spec_l02Gcd: function 171 -/
def spec_l02Gcd.l0 : Nat → Int → Int → Option (Int)
 | 0, _, _ => none
 | k + 1, x0, x1 => if x1 = 0 then (some x0) else (spec_l02Gcd.l0 k x1 (Int.tmod x0 x1))
def spec_l02Gcd.f (k : Nat) (a0 : Int) (a1 : Int) : Option (Int) := spec_l02Gcd.l0 k a0 a1
theorem spec_l02Gcd.mono_l : ∀ k, (∀ y0 y1, LeO (spec_l02Gcd.l0 k y0 y1) (spec_l02Gcd.l0 (k + 1) y0 y1))
 | 0 => fun _ _ r h => by simp [spec_l02Gcd.l0] at h
 | k + 1 => by
  have ih0 := spec_l02Gcd.mono_l k
  · intro y0 y1
    unfold spec_l02Gcd.l0
    repeat' first
    | (with_reducible exact ih0 _ _)
    | (with_reducible exact LeO.refl _)
    | (with_reducible exact LeO.none _)
    | (with_reducible refine LeO.ite ?_ ?_)
    | (with_reducible refine LeO.bind ?_ (fun _ => ?_))
    | exact ih0 _ _
    | exact LeO.none _
    | refine LeO.ite ?_ ?_
    | refine LeO.bind ?_ (fun _ => ?_)
theorem spec_l02Gcd.mono : ∀ a0 a1 k, LeO (spec_l02Gcd.f k a0 a1) (spec_l02Gcd.f (k + 1) a0 a1) := by
 intro a0 a1 k
 have ih0 := spec_l02Gcd.mono_l k
 unfold spec_l02Gcd.f
 repeat' first
  | (with_reducible exact ih0 _ _)
  | (with_reducible exact LeO.refl _)
  | (with_reducible exact LeO.none _)
  | (with_reducible refine LeO.ite ?_ ?_)
  | (with_reducible refine LeO.bind ?_ (fun _ => ?_))
  | exact ih0 _ _
  | exact LeO.none _
  | refine LeO.ite ?_ ?_
  | refine LeO.bind ?_ (fun _ => ?_)
set_option maxHeartbeats 8000000 in
set_option maxRecDepth 100000 in
theorem spec_l02Gcd.calls (k : Nat) (a0 : Int) (a1 : Int) (r : Int) (w : World) (h : spec_l02Gcd.f k a0 a1 = some r) :
 Calls Tryd.prog 171 #[.int .i64 a0, .int .i64 a1] w fun e w' => e = .returned (.int .i64 r) ∧ Drawn0 w w' := by
 have H : (spec_l02Gcd.l0 k a0 a1) = some r := h
 clear h
 have H' := Aside0.mk H
 clear H
 go_enter Tryd.func171, Tryd.ntmps171
 go_wp2
 go_loopg [0, 1] k (fun kq v0 v1 w' => ∃ (x0_1 : Int) (x1_1 : Int), v0 = .int .i64 x0_1 ∧ v1 = .int .i64 x1_1 ∧ Aside0 (spec_l02Gcd.l0 kq x0_1 x1_1 = some r) ∧ Aside0 (kq ≤ k) ∧ Drawn0 w w')
 case atStart => exact ⟨(a0), (a1), tq, tq, H', ⟨Nat.le_refl _⟩, tZ⟩
 case round =>
 clear H'
 try clear c1
 try clear p2
 obtain ⟨x0_1, x1_1, rfl, rfl, HA, HK1, ⟨m1, rfl⟩⟩ := hrel
 cases gk with
 | zero => exact absurd HA.out (by simp [spec_l02Gcd.l0])
 | succ k1 =>
 have H := HA.out
 clear HA
 simp only [spec_l02Gcd.l0] at H
 by_cases c3 : x1_1 = 0
 · rw [if_pos c3] at H
   have c3b0 : (x1_1 == 0) = true := beq_iff_eq.mpr c3
   have c3b1 : (x1_1 != 0) = false := bne_eq_false_iff_eq.mpr c3
   clear c3
   obtain rfl := Option.some.inj H
   go_wp2
   go_ret
   exact ⟨by first | rfl | (simp; done) | (simp [*]; done), tZ⟩
 rw [if_neg c3] at H
 have c3b0 : (x1_1 == 0) = false := beq_eq_false_iff_ne.mpr c3
 have c3b1 : (x1_1 != 0) = true := bne_iff_ne.mpr c3
 have H' := Aside0.mk H
 clear H
 go_wp2
 go_roundg k1
 case measure => have := HK1.out; omega
 case rel => exact ⟨(x1_1), (Int.tmod x0_1 x1_1), tq, tq, H', ⟨by have := HK1.out; omega⟩, tZ⟩

/-! ### spec_l02Ok: function 117 -/
def spec_l02Ok.f (k : Nat) (l0 : List (S52)) : Option (Bool) := (spec_l02Part.f ((rd_T52 l0 0).f0)).bind fun t115 => (if t115 = true then ((spec_l02Part.f ((rd_T52 l0 0).f1)).bind fun t116 => (if t116 = true then ((spec_l02Gcd.f k ((rd_T52 l0 0).f0) ((rd_T52 l0 0).f1)).bind fun t117 => (some (t117 == 1))) else (some false))) else (some false))
theorem spec_l02Ok.mono : ∀ a0 k, LeO (spec_l02Ok.f k a0) (spec_l02Ok.f (k + 1) a0) := by
 intro a0 k
 unfold spec_l02Ok.f
 repeat' first
  | (with_reducible exact spec_l02Gcd.mono _ _ _)
  | (with_reducible exact LeO.refl _)
  | (with_reducible exact LeO.none _)
  | (with_reducible refine LeO.ite ?_ ?_)
  | (with_reducible refine LeO.bind ?_ (fun _ => ?_))
  | exact spec_l02Gcd.mono _ _ _
  | exact LeO.none _
  | refine LeO.ite ?_ ?_
  | refine LeO.bind ?_ (fun _ => ?_)
set_option maxHeartbeats 8000000 in
set_option maxRecDepth 100000 in
theorem spec_l02Ok.calls (k : Nat) (A0 : Option Addr) (l0 : List (S52)) (r : Bool) (w : World) (hr0 : Kd.C k52 w A0 l0.length l0) (hn0 : 0 < l0.length) (h : spec_l02Ok.f k l0 = some r) :
 Calls Tryd.prog 117 #[.pointer A0] w fun e w' => e = .returned (.bool r) ∧ Drawn0 w w' := by
 have HR0 := Aside0.mk hr0
 clear hr0
 have HN0 := Aside0.mk hn0
 have hn0b0 : decide ((0 : Int) < (l0.length : Int)) = true := decide_eq_true (Int.ofNat_lt.2 hn0)
 have hn0b1 : decide (0 < l0.length) = true := decide_eq_true hn0
 clear hn0
 have H : ((spec_l02Part.f ((rd_T52 l0 0).f0)).bind fun t115 => (if t115 = true then ((spec_l02Part.f ((rd_T52 l0 0).f1)).bind fun t116 => (if t116 = true then ((spec_l02Gcd.f k ((rd_T52 l0 0).f0) ((rd_T52 l0 0).f1)).bind fun t117 => (some (t117 == 1))) else (some false))) else (some false))) = some r := h
 clear h
 replace H := Option.bind_eq_some_iff.mp H
 obtain ⟨t115, A20, H⟩ := H
 replace H : (if t115 = true then ((spec_l02Part.f ((rd_T52 l0 0).f1)).bind fun t116 => (if t116 = true then ((spec_l02Gcd.f k ((rd_T52 l0 0).f0) ((rd_T52 l0 0).f1)).bind fun t117 => (some (t117 == 1))) else (some false))) else (some false)) = some r := H
 have A2 := Aside0.mk A20
 clear A20
 by_cases c3 : t115 = true
 · subst c3
   have H1 : ((spec_l02Part.f ((rd_T52 l0 0).f1)).bind fun t116 => (if t116 = true then ((spec_l02Gcd.f k ((rd_T52 l0 0).f0) ((rd_T52 l0 0).f1)).bind fun t117 => (some (t117 == 1))) else (some false))) = some r := by rw [if_pos rfl] at H; exact H
   clear H
   have H := H1
   clear H1
   replace H := Option.bind_eq_some_iff.mp H
   obtain ⟨t116, A40, H⟩ := H
   replace H : (if t116 = true then ((spec_l02Gcd.f k ((rd_T52 l0 0).f0) ((rd_T52 l0 0).f1)).bind fun t117 => (some (t117 == 1))) else (some false)) = some r := H
   have A4 := Aside0.mk A40
   clear A40
   by_cases c5 : t116 = true
   · subst c5
     have H1 : ((spec_l02Gcd.f k ((rd_T52 l0 0).f0) ((rd_T52 l0 0).f1)).bind fun t117 => (some (t117 == 1))) = some r := by rw [if_pos rfl] at H; exact H
     clear H
     have H := H1
     clear H1
     replace H := Option.bind_eq_some_iff.mp H
     obtain ⟨t117, A60, H⟩ := H
     replace H : (some (t117 == 1)) = some r := H
     have A6 := Aside0.mk A60
     clear A60
     obtain rfl := Option.some.inj H
     have p114 : 0 ≤ (0 : Int) := (by omega)
     have q114 : 0 < (l0.length : Int) := of_decide_eq_true tA
     obtain ⟨ad114, e114, hx114_0, hx114_1⟩ := at_T52 HR0.out 0 p114 q114
     cases e114
     have qi114 : (0 < l0.length) = True := eq_true (by omega)
     (try rw [t0n] at hx114_0)
     (try rw [show 0 * 2 = 0 from rfl] at hx114_0)
     (try rw [Addr.add_zero'] at hx114_0)
     (try rw [t0n] at hx114_1)
     (try rw [show 0 * 2 = 0 from rfl] at hx114_1)
     (try rw [Addr.add_zero'] at hx114_1)
     replace p114 := eq_true p114
     replace q114 := eq_true q114
     go_enter Tryd.func117, Tryd.ntmps117
     go_wp2_with (first | (go_at_call 170; (with_reducible refine (spec_l02Part.calls ((rd_T52 l0 0).f0) true _ A2.out).mono ?_); rintro e w' ⟨rfl, ⟨nd, rfl⟩⟩; (try exact tD)) | (go_at_call 170; (with_reducible refine (spec_l02Part.calls ((rd_T52 l0 0).f1) true _ A4.out).mono ?_); rintro e w' ⟨rfl, ⟨nd, rfl⟩⟩; (try exact tD)) | (go_at_call 171; (with_reducible refine (spec_l02Gcd.calls k ((rd_T52 l0 0).f0) ((rd_T52 l0 0).f1) t117 _ A6.out).mono ?_); rintro e w' ⟨rfl, ⟨nd, rfl⟩⟩; (try exact tD)))
     repeat (go_quiet (first | (go_at_call 170; (with_reducible refine (spec_l02Part.calls ((rd_T52 l0 0).f0) true _ A2.out).mono ?_); rintro e w' ⟨rfl, ⟨nd, rfl⟩⟩; (try exact tD)) | (go_at_call 170; (with_reducible refine (spec_l02Part.calls ((rd_T52 l0 0).f1) true _ A4.out).mono ?_); rintro e w' ⟨rfl, ⟨nd, rfl⟩⟩; (try exact tD)) | (go_at_call 171; (with_reducible refine (spec_l02Gcd.calls k ((rd_T52 l0 0).f0) ((rd_T52 l0 0).f1) t117 _ A6.out).mono ?_); rintro e w' ⟨rfl, ⟨nd, rfl⟩⟩; (try exact tD))); try go_wp2_with (first | (go_at_call 170; (with_reducible refine (spec_l02Part.calls ((rd_T52 l0 0).f0) true _ A2.out).mono ?_); rintro e w' ⟨rfl, ⟨nd, rfl⟩⟩; (try exact tD)) | (go_at_call 170; (with_reducible refine (spec_l02Part.calls ((rd_T52 l0 0).f1) true _ A4.out).mono ?_); rintro e w' ⟨rfl, ⟨nd, rfl⟩⟩; (try exact tD)) | (go_at_call 171; (with_reducible refine (spec_l02Gcd.calls k ((rd_T52 l0 0).f0) ((rd_T52 l0 0).f1) t117 _ A6.out).mono ?_); rintro e w' ⟨rfl, ⟨nd, rfl⟩⟩; (try exact tD))))
     go_ret
     exact ⟨by first | rfl | (simp; done) | (simp [*]; done), tZ⟩
   replace c5 := Bool.eq_false_iff.mpr c5
   subst c5
   have H1 : (some false) = some r := by rw [if_neg (show ¬ (false = true) by decide)] at H; exact H
   clear H
   have H := H1
   clear H1
   obtain rfl := Option.some.inj H
   have p114 : 0 ≤ (0 : Int) := (by omega)
   have q114 : 0 < (l0.length : Int) := of_decide_eq_true tA
   obtain ⟨ad114, e114, hx114_0, hx114_1⟩ := at_T52 HR0.out 0 p114 q114
   cases e114
   have qi114 : (0 < l0.length) = True := eq_true (by omega)
   (try rw [t0n] at hx114_0)
   (try rw [show 0 * 2 = 0 from rfl] at hx114_0)
   (try rw [Addr.add_zero'] at hx114_0)
   (try rw [t0n] at hx114_1)
   (try rw [show 0 * 2 = 0 from rfl] at hx114_1)
   (try rw [Addr.add_zero'] at hx114_1)
   replace p114 := eq_true p114
   replace q114 := eq_true q114
   go_enter Tryd.func117, Tryd.ntmps117
   go_wp2_with (first | (go_at_call 170; (with_reducible refine (spec_l02Part.calls ((rd_T52 l0 0).f0) true _ A2.out).mono ?_); rintro e w' ⟨rfl, ⟨nd, rfl⟩⟩; (try exact tD)) | (go_at_call 170; (with_reducible refine (spec_l02Part.calls ((rd_T52 l0 0).f1) false _ A4.out).mono ?_); rintro e w' ⟨rfl, ⟨nd, rfl⟩⟩; (try exact tD)))
   repeat (go_quiet (first | (go_at_call 170; (with_reducible refine (spec_l02Part.calls ((rd_T52 l0 0).f0) true _ A2.out).mono ?_); rintro e w' ⟨rfl, ⟨nd, rfl⟩⟩; (try exact tD)) | (go_at_call 170; (with_reducible refine (spec_l02Part.calls ((rd_T52 l0 0).f1) false _ A4.out).mono ?_); rintro e w' ⟨rfl, ⟨nd, rfl⟩⟩; (try exact tD))); try go_wp2_with (first | (go_at_call 170; (with_reducible refine (spec_l02Part.calls ((rd_T52 l0 0).f0) true _ A2.out).mono ?_); rintro e w' ⟨rfl, ⟨nd, rfl⟩⟩; (try exact tD)) | (go_at_call 170; (with_reducible refine (spec_l02Part.calls ((rd_T52 l0 0).f1) false _ A4.out).mono ?_); rintro e w' ⟨rfl, ⟨nd, rfl⟩⟩; (try exact tD))))
   go_ret
   exact ⟨by first | rfl | (simp; done) | (simp [*]; done), tZ⟩
 replace c3 := Bool.eq_false_iff.mpr c3
 subst c3
 have H1 : (some false) = some r := by rw [if_neg (show ¬ (false = true) by decide)] at H; exact H
 clear H
 have H := H1
 clear H1
 obtain rfl := Option.some.inj H
 have p114 : 0 ≤ (0 : Int) := (by omega)
 have q114 : 0 < (l0.length : Int) := of_decide_eq_true tA
 obtain ⟨ad114, e114, hx114_0, hx114_1⟩ := at_T52 HR0.out 0 p114 q114
 cases e114
 have qi114 : (0 < l0.length) = True := eq_true (by omega)
 (try rw [t0n] at hx114_0)
 (try rw [show 0 * 2 = 0 from rfl] at hx114_0)
 (try rw [Addr.add_zero'] at hx114_0)
 (try rw [t0n] at hx114_1)
 (try rw [show 0 * 2 = 0 from rfl] at hx114_1)
 (try rw [Addr.add_zero'] at hx114_1)
 replace p114 := eq_true p114
 replace q114 := eq_true q114
 go_enter Tryd.func117, Tryd.ntmps117
 go_wp2_with (first | (go_at_call 170; (with_reducible refine (spec_l02Part.calls ((rd_T52 l0 0).f0) false _ A2.out).mono ?_); rintro e w' ⟨rfl, ⟨nd, rfl⟩⟩; (try exact tD)))
 repeat (go_quiet (first | (go_at_call 170; (with_reducible refine (spec_l02Part.calls ((rd_T52 l0 0).f0) false _ A2.out).mono ?_); rintro e w' ⟨rfl, ⟨nd, rfl⟩⟩; (try exact tD))); try go_wp2_with (first | (go_at_call 170; (with_reducible refine (spec_l02Part.calls ((rd_T52 l0 0).f0) false _ A2.out).mono ?_); rintro e w' ⟨rfl, ⟨nd, rfl⟩⟩; (try exact tD))))
 go_ret
 exact ⟨by first | rfl | (simp; done) | (simp [*]; done), tZ⟩

end Go.Proofs.YtmeflmlejcmckaaDoor.PC
