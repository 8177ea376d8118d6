-- WRITTEN BY wip/gprint.py, a program of this session's over the kit's print, with contracts given by hand
import Derived.Test.YtmeflmlejcmckaaDoorPSx0
import Derived.Test.YtmeflmlejcmckaaDoorPSx7
import Derived.Test.YtmeflmlejcmckaaDoorPSx19
namespace Go.Proofs.YtmeflmlejcmckaaDoor.PS
open Go.RowKit Go.Proofs.YtmeflmlejcmckaaDoorW.PrintWords Go.Proofs.YtmeflmlejcmckaaDoorW.PrintLast Go.Proofs.YtmeflmlejcmckaaDoorW.PrintMore
attribute [local go_sem] max2_int min2_int max_two min_two max_three min_three max_four min_four   -- for this text's walks alone
set_option linter.unusedVariables false
set_option linter.unusedSimpArgs false

/-! ### spec_l17Text: function 97 -/
def spec_l17Text.l0 : Nat → List (S39) → ByteArray → ByteArray → Int → Option (ByteArray)
 | 0, _, _, _, _ => none
 | k + 1, x0, x3, x4, x5 => if x5 < (((rd_T39 x0 0).f1).length : Int) then (if 0 ≤ x5 then (if x5 < (((rd_T39 x0 0).f2).length : Int) then ((spec_l01Dec.f k (rd ((rd_T39 x0 0).f1) x5)).bind fun t271 => (if 1 + t271.size ≤ 9223372036854775807 then (if 0 ≤ (rd ((rd_T39 x0 0).f2) x5) then (if (rd ((rd_T39 x0 0).f2) x5) ≤ (wrap64 ((rd ((rd_T39 x0 0).f2) x5) + 1)) then (if (wrap64 ((rd ((rd_T39 x0 0).f2) x5) + 1)) ≤ (x4.size : Int) then (if ((⟨#[32]⟩ : ByteArray) ++ t271).size + (x4.extract ((rd ((rd_T39 x0 0).f2) x5) : Int).toNat ((wrap64 ((rd ((rd_T39 x0 0).f2) x5) + 1)) : Int).toNat).size ≤ 9223372036854775807 then (if x3.size + (((⟨#[32]⟩ : ByteArray) ++ t271) ++ (x4.extract ((rd ((rd_T39 x0 0).f2) x5) : Int).toNat ((wrap64 ((rd ((rd_T39 x0 0).f2) x5) + 1)) : Int).toNat)).size ≤ 9223372036854775807 then (spec_l17Text.l0 k x0 (x3 ++ (((⟨#[32]⟩ : ByteArray) ++ t271) ++ (x4.extract ((rd ((rd_T39 x0 0).f2) x5) : Int).toNat ((wrap64 ((rd ((rd_T39 x0 0).f2) x5) + 1)) : Int).toNat))) x4 (wrap64 (x5 + 1))) else (none)) else (none)) else (none)) else (none)) else (none)) else (none))) else (none)) else (none)) else (some x3)
def spec_l17Text.f (k : Nat) (l0 : List (S39)) : Option (ByteArray) := (spec_l17Signs.f).bind fun t265 => (spec_l17Text.l0 k l0 ((rd_T39 l0 0).f0) t265 0)
theorem spec_l17Text.mono_l : ∀ k, (∀ y0 y1 y2 y3, LeO (spec_l17Text.l0 k y0 y1 y2 y3) (spec_l17Text.l0 (k + 1) y0 y1 y2 y3))
 | 0 => fun _ _ _ _ r h => by simp [spec_l17Text.l0] at h
 | k + 1 => by
  have ih0 := spec_l17Text.mono_l k
  · intro y0 y1 y2 y3
    unfold spec_l17Text.l0
    repeat' first
    | (with_reducible exact ih0 _ _ _ _)
    | (with_reducible exact spec_l01Dec.mono _ _)
    | (with_reducible exact LeO.refl _)
    | (with_reducible exact LeO.none _)
    | (with_reducible refine LeO.ite ?_ ?_)
    | (with_reducible refine LeO.bind ?_ (fun _ => ?_))
    | exact ih0 _ _ _ _
    | exact spec_l01Dec.mono _ _
    | exact LeO.none _
    | refine LeO.ite ?_ ?_
    | refine LeO.bind ?_ (fun _ => ?_)
theorem spec_l17Text.mono : ∀ a0 k, LeO (spec_l17Text.f k a0) (spec_l17Text.f (k + 1) a0) := by
 intro a0 k
 have ih0 := spec_l17Text.mono_l k
 unfold spec_l17Text.f
 repeat' first
  | (with_reducible exact ih0 _ _ _ _)
  | (with_reducible exact spec_l01Dec.mono _ _)
  | (with_reducible exact LeO.refl _)
  | (with_reducible exact LeO.none _)
  | (with_reducible refine LeO.ite ?_ ?_)
  | (with_reducible refine LeO.bind ?_ (fun _ => ?_))
  | exact ih0 _ _ _ _
  | exact spec_l01Dec.mono _ _
  | exact LeO.none _
  | refine LeO.ite ?_ ?_
  | refine LeO.bind ?_ (fun _ => ?_)
def spec_l17Text.T7 : Bool × List (List Nat × List Nat) := (true, [([], []), ([], []), ([1], [1]), ([2], [2]), ([3], [3]), ([], []), ([4, 5], [4, 5]), ([6], [6]), ([7], [7]), ([8], [8]), ([], []), ([], []), ([], []), ([12], [12]), ([10, 11, 13], [10, 11, 13]), ([9, 14], [9, 14]), ([0, 15], [0, 15]), ([16, 8, 0, 1, 2, 3, 4, 5, 6, 7, 8, 9, 10, 11, 12, 13, 14, 15, 16], [0, 16])])
def spec_l17Text.B7 : List Nat := [0, 0, 2, 6, 14, 0, 62, 126, 254, 510, 0, 0, 0, 4096, 15360, 32766, 65535, 131071]
theorem spec_l17Text.tab7 : rtab .any (opsOf Tryd.f97 7) = spec_l17Text.T7 := by kernel_rfl
theorem spec_l17Text.bits7 : waitsOk spec_l17Text.T7.2 spec_l17Text.B7 = true := by kernel_rfl
set_option maxHeartbeats 8000000 in
set_option maxRecDepth 100000 in
theorem spec_l17Text.calls (k : Nat) (A0 : Option Addr) (l0 : List (S39)) (r : ByteArray) (w : World) (hr0 : Kd.C k39 w A0 l0.length l0) (hn0 : 0 < l0.length) (h : spec_l17Text.f k l0 = some r) :
 Calls Tryd.prog 97 #[.pointer A0] w fun e w' => e = .returned (.string r) ∧ Below w.heap.size w w' := by
 have HR0 := Aside0.mk hr0
 clear hr0
 have HN0 := Aside0.mk hn0
 have hn0b0 : decide ((0 : Int) < (l0.length : Int)) = true := decide_eq_true (Int.ofNat_lt.2 hn0)
 have hn0b1 : decide (0 < l0.length) = true := decide_eq_true hn0
 clear hn0
 have HB := Aside0.mk (Below.refl w.heap.size w)
 have H : ((spec_l17Signs.f).bind fun t265 => (spec_l17Text.l0 k l0 ((rd_T39 l0 0).f0) t265 0)) = some r := h
 clear h
 replace H := Option.bind_eq_some_iff.mp H
 obtain ⟨t265, A20, H⟩ := H
 replace H : (spec_l17Text.l0 k l0 ((rd_T39 l0 0).f0) t265 0) = some r := H
 have A2 := Aside0.mk A20
 clear A20
 have H' := Aside0.mk H
 clear H
 have p264 : 0 ≤ (0 : Int) := (by omega)
 have q264 : 0 < (l0.length : Int) := of_decide_eq_true tA
 obtain ⟨ad264, A264_1, c264_1, A264_2, c264_2, e264, hx264_0, hx264_1, hx264_2, hl264_1, hi264_1, hl264_2, hi264_2⟩ := at_T39 HR0.out 0 p264 q264
 cases e264
 have qi264 : (0 < l0.length) = True := eq_true (by omega)
 (try rw [t0n] at hx264_0)
 (try rw [show 0 * 3 = 0 from rfl] at hx264_0)
 (try rw [Addr.add_zero'] at hx264_0)
 (try rw [t0n] at hx264_1)
 (try rw [show 0 * 3 = 0 from rfl] at hx264_1)
 (try rw [Addr.add_zero'] at hx264_1)
 (try rw [t0n] at hx264_2)
 (try rw [show 0 * 3 = 0 from rfl] at hx264_2)
 (try rw [Addr.add_zero'] at hx264_2)
 have HR264_1 := Aside0.mk hi264_1
 have HC264_1 := Aside0.mk hl264_1
 clear hi264_1 hl264_1
 have HR264_2 := Aside0.mk hi264_2
 have HC264_2 := Aside0.mk hl264_2
 clear hi264_2 hl264_2
 replace p264 := eq_true p264
 replace q264 := eq_true q264
 go_enter Tryd.func97, Tryd.ntmps97
 go_wp2_with (first | ((with_reducible refine gate_callee (f := 158) rfl ?_); refine gL_ (some 11) rfl rfl Tryd.func158 #[] rfl ?_; (with_reducible refine (spec_l17Signs.calls  t265 _ A2.out).mono ?_); rintro e w' ⟨rfl, ⟨nd, rfl⟩⟩; refine ⟨_, rfl, ?_⟩))
 go_loopg [3, 5] k (fun kq v3 v5 w' => ∃ (x3_1 : ByteArray) (x5_1 : Int), v3 = .string x3_1 ∧ v5 = .int .i64 x5_1 ∧ Aside0 (spec_l17Text.l0 kq l0 x3_1 t265 x5_1 = some r) ∧ Aside0 (kq ≤ k) ∧ Aside0 (Below w.heap.size w w'))
 case atStart => exact ⟨((rd_T39 l0 0).f0), (0), tq, tq, H', ⟨Nat.le_refl _⟩, ⟨tH HB⟩⟩
 case round =>
 clear H'
 try clear c1
 try clear c2
 try clear p2
 try clear q2
 try clear hx2
 try clear qi2
 try clear hx264_0
 try clear hx264_1
 try clear hx264_2
 try clear p264
 try clear q264
 obtain ⟨x3_1, x5_1, rfl, rfl, HA, HK1, HB⟩ := hrel
 cases gk with
 | zero => exact absurd HA.out (by simp [spec_l17Text.l0])
 | succ k1 =>
 have H := HA.out
 clear HA
 simp only [spec_l17Text.l0] at H
 by_cases c3 : x5_1 < (((rd_T39 l0 0).f1).length : Int)
 · rw [if_pos c3] at H
   have c3b0 : decide (x5_1 < (((rd_T39 l0 0).f1).length : Int)) = true := decide_eq_true c3
   clear c3
   by_cases c4 : 0 ≤ x5_1
   · rw [if_pos c4] at H
     have c4b0 : decide (0 ≤ x5_1) = true := decide_eq_true c4
     clear c4
     by_cases c5 : x5_1 < (((rd_T39 l0 0).f2).length : Int)
     · rw [if_pos c5] at H
       have c5b0 : decide (x5_1 < (((rd_T39 l0 0).f2).length : Int)) = true := decide_eq_true c5
       clear c5
       replace H := Option.bind_eq_some_iff.mp H
       obtain ⟨t271, A60, H⟩ := H
       replace H : (if 1 + t271.size ≤ 9223372036854775807 then (if 0 ≤ (rd ((rd_T39 l0 0).f2) x5_1) then (if (rd ((rd_T39 l0 0).f2) x5_1) ≤ (wrap64 ((rd ((rd_T39 l0 0).f2) x5_1) + 1)) then (if (wrap64 ((rd ((rd_T39 l0 0).f2) x5_1) + 1)) ≤ (t265.size : Int) then (if ((⟨#[32]⟩ : ByteArray) ++ t271).size + (t265.extract ((rd ((rd_T39 l0 0).f2) x5_1) : Int).toNat ((wrap64 ((rd ((rd_T39 l0 0).f2) x5_1) + 1)) : Int).toNat).size ≤ 9223372036854775807 then (if x3_1.size + (((⟨#[32]⟩ : ByteArray) ++ t271) ++ (t265.extract ((rd ((rd_T39 l0 0).f2) x5_1) : Int).toNat ((wrap64 ((rd ((rd_T39 l0 0).f2) x5_1) + 1)) : Int).toNat)).size ≤ 9223372036854775807 then (spec_l17Text.l0 k1 l0 (x3_1 ++ (((⟨#[32]⟩ : ByteArray) ++ t271) ++ (t265.extract ((rd ((rd_T39 l0 0).f2) x5_1) : Int).toNat ((wrap64 ((rd ((rd_T39 l0 0).f2) x5_1) + 1)) : Int).toNat))) t265 (wrap64 (x5_1 + 1))) else (none)) else (none)) else (none)) else (none)) else (none)) else (none)) = some r := H
       have A6 := Aside0.mk A60
       clear A60
       by_cases c7 : 1 + t271.size ≤ 9223372036854775807
       · rw [if_pos c7] at H
         have c7b0 := eq_true c7
         have c7b1 : decide (1 + t271.size ≤ 9223372036854775807) = true := decide_eq_true c7
         try have c7b2 : (9223372036854775807 < 1 + t271.size) = False := eq_false (Nat.not_lt.2 c7)
         by_cases c8 : 0 ≤ (rd ((rd_T39 l0 0).f2) x5_1)
         · rw [if_pos c8] at H
           have c8b0 := eq_true c8
           have c8b1 : decide (0 ≤ (rd ((rd_T39 l0 0).f2) x5_1)) = true := decide_eq_true c8
           clear c8
           by_cases c9 : (rd ((rd_T39 l0 0).f2) x5_1) ≤ (wrap64 ((rd ((rd_T39 l0 0).f2) x5_1) + 1))
           · rw [if_pos c9] at H
             have c9b0 := eq_true c9
             have c9b1 : decide ((rd ((rd_T39 l0 0).f2) x5_1) ≤ (wrap64 ((rd ((rd_T39 l0 0).f2) x5_1) + 1))) = true := decide_eq_true c9
             by_cases c10 : (wrap64 ((rd ((rd_T39 l0 0).f2) x5_1) + 1)) ≤ (t265.size : Int)
             · rw [if_pos c10] at H
               have c10b0 := eq_true c10
               have c10b1 : decide ((wrap64 ((rd ((rd_T39 l0 0).f2) x5_1) + 1)) ≤ (t265.size : Int)) = true := decide_eq_true c10
               by_cases c11 : ((⟨#[32]⟩ : ByteArray) ++ t271).size + (t265.extract ((rd ((rd_T39 l0 0).f2) x5_1) : Int).toNat ((wrap64 ((rd ((rd_T39 l0 0).f2) x5_1) + 1)) : Int).toNat).size ≤ 9223372036854775807
               · rw [if_pos c11] at H
                 have c11b0 := eq_true c11
                 have c11b1 : decide (((⟨#[32]⟩ : ByteArray) ++ t271).size + (t265.extract ((rd ((rd_T39 l0 0).f2) x5_1) : Int).toNat ((wrap64 ((rd ((rd_T39 l0 0).f2) x5_1) + 1)) : Int).toNat).size ≤ 9223372036854775807) = true := decide_eq_true c11
                 try have c11b2 : (9223372036854775807 < ((⟨#[32]⟩ : ByteArray) ++ t271).size + (t265.extract ((rd ((rd_T39 l0 0).f2) x5_1) : Int).toNat ((wrap64 ((rd ((rd_T39 l0 0).f2) x5_1) + 1)) : Int).toNat).size) = False := eq_false (Nat.not_lt.2 c11)
                 (try (have c11b3 := decide_eq_false (Nat.not_lt.2 c11); simp only [ByteArray.size_append, ByteArray.size_extract, Nat.min_def, Int.toNat_le, if_true, show ∀ b : UInt8, (⟨#[b]⟩ : ByteArray).size = 1 from fun _ => rfl, *] at c11b3; have c11b4 := eq_false (of_decide_eq_false c11b3); clear c11b3))
                 by_cases c12 : x3_1.size + (((⟨#[32]⟩ : ByteArray) ++ t271) ++ (t265.extract ((rd ((rd_T39 l0 0).f2) x5_1) : Int).toNat ((wrap64 ((rd ((rd_T39 l0 0).f2) x5_1) + 1)) : Int).toNat)).size ≤ 9223372036854775807
                 · rw [if_pos c12] at H
                   have c12b0 := eq_true c12
                   have c12b1 : decide (x3_1.size + (((⟨#[32]⟩ : ByteArray) ++ t271) ++ (t265.extract ((rd ((rd_T39 l0 0).f2) x5_1) : Int).toNat ((wrap64 ((rd ((rd_T39 l0 0).f2) x5_1) + 1)) : Int).toNat)).size ≤ 9223372036854775807) = true := decide_eq_true c12
                   try have c12b2 : (9223372036854775807 < x3_1.size + (((⟨#[32]⟩ : ByteArray) ++ t271) ++ (t265.extract ((rd ((rd_T39 l0 0).f2) x5_1) : Int).toNat ((wrap64 ((rd ((rd_T39 l0 0).f2) x5_1) + 1)) : Int).toNat)).size) = False := eq_false (Nat.not_lt.2 c12)
                   (try (have c12b3 := decide_eq_false (Nat.not_lt.2 c12); simp only [ByteArray.size_append, ByteArray.size_extract, Nat.min_def, Int.toNat_le, if_true, show ∀ b : UInt8, (⟨#[b]⟩ : ByteArray).size = 1 from fun _ => rfl, *] at c12b3; have c12b4 := eq_false (of_decide_eq_false c12b3); clear c12b3))
                   have H' := Aside0.mk H
                   clear H
                   have p266 : 0 ≤ (0 : Int) := (by omega)
                   have q266 : 0 < (l0.length : Int) := of_decide_eq_true tA
                   obtain ⟨ad266, A266_1, c266_1, A266_2, c266_2, e266, hx266_0, hx266_1, hx266_2, hl266_1, hi266_1, hl266_2, hi266_2⟩ := at_T39 HR0.out 0 p266 q266
                   obtain rfl : ad264 = ad266 := (by injection e266)
                   have qi266 : (0 < l0.length) = True := eq_true (by omega)
                   (try rw [t0n] at hx266_0)
                   (try rw [show 0 * 3 = 0 from rfl] at hx266_0)
                   (try rw [Addr.add_zero'] at hx266_0)
                   (try rw [t0n] at hx266_1)
                   (try rw [show 0 * 3 = 0 from rfl] at hx266_1)
                   (try rw [Addr.add_zero'] at hx266_1)
                   (try rw [t0n] at hx266_2)
                   (try rw [show 0 * 3 = 0 from rfl] at hx266_2)
                   (try rw [Addr.add_zero'] at hx266_2)
                   replace hx266_0 := tW HB hx266_0
                   replace hx266_1 := tW HB hx266_1
                   replace hx266_2 := tW HB hx266_2
                   have HR266_1 := Aside0.mk hi266_1
                   have HC266_1 := Aside0.mk hl266_1
                   clear hi266_1 hl266_1
                   have HR266_2 := Aside0.mk hi266_2
                   have HC266_2 := Aside0.mk hl266_2
                   clear hi266_2 hl266_2
                   replace p266 := eq_true p266
                   replace q266 := eq_true q266
                   have p267 : 0 ≤ (0 : Int) := (by omega)
                   have q267 : 0 < (l0.length : Int) := of_decide_eq_true tA
                   obtain ⟨ad267, A267_1, c267_1, A267_2, c267_2, e267, hx267_0, hx267_1, hx267_2, hl267_1, hi267_1, hl267_2, hi267_2⟩ := at_T39 HR0.out 0 p267 q267
                   obtain rfl : ad264 = ad267 := (by injection e267)
                   have qi267 : (0 < l0.length) = True := eq_true (by omega)
                   (try rw [t0n] at hx267_0)
                   (try rw [show 0 * 3 = 0 from rfl] at hx267_0)
                   (try rw [Addr.add_zero'] at hx267_0)
                   (try rw [t0n] at hx267_1)
                   (try rw [show 0 * 3 = 0 from rfl] at hx267_1)
                   (try rw [Addr.add_zero'] at hx267_1)
                   (try rw [t0n] at hx267_2)
                   (try rw [show 0 * 3 = 0 from rfl] at hx267_2)
                   (try rw [Addr.add_zero'] at hx267_2)
                   replace hx267_0 := tW HB hx267_0
                   replace hx267_1 := tW HB hx267_1
                   replace hx267_2 := tW HB hx267_2
                   have HR267_1 := Aside0.mk hi267_1
                   have HC267_1 := Aside0.mk hl267_1
                   clear hi267_1 hl267_1
                   have HR267_2 := Aside0.mk hi267_2
                   have HC267_2 := Aside0.mk hl267_2
                   clear hi267_2 hl267_2
                   replace p267 := eq_true p267
                   replace q267 := eq_true q267
                   have ea_ := Option.some.inj (hx266_1.symm.trans hx267_1)
                   injection ea_ with ea_ en_ ec_
                   subst ea_
                   subst ec_
                   clear en_
                   have ea_ := Option.some.inj (hx266_2.symm.trans hx267_2)
                   injection ea_ with ea_ en_ ec_
                   subst ea_
                   subst ec_
                   clear en_
                   have p268 : 0 ≤ (x5_1 : Int) := of_decide_eq_true tA
                   have q268 : x5_1 < (((rd_T39 l0 0).f2).length : Int) := of_decide_eq_true tA
                   obtain ⟨ad268, e268, hx268_0⟩ := Kd.at_int HR267_2.out x5_1 p268 q268
                   cases e268
                   replace hx268_0 := tW HB hx268_0
                   replace p268 := eq_true p268
                   replace q268 := eq_true q268
                   try go_wp2
                   replace HB := Aside0.mk (below_drew1 HB.out)
                   have p269 : 0 ≤ (0 : Int) := (by omega)
                   have q269 : 0 < (l0.length : Int) := of_decide_eq_true tA
                   obtain ⟨ad269, A269_1, c269_1, A269_2, c269_2, e269, hx269_0, hx269_1, hx269_2, hl269_1, hi269_1, hl269_2, hi269_2⟩ := at_T39 HR0.out 0 p269 q269
                   have hw269_2 := hx269_2
                   (try rw [t0n] at hw269_2)
                   (try rw [show 0 * 3 = 0 from rfl] at hw269_2)
                   (try rw [Addr.add_zero'] at hw269_2)
                   have hw269_1 := hx269_1
                   (try rw [t0n] at hw269_1)
                   (try rw [show 0 * 3 = 0 from rfl] at hw269_1)
                   (try rw [Addr.add_zero'] at hw269_1)
                   have hw269_0 := hx269_0
                   (try rw [t0n] at hw269_0)
                   (try rw [show 0 * 3 = 0 from rfl] at hw269_0)
                   (try rw [Addr.add_zero'] at hw269_0)
                   obtain rfl : ad264 = ad269 := (by injection e269)
                   have qi269 : (0 < l0.length) = True := eq_true (by omega)
                   (try rw [t0n] at hx269_0)
                   (try rw [show 0 * 3 = 0 from rfl] at hx269_0)
                   (try rw [Addr.add_zero'] at hx269_0)
                   (try rw [t0n] at hx269_1)
                   (try rw [show 0 * 3 = 0 from rfl] at hx269_1)
                   (try rw [Addr.add_zero'] at hx269_1)
                   (try rw [t0n] at hx269_2)
                   (try rw [show 0 * 3 = 0 from rfl] at hx269_2)
                   (try rw [Addr.add_zero'] at hx269_2)
                   replace hx269_0 := tW HB hx269_0
                   replace hx269_1 := tW HB hx269_1
                   replace hx269_2 := tW HB hx269_2
                   have HR269_1 := Aside0.mk hi269_1
                   have HC269_1 := Aside0.mk hl269_1
                   clear hi269_1 hl269_1
                   have HR269_2 := Aside0.mk hi269_2
                   have HC269_2 := Aside0.mk hl269_2
                   clear hi269_2 hl269_2
                   replace p269 := eq_true p269
                   replace q269 := eq_true q269
                   have p270 : 0 ≤ (x5_1 : Int) := of_decide_eq_true tA
                   have q270 : x5_1 < (((rd_T39 l0 0).f1).length : Int) := of_decide_eq_true tA
                   obtain ⟨ad270, e270, hx270_0⟩ := Kd.at_int HR269_1.out x5_1 p270 q270
                   have hw270_0 := hx270_0
                   cases e270
                   replace hx270_0 := tW HB hx270_0
                   replace p270 := eq_true p270
                   replace q270 := eq_true q270
                   refine start_ (n := 18) (S := fun w' => w'.cell? ad264 = some (.string ((rd_T39 l0 0).f0)) ∧ w'.cell? ⟨ad264.block, ad264.off + 1, none⟩ = some (.slice (some ad270) ((rd_T39 l0 0).f1).length c269_1) ∧ w'.cell? ⟨ad264.block, ad264.off + 2, none⟩ = some (.slice A269_2 ((rd_T39 l0 0).f2).length c269_2) ∧ w'.cell? (ad270.add (x5_1).toNat) = some (.int .i64 (rd ((rd_T39 l0 0).f1) x5_1))) (ds := []) (bq [0, 18]) (by kernel_rfl) rfl rfl ⟨(tW HB hw269_0), (tW HB hw269_1), (tW HB hw269_2), (tW HB hw270_0)⟩ (fun hHeld => ?_); refine with_tabW spec_l17Text.tab7 spec_l17Text.bits7 (fun HT_ HW_ => ?_)
                   generalize wr.drew = w13 at HB HR269_1 HR269_2 hx269_0 hx269_1 hx269_2 hx270_0 hHeld ⊢
                   refine pV 0 (some 28) [1, 17] rfl rfl HT_ ?_
                   refine pV 1 (some 29) [2, 16] rfl rfl HT_ ?_
                   refine pV 2 (some 30) [3, 15] rfl rfl HT_ ?_
                   refine pV 3 (some 31) [4, 14] rfl rfl HT_ ?_
                   refine pV 5 (some 33) [4, 1, 1, 12] rfl rfl HT_ ?_
                   refine pV 10 (some 38) [4, 1, 1, 4, 1, 7] rfl rfl HT_ ?_
                   refine pV 11 (some 39) [4, 1, 1, 4, 2, 6] rfl rfl HT_ ?_
                   refine pV 12 (some 40) [4, 1, 1, 4, 3, 5] rfl rfl HT_ ?_
                   refine pV 13 (some 41) [4, 1, 1, 4, 4, 4] rfl rfl HT_ ?_
                   refine pV 14 (some 42) [4, 1, 1, 4, 5, 3] rfl rfl HT_ ?_
                   refine pT 4 (some 32) (bq [6, 4, 5, 3]) rfl rfl HT_ HW_ hHeld ?_
                   refine pV 6 (some 34) [7, 3, 5, 3] rfl rfl HT_ ?_
                   refine pT 7 (some 35) (bq [8, 2, 5, 3]) rfl rfl HT_ HW_ hHeld ?_
                   refine pO 8 (some 36) (bq [9, 1, 5, 3]) rfl rfl HT_ (fun K hK => ?_)
                   refine gS_ Tryd.func151 #[.int .i64 (rd ((rd_T39 l0 0).f1) x5_1)] rfl rfl ?_
                   with_reducible refine (spec_l01Dec.calls k1 (rd ((rd_T39 l0 0).f1) x5_1) t271 _ A6.out).mono ?_
                   rintro e w14 ⟨rfl, hb⟩
                   refine ⟨_, rfl, ?_⟩
                   replace HB := Aside0.mk (below_step (tH HB) hb)
                   (try clear hb)
                   (try clear hb2)
                   (try clear hk)
                   (try clear hi)
                   refine hK.out _ _ ⟨(tW HB hw269_0), (tW HB hw269_1), (tW HB hw269_2), (tW HB hw270_0)⟩ (fun hHeld => ?_)
                   clear hK K
                   refine nO (some 36) ?_
                   refine pV 9 (some 37) [15, 3] rfl rfl HT_ ?_
                   refine pV 15 (some 43) [16, 2] rfl rfl HT_ ?_
                   refine pV 16 (some 44) [17, 1] rfl rfl HT_ ?_
                   refine pV 17 (some 3) [18] rfl rfl HT_ ?_
                   refine done_ (done_of HT_.out (by kernel_rfl)) ?_
                   try go_wp2
                   go_roundg k1
                   case measure => have := HK1.out; omega
                   case rel => exact ⟨(x3_1 ++ (((⟨#[32]⟩ : ByteArray) ++ t271) ++ (t265.extract ((rd ((rd_T39 l0 0).f2) x5_1) : Int).toNat ((wrap64 ((rd ((rd_T39 l0 0).f2) x5_1) + 1)) : Int).toNat))), (wrap64 (x5_1 + 1)), tq, tq, H', ⟨by have := HK1.out; omega⟩, ⟨tH HB⟩⟩
                 rw [if_neg c12] at H
                 exact absurd H (by simp)
               rw [if_neg c11] at H
               exact absurd H (by simp)
             rw [if_neg c10] at H
             exact absurd H (by simp)
           rw [if_neg c9] at H
           exact absurd H (by simp)
         rw [if_neg c8] at H
         exact absurd H (by simp)
       rw [if_neg c7] at H
       exact absurd H (by simp)
     rw [if_neg c5] at H
     exact absurd H (by simp)
   rw [if_neg c4] at H
   exact absurd H (by simp)
 rw [if_neg c3] at H
 have c3b0 : decide (x5_1 < (((rd_T39 l0 0).f1).length : Int)) = false := decide_eq_false c3
 clear c3
 obtain rfl := Option.some.inj H
 have p266 : 0 ≤ (0 : Int) := (by omega)
 have q266 : 0 < (l0.length : Int) := of_decide_eq_true tA
 obtain ⟨ad266, A266_1, c266_1, A266_2, c266_2, e266, hx266_0, hx266_1, hx266_2, hl266_1, hi266_1, hl266_2, hi266_2⟩ := at_T39 HR0.out 0 p266 q266
 obtain rfl : ad264 = ad266 := (by injection e266)
 have qi266 : (0 < l0.length) = True := eq_true (by omega)
 (try rw [t0n] at hx266_0)
 (try rw [show 0 * 3 = 0 from rfl] at hx266_0)
 (try rw [Addr.add_zero'] at hx266_0)
 (try rw [t0n] at hx266_1)
 (try rw [show 0 * 3 = 0 from rfl] at hx266_1)
 (try rw [Addr.add_zero'] at hx266_1)
 (try rw [t0n] at hx266_2)
 (try rw [show 0 * 3 = 0 from rfl] at hx266_2)
 (try rw [Addr.add_zero'] at hx266_2)
 replace hx266_0 := tW HB hx266_0
 replace hx266_1 := tW HB hx266_1
 replace hx266_2 := tW HB hx266_2
 have HR266_1 := Aside0.mk hi266_1
 have HC266_1 := Aside0.mk hl266_1
 clear hi266_1 hl266_1
 have HR266_2 := Aside0.mk hi266_2
 have HC266_2 := Aside0.mk hl266_2
 clear hi266_2 hl266_2
 replace p266 := eq_true p266
 replace q266 := eq_true q266
 go_wp2
 go_ret
 exact ⟨tE, tH HB⟩

end Go.Proofs.YtmeflmlejcmckaaDoor.PS
