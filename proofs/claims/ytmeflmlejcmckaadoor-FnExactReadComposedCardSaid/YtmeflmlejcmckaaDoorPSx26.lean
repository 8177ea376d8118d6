-- WRITTEN BY wip/gprint.py, a program of this session's over the kit's print, with contracts given by hand
import Derived.Test.YtmeflmlejcmckaaDoorPSx0
import Derived.Test.YtmeflmlejcmckaaDoorPSx1
import Derived.Test.YtmeflmlejcmckaaDoorPSx6
namespace Go.Proofs.YtmeflmlejcmckaaDoor.PS
open Go.RowKit Go.Proofs.YtmeflmlejcmckaaDoorW.PrintWords Go.Proofs.YtmeflmlejcmckaaDoorW.PrintLast Go.Proofs.YtmeflmlejcmckaaDoorW.PrintMore
attribute [local go_sem] max2_int min2_int max_two min_two max_three min_three max_four min_four   -- for this text's walks alone
set_option linter.unusedVariables false
set_option linter.unusedSimpArgs false

/-! ### spec_l18Find: function 162 -/
def spec_l18Find.l0 : Nat → List (S118) → ByteArray → Int → Option (Int)
 | 0, _, _, _ => none
 | k + 1, x0, x1, x5 => if x5 < (x0.length : Int) then (if 0 ≤ x5 then (if ((rd_T118 x0 x5).f0).toList = x1.toList then (some x5) else (spec_l18Find.l0 k x0 x1 (wrap64 (x5 + 1)))) else (none)) else (some (-1))
def spec_l18Find.f (k : Nat) (l0 : List (S118)) (a1 : ByteArray) : Option (Int) := spec_l18Find.l0 k l0 a1 0
theorem spec_l18Find.mono_l : ∀ k, (∀ y0 y1 y2, LeO (spec_l18Find.l0 k y0 y1 y2) (spec_l18Find.l0 (k + 1) y0 y1 y2))
 | 0 => fun _ _ _ r h => by simp [spec_l18Find.l0] at h
 | k + 1 => by
  have ih0 := spec_l18Find.mono_l k
  · intro y0 y1 y2
    unfold spec_l18Find.l0
    repeat' first
    | (with_reducible exact ih0 _ _ _)
    | (with_reducible exact LeO.refl _)
    | (with_reducible exact LeO.none _)
    | (with_reducible refine LeO.ite ?_ ?_)
    | (with_reducible refine LeO.bind ?_ (fun _ => ?_))
    | exact ih0 _ _ _
    | exact LeO.none _
    | refine LeO.ite ?_ ?_
    | refine LeO.bind ?_ (fun _ => ?_)
theorem spec_l18Find.mono : ∀ a0 a1 k, LeO (spec_l18Find.f k a0 a1) (spec_l18Find.f (k + 1) a0 a1) := by
 intro a0 a1 k
 have ih0 := spec_l18Find.mono_l k
 unfold spec_l18Find.f
 repeat' first
  | (with_reducible exact ih0 _ _ _)
  | (with_reducible exact LeO.refl _)
  | (with_reducible exact LeO.none _)
  | (with_reducible refine LeO.ite ?_ ?_)
  | (with_reducible refine LeO.bind ?_ (fun _ => ?_))
  | exact ih0 _ _ _
  | exact LeO.none _
  | refine LeO.ite ?_ ?_
  | refine LeO.bind ?_ (fun _ => ?_)
set_option maxHeartbeats 8000000 in
set_option maxRecDepth 100000 in
theorem spec_l18Find.calls (k : Nat) (A0 : Option Addr) (c0 : Nat) (l0 : List (S118)) (a1 : ByteArray) (r : Int) (w : World) (hr0 : Kd.C k118 w A0 l0.length l0) (hc0 : l0.length ≤ c0) (h : spec_l18Find.f k l0 a1 = some r) :
 Calls Tryd.prog 162 #[.slice A0 l0.length c0, .string a1] w fun e w' => e = .returned (.int .i64 r) ∧ Drawn0 w w' := by
 have HR0 := Aside0.mk hr0
 have HC0 := Aside0.mk hc0
 clear hr0 hc0
 have H : (spec_l18Find.l0 k l0 a1 0) = some r := h
 clear h
 have H' := Aside0.mk H
 clear H
 go_enter Tryd.func162, Tryd.ntmps162
 go_wp2
 go_loopg [5] k (fun kq v5 w' => ∃ (x5_1 : Int), v5 = .int .i64 x5_1 ∧ Aside0 (spec_l18Find.l0 kq l0 a1 x5_1 = some r) ∧ Aside0 (kq ≤ k) ∧ Drawn0 w w')
 case atStart => exact ⟨(0), tq, H', ⟨Nat.le_refl _⟩, tZ⟩
 case round =>
 clear H'
 try clear c1
 try clear p2
 obtain ⟨x5_1, rfl, HA, HK1, ⟨m1, rfl⟩⟩ := hrel
 cases gk with
 | zero => exact absurd HA.out (by simp [spec_l18Find.l0])
 | succ k1 =>
 have H := HA.out
 clear HA
 simp only [spec_l18Find.l0] at H
 by_cases c3 : x5_1 < (l0.length : Int)
 · rw [if_pos c3] at H
   have c3b0 : decide (x5_1 < (l0.length : Int)) = true := decide_eq_true c3
   clear c3
   by_cases c4 : 0 ≤ x5_1
   · rw [if_pos c4] at H
     have c4b0 : decide (0 ≤ x5_1) = true := decide_eq_true c4
     clear c4
     by_cases c5 : ((rd_T118 l0 x5_1).f0).toList = a1.toList
     · rw [if_pos c5] at H
       have c5b0 : (((rd_T118 l0 x5_1).f0).toList == a1.toList) = true := beq_iff_eq.mpr c5
       have c5b1 : (((rd_T118 l0 x5_1).f0).toList != a1.toList) = false := bne_eq_false_iff_eq.mpr c5
       clear c5
       obtain rfl := Option.some.inj H
       have p338 : 0 ≤ (x5_1 : Int) := of_decide_eq_true tA
       have q338 : x5_1 < (l0.length : Int) := of_decide_eq_true tA
       obtain ⟨ad338, e338, hx338_0, hx338_1, hx338_2⟩ := at_T118 HR0.out x5_1 p338 q338
       cases e338
       replace p338 := eq_true p338
       replace q338 := eq_true q338
       go_wp2
       go_ret
       exact ⟨by first | rfl | (simp; done) | (simp [*]; done), tZ⟩
     rw [if_neg c5] at H
     have c5b0 : (((rd_T118 l0 x5_1).f0).toList == a1.toList) = false := beq_eq_false_iff_ne.mpr c5
     have c5b1 : (((rd_T118 l0 x5_1).f0).toList != a1.toList) = true := bne_iff_ne.mpr c5
     have H' := Aside0.mk H
     clear H
     have p338 : 0 ≤ (x5_1 : Int) := of_decide_eq_true tA
     have q338 : x5_1 < (l0.length : Int) := of_decide_eq_true tA
     obtain ⟨ad338, e338, hx338_0, hx338_1, hx338_2⟩ := at_T118 HR0.out x5_1 p338 q338
     cases e338
     replace p338 := eq_true p338
     replace q338 := eq_true q338
     go_wp2
     go_roundg k1
     case measure => have := HK1.out; omega
     case rel => exact ⟨(wrap64 (x5_1 + 1)), tq, H', ⟨by have := HK1.out; omega⟩, tZ⟩
   rw [if_neg c4] at H
   exact absurd H (by simp)
 rw [if_neg c3] at H
 have c3b0 : decide (x5_1 < (l0.length : Int)) = false := decide_eq_false c3
 clear c3
 obtain rfl := Option.some.inj H
 go_wp2
 go_ret
 exact ⟨by first | rfl | (simp; done) | (simp [*]; done), tZ⟩

/-! ### spec_l18Parse: function 101 -/
def spec_l18Parse.l0 : Nat → List (S118) → List Int → List ByteArray → Int → Option (List Int × Bool)
 | 0, _, _, _, _ => none
 | k + 1, x0, x6, x7, x8 => if x8 < (x7.length : Int) then (if 0 ≤ x8 then ((spec_l18Find.f k x0 (rdOf ByteArray.empty x7 x8)).bind fun t346 => (if t346 < 0 then (some (([] : List Int), false)) else (if x6.length < 17592186044416 then (spec_l18Parse.l0 k x0 (x6 ++ [t346]) x7 (wrap64 (x8 + 1))) else (none)))) else (none)) else (some (x6, decide ((x6.length : Int) ≤ 64)))
def spec_l18Parse.f (k : Nat) (l0 : List (S118)) (a1 : ByteArray) : Option (List Int × Bool) := (some (([] : List Int) : List Int)).bind fun y339 => (if a1.toList = ([] : List UInt8) then (some (y339, true)) else ((spec_l01Split.f k a1 32).bind fun t342 => (spec_l18Parse.l0 k l0 y339 t342 0)))
theorem spec_l18Parse.mono_l : ∀ k, (∀ y0 y1 y2 y3, LeO (spec_l18Parse.l0 k y0 y1 y2 y3) (spec_l18Parse.l0 (k + 1) y0 y1 y2 y3))
 | 0 => fun _ _ _ _ r h => by simp [spec_l18Parse.l0] at h
 | k + 1 => by
  have ih0 := spec_l18Parse.mono_l k
  · intro y0 y1 y2 y3
    unfold spec_l18Parse.l0
    repeat' first
    | (with_reducible exact ih0 _ _ _ _)
    | (with_reducible exact spec_l01Split.mono _ _ _)
    | (with_reducible exact spec_l18Find.mono _ _ _)
    | (with_reducible exact LeO.refl _)
    | (with_reducible exact LeO.none _)
    | (with_reducible refine LeO.ite ?_ ?_)
    | (with_reducible refine LeO.bind ?_ (fun _ => ?_))
    | exact ih0 _ _ _ _
    | exact spec_l01Split.mono _ _ _
    | exact spec_l18Find.mono _ _ _
    | exact LeO.none _
    | refine LeO.ite ?_ ?_
    | refine LeO.bind ?_ (fun _ => ?_)
theorem spec_l18Parse.mono : ∀ a0 a1 k, LeO (spec_l18Parse.f k a0 a1) (spec_l18Parse.f (k + 1) a0 a1) := by
 intro a0 a1 k
 have ih0 := spec_l18Parse.mono_l k
 unfold spec_l18Parse.f
 repeat' first
  | (with_reducible exact ih0 _ _ _ _)
  | (with_reducible exact spec_l01Split.mono _ _ _)
  | (with_reducible exact spec_l18Find.mono _ _ _)
  | (with_reducible exact LeO.refl _)
  | (with_reducible exact LeO.none _)
  | (with_reducible refine LeO.ite ?_ ?_)
  | (with_reducible refine LeO.bind ?_ (fun _ => ?_))
  | exact ih0 _ _ _ _
  | exact spec_l01Split.mono _ _ _
  | exact spec_l18Find.mono _ _ _
  | exact LeO.none _
  | refine LeO.ite ?_ ?_
  | refine LeO.bind ?_ (fun _ => ?_)
set_option maxHeartbeats 8000000 in
set_option maxRecDepth 100000 in
theorem spec_l18Parse.calls (k : Nat) (A0 : Option Addr) (c0 : Nat) (l0 : List (S118)) (a1 : ByteArray) (r1 : List Int) (r2 : Bool) (w : World) (hr0 : Kd.C k118 w A0 l0.length l0) (hc0 : l0.length ≤ c0) (h : spec_l18Parse.f k l0 a1 = some (r1, r2)) :
 Calls Tryd.prog 101 #[.slice A0 l0.length c0, .string a1] w fun e w' => ∃ v0_ : Value, e = .returned (.tuple #[v0_, .bool r2]) ∧ Kd.R (Kd.int .i64) 2 w' w.heap.size (fun _ => True) v0_ r1 ∧ Below w.heap.size w w' := by
 have HR0 := Aside0.mk hr0
 have HC0 := Aside0.mk hc0
 clear hr0 hc0
 have HB := Aside0.mk (Below.refl w.heap.size w)
 have H : ((some (([] : List Int) : List Int)).bind fun y339 => (if a1.toList = ([] : List UInt8) then (some (y339, true)) else ((spec_l01Split.f k a1 32).bind fun t342 => (spec_l18Parse.l0 k l0 y339 t342 0)))) = some (r1, r2) := h
 clear h
 obtain ⟨y339, hy339⟩ : ∃ y_ : List Int, y_ = (([] : List Int)) := ⟨_, rfl⟩
 replace H : (if a1.toList = ([] : List UInt8) then (some (y339, true)) else ((spec_l01Split.f k a1 32).bind fun t342 => (spec_l18Parse.l0 k l0 y339 t342 0))) = some (r1, r2) := by first | (rw [hy339]; with_reducible exact H) | (have H2_ := (Option.bind_some _ _).symm.trans H; rw [hy339]; with_reducible exact H2_) | (have H2_ := (Option.bind_some _ _).symm.trans H; with_reducible exact H2_) | with_reducible exact H | (rw [hy339]; exact H) | exact H
 have Ny339 := Aside0.mk hy339
 clear hy339
 by_cases c3 : a1.toList = ([] : List UInt8)
 · rw [if_pos c3] at H
   have c3b0 : (a1.toList == ([] : List UInt8)) = true := beq_iff_eq.mpr c3
   have c3b1 : (a1.toList != ([] : List UInt8)) = false := bne_eq_false_iff_eq.mpr c3
   clear c3
   simp only [Option.some.injEq, Prod.mk.injEq] at H
   obtain ⟨rfl, rfl⟩ := H
   go_enter Tryd.func101, Tryd.ntmps101
   go_wp2_with (first | ((with_reducible refine gate_dst (N := 10) rfl ?_); refine Kd.R_lit (Kd.int .i64) _ 2 ?hg (N := 10) ?hd (xs := ([] : List Int)) (inner := []) (ok := fun _ => True) (okp := fun _ => True) ?hr ?hp (fun _ hk => hk) trivial (Below.refl _ _) (Nat.le_refl _) (by simp) ?_; (case hd => rfl); (case hg => rfl); (case hr => first | (go_simp; done) | (go_simp; rfl)); (case hp => exact (Reps.none _ _)); intro v340 w4 ho5 hb hg_ hnew_; clear hg_ hnew_; (first | rw [← Ny339.out] at ho5 | (simp only [Int.reduceToNat] at ho5; rw [← Ny339.out] at ho5)); have HO341 := Aside0.mk (Kd.R_lower ho5 (below_size (tH HB))); replace HB := Aside0.mk (below_step (tH HB) hb); clear hb ho5))
   go_ret2
   exact ⟨_, tE, tR HO341, tH HB⟩
 rw [if_neg c3] at H
 have c3b0 : (a1.toList == ([] : List UInt8)) = false := beq_eq_false_iff_ne.mpr c3
 have c3b1 : (a1.toList != ([] : List UInt8)) = true := bne_iff_ne.mpr c3
 replace H := Option.bind_eq_some_iff.mp H
 obtain ⟨t342, A60, H⟩ := H
 replace H : (spec_l18Parse.l0 k l0 y339 t342 0) = some (r1, r2) := H
 have A6 := Aside0.mk A60
 clear A60
 have H' := Aside0.mk H
 clear H
 go_enter Tryd.func101, Tryd.ntmps101
 go_wp2_with (first | ((with_reducible refine gate_dst (N := 10) rfl ?_); refine Kd.R_lit (Kd.int .i64) _ 2 ?hg (N := 10) ?hd (xs := ([] : List Int)) (inner := []) (ok := fun _ => True) (okp := fun _ => True) ?hr ?hp (fun _ hk => hk) trivial (Below.refl _ _) (Nat.le_refl _) (by simp) ?_; (case hd => rfl); (case hg => rfl); (case hr => first | (go_simp; done) | (go_simp; rfl)); (case hp => exact (Reps.none _ _)); intro v340 w7 ho8 hb hg_ hnew_; clear hg_ hnew_; (first | rw [← Ny339.out] at ho8 | (simp only [Int.reduceToNat] at ho8; rw [← Ny339.out] at ho8)); have HO341 := Aside0.mk (Kd.R_lower ho8 (below_size (tH HB))); replace HB := Aside0.mk (below_step (tH HB) hb); clear hb ho8) | ((with_reducible refine gate_callee (f := 84) rfl ?_); refine gL_ (some 15) rfl rfl Tryd.func84 #[.string a1, .int .u8 32] rfl ?_; (with_reducible refine (spec_l01Split.calls k a1 32 t342 _ A6.out).mono ?_); rintro e w9 ⟨v343, rfl, ho0, hb⟩; refine ⟨_, rfl, ?_⟩; replace HO341 := Aside0.mk (Kd.R_below (tR HO341) hb); have HO344 := Aside0.mk (Kd.R_lower ho0 (below_size (tH HB))); replace HB := Aside0.mk (below_step (tH HB) hb); (try clear hb); (try clear hb2); (try clear hk); (try clear hi); (try clear ho0)))
 go_loopg [6, 8] k (fun kq v6 v8 w' => ∃ (x6_1 : List Int) (x8_1 : Int), v8 = .int .i64 x8_1 ∧ Aside0 (spec_l18Parse.l0 kq l0 x6_1 t342 x8_1 = some (r1, r2)) ∧ Aside0 (kq ≤ k) ∧ Aside0 (Kd.R (Kd.int .i64) 2 w' w.heap.size (fun _ => True) v6 x6_1) ∧ Aside0 (Kd.R Kd.string 9 w' w.heap.size (fun _ => True) v343 t342) ∧ Aside0 (Below w.heap.size w w'))
 case atStart => exact ⟨(y339), (0), tq, H', ⟨Nat.le_refl _⟩, ⟨tR HO341⟩, ⟨tR HO344⟩, ⟨tH HB⟩⟩
 case round =>
 clear H'
 try clear c1
 try clear p2
 try clear c3
 try clear c3b0
 try clear c3b1
 try clear c8
 obtain ⟨x6_1, x8_1, rfl, HA, HK1, HO_6, HO_7, HB⟩ := hrel
 cases gk with
 | zero => exact absurd HA.out (by simp [spec_l18Parse.l0])
 | succ k1 =>
 have H := HA.out
 clear HA
 simp only [spec_l18Parse.l0] at H
 by_cases c10 : x8_1 < (t342.length : Int)
 · rw [if_pos c10] at H
   have c10b0 : decide (x8_1 < (t342.length : Int)) = true := decide_eq_true c10
   clear c10
   by_cases c11 : 0 ≤ x8_1
   · rw [if_pos c11] at H
     have c11b0 : decide (0 ≤ x8_1) = true := decide_eq_true c11
     clear c11
     replace H := Option.bind_eq_some_iff.mp H
     obtain ⟨t346, A120, H⟩ := H
     replace H : (if t346 < 0 then (some (([] : List Int), false)) else (if x6_1.length < 17592186044416 then (spec_l18Parse.l0 k1 l0 (x6_1 ++ [t346]) t342 (wrap64 (x8_1 + 1))) else (none))) = some (r1, r2) := H
     have A12 := Aside0.mk A120
     clear A120
     by_cases c13 : t346 < 0
     · rw [if_pos c13] at H
       have c13b0 : decide (t346 < 0) = true := decide_eq_true c13
       clear c13
       simp only [Option.some.injEq, Prod.mk.injEq] at H
       obtain ⟨rfl, rfl⟩ := H
       obtain ⟨Ao14, co14, eo14⟩ := Kd.R_slice HO_7.out
       subst eo14
       have p345 : 0 ≤ (x8_1 : Int) := of_decide_eq_true tA
       have q345 : x8_1 < (t342.length : Int) := of_decide_eq_true tA
       obtain ⟨ad345, e345, hx345_0⟩ := Kd.at_string (Kd.R_reads' HO_7.out).2.2 x8_1 p345 q345
       cases e345
       replace p345 := eq_true p345
       replace q345 := eq_true q345
       go_wp2_with (first | ((with_reducible refine gate_callee (f := 162) rfl ?_); refine gL_ (some 27) rfl rfl Tryd.func162 #[.slice A0 l0.length c0, .string (rdOf ByteArray.empty t342 x8_1)] rfl ?_; (with_reducible refine (spec_l18Find.calls k1 _ _ l0 (rdOf ByteArray.empty t342 x8_1) t346 _ ?side1 ?side2 A12.out).mono ?_); (case side1 => exact tC (Kd.C_below HR0.out HB.out)); (case side2 => exact HC0.out); rintro e w' ⟨rfl, ⟨nd, rfl⟩⟩; refine ⟨_, rfl, ?_⟩))
       go_ret2
       exact ⟨_, tE, by first | exact Kd.R_nil _ _ _ _ _ | exact Kd.N_nil _ _ _ _ _ | exact Kd.V_nil _ _ _ _ _ | exact Kd.Q_nil _ _ _ _ _ | exact Kd.S_nil _ _ _ _ _, tH HB⟩
     rw [if_neg c13] at H
     have c13b0 : decide (t346 < 0) = false := decide_eq_false c13
     clear c13
     by_cases c15 : x6_1.length < 17592186044416
     · rw [if_pos c15] at H
       have LMc15 := Aside0.mk c15
       clear c15
       obtain ⟨y347, hy347⟩ : ∃ y_ : List Int, y_ = (x6_1 ++ [t346]) := ⟨_, rfl⟩
       replace H : (spec_l18Parse.l0 k1 l0 y347 t342 (wrap64 (x8_1 + 1))) = some (r1, r2) := by first | (rw [hy347]; with_reducible exact H) | (have H2_ := (Option.bind_some _ _).symm.trans H; rw [hy347]; with_reducible exact H2_) | (have H2_ := (Option.bind_some _ _).symm.trans H; with_reducible exact H2_) | with_reducible exact H | (rw [hy347]; exact H) | exact H
       have Ny347 := Aside0.mk hy347
       clear hy347
       have H' := Aside0.mk H
       clear H
       obtain ⟨Ao16, co16, eo16⟩ := Kd.R_slice HO_7.out
       subst eo16
       have p345 : 0 ≤ (x8_1 : Int) := of_decide_eq_true tA
       have q345 : x8_1 < (t342.length : Int) := of_decide_eq_true tA
       obtain ⟨ad345, e345, hx345_0⟩ := Kd.at_string (Kd.R_reads' HO_7.out).2.2 x8_1 p345 q345
       cases e345
       replace p345 := eq_true p345
       replace q345 := eq_true q345
       go_wp2_with (first | ((with_reducible refine gate_callee (f := 162) rfl ?_); refine gL_ (some 27) rfl rfl Tryd.func162 #[.slice A0 l0.length c0, .string (rdOf ByteArray.empty t342 x8_1)] rfl ?_; (with_reducible refine (spec_l18Find.calls k1 _ _ l0 (rdOf ByteArray.empty t342 x8_1) t346 _ ?side1 ?side2 A12.out).mono ?_); (case side1 => exact tC (Kd.C_below HR0.out HB.out)); (case side2 => exact HC0.out); rintro e w' ⟨rfl, ⟨nd, rfl⟩⟩; refine ⟨_, rfl, ?_⟩) | ((with_reducible refine gate_builtin (b := .append) (xs := #[.tmp 30, .tmp 32]) rfl ?_); at_builtin; refine Kd.R_append (Kd.int .i64) (w0 := w) w.heap.size rfl (.tmp 30) (.tmp 32) 34 2 (.int .i64 0) 8 rfl Tryd.underlying34 info2 rfl (by decide) (by omega) u6 x6_1 t346 [.int .i64 t346] (fun _ => True) (fun _ => False) rfl rfl ?aP (fun _ hk => hk.elim) ?aF ?aO ?aB ?aS ?aL ?_; (case aP => exact rfl); (case aB => exact (tH HB)); (case aF => exact (fun _ _ => trivial)); (case aO => exact (tR HO_6)); (case aS => exact (below_size (tH HB))); (case aL => have := LMc15.out; omega); intro v348 w17 ho hb hg hat; rw [← Ny347.out] at ho; replace HO_7 := Aside0.mk (Kd.R_over' (tR HO_7) (Kd.R_typed (tR HO_6)) (by decide) hg); replace HB := Aside0.mk (hb); have HO349 := Aside0.mk (ho); clear HO_6; clear ho hb hg hat))
       go_roundg k1
       case measure => have := HK1.out; omega
       case rel => exact ⟨(y347), (wrap64 (x8_1 + 1)), tq, H', ⟨by have := HK1.out; omega⟩, ⟨tR HO349⟩, ⟨tR HO_7⟩, ⟨tH HB⟩⟩
     rw [if_neg c15] at H
     exact absurd H (by simp)
   rw [if_neg c11] at H
   exact absurd H (by simp)
 rw [if_neg c10] at H
 have c10b0 : decide (x8_1 < (t342.length : Int)) = false := decide_eq_false c10
 clear c10
 simp only [Option.some.injEq, Prod.mk.injEq] at H
 obtain ⟨rfl, rfl⟩ := H
 obtain ⟨Ao18, co18, eo18⟩ := Kd.R_slice HO_7.out
 subst eo18
 obtain ⟨Ao19, co19, eo19⟩ := Kd.R_slice HO_6.out
 subst eo19
 go_wp2
 go_ret2
 exact ⟨_, tE, tR HO_6, tH HB⟩

/-! ### spec_ReadComposed: function 27 -/
def spec_ReadComposed.f (k : Nat) (l0 : List (S118)) (a1 : ByteArray) : Option (List Int × Int) := (spec_l18Ok.f k l0).bind fun t350 => (if t350 = true then ((spec_l18Parse.f k l0 a1).bind fun bt351 => (if bt351.2 = true then (some (bt351.1, 0)) else (some (([] : List Int), 8)))) else (some (([] : List Int), 1)))
theorem spec_ReadComposed.mono : ∀ a0 a1 k, LeO (spec_ReadComposed.f k a0 a1) (spec_ReadComposed.f (k + 1) a0 a1) := by
 intro a0 a1 k
 unfold spec_ReadComposed.f
 repeat' first
  | (with_reducible exact spec_l18Ok.mono _ _)
  | (with_reducible exact spec_l18Parse.mono _ _ _)
  | (with_reducible exact LeO.refl _)
  | (with_reducible exact LeO.none _)
  | (with_reducible refine LeO.ite ?_ ?_)
  | (with_reducible refine LeO.bind ?_ (fun _ => ?_))
  | exact spec_l18Ok.mono _ _
  | exact spec_l18Parse.mono _ _ _
  | exact LeO.none _
  | refine LeO.ite ?_ ?_
  | refine LeO.bind ?_ (fun _ => ?_)
set_option maxHeartbeats 8000000 in
set_option maxRecDepth 100000 in
theorem spec_ReadComposed.calls (k : Nat) (A0 : Option Addr) (c0 : Nat) (l0 : List (S118)) (a1 : ByteArray) (r1 : List Int) (r2 : Int) (w : World) (hr0 : Kd.C k118 w A0 l0.length l0) (hc0 : l0.length ≤ c0) (h : spec_ReadComposed.f k l0 a1 = some (r1, r2)) :
 Calls Tryd.prog 27 #[.slice A0 l0.length c0, .string a1] w fun e w' => ∃ v0_ : Value, e = .returned (.tuple #[v0_, .int .i64 r2]) ∧ Kd.R (Kd.int .i64) 2 w' w.heap.size (fun _ => True) v0_ r1 ∧ Below w.heap.size w w' := by
 have HR0 := Aside0.mk hr0
 have HC0 := Aside0.mk hc0
 clear hr0 hc0
 have HB := Aside0.mk (Below.refl w.heap.size w)
 have H : ((spec_l18Ok.f k l0).bind fun t350 => (if t350 = true then ((spec_l18Parse.f k l0 a1).bind fun bt351 => (if bt351.2 = true then (some (bt351.1, 0)) else (some (([] : List Int), 8)))) else (some (([] : List Int), 1)))) = some (r1, r2) := h
 clear h
 replace H := Option.bind_eq_some_iff.mp H
 obtain ⟨t350, A30, H⟩ := H
 replace H : (if t350 = true then ((spec_l18Parse.f k l0 a1).bind fun bt351 => (if bt351.2 = true then (some (bt351.1, 0)) else (some (([] : List Int), 8)))) else (some (([] : List Int), 1))) = some (r1, r2) := H
 have A3 := Aside0.mk A30
 clear A30
 by_cases c4 : t350 = true
 · subst c4
   have H1 : ((spec_l18Parse.f k l0 a1).bind fun bt351 => (if bt351.2 = true then (some (bt351.1, 0)) else (some (([] : List Int), 8)))) = some (r1, r2) := by rw [if_pos rfl] at H; exact H
   clear H
   have H := H1
   clear H1
   replace H := Option.bind_eq_some_iff.mp H
   obtain ⟨⟨t351, t352⟩, A50, H⟩ := H
   replace H : (if t352 = true then (some (t351, 0)) else (some (([] : List Int), 8))) = some (r1, r2) := H
   have A5 := Aside0.mk A50
   clear A50
   by_cases c6 : t352 = true
   · subst c6
     have H1 : (some (t351, 0)) = some (r1, r2) := by rw [if_pos rfl] at H; exact H
     clear H
     have H := H1
     clear H1
     simp only [Option.some.injEq, Prod.mk.injEq] at H
     obtain ⟨rfl, rfl⟩ := H
     go_enter Tryd.func27, Tryd.ntmps27
     go_wp2_with (first | ((with_reducible refine gate_callee (f := 88) rfl ?_); refine gL_ (some 9) rfl rfl Tryd.func88 #[.slice A0 l0.length c0] rfl ?_; (with_reducible refine (spec_l18Ok.calls k _ _ l0 true _ ?side1 ?side2 A3.out).mono ?_); (case side1 => exact tC HR0.out); (case side2 => exact HC0.out); rintro e w' ⟨rfl, ⟨nd, rfl⟩⟩; refine ⟨_, rfl, ?_⟩) | ((with_reducible refine gate_callee (f := 101) rfl ?_); refine gL_ (some 14) rfl rfl Tryd.func101 #[.slice A0 l0.length c0, .string a1] rfl ?_; (with_reducible refine (spec_l18Parse.calls k _ _ l0 a1 t351 true _ ?side1 ?side2 A5.out).mono ?_); (case side1 => exact tC HR0.out); (case side2 => exact HC0.out); rintro e w7 ⟨v353, rfl, ho0, hb⟩; refine ⟨_, rfl, ?_⟩; have HO354 := Aside0.mk (Kd.R_lower ho0 (below_size (tH HB))); replace HB := Aside0.mk (below_step (tH HB) hb); (try clear hb); (try clear hb2); (try clear hk); (try clear hi); (try clear ho0)))
     go_ret2
     exact ⟨_, tE, tR HO354, tH HB⟩
   replace c6 := Bool.eq_false_iff.mpr c6
   subst c6
   have H1 : (some (([] : List Int), 8)) = some (r1, r2) := by rw [if_neg (show ¬ (false = true) by decide)] at H; exact H
   clear H
   have H := H1
   clear H1
   simp only [Option.some.injEq, Prod.mk.injEq] at H
   obtain ⟨rfl, rfl⟩ := H
   go_enter Tryd.func27, Tryd.ntmps27
   go_wp2_with (first | ((with_reducible refine gate_callee (f := 88) rfl ?_); refine gL_ (some 9) rfl rfl Tryd.func88 #[.slice A0 l0.length c0] rfl ?_; (with_reducible refine (spec_l18Ok.calls k _ _ l0 true _ ?side1 ?side2 A3.out).mono ?_); (case side1 => exact tC HR0.out); (case side2 => exact HC0.out); rintro e w' ⟨rfl, ⟨nd, rfl⟩⟩; refine ⟨_, rfl, ?_⟩) | ((with_reducible refine gate_callee (f := 101) rfl ?_); refine gL_ (some 14) rfl rfl Tryd.func101 #[.slice A0 l0.length c0, .string a1] rfl ?_; (with_reducible refine (spec_l18Parse.calls k _ _ l0 a1 t351 false _ ?side1 ?side2 A5.out).mono ?_); (case side1 => exact tC HR0.out); (case side2 => exact HC0.out); rintro e w8 ⟨v353, rfl, ho0, hb⟩; refine ⟨_, rfl, ?_⟩; have HO354 := Aside0.mk (Kd.R_lower ho0 (below_size (tH HB))); replace HB := Aside0.mk (below_step (tH HB) hb); (try clear hb); (try clear hb2); (try clear hk); (try clear hi); (try clear ho0)))
   go_ret2
   exact ⟨_, tE, by first | exact Kd.R_nil _ _ _ _ _ | exact Kd.N_nil _ _ _ _ _ | exact Kd.V_nil _ _ _ _ _ | exact Kd.Q_nil _ _ _ _ _ | exact Kd.S_nil _ _ _ _ _, tH HB⟩
 replace c4 := Bool.eq_false_iff.mpr c4
 subst c4
 have H1 : (some (([] : List Int), 1)) = some (r1, r2) := by rw [if_neg (show ¬ (false = true) by decide)] at H; exact H
 clear H
 have H := H1
 clear H1
 simp only [Option.some.injEq, Prod.mk.injEq] at H
 obtain ⟨rfl, rfl⟩ := H
 go_enter Tryd.func27, Tryd.ntmps27
 go_wp2_with (first | ((with_reducible refine gate_callee (f := 88) rfl ?_); refine gL_ (some 9) rfl rfl Tryd.func88 #[.slice A0 l0.length c0] rfl ?_; (with_reducible refine (spec_l18Ok.calls k _ _ l0 false _ ?side1 ?side2 A3.out).mono ?_); (case side1 => exact tC HR0.out); (case side2 => exact HC0.out); rintro e w' ⟨rfl, ⟨nd, rfl⟩⟩; refine ⟨_, rfl, ?_⟩))
 go_ret2
 exact ⟨_, tE, by first | exact Kd.R_nil _ _ _ _ _ | exact Kd.N_nil _ _ _ _ _ | exact Kd.V_nil _ _ _ _ _ | exact Kd.Q_nil _ _ _ _ _ | exact Kd.S_nil _ _ _ _ _, tH HB⟩

/-! ### strings_SplitN: function 102 (a contract given by hand) -/
def strings_SplitN.f (a0 : ByteArray) (a1 : ByteArray) (a2 : Int) : Option (List ByteArray) := if a0.size < 4294967281 ∧ a1.size = 1 ∧ 1 ≤ a2 ∧ a2 ≤ 9223372036854775807 then some (Go.Lib.splitB a1 0 (min a2.toNat (a0.size + 1) - 1) a0) else none
set_option maxHeartbeats 8000000 in
set_option maxRecDepth 100000 in
theorem strings_SplitN.calls (a0 : ByteArray) (a1 : ByteArray) (a2 : Int) (r : List ByteArray) (w : World) (h : strings_SplitN.f a0 a1 a2 = some r) :
 Calls Tryd.prog 102 #[.string a0, .string a1, .int .i64 a2] w fun e w' => ∃ v0_ : Value, e = .returned (v0_) ∧ Kd.R Kd.string 9 w' w.heap.size (fun _ => True) v0_ r ∧ Below w.heap.size w w' := by
 unfold strings_SplitN.f at h
 split at h
 · rename_i hlim
   injection h with h
   subst h
   obtain ⟨hs, h1, hn1, hn2⟩ := hlim
   rw [one_sep a1 h1]
   generalize a1[0]'(by omega) = c
   clear h1 a1
   have hcall := genSplit_one a0 c a2 (min a2.toNat (a0.size + 1)) w hs (by omega) hn2 (by rw [if_neg (by omega)]; omega)
   have hR := splitR (Go.Lib.splitB ⟨#[c]⟩ 0 (min a2.toNat (a0.size + 1) - 1) a0) (min a2.toNat (a0.size + 1)) w (by have := splitB_length ⟨#[c]⟩ 0 (min a2.toNat (a0.size + 1) - 1) a0; omega) (by omega)
   have hb : Below w.heap.size w (w.alloc (.cells (Go.Lib.cellsOf (Go.Lib.splitB ⟨#[c]⟩ 0 (min a2.toNat (a0.size + 1) - 1) a0) (min a2.toNat (a0.size + 1))) 9)) := below_alloc (Below.refl _ _) _
   generalize Go.Lib.splitB ⟨#[c]⟩ 0 (min a2.toNat (a0.size + 1) - 1) a0 = L at hcall hR hb ⊢
   generalize min a2.toNat (a0.size + 1) = N at hcall hR hb ⊢
   generalize w.alloc (.cells (Go.Lib.cellsOf L N) 9) = w1 at hcall hR hb ⊢
   generalize w.heap.size = g at hcall hR hb ⊢
   generalize (⟨#[c]⟩ : ByteArray) = sp at hcall ⊢
   have HR := Aside0.mk hR
   have HB := Aside0.mk hb
   clear hR hb hs hn1 hn2
   go_enter Tryd.func102, Tryd.ntmps102
   go_wp2_with (go_at_call 148; refine hcall.mono ?_; rintro e w' ⟨rfl, rfl⟩)
   go_ret
   exact ⟨_, by first | rfl | (simp; done), HR.out, HB.out⟩
 cases h

-- NOT PRINTED: function 163 (impl_Syllable)

end Go.Proofs.YtmeflmlejcmckaaDoor.PS
