-- WRITTEN BY wip/gprint.py, a program of this session's over the kit's print, with contracts given by hand
import Derived.Test.YtbedlmlofnphkaaPOx0
import Derived.Test.YtbedlmlofnphkaaPOx4
import Derived.Test.YtbedlmlofnphkaaPOx7
namespace Go.Proofs.Ytbedlmlofnphkaa.PO
open Go.RowKit Go.Proofs.YtbedlmlofnphkaaW.PrintWords Go.Proofs.YtbedlmlofnphkaaW.PrintLast Go.Proofs.YtbedlmlofnphkaaW.PrintMore
attribute [local go_sem] max2_int min2_int max_two min_two max_three min_three max_four min_four   -- for this text's walks alone
set_option linter.unusedVariables false
set_option linter.unusedSimpArgs false

/-! ### impl_NumberedScale: function 55 -/
mutual
def impl_NumberedScale.j0 : Nat → Int → Int → Bool → Option (List Int × Int)
 | 0, _, _, _ => none
 | k + 1, x0, x1, x20 => if x20 = true then (some (([] : List Int), 2)) else (impl_NumberedScale.l0 k x0 x1 (([0] : List Int)))
def impl_NumberedScale.l0 : Nat → Int → Int → List Int → Option (List Int × Int)
 | 0, _, _, _ => none
 | k + 1, x0, x1, x6 => if (x6.length : Int) < x0 then (if 0 ≤ (wrap64 ((x6.length : Int) - 1)) then (if (wrap64 ((x6.length : Int) - 1)) < (x6.length : Int) then (impl_NumberedScale.l1 k x0 x1 x6 (wrap64 ((rd x6 (wrap64 ((x6.length : Int) - 1))) + 1)) (wrap64 ((wrap64 (x0 - 1)) - (x6.length : Int)))) else (none)) else (none)) else (some (x6, 0))
def impl_NumberedScale.l1 : Nat → Int → Int → List Int → Int → Int → Option (List Int × Int)
 | 0, _, _, _, _, _ => none
 | k + 1, x0, x1, x6, x7, x8 => (impl_choose.f k (wrap64 (11 - x7)) x8).bind fun t206 => (if x1 ≥ t206 then ((impl_choose.f k (wrap64 (11 - x7)) x8).bind fun t207 => (impl_NumberedScale.l1 k x0 (wrap64 (x1 - t207)) x6 (wrap64 (x7 + 1)) x8)) else (if x6.length < 17592186044416 then (impl_NumberedScale.l0 k x0 x1 (x6 ++ [x7])) else (none)))
end
def impl_NumberedScale.f (k : Nat) (a0 : Int) (a1 : Int) : Option (List Int × Int) := (impl_within.f a0 5 12).bind fun t199 => (if t199 = true then ((impl_choose.f k 11 (wrap64 (a0 - 1))).bind fun t200 => ((impl_within.f a1 0 (wrap64 (t200 - 1))).bind fun t201 => (impl_NumberedScale.j0 k a0 a1 (!t201)))) else (impl_NumberedScale.j0 k a0 a1 true))
theorem impl_NumberedScale.mono_l : ∀ k, (∀ y0 y1 y2, LeO (impl_NumberedScale.j0 k y0 y1 y2) (impl_NumberedScale.j0 (k + 1) y0 y1 y2)) ∧ (∀ y0 y1 y2, LeO (impl_NumberedScale.l0 k y0 y1 y2) (impl_NumberedScale.l0 (k + 1) y0 y1 y2)) ∧ (∀ y0 y1 y2 y3 y4, LeO (impl_NumberedScale.l1 k y0 y1 y2 y3 y4) (impl_NumberedScale.l1 (k + 1) y0 y1 y2 y3 y4))
 | 0 => ⟨fun _ _ _ r h => by simp [impl_NumberedScale.j0] at h, fun _ _ _ r h => by simp [impl_NumberedScale.l0] at h, fun _ _ _ _ _ r h => by simp [impl_NumberedScale.l1] at h⟩
 | k + 1 => by
  obtain ⟨ih0, ih1, ih2⟩ := impl_NumberedScale.mono_l k
  refine ⟨?_, ?_, ?_⟩
  all_goals (intros; (first | unfold impl_NumberedScale.j0 | unfold impl_NumberedScale.l0 | unfold impl_NumberedScale.l1); repeat' first
   | (with_reducible exact ih0 _ _ _)
   | (with_reducible exact ih1 _ _ _)
   | (with_reducible exact ih2 _ _ _ _ _)
   | (with_reducible exact impl_choose.mono _ _ _)
   | (with_reducible exact LeO.refl _)
   | (with_reducible exact LeO.none _)
   | (with_reducible refine LeO.ite ?_ ?_)
   | (with_reducible refine LeO.bind ?_ (fun _ => ?_))
   | exact ih0 _ _ _
   | exact ih1 _ _ _
   | exact ih2 _ _ _ _ _
   | exact impl_choose.mono _ _ _
   | exact LeO.none _
   | refine LeO.ite ?_ ?_
   | refine LeO.bind ?_ (fun _ => ?_))
theorem impl_NumberedScale.mono : ∀ a0 a1 k, LeO (impl_NumberedScale.f k a0 a1) (impl_NumberedScale.f (k + 1) a0 a1) := by
 intro a0 a1 k
 obtain ⟨ih0, ih1, ih2⟩ := impl_NumberedScale.mono_l k
 unfold impl_NumberedScale.f
 repeat' first
  | (with_reducible exact ih0 _ _ _)
  | (with_reducible exact ih1 _ _ _)
  | (with_reducible exact ih2 _ _ _ _ _)
  | (with_reducible exact impl_choose.mono _ _ _)
  | (with_reducible exact LeO.refl _)
  | (with_reducible exact LeO.none _)
  | (with_reducible refine LeO.ite ?_ ?_)
  | (with_reducible refine LeO.bind ?_ (fun _ => ?_))
  | exact ih0 _ _ _
  | exact ih1 _ _ _
  | exact ih2 _ _ _ _ _
  | exact impl_choose.mono _ _ _
  | exact LeO.none _
  | refine LeO.ite ?_ ?_
  | refine LeO.bind ?_ (fun _ => ?_)
set_option maxHeartbeats 8000000 in
set_option maxRecDepth 100000 in
theorem impl_NumberedScale.calls (k : Nat) (a0 : Int) (a1 : Int) (r1 : List Int) (r2 : Int) (w : World) (h : impl_NumberedScale.f k a0 a1 = some (r1, r2)) :
 Calls Try.prog 55 #[.int .i64 a0, .int .i64 a1] w fun e w' => ∃ v0_ : Value, e = .returned (.tuple #[v0_, .int .i64 r2]) ∧ Kd.R (Kd.int .i64) 2 w' w.heap.size (fun _ => True) v0_ r1 ∧ Below w.heap.size w w' := by
 have HB := Aside0.mk (Below.refl w.heap.size w)
 have H : ((impl_within.f a0 5 12).bind fun t199 => (if t199 = true then ((impl_choose.f k 11 (wrap64 (a0 - 1))).bind fun t200 => ((impl_within.f a1 0 (wrap64 (t200 - 1))).bind fun t201 => (impl_NumberedScale.j0 k a0 a1 (!t201)))) else (impl_NumberedScale.j0 k a0 a1 true))) = some (r1, r2) := h
 clear h
 have HC3 := Aside0.mk H
 clear H
 go_enter Try.func55, Try.ntmps55
 go_upto_region 1 with (fail)
 go_cut [20] (fun v20 wc => ∃ (kq : Nat) (x20_2 : Bool), v20 = .bool x20_2 ∧ Aside0 (impl_NumberedScale.j0 kq a0 a1 x20_2 = some (r1, r2)) ∧ Aside0 (kq ≤ k) ∧ Aside0 (Below w.heap.size w wc))
 case first =>
  have H := HC3.out
  clear HC3
  replace H := Option.bind_eq_some_iff.mp H
  obtain ⟨t199, A40, H⟩ := H
  replace H : (if t199 = true then ((impl_choose.f k 11 (wrap64 (a0 - 1))).bind fun t200 => ((impl_within.f a1 0 (wrap64 (t200 - 1))).bind fun t201 => (impl_NumberedScale.j0 k a0 a1 (!t201)))) else (impl_NumberedScale.j0 k a0 a1 true)) = some (r1, r2) := H
  have A4 := Aside0.mk A40
  clear A40
  by_cases c5 : t199 = true
  · subst c5
    have H1 : ((impl_choose.f k 11 (wrap64 (a0 - 1))).bind fun t200 => ((impl_within.f a1 0 (wrap64 (t200 - 1))).bind fun t201 => (impl_NumberedScale.j0 k a0 a1 (!t201)))) = some (r1, r2) := by rw [if_pos rfl] at H; exact H
    clear H
    have H := H1
    clear H1
    replace H := Option.bind_eq_some_iff.mp H
    obtain ⟨t200, A60, H⟩ := H
    replace H : ((impl_within.f a1 0 (wrap64 (t200 - 1))).bind fun t201 => (impl_NumberedScale.j0 k a0 a1 (!t201))) = some (r1, r2) := H
    have A6 := Aside0.mk A60
    clear A60
    replace H := Option.bind_eq_some_iff.mp H
    obtain ⟨t201, A70, H⟩ := H
    replace H : (impl_NumberedScale.j0 k a0 a1 (!t201)) = some (r1, r2) := H
    have A7 := Aside0.mk A70
    clear A70
    have H' := Aside0.mk H
    clear H
    go_wp2_with (first | ((with_reducible refine gate_callee (f := 117) rfl ?_); refine gL_ (some 10) rfl rfl Try.func117 #[.int .i64 a0, .int .i64 5, .int .i64 12] rfl ?_; (with_reducible refine (impl_within.calls a0 5 12 true _ A4.out).mono ?_); rintro e w' ⟨rfl, ⟨nd, rfl⟩⟩; refine ⟨_, rfl, ?_⟩) | (go_at_call 160; (with_reducible refine (impl_choose.calls k 11 (wrap64 (a0 - 1)) t200 _ A6.out).mono ?_); rintro e w' ⟨rfl, ⟨nd, rfl⟩⟩) | (go_at_call 117; (with_reducible refine (impl_within.calls a1 0 (wrap64 (t200 - 1)) t201 _ A7.out).mono ?_); rintro e w' ⟨rfl, ⟨nd, rfl⟩⟩))
    go_meet
    case rel => exact ⟨_, (!t201), tq, H', ⟨by first | omega | exact Nat.le_refl _⟩, ⟨tH HB⟩⟩
  replace c5 := Bool.eq_false_iff.mpr c5
  subst c5
  have H1 : (impl_NumberedScale.j0 k a0 a1 true) = some (r1, r2) := by rw [if_neg (show ¬ (false = true) by decide)] at H; exact H
  clear H
  have H := H1
  clear H1
  have H' := Aside0.mk H
  clear H
  go_wp2_with (first | ((with_reducible refine gate_callee (f := 117) rfl ?_); refine gL_ (some 10) rfl rfl Try.func117 #[.int .i64 a0, .int .i64 5, .int .i64 12] rfl ?_; (with_reducible refine (impl_within.calls a0 5 12 false _ A4.out).mono ?_); rintro e w' ⟨rfl, ⟨nd, rfl⟩⟩; refine ⟨_, rfl, ?_⟩))
  go_meet
  case rel => exact ⟨_, (true), tq, H', ⟨by first | omega | exact Nat.le_refl _⟩, ⟨tH HB⟩⟩
 case rest =>
 clear HC3
 try clear c1
 try clear p2
 try clear c5
 try clear p6
 obtain ⟨kq, x20_2, rfl, HA, HJ2, HB⟩ := hcut
 cases kq with
 | zero => exact absurd HA.out (by simp [impl_NumberedScale.j0])
 | succ kj2 =>
 have H := HA.out
 clear HA
 simp only [impl_NumberedScale.j0] at H
 by_cases c8 : x20_2 = true
 · subst c8
   have H1 : (some (([] : List Int), 2)) = some (r1, r2) := by rw [if_pos rfl] at H; exact H
   clear H
   have H := H1
   clear H1
   simp only [Option.some.injEq, Prod.mk.injEq] at H
   obtain ⟨rfl, rfl⟩ := H
   go_wp2
   go_ret2
   exact ⟨_, tE, by first | exact Kd.R_nil _ _ _ _ _ | exact Kd.N_nil _ _ _ _ _ | exact Kd.V_nil _ _ _ _ _ | exact Kd.Q_nil _ _ _ _ _ | exact Kd.S_nil _ _ _ _ _, tH HB⟩
 replace c8 := Bool.eq_false_iff.mpr c8
 subst c8
 have H1 : (impl_NumberedScale.l0 kj2 a0 a1 (([0] : List Int))) = some (r1, r2) := by rw [if_neg (show ¬ (false = true) by decide)] at H; exact H
 clear H
 have H := H1
 clear H1
 obtain ⟨y202, hy202⟩ : ∃ y_ : List Int, y_ = (([0] : List Int)) := ⟨_, rfl⟩
 replace H : (impl_NumberedScale.l0 kj2 a0 a1 y202) = some (r1, r2) := by first | (rw [hy202]; with_reducible exact H) | (have H2_ := (Option.bind_some _ _).symm.trans H; rw [hy202]; with_reducible exact H2_) | (have H2_ := (Option.bind_some _ _).symm.trans H; with_reducible exact H2_) | with_reducible exact H | (rw [hy202]; exact H) | exact H
 have Ny202 := Aside0.mk hy202
 clear hy202
 have H' := Aside0.mk H
 clear H
 go_wp2_with (first | ((with_reducible refine gate_dst (N := 21) rfl ?_); refine Kd.R_lit (Kd.int .i64) _ 2 ?hg (N := 21) ?hd (xs := ([0] : List Int)) (inner := [.int .i64 0]) (ok := fun _ => True) (okp := fun _ => True) ?hr ?hp (fun _ hk => hk) trivial (Below.refl _ _) (Nat.le_refl _) (by simp) ?_; (case hd => rfl); (case hg => rfl); (case hr => first | (go_simp; done) | (go_simp; rfl)); (case hp => exact (Reps.one (show Kd.M (Kd.int .i64) _ _ _ 0 [.int .i64 0] from rfl) (Reps.none _ _))); intro v203 w9 ho10 hb hg_ hnew_; clear hg_ hnew_; (first | rw [← Ny202.out] at ho10 | (simp only [Int.reduceToNat] at ho10; rw [← Ny202.out] at ho10)); have HO204 := Aside0.mk (Kd.R_lower ho10 (below_size (tH HB))); replace HB := Aside0.mk (below_step (tH HB) hb); clear hb ho10))
 go_loopg [1, 6] kj2 (fun kq v1 v6 w' => ∃ (x1_2 : Int) (x6_2 : List Int), v1 = .int .i64 x1_2 ∧ Aside0 (impl_NumberedScale.l0 kq a0 x1_2 x6_2 = some (r1, r2)) ∧ Aside0 (kq ≤ kj2) ∧ Aside0 (Kd.R (Kd.int .i64) 2 w' w.heap.size (fun _ => True) v6 x6_2) ∧ Aside0 (Below w.heap.size w w'))
 case atStart => exact ⟨(a1), (y202), tq, H', ⟨Nat.le_refl _⟩, ⟨tR HO204⟩, ⟨tH HB⟩⟩
 case round =>
 clear H'
 try clear c1
 try clear p2
 try clear c5
 try clear p6
 try clear c8
 try clear p2
 try clear p6
 obtain ⟨x1_2, x6_2, rfl, HA, HK2, HO_6, HB⟩ := hrel
 cases gk with
 | zero => exact absurd HA.out (by simp [impl_NumberedScale.l0])
 | succ k2 =>
 have H := HA.out
 clear HA
 simp only [impl_NumberedScale.l0] at H
 by_cases c11 : (x6_2.length : Int) < a0
 · rw [if_pos c11] at H
   have c11b0 : decide ((x6_2.length : Int) < a0) = true := decide_eq_true c11
   clear c11
   obtain ⟨ji12, hji12⟩ : ∃ j_ : Int, (wrap64 ((x6_2.length : Int) - 1)) = j_ := ⟨_, rfl⟩
   replace H : (if 0 ≤ (ji12) then (if (ji12) < (x6_2.length : Int) then (impl_NumberedScale.l1 k2 a0 x1_2 x6_2 (wrap64 ((rd x6_2 (ji12)) + 1)) (wrap64 ((wrap64 (a0 - 1)) - (x6_2.length : Int)))) else (none)) else (none)) = some (r1, r2) := by first | (rw [hji12] at H; exact H) | (simp only [hji12] at H ⊢; exact H)
   have hji12w : (IntKind.i64.wrap ((x6_2.length : Int) - 1)) = ji12 := (i64_w _).trans hji12
   by_cases c13 : 0 ≤ (ji12)
   · rw [if_pos c13] at H
     have c13b0 : decide (0 ≤ (ji12)) = true := decide_eq_true c13
     clear c13
     by_cases c14 : (ji12) < (x6_2.length : Int)
     · rw [if_pos c14] at H
       have c14b0 : decide ((ji12) < (x6_2.length : Int)) = true := decide_eq_true c14
       clear c14
       have H' := Aside0.mk H
       clear H
       obtain ⟨Ao15, co15, eo15⟩ := Kd.R_slice HO_6.out
       subst eo15
       have p205 : 0 ≤ ((ji12) : Int) := of_decide_eq_true tA
       have q205 : (ji12) < (x6_2.length : Int) := of_decide_eq_true tA
       obtain ⟨ad205, e205, hx205_0⟩ := Kd.at_int (Kd.R_reads' HO_6.out).2.2 (ji12) p205 q205
       cases e205
       replace p205 := eq_true p205
       replace q205 := eq_true q205
       go_wp2
       go_loopg [1, 7] k2 (fun kq v1 v7 w' => ∃ (x1_3 : Int) (x7_3 : Int), v1 = .int .i64 x1_3 ∧ v7 = .int .i64 x7_3 ∧ Aside0 (impl_NumberedScale.l1 kq a0 x1_3 x6_2 x7_3 (wrap64 ((wrap64 (a0 - 1)) - (x6_2.length : Int))) = some (r1, r2)) ∧ Aside0 (kq ≤ k2) ∧ Aside0 (Kd.R (Kd.int .i64) 2 w' w.heap.size (fun _ => True) (.slice (some ad205) x6_2.length co15) x6_2) ∧ Aside0 (Below w.heap.size w w'))
       case atStart => exact ⟨(x1_2), (wrap64 ((rd x6_2 (ji12)) + 1)), tq, (by first | rfl | (simp; done) | (simp only [← hji12] <;> (first | rfl | simp)) | (simp [*]; done)), H', ⟨Nat.le_refl _⟩, ⟨tR HO_6⟩, ⟨tH HB⟩⟩
       case round =>
       clear H'
       try clear c1
       try clear p2
       try clear q2
       try clear hx2
       try clear c5
       try clear p6
       try clear c8
       try clear c11
       try clear c11b0
       try clear c13
       try clear c13b0
       try clear c14
       try clear c14b0
       try clear hx205_0
       try clear p2
       try clear p205
       try clear p6
       try clear q205
       obtain ⟨x1_3, x7_3, rfl, rfl, HA, HK3, HO_6, HB⟩ := hrel
       cases gk with
       | zero => exact absurd HA.out (by simp [impl_NumberedScale.l1])
       | succ k3 =>
       have H := HA.out
       clear HA
       simp only [impl_NumberedScale.l1] at H
       replace H := Option.bind_eq_some_iff.mp H
       obtain ⟨t206, A160, H⟩ := H
       replace H : (if x1_3 ≥ t206 then ((impl_choose.f k3 (wrap64 (11 - x7_3)) (wrap64 ((wrap64 (a0 - 1)) - (x6_2.length : Int)))).bind fun t207 => (impl_NumberedScale.l1 k3 a0 (wrap64 (x1_3 - t207)) x6_2 (wrap64 (x7_3 + 1)) (wrap64 ((wrap64 (a0 - 1)) - (x6_2.length : Int))))) else (if x6_2.length < 17592186044416 then (impl_NumberedScale.l0 k3 a0 x1_3 (x6_2 ++ [x7_3])) else (none))) = some (r1, r2) := H
       have A16 := Aside0.mk A160
       clear A160
       by_cases c17 : x1_3 ≥ t206
       · rw [if_pos c17] at H
         have c17b0 : decide (t206 ≤ x1_3) = true := decide_eq_true c17
         clear c17
         replace H := Option.bind_eq_some_iff.mp H
         obtain ⟨t207, A180, H⟩ := H
         replace H : (impl_NumberedScale.l1 k3 a0 (wrap64 (x1_3 - t207)) x6_2 (wrap64 (x7_3 + 1)) (wrap64 ((wrap64 (a0 - 1)) - (x6_2.length : Int)))) = some (r1, r2) := H
         have A18 := Aside0.mk A180
         clear A180
         have H' := Aside0.mk H
         clear H
         go_wp2_with (first | ((with_reducible refine gate_callee (f := 160) rfl ?_); refine gL_ (some 42) rfl rfl Try.func160 #[.int .i64 (wrap64 (11 - x7_3)), .int .i64 (wrap64 ((wrap64 (a0 - 1)) - (x6_2.length : Int)))] rfl ?_; (with_reducible refine (impl_choose.calls k3 (wrap64 (11 - x7_3)) (wrap64 ((wrap64 (a0 - 1)) - (x6_2.length : Int))) t206 _ A16.out).mono ?_); rintro e w' ⟨rfl, ⟨nd, rfl⟩⟩; refine ⟨_, rfl, ?_⟩) | ((with_reducible refine gate_callee (f := 160) rfl ?_); refine gL_ (some 48) rfl rfl Try.func160 #[.int .i64 (wrap64 (11 - x7_3)), .int .i64 (wrap64 ((wrap64 (a0 - 1)) - (x6_2.length : Int)))] rfl ?_; (with_reducible refine (impl_choose.calls k3 (wrap64 (11 - x7_3)) (wrap64 ((wrap64 (a0 - 1)) - (x6_2.length : Int))) t207 _ A18.out).mono ?_); rintro e w' ⟨rfl, ⟨nd, rfl⟩⟩; refine ⟨_, rfl, ?_⟩))
         go_roundg k3
         case measure => have := HJ2.out; have := HK2.out; have := HK3.out; omega
         case rel => exact ⟨(wrap64 (x1_3 - t207)), (wrap64 (x7_3 + 1)), tq, tq, H', ⟨by have := HJ2.out; have := HK2.out; have := HK3.out; omega⟩, ⟨tR HO_6⟩, ⟨tH HB⟩⟩
       rw [if_neg c17] at H
       have c17b0 : decide (t206 ≤ x1_3) = false := decide_eq_false c17
       clear c17
       by_cases c19 : x6_2.length < 17592186044416
       · rw [if_pos c19] at H
         have LMc19 := Aside0.mk c19
         clear c19
         obtain ⟨y208, hy208⟩ : ∃ y_ : List Int, y_ = (x6_2 ++ [x7_3]) := ⟨_, rfl⟩
         replace H : (impl_NumberedScale.l0 k3 a0 x1_3 y208) = some (r1, r2) := by first | (rw [hy208]; with_reducible exact H) | (have H2_ := (Option.bind_some _ _).symm.trans H; rw [hy208]; with_reducible exact H2_) | (have H2_ := (Option.bind_some _ _).symm.trans H; with_reducible exact H2_) | with_reducible exact H | (rw [hy208]; exact H) | exact H
         have Ny208 := Aside0.mk hy208
         clear hy208
         have H' := Aside0.mk H
         clear H
         go_wp2_with (first | ((with_reducible refine gate_callee (f := 160) rfl ?_); refine gL_ (some 42) rfl rfl Try.func160 #[.int .i64 (wrap64 (11 - x7_3)), .int .i64 (wrap64 ((wrap64 (a0 - 1)) - (x6_2.length : Int)))] rfl ?_; (with_reducible refine (impl_choose.calls k3 (wrap64 (11 - x7_3)) (wrap64 ((wrap64 (a0 - 1)) - (x6_2.length : Int))) t206 _ A16.out).mono ?_); rintro e w' ⟨rfl, ⟨nd, rfl⟩⟩; refine ⟨_, rfl, ?_⟩) | ((with_reducible refine gate_builtin (b := .append) (xs := #[.tmp 52, .tmp 54]) rfl ?_); at_builtin; refine Kd.R_append (Kd.int .i64) (w0 := w) w.heap.size rfl (.tmp 52) (.tmp 54) 24 2 (.int .i64 0) 8 rfl Try.underlying24 info2 rfl (by decide) (by omega) (.slice (some ad205) x6_2.length co15) x6_2 x7_3 [.int .i64 x7_3] (fun _ => True) (fun _ => False) rfl rfl ?aP (fun _ hk => hk.elim) ?aF ?aO ?aB ?aS ?aL ?_; (case aP => exact rfl); (case aB => exact (tH HB)); (case aF => exact (fun _ _ => trivial)); (case aO => exact (tR HO_6)); (case aS => exact (below_size (tH HB))); (case aL => have := LMc19.out; omega); intro v209 w20 ho hb hg hat; rw [← Ny208.out] at ho; replace HB := Aside0.mk (hb); have HO210 := Aside0.mk (ho); clear HO_6; clear ho hb hg hat))
         go_roundg k3
         case measure => have := HJ2.out; have := HK2.out; have := HK3.out; omega
         case rel => exact ⟨(x1_3), (y208), tq, H', ⟨by have := HJ2.out; have := HK2.out; have := HK3.out; omega⟩, ⟨tR HO210⟩, ⟨tH HB⟩⟩
       rw [if_neg c19] at H
       exact absurd H (by simp)
     rw [if_neg c14] at H
     exact absurd H (by simp)
   rw [if_neg c13] at H
   exact absurd H (by simp)
 rw [if_neg c11] at H
 have c11b0 : decide ((x6_2.length : Int) < a0) = false := decide_eq_false c11
 clear c11
 simp only [Option.some.injEq, Prod.mk.injEq] at H
 obtain ⟨rfl, rfl⟩ := H
 obtain ⟨Ao21, co21, eo21⟩ := Kd.R_slice HO_6.out
 subst eo21
 go_wp2
 go_ret2
 exact ⟨_, tE, tR HO_6, tH HB⟩

end Go.Proofs.Ytbedlmlofnphkaa.PO
