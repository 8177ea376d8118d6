-- WRITTEN BY wip/gprint.py, a program of this session's over the kit's print, with contracts given by hand
import Derived.Test.YtbedlmlofnphkaaPZx0
import Derived.Test.YtbedlmlofnphkaaPZx2
namespace Go.Proofs.Ytbedlmlofnphkaa.PZ
open Go.RowKit Go.Proofs.YtbedlmlofnphkaaW.PrintWords Go.Proofs.YtbedlmlofnphkaaW.PrintLast Go.Proofs.YtbedlmlofnphkaaW.PrintMore
attribute [local go_sem] max2_int min2_int max_two min_two max_three min_three max_four min_four   -- for this text's walks alone
set_option linter.unusedVariables false
set_option linter.unusedSimpArgs false

/-! ### spec_l05Two: function 265 -/
def spec_l05Two.j0 : Nat → ByteArray → Bool → Option (List Int × Bool)
 | 0, _, _ => none
 | k + 1, x0, x18 => if x18 = true then (some (([] : List Int), false)) else (if 0 < (x0.size : Int) then ((spec_l03Named.f k (bt x0 0)).bind fun t201 => (if 1 < (x0.size : Int) then ((spec_l03Named.f k (bt x0 1)).bind fun t202 => (some ((([t201, t202] : List Int)), true))) else (none))) else (none))
def spec_l05Two.f (k : Nat) (a0 : ByteArray) : Option (List Int × Bool) := if (a0.size : Int) = 2 then (if 0 < (a0.size : Int) then ((spec_l03Named.f k (bt a0 0)).bind fun t199 => (if t199 < 0 then (spec_l05Two.j0 k a0 true) else (if 1 < (a0.size : Int) then ((spec_l03Named.f k (bt a0 1)).bind fun t200 => (spec_l05Two.j0 k a0 (decide (t200 < 0)))) else (none)))) else (none)) else (spec_l05Two.j0 k a0 true)
theorem spec_l05Two.mono_l : ∀ k, (∀ y0 y1, LeO (spec_l05Two.j0 k y0 y1) (spec_l05Two.j0 (k + 1) y0 y1))
 | 0 => fun _ _ r h => by simp [spec_l05Two.j0] at h
 | k + 1 => by
  have ih0 := spec_l05Two.mono_l k
  · intro y0 y1
    unfold spec_l05Two.j0
    repeat' first
    | (with_reducible exact ih0 _ _)
    | (with_reducible exact spec_l03Named.mono _ _)
    | (with_reducible exact LeO.refl _)
    | (with_reducible exact LeO.none _)
    | (with_reducible refine LeO.ite ?_ ?_)
    | (with_reducible refine LeO.bind ?_ (fun _ => ?_))
    | exact ih0 _ _
    | exact spec_l03Named.mono _ _
    | exact LeO.none _
    | refine LeO.ite ?_ ?_
    | refine LeO.bind ?_ (fun _ => ?_)
theorem spec_l05Two.mono : ∀ a0 k, LeO (spec_l05Two.f k a0) (spec_l05Two.f (k + 1) a0) := by
 intro a0 k
 have ih0 := spec_l05Two.mono_l k
 unfold spec_l05Two.f
 repeat' first
  | (with_reducible exact ih0 _ _)
  | (with_reducible exact spec_l03Named.mono _ _)
  | (with_reducible exact LeO.refl _)
  | (with_reducible exact LeO.none _)
  | (with_reducible refine LeO.ite ?_ ?_)
  | (with_reducible refine LeO.bind ?_ (fun _ => ?_))
  | exact ih0 _ _
  | exact spec_l03Named.mono _ _
  | exact LeO.none _
  | refine LeO.ite ?_ ?_
  | refine LeO.bind ?_ (fun _ => ?_)
def spec_l05Two.T3 : Bool × List (List Nat × List Nat) := (true, [([], []), ([0], [0]), ([1], [1]), ([], []), ([3], [3]), ([4, 2], [4]), ([2, 5], [2, 5]), ([6, 5, 0, 1, 2, 3, 4, 5, 6], [6]), ([7, 0, 1, 2, 3, 4, 5, 6, 7], [])])
def spec_l05Two.B3 : List Nat := [0, 1, 3, 0, 8, 31, 63, 127, 255]
theorem spec_l05Two.tab3 : rtab .any (opsOf Try.f265 3) = spec_l05Two.T3 := by kernel_rfl
theorem spec_l05Two.bits3 : waitsOk spec_l05Two.T3.2 spec_l05Two.B3 = true := by kernel_rfl
set_option maxHeartbeats 8000000 in
set_option maxRecDepth 100000 in
theorem spec_l05Two.calls (k : Nat) (a0 : ByteArray) (r1 : List Int) (r2 : Bool) (w : World) (h : spec_l05Two.f k a0 = some (r1, r2)) :
 Calls Try.prog 265 #[.string a0] w fun e w' => ∃ v0_ : Value, e = .returned (.tuple #[v0_, .bool r2]) ∧ Kd.R (Kd.int .i64) 2 w' w.heap.size (fun _ => True) v0_ r1 ∧ Below w.heap.size w w' := by
 have HB := Aside0.mk (Below.refl w.heap.size w)
 have H : (if (a0.size : Int) = 2 then (if 0 < (a0.size : Int) then ((spec_l03Named.f k (bt a0 0)).bind fun t199 => (if t199 < 0 then (spec_l05Two.j0 k a0 true) else (if 1 < (a0.size : Int) then ((spec_l03Named.f k (bt a0 1)).bind fun t200 => (spec_l05Two.j0 k a0 (decide (t200 < 0)))) else (none)))) else (none)) else (spec_l05Two.j0 k a0 true)) = some (r1, r2) := h
 clear h
 have HC2 := Aside0.mk H
 clear H
 go_enter Try.func265, Try.ntmps265
 go_upto_region 1 with (fail)
 go_cut [18] (fun v18 wc => ∃ (kq : Nat) (x18_1 : Bool), v18 = .bool x18_1 ∧ Aside0 (spec_l05Two.j0 kq a0 x18_1 = some (r1, r2)) ∧ Aside0 (kq ≤ k) ∧ Aside0 (Below w.heap.size w wc))
 case first =>
  have H := HC2.out
  clear HC2
  by_cases c3 : (a0.size : Int) = 2
  · rw [if_pos c3] at H
    have c3b0 : ((a0.size : Int) == 2) = true := beq_iff_eq.mpr c3
    have c3b1 : ((a0.size : Int) != 2) = false := bne_eq_false_iff_eq.mpr c3
    clear c3
    (first | rw [c3b0] | (simp only [i64_w, i32_w]; rw [c3b0]) | skip)
    by_cases c4 : 0 < (a0.size : Int)
    · rw [if_pos c4] at H
      have c4b0 : decide (0 < (a0.size : Int)) = true := decide_eq_true c4
      have c4b1 : decide (0 < a0.size) = true := decide_eq_true (by omega)
      clear c4
      replace H := Option.bind_eq_some_iff.mp H
      obtain ⟨t199, A60, H⟩ := H
      replace H : (if t199 < 0 then (spec_l05Two.j0 k a0 true) else (if 1 < (a0.size : Int) then ((spec_l03Named.f k (bt a0 1)).bind fun t200 => (spec_l05Two.j0 k a0 (decide (t200 < 0)))) else (none))) = some (r1, r2) := H
      have A6 := Aside0.mk A60
      clear A60
      by_cases c7 : t199 < 0
      · rw [if_pos c7] at H
        have c7b0 : decide (t199 < 0) = true := decide_eq_true c7
        clear c7
        have H' := Aside0.mk H
        clear H
        have p5 : 0 ≤ (0 : Int) := (by omega)
        have q5 : 0 < a0.size := (by have : (0 : Int) < (a0.size : Int) := of_decide_eq_true tA; omega)
        have hx5 : ∀ h : 0 < a0.size, ((a0[0]'h).toNat : Int) = bt a0 0 := bt_at a0 0
        clear p5
        have qi5 : (0 < (a0.size : Int)) = True := eq_true (of_decide_eq_true tA)
        replace q5 := eq_true q5
        go_wp2_with (first | (go_at_call 289; (with_reducible refine (spec_l03Named.calls k (bt a0 0) t199 _ A6.out).mono ?_); rintro e w' ⟨rfl, ⟨nd, rfl⟩⟩))
        go_meet
        case rel => exact ⟨_, (true), tq, H', ⟨by first | omega | exact Nat.le_refl _⟩, ⟨tH HB⟩⟩
      rw [if_neg c7] at H
      have c7b0 : decide (t199 < 0) = false := decide_eq_false c7
      clear c7
      by_cases c8 : 1 < (a0.size : Int)
      · rw [if_pos c8] at H
        have c8b0 : decide (1 < (a0.size : Int)) = true := decide_eq_true c8
        have c8b1 : decide (1 < a0.size) = true := decide_eq_true (by omega)
        clear c8
        replace H := Option.bind_eq_some_iff.mp H
        obtain ⟨t200, A100, H⟩ := H
        replace H : (spec_l05Two.j0 k a0 (decide (t200 < 0))) = some (r1, r2) := H
        have A10 := Aside0.mk A100
        clear A100
        have H' := Aside0.mk H
        clear H
        have p5 : 0 ≤ (0 : Int) := (by omega)
        have q5 : 0 < a0.size := (by have : (0 : Int) < (a0.size : Int) := of_decide_eq_true tA; omega)
        have hx5 : ∀ h : 0 < a0.size, ((a0[0]'h).toNat : Int) = bt a0 0 := bt_at a0 0
        clear p5
        have qi5 : (0 < (a0.size : Int)) = True := eq_true (of_decide_eq_true tA)
        replace q5 := eq_true q5
        go_wp2_with (first | (go_at_call 289; (with_reducible refine (spec_l03Named.calls k (bt a0 0) t199 _ A6.out).mono ?_); rintro e w' ⟨rfl, ⟨nd, rfl⟩⟩; have p9 : 0 ≤ (1 : Int) := (by omega); have q9 : 1 < a0.size := (by have : (1 : Int) < (a0.size : Int) := of_decide_eq_true tA; omega); have hx9 : ∀ h : 1 < a0.size, ((a0[1]'h).toNat : Int) = bt a0 1 := bt_at a0 1; clear p9; have qi9 : (1 < (a0.size : Int)) = True := eq_true (of_decide_eq_true tA); replace q9 := eq_true q9) | (go_at_call 289; (with_reducible refine (spec_l03Named.calls k (bt a0 1) t200 _ A10.out).mono ?_); rintro e w' ⟨rfl, ⟨nd, rfl⟩⟩))
        go_meet
        case rel => exact ⟨_, (decide (t200 < 0)), tq, H', ⟨by first | omega | exact Nat.le_refl _⟩, ⟨tH HB⟩⟩
      rw [if_neg c8] at H
      exact absurd H (by simp)
    rw [if_neg c4] at H
    exact absurd H (by simp)
  rw [if_neg c3] at H
  have c3b0 : ((a0.size : Int) == 2) = false := beq_eq_false_iff_ne.mpr c3
  have c3b1 : ((a0.size : Int) != 2) = true := bne_iff_ne.mpr c3
  (first | rw [c3b0] | (simp only [i64_w, i32_w]; rw [c3b0]) | skip)
  have H' := Aside0.mk H
  clear H
  go_wp2
  go_meet
  case rel => exact ⟨_, (true), tq, H', ⟨by first | omega | exact Nat.le_refl _⟩, ⟨tH HB⟩⟩
 case rest =>
 clear HC2
 try clear c2
 try clear p2
 try clear c3
 try clear c3b0
 try clear c3b1
 try clear c4
 try clear c4b0
 try clear c4b1
 try clear p5
 try clear q5
 try clear hx5
 try clear qi5
 try clear c7
 try clear c7b0
 try clear c8
 try clear c8b0
 try clear c8b1
 try clear p9
 try clear q9
 try clear hx9
 try clear qi9
 try clear p5
 try clear p9
 try clear q5
 try clear q9
 obtain ⟨kq, x18_1, rfl, HA, HJ1, HB⟩ := hcut
 cases kq with
 | zero => exact absurd HA.out (by simp [spec_l05Two.j0])
 | succ kj1 =>
 have H := HA.out
 clear HA
 simp only [spec_l05Two.j0] at H
 by_cases c11 : x18_1 = true
 · subst c11
   have H1 : (some (([] : List Int), false)) = some (r1, r2) := by rw [if_pos rfl] at H; exact H
   clear H
   have H := H1
   clear H1
   simp only [Option.some.injEq, Prod.mk.injEq] at H
   obtain ⟨rfl, rfl⟩ := H
   go_wp2
   go_ret2
   exact ⟨_, tE, by first | exact Kd.R_nil _ _ _ _ _ | exact Kd.N_nil _ _ _ _ _ | exact Kd.V_nil _ _ _ _ _ | exact Kd.Q_nil _ _ _ _ _ | exact Kd.S_nil _ _ _ _ _, tH HB⟩
 replace c11 := Bool.eq_false_iff.mpr c11
 subst c11
 have H1 : (if 0 < (a0.size : Int) then ((spec_l03Named.f kj1 (bt a0 0)).bind fun t201 => (if 1 < (a0.size : Int) then ((spec_l03Named.f kj1 (bt a0 1)).bind fun t202 => (some ((([t201, t202] : List Int)), true))) else (none))) else (none)) = some (r1, r2) := by rw [if_neg (show ¬ (false = true) by decide)] at H; exact H
 clear H
 have H := H1
 clear H1
 by_cases c12 : 0 < (a0.size : Int)
 · rw [if_pos c12] at H
   have c12b0 : decide (0 < (a0.size : Int)) = true := decide_eq_true c12
   have c12b1 : decide (0 < a0.size) = true := decide_eq_true (by omega)
   clear c12
   replace H := Option.bind_eq_some_iff.mp H
   obtain ⟨t201, A140, H⟩ := H
   replace H : (if 1 < (a0.size : Int) then ((spec_l03Named.f kj1 (bt a0 1)).bind fun t202 => (some ((([t201, t202] : List Int)), true))) else (none)) = some (r1, r2) := H
   have A14 := Aside0.mk A140
   clear A140
   by_cases c15 : 1 < (a0.size : Int)
   · rw [if_pos c15] at H
     have c15b0 : decide (1 < (a0.size : Int)) = true := decide_eq_true c15
     have c15b1 : decide (1 < a0.size) = true := decide_eq_true (by omega)
     clear c15
     replace H := Option.bind_eq_some_iff.mp H
     obtain ⟨t202, A170, H⟩ := H
     replace H : (some ((([t201, t202] : List Int)), true)) = some (r1, r2) := H
     have A17 := Aside0.mk A170
     clear A170
     obtain ⟨y203, hy203⟩ : ∃ y_ : List Int, y_ = (([t201, t202] : List Int)) := ⟨_, rfl⟩
     replace H : (some (y203, true)) = some (r1, r2) := by first | (rw [hy203]; with_reducible exact H) | (have H2_ := (Option.bind_some _ _).symm.trans H; rw [hy203]; with_reducible exact H2_) | (have H2_ := (Option.bind_some _ _).symm.trans H; with_reducible exact H2_) | with_reducible exact H | (rw [hy203]; exact H) | exact H
     have Ny203 := Aside0.mk hy203
     clear hy203
     simp only [Option.some.injEq, Prod.mk.injEq] at H
     obtain ⟨rfl, rfl⟩ := H
     try go_wp2
     replace HB := Aside0.mk (below_drew1 HB.out)
     have p13 : 0 ≤ (0 : Int) := (by omega)
     have q13 : 0 < a0.size := (by have : (0 : Int) < (a0.size : Int) := of_decide_eq_true tA; omega)
     have hx13 : ∀ h : 0 < a0.size, ((a0[0]'h).toNat : Int) = bt a0 0 := bt_at a0 0
     clear p13
     have qi13 : (0 < (a0.size : Int)) = True := eq_true (of_decide_eq_true tA)
     replace q13 := eq_true q13
     have p16 : 0 ≤ (1 : Int) := (by omega)
     have q16 : 1 < a0.size := (by have : (1 : Int) < (a0.size : Int) := of_decide_eq_true tA; omega)
     have hx16 : ∀ h : 1 < a0.size, ((a0[1]'h).toNat : Int) = bt a0 1 := bt_at a0 1
     clear p16
     have qi16 : (1 < (a0.size : Int)) = True := eq_true (of_decide_eq_true tA)
     replace q16 := eq_true q16
     refine start_ (n := 9) (S := fun w' => True) (ds := []) (bq [0, 9]) (by kernel_rfl) rfl rfl trivial (fun hHeld => ?_); refine with_tabW spec_l05Two.tab3 spec_l05Two.bits3 (fun HT_ HW_ => ?_)
     generalize wc.drew = w18 at HB hHeld ⊢
     refine pV 0 (some 19) [1, 8] rfl rfl HT_ ?_
     refine pV 3 (some 22) [1, 2, 1, 5] rfl rfl HT_ ?_
     refine take_ (i := 1) (N := some 20) (v := ?_) (a' := ?_) (bq [2, 1, 1, 5]) rfl rfl (take_ofW HT_.out HW_.out (by kernel_rfl)) (fun _ _ _ h => h) (Or.inl ⟨by rfl, ?_⟩) hHeld ?_ ?_
     rotate_left
     · intro w' _
       go_simp
       with_reducible rfl
     rotate_left
     · simp only [Act.put, sx0, sx1, sx2, i64_w, i32_w]
       rfl
     refine take_ (i := 4) (N := some 23) (v := ?_) (a' := ?_) (bq [2, 1, 2, 4]) rfl rfl (take_ofW HT_.out HW_.out (by kernel_rfl)) (fun _ _ _ h => h) (Or.inl ⟨by rfl, ?_⟩) hHeld ?_ ?_
     rotate_left
     · intro w' _
       go_simp
       with_reducible rfl
     rotate_left
     · simp only [Act.put, sx0, sx1, sx2, i64_w, i32_w]
       rfl
     refine pO 2 (some 21) (bq [5, 4]) rfl rfl HT_ (fun K hK => ?_)
     refine gS_ Try.func289 #[.int .u8 (bt a0 0)] rfl rfl ?_
     with_reducible refine (spec_l03Named.calls kj1 (bt a0 0) t201 _ A14.out).mono ?_
     rintro e w' ⟨rfl, ⟨nd, rfl⟩⟩
     refine ⟨_, rfl, ?_⟩
     refine hK.out _ _ trivial (fun hHeld => ?_)
     clear hK K
     refine nO (some 21) ?_
     refine pO 5 (some 24) (bq [6, 3]) rfl rfl HT_ (fun K hK => ?_)
     refine gS_ Try.func289 #[.int .u8 (bt a0 1)] rfl rfl ?_
     with_reducible refine (spec_l03Named.calls kj1 (bt a0 1) t202 _ A17.out).mono ?_
     rintro e w' ⟨rfl, ⟨nd, rfl⟩⟩
     refine ⟨_, rfl, ?_⟩
     refine hK.out _ _ trivial (fun hHeld => ?_)
     clear hK K
     refine nO (some 24) ?_
     refine pO 6 (some 25) (bq [7, 2]) rfl rfl HT_ (fun K hK => ?_)
     refine Kd.R_lit_step (Kd.int .i64) _ 2 ?hg (N := 25) ?hd (xs := ([t201, t202] : List Int)) (inner := [.int .i64 t201, .int .i64 t202]) (ok := fun _ => True) (okp := fun _ => True) ?hr ?hp (fun _ hk => hk) trivial (Below.refl _ _) (Nat.le_refl _) (by simp) ?_; (case hd => rfl); (case hg => rfl); (case hr => first | (go_simp; done) | (go_simp; rfl)); (case hp => exact (Reps.one (show Kd.M (Kd.int .i64) _ _ _ t201 [.int .i64 t201] from rfl) (Reps.one (show Kd.M (Kd.int .i64) _ _ _ t202 [.int .i64 t202] from rfl) (Reps.none _ _))))
     intro v204 w19 ho20 hb hg_ hnew_
     clear hg_ hnew_
     (first | rw [← Ny203.out] at ho20 | (simp only [Int.reduceToNat] at ho20; rw [← Ny203.out] at ho20))
     have HO205 := Aside0.mk (Kd.R_lower ho20 (below_size (tH HB)))
     replace HB := Aside0.mk (below_step (tH HB) hb)
     clear hb ho20
     refine hK.out _ _ trivial (fun hHeld => ?_)
     clear hK K
     refine nO (some 25) ?_
     refine pV 7 (some 2) [8, 1] rfl rfl HT_ ?_
     refine pV 8 (some 3) [9] rfl rfl HT_ ?_
     refine done_ (done_of HT_.out (by kernel_rfl)) ?_
     try go_wp2
     go_ret2
     exact ⟨_, tE, tR HO205, tH HB⟩
   rw [if_neg c15] at H
   exact absurd H (by simp)
 rw [if_neg c12] at H
 exact absurd H (by simp)

end Go.Proofs.Ytbedlmlofnphkaa.PZ
