-- WRITTEN BY wip/gprint.py, a program of this session's over the kit's print, with contracts given by hand
import Derived.Test.YtbedlmlofnphkaaPZx0
import Derived.Test.YtbedlmlofnphkaaPZx20
import Derived.Test.YtbedlmlofnphkaaPZx22
import Derived.Test.YtbedlmlofnphkaaPZx23
namespace Go.Proofs.Ytbedlmlofnphkaa.PZ
open Go.RowKit Go.Proofs.YtbedlmlofnphkaaW.PrintWords Go.Proofs.YtbedlmlofnphkaaW.PrintLast Go.Proofs.YtbedlmlofnphkaaW.PrintMore
attribute [local go_sem] max2_int min2_int max_two min_two max_three min_three max_four min_four   -- for this text's walks alone
set_option linter.unusedVariables false
set_option linter.unusedSimpArgs false

/-! ### impl_Raga_firstWrong: function 190 -/
mutual
def impl_Raga_firstWrong.l0 : Nat → List Int → List Int → Int → Int → ByteArray → List Int → List Int → Int → Int → List (List Int) → Option (Int × Int)
 | 0, _, _, _, _, _, _, _, _, _, _ => none
 | k + 1, x1, x8, x9, x10, x421000, x421001, x421002, x421003, x421004, x421005 => if x10 < x9 then (if 0 ≤ x10 then (if x10 < (x8.length : Int) then (if x10 = 0 then ((impl_ToneOf.f (rd x8 x10)).bind fun t422 => ((impl_Raga_hasTone.f k x421000 x421001 x421002 x421003 x421004 x421005 t422).bind fun t423 => (impl_Raga_firstWrong.j1 k x1 x10 (rd x8 x10) x8 x9 x10 (!t423) x421000 x421001 x421002 x421003 x421004 x421005))) else (impl_Raga_firstWrong.j1 k x1 x10 (rd x8 x10) x8 x9 x10 false x421000 x421001 x421002 x421003 x421004 x421005)) else (none)) else (none)) else (some (0, 0))
def impl_Raga_firstWrong.j1 : Nat → List Int → Int → Int → List Int → Int → Int → Bool → ByteArray → List Int → List Int → Int → Int → List (List Int) → Option (Int × Int)
 | 0, _, _, _, _, _, _, _, _, _, _, _, _, _ => none
 | k + 1, x1, x6, x7, x8, x9, x10, x15, x421000, x421001, x421002, x421003, x421004, x421005 => if x15 = true then (some (0, 1)) else (if x6 > 0 then (if 0 ≤ (wrap64 (x6 - 1)) then (if (wrap64 (x6 - 1)) < (x1.length : Int) then ((impl_Raga_reason.f k x421000 x421001 x421002 x421003 x421004 x421005 (rd x1 (wrap64 (x6 - 1))) x7).bind fun t425 => (if t425 = 0 then (impl_Raga_firstWrong.l0 k x1 x8 x9 (wrap64 (x10 + 1)) x421000 x421001 x421002 x421003 x421004 x421005) else ((impl_Raga_reason.f k x421000 x421001 x421002 x421003 x421004 x421005 (rd x1 (wrap64 (x6 - 1))) x7).bind fun t427 => (some (x6, t427))))) else (none)) else (none)) else (impl_Raga_firstWrong.l0 k x1 x8 x9 (wrap64 (x10 + 1)) x421000 x421001 x421002 x421003 x421004 x421005))
end
def impl_Raga_firstWrong.f (k : Nat) (a0_0 : ByteArray) (l0_1 : List Int) (l0_2 : List Int) (a0_3 : Int) (a0_4 : Int) (l0_5 : List (List Int)) (l1 : List Int) : Option (Int × Int) := impl_Raga_firstWrong.l0 k l1 l1 (l1.length : Int) 0 a0_0 l0_1 l0_2 a0_3 a0_4 l0_5
theorem impl_Raga_firstWrong.mono_l : ∀ k, (∀ y0 y1 y2 y3 y4 y5 y6 y7 y8 y9, LeO (impl_Raga_firstWrong.l0 k y0 y1 y2 y3 y4 y5 y6 y7 y8 y9) (impl_Raga_firstWrong.l0 (k + 1) y0 y1 y2 y3 y4 y5 y6 y7 y8 y9)) ∧ (∀ y0 y1 y2 y3 y4 y5 y6 y7 y8 y9 y10 y11 y12, LeO (impl_Raga_firstWrong.j1 k y0 y1 y2 y3 y4 y5 y6 y7 y8 y9 y10 y11 y12) (impl_Raga_firstWrong.j1 (k + 1) y0 y1 y2 y3 y4 y5 y6 y7 y8 y9 y10 y11 y12))
 | 0 => ⟨fun _ _ _ _ _ _ _ _ _ _ r h => by simp [impl_Raga_firstWrong.l0] at h, fun _ _ _ _ _ _ _ _ _ _ _ _ _ r h => by simp [impl_Raga_firstWrong.j1] at h⟩
 | k + 1 => by
  obtain ⟨ih0, ih1⟩ := impl_Raga_firstWrong.mono_l k
  refine ⟨?_, ?_⟩
  all_goals (intros; (first | unfold impl_Raga_firstWrong.l0 | unfold impl_Raga_firstWrong.j1); repeat' first
   | (with_reducible exact ih0 _ _ _ _ _ _ _ _ _ _)
   | (with_reducible exact ih1 _ _ _ _ _ _ _ _ _ _ _ _ _)
   | (with_reducible exact impl_Raga_hasTone.mono _ _ _ _ _ _ _ _)
   | (with_reducible exact impl_Raga_reason.mono _ _ _ _ _ _ _ _ _)
   | (with_reducible exact LeO.refl _)
   | (with_reducible exact LeO.none _)
   | (with_reducible refine LeO.ite ?_ ?_)
   | (with_reducible refine LeO.bind ?_ (fun _ => ?_))
   | exact ih0 _ _ _ _ _ _ _ _ _ _
   | exact ih1 _ _ _ _ _ _ _ _ _ _ _ _ _
   | exact impl_Raga_hasTone.mono _ _ _ _ _ _ _ _
   | exact impl_Raga_reason.mono _ _ _ _ _ _ _ _ _
   | exact LeO.none _
   | refine LeO.ite ?_ ?_
   | refine LeO.bind ?_ (fun _ => ?_))
theorem impl_Raga_firstWrong.mono : ∀ a0 a1 a2 a3 a4 a5 a6 k, LeO (impl_Raga_firstWrong.f k a0 a1 a2 a3 a4 a5 a6) (impl_Raga_firstWrong.f (k + 1) a0 a1 a2 a3 a4 a5 a6) := by
 intro a0 a1 a2 a3 a4 a5 a6 k
 obtain ⟨ih0, ih1⟩ := impl_Raga_firstWrong.mono_l k
 unfold impl_Raga_firstWrong.f
 repeat' first
  | (with_reducible exact ih0 _ _ _ _ _ _ _ _ _ _)
  | (with_reducible exact ih1 _ _ _ _ _ _ _ _ _ _ _ _ _)
  | (with_reducible exact impl_Raga_hasTone.mono _ _ _ _ _ _ _ _)
  | (with_reducible exact impl_Raga_reason.mono _ _ _ _ _ _ _ _ _)
  | (with_reducible exact LeO.refl _)
  | (with_reducible exact LeO.none _)
  | (with_reducible refine LeO.ite ?_ ?_)
  | (with_reducible refine LeO.bind ?_ (fun _ => ?_))
  | exact ih0 _ _ _ _ _ _ _ _ _ _
  | exact ih1 _ _ _ _ _ _ _ _ _ _ _ _ _
  | exact impl_Raga_hasTone.mono _ _ _ _ _ _ _ _
  | exact impl_Raga_reason.mono _ _ _ _ _ _ _ _ _
  | exact LeO.none _
  | refine LeO.ite ?_ ?_
  | refine LeO.bind ?_ (fun _ => ?_)
def impl_Raga_firstWrong.T4 : Bool × List (List Nat × List Nat) := (true, [([], []), ([0], [0]), ([1], [1]), ([2], [2]), ([2], [2]), ([4, 2, 2], [2, 4]), ([3, 5, 5, 2], [2, 3, 5]), ([6, 2], [2, 6]), ([2, 7], [2, 7]), ([8, 6], [8])])
def impl_Raga_firstWrong.B4 : List Nat := [0, 1, 3, 7, 7, 23, 63, 127, 255, 511]
theorem impl_Raga_firstWrong.tab4 : rtab .any (opsOf Try.f190 4) = impl_Raga_firstWrong.T4 := by kernel_rfl
theorem impl_Raga_firstWrong.bits4 : waitsOk impl_Raga_firstWrong.T4.2 impl_Raga_firstWrong.B4 = true := by kernel_rfl
def impl_Raga_firstWrong.T6 : Bool × List (List Nat × List Nat) := (true, [([], []), ([0], [0]), ([1], [1]), ([2], [2]), ([2], [2]), ([2], [2]), ([5, 2], [2, 5]), ([4, 6, 2], [2, 4, 6]), ([7, 2], [2, 7]), ([2], [2]), ([3, 8, 9, 2, 2], [2, 3, 8, 9]), ([10, 2], [2, 10]), ([2, 11], [2, 11]), ([12, 10], [12])])
def impl_Raga_firstWrong.B6 : List Nat := [0, 1, 3, 7, 7, 7, 39, 119, 247, 7, 1023, 2047, 4095, 8191]
theorem impl_Raga_firstWrong.tab6 : rtab .any (opsOf Try.f190 6) = impl_Raga_firstWrong.T6 := by kernel_rfl
theorem impl_Raga_firstWrong.bits6 : waitsOk impl_Raga_firstWrong.T6.2 impl_Raga_firstWrong.B6 = true := by kernel_rfl
def impl_Raga_firstWrong.T7 : Bool × List (List Nat × List Nat) := (true, [([], []), ([], []), ([], []), ([], []), ([3], [3]), ([2, 4], [2, 4]), ([5], [5]), ([], []), ([1, 6, 7], [1, 6, 7]), ([0, 8, 0], [0]), ([8, 9, 0, 1, 2, 3, 4, 5, 6, 7, 8, 9], [8])])
def impl_Raga_firstWrong.B7 : List Nat := [0, 0, 0, 0, 8, 28, 60, 0, 254, 511, 1023]
theorem impl_Raga_firstWrong.tab7 : rtab .any (opsOf Try.f190 7) = impl_Raga_firstWrong.T7 := by kernel_rfl
theorem impl_Raga_firstWrong.bits7 : waitsOk impl_Raga_firstWrong.T7.2 impl_Raga_firstWrong.B7 = true := by kernel_rfl
set_option maxHeartbeats 8000000 in
set_option maxRecDepth 100000 in
theorem impl_Raga_firstWrong.calls (k : Nat) (a0_0 : ByteArray) (A0_1 : Option Addr) (c0_1 : Nat) (l0_1 : List Int) (A0_2 : Option Addr) (c0_2 : Nat) (l0_2 : List Int) (a0_3 : Int) (a0_4 : Int) (A0_5 : Option Addr) (c0_5 : Nat) (l0_5 : List (List Int)) (A1 : Option Addr) (c1 : Nat) (l1 : List Int) (r1 : Int) (r2 : Int) (w : World) (hr0_1 : Kd.C (Kd.int .i64) w A0_1 l0_1.length l0_1) (hc0_1 : l0_1.length ≤ c0_1) (hr0_2 : Kd.C (Kd.int .i64) w A0_2 l0_2.length l0_2) (hc0_2 : l0_2.length ≤ c0_2) (hr0_5 : Kd.C (Kd.slice 2 (Kd.int .i64)) w A0_5 l0_5.length l0_5) (hc0_5 : l0_5.length ≤ c0_5) (hr1 : Kd.C (Kd.int .i64) w A1 l1.length l1) (hc1 : l1.length ≤ c1) (h : impl_Raga_firstWrong.f k a0_0 l0_1 l0_2 a0_3 a0_4 l0_5 l1 = some (r1, r2)) :
 Calls Try.prog 190 #[.agg #[.string a0_0, .slice A0_1 l0_1.length c0_1, .slice A0_2 l0_2.length c0_2, .int .i64 a0_3, .int .i64 a0_4, .slice A0_5 l0_5.length c0_5], .slice A1 l1.length c1] w fun e w' => e = .returned (.tuple #[.int .i64 r1, .int .i64 r2]) ∧ Below w.heap.size w w' := by
 have hu27 := Try.underlying27
 have HR0_1 := Aside0.mk hr0_1
 have HC0_1 := Aside0.mk hc0_1
 clear hr0_1 hc0_1
 have HR0_2 := Aside0.mk hr0_2
 have HC0_2 := Aside0.mk hc0_2
 clear hr0_2 hc0_2
 have HR0_5 := Aside0.mk hr0_5
 have HC0_5 := Aside0.mk hc0_5
 clear hr0_5 hc0_5
 have HR1 := Aside0.mk hr1
 have HC1 := Aside0.mk hc1
 clear hr1 hc1
 have HB := Aside0.mk (Below.refl w.heap.size w)
 have H : (impl_Raga_firstWrong.l0 k l1 l1 (l1.length : Int) 0 a0_0 l0_1 l0_2 a0_3 a0_4 l0_5) = some (r1, r2) := h
 clear h
 have H' := Aside0.mk H
 clear H
 go_enter Try.func190, Try.ntmps190
 go_wp2_with (first | ((with_reducible refine gate_dst (N := 2) rfl ?_); refine box_event ?hg (N := 2) ?hd (cs := #[.string a0_0, .slice A0_1 l0_1.length c0_1, .slice A0_2 l0_2.length c0_2, .int .i64 a0_3, .int .i64 a0_4, .slice A0_5 l0_5.length c0_5]) (t := 27) ?hr ?_; (case hd => rfl); (case hg => rfl); (case hr => first | (go_simp; done) | (go_simp; rfl)); intro gb420 hg w3 hbox hb; have BK420 := Aside0.mk (hbox); have GW420 := Aside0.mk ((by rw [hg]; exact (below_size (tH HB)) : w.heap.size ≤ gb420)); have GE420 := Aside0.mk ((by rw [hg]; exact (below_size (tH HB)) : w.heap.size ≤ gb420)); replace HB := Aside0.mk (below_step (tH HB) hb); clear hb hbox hg))
 go_loopg [10] k (fun kq v10 w' => ∃ (x10_1 : Int), v10 = .int .i64 x10_1 ∧ Aside0 (impl_Raga_firstWrong.l0 kq l1 l1 (l1.length : Int) x10_1 a0_0 l0_1 l0_2 a0_3 a0_4 l0_5 = some (r1, r2)) ∧ Aside0 (kq ≤ k) ∧ Aside0 (w'.heap[gb420]? = some (.cells #[.string a0_0, (.slice A0_1 l0_1.length c0_1), (.slice A0_2 l0_2.length c0_2), .int .i64 a0_3, .int .i64 a0_4, (.slice A0_5 l0_5.length c0_5)] 27 (0, 0))) ∧ Aside0 (Below w.heap.size w w'))
 case atStart => exact ⟨(0), tq, H', ⟨Nat.le_refl _⟩, ⟨tB BK420⟩, ⟨tH1 HB GE420.out⟩⟩
 case round =>
 clear H'
 try clear c1
 try clear p2
 obtain ⟨x10_1, rfl, HA, HK1, BK420, HB⟩ := hrel
 cases gk with
 | zero => exact absurd HA.out (by simp [impl_Raga_firstWrong.l0])
 | succ k1 =>
 have H := HA.out
 clear HA
 simp only [impl_Raga_firstWrong.l0] at H
 by_cases c4 : x10_1 < (l1.length : Int)
 · rw [if_pos c4] at H
   have c4b0 : decide (x10_1 < (l1.length : Int)) = true := decide_eq_true c4
   clear c4
   by_cases c5 : 0 ≤ x10_1
   · rw [if_pos c5] at H
     have c5b0 : decide (0 ≤ x10_1) = true := decide_eq_true c5
     clear c5
     by_cases c6 : x10_1 < (l1.length : Int)
     · rw [if_pos c6] at H
       have c6b0 : decide (x10_1 < (l1.length : Int)) = true := decide_eq_true c6
       clear c6
       have HC7 := Aside0.mk H
       clear H
       have p421 : 0 ≤ (x10_1 : Int) := of_decide_eq_true tA
       have q421 : x10_1 < (l1.length : Int) := of_decide_eq_true tA
       obtain ⟨ad421, e421, hx421_0⟩ := Kd.at_int HR1.out x10_1 p421 q421
       cases e421
       replace hx421_0 := tW HB hx421_0
       replace p421 := eq_true p421
       replace q421 := eq_true q421
       go_upto_region 4 with (fail)
       go_cut [15] (fun v15 wc => ∃ (kq : Nat) (x15_6 : Bool), v15 = .bool x15_6 ∧ Aside0 (impl_Raga_firstWrong.j1 kq l1 x10_1 (rd l1 x10_1) l1 (l1.length : Int) x10_1 x15_6 a0_0 l0_1 l0_2 a0_3 a0_4 l0_5 = some (r1, r2)) ∧ Aside0 (kq ≤ k1) ∧ Aside0 (wc.heap[gb420]? = some (.cells #[.string a0_0, (.slice A0_1 l0_1.length c0_1), (.slice A0_2 l0_2.length c0_2), .int .i64 a0_3, .int .i64 a0_4, (.slice A0_5 l0_5.length c0_5)] 27 (0, 0))) ∧ Aside0 (Below w.heap.size w wc))
       case first =>
        have H := HC7.out
        clear HC7
        by_cases c8 : x10_1 = 0
        · rw [if_pos c8] at H
          have c8b0 : (x10_1 == 0) = true := beq_iff_eq.mpr c8
          have c8b1 : (x10_1 != 0) = false := bne_eq_false_iff_eq.mpr c8
          clear c8
          (first | rw [c8b0] | (simp only [i64_w, i32_w]; rw [c8b0]) | skip)
          replace H := Option.bind_eq_some_iff.mp H
          obtain ⟨t422, A90, H⟩ := H
          replace H : ((impl_Raga_hasTone.f k1 a0_0 l0_1 l0_2 a0_3 a0_4 l0_5 t422).bind fun t423 => (impl_Raga_firstWrong.j1 k1 l1 x10_1 (rd l1 x10_1) l1 (l1.length : Int) x10_1 (!t423) a0_0 l0_1 l0_2 a0_3 a0_4 l0_5)) = some (r1, r2) := H
          have A9 := Aside0.mk A90
          clear A90
          replace H := Option.bind_eq_some_iff.mp H
          obtain ⟨t423, A100, H⟩ := H
          replace H : (impl_Raga_firstWrong.j1 k1 l1 x10_1 (rd l1 x10_1) l1 (l1.length : Int) x10_1 (!t423) a0_0 l0_1 l0_2 a0_3 a0_4 l0_5) = some (r1, r2) := H
          have A10 := Aside0.mk A100
          clear A100
          have H' := Aside0.mk H
          clear H
          try go_wp2
          replace BK420 := Aside0.mk (blk_drew BK420.out)
          replace HB := Aside0.mk (below_drew1 HB.out)
          refine start_ (n := 10) (S := fun w' => w'.cell? ⟨gb420, 0, none⟩ = some (.string a0_0) ∧ w'.cell? ⟨gb420, 1, none⟩ = some (.slice A0_1 l0_1.length c0_1) ∧ w'.cell? ⟨gb420, 2, none⟩ = some (.slice A0_2 l0_2.length c0_2) ∧ w'.cell? ⟨gb420, 3, none⟩ = some (.int .i64 a0_3) ∧ w'.cell? ⟨gb420, 4, none⟩ = some (.int .i64 a0_4) ∧ w'.cell? ⟨gb420, 5, none⟩ = some (.slice A0_5 l0_5.length c0_5)) (ds := []) (bq [0, 10]) (by kernel_rfl) rfl rfl ⟨(blk_cell BK420.out 0).trans rfl, (blk_cell BK420.out 1).trans rfl, (blk_cell BK420.out 2).trans rfl, (blk_cell BK420.out 3).trans rfl, (blk_cell BK420.out 4).trans rfl, (blk_cell BK420.out 5).trans rfl⟩ (fun hHeld => ?_); refine with_tabW impl_Raga_firstWrong.tab4 impl_Raga_firstWrong.bits4 (fun HT_ HW_ => ?_)
          generalize wr.drew = w11 at BK420 HB hHeld ⊢
          refine pV 0 (some 16) [1, 9] rfl rfl HT_ ?_
          refine pV 1 (some 17) [2, 8] rfl rfl HT_ ?_
          refine pV 2 (some 18) [3, 7] rfl rfl HT_ ?_
          refine pV 4 (some 20) [3, 1, 1, 5] rfl rfl HT_ ?_
          refine pT 3 (some 19) (bq [5, 5]) rfl rfl HT_ HW_ hHeld ?_
          refine pO 5 (some 21) (bq [6, 4]) rfl rfl HT_ (fun K hK => ?_)
          refine gS_ Try.func57 #[.int .i64 (rd l1 x10_1)] rfl rfl ?_
          with_reducible refine (impl_ToneOf.calls (rd l1 x10_1) t422 _ A9.out).mono ?_
          rintro e w' ⟨rfl, ⟨nd, rfl⟩⟩
          refine ⟨_, rfl, ?_⟩
          refine hK.out _ _ ⟨(blk_cell BK420.out 0).trans rfl, (blk_cell BK420.out 1).trans rfl, (blk_cell BK420.out 2).trans rfl, (blk_cell BK420.out 3).trans rfl, (blk_cell BK420.out 4).trans rfl, (blk_cell BK420.out 5).trans rfl⟩ (fun hHeld => ?_)
          clear hK K
          refine nO (some 21) ?_
          refine pO 6 (some 22) (bq [7, 3]) rfl rfl HT_ (fun K hK => ?_)
          refine gS_ Try.func255 #[.agg #[.string a0_0, .slice A0_1 l0_1.length c0_1, .slice A0_2 l0_2.length c0_2, .int .i64 a0_3, .int .i64 a0_4, .slice A0_5 l0_5.length c0_5], .int .i64 t422] rfl rfl ?_
          with_reducible refine (impl_Raga_hasTone.calls k1 a0_0 _ _ l0_1 _ _ l0_2 a0_3 a0_4 _ _ l0_5 t422 t423 _ ?side1 ?side2 ?side3 ?side4 ?side5 ?side6 A10.out).mono ?_
          (case side1 => exact Kd.C_below HR0_1.out (tH1 HB GE420.out))
          (case side2 => exact HC0_1.out)
          (case side3 => exact Kd.C_below HR0_2.out (tH1 HB GE420.out))
          (case side4 => exact HC0_2.out)
          (case side5 => exact Kd.C_below HR0_5.out (tH1 HB GE420.out))
          (case side6 => exact HC0_5.out)
          rintro e w12 ⟨rfl, hb⟩
          refine ⟨_, rfl, ?_⟩
          replace BK420 := tbB BK420 hb
          replace HB := Aside0.mk (below_step (tH1 HB GE420.out) hb)
          (try clear hb)
          (try clear hb2)
          (try clear hk)
          (try clear hi)
          refine hK.out _ _ ⟨(blk_cell BK420.out 0).trans rfl, (blk_cell BK420.out 1).trans rfl, (blk_cell BK420.out 2).trans rfl, (blk_cell BK420.out 3).trans rfl, (blk_cell BK420.out 4).trans rfl, (blk_cell BK420.out 5).trans rfl⟩ (fun hHeld => ?_)
          clear hK K
          refine nO (some 22) ?_
          refine pV 7 (some 23) [8, 2] rfl rfl HT_ ?_
          refine pV 8 (some 24) [9, 1] rfl rfl HT_ ?_
          refine pV 9 (some 15) [10] rfl rfl HT_ ?_
          refine done_ (done_of HT_.out (by kernel_rfl)) ?_
          try go_wp2
          go_meet
          case rel => exact ⟨_, (!t423), tq, H', ⟨by have := HK1.out; first | omega | exact Nat.le_refl _⟩, ⟨tB BK420⟩, ⟨tH1 HB GE420.out⟩⟩
        rw [if_neg c8] at H
        have c8b0 : (x10_1 == 0) = false := beq_eq_false_iff_ne.mpr c8
        have c8b1 : (x10_1 != 0) = true := bne_iff_ne.mpr c8
        (first | rw [c8b0] | (simp only [i64_w, i32_w]; rw [c8b0]) | skip)
        have H' := Aside0.mk H
        clear H
        try go_wp2
        replace BK420 := Aside0.mk (blk_drew BK420.out)
        replace HB := Aside0.mk (below_drew1 HB.out)
        refine start_ (n := 10) (S := fun w' => True) (ds := []) (bq [0, 10]) (by kernel_rfl) rfl rfl trivial (fun hHeld => ?_); refine with_tabW impl_Raga_firstWrong.tab4 impl_Raga_firstWrong.bits4 (fun HT_ HW_ => ?_)
        generalize wr.drew = w13 at BK420 HB hHeld ⊢
        refine pV 0 (some 16) [1, 9] rfl rfl HT_ ?_
        refine pV 1 (some 17) [2, 8] rfl rfl HT_ ?_
        refine pV 2 (some 18) [3, 7] rfl rfl HT_ ?_
        refine pU 3 (some 19) [4, 6] rfl rfl HT_ ?_
        refine pU 4 (some 20) [5, 5] rfl rfl HT_ ?_
        refine pU 5 (some 21) [6, 4] rfl rfl HT_ ?_
        refine pU 6 (some 22) [7, 3] rfl rfl HT_ ?_
        refine pU 7 (some 23) [8, 2] rfl rfl HT_ ?_
        refine pV 8 (some 24) [9, 1] rfl rfl HT_ ?_
        refine pV 9 (some 15) [10] rfl rfl HT_ ?_
        refine done_ (done_of HT_.out (by kernel_rfl)) ?_
        try go_wp2
        go_meet
        case rel => exact ⟨_, (false), tq, H', ⟨by have := HK1.out; first | omega | exact Nat.le_refl _⟩, ⟨tB BK420⟩, ⟨tH1 HB GE420.out⟩⟩
       case rest =>
       clear HC7
       try clear c1
       try clear c2
       try clear p2
       try clear c4
       try clear c4b0
       try clear p4
       try clear q4
       try clear hx4
       try clear c5
       try clear c5b0
       try clear c6
       try clear c6b0
       try clear c8
       try clear c8b0
       try clear c8b1
       try clear hx421_0
       try clear p2
       try clear p421
       try clear q421
       obtain ⟨kq, x15_6, rfl, HA, HJ6, BK420, HB⟩ := hcut
       cases kq with
       | zero => exact absurd HA.out (by simp [impl_Raga_firstWrong.j1])
       | succ kj6 =>
       have H := HA.out
       clear HA
       simp only [impl_Raga_firstWrong.j1] at H
       by_cases c14 : x15_6 = true
       · subst c14
         have H1 : (some (0, 1)) = some (r1, r2) := by rw [if_pos rfl] at H; exact H
         clear H
         have H := H1
         clear H1
         simp only [Option.some.injEq, Prod.mk.injEq] at H
         obtain ⟨rfl, rfl⟩ := H
         go_wp2
         go_ret2
         exact ⟨tE, tH1 HB GE420.out⟩
       replace c14 := Bool.eq_false_iff.mpr c14
       subst c14
       have H1 : (if x10_1 > 0 then (if 0 ≤ (wrap64 (x10_1 - 1)) then (if (wrap64 (x10_1 - 1)) < (l1.length : Int) then ((impl_Raga_reason.f kj6 a0_0 l0_1 l0_2 a0_3 a0_4 l0_5 (rd l1 (wrap64 (x10_1 - 1))) (rd l1 x10_1)).bind fun t425 => (if t425 = 0 then (impl_Raga_firstWrong.l0 kj6 l1 l1 (l1.length : Int) (wrap64 (x10_1 + 1)) a0_0 l0_1 l0_2 a0_3 a0_4 l0_5) else ((impl_Raga_reason.f kj6 a0_0 l0_1 l0_2 a0_3 a0_4 l0_5 (rd l1 (wrap64 (x10_1 - 1))) (rd l1 x10_1)).bind fun t427 => (some (x10_1, t427))))) else (none)) else (none)) else (impl_Raga_firstWrong.l0 kj6 l1 l1 (l1.length : Int) (wrap64 (x10_1 + 1)) a0_0 l0_1 l0_2 a0_3 a0_4 l0_5)) = some (r1, r2) := by rw [if_neg (show ¬ (false = true) by decide)] at H; exact H
       clear H
       have H := H1
       clear H1
       by_cases c15 : x10_1 > 0
       · rw [if_pos c15] at H
         have c15b0 : decide (0 < x10_1) = true := decide_eq_true c15
         clear c15
         obtain ⟨ji16, hji16⟩ : ∃ j_ : Int, (wrap64 (x10_1 - 1)) = j_ := ⟨_, rfl⟩
         replace H : (if 0 ≤ (ji16) then (if (ji16) < (l1.length : Int) then ((impl_Raga_reason.f kj6 a0_0 l0_1 l0_2 a0_3 a0_4 l0_5 (rd l1 (ji16)) (rd l1 x10_1)).bind fun t425 => (if t425 = 0 then (impl_Raga_firstWrong.l0 kj6 l1 l1 (l1.length : Int) (wrap64 (x10_1 + 1)) a0_0 l0_1 l0_2 a0_3 a0_4 l0_5) else ((impl_Raga_reason.f kj6 a0_0 l0_1 l0_2 a0_3 a0_4 l0_5 (rd l1 (ji16)) (rd l1 x10_1)).bind fun t427 => (some (x10_1, t427))))) else (none)) else (none)) = some (r1, r2) := by first | (rw [hji16] at H; exact H) | (simp only [hji16] at H ⊢; exact H)
         have hji16w : (IntKind.i64.wrap (x10_1 - 1)) = ji16 := (i64_w _).trans hji16
         by_cases c17 : 0 ≤ (ji16)
         · rw [if_pos c17] at H
           have c17b0 : decide (0 ≤ (ji16)) = true := decide_eq_true c17
           clear c17
           by_cases c18 : (ji16) < (l1.length : Int)
           · rw [if_pos c18] at H
             have c18b0 : decide ((ji16) < (l1.length : Int)) = true := decide_eq_true c18
             clear c18
             replace H := Option.bind_eq_some_iff.mp H
             obtain ⟨t425, A190, H⟩ := H
             replace H : (if t425 = 0 then (impl_Raga_firstWrong.l0 kj6 l1 l1 (l1.length : Int) (wrap64 (x10_1 + 1)) a0_0 l0_1 l0_2 a0_3 a0_4 l0_5) else ((impl_Raga_reason.f kj6 a0_0 l0_1 l0_2 a0_3 a0_4 l0_5 (rd l1 (ji16)) (rd l1 x10_1)).bind fun t427 => (some (x10_1, t427)))) = some (r1, r2) := H
             have A19 := Aside0.mk A190
             clear A190
             by_cases c20 : t425 = 0
             · rw [if_pos c20] at H
               have c20b0 : (t425 == 0) = true := beq_iff_eq.mpr c20
               have c20b1 : (t425 != 0) = false := bne_eq_false_iff_eq.mpr c20
               clear c20
               have H' := Aside0.mk H
               clear H
               try go_wp2
               replace BK420 := Aside0.mk (blk_drew BK420.out)
               replace HB := Aside0.mk (below_drew1 HB.out)
               have p424 : 0 ≤ ((ji16) : Int) := of_decide_eq_true tA
               have q424 : (ji16) < (l1.length : Int) := of_decide_eq_true tA
               obtain ⟨ad424, e424, hx424_0⟩ := Kd.at_int HR1.out (ji16) p424 q424
               have hw424_0 := hx424_0
               obtain rfl : ad421 = ad424 := (by injection e424)
               replace hx424_0 := tW HB hx424_0
               replace p424 := eq_true p424
               replace q424 := eq_true q424
               refine start_ (n := 14) (S := fun w' => w'.cell? ⟨gb420, 0, none⟩ = some (.string a0_0) ∧ w'.cell? ⟨gb420, 1, none⟩ = some (.slice A0_1 l0_1.length c0_1) ∧ w'.cell? ⟨gb420, 2, none⟩ = some (.slice A0_2 l0_2.length c0_2) ∧ w'.cell? ⟨gb420, 3, none⟩ = some (.int .i64 a0_3) ∧ w'.cell? ⟨gb420, 4, none⟩ = some (.int .i64 a0_4) ∧ w'.cell? ⟨gb420, 5, none⟩ = some (.slice A0_5 l0_5.length c0_5) ∧ w'.cell? (ad421.add ((ji16)).toNat) = some (.int .i64 (rd l1 (ji16)))) (ds := []) (bq [0, 14]) (by kernel_rfl) rfl rfl ⟨(blk_cell BK420.out 0).trans rfl, (blk_cell BK420.out 1).trans rfl, (blk_cell BK420.out 2).trans rfl, (blk_cell BK420.out 3).trans rfl, (blk_cell BK420.out 4).trans rfl, (blk_cell BK420.out 5).trans rfl, (tW HB hw424_0)⟩ (fun hHeld => ?_); refine with_tabW impl_Raga_firstWrong.tab6 impl_Raga_firstWrong.bits6 (fun HT_ HW_ => ?_)
               generalize wc.drew = w21 at BK420 HB hx424_0 hHeld ⊢
               refine pV 0 (some 26) [1, 13] rfl rfl HT_ ?_
               refine pV 1 (some 27) [2, 12] rfl rfl HT_ ?_
               refine pV 2 (some 28) [3, 11] rfl rfl HT_ ?_
               refine pV 4 (some 30) [3, 1, 1, 9] rfl rfl HT_ ?_
               refine pV 5 (some 31) [3, 1, 2, 8] rfl rfl HT_ ?_
               refine pV 6 (some 32) [3, 1, 3, 7] rfl rfl HT_ ?_
               refine pV 7 (some 33) [3, 1, 4, 6] rfl rfl HT_ ?_
               refine pV 9 (some 35) [3, 1, 4, 1, 1, 4] rfl rfl HT_ ?_
               refine pT 3 (some 29) (bq [8, 1, 1, 4]) rfl rfl HT_ HW_ hHeld ?_
               refine pT 8 (some 34) (bq [10, 4]) rfl rfl HT_ HW_ hHeld ?_
               refine pO 10 (some 36) (bq [11, 3]) rfl rfl HT_ (fun K hK => ?_)
               refine goes_ Try.func256 (by kernel_rfl) rfl #[.agg #[.string a0_0, .slice A0_1 l0_1.length c0_1, .slice A0_2 l0_2.length c0_2, .int .i64 a0_3, .int .i64 a0_4, .slice A0_5 l0_5.length c0_5], .int .i64 (rd l1 (ji16)), .int .i64 (rd l1 x10_1)] (by rfl) rfl rfl (by (try simp only [List.map_toArray, List.map_cons, List.map_nil]); first | done | (simp only [hji16]; rfl) | rfl | (simp only [List.length_drop, List.length_take]; rfl)) ?_
               with_reducible refine (impl_Raga_reason.calls kj6 a0_0 _ _ l0_1 _ _ l0_2 a0_3 a0_4 _ _ l0_5 (rd l1 (ji16)) (rd l1 x10_1) t425 _ ?side1 ?side2 ?side3 ?side4 ?side5 ?side6 A19.out).mono ?_
               (case side1 => exact tC (Kd.C_below HR0_1.out HB.out))
               (case side2 => exact HC0_1.out)
               (case side3 => exact tC (Kd.C_below HR0_2.out HB.out))
               (case side4 => exact HC0_2.out)
               (case side5 => exact tC (Kd.C_below HR0_5.out HB.out))
               (case side6 => exact HC0_5.out)
               rintro e w22 ⟨rfl, hb⟩
               refine ⟨_, rfl, ?_⟩
               replace BK420 := tbB BK420 hb
               replace HB := Aside0.mk (below_step (tH1 HB GE420.out) hb)
               (try clear hb)
               (try clear hb2)
               (try clear hk)
               (try clear hi)
               refine hK.out _ _ ⟨(blk_cell BK420.out 0).trans rfl, (blk_cell BK420.out 1).trans rfl, (blk_cell BK420.out 2).trans rfl, (blk_cell BK420.out 3).trans rfl, (blk_cell BK420.out 4).trans rfl, (blk_cell BK420.out 5).trans rfl, (tW HB hw424_0)⟩ (fun hHeld => ?_)
               clear hK K
               refine nO (some 36) ?_
               refine pV 11 (some 37) [12, 2] rfl rfl HT_ ?_
               refine pV 12 (some 38) [13, 1] rfl rfl HT_ ?_
               refine pV 13 (some 25) [14] rfl rfl HT_ ?_
               refine done_ (done_of HT_.out (by kernel_rfl)) ?_
               try go_wp2
               go_roundg kj6
               case measure => have := HK1.out; have := HJ6.out; omega
               case rel => exact ⟨(wrap64 (x10_1 + 1)), tq, H', ⟨by have := HK1.out; have := HJ6.out; omega⟩, ⟨tB BK420⟩, ⟨tH1 HB GE420.out⟩⟩
             rw [if_neg c20] at H
             have c20b0 : (t425 == 0) = false := beq_eq_false_iff_ne.mpr c20
             have c20b1 : (t425 != 0) = true := bne_iff_ne.mpr c20
             replace H := Option.bind_eq_some_iff.mp H
             obtain ⟨t427, A230, H⟩ := H
             replace H : (some (x10_1, t427)) = some (r1, r2) := H
             have A23 := Aside0.mk A230
             clear A230
             simp only [Option.some.injEq, Prod.mk.injEq] at H
             obtain ⟨rfl, rfl⟩ := H
             try go_wp2
             replace BK420 := Aside0.mk (blk_drew BK420.out)
             replace HB := Aside0.mk (below_drew1 HB.out)
             have p424 : 0 ≤ ((ji16) : Int) := of_decide_eq_true tA
             have q424 : (ji16) < (l1.length : Int) := of_decide_eq_true tA
             obtain ⟨ad424, e424, hx424_0⟩ := Kd.at_int HR1.out (ji16) p424 q424
             have hw424_0 := hx424_0
             obtain rfl : ad421 = ad424 := (by injection e424)
             replace hx424_0 := tW HB hx424_0
             replace p424 := eq_true p424
             replace q424 := eq_true q424
             refine start_ (n := 14) (S := fun w' => w'.cell? ⟨gb420, 0, none⟩ = some (.string a0_0) ∧ w'.cell? ⟨gb420, 1, none⟩ = some (.slice A0_1 l0_1.length c0_1) ∧ w'.cell? ⟨gb420, 2, none⟩ = some (.slice A0_2 l0_2.length c0_2) ∧ w'.cell? ⟨gb420, 3, none⟩ = some (.int .i64 a0_3) ∧ w'.cell? ⟨gb420, 4, none⟩ = some (.int .i64 a0_4) ∧ w'.cell? ⟨gb420, 5, none⟩ = some (.slice A0_5 l0_5.length c0_5) ∧ w'.cell? (ad421.add ((ji16)).toNat) = some (.int .i64 (rd l1 (ji16)))) (ds := []) (bq [0, 14]) (by kernel_rfl) rfl rfl ⟨(blk_cell BK420.out 0).trans rfl, (blk_cell BK420.out 1).trans rfl, (blk_cell BK420.out 2).trans rfl, (blk_cell BK420.out 3).trans rfl, (blk_cell BK420.out 4).trans rfl, (blk_cell BK420.out 5).trans rfl, (tW HB hw424_0)⟩ (fun hHeld => ?_); refine with_tabW impl_Raga_firstWrong.tab6 impl_Raga_firstWrong.bits6 (fun HT_ HW_ => ?_)
             generalize wc.drew = w24 at BK420 HB hx424_0 hHeld ⊢
             refine pV 0 (some 26) [1, 13] rfl rfl HT_ ?_
             refine pV 1 (some 27) [2, 12] rfl rfl HT_ ?_
             refine pV 2 (some 28) [3, 11] rfl rfl HT_ ?_
             refine pV 4 (some 30) [3, 1, 1, 9] rfl rfl HT_ ?_
             refine pV 5 (some 31) [3, 1, 2, 8] rfl rfl HT_ ?_
             refine pV 6 (some 32) [3, 1, 3, 7] rfl rfl HT_ ?_
             refine pV 7 (some 33) [3, 1, 4, 6] rfl rfl HT_ ?_
             refine pV 9 (some 35) [3, 1, 4, 1, 1, 4] rfl rfl HT_ ?_
             refine pT 3 (some 29) (bq [8, 1, 1, 4]) rfl rfl HT_ HW_ hHeld ?_
             refine pT 8 (some 34) (bq [10, 4]) rfl rfl HT_ HW_ hHeld ?_
             refine pO 10 (some 36) (bq [11, 3]) rfl rfl HT_ (fun K hK => ?_)
             refine goes_ Try.func256 (by kernel_rfl) rfl #[.agg #[.string a0_0, .slice A0_1 l0_1.length c0_1, .slice A0_2 l0_2.length c0_2, .int .i64 a0_3, .int .i64 a0_4, .slice A0_5 l0_5.length c0_5], .int .i64 (rd l1 (ji16)), .int .i64 (rd l1 x10_1)] (by rfl) rfl rfl (by (try simp only [List.map_toArray, List.map_cons, List.map_nil]); first | done | (simp only [hji16]; rfl) | rfl | (simp only [List.length_drop, List.length_take]; rfl)) ?_
             with_reducible refine (impl_Raga_reason.calls kj6 a0_0 _ _ l0_1 _ _ l0_2 a0_3 a0_4 _ _ l0_5 (rd l1 (ji16)) (rd l1 x10_1) t425 _ ?side1 ?side2 ?side3 ?side4 ?side5 ?side6 A19.out).mono ?_
             (case side1 => exact tC (Kd.C_below HR0_1.out HB.out))
             (case side2 => exact HC0_1.out)
             (case side3 => exact tC (Kd.C_below HR0_2.out HB.out))
             (case side4 => exact HC0_2.out)
             (case side5 => exact tC (Kd.C_below HR0_5.out HB.out))
             (case side6 => exact HC0_5.out)
             rintro e w25 ⟨rfl, hb⟩
             refine ⟨_, rfl, ?_⟩
             replace BK420 := tbB BK420 hb
             replace HB := Aside0.mk (below_step (tH1 HB GE420.out) hb)
             (try clear hb)
             (try clear hb2)
             (try clear hk)
             (try clear hi)
             refine hK.out _ _ ⟨(blk_cell BK420.out 0).trans rfl, (blk_cell BK420.out 1).trans rfl, (blk_cell BK420.out 2).trans rfl, (blk_cell BK420.out 3).trans rfl, (blk_cell BK420.out 4).trans rfl, (blk_cell BK420.out 5).trans rfl, (tW HB hw424_0)⟩ (fun hHeld => ?_)
             clear hK K
             refine nO (some 36) ?_
             refine pV 11 (some 37) [12, 2] rfl rfl HT_ ?_
             refine pV 12 (some 38) [13, 1] rfl rfl HT_ ?_
             refine pV 13 (some 25) [14] rfl rfl HT_ ?_
             refine done_ (done_of HT_.out (by kernel_rfl)) ?_
             try go_wp2
             replace BK420 := Aside0.mk (blk_drew BK420.out)
             replace HB := Aside0.mk (below_drew1 HB.out)
             have p426 : 0 ≤ ((ji16) : Int) := of_decide_eq_true tA
             have q426 : (ji16) < (l1.length : Int) := of_decide_eq_true tA
             obtain ⟨ad426, e426, hx426_0⟩ := Kd.at_int HR1.out (ji16) p426 q426
             have hw426_0 := hx426_0
             obtain rfl : ad421 = ad426 := (by injection e426)
             replace hx426_0 := tW HB hx426_0
             replace p426 := eq_true p426
             replace q426 := eq_true q426
             refine start_ (n := 11) (S := fun w' => w'.cell? ⟨gb420, 0, none⟩ = some (.string a0_0) ∧ w'.cell? ⟨gb420, 1, none⟩ = some (.slice A0_1 l0_1.length c0_1) ∧ w'.cell? ⟨gb420, 2, none⟩ = some (.slice A0_2 l0_2.length c0_2) ∧ w'.cell? ⟨gb420, 3, none⟩ = some (.int .i64 a0_3) ∧ w'.cell? ⟨gb420, 4, none⟩ = some (.int .i64 a0_4) ∧ w'.cell? ⟨gb420, 5, none⟩ = some (.slice A0_5 l0_5.length c0_5) ∧ w'.cell? (ad421.add ((ji16)).toNat) = some (.int .i64 (rd l1 (ji16)))) (ds := []) (bq [0, 11]) (by kernel_rfl) rfl rfl ⟨(blk_cell BK420.out 0).trans rfl, (blk_cell BK420.out 1).trans rfl, (blk_cell BK420.out 2).trans rfl, (blk_cell BK420.out 3).trans rfl, (blk_cell BK420.out 4).trans rfl, (blk_cell BK420.out 5).trans rfl, (tW HB hw426_0)⟩ (fun hHeld => ?_); refine with_tabW impl_Raga_firstWrong.tab7 impl_Raga_firstWrong.bits7 (fun HT_ HW_ => ?_)
             generalize w25.drew = w26 at BK420 HB hx426_0 hHeld ⊢
             refine pV 0 (some 39) [1, 10] rfl rfl HT_ ?_
             refine pV 2 (some 41) [1, 1, 1, 8] rfl rfl HT_ ?_
             refine pV 3 (some 42) [1, 1, 2, 7] rfl rfl HT_ ?_
             refine pV 4 (some 43) [1, 1, 3, 6] rfl rfl HT_ ?_
             refine pV 5 (some 44) [1, 1, 4, 5] rfl rfl HT_ ?_
             refine pV 7 (some 46) [1, 1, 4, 1, 1, 3] rfl rfl HT_ ?_
             refine pT 1 (some 40) (bq [6, 1, 1, 3]) rfl rfl HT_ HW_ hHeld ?_
             refine pT 6 (some 45) (bq [8, 3]) rfl rfl HT_ HW_ hHeld ?_
             refine pO 8 (some 47) (bq [9, 2]) rfl rfl HT_ (fun K hK => ?_)
             refine goes_ Try.func256 (by kernel_rfl) rfl #[.agg #[.string a0_0, .slice A0_1 l0_1.length c0_1, .slice A0_2 l0_2.length c0_2, .int .i64 a0_3, .int .i64 a0_4, .slice A0_5 l0_5.length c0_5], .int .i64 (rd l1 (ji16)), .int .i64 (rd l1 x10_1)] (by rfl) rfl rfl (by (try simp only [List.map_toArray, List.map_cons, List.map_nil]); first | done | (simp only [hji16]; rfl) | rfl | (simp only [List.length_drop, List.length_take]; rfl)) ?_
             with_reducible refine (impl_Raga_reason.calls kj6 a0_0 _ _ l0_1 _ _ l0_2 a0_3 a0_4 _ _ l0_5 (rd l1 (ji16)) (rd l1 x10_1) t427 _ ?side1 ?side2 ?side3 ?side4 ?side5 ?side6 A23.out).mono ?_
             (case side1 => exact tC (Kd.C_below HR0_1.out HB.out))
             (case side2 => exact HC0_1.out)
             (case side3 => exact tC (Kd.C_below HR0_2.out HB.out))
             (case side4 => exact HC0_2.out)
             (case side5 => exact tC (Kd.C_below HR0_5.out HB.out))
             (case side6 => exact HC0_5.out)
             rintro e w27 ⟨rfl, hb⟩
             refine ⟨_, rfl, ?_⟩
             replace BK420 := tbB BK420 hb
             replace HB := Aside0.mk (below_step (tH1 HB GE420.out) hb)
             (try clear hb)
             (try clear hb2)
             (try clear hk)
             (try clear hi)
             refine hK.out _ _ ⟨(blk_cell BK420.out 0).trans rfl, (blk_cell BK420.out 1).trans rfl, (blk_cell BK420.out 2).trans rfl, (blk_cell BK420.out 3).trans rfl, (blk_cell BK420.out 4).trans rfl, (blk_cell BK420.out 5).trans rfl, (tW HB hw426_0)⟩ (fun hHeld => ?_)
             clear hK K
             refine nO (some 47) ?_
             refine pV 9 (some 4) [10, 1] rfl rfl HT_ ?_
             refine pV 10 (some 5) [11] rfl rfl HT_ ?_
             refine done_ (done_of HT_.out (by kernel_rfl)) ?_
             try go_wp2
             go_ret2
             exact ⟨by first | rfl | (simp [errW_none, errW_some] <;> rfl) | (simp only [← hji16]; first | rfl | (simp [errW_none, errW_some] <;> rfl)) | (simp [*, errW_none, errW_some] <;> rfl), tH1 HB GE420.out⟩
           rw [if_neg c18] at H
           exact absurd H (by simp)
         rw [if_neg c17] at H
         exact absurd H (by simp)
       rw [if_neg c15] at H
       have c15b0 : decide (0 < x10_1) = false := decide_eq_false c15
       clear c15
       have H' := Aside0.mk H
       clear H
       try go_wp2
       replace BK420 := Aside0.mk (blk_drew BK420.out)
       replace HB := Aside0.mk (below_drew1 HB.out)
       refine start_ (n := 14) (S := fun w' => True) (ds := []) (bq [0, 14]) (by kernel_rfl) rfl rfl trivial (fun hHeld => ?_); refine with_tabW impl_Raga_firstWrong.tab6 impl_Raga_firstWrong.bits6 (fun HT_ HW_ => ?_)
       generalize wc.drew = w28 at BK420 HB hHeld ⊢
       refine pV 0 (some 26) [1, 13] rfl rfl HT_ ?_
       refine pV 1 (some 27) [2, 12] rfl rfl HT_ ?_
       refine pV 2 (some 28) [3, 11] rfl rfl HT_ ?_
       refine pU 3 (some 29) [4, 10] rfl rfl HT_ ?_
       refine pU 4 (some 30) [5, 9] rfl rfl HT_ ?_
       refine pU 5 (some 31) [6, 8] rfl rfl HT_ ?_
       refine pU 6 (some 32) [7, 7] rfl rfl HT_ ?_
       refine pU 7 (some 33) [8, 6] rfl rfl HT_ ?_
       refine pU 8 (some 34) [9, 5] rfl rfl HT_ ?_
       refine pU 9 (some 35) [10, 4] rfl rfl HT_ ?_
       refine pU 10 (some 36) [11, 3] rfl rfl HT_ ?_
       refine pU 11 (some 37) [12, 2] rfl rfl HT_ ?_
       refine pV 12 (some 38) [13, 1] rfl rfl HT_ ?_
       refine pV 13 (some 25) [14] rfl rfl HT_ ?_
       refine done_ (done_of HT_.out (by kernel_rfl)) ?_
       try go_wp2
       go_roundg kj6
       case measure => have := HK1.out; have := HJ6.out; omega
       case rel => exact ⟨(wrap64 (x10_1 + 1)), tq, H', ⟨by have := HK1.out; have := HJ6.out; omega⟩, ⟨tB BK420⟩, ⟨tH1 HB GE420.out⟩⟩
     rw [if_neg c6] at H
     exact absurd H (by simp)
   rw [if_neg c5] at H
   exact absurd H (by simp)
 rw [if_neg c4] at H
 have c4b0 : decide (x10_1 < (l1.length : Int)) = false := decide_eq_false c4
 clear c4
 simp only [Option.some.injEq, Prod.mk.injEq] at H
 obtain ⟨rfl, rfl⟩ := H
 go_wp2
 go_ret2
 exact ⟨tE, tH1 HB GE420.out⟩

end Go.Proofs.Ytbedlmlofnphkaa.PZ
