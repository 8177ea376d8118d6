-- WRITTEN BY wip/gprint.py, a program of this session's over the kit's print, with contracts given by hand
import Derived.Test.YtmeflmlejcmckaaDoorPBx0
import Derived.Test.YtmeflmlejcmckaaDoorPBx12
import Derived.Test.YtmeflmlejcmckaaDoorPBx16
import Derived.Test.YtmeflmlejcmckaaDoorPBx18
namespace Go.Proofs.YtmeflmlejcmckaaDoor.PB
open Go.RowKit Go.Proofs.YtmeflmlejcmckaaDoorW.PrintWords Go.Proofs.YtmeflmlejcmckaaDoorW.PrintLast Go.Proofs.YtmeflmlejcmckaaDoorW.PrintMore
attribute [local go_sem] max2_int min2_int max_two min_two max_three min_three max_four min_four   -- for this text's walks alone
set_option linter.unusedVariables false
set_option linter.unusedSimpArgs false

/-! ### impl_PureBeats: function 47 -/
mutual
def impl_PureBeats.l0 : Nat → Int → Int → Int → Int → Int → Int → Option (Int × Int × Int × Int)
 | 0, _, _, _, _, _, _ => none
 | k + 1, x13, x14, x15, x16, x17, x18 => if x18 ≤ 16 then (impl_PureBeats.l1 k x13 x14 x15 x16 x17 x18 1) else (some (x15, x16, x17, 0))
def impl_PureBeats.l1 : Nat → Int → Int → Int → Int → Int → Int → Int → Option (Int × Int × Int × Int)
 | 0, _, _, _, _, _, _, _ => none
 | k + 1, x13, x14, x15, x16, x17, x18, x19 => if x19 ≤ 16 then ((impl_abs.f (wrap64 ((wrap64 (x18 * x13)) - (wrap64 (x19 * x14))))).bind fun t340 => (if x17 < 0 then (impl_PureBeats.l1 k x13 x14 x18 x19 t340 x18 (wrap64 (x19 + 1))) else (if t340 < x17 then (impl_PureBeats.l1 k x13 x14 x18 x19 t340 x18 (wrap64 (x19 + 1))) else (impl_PureBeats.l1 k x13 x14 x15 x16 x17 x18 (wrap64 (x19 + 1)))))) else (impl_PureBeats.l0 k x13 x14 x15 x16 x17 (wrap64 (x18 + 1)))
end
def impl_PureBeats.f (k : Nat) (a0_0 : ByteArray) (l0_1 : List (S52)) (a1 : Int) (a2 : Int) (a3 : Int) : Option (Int × Int × Int × Int) := (impl_tuningCode.f k a0_0 l0_1 a1 (([a2, a3] : List Int))).bind fun t337 => (if t337 = 0 then ((impl_Tuning_frequency.f a0_0 l0_1 a1 a2).bind fun t338 => ((impl_Tuning_frequency.f a0_0 l0_1 a1 a3).bind fun t339 => (impl_PureBeats.l0 k t338 t339 0 0 (-1) 1))) else (some (0, 0, 0, t337)))
theorem impl_PureBeats.mono_l : ∀ k, (∀ y0 y1 y2 y3 y4 y5, LeO (impl_PureBeats.l0 k y0 y1 y2 y3 y4 y5) (impl_PureBeats.l0 (k + 1) y0 y1 y2 y3 y4 y5)) ∧ (∀ y0 y1 y2 y3 y4 y5 y6, LeO (impl_PureBeats.l1 k y0 y1 y2 y3 y4 y5 y6) (impl_PureBeats.l1 (k + 1) y0 y1 y2 y3 y4 y5 y6))
 | 0 => ⟨fun _ _ _ _ _ _ r h => by simp [impl_PureBeats.l0] at h, fun _ _ _ _ _ _ _ r h => by simp [impl_PureBeats.l1] at h⟩
 | k + 1 => by
  obtain ⟨ih0, ih1⟩ := impl_PureBeats.mono_l k
  refine ⟨?_, ?_⟩
  all_goals (intros; (first | unfold impl_PureBeats.l0 | unfold impl_PureBeats.l1); repeat' first
   | (with_reducible exact ih0 _ _ _ _ _ _)
   | (with_reducible exact ih1 _ _ _ _ _ _ _)
   | (with_reducible exact impl_tuningCode.mono _ _ _ _ _)
   | (with_reducible exact LeO.refl _)
   | (with_reducible exact LeO.none _)
   | (with_reducible refine LeO.ite ?_ ?_)
   | (with_reducible refine LeO.bind ?_ (fun _ => ?_))
   | exact ih0 _ _ _ _ _ _
   | exact ih1 _ _ _ _ _ _ _
   | exact impl_tuningCode.mono _ _ _ _ _
   | exact LeO.none _
   | refine LeO.ite ?_ ?_
   | refine LeO.bind ?_ (fun _ => ?_))
theorem impl_PureBeats.mono : ∀ a0 a1 a2 a3 a4 k, LeO (impl_PureBeats.f k a0 a1 a2 a3 a4) (impl_PureBeats.f (k + 1) a0 a1 a2 a3 a4) := by
 intro a0 a1 a2 a3 a4 k
 obtain ⟨ih0, ih1⟩ := impl_PureBeats.mono_l k
 unfold impl_PureBeats.f
 repeat' first
  | (with_reducible exact ih0 _ _ _ _ _ _)
  | (with_reducible exact ih1 _ _ _ _ _ _ _)
  | (with_reducible exact impl_tuningCode.mono _ _ _ _ _)
  | (with_reducible exact LeO.refl _)
  | (with_reducible exact LeO.none _)
  | (with_reducible refine LeO.ite ?_ ?_)
  | (with_reducible refine LeO.bind ?_ (fun _ => ?_))
  | exact ih0 _ _ _ _ _ _
  | exact ih1 _ _ _ _ _ _ _
  | exact impl_tuningCode.mono _ _ _ _ _
  | exact LeO.none _
  | refine LeO.ite ?_ ?_
  | refine LeO.bind ?_ (fun _ => ?_)
def impl_PureBeats.T4 : Bool × List (List Nat × List Nat) := (true, [([], []), ([], []), ([], []), ([0, 1, 2], [0, 1, 2]), ([], []), ([], []), ([], []), ([4, 5, 6, 3], [4, 5, 6]), ([3, 7, 0, 1, 2, 3], [3]), ([7, 8, 0, 1, 2, 3, 4, 5, 6, 7, 8], [7])])
def impl_PureBeats.B4 : List Nat := [0, 0, 0, 7, 0, 0, 0, 127, 255, 511]
theorem impl_PureBeats.tab4 : rtab .any (opsOf Tryd.f47 4) = impl_PureBeats.T4 := by kernel_rfl
theorem impl_PureBeats.bits4 : waitsOk impl_PureBeats.T4.2 impl_PureBeats.B4 = true := by kernel_rfl
set_option maxHeartbeats 8000000 in
set_option maxRecDepth 100000 in
theorem impl_PureBeats.calls (k : Nat) (a0_0 : ByteArray) (A0_1 : Option Addr) (c0_1 : Nat) (l0_1 : List (S52)) (a1 : Int) (a2 : Int) (a3 : Int) (r1 : Int) (r2 : Int) (r3 : Int) (r4 : Int) (w : World) (hr0_1 : Kd.C k52 w A0_1 l0_1.length l0_1) (hc0_1 : l0_1.length ≤ c0_1) (h : impl_PureBeats.f k a0_0 l0_1 a1 a2 a3 = some (r1, r2, r3, r4)) :
 Calls Tryd.prog 47 #[.agg #[.string a0_0, .slice A0_1 l0_1.length c0_1], .int .i64 a1, .int .i64 a2, .int .i64 a3] w fun e w' => e = .returned (.tuple #[.int .i64 r1, .int .i64 r2, .int .i64 r3, .int .i64 r4]) ∧ Below w.heap.size w w' := by
 have hu71 := Tryd.underlying71
 have HR0_1 := Aside0.mk hr0_1
 have HC0_1 := Aside0.mk hc0_1
 clear hr0_1 hc0_1
 have HB := Aside0.mk (Below.refl w.heap.size w)
 have H : ((impl_tuningCode.f k a0_0 l0_1 a1 (([a2, a3] : List Int))).bind fun t337 => (if t337 = 0 then ((impl_Tuning_frequency.f a0_0 l0_1 a1 a2).bind fun t338 => ((impl_Tuning_frequency.f a0_0 l0_1 a1 a3).bind fun t339 => (impl_PureBeats.l0 k t338 t339 0 0 (-1) 1))) else (some (0, 0, 0, t337)))) = some (r1, r2, r3, r4) := h
 clear h
 obtain ⟨y334, hy334⟩ : ∃ y_ : List Int, y_ = (([a2, a3] : List Int)) := ⟨_, rfl⟩
 replace H : ((impl_tuningCode.f k a0_0 l0_1 a1 y334).bind fun t337 => (if t337 = 0 then ((impl_Tuning_frequency.f a0_0 l0_1 a1 a2).bind fun t338 => ((impl_Tuning_frequency.f a0_0 l0_1 a1 a3).bind fun t339 => (impl_PureBeats.l0 k t338 t339 0 0 (-1) 1))) else (some (0, 0, 0, t337)))) = some (r1, r2, r3, r4) := by first | (rw [hy334]; with_reducible exact H) | (have H2_ := (Option.bind_some _ _).symm.trans H; rw [hy334]; with_reducible exact H2_) | (have H2_ := (Option.bind_some _ _).symm.trans H; with_reducible exact H2_) | with_reducible exact H | (rw [hy334]; exact H) | exact H
 have Ny334 := Aside0.mk hy334
 clear hy334
 replace H := Option.bind_eq_some_iff.mp H
 obtain ⟨t337, A50, H⟩ := H
 replace H : (if t337 = 0 then ((impl_Tuning_frequency.f a0_0 l0_1 a1 a2).bind fun t338 => ((impl_Tuning_frequency.f a0_0 l0_1 a1 a3).bind fun t339 => (impl_PureBeats.l0 k t338 t339 0 0 (-1) 1))) else (some (0, 0, 0, t337))) = some (r1, r2, r3, r4) := H
 have A5 := Aside0.mk A50
 clear A50
 by_cases c6 : t337 = 0
 · rw [if_pos c6] at H
   have c6b0 : (t337 == 0) = true := beq_iff_eq.mpr c6
   have c6b1 : (t337 != 0) = false := bne_eq_false_iff_eq.mpr c6
   clear c6
   replace H := Option.bind_eq_some_iff.mp H
   obtain ⟨t338, A70, H⟩ := H
   replace H : ((impl_Tuning_frequency.f a0_0 l0_1 a1 a3).bind fun t339 => (impl_PureBeats.l0 k t338 t339 0 0 (-1) 1)) = some (r1, r2, r3, r4) := H
   have A7 := Aside0.mk A70
   clear A70
   replace H := Option.bind_eq_some_iff.mp H
   obtain ⟨t339, A80, H⟩ := H
   replace H : (impl_PureBeats.l0 k t338 t339 0 0 (-1) 1) = some (r1, r2, r3, r4) := H
   have A8 := Aside0.mk A80
   clear A80
   have H' := Aside0.mk H
   clear H
   go_enter Tryd.func47, Tryd.ntmps47
   try go_wp2_with (first | ((with_reducible refine gate_dst (N := 4) rfl ?_); refine box_event ?hg (N := 4) ?hd (cs := #[.string a0_0, .slice A0_1 l0_1.length c0_1]) (t := 71) ?hr ?_; (case hd => rfl); (case hg => rfl); (case hr => first | (go_simp; done) | (go_simp; rfl)); intro gb333 hg w9 hbox hb; have BK333 := Aside0.mk (hbox); have GW333 := Aside0.mk ((by rw [hg]; exact (below_size (tH HB)) : w.heap.size ≤ gb333)); have GE333 := Aside0.mk ((by rw [hg]; exact (below_size (tH HB)) : w.heap.size ≤ gb333)); replace HB := Aside0.mk (below_step (tH HB) hb); clear hb hbox hg; have hcz10_0 : w9.cell? ⟨gb333, 0, none⟩ = some (.string a0_0) := (blk_cell BK333.out 0).trans rfl; have hcz10_1 : w9.cell? ⟨gb333, 1, none⟩ = some (.slice A0_1 l0_1.length c0_1) := (blk_cell BK333.out 1).trans rfl; have hfz10_0 := blk_frozen BK333.out 0; have hfz10_1 := blk_frozen BK333.out 1) | ((with_reducible refine gate_dst (N := 25) rfl ?_); refine Kd.R_lit (Kd.int .i64) _ 2 ?hg (N := 25) ?hd (xs := ([a2, a3] : List Int)) (inner := [.int .i64 a2, .int .i64 a3]) (ok := fun _ => True) (okp := fun _ => True) ?hr ?hp (fun _ hk => hk) trivial (Below.refl _ _) (Nat.le_refl _) (by simp) ?_; (case hd => rfl); (case hg => rfl); (case hr => first | (go_simp; done) | (go_simp; rfl)); (case hp => exact (Reps.one (show Kd.M (Kd.int .i64) _ _ _ a2 [.int .i64 a2] from rfl) (Reps.one (show Kd.M (Kd.int .i64) _ _ _ a3 [.int .i64 a3] from rfl) (Reps.none _ _)))); intro v335 w11 ho12 hb hg_ hnew_; clear hg_ hnew_; (first | rw [← Ny334.out] at ho12 | (simp only [Int.reduceToNat] at ho12; rw [← Ny334.out] at ho12)); have HO336 := Aside0.mk (Kd.R_lower ho12 (below_size (tH1 HB GE333.out))); replace BK333 := tbB BK333 hb; replace HB := Aside0.mk (below_step (tH1 HB GE333.out) hb); clear hb ho12; obtain ⟨Ao13, co13, eo13⟩ := Kd.R_slice HO336.out; subst eo13) | ((with_reducible refine gate_callee (f := 124) rfl ?_); refine gL_ (some 26) rfl rfl Tryd.func124 #[.agg #[.string a0_0, .slice A0_1 l0_1.length c0_1], .int .i64 a1, .slice Ao13 y334.length co13] rfl ?_; (with_reducible refine (impl_tuningCode.calls k a0_0 _ _ l0_1 a1 _ _ y334 t337 _ ?side1 ?side2 ?side3 ?side4 A5.out).mono ?_); (case side1 => exact tC (Kd.C_below HR0_1.out HB.out)); (case side2 => exact HC0_1.out); (case side3 => exact tC (Kd.R_reads' HO336.out).2.2); (case side4 => exact (Kd.R_reads' HO336.out).2.1); rintro e w14 ⟨rfl, hb⟩; refine ⟨_, rfl, ?_⟩; replace HO336 := Aside0.mk (Kd.R_below (tR HO336) hb); replace BK333 := tbB BK333 hb; replace HB := Aside0.mk (below_step (tH1 HB GE333.out) hb); (try clear hb); (try clear hb2); (try clear hk); (try clear hi)))
   replace HO336 := Aside0.mk (Kd.R_drew HO336.out)
   replace BK333 := Aside0.mk (blk_drew BK333.out)
   replace HB := Aside0.mk (below_drew1 HB.out)
   refine start_ (n := 10) (S := fun w' => w'.cell? ⟨gb333, 0, none⟩ = some (.string a0_0) ∧ w'.cell? ⟨gb333, 1, none⟩ = some (.slice A0_1 l0_1.length c0_1)) (ds := []) (bq [0, 10]) (by kernel_rfl) rfl rfl ⟨(blk_cell BK333.out 0).trans rfl, (blk_cell BK333.out 1).trans rfl⟩ (fun hHeld => ?_); refine with_tabW impl_PureBeats.tab4 impl_PureBeats.bits4 (fun HT_ HW_ => ?_)
   generalize w14.drew = w15 at HO336 BK333 HB hHeld ⊢
   refine pV 1 (some 31) [0, 1, 1, 8] rfl rfl HT_ ?_
   refine pV 2 (some 32) [0, 1, 2, 7] rfl rfl HT_ ?_
   refine pV 5 (some 35) [0, 1, 2, 2, 1, 4] rfl rfl HT_ ?_
   refine pV 6 (some 36) [0, 1, 2, 2, 2, 3] rfl rfl HT_ ?_
   refine pT 0 (some 30) (bq [3, 2, 2, 3]) rfl rfl HT_ HW_ hHeld ?_
   refine pT 4 (some 34) (bq [3, 1, 3, 3]) rfl rfl HT_ HW_ hHeld ?_
   refine pO 3 (some 33) (bq [7, 3]) rfl rfl HT_ (fun K hK => ?_)
   refine gS_ Tryd.func125 #[.agg #[.string a0_0, .slice A0_1 l0_1.length c0_1], .int .i64 a1, .int .i64 a2] rfl rfl ?_
   with_reducible refine (impl_Tuning_frequency.calls a0_0 _ _ l0_1 a1 a2 t338 _ ?side1 ?side2 A7.out).mono ?_
   (case side1 => exact tC (Kd.C_below HR0_1.out HB.out))
   (case side2 => exact HC0_1.out)
   rintro e w16 ⟨rfl, hb⟩
   refine ⟨_, rfl, ?_⟩
   replace HO336 := Aside0.mk (Kd.R_below (tR HO336) hb)
   replace BK333 := tbB BK333 hb
   replace HB := Aside0.mk (below_step (tH1 HB GE333.out) hb)
   (try clear hb)
   (try clear hb2)
   (try clear hk)
   (try clear hi)
   refine hK.out _ _ ⟨(blk_cell BK333.out 0).trans rfl, (blk_cell BK333.out 1).trans rfl⟩ (fun hHeld => ?_)
   clear hK K
   refine nO (some 33) ?_
   refine pO 7 (some 37) (bq [8, 2]) rfl rfl HT_ (fun K hK => ?_)
   refine gS_ Tryd.func125 #[.agg #[.string a0_0, .slice A0_1 l0_1.length c0_1], .int .i64 a1, .int .i64 a3] rfl rfl ?_
   with_reducible refine (impl_Tuning_frequency.calls a0_0 _ _ l0_1 a1 a3 t339 _ ?side1 ?side2 A8.out).mono ?_
   (case side1 => exact tC (Kd.C_below HR0_1.out HB.out))
   (case side2 => exact HC0_1.out)
   rintro e w17 ⟨rfl, hb⟩
   refine ⟨_, rfl, ?_⟩
   replace HO336 := Aside0.mk (Kd.R_below (tR HO336) hb)
   replace BK333 := tbB BK333 hb
   replace HB := Aside0.mk (below_step (tH1 HB GE333.out) hb)
   (try clear hb)
   (try clear hb2)
   (try clear hk)
   (try clear hi)
   refine hK.out _ _ ⟨(blk_cell BK333.out 0).trans rfl, (blk_cell BK333.out 1).trans rfl⟩ (fun hHeld => ?_)
   clear hK K
   refine nO (some 37) ?_
   refine pV 8 (some 13) [9, 1] rfl rfl HT_ ?_
   refine pV 9 (some 14) [10] rfl rfl HT_ ?_
   refine done_ (done_of HT_.out (by kernel_rfl)) ?_
   try go_wp2
   go_loopg [15, 16, 17, 18] k (fun kq v15 v16 v17 v18 w' => ∃ (x15_1 : Int) (x16_1 : Int) (x17_1 : Int) (x18_1 : Int), v15 = .int .i64 x15_1 ∧ v16 = .int .i64 x16_1 ∧ v17 = .int .i64 x17_1 ∧ v18 = .int .i64 x18_1 ∧ Aside0 (impl_PureBeats.l0 kq t338 t339 x15_1 x16_1 x17_1 x18_1 = some (r1, r2, r3, r4)) ∧ Aside0 (kq ≤ k) ∧ Aside0 (w'.heap[gb333]? = some (.cells #[.string a0_0, (.slice A0_1 l0_1.length c0_1)] 71 (0, 0))) ∧ Aside0 (Below w.heap.size w w'))
   case atStart => exact ⟨(0), (0), ((-1)), (1), tq, tq, tq, tq, H', ⟨Nat.le_refl _⟩, ⟨tB BK333⟩, ⟨tH1 HB GE333.out⟩⟩
   case round =>
   clear H'
   try clear c1
   try clear p2
   try clear c4
   try clear c6
   try clear c6b0
   try clear c6b1
   try clear c12
   try clear hcz10_0 hcz10_1
   try clear hfz10_0 hfz10_1
   obtain ⟨x15_1, x16_1, x17_1, x18_1, rfl, rfl, rfl, rfl, HA, HK1, BK333, HB⟩ := hrel
   cases gk with
   | zero => exact absurd HA.out (by simp [impl_PureBeats.l0])
   | succ k1 =>
   have H := HA.out
   clear HA
   simp only [impl_PureBeats.l0] at H
   by_cases c18 : x18_1 ≤ 16
   · rw [if_pos c18] at H
     have c18b0 : decide (x18_1 ≤ 16) = true := decide_eq_true c18
     clear c18
     have H' := Aside0.mk H
     clear H
     go_wp2
     go_loopg [15, 16, 17, 19] k1 (fun kq v15 v16 v17 v19 w' => ∃ (x15_2 : Int) (x16_2 : Int) (x17_2 : Int) (x19_2 : Int), v15 = .int .i64 x15_2 ∧ v16 = .int .i64 x16_2 ∧ v17 = .int .i64 x17_2 ∧ v19 = .int .i64 x19_2 ∧ Aside0 (impl_PureBeats.l1 kq t338 t339 x15_2 x16_2 x17_2 x18_1 x19_2 = some (r1, r2, r3, r4)) ∧ Aside0 (kq ≤ k1) ∧ Aside0 (w'.heap[gb333]? = some (.cells #[.string a0_0, (.slice A0_1 l0_1.length c0_1)] 71 (0, 0))) ∧ Aside0 (Below w.heap.size w w'))
     case atStart => exact ⟨(x15_1), (x16_1), (x17_1), (1), tq, tq, tq, tq, H', ⟨Nat.le_refl _⟩, ⟨tB BK333⟩, ⟨tH1 HB GE333.out⟩⟩
     case round =>
     clear H'
     try clear c1
     try clear p2
     try clear c4
     try clear c6
     try clear c6b0
     try clear c6b1
     try clear c12
     try clear c18
     try clear c18b0
     try clear hcz10_0 hcz10_1
     try clear hfz10_0 hfz10_1
     try clear p2
     obtain ⟨x15_2, x16_2, x17_2, x19_2, rfl, rfl, rfl, rfl, HA, HK2, BK333, HB⟩ := hrel
     cases gk with
     | zero => exact absurd HA.out (by simp [impl_PureBeats.l1])
     | succ k2 =>
     have H := HA.out
     clear HA
     simp only [impl_PureBeats.l1] at H
     by_cases c19 : x19_2 ≤ 16
     · rw [if_pos c19] at H
       have c19b0 : decide (x19_2 ≤ 16) = true := decide_eq_true c19
       clear c19
       replace H := Option.bind_eq_some_iff.mp H
       obtain ⟨t340, A200, H⟩ := H
       replace H : (if x17_2 < 0 then (impl_PureBeats.l1 k2 t338 t339 x18_1 x19_2 t340 x18_1 (wrap64 (x19_2 + 1))) else (if t340 < x17_2 then (impl_PureBeats.l1 k2 t338 t339 x18_1 x19_2 t340 x18_1 (wrap64 (x19_2 + 1))) else (impl_PureBeats.l1 k2 t338 t339 x15_2 x16_2 x17_2 x18_1 (wrap64 (x19_2 + 1))))) = some (r1, r2, r3, r4) := H
       have A20 := Aside0.mk A200
       clear A200
       by_cases c21 : x17_2 < 0
       · rw [if_pos c21] at H
         have c21b0 : decide (x17_2 < 0) = true := decide_eq_true c21
         clear c21
         have H' := Aside0.mk H
         clear H
         go_wp2_with (first | ((with_reducible refine gate_callee (f := 116) rfl ?_); refine gL_ (some 53) rfl rfl Tryd.func116 #[.int .i64 (wrap64 ((wrap64 (x18_1 * t338)) - (wrap64 (x19_2 * t339))))] rfl ?_; (with_reducible refine (impl_abs.calls (wrap64 ((wrap64 (x18_1 * t338)) - (wrap64 (x19_2 * t339)))) t340 _ A20.out).mono ?_); rintro e w22 ⟨rfl, hb⟩; refine ⟨_, rfl, ?_⟩; replace BK333 := tbB BK333 hb; replace HB := Aside0.mk (below_step (tH1 HB GE333.out) hb); (try clear hb); (try clear hb2); (try clear hk); (try clear hi)))
         go_roundg k2
         case measure => have := HK1.out; have := HK2.out; omega
         case rel => exact ⟨(x18_1), (x19_2), (t340), (wrap64 (x19_2 + 1)), tq, tq, tq, tq, H', ⟨by have := HK1.out; have := HK2.out; omega⟩, ⟨tB BK333⟩, ⟨tH1 HB GE333.out⟩⟩
       rw [if_neg c21] at H
       have c21b0 : decide (x17_2 < 0) = false := decide_eq_false c21
       clear c21
       by_cases c23 : t340 < x17_2
       · rw [if_pos c23] at H
         have c23b0 : decide (t340 < x17_2) = true := decide_eq_true c23
         clear c23
         have H' := Aside0.mk H
         clear H
         go_wp2_with (first | ((with_reducible refine gate_callee (f := 116) rfl ?_); refine gL_ (some 53) rfl rfl Tryd.func116 #[.int .i64 (wrap64 ((wrap64 (x18_1 * t338)) - (wrap64 (x19_2 * t339))))] rfl ?_; (with_reducible refine (impl_abs.calls (wrap64 ((wrap64 (x18_1 * t338)) - (wrap64 (x19_2 * t339)))) t340 _ A20.out).mono ?_); rintro e w24 ⟨rfl, hb⟩; refine ⟨_, rfl, ?_⟩; replace BK333 := tbB BK333 hb; replace HB := Aside0.mk (below_step (tH1 HB GE333.out) hb); (try clear hb); (try clear hb2); (try clear hk); (try clear hi)))
         go_roundg k2
         case measure => have := HK1.out; have := HK2.out; omega
         case rel => exact ⟨(x18_1), (x19_2), (t340), (wrap64 (x19_2 + 1)), tq, tq, tq, tq, H', ⟨by have := HK1.out; have := HK2.out; omega⟩, ⟨tB BK333⟩, ⟨tH1 HB GE333.out⟩⟩
       rw [if_neg c23] at H
       have c23b0 : decide (t340 < x17_2) = false := decide_eq_false c23
       clear c23
       have H' := Aside0.mk H
       clear H
       go_wp2_with (first | ((with_reducible refine gate_callee (f := 116) rfl ?_); refine gL_ (some 53) rfl rfl Tryd.func116 #[.int .i64 (wrap64 ((wrap64 (x18_1 * t338)) - (wrap64 (x19_2 * t339))))] rfl ?_; (with_reducible refine (impl_abs.calls (wrap64 ((wrap64 (x18_1 * t338)) - (wrap64 (x19_2 * t339)))) t340 _ A20.out).mono ?_); rintro e w25 ⟨rfl, hb⟩; refine ⟨_, rfl, ?_⟩; replace BK333 := tbB BK333 hb; replace HB := Aside0.mk (below_step (tH1 HB GE333.out) hb); (try clear hb); (try clear hb2); (try clear hk); (try clear hi)))
       go_roundg k2
       case measure => have := HK1.out; have := HK2.out; omega
       case rel => exact ⟨(x15_2), (x16_2), (x17_2), (wrap64 (x19_2 + 1)), tq, tq, tq, tq, H', ⟨by have := HK1.out; have := HK2.out; omega⟩, ⟨tB BK333⟩, ⟨tH1 HB GE333.out⟩⟩
     rw [if_neg c19] at H
     have c19b0 : decide (x19_2 ≤ 16) = false := decide_eq_false c19
     clear c19
     have H' := Aside0.mk H
     clear H
     go_wp2
     go_roundg k2
     case measure => have := HK1.out; have := HK2.out; omega
     case rel => exact ⟨(x15_2), (x16_2), (x17_2), (wrap64 (x18_1 + 1)), tq, tq, tq, tq, H', ⟨by have := HK1.out; have := HK2.out; omega⟩, ⟨tB BK333⟩, ⟨tH1 HB GE333.out⟩⟩
   rw [if_neg c18] at H
   have c18b0 : decide (x18_1 ≤ 16) = false := decide_eq_false c18
   clear c18
   simp only [Option.some.injEq, Prod.mk.injEq] at H
   obtain ⟨rfl, rfl, rfl, rfl⟩ := H
   go_wp2
   refine bodyPost_ret (results_list (rs := [.tmp 8, .tmp 9, .tmp 10, .tmp 11]) rfl (by simp) (.tmp (.tmp (.tmp (.tmp .nil))))) rfl ?_
   exact ⟨tE, tH1 HB GE333.out⟩
 rw [if_neg c6] at H
 have c6b0 : (t337 == 0) = false := beq_eq_false_iff_ne.mpr c6
 have c6b1 : (t337 != 0) = true := bne_iff_ne.mpr c6
 simp only [Option.some.injEq, Prod.mk.injEq] at H
 obtain ⟨rfl, rfl, rfl, rfl⟩ := H
 go_enter Tryd.func47, Tryd.ntmps47
 go_wp2_with (first | ((with_reducible refine gate_dst (N := 4) rfl ?_); refine box_event ?hg (N := 4) ?hd (cs := #[.string a0_0, .slice A0_1 l0_1.length c0_1]) (t := 71) ?hr ?_; (case hd => rfl); (case hg => rfl); (case hr => first | (go_simp; done) | (go_simp; rfl)); intro gb333 hg w26 hbox hb; have BK333 := Aside0.mk (hbox); have GW333 := Aside0.mk ((by rw [hg]; exact (below_size (tH HB)) : w.heap.size ≤ gb333)); have GE333 := Aside0.mk ((by rw [hg]; exact (below_size (tH HB)) : w.heap.size ≤ gb333)); replace HB := Aside0.mk (below_step (tH HB) hb); clear hb hbox hg; have hcz27_0 : w26.cell? ⟨gb333, 0, none⟩ = some (.string a0_0) := (blk_cell BK333.out 0).trans rfl; have hcz27_1 : w26.cell? ⟨gb333, 1, none⟩ = some (.slice A0_1 l0_1.length c0_1) := (blk_cell BK333.out 1).trans rfl; have hfz27_0 := blk_frozen BK333.out 0; have hfz27_1 := blk_frozen BK333.out 1) | ((with_reducible refine gate_dst (N := 25) rfl ?_); refine Kd.R_lit (Kd.int .i64) _ 2 ?hg (N := 25) ?hd (xs := ([a2, a3] : List Int)) (inner := [.int .i64 a2, .int .i64 a3]) (ok := fun _ => True) (okp := fun _ => True) ?hr ?hp (fun _ hk => hk) trivial (Below.refl _ _) (Nat.le_refl _) (by simp) ?_; (case hd => rfl); (case hg => rfl); (case hr => first | (go_simp; done) | (go_simp; rfl)); (case hp => exact (Reps.one (show Kd.M (Kd.int .i64) _ _ _ a2 [.int .i64 a2] from rfl) (Reps.one (show Kd.M (Kd.int .i64) _ _ _ a3 [.int .i64 a3] from rfl) (Reps.none _ _)))); intro v335 w28 ho29 hb hg_ hnew_; clear hg_ hnew_; (first | rw [← Ny334.out] at ho29 | (simp only [Int.reduceToNat] at ho29; rw [← Ny334.out] at ho29)); have HO336 := Aside0.mk (Kd.R_lower ho29 (below_size (tH1 HB GE333.out))); replace BK333 := tbB BK333 hb; replace HB := Aside0.mk (below_step (tH1 HB GE333.out) hb); clear hb ho29; obtain ⟨Ao30, co30, eo30⟩ := Kd.R_slice HO336.out; subst eo30) | ((with_reducible refine gate_callee (f := 124) rfl ?_); refine gL_ (some 26) rfl rfl Tryd.func124 #[.agg #[.string a0_0, .slice A0_1 l0_1.length c0_1], .int .i64 a1, .slice Ao30 y334.length co30] rfl ?_; (with_reducible refine (impl_tuningCode.calls k a0_0 _ _ l0_1 a1 _ _ y334 t337 _ ?side1 ?side2 ?side3 ?side4 A5.out).mono ?_); (case side1 => exact tC (Kd.C_below HR0_1.out HB.out)); (case side2 => exact HC0_1.out); (case side3 => exact tC (Kd.R_reads' HO336.out).2.2); (case side4 => exact (Kd.R_reads' HO336.out).2.1); rintro e w31 ⟨rfl, hb⟩; refine ⟨_, rfl, ?_⟩; replace HO336 := Aside0.mk (Kd.R_below (tR HO336) hb); replace BK333 := tbB BK333 hb; replace HB := Aside0.mk (below_step (tH1 HB GE333.out) hb); (try clear hb); (try clear hb2); (try clear hk); (try clear hi)))
 refine bodyPost_ret (results_list (rs := [.tmp 8, .tmp 9, .tmp 10, .tmp 11]) rfl (by simp) (.tmp (.tmp (.tmp (.tmp .nil))))) rfl ?_
 exact ⟨tE, tH1 HB GE333.out⟩

end Go.Proofs.YtmeflmlejcmckaaDoor.PB
