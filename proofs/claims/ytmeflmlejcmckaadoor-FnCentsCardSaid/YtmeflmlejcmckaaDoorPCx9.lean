-- WRITTEN BY wip/gprint.py, a program of this session's over the kit's print, with contracts given by hand
import Derived.Test.YtmeflmlejcmckaaDoorPCx0
import Derived.Test.YtmeflmlejcmckaaDoorPCx5
namespace Go.Proofs.YtmeflmlejcmckaaDoor.PC
open Go.RowKit Go.Proofs.YtmeflmlejcmckaaDoorW.PrintWords Go.Proofs.YtmeflmlejcmckaaDoorW.PrintLast Go.Proofs.YtmeflmlejcmckaaDoorW.PrintMore
attribute [local go_sem] max2_int min2_int max_two min_two max_three min_three max_four min_four   -- for this text's walks alone
set_option linter.unusedVariables false
set_option linter.unusedSimpArgs false

attribute [local go_sem] isSome_setCell
/-! ### impl_reduced: function 112 -/
def impl_reduced.f (k : Nat) (a0 : Int) (a1 : Int) : Option (Int × Int × Int) := (impl_commonDivisor.f k a0 a1).bind fun t224 => (if t224 = 0 then (none) else (if (wrap64 (Int.tdiv a0 t224)) > 1000000 then (some (0, 0, 5)) else (if (wrap64 (Int.tdiv a1 t224)) > 1000000 then (some (0, 0, 5)) else (some (wrap64 (Int.tdiv a0 t224), wrap64 (Int.tdiv a1 t224), 0)))))
theorem impl_reduced.mono : ∀ a0 a1 k, LeO (impl_reduced.f k a0 a1) (impl_reduced.f (k + 1) a0 a1) := by
 intro a0 a1 k
 unfold impl_reduced.f
 repeat' first
  | (with_reducible exact impl_commonDivisor.mono _ _ _)
  | (with_reducible exact LeO.refl _)
  | (with_reducible exact LeO.none _)
  | (with_reducible refine LeO.ite ?_ ?_)
  | (with_reducible refine LeO.bind ?_ (fun _ => ?_))
  | exact impl_commonDivisor.mono _ _ _
  | exact LeO.none _
  | refine LeO.ite ?_ ?_
  | refine LeO.bind ?_ (fun _ => ?_)
def impl_reduced.T2 : Bool × List (List Nat × List Nat) := (true, [([], []), ([], []), ([0, 1], [0, 1]), ([], []), ([], []), ([3, 4], [3, 4]), ([2, 5], [2, 5]), ([], []), ([7, 6, 0, 1, 2, 3, 4, 5, 6, 7], [6, 7])])
def impl_reduced.B2 : List Nat := [0, 0, 3, 0, 0, 24, 63, 0, 255]
theorem impl_reduced.tab2 : rtab .any (opsOf Tryd.f112 2) = impl_reduced.T2 := by kernel_rfl
theorem impl_reduced.bits2 : waitsOk impl_reduced.T2.2 impl_reduced.B2 = true := by kernel_rfl
set_option maxHeartbeats 8000000 in
set_option maxRecDepth 100000 in
theorem impl_reduced.calls (k : Nat) (a0 : Int) (a1 : Int) (r1 : Int) (r2 : Int) (r3 : Int) (w : World) (h : impl_reduced.f k a0 a1 = some (r1, r2, r3)) :
 Calls Tryd.prog 112 #[.int .i64 a0, .int .i64 a1] w fun e w' => e = .returned (.tuple #[.agg #[.int .i64 r1, .int .i64 r2], .int .i64 r3]) ∧ Below w.heap.size w w' := by
 have hu52 := Tryd.underlying52
 have HB := Aside0.mk (Below.refl w.heap.size w)
 have H : ((impl_commonDivisor.f k a0 a1).bind fun t224 => (if t224 = 0 then (none) else (if (wrap64 (Int.tdiv a0 t224)) > 1000000 then (some (0, 0, 5)) else (if (wrap64 (Int.tdiv a1 t224)) > 1000000 then (some (0, 0, 5)) else (some (wrap64 (Int.tdiv a0 t224), wrap64 (Int.tdiv a1 t224), 0)))))) = some (r1, r2, r3) := h
 clear h
 replace H := Option.bind_eq_some_iff.mp H
 obtain ⟨t224, A30, H⟩ := H
 replace H : (if t224 = 0 then (none) else (if (wrap64 (Int.tdiv a0 t224)) > 1000000 then (some (0, 0, 5)) else (if (wrap64 (Int.tdiv a1 t224)) > 1000000 then (some (0, 0, 5)) else (some (wrap64 (Int.tdiv a0 t224), wrap64 (Int.tdiv a1 t224), 0))))) = some (r1, r2, r3) := H
 have A3 := Aside0.mk A30
 clear A30
 by_cases c4 : t224 = 0
 · rw [if_pos c4] at H
   exact absurd H (by simp)
 rw [if_neg c4] at H
 have c4b0 : (t224 == 0) = false := beq_eq_false_iff_ne.mpr c4
 have c4b1 : (t224 != 0) = true := bne_iff_ne.mpr c4
 by_cases c5 : (wrap64 (Int.tdiv a0 t224)) > 1000000
 · rw [if_pos c5] at H
   have c5b0 : decide (1000000 < (wrap64 (Int.tdiv a0 t224))) = true := decide_eq_true c5
   clear c5
   simp only [Option.some.injEq, Prod.mk.injEq] at H
   obtain ⟨rfl, rfl, rfl⟩ := H
   go_enter Tryd.func112, Tryd.ntmps112
   try go_wp2_with (first | ((with_reducible refine gate_dst (N := 4) rfl ?_); refine box_event ?hg (N := 4) ?hd (cs := #[.int .i64 0, .int .i64 0]) (t := 52) ?hr ?_; (case hd => rfl); (case hg => rfl); (case hr => first | (go_simp; done) | (go_simp; rfl)); intro gb223 hg w6 hbox hb; have BK223 := Aside0.mk (hbox); have GW223 := Aside0.mk ((by rw [hg]; exact (below_size (tH HB)) : w.heap.size ≤ gb223)); have GE223 := Aside0.mk ((by rw [hg]; exact (below_size (tH HB)) : w.heap.size ≤ gb223)); replace HB := Aside0.mk (below_step (tH HB) hb); clear hb hbox hg) | ((with_reducible refine gate_callee (f := 167) rfl ?_); refine gL_ (some 10) rfl rfl Tryd.func167 #[.int .i64 a0, .int .i64 a1] rfl ?_; (with_reducible refine (impl_commonDivisor.calls k a0 a1 t224 _ A3.out).mono ?_); rintro e w' ⟨rfl, ⟨nd, rfl⟩⟩; refine ⟨_, rfl, ?_⟩; (try (rw [drewN_self w6]; generalize hq_ : World.drewN w6 _ = w6; have n0_ : Aside0 (w6.heap[gb223]? = some (.cells #[.int .i64 0, .int .i64 0] 52 (0, 0))) := ⟨by rw [← hq_]; exact (tB BK223)⟩; have n1_ : Aside0 (Below w.heap.size w w6) := ⟨by rw [← hq_]; exact (tH1 HB GE223.out)⟩; clear BK223 HB hq_; have BK223 := n0_; have HB := n1_; clear n0_ n1_))))
   replace BK223 := Aside0.mk (blk_drew BK223.out)
   replace HB := Aside0.mk (below_drew1 HB.out)
   refine start_ (n := 9) (S := fun w' => True) (ds := []) (bq [0, 9]) (by kernel_rfl) rfl rfl trivial (fun hHeld => ?_); refine with_tabW impl_reduced.tab2 impl_reduced.bits2 (fun HT_ HW_ => ?_)
   generalize w6.drew = w7 at BK223 HB hHeld ⊢
   refine pV 0 (some 11) [1, 8] rfl rfl HT_ ?_
   refine pV 1 (some 12) [2, 7] rfl rfl HT_ ?_
   refine pV 2 (some 13) [3, 6] rfl rfl HT_ ?_
   refine pV 3 (some 14) [4, 5] rfl rfl HT_ ?_
   refine pV 4 (some 15) [5, 4] rfl rfl HT_ ?_
   refine pV 5 (some 16) [6, 3] rfl rfl HT_ ?_
   refine pV 6 (some 17) [7, 2] rfl rfl HT_ ?_
   refine pO 7 (some 7) (bq [8, 1]) rfl rfl HT_ (fun K hK => ?_)
   refine box_step ?hg (N := 7) ?hd (cs := #[.int .i64 0, .int .i64 0]) (t := 52) ?hr ?_; (case hd => rfl); (case hg => rfl); (case hr => first | (go_simp; done) | (go_simp; rfl))
   intro gb225 hg w8 hbox hb
   have BK225 := Aside0.mk (hbox)
   have GW225 := Aside0.mk ((by rw [hg]; exact (below_size (tH1 HB GE223.out)) : w.heap.size ≤ gb225))
   have GE225 := Aside0.mk ((by rw [hg]; exact (below_size (tH1 HB GE223.out)) : w.heap.size ≤ gb225))
   replace HB := Aside0.mk (below_step (tH1 HB GE223.out) hb)
   have NB223_225 := Aside0.mk ((by rw [hg]; exact Nat.ne_of_lt (blk_lt (g := gb223) (o := .cells #[.int .i64 0, .int .i64 0] 52 (0, 0)) (tB BK223)) : gb223 ≠ gb225))
   have NB225_223 := Aside0.mk ((by rw [hg]; exact Nat.ne_of_gt (blk_lt (g := gb223) (o := .cells #[.int .i64 0, .int .i64 0] 52 (0, 0)) (tB BK223)) : gb225 ≠ gb223))
   replace BK223 := tbB BK223 hb
   clear hb hbox hg
   refine hK.out _ _ trivial (fun hHeld => ?_)
   clear hK K
   refine nO (some 7) ?_
   refine pO 8 none (bq [9]) rfl rfl HT_ (fun K hK => ?_)
   have hs9 : w8.cell? ⟨gb225, 0, none⟩ = some (.int .i64 0) := (blk_cell BK225.out 0).trans rfl
   have hfs9 := blk_frozen BK225.out 0
   have hns9_0 := NB223_225.out
   have hms9_0 := NB225_223.out
   have hs10 : w8.cell? ⟨gb225, 1, none⟩ = some (.int .i64 0) := (blk_cell BK225.out 1).trans rfl
   have hfs10 := blk_frozen BK225.out 1
   have hns10_0 := NB223_225.out
   have hms10_0 := NB225_223.out
   refine skip_ (w1 := ?_) (by rfl) rfl ?_ ?_
   rotate_left
   · go_simp
     rfl
   refine hK.out _ _ trivial (fun hHeld => ?_)
   clear hK K
   refine done_ (done_of HT_.out (by kernel_rfl)) ?_
   have hnb11 := NB225_223.out
   have hnc11 := NB223_225.out
   have hcz12_0 : w8.cell? ⟨gb225, 0, none⟩ = some (.int .i64 0) := (blk_cell BK225.out 0).trans rfl
   have hcz12_1 : w8.cell? ⟨gb225, 1, none⟩ = some (.int .i64 0) := (blk_cell BK225.out 1).trans rfl
   have hfz12_0 := blk_frozen BK225.out 0
   have hfz12_1 := blk_frozen BK225.out 1
   have hcz13_0 : w8.cell? ⟨gb223, 0, none⟩ = some (.int .i64 0) := (blk_cell BK223.out 0).trans rfl
   have hcz13_1 : w8.cell? ⟨gb223, 1, none⟩ = some (.int .i64 0) := (blk_cell BK223.out 1).trans rfl
   have hfz13_0 := blk_frozen BK223.out 0
   have hfz13_1 := blk_frozen BK223.out 1
   try go_wp2
   refine bodyPost_ret (results_ct rfl _ _ gb223 52 #[.int .i64 0, .int .i64 0] (0, 0) _ rfl (by (with_reducible repeat (first | refine blk_drewN ?_ _ | refine blk_drew ?_ | refine blk_alloc ?_ _)); refine blk_put (cs := #[.int .i64 0, .int .i64 0]) ?_ 1 _ rfl; (with_reducible repeat (first | refine blk_drewN ?_ _ | refine blk_drew ?_ | refine blk_alloc ?_ _)); refine blk_put (cs := #[.int .i64 0, .int .i64 0]) ?_ 0 _ rfl; (with_reducible repeat (first | refine blk_drewN ?_ _ | refine blk_drew ?_ | refine blk_alloc ?_ _)); refine blk_far ?_ NB223_225.out _; (with_reducible repeat (first | refine blk_drewN ?_ _ | refine blk_drew ?_ | refine blk_alloc ?_ _)); refine blk_far ?_ NB223_225.out _; (with_reducible repeat (first | refine blk_drewN ?_ _ | refine blk_drew ?_ | refine blk_alloc ?_ _)); exact BK223.out) Tryd.underlying52 rfl (by kernel_rfl)) rfl ?_
   exact ⟨tE, tH2 HB GE223.out GE225.out⟩
 rw [if_neg c5] at H
 have c5b0 : decide (1000000 < (wrap64 (Int.tdiv a0 t224))) = false := decide_eq_false c5
 clear c5
 by_cases c14 : (wrap64 (Int.tdiv a1 t224)) > 1000000
 · rw [if_pos c14] at H
   have c14b0 : decide (1000000 < (wrap64 (Int.tdiv a1 t224))) = true := decide_eq_true c14
   clear c14
   simp only [Option.some.injEq, Prod.mk.injEq] at H
   obtain ⟨rfl, rfl, rfl⟩ := H
   go_enter Tryd.func112, Tryd.ntmps112
   try go_wp2_with (first | ((with_reducible refine gate_dst (N := 4) rfl ?_); refine box_event ?hg (N := 4) ?hd (cs := #[.int .i64 0, .int .i64 0]) (t := 52) ?hr ?_; (case hd => rfl); (case hg => rfl); (case hr => first | (go_simp; done) | (go_simp; rfl)); intro gb223 hg w15 hbox hb; have BK223 := Aside0.mk (hbox); have GW223 := Aside0.mk ((by rw [hg]; exact (below_size (tH HB)) : w.heap.size ≤ gb223)); have GE223 := Aside0.mk ((by rw [hg]; exact (below_size (tH HB)) : w.heap.size ≤ gb223)); replace HB := Aside0.mk (below_step (tH HB) hb); clear hb hbox hg) | ((with_reducible refine gate_callee (f := 167) rfl ?_); refine gL_ (some 10) rfl rfl Tryd.func167 #[.int .i64 a0, .int .i64 a1] rfl ?_; (with_reducible refine (impl_commonDivisor.calls k a0 a1 t224 _ A3.out).mono ?_); rintro e w' ⟨rfl, ⟨nd, rfl⟩⟩; refine ⟨_, rfl, ?_⟩; (try (rw [drewN_self w15]; generalize hq_ : World.drewN w15 _ = w15; have n0_ : Aside0 (w15.heap[gb223]? = some (.cells #[.int .i64 0, .int .i64 0] 52 (0, 0))) := ⟨by rw [← hq_]; exact (tB BK223)⟩; have n1_ : Aside0 (Below w.heap.size w w15) := ⟨by rw [← hq_]; exact (tH1 HB GE223.out)⟩; clear BK223 HB hq_; have BK223 := n0_; have HB := n1_; clear n0_ n1_))))
   replace BK223 := Aside0.mk (blk_drew BK223.out)
   replace HB := Aside0.mk (below_drew1 HB.out)
   refine start_ (n := 9) (S := fun w' => True) (ds := []) (bq [0, 9]) (by kernel_rfl) rfl rfl trivial (fun hHeld => ?_); refine with_tabW impl_reduced.tab2 impl_reduced.bits2 (fun HT_ HW_ => ?_)
   generalize w15.drew = w16 at BK223 HB hHeld ⊢
   refine pV 0 (some 11) [1, 8] rfl rfl HT_ ?_
   refine pV 1 (some 12) [2, 7] rfl rfl HT_ ?_
   refine pV 2 (some 13) [3, 6] rfl rfl HT_ ?_
   refine pV 3 (some 14) [4, 5] rfl rfl HT_ ?_
   refine pV 4 (some 15) [5, 4] rfl rfl HT_ ?_
   refine pV 5 (some 16) [6, 3] rfl rfl HT_ ?_
   refine pV 6 (some 17) [7, 2] rfl rfl HT_ ?_
   refine pO 7 (some 7) (bq [8, 1]) rfl rfl HT_ (fun K hK => ?_)
   refine box_step ?hg (N := 7) ?hd (cs := #[.int .i64 0, .int .i64 0]) (t := 52) ?hr ?_; (case hd => rfl); (case hg => rfl); (case hr => first | (go_simp; done) | (go_simp; rfl))
   intro gb225 hg w17 hbox hb
   have BK225 := Aside0.mk (hbox)
   have GW225 := Aside0.mk ((by rw [hg]; exact (below_size (tH1 HB GE223.out)) : w.heap.size ≤ gb225))
   have GE225 := Aside0.mk ((by rw [hg]; exact (below_size (tH1 HB GE223.out)) : w.heap.size ≤ gb225))
   replace HB := Aside0.mk (below_step (tH1 HB GE223.out) hb)
   have NB223_225 := Aside0.mk ((by rw [hg]; exact Nat.ne_of_lt (blk_lt (g := gb223) (o := .cells #[.int .i64 0, .int .i64 0] 52 (0, 0)) (tB BK223)) : gb223 ≠ gb225))
   have NB225_223 := Aside0.mk ((by rw [hg]; exact Nat.ne_of_gt (blk_lt (g := gb223) (o := .cells #[.int .i64 0, .int .i64 0] 52 (0, 0)) (tB BK223)) : gb225 ≠ gb223))
   replace BK223 := tbB BK223 hb
   clear hb hbox hg
   refine hK.out _ _ trivial (fun hHeld => ?_)
   clear hK K
   refine nO (some 7) ?_
   refine pO 8 none (bq [9]) rfl rfl HT_ (fun K hK => ?_)
   have hs18 : w17.cell? ⟨gb225, 0, none⟩ = some (.int .i64 0) := (blk_cell BK225.out 0).trans rfl
   have hfs18 := blk_frozen BK225.out 0
   have hns18_0 := NB223_225.out
   have hms18_0 := NB225_223.out
   have hs19 : w17.cell? ⟨gb225, 1, none⟩ = some (.int .i64 0) := (blk_cell BK225.out 1).trans rfl
   have hfs19 := blk_frozen BK225.out 1
   have hns19_0 := NB223_225.out
   have hms19_0 := NB225_223.out
   refine skip_ (w1 := ?_) (by rfl) rfl ?_ ?_
   rotate_left
   · go_simp
     rfl
   refine hK.out _ _ trivial (fun hHeld => ?_)
   clear hK K
   refine done_ (done_of HT_.out (by kernel_rfl)) ?_
   have hnb20 := NB225_223.out
   have hnc20 := NB223_225.out
   have hcz21_0 : w17.cell? ⟨gb225, 0, none⟩ = some (.int .i64 0) := (blk_cell BK225.out 0).trans rfl
   have hcz21_1 : w17.cell? ⟨gb225, 1, none⟩ = some (.int .i64 0) := (blk_cell BK225.out 1).trans rfl
   have hfz21_0 := blk_frozen BK225.out 0
   have hfz21_1 := blk_frozen BK225.out 1
   have hcz22_0 : w17.cell? ⟨gb223, 0, none⟩ = some (.int .i64 0) := (blk_cell BK223.out 0).trans rfl
   have hcz22_1 : w17.cell? ⟨gb223, 1, none⟩ = some (.int .i64 0) := (blk_cell BK223.out 1).trans rfl
   have hfz22_0 := blk_frozen BK223.out 0
   have hfz22_1 := blk_frozen BK223.out 1
   try go_wp2
   refine bodyPost_ret (results_ct rfl _ _ gb223 52 #[.int .i64 0, .int .i64 0] (0, 0) _ rfl (by (with_reducible repeat (first | refine blk_drewN ?_ _ | refine blk_drew ?_ | refine blk_alloc ?_ _)); refine blk_put (cs := #[.int .i64 0, .int .i64 0]) ?_ 1 _ rfl; (with_reducible repeat (first | refine blk_drewN ?_ _ | refine blk_drew ?_ | refine blk_alloc ?_ _)); refine blk_put (cs := #[.int .i64 0, .int .i64 0]) ?_ 0 _ rfl; (with_reducible repeat (first | refine blk_drewN ?_ _ | refine blk_drew ?_ | refine blk_alloc ?_ _)); refine blk_far ?_ NB223_225.out _; (with_reducible repeat (first | refine blk_drewN ?_ _ | refine blk_drew ?_ | refine blk_alloc ?_ _)); refine blk_far ?_ NB223_225.out _; (with_reducible repeat (first | refine blk_drewN ?_ _ | refine blk_drew ?_ | refine blk_alloc ?_ _)); exact BK223.out) Tryd.underlying52 rfl (by kernel_rfl)) rfl ?_
   exact ⟨tE, tH2 HB GE223.out GE225.out⟩
 rw [if_neg c14] at H
 have c14b0 : decide (1000000 < (wrap64 (Int.tdiv a1 t224))) = false := decide_eq_false c14
 clear c14
 simp only [Option.some.injEq, Prod.mk.injEq] at H
 obtain ⟨rfl, rfl, rfl⟩ := H
 go_enter Tryd.func112, Tryd.ntmps112
 try go_wp2_with (first | ((with_reducible refine gate_dst (N := 4) rfl ?_); refine box_event ?hg (N := 4) ?hd (cs := #[.int .i64 0, .int .i64 0]) (t := 52) ?hr ?_; (case hd => rfl); (case hg => rfl); (case hr => first | (go_simp; done) | (go_simp; rfl)); intro gb223 hg w23 hbox hb; have BK223 := Aside0.mk (hbox); have GW223 := Aside0.mk ((by rw [hg]; exact (below_size (tH HB)) : w.heap.size ≤ gb223)); have GE223 := Aside0.mk ((by rw [hg]; exact (below_size (tH HB)) : w.heap.size ≤ gb223)); replace HB := Aside0.mk (below_step (tH HB) hb); clear hb hbox hg) | ((with_reducible refine gate_callee (f := 167) rfl ?_); refine gL_ (some 10) rfl rfl Tryd.func167 #[.int .i64 a0, .int .i64 a1] rfl ?_; (with_reducible refine (impl_commonDivisor.calls k a0 a1 t224 _ A3.out).mono ?_); rintro e w' ⟨rfl, ⟨nd, rfl⟩⟩; refine ⟨_, rfl, ?_⟩; (try (rw [drewN_self w23]; generalize hq_ : World.drewN w23 _ = w23; have n0_ : Aside0 (w23.heap[gb223]? = some (.cells #[.int .i64 0, .int .i64 0] 52 (0, 0))) := ⟨by rw [← hq_]; exact (tB BK223)⟩; have n1_ : Aside0 (Below w.heap.size w w23) := ⟨by rw [← hq_]; exact (tH1 HB GE223.out)⟩; clear BK223 HB hq_; have BK223 := n0_; have HB := n1_; clear n0_ n1_))))
 replace BK223 := Aside0.mk (blk_drew BK223.out)
 replace HB := Aside0.mk (below_drew1 HB.out)
 refine start_ (n := 9) (S := fun w' => True) (ds := []) (bq [0, 9]) (by kernel_rfl) rfl rfl trivial (fun hHeld => ?_); refine with_tabW impl_reduced.tab2 impl_reduced.bits2 (fun HT_ HW_ => ?_)
 generalize w23.drew = w24 at BK223 HB hHeld ⊢
 refine pV 0 (some 11) [1, 8] rfl rfl HT_ ?_
 refine pV 1 (some 12) [2, 7] rfl rfl HT_ ?_
 refine pV 2 (some 13) [3, 6] rfl rfl HT_ ?_
 refine pV 3 (some 14) [4, 5] rfl rfl HT_ ?_
 refine pV 4 (some 15) [5, 4] rfl rfl HT_ ?_
 refine pV 5 (some 16) [6, 3] rfl rfl HT_ ?_
 refine pV 6 (some 17) [7, 2] rfl rfl HT_ ?_
 refine pO 7 (some 7) (bq [8, 1]) rfl rfl HT_ (fun K hK => ?_)
 refine box_step ?hg (N := 7) ?hd (cs := #[.int .i64 0, .int .i64 0]) (t := 52) ?hr ?_; (case hd => rfl); (case hg => rfl); (case hr => first | (go_simp; done) | (go_simp; rfl))
 intro gb225 hg w25 hbox hb
 have BK225 := Aside0.mk (hbox)
 have GW225 := Aside0.mk ((by rw [hg]; exact (below_size (tH1 HB GE223.out)) : w.heap.size ≤ gb225))
 have GE225 := Aside0.mk ((by rw [hg]; exact (below_size (tH1 HB GE223.out)) : w.heap.size ≤ gb225))
 replace HB := Aside0.mk (below_step (tH1 HB GE223.out) hb)
 have NB223_225 := Aside0.mk ((by rw [hg]; exact Nat.ne_of_lt (blk_lt (g := gb223) (o := .cells #[.int .i64 0, .int .i64 0] 52 (0, 0)) (tB BK223)) : gb223 ≠ gb225))
 have NB225_223 := Aside0.mk ((by rw [hg]; exact Nat.ne_of_gt (blk_lt (g := gb223) (o := .cells #[.int .i64 0, .int .i64 0] 52 (0, 0)) (tB BK223)) : gb225 ≠ gb223))
 replace BK223 := tbB BK223 hb
 clear hb hbox hg
 refine hK.out _ _ trivial (fun hHeld => ?_)
 clear hK K
 refine nO (some 7) ?_
 refine pO 8 none (bq [9]) rfl rfl HT_ (fun K hK => ?_)
 have hs26 : w25.cell? ⟨gb225, 0, none⟩ = some (.int .i64 0) := (blk_cell BK225.out 0).trans rfl
 have hfs26 := blk_frozen BK225.out 0
 have hns26_0 := NB223_225.out
 have hms26_0 := NB225_223.out
 have hs27 : w25.cell? ⟨gb225, 1, none⟩ = some (.int .i64 0) := (blk_cell BK225.out 1).trans rfl
 have hfs27 := blk_frozen BK225.out 1
 have hns27_0 := NB223_225.out
 have hms27_0 := NB225_223.out
 refine skip_ (w1 := ?_) (by rfl) rfl ?_ ?_
 rotate_left
 · go_simp
   rfl
 refine hK.out _ _ trivial (fun hHeld => ?_)
 clear hK K
 refine done_ (done_of HT_.out (by kernel_rfl)) ?_
 have hnb28 := NB225_223.out
 have hnc28 := NB223_225.out
 have hcz29_0 : w25.cell? ⟨gb225, 0, none⟩ = some (.int .i64 0) := (blk_cell BK225.out 0).trans rfl
 have hcz29_1 : w25.cell? ⟨gb225, 1, none⟩ = some (.int .i64 0) := (blk_cell BK225.out 1).trans rfl
 have hfz29_0 := blk_frozen BK225.out 0
 have hfz29_1 := blk_frozen BK225.out 1
 have hcz30_0 : w25.cell? ⟨gb223, 0, none⟩ = some (.int .i64 0) := (blk_cell BK223.out 0).trans rfl
 have hcz30_1 : w25.cell? ⟨gb223, 1, none⟩ = some (.int .i64 0) := (blk_cell BK223.out 1).trans rfl
 have hfz30_0 := blk_frozen BK223.out 0
 have hfz30_1 := blk_frozen BK223.out 1
 try go_wp2
 refine bodyPost_ret (results_ct rfl _ _ gb223 52 #[.int .i64 (wrap64 (Int.tdiv a0 t224)), .int .i64 (wrap64 (Int.tdiv a1 t224))] (0, 0) _ rfl (by (with_reducible repeat (first | refine blk_drewN ?_ _ | refine blk_drew ?_ | refine blk_alloc ?_ _)); refine blk_put (cs := #[.int .i64 (wrap64 (Int.tdiv a0 t224)), .int .i64 0]) ?_ 1 _ rfl; (with_reducible repeat (first | refine blk_drewN ?_ _ | refine blk_drew ?_ | refine blk_alloc ?_ _)); refine blk_put (cs := #[.int .i64 0, .int .i64 0]) ?_ 0 _ rfl; (with_reducible repeat (first | refine blk_drewN ?_ _ | refine blk_drew ?_ | refine blk_alloc ?_ _)); refine blk_far ?_ NB223_225.out _; (with_reducible repeat (first | refine blk_drewN ?_ _ | refine blk_drew ?_ | refine blk_alloc ?_ _)); refine blk_far ?_ NB223_225.out _; (with_reducible repeat (first | refine blk_drewN ?_ _ | refine blk_drew ?_ | refine blk_alloc ?_ _)); exact BK223.out) Tryd.underlying52 rfl (by kernel_rfl)) rfl ?_
 exact ⟨tE, tH2 HB GE223.out GE225.out⟩

end Go.Proofs.YtmeflmlejcmckaaDoor.PC
