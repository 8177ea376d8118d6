-- WRITTEN BY wip/gprint.py, a program of this session's over the kit's print, with contracts given by hand
import Derived.Test.YtmeflmlejcmckaaDoorPBx0
import Derived.Test.YtmeflmlejcmckaaDoorPBx2
import Derived.Test.YtmeflmlejcmckaaDoorPBx3
namespace Go.Proofs.YtmeflmlejcmckaaDoor.PB
open Go.RowKit Go.Proofs.YtmeflmlejcmckaaDoorW.PrintWords Go.Proofs.YtmeflmlejcmckaaDoorW.PrintLast Go.Proofs.YtmeflmlejcmckaaDoorW.PrintMore
attribute [local go_sem] max2_int min2_int max_two min_two max_three min_three max_four min_four   -- for this text's walks alone
set_option linter.unusedVariables false
set_option linter.unusedSimpArgs false

attribute [local go_sem] isSome_setCell
/-! ### spec_l02Done: function 119 -/
def spec_l02Done.f (k : Nat) (a0 : Int) (a1 : Int) : Option (Int × Int × Int) := (spec_l02Gcd.f k a0 a1).bind fun t120 => (if t120 = 0 then (none) else ((spec_l02Ok.f k [(⟨(wrap64 (Int.tdiv a0 t120)), (wrap64 (Int.tdiv a1 t120))⟩ : S52)]).bind fun t122 => (if t122 = true then (some (wrap64 (Int.tdiv a0 t120), wrap64 (Int.tdiv a1 t120), 0)) else (some (0, 0, 5)))))
theorem spec_l02Done.mono : ∀ a0 a1 k, LeO (spec_l02Done.f k a0 a1) (spec_l02Done.f (k + 1) a0 a1) := by
 intro a0 a1 k
 unfold spec_l02Done.f
 repeat' first
  | (with_reducible exact spec_l02Gcd.mono _ _ _)
  | (with_reducible exact spec_l02Ok.mono _ _)
  | (with_reducible exact LeO.refl _)
  | (with_reducible exact LeO.none _)
  | (with_reducible refine LeO.ite ?_ ?_)
  | (with_reducible refine LeO.bind ?_ (fun _ => ?_))
  | exact spec_l02Gcd.mono _ _ _
  | exact spec_l02Ok.mono _ _
  | exact LeO.none _
  | refine LeO.ite ?_ ?_
  | refine LeO.bind ?_ (fun _ => ?_)
def spec_l02Done.T2 : Bool × List (List Nat × List Nat) := (true, [([], []), ([], []), ([0, 1], [0, 1]), ([], []), ([], []), ([3, 4], [3, 4]), ([2, 5], [2, 5]), ([], []), ([7, 6, 0, 1, 2, 3, 4, 5, 6, 7], [6, 7])])
def spec_l02Done.B2 : List Nat := [0, 0, 3, 0, 0, 24, 63, 0, 255]
theorem spec_l02Done.tab2 : rtab .any (opsOf Tryd.f119 2) = spec_l02Done.T2 := by kernel_rfl
theorem spec_l02Done.bits2 : waitsOk spec_l02Done.T2.2 spec_l02Done.B2 = true := by kernel_rfl
set_option maxHeartbeats 8000000 in
set_option maxRecDepth 100000 in
theorem spec_l02Done.calls (k : Nat) (a0 : Int) (a1 : Int) (r1 : Int) (r2 : Int) (r3 : Int) (w : World) (h : spec_l02Done.f k a0 a1 = some (r1, r2, r3)) :
 Calls Tryd.prog 119 #[.int .i64 a0, .int .i64 a1] w fun e w' => e = .returned (.tuple #[.agg #[.int .i64 r1, .int .i64 r2], .int .i64 r3]) ∧ Below w.heap.size w w' := by
 have hu52 := Tryd.underlying52
 have HB := Aside0.mk (Below.refl w.heap.size w)
 have H : ((spec_l02Gcd.f k a0 a1).bind fun t120 => (if t120 = 0 then (none) else ((spec_l02Ok.f k [(⟨(wrap64 (Int.tdiv a0 t120)), (wrap64 (Int.tdiv a1 t120))⟩ : S52)]).bind fun t122 => (if t122 = true then (some (wrap64 (Int.tdiv a0 t120), wrap64 (Int.tdiv a1 t120), 0)) else (some (0, 0, 5)))))) = some (r1, r2, r3) := h
 clear h
 replace H := Option.bind_eq_some_iff.mp H
 obtain ⟨t120, A30, H⟩ := H
 replace H : (if t120 = 0 then (none) else ((spec_l02Ok.f k [(⟨(wrap64 (Int.tdiv a0 t120)), (wrap64 (Int.tdiv a1 t120))⟩ : S52)]).bind fun t122 => (if t122 = true then (some (wrap64 (Int.tdiv a0 t120), wrap64 (Int.tdiv a1 t120), 0)) else (some (0, 0, 5))))) = some (r1, r2, r3) := H
 have A3 := Aside0.mk A30
 clear A30
 by_cases c4 : t120 = 0
 · rw [if_pos c4] at H
   exact absurd H (by simp)
 rw [if_neg c4] at H
 have c4b0 : (t120 == 0) = false := beq_eq_false_iff_ne.mpr c4
 have c4b1 : (t120 != 0) = true := bne_iff_ne.mpr c4
 replace H := Option.bind_eq_some_iff.mp H
 obtain ⟨t122, A50, H⟩ := H
 replace H : (if t122 = true then (some (wrap64 (Int.tdiv a0 t120), wrap64 (Int.tdiv a1 t120), 0)) else (some (0, 0, 5))) = some (r1, r2, r3) := H
 have A5 := Aside0.mk A50
 clear A50
 by_cases c6 : t122 = true
 · subst c6
   have H1 : (some (wrap64 (Int.tdiv a0 t120), wrap64 (Int.tdiv a1 t120), 0)) = some (r1, r2, r3) := by rw [if_pos rfl] at H; exact H
   clear H
   have H := H1
   clear H1
   simp only [Option.some.injEq, Prod.mk.injEq] at H
   obtain ⟨rfl, rfl, rfl⟩ := H
   go_enter Tryd.func119, Tryd.ntmps119
   try go_wp2_with (first | ((with_reducible refine gate_dst (N := 4) rfl ?_); refine box_event ?hg (N := 4) ?hd (cs := #[.int .i64 0, .int .i64 0]) (t := 52) ?hr ?_; (case hd => rfl); (case hg => rfl); (case hr => first | (go_simp; done) | (go_simp; rfl)); intro gb119 hg w7 hbox hb; have BK119 := Aside0.mk (hbox); have GW119 := Aside0.mk ((by rw [hg]; exact (below_size (tH HB)) : w.heap.size ≤ gb119)); have GE119 := Aside0.mk ((by rw [hg]; exact (below_size (tH HB)) : w.heap.size ≤ gb119)); replace HB := Aside0.mk (below_step (tH HB) hb); clear hb hbox hg) | ((with_reducible refine gate_callee (f := 171) rfl ?_); refine gL_ (some 10) rfl rfl Tryd.func171 #[.int .i64 a0, .int .i64 a1] rfl ?_; (with_reducible refine (spec_l02Gcd.calls k a0 a1 t120 _ A3.out).mono ?_); rintro e w' ⟨rfl, ⟨nd, rfl⟩⟩; refine ⟨_, rfl, ?_⟩; (try (rw [drewN_self w7]; generalize hq_ : World.drewN w7 _ = w7; have n0_ : Aside0 (w7.heap[gb119]? = some (.cells #[.int .i64 0, .int .i64 0] 52 (0, 0))) := ⟨by rw [← hq_]; exact (tB BK119)⟩; have n1_ : Aside0 (Below w.heap.size w w7) := ⟨by rw [← hq_]; exact (tH1 HB GE119.out)⟩; clear BK119 HB hq_; have BK119 := n0_; have HB := n1_; clear n0_ n1_))))
   replace BK119 := Aside0.mk (blk_drew BK119.out)
   replace HB := Aside0.mk (below_drew1 HB.out)
   refine start_ (n := 9) (S := fun w' => True) (ds := []) (bq [0, 9]) (by kernel_rfl) rfl rfl trivial (fun hHeld => ?_); refine with_tabW spec_l02Done.tab2 spec_l02Done.bits2 (fun HT_ HW_ => ?_)
   generalize w7.drew = w8 at BK119 HB hHeld ⊢
   refine pV 0 (some 11) [1, 8] rfl rfl HT_ ?_
   refine pV 1 (some 12) [2, 7] rfl rfl HT_ ?_
   refine pV 2 (some 13) [3, 6] rfl rfl HT_ ?_
   refine pV 3 (some 14) [4, 5] rfl rfl HT_ ?_
   refine pV 4 (some 15) [5, 4] rfl rfl HT_ ?_
   refine pV 5 (some 16) [6, 3] rfl rfl HT_ ?_
   refine pV 6 (some 17) [7, 2] rfl rfl HT_ ?_
   refine pO 7 (some 7) (bq [8, 1]) rfl rfl HT_ (fun K hK => ?_)
   refine box_step ?hg (N := 7) ?hd (cs := #[.int .i64 0, .int .i64 0]) (t := 52) ?hr ?_; (case hd => rfl); (case hg => rfl); (case hr => first | (go_simp; done) | (go_simp; rfl))
   intro gb121 hg w9 hbox hb
   have BK121 := Aside0.mk (hbox)
   have GW121 := Aside0.mk ((by rw [hg]; exact (below_size (tH1 HB GE119.out)) : w.heap.size ≤ gb121))
   have GE121 := Aside0.mk ((by rw [hg]; exact (below_size (tH1 HB GE119.out)) : w.heap.size ≤ gb121))
   replace HB := Aside0.mk (below_step (tH1 HB GE119.out) hb)
   have NB119_121 := Aside0.mk ((by rw [hg]; exact Nat.ne_of_lt (blk_lt (g := gb119) (o := .cells #[.int .i64 0, .int .i64 0] 52 (0, 0)) (tB BK119)) : gb119 ≠ gb121))
   have NB121_119 := Aside0.mk ((by rw [hg]; exact Nat.ne_of_gt (blk_lt (g := gb119) (o := .cells #[.int .i64 0, .int .i64 0] 52 (0, 0)) (tB BK119)) : gb121 ≠ gb119))
   replace BK119 := tbB BK119 hb
   clear hb hbox hg
   refine hK.out _ _ trivial (fun hHeld => ?_)
   clear hK K
   refine nO (some 7) ?_
   refine pO 8 none (bq [9]) rfl rfl HT_ (fun K hK => ?_)
   have hs10 : w9.cell? ⟨gb121, 0, none⟩ = some (.int .i64 0) := (blk_cell BK121.out 0).trans rfl
   have hfs10 := blk_frozen BK121.out 0
   have hns10_0 := NB119_121.out
   have hms10_0 := NB121_119.out
   have hs11 : w9.cell? ⟨gb121, 1, none⟩ = some (.int .i64 0) := (blk_cell BK121.out 1).trans rfl
   have hfs11 := blk_frozen BK121.out 1
   have hns11_0 := NB119_121.out
   have hms11_0 := NB121_119.out
   refine skip_ (w1 := ?_) (by rfl) rfl ?_ ?_
   rotate_left
   · go_simp
     rfl
   refine hK.out _ _ trivial (fun hHeld => ?_)
   clear hK K
   refine done_ (done_of HT_.out (by kernel_rfl)) ?_
   try go_wp2_with (first | ((with_reducible refine gate_callee (f := 117) rfl ?_); refine gL_ (some 18) rfl rfl Tryd.func117 #[.pointer (some ⟨gb121, 0, none⟩)] rfl ?_; (with_reducible refine (spec_l02Ok.calls k _ [(⟨(wrap64 (Int.tdiv a0 t120)), (wrap64 (Int.tdiv a1 t120))⟩ : S52)] true _ ?side1 ?side2 A5.out).mono ?_); (case side1 => exact Kd.C_box (t := 52) (k52_mk _ _ ) (by (with_reducible repeat (first | refine blk_drewN ?_ _ | refine blk_drew ?_ | refine blk_alloc ?_ _)); refine blk_put (cs := #[.int .i64 (wrap64 (Int.tdiv a0 t120)), .int .i64 0]) ?_ 1 _ rfl; (with_reducible repeat (first | refine blk_drewN ?_ _ | refine blk_drew ?_ | refine blk_alloc ?_ _)); refine blk_put (cs := #[.int .i64 0, .int .i64 0]) ?_ 0 _ rfl; (with_reducible repeat (first | refine blk_drewN ?_ _ | refine blk_drew ?_ | refine blk_alloc ?_ _)); exact BK121.out)); (case side2 => exact Nat.one_pos); rintro e w' ⟨rfl, ⟨nd, rfl⟩⟩; refine ⟨_, rfl, ?_⟩; have hnb12 := NB121_119.out; have hnc12 := NB119_121.out; have hcz13_0 : w9.cell? ⟨gb121, 0, none⟩ = some (.int .i64 0) := (blk_cell BK121.out 0).trans rfl; have hcz13_1 : w9.cell? ⟨gb121, 1, none⟩ = some (.int .i64 0) := (blk_cell BK121.out 1).trans rfl; have hfz13_0 := blk_frozen BK121.out 0; have hfz13_1 := blk_frozen BK121.out 1; have hcz14_0 : w9.cell? ⟨gb119, 0, none⟩ = some (.int .i64 0) := (blk_cell BK119.out 0).trans rfl; have hcz14_1 : w9.cell? ⟨gb119, 1, none⟩ = some (.int .i64 0) := (blk_cell BK119.out 1).trans rfl; have hfz14_0 := blk_frozen BK119.out 0; have hfz14_1 := blk_frozen BK119.out 1))
   refine bodyPost_ret (results_ct rfl _ _ gb119 52 #[.int .i64 (wrap64 (Int.tdiv a0 t120)), .int .i64 (wrap64 (Int.tdiv a1 t120))] (0, 0) _ rfl (by (with_reducible repeat (first | refine blk_drewN ?_ _ | refine blk_drew ?_ | refine blk_alloc ?_ _)); refine blk_put (cs := #[.int .i64 (wrap64 (Int.tdiv a0 t120)), .int .i64 0]) ?_ 1 _ rfl; (with_reducible repeat (first | refine blk_drewN ?_ _ | refine blk_drew ?_ | refine blk_alloc ?_ _)); refine blk_put (cs := #[.int .i64 0, .int .i64 0]) ?_ 0 _ rfl; (with_reducible repeat (first | refine blk_drewN ?_ _ | refine blk_drew ?_ | refine blk_alloc ?_ _)); refine blk_far ?_ NB119_121.out _; (with_reducible repeat (first | refine blk_drewN ?_ _ | refine blk_drew ?_ | refine blk_alloc ?_ _)); refine blk_far ?_ NB119_121.out _; (with_reducible repeat (first | refine blk_drewN ?_ _ | refine blk_drew ?_ | refine blk_alloc ?_ _)); exact BK119.out) Tryd.underlying52 rfl (by kernel_rfl)) rfl ?_
   exact ⟨tE, tH2 HB GE119.out GE121.out⟩
 replace c6 := Bool.eq_false_iff.mpr c6
 subst c6
 have H1 : (some (0, 0, 5)) = some (r1, r2, r3) := by rw [if_neg (show ¬ (false = true) by decide)] at H; exact H
 clear H
 have H := H1
 clear H1
 simp only [Option.some.injEq, Prod.mk.injEq] at H
 obtain ⟨rfl, rfl, rfl⟩ := H
 go_enter Tryd.func119, Tryd.ntmps119
 try go_wp2_with (first | ((with_reducible refine gate_dst (N := 4) rfl ?_); refine box_event ?hg (N := 4) ?hd (cs := #[.int .i64 0, .int .i64 0]) (t := 52) ?hr ?_; (case hd => rfl); (case hg => rfl); (case hr => first | (go_simp; done) | (go_simp; rfl)); intro gb119 hg w15 hbox hb; have BK119 := Aside0.mk (hbox); have GW119 := Aside0.mk ((by rw [hg]; exact (below_size (tH HB)) : w.heap.size ≤ gb119)); have GE119 := Aside0.mk ((by rw [hg]; exact (below_size (tH HB)) : w.heap.size ≤ gb119)); replace HB := Aside0.mk (below_step (tH HB) hb); clear hb hbox hg) | ((with_reducible refine gate_callee (f := 171) rfl ?_); refine gL_ (some 10) rfl rfl Tryd.func171 #[.int .i64 a0, .int .i64 a1] rfl ?_; (with_reducible refine (spec_l02Gcd.calls k a0 a1 t120 _ A3.out).mono ?_); rintro e w' ⟨rfl, ⟨nd, rfl⟩⟩; refine ⟨_, rfl, ?_⟩; (try (rw [drewN_self w15]; generalize hq_ : World.drewN w15 _ = w15; have n0_ : Aside0 (w15.heap[gb119]? = some (.cells #[.int .i64 0, .int .i64 0] 52 (0, 0))) := ⟨by rw [← hq_]; exact (tB BK119)⟩; have n1_ : Aside0 (Below w.heap.size w w15) := ⟨by rw [← hq_]; exact (tH1 HB GE119.out)⟩; clear BK119 HB hq_; have BK119 := n0_; have HB := n1_; clear n0_ n1_))))
 replace BK119 := Aside0.mk (blk_drew BK119.out)
 replace HB := Aside0.mk (below_drew1 HB.out)
 refine start_ (n := 9) (S := fun w' => True) (ds := []) (bq [0, 9]) (by kernel_rfl) rfl rfl trivial (fun hHeld => ?_); refine with_tabW spec_l02Done.tab2 spec_l02Done.bits2 (fun HT_ HW_ => ?_)
 generalize w15.drew = w16 at BK119 HB hHeld ⊢
 refine pV 0 (some 11) [1, 8] rfl rfl HT_ ?_
 refine pV 1 (some 12) [2, 7] rfl rfl HT_ ?_
 refine pV 2 (some 13) [3, 6] rfl rfl HT_ ?_
 refine pV 3 (some 14) [4, 5] rfl rfl HT_ ?_
 refine pV 4 (some 15) [5, 4] rfl rfl HT_ ?_
 refine pV 5 (some 16) [6, 3] rfl rfl HT_ ?_
 refine pV 6 (some 17) [7, 2] rfl rfl HT_ ?_
 refine pO 7 (some 7) (bq [8, 1]) rfl rfl HT_ (fun K hK => ?_)
 refine box_step ?hg (N := 7) ?hd (cs := #[.int .i64 0, .int .i64 0]) (t := 52) ?hr ?_; (case hd => rfl); (case hg => rfl); (case hr => first | (go_simp; done) | (go_simp; rfl))
 intro gb121 hg w17 hbox hb
 have BK121 := Aside0.mk (hbox)
 have GW121 := Aside0.mk ((by rw [hg]; exact (below_size (tH1 HB GE119.out)) : w.heap.size ≤ gb121))
 have GE121 := Aside0.mk ((by rw [hg]; exact (below_size (tH1 HB GE119.out)) : w.heap.size ≤ gb121))
 replace HB := Aside0.mk (below_step (tH1 HB GE119.out) hb)
 have NB119_121 := Aside0.mk ((by rw [hg]; exact Nat.ne_of_lt (blk_lt (g := gb119) (o := .cells #[.int .i64 0, .int .i64 0] 52 (0, 0)) (tB BK119)) : gb119 ≠ gb121))
 have NB121_119 := Aside0.mk ((by rw [hg]; exact Nat.ne_of_gt (blk_lt (g := gb119) (o := .cells #[.int .i64 0, .int .i64 0] 52 (0, 0)) (tB BK119)) : gb121 ≠ gb119))
 replace BK119 := tbB BK119 hb
 clear hb hbox hg
 refine hK.out _ _ trivial (fun hHeld => ?_)
 clear hK K
 refine nO (some 7) ?_
 refine pO 8 none (bq [9]) rfl rfl HT_ (fun K hK => ?_)
 have hs18 : w17.cell? ⟨gb121, 0, none⟩ = some (.int .i64 0) := (blk_cell BK121.out 0).trans rfl
 have hfs18 := blk_frozen BK121.out 0
 have hns18_0 := NB119_121.out
 have hms18_0 := NB121_119.out
 have hs19 : w17.cell? ⟨gb121, 1, none⟩ = some (.int .i64 0) := (blk_cell BK121.out 1).trans rfl
 have hfs19 := blk_frozen BK121.out 1
 have hns19_0 := NB119_121.out
 have hms19_0 := NB121_119.out
 refine skip_ (w1 := ?_) (by rfl) rfl ?_ ?_
 rotate_left
 · go_simp
   rfl
 refine hK.out _ _ trivial (fun hHeld => ?_)
 clear hK K
 refine done_ (done_of HT_.out (by kernel_rfl)) ?_
 try go_wp2_with (first | ((with_reducible refine gate_callee (f := 117) rfl ?_); refine gL_ (some 18) rfl rfl Tryd.func117 #[.pointer (some ⟨gb121, 0, none⟩)] rfl ?_; (with_reducible refine (spec_l02Ok.calls k _ [(⟨(wrap64 (Int.tdiv a0 t120)), (wrap64 (Int.tdiv a1 t120))⟩ : S52)] false _ ?side1 ?side2 A5.out).mono ?_); (case side1 => exact Kd.C_box (t := 52) (k52_mk _ _ ) (by (with_reducible repeat (first | refine blk_drewN ?_ _ | refine blk_drew ?_ | refine blk_alloc ?_ _)); refine blk_put (cs := #[.int .i64 (wrap64 (Int.tdiv a0 t120)), .int .i64 0]) ?_ 1 _ rfl; (with_reducible repeat (first | refine blk_drewN ?_ _ | refine blk_drew ?_ | refine blk_alloc ?_ _)); refine blk_put (cs := #[.int .i64 0, .int .i64 0]) ?_ 0 _ rfl; (with_reducible repeat (first | refine blk_drewN ?_ _ | refine blk_drew ?_ | refine blk_alloc ?_ _)); exact BK121.out)); (case side2 => exact Nat.one_pos); rintro e w' ⟨rfl, ⟨nd, rfl⟩⟩; refine ⟨_, rfl, ?_⟩; have hnb20 := NB119_121.out; have hnc20 := NB121_119.out; have hcz21_0 : w17.cell? ⟨gb119, 0, none⟩ = some (.int .i64 0) := (blk_cell BK119.out 0).trans rfl; have hcz21_1 : w17.cell? ⟨gb119, 1, none⟩ = some (.int .i64 0) := (blk_cell BK119.out 1).trans rfl; have hfz21_0 := blk_frozen BK119.out 0; have hfz21_1 := blk_frozen BK119.out 1))
 refine bodyPost_ret (results_ct rfl _ _ gb119 52 #[.int .i64 0, .int .i64 0] (0, 0) _ rfl (by (with_reducible repeat (first | refine blk_drewN ?_ _ | refine blk_drew ?_ | refine blk_alloc ?_ _)); refine blk_put (cs := #[.int .i64 0, .int .i64 0]) ?_ 1 _ rfl; (with_reducible repeat (first | refine blk_drewN ?_ _ | refine blk_drew ?_ | refine blk_alloc ?_ _)); refine blk_put (cs := #[.int .i64 0, .int .i64 0]) ?_ 0 _ rfl; (with_reducible repeat (first | refine blk_drewN ?_ _ | refine blk_drew ?_ | refine blk_alloc ?_ _)); refine blk_far ?_ NB119_121.out _; (with_reducible repeat (first | refine blk_drewN ?_ _ | refine blk_drew ?_ | refine blk_alloc ?_ _)); refine blk_far ?_ NB119_121.out _; (with_reducible repeat (first | refine blk_drewN ?_ _ | refine blk_drew ?_ | refine blk_alloc ?_ _)); exact BK119.out) Tryd.underlying52 rfl (by kernel_rfl)) rfl ?_
 exact ⟨tE, tH2 HB GE119.out GE121.out⟩

/-! ### spec_l00Src_one: function 107 -/
def spec_l00Src_one.f (s0_0 : List Int) (s0_1 : Int) (s0_2 : Int) (a1 : Int) : Option (Bool × Int × Int) := (spec_l00Src_pick.f s0_0 s0_1 s0_2 a1).bind fun bt123 => (some ((bt123.1 == 0), bt123.2.1, bt123.2.2))
set_option maxHeartbeats 8000000 in
set_option maxRecDepth 100000 in
theorem spec_l00Src_one.calls (g : Nat) (s0_0 : List Int) (s0_1 : Int) (s0_2 : Int) (a1 : Int) (r1 : Bool) (r2 : Int) (r3 : Int) (w0 w : World) (hI : IsS179 w0 w g s0_0 s0_1 s0_2) (hB : Below w0.heap.size w0 w) (h : spec_l00Src_one.f s0_0 s0_1 s0_2 a1 = some (r1, r2, r3)) :
 Calls Tryd.prog 107 #[.pointer (some ⟨g, 0, none⟩), .int .i64 a1] w fun e w' => e = .returned (.bool r1) ∧ IsS179 w0 w' g s0_0 r2 r3 ∧ Below w0.heap.size w0 w' ∧ KeepBut w w' g none := by
 have HI0 := Aside0.mk hI
 have HK := Aside0.mk (KeepBut.refl w g none)
 have HL := Aside0.mk hB.size
 clear hI
 have HW0 := Aside0.mk hB.size
 have HB := Aside0.mk hB
 clear hB
 have H : ((spec_l00Src_pick.f s0_0 s0_1 s0_2 a1).bind fun bt123 => (some ((bt123.1 == 0), bt123.2.1, bt123.2.2))) = some (r1, r2, r3) := h
 clear h
 replace H := Option.bind_eq_some_iff.mp H
 obtain ⟨⟨t123, t124, t125⟩, A30, H⟩ := H
 replace H : (some ((t123 == 0), t124, t125)) = some (r1, r2, r3) := H
 have A3 := Aside0.mk A30
 clear A30
 simp only [Option.some.injEq, Prod.mk.injEq] at H
 obtain ⟨rfl, rfl, rfl⟩ := H
 go_enter Tryd.func107, Tryd.ntmps107
 go_wp2_with (first | ((with_reducible refine gate_callee (f := 113) rfl ?_); refine gL_ (some 7) rfl rfl Tryd.func113 #[.pointer (some ⟨g, 0, none⟩), .int .i64 a1] rfl ?_; (with_reducible refine (spec_l00Src_pick.calls g s0_0 s0_1 s0_2 a1 t123 t124 t125 w0 _ ?side1 ?side2 A3.out).mono ?_); (case side1 => exact IsS179.t0 HI0); (case side2 => exact tH1 HB (IsS179.ge HI0.out)); rintro e w4 ⟨rfl, hi, hb, hk⟩; refine ⟨_, rfl, ?_⟩; replace HK := Aside0.mk (KeepBut.trans (tK HK) hk (.inl rfl)); replace HB := Aside0.mk (hb); replace HI0 := Aside0.mk (hi); (try clear hb); (try clear hb2); (try clear hk); (try clear hi)))
 go_ret
 exact ⟨tE, IsS179.t0 HI0, tH1 HB (IsS179.ge HI0.out), tK HK⟩

/-! ### spec_l02DrawPart: function 203 -/
def spec_l02DrawPart.f (s0_0 : List Int) (s0_1 : Int) (s0_2 : Int) : Option (Int × Int × Int) := (spec_l00Src_one.f s0_0 s0_1 s0_2 12).bind fun bt126 => (if bt126.1 = true then ((spec_l00Src_among.f s0_0 bt126.2.1 bt126.2.2 (([1, 1000000, 999999, 524288, 7] : List Int))).bind fun bt132 => (some (bt132.1, bt132.2.1, bt132.2.2))) else ((spec_l00Src_pick.f s0_0 bt126.2.1 bt126.2.2 48).bind fun bt135 => (some (wrap64 (1 + bt135.1), bt135.2.1, bt135.2.2))))
set_option maxHeartbeats 8000000 in
set_option maxRecDepth 100000 in
theorem spec_l02DrawPart.calls (g : Nat) (s0_0 : List Int) (s0_1 : Int) (s0_2 : Int) (r1 : Int) (r2 : Int) (r3 : Int) (w0 w : World) (hI : IsS179 w0 w g s0_0 s0_1 s0_2) (hB : Below w0.heap.size w0 w) (h : spec_l02DrawPart.f s0_0 s0_1 s0_2 = some (r1, r2, r3)) :
 Calls Tryd.prog 203 #[.pointer (some ⟨g, 0, none⟩)] w fun e w' => e = .returned (.int .i64 r1) ∧ IsS179 w0 w' g s0_0 r2 r3 ∧ Below w0.heap.size w0 w' ∧ KeepBut w w' g none := by
 have HI0 := Aside0.mk hI
 have HK := Aside0.mk (KeepBut.refl w g none)
 have HL := Aside0.mk hB.size
 clear hI
 have HW0 := Aside0.mk hB.size
 have HB := Aside0.mk hB
 clear hB
 have H : ((spec_l00Src_one.f s0_0 s0_1 s0_2 12).bind fun bt126 => (if bt126.1 = true then ((spec_l00Src_among.f s0_0 bt126.2.1 bt126.2.2 (([1, 1000000, 999999, 524288, 7] : List Int))).bind fun bt132 => (some (bt132.1, bt132.2.1, bt132.2.2))) else ((spec_l00Src_pick.f s0_0 bt126.2.1 bt126.2.2 48).bind fun bt135 => (some (wrap64 (1 + bt135.1), bt135.2.1, bt135.2.2))))) = some (r1, r2, r3) := h
 clear h
 replace H := Option.bind_eq_some_iff.mp H
 obtain ⟨⟨t126, t127, t128⟩, A20, H⟩ := H
 replace H : (if t126 = true then ((spec_l00Src_among.f s0_0 t127 t128 (([1, 1000000, 999999, 524288, 7] : List Int))).bind fun bt132 => (some (bt132.1, bt132.2.1, bt132.2.2))) else ((spec_l00Src_pick.f s0_0 t127 t128 48).bind fun bt135 => (some (wrap64 (1 + bt135.1), bt135.2.1, bt135.2.2)))) = some (r1, r2, r3) := H
 have A2 := Aside0.mk A20
 clear A20
 by_cases c3 : t126 = true
 · subst c3
   have H1 : ((spec_l00Src_among.f s0_0 t127 t128 (([1, 1000000, 999999, 524288, 7] : List Int))).bind fun bt132 => (some (bt132.1, bt132.2.1, bt132.2.2))) = some (r1, r2, r3) := by rw [if_pos rfl] at H; exact H
   clear H
   have H := H1
   clear H1
   obtain ⟨y129, hy129⟩ : ∃ y_ : List Int, y_ = (([1, 1000000, 999999, 524288, 7] : List Int)) := ⟨_, rfl⟩
   replace H : ((spec_l00Src_among.f s0_0 t127 t128 y129).bind fun bt132 => (some (bt132.1, bt132.2.1, bt132.2.2))) = some (r1, r2, r3) := by first | (rw [hy129]; with_reducible exact H) | (have H2_ := (Option.bind_some _ _).symm.trans H; rw [hy129]; with_reducible exact H2_) | (have H2_ := (Option.bind_some _ _).symm.trans H; with_reducible exact H2_) | with_reducible exact H | (rw [hy129]; exact H) | exact H
   have Ny129 := Aside0.mk hy129
   clear hy129
   replace H := Option.bind_eq_some_iff.mp H
   obtain ⟨⟨t132, t133, t134⟩, A40, H⟩ := H
   replace H : (some (t132, t133, t134)) = some (r1, r2, r3) := H
   have A4 := Aside0.mk A40
   clear A40
   simp only [Option.some.injEq, Prod.mk.injEq] at H
   obtain ⟨rfl, rfl, rfl⟩ := H
   go_enter Tryd.func203, Tryd.ntmps203
   go_wp2_with (first | ((with_reducible refine gate_callee (f := 107) rfl ?_); refine gL_ (some 4) rfl rfl Tryd.func107 #[.pointer (some ⟨g, 0, none⟩), .int .i64 12] rfl ?_; (with_reducible refine (spec_l00Src_one.calls g s0_0 s0_1 s0_2 12 true t127 t128 w0 _ ?side1 ?side2 A2.out).mono ?_); (case side1 => exact IsS179.t0 HI0); (case side2 => exact tH1 HB (IsS179.ge HI0.out)); rintro e w5 ⟨rfl, hi, hb, hk⟩; refine ⟨_, rfl, ?_⟩; replace HK := Aside0.mk (KeepBut.trans (tK HK) hk (.inl rfl)); replace HB := Aside0.mk (hb); replace HI0 := Aside0.mk (hi); (try clear hb); (try clear hb2); (try clear hk); (try clear hi)) | ((with_reducible refine gate_dst (N := 6) rfl ?_); refine Kd.R_lit (Kd.int .i64) _ 2 ?hg (N := 6) ?hd (xs := ([1, 1000000, 999999, 524288, 7] : List Int)) (inner := [.int .i64 1, .int .i64 1000000, .int .i64 999999, .int .i64 524288, .int .i64 7]) (ok := fun _ => True) (okp := fun _ => True) ?hr ?hp (fun _ hk => hk) trivial (Below.refl _ _) (Nat.le_refl _) (by simp) ?_; (case hd => rfl); (case hg => rfl); (case hr => first | (go_simp; done) | (go_simp; rfl)); (case hp => exact (Reps.one (show Kd.M (Kd.int .i64) _ _ _ 1 [.int .i64 1] from rfl) (Reps.one (show Kd.M (Kd.int .i64) _ _ _ 1000000 [.int .i64 1000000] from rfl) (Reps.one (show Kd.M (Kd.int .i64) _ _ _ 999999 [.int .i64 999999] from rfl) (Reps.one (show Kd.M (Kd.int .i64) _ _ _ 524288 [.int .i64 524288] from rfl) (Reps.one (show Kd.M (Kd.int .i64) _ _ _ 7 [.int .i64 7] from rfl) (Reps.none _ _))))))); intro v130 w6 ho7 hb hg_ hnew_; clear hg_ hnew_; (first | rw [← Ny129.out] at ho7 | (simp only [Int.reduceToNat] at ho7; rw [← Ny129.out] at ho7)); have HO131 := Aside0.mk (Kd.R_lower ho7 (keep_size (w := w) (g := g) (row := none) (tK HK))); replace HK := Aside0.mk (KeepBut.trans (tK HK) (KeepBut.of_below hb g none) (.inl rfl)); replace HB := Aside0.mk (below_step (tH1 HB (IsS179.ge HI0.out)) hb); replace HI0 := Aside0.mk (IsS179.below (IsS179.t0 HI0) hb); clear hb ho7; obtain ⟨Ao8, co8, eo8⟩ := Kd.R_slice HO131.out; subst eo8) | ((with_reducible refine gate_callee (f := 114) rfl ?_); refine gL_ (some 7) rfl rfl Tryd.func114 #[.pointer (some ⟨g, 0, none⟩), .slice Ao8 y129.length co8] rfl ?_; (with_reducible refine (spec_l00Src_among.calls g s0_0 t127 t128 _ _ y129 t132 t133 t134 w0 _ ?side1 ?side2 ?side3 ?side4 ?side5 A4.out).mono ?_); (case side1 => exact IsS179.t0 HI0); (case side2 => exact tH1 HB (IsS179.ge HI0.out)); (case side3 => exact tC (Kd.R_reads' HO131.out).2.2); (case side4 => exact (Kd.R_reads' HO131.out).2.1); (case side5 => exact far_slice (IsS179.own_ne HI0.out HO131.out (by decide))); rintro e w9 ⟨rfl, hi, hb, hk⟩; refine ⟨_, rfl, ?_⟩; replace HO131 := Aside0.mk (Kd.R_mono (Kd.R_keep (IsS179.apart (show IsS179 w0 _ g s0_0 t127 t128 from IsS179.t0 HI0) (tR HO131) (by decide)) hk (fun _ h => h.2)) (fun _ h => h.1)); replace HK := Aside0.mk (KeepBut.trans (tK HK) hk (.inl rfl)); replace HB := Aside0.mk (hb); replace HI0 := Aside0.mk (hi); (try clear hb); (try clear hb2); (try clear hk); (try clear hi)))
   go_ret
   exact ⟨tE, IsS179.t0 HI0, tH1 HB (IsS179.ge HI0.out), tK HK⟩
 replace c3 := Bool.eq_false_iff.mpr c3
 subst c3
 have H1 : ((spec_l00Src_pick.f s0_0 t127 t128 48).bind fun bt135 => (some (wrap64 (1 + bt135.1), bt135.2.1, bt135.2.2))) = some (r1, r2, r3) := by rw [if_neg (show ¬ (false = true) by decide)] at H; exact H
 clear H
 have H := H1
 clear H1
 replace H := Option.bind_eq_some_iff.mp H
 obtain ⟨⟨t135, t136, t137⟩, A100, H⟩ := H
 replace H : (some (wrap64 (1 + t135), t136, t137)) = some (r1, r2, r3) := H
 have A10 := Aside0.mk A100
 clear A100
 simp only [Option.some.injEq, Prod.mk.injEq] at H
 obtain ⟨rfl, rfl, rfl⟩ := H
 go_enter Tryd.func203, Tryd.ntmps203
 go_wp2_with (first | ((with_reducible refine gate_callee (f := 107) rfl ?_); refine gL_ (some 4) rfl rfl Tryd.func107 #[.pointer (some ⟨g, 0, none⟩), .int .i64 12] rfl ?_; (with_reducible refine (spec_l00Src_one.calls g s0_0 s0_1 s0_2 12 false t127 t128 w0 _ ?side1 ?side2 A2.out).mono ?_); (case side1 => exact IsS179.t0 HI0); (case side2 => exact tH1 HB (IsS179.ge HI0.out)); rintro e w11 ⟨rfl, hi, hb, hk⟩; refine ⟨_, rfl, ?_⟩; replace HK := Aside0.mk (KeepBut.trans (tK HK) hk (.inl rfl)); replace HB := Aside0.mk (hb); replace HI0 := Aside0.mk (hi); (try clear hb); (try clear hb2); (try clear hk); (try clear hi)) | ((with_reducible refine gate_callee (f := 113) rfl ?_); refine gL_ (some 9) rfl rfl Tryd.func113 #[.pointer (some ⟨g, 0, none⟩), .int .i64 48] rfl ?_; (with_reducible refine (spec_l00Src_pick.calls g s0_0 t127 t128 48 t135 t136 t137 w0 _ ?side1 ?side2 A10.out).mono ?_); (case side1 => exact IsS179.t0 HI0); (case side2 => exact tH1 HB (IsS179.ge HI0.out)); rintro e w12 ⟨rfl, hi, hb, hk⟩; refine ⟨_, rfl, ?_⟩; replace HK := Aside0.mk (KeepBut.trans (tK HK) hk (.inl rfl)); replace HB := Aside0.mk (hb); replace HI0 := Aside0.mk (hi); (try clear hb); (try clear hb2); (try clear hk); (try clear hi)))
 go_ret
 exact ⟨tE, IsS179.t0 HI0, tH1 HB (IsS179.ge HI0.out), tK HK⟩

end Go.Proofs.YtmeflmlejcmckaaDoor.PB
