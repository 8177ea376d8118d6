-- WRITTEN BY wip/gprint.py, a program of this session's over the kit's print, with contracts given by hand
import Derived.Test.YtmeflmlejcmckaaDoorPCx0
import Derived.Test.YtmeflmlejcmckaaDoorPCx5
import Derived.Test.YtmeflmlejcmckaaDoorPCx6
import Derived.Test.YtmeflmlejcmckaaDoorPCx8
namespace Go.Proofs.YtmeflmlejcmckaaDoor.PC
open Go.RowKit Go.Proofs.YtmeflmlejcmckaaDoorW.PrintWords Go.Proofs.YtmeflmlejcmckaaDoorW.PrintLast Go.Proofs.YtmeflmlejcmckaaDoorW.PrintMore
attribute [local go_sem] max2_int min2_int max_two min_two max_three min_three max_four min_four   -- for this text's walks alone
set_option linter.unusedVariables false
set_option linter.unusedSimpArgs false

attribute [local go_sem] isSome_setCell
/-! ### impl_BestRatio: function 40 -/
mutual
def impl_BestRatio.j0 : Nat → Int → Int → Bool → Option (Int × Int × Int × Int)
 | 0, _, _, _ => none
 | k + 1, x0, x1, x20 => if x20 = true then (some (0, 0, 0, 2)) else (impl_BestRatio.l0 k x0 x1 (-1) 1 0 0)
def impl_BestRatio.l0 : Nat → Int → Int → Int → Int → Int → Int → Option (Int × Int × Int × Int)
 | 0, _, _, _, _, _, _ => none
 | k + 1, x0, x1, x8, x9, x268000, x268001 => if x9 ≤ x1 then (impl_BestRatio.l1 k x0 x1 x8 x9 x9 x268000 x268001) else (some (x268000, x268001, x8, 0))
def impl_BestRatio.l1 : Nat → Int → Int → Int → Int → Int → Int → Int → Option (Int × Int × Int × Int)
 | 0, _, _, _, _, _, _, _ => none
 | k + 1, x0, x1, x8, x9, x10, x268000, x268001 => if x10 ≤ (wrap64 (2 * x9)) then ((impl_ValidRatio.f k x10 x9).bind fun t269 => (if t269 = true then ((impl_Ratio_cents.f k x10 x9).bind fun t270 => ((impl_abs.f (wrap64 (t270 - x0))).bind fun t271 => (if x8 < 0 then (impl_BestRatio.l1 k x0 x1 t271 x9 (wrap64 (x10 + 1)) x10 x9) else (if t271 < x8 then (impl_BestRatio.l1 k x0 x1 t271 x9 (wrap64 (x10 + 1)) x10 x9) else (impl_BestRatio.l1 k x0 x1 x8 x9 (wrap64 (x10 + 1)) x268000 x268001))))) else (impl_BestRatio.l1 k x0 x1 x8 x9 (wrap64 (x10 + 1)) x268000 x268001))) else (impl_BestRatio.l0 k x0 x1 x8 (wrap64 (x9 + 1)) x268000 x268001)
end
def impl_BestRatio.f (k : Nat) (a0 : Int) (a1 : Int) : Option (Int × Int × Int × Int) := (impl_within.f a0 0 120000).bind fun t265 => (if t265 = true then ((impl_within.f a1 1 64).bind fun t266 => (impl_BestRatio.j0 k a0 a1 (!t266))) else (impl_BestRatio.j0 k a0 a1 true))
theorem impl_BestRatio.mono_l : ∀ k, (∀ y0 y1 y2, LeO (impl_BestRatio.j0 k y0 y1 y2) (impl_BestRatio.j0 (k + 1) y0 y1 y2)) ∧ (∀ y0 y1 y2 y3 y4 y5, LeO (impl_BestRatio.l0 k y0 y1 y2 y3 y4 y5) (impl_BestRatio.l0 (k + 1) y0 y1 y2 y3 y4 y5)) ∧ (∀ y0 y1 y2 y3 y4 y5 y6, LeO (impl_BestRatio.l1 k y0 y1 y2 y3 y4 y5 y6) (impl_BestRatio.l1 (k + 1) y0 y1 y2 y3 y4 y5 y6))
 | 0 => ⟨fun _ _ _ r h => by simp [impl_BestRatio.j0] at h, fun _ _ _ _ _ _ r h => by simp [impl_BestRatio.l0] at h, fun _ _ _ _ _ _ _ r h => by simp [impl_BestRatio.l1] at h⟩
 | k + 1 => by
  obtain ⟨ih0, ih1, ih2⟩ := impl_BestRatio.mono_l k
  refine ⟨?_, ?_, ?_⟩
  all_goals (intros; (first | unfold impl_BestRatio.j0 | unfold impl_BestRatio.l0 | unfold impl_BestRatio.l1); repeat' first
   | (with_reducible exact ih0 _ _ _)
   | (with_reducible exact ih1 _ _ _ _ _ _)
   | (with_reducible exact ih2 _ _ _ _ _ _ _)
   | (with_reducible exact impl_Ratio_cents.mono _ _ _)
   | (with_reducible exact impl_ValidRatio.mono _ _ _)
   | (with_reducible exact LeO.refl _)
   | (with_reducible exact LeO.none _)
   | (with_reducible refine LeO.ite ?_ ?_)
   | (with_reducible refine LeO.bind ?_ (fun _ => ?_))
   | exact ih0 _ _ _
   | exact ih1 _ _ _ _ _ _
   | exact ih2 _ _ _ _ _ _ _
   | exact impl_Ratio_cents.mono _ _ _
   | exact impl_ValidRatio.mono _ _ _
   | exact LeO.none _
   | refine LeO.ite ?_ ?_
   | refine LeO.bind ?_ (fun _ => ?_))
theorem impl_BestRatio.mono : ∀ a0 a1 k, LeO (impl_BestRatio.f k a0 a1) (impl_BestRatio.f (k + 1) a0 a1) := by
 intro a0 a1 k
 obtain ⟨ih0, ih1, ih2⟩ := impl_BestRatio.mono_l k
 unfold impl_BestRatio.f
 repeat' first
  | (with_reducible exact ih0 _ _ _)
  | (with_reducible exact ih1 _ _ _ _ _ _)
  | (with_reducible exact ih2 _ _ _ _ _ _ _)
  | (with_reducible exact impl_Ratio_cents.mono _ _ _)
  | (with_reducible exact impl_ValidRatio.mono _ _ _)
  | (with_reducible exact LeO.refl _)
  | (with_reducible exact LeO.none _)
  | (with_reducible refine LeO.ite ?_ ?_)
  | (with_reducible refine LeO.bind ?_ (fun _ => ?_))
  | exact ih0 _ _ _
  | exact ih1 _ _ _ _ _ _
  | exact ih2 _ _ _ _ _ _ _
  | exact impl_Ratio_cents.mono _ _ _
  | exact impl_ValidRatio.mono _ _ _
  | exact LeO.none _
  | refine LeO.ite ?_ ?_
  | refine LeO.bind ?_ (fun _ => ?_)
set_option maxHeartbeats 8000000 in
set_option maxRecDepth 100000 in
theorem impl_BestRatio.calls (k : Nat) (a0 : Int) (a1 : Int) (r1 : Int) (r2 : Int) (r3 : Int) (r4 : Int) (w : World) (ht : Tab_ w) (h : impl_BestRatio.f k a0 a1 = some (r1, r2, r3, r4)) :
 Calls Tryd.prog 40 #[.int .i64 a0, .int .i64 a1] w fun e w' => e = .returned (.tuple #[.agg #[.int .i64 r1, .int .i64 r2], .int .i64 r3, .int .i64 r4]) ∧ Below w.heap.size w w' := by
 have hu52 := Tryd.underlying52
 have HT := Aside0.mk ht
 clear ht
 have HB := Aside0.mk (Below.refl w.heap.size w)
 have H : ((impl_within.f a0 0 120000).bind fun t265 => (if t265 = true then ((impl_within.f a1 1 64).bind fun t266 => (impl_BestRatio.j0 k a0 a1 (!t266))) else (impl_BestRatio.j0 k a0 a1 true))) = some (r1, r2, r3, r4) := h
 clear h
 have HC3 := Aside0.mk H
 clear H
 go_enter Tryd.func40, Tryd.ntmps40
 go_upto_region 1 with (first | ((with_reducible refine gate_dst (N := 4) rfl ?_); refine box_event ?hg (N := 4) ?hd (cs := #[.int .i64 0, .int .i64 0]) (t := 52) ?hr ?_; (case hd => rfl); (case hg => rfl); (case hr => first | (go_simp; done) | (go_simp; rfl)); intro gb264 hg w4 hbox hb; have BK264 := Aside0.mk (hbox); have GW264 := Aside0.mk ((by rw [hg]; exact (below_size (tH HB)) : w.heap.size ≤ gb264)); have GE264 := Aside0.mk ((by rw [hg]; exact (below_size (tH HB)) : w.heap.size ≤ gb264)); replace HB := Aside0.mk (below_step (tH HB) hb); clear hb hbox hg))
 (try simp only [Act.put, sx0, sx1, sx2])
 go_cut [20] (fun v20 wc => ∃ (kq : Nat) (x20_2 : Bool), v20 = .bool x20_2 ∧ Aside0 (impl_BestRatio.j0 kq a0 a1 x20_2 = some (r1, r2, r3, r4)) ∧ Aside0 (kq ≤ k) ∧ Aside0 (wc.heap[gb264]? = some (.cells #[.int .i64 0, .int .i64 0] 52 (0, 0))) ∧ Aside0 (Below w.heap.size w wc))
 case first =>
  have H := HC3.out
  clear HC3
  replace H := Option.bind_eq_some_iff.mp H
  obtain ⟨t265, A50, H⟩ := H
  replace H : (if t265 = true then ((impl_within.f a1 1 64).bind fun t266 => (impl_BestRatio.j0 k a0 a1 (!t266))) else (impl_BestRatio.j0 k a0 a1 true)) = some (r1, r2, r3, r4) := H
  have A5 := Aside0.mk A50
  clear A50
  by_cases c6 : t265 = true
  · subst c6
    have H1 : ((impl_within.f a1 1 64).bind fun t266 => (impl_BestRatio.j0 k a0 a1 (!t266))) = some (r1, r2, r3, r4) := by rw [if_pos rfl] at H; exact H
    clear H
    have H := H1
    clear H1
    replace H := Option.bind_eq_some_iff.mp H
    obtain ⟨t266, A70, H⟩ := H
    replace H : (impl_BestRatio.j0 k a0 a1 (!t266)) = some (r1, r2, r3, r4) := H
    have A7 := Aside0.mk A70
    clear A70
    have H' := Aside0.mk H
    clear H
    go_wp2_with (first | ((with_reducible refine gate_callee (f := 115) rfl ?_); refine gL_ (some 14) rfl rfl Tryd.func115 #[.int .i64 a0, .int .i64 0, .int .i64 120000] rfl ?_; (with_reducible refine (impl_within.calls a0 0 120000 true _ A5.out).mono ?_); rintro e w' ⟨rfl, ⟨nd, rfl⟩⟩; refine ⟨_, rfl, ?_⟩) | (go_at_call 115; (with_reducible refine (impl_within.calls a1 1 64 t266 _ A7.out).mono ?_); rintro e w' ⟨rfl, ⟨nd, rfl⟩⟩))
    go_meet
    case rel => exact ⟨_, (!t266), tq, H', ⟨by first | omega | exact Nat.le_refl _⟩, ⟨tB BK264⟩, ⟨tH1 HB GE264.out⟩⟩
  replace c6 := Bool.eq_false_iff.mpr c6
  subst c6
  have H1 : (impl_BestRatio.j0 k a0 a1 true) = some (r1, r2, r3, r4) := by rw [if_neg (show ¬ (false = true) by decide)] at H; exact H
  clear H
  have H := H1
  clear H1
  have H' := Aside0.mk H
  clear H
  go_wp2_with (first | ((with_reducible refine gate_callee (f := 115) rfl ?_); refine gL_ (some 14) rfl rfl Tryd.func115 #[.int .i64 a0, .int .i64 0, .int .i64 120000] rfl ?_; (with_reducible refine (impl_within.calls a0 0 120000 false _ A5.out).mono ?_); rintro e w' ⟨rfl, ⟨nd, rfl⟩⟩; refine ⟨_, rfl, ?_⟩))
  go_meet
  case rel => exact ⟨_, (true), tq, H', ⟨by first | omega | exact Nat.le_refl _⟩, ⟨tB BK264⟩, ⟨tH1 HB GE264.out⟩⟩
 case rest =>
 clear HC3
 try clear c1
 try clear p2
 try clear c4
 try clear c6
 obtain ⟨kq, x20_2, rfl, HA, HJ2, BK264, HB⟩ := hcut
 cases kq with
 | zero => exact absurd HA.out (by simp [impl_BestRatio.j0])
 | succ kj2 =>
 have H := HA.out
 clear HA
 simp only [impl_BestRatio.j0] at H
 by_cases c8 : x20_2 = true
 · subst c8
   have H1 : (some (0, 0, 0, 2)) = some (r1, r2, r3, r4) := by rw [if_pos rfl] at H; exact H
   clear H
   have H := H1
   clear H1
   simp only [Option.some.injEq, Prod.mk.injEq] at H
   obtain ⟨rfl, rfl, rfl, rfl⟩ := H
   have hcz9_0 : wc.cell? ⟨gb264, 0, none⟩ = some (.int .i64 0) := (blk_cell BK264.out 0).trans rfl
   have hcz9_1 : wc.cell? ⟨gb264, 1, none⟩ = some (.int .i64 0) := (blk_cell BK264.out 1).trans rfl
   have hfz9_0 := blk_frozen BK264.out 0
   have hfz9_1 := blk_frozen BK264.out 1
   go_wp2
   refine bodyPost_ret (results_ctt rfl _ _ gb264 52 #[.int .i64 0, .int .i64 0] (0, 0) _ rfl (by (with_reducible repeat (first | refine blk_drewN ?_ _ | refine blk_drew ?_ | refine blk_alloc ?_ _)); refine blk_put (cs := #[.int .i64 0, .int .i64 0]) ?_ 1 _ rfl; (with_reducible repeat (first | refine blk_drewN ?_ _ | refine blk_drew ?_ | refine blk_alloc ?_ _)); refine blk_put (cs := #[.int .i64 0, .int .i64 0]) ?_ 0 _ rfl; (with_reducible repeat (first | refine blk_drewN ?_ _ | refine blk_drew ?_ | refine blk_alloc ?_ _)); exact BK264.out) Tryd.underlying52 rfl (by kernel_rfl)) rfl ?_
   exact ⟨tE, tH1 HB GE264.out⟩
 replace c8 := Bool.eq_false_iff.mpr c8
 subst c8
 have H1 : (impl_BestRatio.l0 kj2 a0 a1 (-1) 1 0 0) = some (r1, r2, r3, r4) := by rw [if_neg (show ¬ (false = true) by decide)] at H; exact H
 clear H
 have H := H1
 clear H1
 have H' := Aside0.mk H
 clear H
 go_wp2_with (first | ((with_reducible refine gate_dst (N := 7) rfl ?_); refine box_event ?hg (N := 7) ?hd (cs := #[.int .i64 0, .int .i64 0]) (t := 52) ?hr ?_; (case hd => rfl); (case hg => rfl); (case hr => first | (go_simp; done) | (go_simp; rfl)); intro gb267 hg w10 hbox hb; have BK267 := Aside0.mk (hbox); have GW267 := Aside0.mk ((by rw [hg]; exact (below_size (tH1 HB GE264.out)) : w.heap.size ≤ gb267)); have GE267 := Aside0.mk ((by rw [hg]; exact (below_size (tH1 HB GE264.out)) : w.heap.size ≤ gb267)); replace HB := Aside0.mk (below_step (tH1 HB GE264.out) hb); have NB264_267 := Aside0.mk ((by rw [hg]; exact Nat.ne_of_lt (blk_lt (g := gb264) (o := .cells #[.int .i64 0, .int .i64 0] 52 (0, 0)) (tB BK264)) : gb264 ≠ gb267)); have NB267_264 := Aside0.mk ((by rw [hg]; exact Nat.ne_of_gt (blk_lt (g := gb264) (o := .cells #[.int .i64 0, .int .i64 0] 52 (0, 0)) (tB BK264)) : gb267 ≠ gb264)); replace BK264 := tbB BK264 hb; clear hb hbox hg; have hnb11 := NB267_264.out; have hnc11 := NB264_267.out; have hcz12_0 : w10.cell? ⟨gb267, 0, none⟩ = some (.int .i64 0) := (blk_cell BK267.out 0).trans rfl; have hcz12_1 : w10.cell? ⟨gb267, 1, none⟩ = some (.int .i64 0) := (blk_cell BK267.out 1).trans rfl; have hfz12_0 := blk_frozen BK267.out 0; have hfz12_1 := blk_frozen BK267.out 1))
 go_loopg [8, 9] kj2 (fun kq v8 v9 w' => ∃ (x8_2 : Int) (x9_2 : Int) (x268000_2 : Int) (x268001_2 : Int), v8 = .int .i64 x8_2 ∧ v9 = .int .i64 x9_2 ∧ Aside0 (impl_BestRatio.l0 kq a0 a1 x8_2 x9_2 x268000_2 x268001_2 = some (r1, r2, r3, r4)) ∧ Aside0 (kq ≤ kj2) ∧ Aside0 (w'.heap[gb264]? = some (.cells #[.int .i64 0, .int .i64 0] 52 (0, 0))) ∧ Aside0 (w'.heap[gb267]? = some (.cells #[.int .i64 x268000_2, .int .i64 x268001_2] 52 (0, 0))) ∧ Aside0 (Below w.heap.size w w'))
 case atStart => exact ⟨((-1)), (1), (0), (0), tq, tq, H', ⟨Nat.le_refl _⟩, ⟨by (with_reducible repeat (first | refine blk_drewN ?_ _ | refine blk_drew ?_ | refine blk_alloc ?_ _)); refine blk_far ?_ NB264_267.out _; (with_reducible repeat (first | refine blk_drewN ?_ _ | refine blk_drew ?_ | refine blk_alloc ?_ _)); refine blk_far ?_ NB264_267.out _; (with_reducible repeat (first | refine blk_drewN ?_ _ | refine blk_drew ?_ | refine blk_alloc ?_ _)); exact BK264.out⟩, ⟨by (with_reducible repeat (first | refine blk_drewN ?_ _ | refine blk_drew ?_ | refine blk_alloc ?_ _)); refine blk_put (cs := #[.int .i64 0, .int .i64 0]) ?_ 1 _ rfl; (with_reducible repeat (first | refine blk_drewN ?_ _ | refine blk_drew ?_ | refine blk_alloc ?_ _)); refine blk_put (cs := #[.int .i64 0, .int .i64 0]) ?_ 0 _ rfl; (with_reducible repeat (first | refine blk_drewN ?_ _ | refine blk_drew ?_ | refine blk_alloc ?_ _)); exact BK267.out⟩, ⟨tH2 HB GE264.out GE267.out⟩⟩
 case round =>
 clear H'
 try clear c1
 try clear p2
 try clear c4
 try clear c6
 try clear c8
 try clear c11
 try clear hcz12_0 hcz12_1
 try clear hcz9_0 hcz9_1
 try clear hfz12_0 hfz12_1
 try clear hfz9_0 hfz9_1
 try clear p2
 obtain ⟨x8_2, x9_2, x268000_2, x268001_2, rfl, rfl, HA, HK2, BK264, BK267, HB⟩ := hrel
 cases gk with
 | zero => exact absurd HA.out (by simp [impl_BestRatio.l0])
 | succ k2 =>
 have H := HA.out
 clear HA
 simp only [impl_BestRatio.l0] at H
 by_cases c13 : x9_2 ≤ a1
 · rw [if_pos c13] at H
   have c13b0 : decide (x9_2 ≤ a1) = true := decide_eq_true c13
   clear c13
   have H' := Aside0.mk H
   clear H
   go_wp2
   go_loopg [8, 10] k2 (fun kq v8 v10 w' => ∃ (x8_3 : Int) (x10_3 : Int) (x268000_3 : Int) (x268001_3 : Int), v8 = .int .i64 x8_3 ∧ v10 = .int .i64 x10_3 ∧ Aside0 (impl_BestRatio.l1 kq a0 a1 x8_3 x9_2 x10_3 x268000_3 x268001_3 = some (r1, r2, r3, r4)) ∧ Aside0 (kq ≤ k2) ∧ Aside0 (w'.heap[gb264]? = some (.cells #[.int .i64 0, .int .i64 0] 52 (0, 0))) ∧ Aside0 (w'.heap[gb267]? = some (.cells #[.int .i64 x268000_3, .int .i64 x268001_3] 52 (0, 0))) ∧ Aside0 (Below w.heap.size w w'))
   case atStart => exact ⟨(x8_2), (x9_2), (x268000_2), (x268001_2), tq, tq, H', ⟨Nat.le_refl _⟩, ⟨tB BK264⟩, ⟨tB BK267⟩, ⟨tH2 HB GE264.out GE267.out⟩⟩
   case round =>
   clear H'
   try clear c1
   try clear p2
   try clear c4
   try clear c6
   try clear c8
   try clear c11
   try clear c13
   try clear c13b0
   try clear hcz12_0 hcz12_1
   try clear hcz9_0 hcz9_1
   try clear hfz12_0 hfz12_1
   try clear hfz9_0 hfz9_1
   try clear p2
   obtain ⟨x8_3, x10_3, x268000_3, x268001_3, rfl, rfl, HA, HK3, BK264, BK267, HB⟩ := hrel
   cases gk with
   | zero => exact absurd HA.out (by simp [impl_BestRatio.l1])
   | succ k3 =>
   have H := HA.out
   clear HA
   simp only [impl_BestRatio.l1] at H
   by_cases c14 : x10_3 ≤ (wrap64 (2 * x9_2))
   · rw [if_pos c14] at H
     have c14b0 : decide (x10_3 ≤ (wrap64 (2 * x9_2))) = true := decide_eq_true c14
     clear c14
     replace H := Option.bind_eq_some_iff.mp H
     obtain ⟨t269, A150, H⟩ := H
     replace H : (if t269 = true then ((impl_Ratio_cents.f k3 x10_3 x9_2).bind fun t270 => ((impl_abs.f (wrap64 (t270 - a0))).bind fun t271 => (if x8_3 < 0 then (impl_BestRatio.l1 k3 a0 a1 t271 x9_2 (wrap64 (x10_3 + 1)) x10_3 x9_2) else (if t271 < x8_3 then (impl_BestRatio.l1 k3 a0 a1 t271 x9_2 (wrap64 (x10_3 + 1)) x10_3 x9_2) else (impl_BestRatio.l1 k3 a0 a1 x8_3 x9_2 (wrap64 (x10_3 + 1)) x268000_3 x268001_3))))) else (impl_BestRatio.l1 k3 a0 a1 x8_3 x9_2 (wrap64 (x10_3 + 1)) x268000_3 x268001_3)) = some (r1, r2, r3, r4) := H
     have A15 := Aside0.mk A150
     clear A150
     by_cases c16 : t269 = true
     · subst c16
       have H1 : ((impl_Ratio_cents.f k3 x10_3 x9_2).bind fun t270 => ((impl_abs.f (wrap64 (t270 - a0))).bind fun t271 => (if x8_3 < 0 then (impl_BestRatio.l1 k3 a0 a1 t271 x9_2 (wrap64 (x10_3 + 1)) x10_3 x9_2) else (if t271 < x8_3 then (impl_BestRatio.l1 k3 a0 a1 t271 x9_2 (wrap64 (x10_3 + 1)) x10_3 x9_2) else (impl_BestRatio.l1 k3 a0 a1 x8_3 x9_2 (wrap64 (x10_3 + 1)) x268000_3 x268001_3))))) = some (r1, r2, r3, r4) := by rw [if_pos rfl] at H; exact H
       clear H
       have H := H1
       clear H1
       replace H := Option.bind_eq_some_iff.mp H
       obtain ⟨t270, A170, H⟩ := H
       replace H : ((impl_abs.f (wrap64 (t270 - a0))).bind fun t271 => (if x8_3 < 0 then (impl_BestRatio.l1 k3 a0 a1 t271 x9_2 (wrap64 (x10_3 + 1)) x10_3 x9_2) else (if t271 < x8_3 then (impl_BestRatio.l1 k3 a0 a1 t271 x9_2 (wrap64 (x10_3 + 1)) x10_3 x9_2) else (impl_BestRatio.l1 k3 a0 a1 x8_3 x9_2 (wrap64 (x10_3 + 1)) x268000_3 x268001_3)))) = some (r1, r2, r3, r4) := H
       have A17 := Aside0.mk A170
       clear A170
       replace H := Option.bind_eq_some_iff.mp H
       obtain ⟨t271, A180, H⟩ := H
       replace H : (if x8_3 < 0 then (impl_BestRatio.l1 k3 a0 a1 t271 x9_2 (wrap64 (x10_3 + 1)) x10_3 x9_2) else (if t271 < x8_3 then (impl_BestRatio.l1 k3 a0 a1 t271 x9_2 (wrap64 (x10_3 + 1)) x10_3 x9_2) else (impl_BestRatio.l1 k3 a0 a1 x8_3 x9_2 (wrap64 (x10_3 + 1)) x268000_3 x268001_3))) = some (r1, r2, r3, r4) := H
       have A18 := Aside0.mk A180
       clear A180
       by_cases c19 : x8_3 < 0
       · rw [if_pos c19] at H
         have c19b0 : decide (x8_3 < 0) = true := decide_eq_true c19
         clear c19
         have H' := Aside0.mk H
         clear H
         go_wp2_with (first | ((with_reducible refine gate_dst (N := 11) rfl ?_); refine box_event ?hg (N := 11) ?hd (cs := #[.int .i64 0, .int .i64 0]) (t := 52) ?hr ?_; (case hd => rfl); (case hg => rfl); (case hr => first | (go_simp; done) | (go_simp; rfl)); intro gb268 hg w20 hbox hb; have BK268 := Aside0.mk (hbox); have GW268 := Aside0.mk ((by rw [hg]; exact (below_size (tH2 HB GE264.out GE267.out)) : w.heap.size ≤ gb268)); have GE268 := Aside0.mk ((by rw [hg]; exact (below_size (tH2 HB GE264.out GE267.out)) : w.heap.size ≤ gb268)); replace HB := Aside0.mk (below_step (tH2 HB GE264.out GE267.out) hb); have NB264_268 := Aside0.mk ((by rw [hg]; exact Nat.ne_of_lt (blk_lt (g := gb264) (o := .cells #[.int .i64 0, .int .i64 0] 52 (0, 0)) (tB BK264)) : gb264 ≠ gb268)); have NB268_264 := Aside0.mk ((by rw [hg]; exact Nat.ne_of_gt (blk_lt (g := gb264) (o := .cells #[.int .i64 0, .int .i64 0] 52 (0, 0)) (tB BK264)) : gb268 ≠ gb264)); replace BK264 := tbB BK264 hb; have NB267_268 := Aside0.mk ((by rw [hg]; exact Nat.ne_of_lt (blk_lt (g := gb267) (o := .cells #[.int .i64 x268000_3, .int .i64 x268001_3] 52 (0, 0)) (tB BK267)) : gb267 ≠ gb268)); have NB268_267 := Aside0.mk ((by rw [hg]; exact Nat.ne_of_gt (blk_lt (g := gb267) (o := .cells #[.int .i64 x268000_3, .int .i64 x268001_3] 52 (0, 0)) (tB BK267)) : gb268 ≠ gb267)); replace BK267 := tbB BK267 hb; clear hb hbox hg; have hnb21 := NB268_264.out; have hnc21 := NB264_268.out; have hnb22 := NB268_267.out; have hnc22 := NB267_268.out; have hcz23_0 : w20.cell? ⟨gb268, 0, none⟩ = some (.int .i64 0) := (blk_cell BK268.out 0).trans rfl; have hcz23_1 : w20.cell? ⟨gb268, 1, none⟩ = some (.int .i64 0) := (blk_cell BK268.out 1).trans rfl; have hfz23_0 := blk_frozen BK268.out 0; have hfz23_1 := blk_frozen BK268.out 1) | ((with_reducible refine gate_callee (f := 108) rfl ?_); refine gL_ (some 39) rfl rfl Tryd.func108 #[.agg #[.int .i64 x10_3, .int .i64 x9_2]] rfl ?_; (with_reducible refine (impl_ValidRatio.calls k3 x10_3 x9_2 true _ A15.out).mono ?_); rintro e w24 ⟨rfl, hb⟩; refine ⟨_, rfl, ?_⟩; replace BK264 := Aside0.mk (blk_below (g := gb264) (o := .cells #[.int .i64 0, .int .i64 0] 52 (0, 0)) (by (with_reducible repeat (first | refine blk_drewN ?_ _ | refine blk_drew ?_ | refine blk_alloc ?_ _)); refine blk_far ?_ NB264_268.out _; (with_reducible repeat (first | refine blk_drewN ?_ _ | refine blk_drew ?_ | refine blk_alloc ?_ _)); refine blk_far ?_ NB264_268.out _; (with_reducible repeat (first | refine blk_drewN ?_ _ | refine blk_drew ?_ | refine blk_alloc ?_ _)); exact BK264.out) hb); replace BK267 := Aside0.mk (blk_below (g := gb267) (o := .cells #[.int .i64 x268000_3, .int .i64 x268001_3] 52 (0, 0)) (by (with_reducible repeat (first | refine blk_drewN ?_ _ | refine blk_drew ?_ | refine blk_alloc ?_ _)); refine blk_far ?_ NB267_268.out _; (with_reducible repeat (first | refine blk_drewN ?_ _ | refine blk_drew ?_ | refine blk_alloc ?_ _)); refine blk_far ?_ NB267_268.out _; (with_reducible repeat (first | refine blk_drewN ?_ _ | refine blk_drew ?_ | refine blk_alloc ?_ _)); exact BK267.out) hb); replace BK268 := Aside0.mk (blk_below (g := gb268) (o := .cells #[.int .i64 x10_3, .int .i64 x9_2] 52 (0, 0)) (by (with_reducible repeat (first | refine blk_drewN ?_ _ | refine blk_drew ?_ | refine blk_alloc ?_ _)); refine blk_put (cs := #[.int .i64 x10_3, .int .i64 0]) ?_ 1 _ rfl; (with_reducible repeat (first | refine blk_drewN ?_ _ | refine blk_drew ?_ | refine blk_alloc ?_ _)); refine blk_put (cs := #[.int .i64 0, .int .i64 0]) ?_ 0 _ rfl; (with_reducible repeat (first | refine blk_drewN ?_ _ | refine blk_drew ?_ | refine blk_alloc ?_ _)); exact BK268.out) hb); replace HB := Aside0.mk (below_step (tH3 HB GE264.out GE267.out GE268.out) hb); (try clear hb); (try clear hb2); (try clear hk); (try clear hi); have hcz25_0 : w24.cell? ⟨gb268, 0, none⟩ = some (.int .i64 x10_3) := (blk_cell BK268.out 0).trans rfl; have hcz25_1 : w24.cell? ⟨gb268, 1, none⟩ = some (.int .i64 x9_2) := (blk_cell BK268.out 1).trans rfl; have hfz25_0 := blk_frozen BK268.out 0; have hfz25_1 := blk_frozen BK268.out 1) | ((with_reducible refine gate_callee (f := 109) rfl ?_); refine gL_ (some 42) rfl rfl Tryd.func109 #[.agg #[.int .i64 x10_3, .int .i64 x9_2]] rfl ?_; (with_reducible refine (impl_Ratio_cents.calls k3 x10_3 x9_2 t270 _ ?side1 A17.out).mono ?_); (case side1 => exact tC (Kd.C_below HT.out HB.out)); rintro e w26 ⟨rfl, hb⟩; refine ⟨_, rfl, ?_⟩; replace BK264 := tbB BK264 hb; replace BK267 := tbB BK267 hb; replace BK268 := tbB BK268 hb; replace HB := Aside0.mk (below_step (tH3 HB GE264.out GE267.out GE268.out) hb); (try clear hb); (try clear hb2); (try clear hk); (try clear hi)) | ((with_reducible refine gate_callee (f := 116) rfl ?_); refine gL_ (some 45) rfl rfl Tryd.func116 #[.int .i64 (wrap64 (t270 - a0))] rfl ?_; (with_reducible refine (impl_abs.calls (wrap64 (t270 - a0)) t271 _ A18.out).mono ?_); rintro e w27 ⟨rfl, hb⟩; refine ⟨_, rfl, ?_⟩; replace BK264 := tbB BK264 hb; replace BK267 := tbB BK267 hb; replace BK268 := tbB BK268 hb; replace HB := Aside0.mk (below_step (tH3 HB GE264.out GE267.out GE268.out) hb); (try clear hb); (try clear hb2); (try clear hk); (try clear hi); have hcz28_0 : w27.cell? ⟨gb268, 0, none⟩ = some (.int .i64 x10_3) := (blk_cell BK268.out 0).trans rfl; have hcz28_1 : w27.cell? ⟨gb268, 1, none⟩ = some (.int .i64 x9_2) := (blk_cell BK268.out 1).trans rfl; have hfz28_0 := blk_frozen BK268.out 0; have hfz28_1 := blk_frozen BK268.out 1; have hnb29 := NB267_264.out; have hnc29 := NB264_267.out; have hcz30_0 : w27.cell? ⟨gb267, 0, none⟩ = some (.int .i64 x268000_3) := (blk_cell BK267.out 0).trans rfl; have hcz30_1 : w27.cell? ⟨gb267, 1, none⟩ = some (.int .i64 x268001_3) := (blk_cell BK267.out 1).trans rfl; have hfz30_0 := blk_frozen BK267.out 0; have hfz30_1 := blk_frozen BK267.out 1))
         go_roundg k3
         case measure => have := HJ2.out; have := HK2.out; have := HK3.out; omega
         case rel => exact ⟨(t271), (wrap64 (x10_3 + 1)), (x10_3), (x9_2), tq, tq, H', ⟨by have := HJ2.out; have := HK2.out; have := HK3.out; omega⟩, ⟨by (with_reducible repeat (first | refine blk_drewN ?_ _ | refine blk_drew ?_ | refine blk_alloc ?_ _)); refine blk_far ?_ NB264_267.out _; (with_reducible repeat (first | refine blk_drewN ?_ _ | refine blk_drew ?_ | refine blk_alloc ?_ _)); refine blk_far ?_ NB264_267.out _; (with_reducible repeat (first | refine blk_drewN ?_ _ | refine blk_drew ?_ | refine blk_alloc ?_ _)); exact BK264.out⟩, ⟨by (with_reducible repeat (first | refine blk_drewN ?_ _ | refine blk_drew ?_ | refine blk_alloc ?_ _)); refine blk_put (cs := #[.int .i64 x10_3, .int .i64 x268001_3]) ?_ 1 _ rfl; (with_reducible repeat (first | refine blk_drewN ?_ _ | refine blk_drew ?_ | refine blk_alloc ?_ _)); refine blk_put (cs := #[.int .i64 x268000_3, .int .i64 x268001_3]) ?_ 0 _ rfl; (with_reducible repeat (first | refine blk_drewN ?_ _ | refine blk_drew ?_ | refine blk_alloc ?_ _)); exact BK267.out⟩, ⟨tH3 HB GE264.out GE267.out GE268.out⟩⟩
       rw [if_neg c19] at H
       have c19b0 : decide (x8_3 < 0) = false := decide_eq_false c19
       clear c19
       by_cases c31 : t271 < x8_3
       · rw [if_pos c31] at H
         have c31b0 : decide (t271 < x8_3) = true := decide_eq_true c31
         clear c31
         have H' := Aside0.mk H
         clear H
         go_wp2_with (first | ((with_reducible refine gate_dst (N := 11) rfl ?_); refine box_event ?hg (N := 11) ?hd (cs := #[.int .i64 0, .int .i64 0]) (t := 52) ?hr ?_; (case hd => rfl); (case hg => rfl); (case hr => first | (go_simp; done) | (go_simp; rfl)); intro gb268 hg w32 hbox hb; have BK268 := Aside0.mk (hbox); have GW268 := Aside0.mk ((by rw [hg]; exact (below_size (tH2 HB GE264.out GE267.out)) : w.heap.size ≤ gb268)); have GE268 := Aside0.mk ((by rw [hg]; exact (below_size (tH2 HB GE264.out GE267.out)) : w.heap.size ≤ gb268)); replace HB := Aside0.mk (below_step (tH2 HB GE264.out GE267.out) hb); have NB264_268 := Aside0.mk ((by rw [hg]; exact Nat.ne_of_lt (blk_lt (g := gb264) (o := .cells #[.int .i64 0, .int .i64 0] 52 (0, 0)) (tB BK264)) : gb264 ≠ gb268)); have NB268_264 := Aside0.mk ((by rw [hg]; exact Nat.ne_of_gt (blk_lt (g := gb264) (o := .cells #[.int .i64 0, .int .i64 0] 52 (0, 0)) (tB BK264)) : gb268 ≠ gb264)); replace BK264 := tbB BK264 hb; have NB267_268 := Aside0.mk ((by rw [hg]; exact Nat.ne_of_lt (blk_lt (g := gb267) (o := .cells #[.int .i64 x268000_3, .int .i64 x268001_3] 52 (0, 0)) (tB BK267)) : gb267 ≠ gb268)); have NB268_267 := Aside0.mk ((by rw [hg]; exact Nat.ne_of_gt (blk_lt (g := gb267) (o := .cells #[.int .i64 x268000_3, .int .i64 x268001_3] 52 (0, 0)) (tB BK267)) : gb268 ≠ gb267)); replace BK267 := tbB BK267 hb; clear hb hbox hg; have hnb33 := NB268_264.out; have hnc33 := NB264_268.out; have hnb34 := NB268_267.out; have hnc34 := NB267_268.out; have hcz35_0 : w32.cell? ⟨gb268, 0, none⟩ = some (.int .i64 0) := (blk_cell BK268.out 0).trans rfl; have hcz35_1 : w32.cell? ⟨gb268, 1, none⟩ = some (.int .i64 0) := (blk_cell BK268.out 1).trans rfl; have hfz35_0 := blk_frozen BK268.out 0; have hfz35_1 := blk_frozen BK268.out 1) | ((with_reducible refine gate_callee (f := 108) rfl ?_); refine gL_ (some 39) rfl rfl Tryd.func108 #[.agg #[.int .i64 x10_3, .int .i64 x9_2]] rfl ?_; (with_reducible refine (impl_ValidRatio.calls k3 x10_3 x9_2 true _ A15.out).mono ?_); rintro e w36 ⟨rfl, hb⟩; refine ⟨_, rfl, ?_⟩; replace BK264 := Aside0.mk (blk_below (g := gb264) (o := .cells #[.int .i64 0, .int .i64 0] 52 (0, 0)) (by (with_reducible repeat (first | refine blk_drewN ?_ _ | refine blk_drew ?_ | refine blk_alloc ?_ _)); refine blk_far ?_ NB264_268.out _; (with_reducible repeat (first | refine blk_drewN ?_ _ | refine blk_drew ?_ | refine blk_alloc ?_ _)); refine blk_far ?_ NB264_268.out _; (with_reducible repeat (first | refine blk_drewN ?_ _ | refine blk_drew ?_ | refine blk_alloc ?_ _)); exact BK264.out) hb); replace BK267 := Aside0.mk (blk_below (g := gb267) (o := .cells #[.int .i64 x268000_3, .int .i64 x268001_3] 52 (0, 0)) (by (with_reducible repeat (first | refine blk_drewN ?_ _ | refine blk_drew ?_ | refine blk_alloc ?_ _)); refine blk_far ?_ NB267_268.out _; (with_reducible repeat (first | refine blk_drewN ?_ _ | refine blk_drew ?_ | refine blk_alloc ?_ _)); refine blk_far ?_ NB267_268.out _; (with_reducible repeat (first | refine blk_drewN ?_ _ | refine blk_drew ?_ | refine blk_alloc ?_ _)); exact BK267.out) hb); replace BK268 := Aside0.mk (blk_below (g := gb268) (o := .cells #[.int .i64 x10_3, .int .i64 x9_2] 52 (0, 0)) (by (with_reducible repeat (first | refine blk_drewN ?_ _ | refine blk_drew ?_ | refine blk_alloc ?_ _)); refine blk_put (cs := #[.int .i64 x10_3, .int .i64 0]) ?_ 1 _ rfl; (with_reducible repeat (first | refine blk_drewN ?_ _ | refine blk_drew ?_ | refine blk_alloc ?_ _)); refine blk_put (cs := #[.int .i64 0, .int .i64 0]) ?_ 0 _ rfl; (with_reducible repeat (first | refine blk_drewN ?_ _ | refine blk_drew ?_ | refine blk_alloc ?_ _)); exact BK268.out) hb); replace HB := Aside0.mk (below_step (tH3 HB GE264.out GE267.out GE268.out) hb); (try clear hb); (try clear hb2); (try clear hk); (try clear hi); have hcz37_0 : w36.cell? ⟨gb268, 0, none⟩ = some (.int .i64 x10_3) := (blk_cell BK268.out 0).trans rfl; have hcz37_1 : w36.cell? ⟨gb268, 1, none⟩ = some (.int .i64 x9_2) := (blk_cell BK268.out 1).trans rfl; have hfz37_0 := blk_frozen BK268.out 0; have hfz37_1 := blk_frozen BK268.out 1) | ((with_reducible refine gate_callee (f := 109) rfl ?_); refine gL_ (some 42) rfl rfl Tryd.func109 #[.agg #[.int .i64 x10_3, .int .i64 x9_2]] rfl ?_; (with_reducible refine (impl_Ratio_cents.calls k3 x10_3 x9_2 t270 _ ?side1 A17.out).mono ?_); (case side1 => exact tC (Kd.C_below HT.out HB.out)); rintro e w38 ⟨rfl, hb⟩; refine ⟨_, rfl, ?_⟩; replace BK264 := tbB BK264 hb; replace BK267 := tbB BK267 hb; replace BK268 := tbB BK268 hb; replace HB := Aside0.mk (below_step (tH3 HB GE264.out GE267.out GE268.out) hb); (try clear hb); (try clear hb2); (try clear hk); (try clear hi)) | ((with_reducible refine gate_callee (f := 116) rfl ?_); refine gL_ (some 45) rfl rfl Tryd.func116 #[.int .i64 (wrap64 (t270 - a0))] rfl ?_; (with_reducible refine (impl_abs.calls (wrap64 (t270 - a0)) t271 _ A18.out).mono ?_); rintro e w39 ⟨rfl, hb⟩; refine ⟨_, rfl, ?_⟩; replace BK264 := tbB BK264 hb; replace BK267 := tbB BK267 hb; replace BK268 := tbB BK268 hb; replace HB := Aside0.mk (below_step (tH3 HB GE264.out GE267.out GE268.out) hb); (try clear hb); (try clear hb2); (try clear hk); (try clear hi); have hcz40_0 : w39.cell? ⟨gb268, 0, none⟩ = some (.int .i64 x10_3) := (blk_cell BK268.out 0).trans rfl; have hcz40_1 : w39.cell? ⟨gb268, 1, none⟩ = some (.int .i64 x9_2) := (blk_cell BK268.out 1).trans rfl; have hfz40_0 := blk_frozen BK268.out 0; have hfz40_1 := blk_frozen BK268.out 1; have hnb41 := NB267_264.out; have hnc41 := NB264_267.out; have hcz42_0 : w39.cell? ⟨gb267, 0, none⟩ = some (.int .i64 x268000_3) := (blk_cell BK267.out 0).trans rfl; have hcz42_1 : w39.cell? ⟨gb267, 1, none⟩ = some (.int .i64 x268001_3) := (blk_cell BK267.out 1).trans rfl; have hfz42_0 := blk_frozen BK267.out 0; have hfz42_1 := blk_frozen BK267.out 1))
         go_roundg k3
         case measure => have := HJ2.out; have := HK2.out; have := HK3.out; omega
         case rel => exact ⟨(t271), (wrap64 (x10_3 + 1)), (x10_3), (x9_2), tq, tq, H', ⟨by have := HJ2.out; have := HK2.out; have := HK3.out; omega⟩, ⟨by (with_reducible repeat (first | refine blk_drewN ?_ _ | refine blk_drew ?_ | refine blk_alloc ?_ _)); refine blk_far ?_ NB264_267.out _; (with_reducible repeat (first | refine blk_drewN ?_ _ | refine blk_drew ?_ | refine blk_alloc ?_ _)); refine blk_far ?_ NB264_267.out _; (with_reducible repeat (first | refine blk_drewN ?_ _ | refine blk_drew ?_ | refine blk_alloc ?_ _)); exact BK264.out⟩, ⟨by (with_reducible repeat (first | refine blk_drewN ?_ _ | refine blk_drew ?_ | refine blk_alloc ?_ _)); refine blk_put (cs := #[.int .i64 x10_3, .int .i64 x268001_3]) ?_ 1 _ rfl; (with_reducible repeat (first | refine blk_drewN ?_ _ | refine blk_drew ?_ | refine blk_alloc ?_ _)); refine blk_put (cs := #[.int .i64 x268000_3, .int .i64 x268001_3]) ?_ 0 _ rfl; (with_reducible repeat (first | refine blk_drewN ?_ _ | refine blk_drew ?_ | refine blk_alloc ?_ _)); exact BK267.out⟩, ⟨tH3 HB GE264.out GE267.out GE268.out⟩⟩
       rw [if_neg c31] at H
       have c31b0 : decide (t271 < x8_3) = false := decide_eq_false c31
       clear c31
       have H' := Aside0.mk H
       clear H
       go_wp2_with (first | ((with_reducible refine gate_dst (N := 11) rfl ?_); refine box_event ?hg (N := 11) ?hd (cs := #[.int .i64 0, .int .i64 0]) (t := 52) ?hr ?_; (case hd => rfl); (case hg => rfl); (case hr => first | (go_simp; done) | (go_simp; rfl)); intro gb268 hg w43 hbox hb; have BK268 := Aside0.mk (hbox); have GW268 := Aside0.mk ((by rw [hg]; exact (below_size (tH2 HB GE264.out GE267.out)) : w.heap.size ≤ gb268)); have GE268 := Aside0.mk ((by rw [hg]; exact (below_size (tH2 HB GE264.out GE267.out)) : w.heap.size ≤ gb268)); replace HB := Aside0.mk (below_step (tH2 HB GE264.out GE267.out) hb); have NB264_268 := Aside0.mk ((by rw [hg]; exact Nat.ne_of_lt (blk_lt (g := gb264) (o := .cells #[.int .i64 0, .int .i64 0] 52 (0, 0)) (tB BK264)) : gb264 ≠ gb268)); have NB268_264 := Aside0.mk ((by rw [hg]; exact Nat.ne_of_gt (blk_lt (g := gb264) (o := .cells #[.int .i64 0, .int .i64 0] 52 (0, 0)) (tB BK264)) : gb268 ≠ gb264)); replace BK264 := tbB BK264 hb; have NB267_268 := Aside0.mk ((by rw [hg]; exact Nat.ne_of_lt (blk_lt (g := gb267) (o := .cells #[.int .i64 x268000_3, .int .i64 x268001_3] 52 (0, 0)) (tB BK267)) : gb267 ≠ gb268)); have NB268_267 := Aside0.mk ((by rw [hg]; exact Nat.ne_of_gt (blk_lt (g := gb267) (o := .cells #[.int .i64 x268000_3, .int .i64 x268001_3] 52 (0, 0)) (tB BK267)) : gb268 ≠ gb267)); replace BK267 := tbB BK267 hb; clear hb hbox hg; have hnb44 := NB268_264.out; have hnc44 := NB264_268.out; have hnb45 := NB268_267.out; have hnc45 := NB267_268.out; have hcz46_0 : w43.cell? ⟨gb268, 0, none⟩ = some (.int .i64 0) := (blk_cell BK268.out 0).trans rfl; have hcz46_1 : w43.cell? ⟨gb268, 1, none⟩ = some (.int .i64 0) := (blk_cell BK268.out 1).trans rfl; have hfz46_0 := blk_frozen BK268.out 0; have hfz46_1 := blk_frozen BK268.out 1) | ((with_reducible refine gate_callee (f := 108) rfl ?_); refine gL_ (some 39) rfl rfl Tryd.func108 #[.agg #[.int .i64 x10_3, .int .i64 x9_2]] rfl ?_; (with_reducible refine (impl_ValidRatio.calls k3 x10_3 x9_2 true _ A15.out).mono ?_); rintro e w47 ⟨rfl, hb⟩; refine ⟨_, rfl, ?_⟩; replace BK264 := Aside0.mk (blk_below (g := gb264) (o := .cells #[.int .i64 0, .int .i64 0] 52 (0, 0)) (by (with_reducible repeat (first | refine blk_drewN ?_ _ | refine blk_drew ?_ | refine blk_alloc ?_ _)); refine blk_far ?_ NB264_268.out _; (with_reducible repeat (first | refine blk_drewN ?_ _ | refine blk_drew ?_ | refine blk_alloc ?_ _)); refine blk_far ?_ NB264_268.out _; (with_reducible repeat (first | refine blk_drewN ?_ _ | refine blk_drew ?_ | refine blk_alloc ?_ _)); exact BK264.out) hb); replace BK267 := Aside0.mk (blk_below (g := gb267) (o := .cells #[.int .i64 x268000_3, .int .i64 x268001_3] 52 (0, 0)) (by (with_reducible repeat (first | refine blk_drewN ?_ _ | refine blk_drew ?_ | refine blk_alloc ?_ _)); refine blk_far ?_ NB267_268.out _; (with_reducible repeat (first | refine blk_drewN ?_ _ | refine blk_drew ?_ | refine blk_alloc ?_ _)); refine blk_far ?_ NB267_268.out _; (with_reducible repeat (first | refine blk_drewN ?_ _ | refine blk_drew ?_ | refine blk_alloc ?_ _)); exact BK267.out) hb); replace BK268 := Aside0.mk (blk_below (g := gb268) (o := .cells #[.int .i64 x10_3, .int .i64 x9_2] 52 (0, 0)) (by (with_reducible repeat (first | refine blk_drewN ?_ _ | refine blk_drew ?_ | refine blk_alloc ?_ _)); refine blk_put (cs := #[.int .i64 x10_3, .int .i64 0]) ?_ 1 _ rfl; (with_reducible repeat (first | refine blk_drewN ?_ _ | refine blk_drew ?_ | refine blk_alloc ?_ _)); refine blk_put (cs := #[.int .i64 0, .int .i64 0]) ?_ 0 _ rfl; (with_reducible repeat (first | refine blk_drewN ?_ _ | refine blk_drew ?_ | refine blk_alloc ?_ _)); exact BK268.out) hb); replace HB := Aside0.mk (below_step (tH3 HB GE264.out GE267.out GE268.out) hb); (try clear hb); (try clear hb2); (try clear hk); (try clear hi); have hcz48_0 : w47.cell? ⟨gb268, 0, none⟩ = some (.int .i64 x10_3) := (blk_cell BK268.out 0).trans rfl; have hcz48_1 : w47.cell? ⟨gb268, 1, none⟩ = some (.int .i64 x9_2) := (blk_cell BK268.out 1).trans rfl; have hfz48_0 := blk_frozen BK268.out 0; have hfz48_1 := blk_frozen BK268.out 1) | ((with_reducible refine gate_callee (f := 109) rfl ?_); refine gL_ (some 42) rfl rfl Tryd.func109 #[.agg #[.int .i64 x10_3, .int .i64 x9_2]] rfl ?_; (with_reducible refine (impl_Ratio_cents.calls k3 x10_3 x9_2 t270 _ ?side1 A17.out).mono ?_); (case side1 => exact tC (Kd.C_below HT.out HB.out)); rintro e w49 ⟨rfl, hb⟩; refine ⟨_, rfl, ?_⟩; replace BK264 := tbB BK264 hb; replace BK267 := tbB BK267 hb; replace BK268 := tbB BK268 hb; replace HB := Aside0.mk (below_step (tH3 HB GE264.out GE267.out GE268.out) hb); (try clear hb); (try clear hb2); (try clear hk); (try clear hi)) | ((with_reducible refine gate_callee (f := 116) rfl ?_); refine gL_ (some 45) rfl rfl Tryd.func116 #[.int .i64 (wrap64 (t270 - a0))] rfl ?_; (with_reducible refine (impl_abs.calls (wrap64 (t270 - a0)) t271 _ A18.out).mono ?_); rintro e w50 ⟨rfl, hb⟩; refine ⟨_, rfl, ?_⟩; replace BK264 := tbB BK264 hb; replace BK267 := tbB BK267 hb; replace BK268 := tbB BK268 hb; replace HB := Aside0.mk (below_step (tH3 HB GE264.out GE267.out GE268.out) hb); (try clear hb); (try clear hb2); (try clear hk); (try clear hi)))
       go_roundg k3
       case measure => have := HJ2.out; have := HK2.out; have := HK3.out; omega
       case rel => exact ⟨(x8_3), (wrap64 (x10_3 + 1)), (x268000_3), (x268001_3), tq, tq, H', ⟨by have := HJ2.out; have := HK2.out; have := HK3.out; omega⟩, ⟨tB BK264⟩, ⟨tB BK267⟩, ⟨tH3 HB GE264.out GE267.out GE268.out⟩⟩
     replace c16 := Bool.eq_false_iff.mpr c16
     subst c16
     have H1 : (impl_BestRatio.l1 k3 a0 a1 x8_3 x9_2 (wrap64 (x10_3 + 1)) x268000_3 x268001_3) = some (r1, r2, r3, r4) := by rw [if_neg (show ¬ (false = true) by decide)] at H; exact H
     clear H
     have H := H1
     clear H1
     have H' := Aside0.mk H
     clear H
     go_wp2_with (first | ((with_reducible refine gate_dst (N := 11) rfl ?_); refine box_event ?hg (N := 11) ?hd (cs := #[.int .i64 0, .int .i64 0]) (t := 52) ?hr ?_; (case hd => rfl); (case hg => rfl); (case hr => first | (go_simp; done) | (go_simp; rfl)); intro gb268 hg w51 hbox hb; have BK268 := Aside0.mk (hbox); have GW268 := Aside0.mk ((by rw [hg]; exact (below_size (tH2 HB GE264.out GE267.out)) : w.heap.size ≤ gb268)); have GE268 := Aside0.mk ((by rw [hg]; exact (below_size (tH2 HB GE264.out GE267.out)) : w.heap.size ≤ gb268)); replace HB := Aside0.mk (below_step (tH2 HB GE264.out GE267.out) hb); have NB264_268 := Aside0.mk ((by rw [hg]; exact Nat.ne_of_lt (blk_lt (g := gb264) (o := .cells #[.int .i64 0, .int .i64 0] 52 (0, 0)) (tB BK264)) : gb264 ≠ gb268)); have NB268_264 := Aside0.mk ((by rw [hg]; exact Nat.ne_of_gt (blk_lt (g := gb264) (o := .cells #[.int .i64 0, .int .i64 0] 52 (0, 0)) (tB BK264)) : gb268 ≠ gb264)); replace BK264 := tbB BK264 hb; have NB267_268 := Aside0.mk ((by rw [hg]; exact Nat.ne_of_lt (blk_lt (g := gb267) (o := .cells #[.int .i64 x268000_3, .int .i64 x268001_3] 52 (0, 0)) (tB BK267)) : gb267 ≠ gb268)); have NB268_267 := Aside0.mk ((by rw [hg]; exact Nat.ne_of_gt (blk_lt (g := gb267) (o := .cells #[.int .i64 x268000_3, .int .i64 x268001_3] 52 (0, 0)) (tB BK267)) : gb268 ≠ gb267)); replace BK267 := tbB BK267 hb; clear hb hbox hg; have hnb52 := NB268_264.out; have hnc52 := NB264_268.out; have hnb53 := NB268_267.out; have hnc53 := NB267_268.out; have hcz54_0 : w51.cell? ⟨gb268, 0, none⟩ = some (.int .i64 0) := (blk_cell BK268.out 0).trans rfl; have hcz54_1 : w51.cell? ⟨gb268, 1, none⟩ = some (.int .i64 0) := (blk_cell BK268.out 1).trans rfl; have hfz54_0 := blk_frozen BK268.out 0; have hfz54_1 := blk_frozen BK268.out 1) | ((with_reducible refine gate_callee (f := 108) rfl ?_); refine gL_ (some 39) rfl rfl Tryd.func108 #[.agg #[.int .i64 x10_3, .int .i64 x9_2]] rfl ?_; (with_reducible refine (impl_ValidRatio.calls k3 x10_3 x9_2 false _ A15.out).mono ?_); rintro e w55 ⟨rfl, hb⟩; refine ⟨_, rfl, ?_⟩; replace BK264 := Aside0.mk (blk_below (g := gb264) (o := .cells #[.int .i64 0, .int .i64 0] 52 (0, 0)) (by (with_reducible repeat (first | refine blk_drewN ?_ _ | refine blk_drew ?_ | refine blk_alloc ?_ _)); refine blk_far ?_ NB264_268.out _; (with_reducible repeat (first | refine blk_drewN ?_ _ | refine blk_drew ?_ | refine blk_alloc ?_ _)); refine blk_far ?_ NB264_268.out _; (with_reducible repeat (first | refine blk_drewN ?_ _ | refine blk_drew ?_ | refine blk_alloc ?_ _)); exact BK264.out) hb); replace BK267 := Aside0.mk (blk_below (g := gb267) (o := .cells #[.int .i64 x268000_3, .int .i64 x268001_3] 52 (0, 0)) (by (with_reducible repeat (first | refine blk_drewN ?_ _ | refine blk_drew ?_ | refine blk_alloc ?_ _)); refine blk_far ?_ NB267_268.out _; (with_reducible repeat (first | refine blk_drewN ?_ _ | refine blk_drew ?_ | refine blk_alloc ?_ _)); refine blk_far ?_ NB267_268.out _; (with_reducible repeat (first | refine blk_drewN ?_ _ | refine blk_drew ?_ | refine blk_alloc ?_ _)); exact BK267.out) hb); replace BK268 := Aside0.mk (blk_below (g := gb268) (o := .cells #[.int .i64 x10_3, .int .i64 x9_2] 52 (0, 0)) (by (with_reducible repeat (first | refine blk_drewN ?_ _ | refine blk_drew ?_ | refine blk_alloc ?_ _)); refine blk_put (cs := #[.int .i64 x10_3, .int .i64 0]) ?_ 1 _ rfl; (with_reducible repeat (first | refine blk_drewN ?_ _ | refine blk_drew ?_ | refine blk_alloc ?_ _)); refine blk_put (cs := #[.int .i64 0, .int .i64 0]) ?_ 0 _ rfl; (with_reducible repeat (first | refine blk_drewN ?_ _ | refine blk_drew ?_ | refine blk_alloc ?_ _)); exact BK268.out) hb); replace HB := Aside0.mk (below_step (tH3 HB GE264.out GE267.out GE268.out) hb); (try clear hb); (try clear hb2); (try clear hk); (try clear hi)))
     go_roundg k3
     case measure => have := HJ2.out; have := HK2.out; have := HK3.out; omega
     case rel => exact ⟨(x8_3), (wrap64 (x10_3 + 1)), (x268000_3), (x268001_3), tq, tq, H', ⟨by have := HJ2.out; have := HK2.out; have := HK3.out; omega⟩, ⟨tB BK264⟩, ⟨tB BK267⟩, ⟨tH3 HB GE264.out GE267.out GE268.out⟩⟩
   rw [if_neg c14] at H
   have c14b0 : decide (x10_3 ≤ (wrap64 (2 * x9_2))) = false := decide_eq_false c14
   clear c14
   have H' := Aside0.mk H
   clear H
   go_wp2
   go_roundg k3
   case measure => have := HJ2.out; have := HK2.out; have := HK3.out; omega
   case rel => exact ⟨(x8_3), (wrap64 (x9_2 + 1)), (x268000_3), (x268001_3), tq, tq, H', ⟨by have := HJ2.out; have := HK2.out; have := HK3.out; omega⟩, ⟨tB BK264⟩, ⟨tB BK267⟩, ⟨tH2 HB GE264.out GE267.out⟩⟩
 rw [if_neg c13] at H
 have c13b0 : decide (x9_2 ≤ a1) = false := decide_eq_false c13
 clear c13
 simp only [Option.some.injEq, Prod.mk.injEq] at H
 obtain ⟨rfl, rfl, rfl, rfl⟩ := H
 have hnb56 := NB267_264.out
 have hnc56 := NB264_267.out
 have hcz57_0 : wr.cell? ⟨gb267, 0, none⟩ = some (.int .i64 x268000_2) := (blk_cell BK267.out 0).trans rfl
 have hcz57_1 : wr.cell? ⟨gb267, 1, none⟩ = some (.int .i64 x268001_2) := (blk_cell BK267.out 1).trans rfl
 have hfz57_0 := blk_frozen BK267.out 0
 have hfz57_1 := blk_frozen BK267.out 1
 have hcz58_0 : wr.cell? ⟨gb264, 0, none⟩ = some (.int .i64 0) := (blk_cell BK264.out 0).trans rfl
 have hcz58_1 : wr.cell? ⟨gb264, 1, none⟩ = some (.int .i64 0) := (blk_cell BK264.out 1).trans rfl
 have hfz58_0 := blk_frozen BK264.out 0
 have hfz58_1 := blk_frozen BK264.out 1
 go_wp2
 refine bodyPost_ret (results_ctt rfl _ _ gb264 52 #[.int .i64 x268000_2, .int .i64 x268001_2] (0, 0) _ rfl (by (with_reducible repeat (first | refine blk_drewN ?_ _ | refine blk_drew ?_ | refine blk_alloc ?_ _)); refine blk_put (cs := #[.int .i64 x268000_2, .int .i64 0]) ?_ 1 _ rfl; (with_reducible repeat (first | refine blk_drewN ?_ _ | refine blk_drew ?_ | refine blk_alloc ?_ _)); refine blk_put (cs := #[.int .i64 0, .int .i64 0]) ?_ 0 _ rfl; (with_reducible repeat (first | refine blk_drewN ?_ _ | refine blk_drew ?_ | refine blk_alloc ?_ _)); exact BK264.out) Tryd.underlying52 rfl (by kernel_rfl)) rfl ?_
 exact ⟨tE, tH2 HB GE264.out GE267.out⟩

/-! ### laws_b10Abs: function 41 -/
def laws_b10Abs.f (a0 : Int) : Option (Int) := if a0 < 0 then (some (wrap64 (-a0))) else (some a0)
set_option maxHeartbeats 8000000 in
set_option maxRecDepth 100000 in
theorem laws_b10Abs.calls (a0 : Int) (r : Int) (w : World) (h : laws_b10Abs.f a0 = some r) :
 Calls Tryd.prog 41 #[.int .i64 a0] w fun e w' => e = .returned (.int .i64 r) ∧ Drawn0 w w' := by
 have H : (if a0 < 0 then (some (wrap64 (-a0))) else (some a0)) = some r := h
 clear h
 by_cases c2 : a0 < 0
 · rw [if_pos c2] at H
   have c2b0 : decide (a0 < 0) = true := decide_eq_true c2
   clear c2
   obtain rfl := Option.some.inj H
   go_enter Tryd.func41, Tryd.ntmps41
   go_wp2
   go_ret
   exact ⟨by first | rfl | (simp; done) | (simp [*]; done), tZ⟩
 rw [if_neg c2] at H
 have c2b0 : decide (a0 < 0) = false := decide_eq_false c2
 clear c2
 obtain rfl := Option.some.inj H
 go_enter Tryd.func41, Tryd.ntmps41
 go_wp2
 go_ret
 exact ⟨by first | rfl | (simp; done) | (simp [*]; done), tZ⟩

end Go.Proofs.YtmeflmlejcmckaaDoor.PC
