-- WRITTEN BY wip/gprint.py, a program of this session's over the kit's print, with contracts given by hand
import Derived.Test.YtomeeimjlagbbaaPCx0
import Derived.Test.YtomeeimjlagbbaaPCx4
namespace Go.Proofs.Ytomeeimjlagbbaa.PC
open Go.RowKit Go.Proofs.YtomeeimjlagbbaaW.PrintWords Go.Proofs.YtomeeimjlagbbaaW.PrintLast Go.Proofs.YtomeeimjlagbbaaW.PrintMore
attribute [local go_sem] max2_int min2_int max_two min_two max_three min_three max_four min_four   -- for this text's walks alone
set_option linter.unusedVariables false
set_option linter.unusedSimpArgs false

attribute [local go_sem] isSome_setCell
/-! ### impl_tied: function 101 -/
def impl_tied.l0 : Nat → List (S40) → List (S40) → Int → Int → Option ((List (S40)))
 | 0, _, _, _, _ => none
 | k + 1, x3, x7, x8, x9 => if x9 < x8 then (if 0 ≤ x9 then (if x9 < (x7.length : Int) then (if (x3.length : Int) > 0 then (if 0 ≤ (wrap64 ((x3.length : Int) - 1)) then (if (wrap64 ((x3.length : Int) - 1)) < (x3.length : Int) then (if ((rd_T40 x3 (wrap64 ((x3.length : Int) - 1))).f0) = ((rd_T40 x7 x9).f0) then ((impl_lengthOk.f (wrap64 (((rd_T40 x3 (wrap64 ((x3.length : Int) - 1))).f1) + ((rd_T40 x7 x9).f1)))).bind fun t210 => (if t210 = true then (impl_tied.l0 k (x3.set ((wrap64 ((x3.length : Int) - 1)) : Int).toNat (⟨(rd_T40 x3 (wrap64 ((x3.length : Int) - 1))).f0, wrap64 (((rd_T40 x3 (wrap64 ((x3.length : Int) - 1))).f1) + ((rd_T40 x7 x9).f1))⟩ : S40)) x7 x8 (wrap64 (x9 + 1))) else (if x3.length < 8796093022208 then (impl_tied.l0 k (x3 ++ [(⟨(rd_T40 x7 x9).f0, (rd_T40 x7 x9).f1⟩ : S40)]) x7 x8 (wrap64 (x9 + 1))) else (none)))) else (if x3.length < 8796093022208 then (impl_tied.l0 k (x3 ++ [(⟨(rd_T40 x7 x9).f0, (rd_T40 x7 x9).f1⟩ : S40)]) x7 x8 (wrap64 (x9 + 1))) else (none))) else (none)) else (none)) else (if x3.length < 8796093022208 then (impl_tied.l0 k (x3 ++ [(⟨(rd_T40 x7 x9).f0, (rd_T40 x7 x9).f1⟩ : S40)]) x7 x8 (wrap64 (x9 + 1))) else (none))) else (none)) else (none)) else (some x3)
def impl_tied.f (k : Nat) (l0 : List (S40)) : Option ((List (S40))) := impl_tied.l0 k ([] : List (S40)) l0 (l0.length : Int) 0
theorem impl_tied.mono_l : ∀ k, (∀ y0 y1 y2 y3, LeO (impl_tied.l0 k y0 y1 y2 y3) (impl_tied.l0 (k + 1) y0 y1 y2 y3))
 | 0 => fun _ _ _ _ r h => by simp [impl_tied.l0] at h
 | k + 1 => by
  have ih0 := impl_tied.mono_l k
  · intro y0 y1 y2 y3
    unfold impl_tied.l0
    repeat' first
    | (with_reducible exact ih0 _ _ _ _)
    | (with_reducible exact LeO.refl _)
    | (with_reducible exact LeO.none _)
    | (with_reducible refine LeO.ite ?_ ?_)
    | (with_reducible refine LeO.bind ?_ (fun _ => ?_))
    | exact ih0 _ _ _ _
    | exact LeO.none _
    | refine LeO.ite ?_ ?_
    | refine LeO.bind ?_ (fun _ => ?_)
theorem impl_tied.mono : ∀ a0 k, LeO (impl_tied.f k a0) (impl_tied.f (k + 1) a0) := by
 intro a0 k
 have ih0 := impl_tied.mono_l k
 unfold impl_tied.f
 repeat' first
  | (with_reducible exact ih0 _ _ _ _)
  | (with_reducible exact LeO.refl _)
  | (with_reducible exact LeO.none _)
  | (with_reducible refine LeO.ite ?_ ?_)
  | (with_reducible refine LeO.bind ?_ (fun _ => ?_))
  | exact ih0 _ _ _ _
  | exact LeO.none _
  | refine LeO.ite ?_ ?_
  | refine LeO.bind ?_ (fun _ => ?_)
def impl_tied.T6 : Bool × List (List Nat × List Nat) := (true, [([], []), ([0], [0]), ([1], [1]), ([2], [2]), ([2], [2]), ([4, 2], [2, 4]), ([3, 5, 2], [2, 3, 5]), ([6, 2], [2, 6]), ([7, 2], [2, 7]), ([2], [2]), ([9, 2], [2, 9]), ([8, 10, 2], [2, 8, 10]), ([2, 11], [2, 11]), ([12, 2], [12]), ([13], [13]), ([13], [13]), ([15, 13], [13, 15]), ([14, 16, 13], [13, 14, 16]), ([17, 13], [13, 17]), ([18, 13], [13, 18]), ([13], [13]), ([20, 13], [13, 20]), ([19, 21, 13], [13, 19, 21]), ([22, 13, 13], [13, 22]), ([13, 23], [13, 23])])
def impl_tied.B6 : List Nat := [0, 1, 3, 7, 7, 23, 63, 127, 255, 7, 519, 2047, 4095, 8191, 16383, 16383, 49151, 131071, 262143, 524287, 16383, 1064959, 4194303, 8388607, 16777215]
theorem impl_tied.tab6 : rtab .any (opsOf Try.f101 6) = impl_tied.T6 := by kernel_rfl
theorem impl_tied.bits6 : waitsOk impl_tied.T6.2 impl_tied.B6 = true := by kernel_rfl
def impl_tied.T7 : Bool × List (List Nat × List Nat) := (true, [([], []), ([], []), ([1], [1]), ([0, 2], [0, 2]), ([3], [3]), ([4], [4]), ([], []), ([6], [6]), ([5, 7], [5, 7]), ([0, 2, 0, 1, 2, 3, 4, 5, 6, 7, 8], [0, 2]), ([9, 0, 1, 2, 3, 4, 5, 6, 7, 8], [9]), ([10, 8, 0, 1, 2, 3, 4, 5, 6, 7, 8], [8, 10])])
def impl_tied.B7 : List Nat := [0, 0, 2, 7, 15, 31, 0, 64, 255, 511, 1023, 2047]
theorem impl_tied.tab7 : rtab .any (opsOf Try.f101 7) = impl_tied.T7 := by kernel_rfl
theorem impl_tied.bits7 : waitsOk impl_tied.T7.2 impl_tied.B7 = true := by kernel_rfl
set_option maxHeartbeats 8000000 in
set_option maxRecDepth 100000 in
theorem impl_tied.calls (k : Nat) (A0 : Option Addr) (c0 : Nat) (l0 : List (S40)) (r : List (S40)) (w : World) (hr0 : Kd.C k40 w A0 l0.length l0) (hc0 : l0.length ≤ c0) (h : impl_tied.f k l0 = some r) :
 Calls Try.prog 101 #[.slice A0 l0.length c0] w fun e w' => ∃ v0_ : Value, e = .returned (v0_) ∧ Kd.R k40 40 w' w.heap.size (fun _ => True) v0_ r ∧ Below w.heap.size w w' := by
 have hu40 := Try.underlying40
 have HR0 := Aside0.mk hr0
 have HC0 := Aside0.mk hc0
 clear hr0 hc0
 have HB := Aside0.mk (Below.refl w.heap.size w)
 have H : (impl_tied.l0 k ([] : List (S40)) l0 (l0.length : Int) 0) = some r := h
 clear h
 have H' := Aside0.mk H
 clear H
 go_enter Try.func101, Try.ntmps101
 go_wp2
 go_loopg [3, 9] k (fun kq v3 v9 w' => ∃ (x3_1 : List (S40)) (x9_1 : Int), v9 = .int .i64 x9_1 ∧ Aside0 (impl_tied.l0 kq x3_1 l0 (l0.length : Int) x9_1 = some r) ∧ Aside0 (kq ≤ k) ∧ Aside0 (Kd.R k40 40 w' w.heap.size (fun _ => True) v3 x3_1) ∧ Aside0 (Below w.heap.size w w'))
 case atStart => exact ⟨(([] : List (S40))), (0), (by first | rfl | (simp; done) | (simp [*]; done)), H', ⟨Nat.le_refl _⟩, ⟨by first | exact Kd.R_nil _ _ _ _ _ | exact Kd.N_nil _ _ _ _ _ | exact Kd.V_nil _ _ _ _ _ | exact Kd.Q_nil _ _ _ _ _ | exact Kd.S_nil _ _ _ _ _⟩, ⟨by repeat (first | (with_reducible first | exact HB.out | apply below_alloc | apply pw_below_drewN | apply below_drew1) | exact HB.out)⟩⟩
 case round =>
  clear H'
  try clear c1
  obtain ⟨x3_1, x9_1, rfl, HA, HK1, HO_3, HB⟩ := hrel
  cases gk with
  | zero => exact absurd HA.out (by simp [impl_tied.l0])
  | succ k1 =>
   have H := HA.out
   clear HA
   simp only [impl_tied.l0] at H
   by_cases c2 : x9_1 < (l0.length : Int)
   · rw [if_pos c2] at H
     have c2b0 : decide (x9_1 < (l0.length : Int)) = true := decide_eq_true c2
     clear c2
     by_cases c3 : 0 ≤ x9_1
     · rw [if_pos c3] at H
       have c3b0 : decide (0 ≤ x9_1) = true := decide_eq_true c3
       clear c3
       by_cases c4 : x9_1 < (l0.length : Int)
       · rw [if_pos c4] at H
         have c4b0 : decide (x9_1 < (l0.length : Int)) = true := decide_eq_true c4
         clear c4
         by_cases c5 : (x3_1.length : Int) > 0
         · rw [if_pos c5] at H
           have c5b0 : decide (0 < (x3_1.length : Int)) = true := decide_eq_true c5
           have c5b1 : decide (0 < x3_1.length) = true := decide_eq_true (by omega)
           clear c5
           obtain ⟨ji6, hji6⟩ : ∃ j_ : Int, (wrap64 ((x3_1.length : Int) - 1)) = j_ := ⟨_, rfl⟩
           replace H : (if 0 ≤ (ji6) then (if (ji6) < (x3_1.length : Int) then (if ((rd_T40 x3_1 (ji6)).f0) = ((rd_T40 l0 x9_1).f0) then ((impl_lengthOk.f (wrap64 (((rd_T40 x3_1 (ji6)).f1) + ((rd_T40 l0 x9_1).f1)))).bind fun t210 => (if t210 = true then (impl_tied.l0 k1 (x3_1.set ((ji6) : Int).toNat (⟨(rd_T40 x3_1 (ji6)).f0, wrap64 (((rd_T40 x3_1 (ji6)).f1) + ((rd_T40 l0 x9_1).f1))⟩ : S40)) l0 (l0.length : Int) (wrap64 (x9_1 + 1))) else (if x3_1.length < 8796093022208 then (impl_tied.l0 k1 (x3_1 ++ [(⟨(rd_T40 l0 x9_1).f0, (rd_T40 l0 x9_1).f1⟩ : S40)]) l0 (l0.length : Int) (wrap64 (x9_1 + 1))) else (none)))) else (if x3_1.length < 8796093022208 then (impl_tied.l0 k1 (x3_1 ++ [(⟨(rd_T40 l0 x9_1).f0, (rd_T40 l0 x9_1).f1⟩ : S40)]) l0 (l0.length : Int) (wrap64 (x9_1 + 1))) else (none))) else (none)) else (none)) = some r := by first | (rw [hji6] at H; exact H) | (simp only [hji6] at H ⊢; exact H)
           have hji6w : (IntKind.i64.wrap ((x3_1.length : Int) - 1)) = ji6 := (i64_w _).trans hji6
           by_cases c7 : 0 ≤ (ji6)
           · rw [if_pos c7] at H
             have c7b0 : decide (0 ≤ (ji6)) = true := decide_eq_true c7
             clear c7
             by_cases c8 : (ji6) < (x3_1.length : Int)
             · rw [if_pos c8] at H
               have c8b0 : decide ((ji6) < (x3_1.length : Int)) = true := decide_eq_true c8
               clear c8
               by_cases c9 : ((rd_T40 x3_1 (ji6)).f0) = ((rd_T40 l0 x9_1).f0)
               · rw [if_pos c9] at H
                 have c9b0 : (((rd_T40 x3_1 (ji6)).f0) == ((rd_T40 l0 x9_1).f0)) = true := beq_iff_eq.mpr c9
                 have c9b1 : (((rd_T40 x3_1 (ji6)).f0) != ((rd_T40 l0 x9_1).f0)) = false := bne_eq_false_iff_eq.mpr c9
                 clear c9
                 replace H := Option.bind_eq_some_iff.mp H
                 obtain ⟨t210, A100, H⟩ := H
                 replace H : (if t210 = true then (impl_tied.l0 k1 (x3_1.set ((ji6) : Int).toNat (⟨(rd_T40 x3_1 (ji6)).f0, wrap64 (((rd_T40 x3_1 (ji6)).f1) + ((rd_T40 l0 x9_1).f1))⟩ : S40)) l0 (l0.length : Int) (wrap64 (x9_1 + 1))) else (if x3_1.length < 8796093022208 then (impl_tied.l0 k1 (x3_1 ++ [(⟨(rd_T40 l0 x9_1).f0, (rd_T40 l0 x9_1).f1⟩ : S40)]) l0 (l0.length : Int) (wrap64 (x9_1 + 1))) else (none))) = some r := H
                 have A10 := Aside0.mk A100
                 clear A100
                 by_cases c11 : t210 = true
                 · subst c11
                   have H1 : (impl_tied.l0 k1 (x3_1.set ((ji6) : Int).toNat (⟨(rd_T40 x3_1 (ji6)).f0, wrap64 (((rd_T40 x3_1 (ji6)).f1) + ((rd_T40 l0 x9_1).f1))⟩ : S40)) l0 (l0.length : Int) (wrap64 (x9_1 + 1))) = some r := by rw [if_pos rfl] at H; exact H
                   clear H
                   have H := H1
                   clear H1
                   obtain ⟨y212, hy212⟩ : ∃ y_ : List (S40), y_ = (x3_1.set ((ji6) : Int).toNat (⟨(rd_T40 x3_1 (ji6)).f0, wrap64 (((rd_T40 x3_1 (ji6)).f1) + ((rd_T40 l0 x9_1).f1))⟩ : S40)) := ⟨_, rfl⟩
                   replace H : (impl_tied.l0 k1 y212 l0 (l0.length : Int) (wrap64 (x9_1 + 1))) = some r := by first | (rw [hy212]; with_reducible exact H) | (have H2_ := (Option.bind_some _ _).symm.trans H; rw [hy212]; with_reducible exact H2_) | (have H2_ := (Option.bind_some _ _).symm.trans H; with_reducible exact H2_) | with_reducible exact H | (rw [hy212]; exact H) | exact H
                   have Ny212 := Aside0.mk hy212
                   clear hy212
                   have H' := Aside0.mk H
                   clear H
                   have p206 : 0 ≤ (x9_1 : Int) := of_decide_eq_true (by first | (with_reducible assumption) | assumption)
                   have q206 : x9_1 < (l0.length : Int) := of_decide_eq_true (by first | (with_reducible assumption) | assumption)
                   obtain ⟨ad206, e206, hx206_0, hx206_1⟩ := at_T40 HR0.out x9_1 p206 q206
                   cases e206
                   replace hx206_0 := (HB.out.cell (World.block_lt_of_cell? w _ hx206_0)).trans hx206_0
                   replace hx206_1 := (HB.out.cell (World.block_lt_of_cell? w _ hx206_1)).trans hx206_1
                   replace p206 := eq_true p206
                   replace q206 := eq_true q206
                   try go_wp2_with (first | ((with_reducible refine gate_dst (N := 5) rfl ?_); refine box_event ?hg (N := 5) ?hd (cs := #[.int .i64 0, .int .i64 0]) (t := 40) ?hr ?_; (case hd => rfl); (case hg => rfl); (case hr => first | (go_simp; done) | (go_simp; rfl)); intro gb207 hg w13 hbox hb; have n0_ := Aside0.mk (Kd.R_below (Kd.R_elderB (by (with_reducible repeat (first | apply Kd.R_alloc | apply Kd.R_drewN | apply Kd.R_drew)); exact HO_3.out) gb207 (Nat.le_of_eq hg.symm)) hb); have n1_ := Aside0.mk (below_step (by repeat (first | (with_reducible first | exact HB.out | apply below_alloc | apply pw_below_drewN | apply below_drew1) | exact HB.out)) hb); have n2_ := Aside0.mk (hbox); have n3_ := Aside0.mk ((by rw [hg]; exact (below_size (by repeat (first | (with_reducible first | exact HB.out | apply below_alloc | apply pw_below_drewN | apply below_drew1) | exact HB.out))) : w.heap.size ≤ gb207)); have n4_ := Aside0.mk ((by rw [hg]; exact (below_size (by repeat (first | (with_reducible first | exact HB.out | apply below_alloc | apply pw_below_drewN | apply below_drew1) | exact HB.out))) : w.heap.size ≤ gb207)); clear HO_3; clear HB; have HO_3 := n0_; have HB := n1_; have BK207 := n2_; have GW207 := n3_; have GE207 := n4_; clear n0_ n1_ n2_ n3_ n4_; clear hb hbox hg; have hcz14_0 : w13.cell? ⟨gb207, 0, none⟩ = some (.int .i64 0) := (blk_cell BK207.out 0).trans rfl; have hcz14_1 : w13.cell? ⟨gb207, 1, none⟩ = some (.int .i64 0) := (blk_cell BK207.out 1).trans rfl; have hfz14_0 := blk_frozen BK207.out 0; have hfz14_1 := blk_frozen BK207.out 1; obtain ⟨Ao15, co15, eo15⟩ := Kd.R_slice HO_3.out; subst eo15))
                   have n0_ : Aside0 (Kd.R k40 40 ((w13.setCell ⟨gb207, 0, none⟩ (.int .i64 ((rd_T40 l0 x9_1).f0))).setCell ⟨gb207, 1, none⟩ (.int .i64 ((rd_T40 l0 x9_1).f1))) w.heap.size (fun k_ => k_ ≠ gb207) (.slice Ao15 x3_1.length co15) x3_1) := ⟨by (with_reducible repeat (first | apply Kd.R_alloc | apply Kd.R_drewN | apply Kd.R_drew)); exact Kd.R_mono (Kd.R_far (p := ⟨gb207, 1, none⟩) (Kd.R_far (p := ⟨gb207, 0, none⟩) (Kd.R_mono HO_3.out (fun k_ hk => (⟨hk, hk.2⟩ : _ ∧ k_ ≠ gb207))) (fun _ hk => hk.2) (.int .i64 ((rd_T40 l0 x9_1).f0))) (fun _ hk => hk.2) (.int .i64 ((rd_T40 l0 x9_1).f1))) (fun _ hk => hk.1.2)⟩
                   have n1_ : Aside0 (((w13.setCell ⟨gb207, 0, none⟩ (.int .i64 ((rd_T40 l0 x9_1).f0))).setCell ⟨gb207, 1, none⟩ (.int .i64 ((rd_T40 l0 x9_1).f1))).heap[gb207]? = some (.cells #[.int .i64 ((rd_T40 l0 x9_1).f0), .int .i64 ((rd_T40 l0 x9_1).f1)] 40 (0, 0))) := ⟨by (with_reducible repeat (first | refine blk_drewN ?_ _ | refine blk_drew ?_ | refine blk_alloc ?_ _)); refine blk_put (cs := #[.int .i64 ((rd_T40 l0 x9_1).f0), .int .i64 0]) ?_ 1 _ rfl; (with_reducible repeat (first | refine blk_drewN ?_ _ | refine blk_drew ?_ | refine blk_alloc ?_ _)); refine blk_put (cs := #[.int .i64 0, .int .i64 0]) ?_ 0 _ rfl; (with_reducible repeat (first | refine blk_drewN ?_ _ | refine blk_drew ?_ | refine blk_alloc ?_ _)); exact BK207.out⟩
                   have n2_ : Aside0 (Below w.heap.size w ((w13.setCell ⟨gb207, 0, none⟩ (.int .i64 ((rd_T40 l0 x9_1).f0))).setCell ⟨gb207, 1, none⟩ (.int .i64 ((rd_T40 l0 x9_1).f1)))) := ⟨by repeat (first | (with_reducible first | exact HB.out | apply below_alloc | apply pw_below_drewN | apply below_drew1 | refine below_set ?_ GE207.out) | exact HB.out)⟩
                   (try clear HO_3)
                   (try clear BK207)
                   (try clear HB)
                   generalize ((w13.setCell ⟨gb207, 0, none⟩ (.int .i64 ((rd_T40 l0 x9_1).f0))).setCell ⟨gb207, 1, none⟩ (.int .i64 ((rd_T40 l0 x9_1).f1))) = w16 at n0_ n1_ n2_ ⊢
                   have HO_3 := n0_
                   have BK207 := n1_
                   have HB := n2_
                   clear n0_ n1_ n2_
                   have n0_ := Aside0.mk (Kd.R_drew HO_3.out)
                   have n1_ := Aside0.mk (blk_drew BK207.out)
                   have n2_ := Aside0.mk (below_drew1 HB.out)
                   clear HO_3
                   clear BK207
                   clear HB
                   have HO_3 := n0_
                   have BK207 := n1_
                   have HB := n2_
                   clear n0_ n1_ n2_
                   have p208 : 0 ≤ ((ji6) : Int) := of_decide_eq_true (by first | (with_reducible assumption) | assumption)
                   have q208 : (ji6) < (x3_1.length : Int) := of_decide_eq_true (by first | (with_reducible assumption) | assumption)
                   obtain ⟨ad208, e208, hx208_0, hx208_1⟩ := at_T40 (Kd.R_reads' HO_3.out).2.2 (ji6) p208 q208
                   cases e208
                   replace p208 := eq_true p208
                   replace q208 := eq_true q208
                   have p209 : 0 ≤ ((ji6) : Int) := of_decide_eq_true (by first | (with_reducible assumption) | assumption)
                   have q209 : (ji6) < (x3_1.length : Int) := of_decide_eq_true (by first | (with_reducible assumption) | assumption)
                   obtain ⟨ad209, e209, hx209_0, hx209_1⟩ := at_T40 (Kd.R_reads' HO_3.out).2.2 (ji6) p209 q209
                   obtain rfl : ad208 = ad209 := (by injection e209)
                   replace p209 := eq_true p209
                   replace q209 := eq_true q209
                   refine start_ (n := 25) (S := fun w' => w'.cell? ⟨gb207, 0, none⟩ = some (.int .i64 ((rd_T40 l0 x9_1).f0)) ∧ w'.cell? ⟨gb207, 1, none⟩ = some (.int .i64 ((rd_T40 l0 x9_1).f1)) ∧ w'.cell? (ad208.add (((ji6)).toNat * 2)) = some (.int .i64 ((rd_T40 x3_1 (ji6)).f0)) ∧ w'.cell? ⟨(ad208.add (((ji6)).toNat * 2)).block, (ad208.add (((ji6)).toNat * 2)).off + 1, none⟩ = some (.int .i64 ((rd_T40 x3_1 (ji6)).f1)) ∧ w'.cell? (ad208.add (((ji6)).toNat * 2)) = some (.int .i64 ((rd_T40 x3_1 (ji6)).f0)) ∧ w'.cell? ⟨(ad208.add (((ji6)).toNat * 2)).block, (ad208.add (((ji6)).toNat * 2)).off + 1, none⟩ = some (.int .i64 ((rd_T40 x3_1 (ji6)).f1))) (ds := []) (bq [0, 25]) (by kernel_rfl) rfl rfl ⟨(blk_cell BK207.out 0).trans rfl, (blk_cell BK207.out 1).trans rfl, hx208_0, hx208_1, hx209_0, hx209_1⟩ (fun hHeld => ?_); refine with_tabW impl_tied.tab6 impl_tied.bits6 (fun HT_ HW_ => ?_)
                   generalize w16.drew = w17 at HO_3 BK207 HB hx208_0 hx208_1 hx209_0 hx209_1 hHeld ⊢
                   refine pure_ (i := 0) (N := some 15) (v := ?_) (a' := ?_) (bq [1, 24]) rfl rfl (any_of HT_.out (by kernel_rfl)) (fun _ _ _ h => h) (Or.inl ⟨by rfl, ?_⟩) ?_ ?_
                   rotate_left
                   · intro w'
                     go_simp
                     with_reducible rfl
                   rotate_left
                   · simp only [Act.put, sx0, sx1, sx2, i64_w, i32_w]
                     rfl
                   refine pure_ (i := 1) (N := some 16) (v := ?_) (a' := ?_) (bq [2, 23]) rfl rfl (any_of HT_.out (by kernel_rfl)) (fun _ _ _ h => h) (Or.inl ⟨by rfl, ?_⟩) ?_ ?_
                   rotate_left
                   · intro w'
                     go_simp
                     with_reducible rfl
                   rotate_left
                   · simp only [Act.put, sx0, sx1, sx2, i64_w, i32_w]
                     rfl
                   refine pure_ (i := 2) (N := some 17) (v := ?_) (a' := ?_) (bq [3, 22]) rfl rfl (any_of HT_.out (by kernel_rfl)) (fun _ _ _ h => h) (Or.inl ⟨by rfl, ?_⟩) ?_ ?_
                   rotate_left
                   · intro w'
                     go_simp
                     with_reducible rfl
                   rotate_left
                   · simp only [Act.put, sx0, sx1, sx2, i64_w, i32_w]
                     rfl
                   refine pure_ (i := 3) (N := some 18) (v := ?_) (a' := ?_) (bq [4, 21]) rfl rfl (any_of HT_.out (by kernel_rfl)) (fun _ _ _ h => h) (Or.inl ⟨by rfl, ?_⟩) ?_ ?_
                   rotate_left
                   · intro w'
                     go_simp
                     with_reducible rfl
                   rotate_left
                   · simp only [Act.put, sx0, sx1, sx2, i64_w, i32_w]
                     rfl
                   refine pure_ (i := 4) (N := some 19) (v := ?_) (a' := ?_) (bq [5, 20]) rfl rfl (any_of HT_.out (by kernel_rfl)) (fun _ _ _ h => h) (Or.inl ⟨by rfl, ?_⟩) ?_ ?_
                   rotate_left
                   · intro w'
                     go_simp
                     with_reducible rfl
                   rotate_left
                   · simp only [Act.put, sx0, sx1, sx2, i64_w, i32_w]
                     rfl
                   refine pure_ (i := 5) (N := some 20) (v := ?_) (a' := ?_) (bq [6, 19]) rfl rfl (any_of HT_.out (by kernel_rfl)) (fun _ _ _ h => h) (Or.inl ⟨by rfl, ?_⟩) ?_ ?_
                   rotate_left
                   · intro w'
                     go_simp
                     with_reducible rfl
                   rotate_left
                   · simp only [Act.put, sx0, sx1, sx2, i64_w, i32_w]
                     rfl
                   refine pure_ (i := 6) (N := some 21) (v := ?_) (a' := ?_) (bq [7, 18]) rfl rfl (any_of HT_.out (by kernel_rfl)) (fun _ _ _ h => h) (Or.inl ⟨by rfl, ?_⟩) ?_ ?_
                   rotate_left
                   · intro w'
                     go_simp
                     with_reducible rfl
                   rotate_left
                   · simp only [Act.put, sx0, sx1, sx2, i64_w, i32_w]
                     rfl
                   refine pure_ (i := 7) (N := some 22) (v := ?_) (a' := ?_) (bq [8, 17]) rfl rfl (any_of HT_.out (by kernel_rfl)) (fun _ _ _ h => h) (Or.inl ⟨by rfl, ?_⟩) ?_ ?_
                   rotate_left
                   · intro w'
                     go_simp
                     with_reducible rfl
                   rotate_left
                   · simp only [Act.put, sx0, sx1, sx2, i64_w, i32_w]
                     rfl
                   refine pure_ (i := 9) (N := some 24) (v := ?_) (a' := ?_) (bq [8, 1, 1, 15]) rfl rfl (any_of HT_.out (by kernel_rfl)) (fun _ _ _ h => h) (Or.inl ⟨by rfl, ?_⟩) ?_ ?_
                   rotate_left
                   · intro w'
                     go_simp
                     with_reducible rfl
                   rotate_left
                   · simp only [Act.put, sx0, sx1, sx2, i64_w, i32_w]
                     rfl
                   refine take_ (i := 8) (N := some 23) (v := ?_) (a' := ?_) (bq [10, 15]) rfl rfl (take_ofW HT_.out HW_.out (by kernel_rfl)) (fun _ _ _ h => h) (Or.inl ⟨by rfl, ?_⟩) hHeld ?_ ?_
                   rotate_left
                   · rintro w' ⟨s0, s1, s2, s3, s4, s5⟩
                     go_simp
                     with_reducible rfl
                   rotate_left
                   · simp only [Act.put, sx0, sx1, sx2, i64_w, i32_w]
                     rfl
                   refine take_ (i := 10) (N := some 25) (v := ?_) (a' := ?_) (bq [11, 14]) rfl rfl (take_ofW HT_.out HW_.out (by kernel_rfl)) (fun _ _ _ h => h) (Or.inl ⟨by rfl, ?_⟩) hHeld ?_ ?_
                   rotate_left
                   · rintro w' ⟨s0, s1, s2, s3, s4, s5⟩
                     go_simp
                     with_reducible rfl
                   rotate_left
                   · simp only [Act.put, sx0, sx1, sx2, i64_w, i32_w]
                     rfl
                   refine pure_ (i := 11) (N := some 26) (v := ?_) (a' := ?_) (bq [12, 13]) rfl rfl (any_of HT_.out (by kernel_rfl)) (fun _ _ _ h => h) (Or.inl ⟨by rfl, ?_⟩) ?_ ?_
                   rotate_left
                   · intro w'
                     go_simp
                     with_reducible rfl
                   rotate_left
                   · simp only [Act.put, sx0, sx1, sx2, i64_w, i32_w]
                     rfl
                   refine pure_ (i := 12) (N := some 27) (v := ?_) (a' := ?_) (bq [13, 12]) rfl rfl (any_of HT_.out (by kernel_rfl)) (fun _ _ _ h => h) (Or.inl ⟨by rfl, ?_⟩) ?_ ?_
                   rotate_left
                   · intro w'
                     go_simp
                     with_reducible rfl
                   rotate_left
                   · simp only [Act.put, sx0, sx1, sx2, i64_w, i32_w]
                     rfl
                   refine pure_ (i := 13) (N := some 28) (v := ?_) (a' := ?_) (bq [14, 11]) rfl rfl (any_of HT_.out (by kernel_rfl)) (fun _ _ _ h => h) (Or.inl ⟨by rfl, ?_⟩) ?_ ?_
                   rotate_left
                   · intro w'
                     go_simp
                     with_reducible rfl
                   rotate_left
                   · simp only [Act.put, sx0, sx1, sx2, i64_w, i32_w]
                     rfl
                   refine pure_ (i := 14) (N := some 29) (v := ?_) (a' := ?_) (bq [15, 10]) rfl rfl (any_of HT_.out (by kernel_rfl)) (fun _ _ _ h => h) (Or.inl ⟨by rfl, ?_⟩) ?_ ?_
                   rotate_left
                   · intro w'
                     go_simp
                     with_reducible rfl
                   rotate_left
                   · simp only [Act.put, sx0, sx1, sx2, i64_w, i32_w]
                     rfl
                   refine pure_ (i := 15) (N := some 30) (v := ?_) (a' := ?_) (bq [16, 9]) rfl rfl (any_of HT_.out (by kernel_rfl)) (fun _ _ _ h => h) (Or.inl ⟨by rfl, ?_⟩) ?_ ?_
                   rotate_left
                   · intro w'
                     go_simp
                     with_reducible rfl
                   rotate_left
                   · simp only [Act.put, sx0, sx1, sx2, i64_w, i32_w]
                     rfl
                   refine pure_ (i := 16) (N := some 31) (v := ?_) (a' := ?_) (bq [17, 8]) rfl rfl (any_of HT_.out (by kernel_rfl)) (fun _ _ _ h => h) (Or.inl ⟨by rfl, ?_⟩) ?_ ?_
                   rotate_left
                   · intro w'
                     go_simp
                     with_reducible rfl
                   rotate_left
                   · simp only [Act.put, sx0, sx1, sx2, i64_w, i32_w]
                     rfl
                   refine pure_ (i := 17) (N := some 32) (v := ?_) (a' := ?_) (bq [18, 7]) rfl rfl (any_of HT_.out (by kernel_rfl)) (fun _ _ _ h => h) (Or.inl ⟨by rfl, ?_⟩) ?_ ?_
                   rotate_left
                   · intro w'
                     go_simp
                     with_reducible rfl
                   rotate_left
                   · simp only [Act.put, sx0, sx1, sx2, i64_w, i32_w]
                     rfl
                   refine pure_ (i := 18) (N := some 33) (v := ?_) (a' := ?_) (bq [19, 6]) rfl rfl (any_of HT_.out (by kernel_rfl)) (fun _ _ _ h => h) (Or.inl ⟨by rfl, ?_⟩) ?_ ?_
                   rotate_left
                   · intro w'
                     go_simp
                     with_reducible rfl
                   rotate_left
                   · simp only [Act.put, sx0, sx1, sx2, i64_w, i32_w]
                     rfl
                   refine pure_ (i := 20) (N := some 35) (v := ?_) (a' := ?_) (bq [19, 1, 1, 4]) rfl rfl (any_of HT_.out (by kernel_rfl)) (fun _ _ _ h => h) (Or.inl ⟨by rfl, ?_⟩) ?_ ?_
                   rotate_left
                   · intro w'
                     go_simp
                     with_reducible rfl
                   rotate_left
                   · simp only [Act.put, sx0, sx1, sx2, i64_w, i32_w]
                     rfl
                   refine take_ (i := 19) (N := some 34) (v := ?_) (a' := ?_) (bq [21, 4]) rfl rfl (take_ofW HT_.out HW_.out (by kernel_rfl)) (fun _ _ _ h => h) (Or.inl ⟨by rfl, ?_⟩) hHeld ?_ ?_
                   rotate_left
                   · rintro w' ⟨s0, s1, s2, s3, s4, s5⟩
                     go_simp
                     with_reducible rfl
                   rotate_left
                   · simp only [Act.put, sx0, sx1, sx2, i64_w, i32_w]
                     rfl
                   refine take_ (i := 21) (N := some 36) (v := ?_) (a' := ?_) (bq [22, 3]) rfl rfl (take_ofW HT_.out HW_.out (by kernel_rfl)) (fun _ _ _ h => h) (Or.inl ⟨by rfl, ?_⟩) hHeld ?_ ?_
                   rotate_left
                   · rintro w' ⟨s0, s1, s2, s3, s4, s5⟩
                     go_simp
                     with_reducible rfl
                   rotate_left
                   · simp only [Act.put, sx0, sx1, sx2, i64_w, i32_w]
                     rfl
                   refine pure_ (i := 22) (N := some 37) (v := ?_) (a' := ?_) (bq [23, 2]) rfl rfl (any_of HT_.out (by kernel_rfl)) (fun _ _ _ h => h) (Or.inl ⟨by rfl, ?_⟩) ?_ ?_
                   rotate_left
                   · intro w'
                     go_simp
                     with_reducible rfl
                   rotate_left
                   · simp only [Act.put, sx0, sx1, sx2, i64_w, i32_w]
                     rfl
                   refine one_ (i := 23) (N := some 38) (bq [24, 1]) rfl rfl (one_of HT_.out (by kernel_rfl)) (by decide) (fun K hK => ?_)
                   refine goes_ Try.func144 (by kernel_rfl) rfl #[.int .i64 (wrap64 (((rd_T40 x3_1 (ji6)).f1) + ((rd_T40 l0 x9_1).f1)))] (by rfl) rfl rfl (by (try simp only [List.map_toArray, List.map_cons, List.map_nil]); first | done | (simp only [hji6]; rfl) | rfl | (simp only [List.length_drop, List.length_take]; rfl)) ?_
                   with_reducible refine (impl_lengthOk.calls (wrap64 (((rd_T40 x3_1 (ji6)).f1) + ((rd_T40 l0 x9_1).f1))) true _ A10.out).mono ?_
                   rintro e w' ⟨rfl, ⟨nd, rfl⟩⟩
                   refine ⟨_, rfl, ?_⟩
                   refine hK.out _ _ ⟨(blk_cell BK207.out 0).trans rfl, (blk_cell BK207.out 1).trans rfl, hHeld.2.2.1, hHeld.2.2.2.1, hHeld.2.2.2.2.1, hHeld.2.2.2.2.2⟩ (fun hHeld => ?_)
                   clear hK K
                   refine norm_ (a' := ?_) ?_ ?_
                   rotate_left
                   · show Act.put _ (some 38) _ = _
                     simp only [Act.put, sx0, sx1, sx2, i64_w, i32_w]
                     rfl
                   refine pure_ (i := 24) (N := some 39) (v := ?_) (a' := ?_) (bq [25]) rfl rfl (any_of HT_.out (by kernel_rfl)) (fun _ _ _ h => h) (Or.inl ⟨by rfl, ?_⟩) ?_ ?_
                   rotate_left
                   · intro w'
                     go_simp
                     with_reducible rfl
                   rotate_left
                   · simp only [Act.put, sx0, sx1, sx2, i64_w, i32_w]
                     rfl
                   refine done_ (done_of HT_.out (by kernel_rfl)) ?_
                   try go_wp2
                   (try (rw [drewN_self w17]; generalize hq_ : World.drewN w17 _ = w17; have n0_ : Aside0 (Kd.R k40 40 w17 w.heap.size (fun k_ => k_ ≠ gb207) (.slice (some ad208) x3_1.length co15) x3_1) := ⟨by rw [← hq_]; exact (by (with_reducible repeat (first | apply Kd.R_alloc | apply Kd.R_drewN | apply Kd.R_drew)); exact HO_3.out)⟩; have n1_ : Aside0 (w17.heap[gb207]? = some (.cells #[.int .i64 ((rd_T40 l0 x9_1).f0), .int .i64 ((rd_T40 l0 x9_1).f1)] 40 (0, 0))) := ⟨by rw [← hq_]; exact (by (with_reducible repeat (first | refine blk_drewN ?_ _ | refine blk_drew ?_ | refine blk_alloc ?_ _)); exact BK207.out)⟩; have n2_ : Aside0 (Below w.heap.size w w17) := ⟨by rw [← hq_]; exact (by repeat (first | (with_reducible first | exact HB.out | apply below_alloc | apply pw_below_drewN | apply below_drew1 | refine below_set ?_ GE207.out) | exact HB.out))⟩; clear HO_3 BK207 HB hq_; have HO_3 := n0_; have BK207 := n1_; have HB := n2_; clear n0_ n1_ n2_))
                   have n0_ := Aside0.mk (Kd.R_drew HO_3.out)
                   have n1_ := Aside0.mk (blk_drew BK207.out)
                   have n2_ := Aside0.mk (below_drew1 HB.out)
                   clear HO_3
                   clear BK207
                   clear HB
                   have HO_3 := n0_
                   have BK207 := n1_
                   have HB := n2_
                   clear n0_ n1_ n2_
                   have p211 : 0 ≤ ((ji6) : Int) := of_decide_eq_true (by first | (with_reducible assumption) | assumption)
                   have q211 : (ji6) < (x3_1.length : Int) := of_decide_eq_true (by first | (with_reducible assumption) | assumption)
                   obtain ⟨ad211, e211, hx211_0, hx211_1⟩ := at_T40 (Kd.R_reads' HO_3.out).2.2 (ji6) p211 q211
                   obtain rfl : ad208 = ad211 := (by injection e211)
                   replace p211 := eq_true p211
                   replace q211 := eq_true q211
                   have p12 : 0 ≤ ((ji6) : Int) := of_decide_eq_true (by first | (with_reducible assumption) | assumption)
                   have q12 : ((ji6) : Int) < ((x3_1.length : Int) : Int) := of_decide_eq_true (by first | (with_reducible assumption) | assumption)
                   obtain ⟨go12, co12, eo12, gb12, gl12, cl12, HG12⟩ := Kd.R_form HO_3.out (by omega)
                   (first | cases eo12 | (injection eo12 with ea_ en_ ec_; (first | subst ea_ | (injection ea_ with ea_; subst ea_)); subst ec_; clear en_))
                   have GB12 := Aside0.mk gb12
                   have GG12 := Aside0.mk HG12
                   clear gb12 gl12 HG12
                   (first | simp only [add_plain] at hx208_0 | skip)
                   (first | simp only [add_plain] at hx208_1 | skip)
                   (first | simp only [add_plain] at hx209_0 | skip)
                   (first | simp only [add_plain] at hx209_1 | skip)
                   (first | simp only [add_plain] at hx211_0 | skip)
                   (first | simp only [add_plain] at hx211_1 | skip)
                   obtain ⟨ce12, hcl12, hM12, hcc12, hfr12⟩ := Kd.R_elem HO_3.out z40 ((ji6) : Int) p12 q12
                   obtain rfl := k40_openM hM12
                   have hx12_0 : World.cell? _ ⟨go12, ((ji6) : Int).toNat * 2, none⟩ = some (.int .i64 ((rd_T40 x3_1 (ji6)).f0)) := hcc12 0 _ rfl
                   have hx12_1 : World.cell? _ ⟨go12, ((ji6) : Int).toNat * 2 + 1, none⟩ = some (.int .i64 ((rd_T40 x3_1 (ji6)).f1)) := hcc12 1 _ rfl
                   have hf12_0 : World.frozen? _ ⟨go12, ((ji6) : Int).toNat * 2, none⟩ = false := hfr12 0
                   have hf12_1 : World.frozen? _ ⟨go12, ((ji6) : Int).toNat * 2 + 1, none⟩ = false := hfr12 1
                   clear hcl12 hcc12 hfr12 hM12
                   replace p12 := eq_true p12
                   replace q12 := eq_true q12
                   obtain ⟨ce19, hcl19, hM19, hcc19, hfr19⟩ := Kd.R_elem HO_3.out z40 ((ji6) : Int) (of_decide_eq_true (by first | (with_reducible assumption) | assumption)) (by have h_ : ((ji6) : Int) < ((x3_1.length : Int) : Int) := of_decide_eq_true (by first | (with_reducible assumption) | assumption); first | exact h_ | (have e_ := (Kd.R_reads' HO_3.out).1; omega) | simpa using h_)
                   obtain rfl := k40_openM hM19
                   have HP19 := (Kd.R_seg HO_3.out ((ji6) : Int) (of_decide_eq_true (by first | (with_reducible assumption) | assumption)) (by have h_ : ((ji6) : Int) < ((x3_1.length : Int) : Int) := of_decide_eq_true (by first | (with_reducible assumption) | assumption); first | exact h_ | (have e_ := (Kd.R_reads' HO_3.out).1; omega) | simpa using h_) (seg := [.int .i64 (wrap64 (((rd_T40 x3_1 (ji6)).f1) + ((rd_T40 l0 x9_1).f1)))]) (j := 1) hcl19 hcc19 (show 2 ≤ 2 from by decide) (x' := (⟨(rd_T40 x3_1 (ji6)).f0, wrap64 (((rd_T40 x3_1 (ji6)).f1) + ((rd_T40 l0 x9_1).f1))⟩ : S40)) (k40_mkM _ _ _ (⟨(rd_T40 x3_1 (ji6)).f0, wrap64 (((rd_T40 x3_1 (ji6)).f1) + ((rd_T40 l0 x9_1).f1))⟩ : S40) ) (fun _ hk => hk)).1
                   rw [← Ny212.out] at HP19
                   have HQ19 := Aside0.mk HP19
                   clear hcl19 hcc19 hfr19 hM19 HP19
                   refine start_ (n := 12) (S := fun w' => w'.cell? ⟨gb207, 0, none⟩ = some (.int .i64 ((rd_T40 l0 x9_1).f0)) ∧ w'.cell? ⟨gb207, 1, none⟩ = some (.int .i64 ((rd_T40 l0 x9_1).f1)) ∧ w'.cell? ⟨go12, (((ji6)).toNat * 2), none⟩ = some (.int .i64 ((rd_T40 x3_1 (ji6)).f0)) ∧ w'.cell? ⟨go12, (((ji6)).toNat * 2) + 1, none⟩ = some (.int .i64 ((rd_T40 x3_1 (ji6)).f1))) (ds := [11]) (bq [0, 12]) (by kernel_rfl) rfl rfl ⟨(blk_cell BK207.out 0).trans rfl, (blk_cell BK207.out 1).trans rfl, hx211_0, hx211_1⟩ (fun hHeld => ?_); refine with_tabW impl_tied.tab7 impl_tied.bits7 (fun HT_ HW_ => ?_)
                   generalize w17.drew = w18 at HO_3 BK207 HB GG12 HQ19 hf12_0 hf12_1 hx12_0 hx12_1 hx208_0 hx208_1 hx209_0 hx209_1 hx211_0 hx211_1 hHeld ⊢
                   refine pure_ (i := 0) (N := some 40) (v := ?_) (a' := ?_) (bq [1, 11]) rfl rfl (any_of HT_.out (by kernel_rfl)) (fun _ _ _ h => h) (Or.inl ⟨by rfl, ?_⟩) ?_ ?_
                   rotate_left
                   · intro w'
                     go_simp
                     with_reducible rfl
                   rotate_left
                   · simp only [Act.put, sx0, sx1, sx2, i64_w, i32_w]
                     rfl
                   refine pure_ (i := 1) (N := some 41) (v := ?_) (a' := ?_) (bq [2, 10]) rfl rfl (any_of HT_.out (by kernel_rfl)) (fun _ _ _ h => h) (Or.inl ⟨by rfl, ?_⟩) ?_ ?_
                   rotate_left
                   · intro w'
                     go_simp
                     with_reducible rfl
                   rotate_left
                   · simp only [Act.put, sx0, sx1, sx2, i64_w, i32_w]
                     rfl
                   refine pure_ (i := 2) (N := some 42) (v := ?_) (a' := ?_) (bq [3, 9]) rfl rfl (any_of HT_.out (by kernel_rfl)) (fun _ _ _ h => h) (Or.inl ⟨by rfl, ?_⟩) ?_ ?_
                   rotate_left
                   · intro w'
                     go_simp
                     with_reducible rfl
                   rotate_left
                   · simp only [Act.put, sx0, sx1, sx2, i64_w, i32_w]
                     rfl
                   refine pure_ (i := 3) (N := some 43) (v := ?_) (a' := ?_) (bq [4, 8]) rfl rfl (any_of HT_.out (by kernel_rfl)) (fun _ _ _ h => h) (Or.inl ⟨by rfl, ?_⟩) ?_ ?_
                   rotate_left
                   · intro w'
                     go_simp
                     with_reducible rfl
                   rotate_left
                   · simp only [Act.put, sx0, sx1, sx2, i64_w, i32_w]
                     rfl
                   refine pure_ (i := 4) (N := some 44) (v := ?_) (a' := ?_) (bq [5, 7]) rfl rfl (any_of HT_.out (by kernel_rfl)) (fun _ _ _ h => h) (Or.inl ⟨by rfl, ?_⟩) ?_ ?_
                   rotate_left
                   · intro w'
                     go_simp
                     with_reducible rfl
                   rotate_left
                   · simp only [Act.put, sx0, sx1, sx2, i64_w, i32_w]
                     rfl
                   refine pure_ (i := 6) (N := some 46) (v := ?_) (a' := ?_) (bq [5, 1, 1, 5]) rfl rfl (any_of HT_.out (by kernel_rfl)) (fun _ _ _ h => h) (Or.inl ⟨by rfl, ?_⟩) ?_ ?_
                   rotate_left
                   · intro w'
                     go_simp
                     with_reducible rfl
                   rotate_left
                   · simp only [Act.put, sx0, sx1, sx2, i64_w, i32_w]
                     rfl
                   refine take_ (i := 5) (N := some 45) (v := ?_) (a' := ?_) (bq [7, 5]) rfl rfl (take_ofW HT_.out HW_.out (by kernel_rfl)) (fun _ _ _ h => h) (Or.inl ⟨by rfl, ?_⟩) hHeld ?_ ?_
                   rotate_left
                   · rintro w' ⟨s0, s1, s2, s3⟩
                     go_simp
                     with_reducible rfl
                   rotate_left
                   · simp only [Act.put, sx0, sx1, sx2, i64_w, i32_w]
                     rfl
                   refine take_ (i := 7) (N := some 47) (v := ?_) (a' := ?_) (bq [8, 4]) rfl rfl (take_ofW HT_.out HW_.out (by kernel_rfl)) (fun _ _ _ h => h) (Or.inl ⟨by rfl, ?_⟩) hHeld ?_ ?_
                   rotate_left
                   · rintro w' ⟨s0, s1, s2, s3⟩
                     go_simp
                     with_reducible rfl
                   rotate_left
                   · simp only [Act.put, sx0, sx1, sx2, i64_w, i32_w]
                     rfl
                   refine pure_ (i := 8) (N := some 48) (v := ?_) (a' := ?_) (bq [9, 3]) rfl rfl (any_of HT_.out (by kernel_rfl)) (fun _ _ _ h => h) (Or.inl ⟨by rfl, ?_⟩) ?_ ?_
                   rotate_left
                   · intro w'
                     go_simp
                     with_reducible rfl
                   rotate_left
                   · simp only [Act.put, sx0, sx1, sx2, i64_w, i32_w]
                     rfl
                   refine pure_ (i := 9) (N := some 49) (v := ?_) (a' := ?_) (bq [10, 2]) rfl rfl (any_of HT_.out (by kernel_rfl)) (fun _ _ _ h => h) (Or.inl ⟨by rfl, ?_⟩) ?_ ?_
                   rotate_left
                   · intro w'
                     go_simp
                     with_reducible rfl
                   rotate_left
                   · simp only [Act.put, sx0, sx1, sx2, i64_w, i32_w]
                     rfl
                   refine pure_ (i := 10) (N := some 50) (v := ?_) (a' := ?_) (bq [11, 1]) rfl rfl (any_of HT_.out (by kernel_rfl)) (fun _ _ _ h => h) (Or.inl ⟨by rfl, ?_⟩) ?_ ?_
                   rotate_left
                   · intro w'
                     go_simp
                     with_reducible rfl
                   rotate_left
                   · simp only [Act.put, sx0, sx1, sx2, i64_w, i32_w]
                     rfl
                   refine last_ (i := 11) (N := none) (bq [12]) rfl rfl (one_of HT_.out (by kernel_rfl)) (by decide) (fun K hK => ?_)
                   refine skip_ (w1 := ?_) (by rfl) rfl ?_ ?_
                   rotate_left
                   · go_simp
                     rfl
                   refine hK.out _ _ ?_
                   clear hK K
                   refine done_ (done_of HT_.out (by kernel_rfl)) ?_
                   try go_wp2
                   go_roundg k1
                   case measure => have := HK1.out; omega
                   case rel => exact ⟨(y212), (wrap64 (x9_1 + 1)), (by first | rfl | (simp; done) | (simp [*]; done)), H', ⟨by have := HK1.out; omega⟩, ⟨by (with_reducible repeat (first | apply Kd.R_alloc | apply Kd.R_drewN | apply Kd.R_drew)); exact Kd.R_mono HQ19.out (fun _ hk => trivial)⟩, ⟨by repeat (first | (with_reducible first | exact HB.out | apply below_alloc | apply pw_below_drewN | apply below_drew1 | refine below_set ?_ GB12.out | refine below_set ?_ GE207.out) | exact HB.out)⟩⟩
                 · replace c11 := Bool.eq_false_iff.mpr c11
                   subst c11
                   have H1 : (if x3_1.length < 8796093022208 then (impl_tied.l0 k1 (x3_1 ++ [(⟨(rd_T40 l0 x9_1).f0, (rd_T40 l0 x9_1).f1⟩ : S40)]) l0 (l0.length : Int) (wrap64 (x9_1 + 1))) else (none)) = some r := by rw [if_neg (show ¬ (false = true) by decide)] at H; exact H
                   clear H
                   have H := H1
                   clear H1
                   by_cases c20 : x3_1.length < 8796093022208
                   · rw [if_pos c20] at H
                     have LMc20 := Aside0.mk c20
                     clear c20
                     obtain ⟨y213, hy213⟩ : ∃ y_ : List (S40), y_ = (x3_1 ++ [(⟨(rd_T40 l0 x9_1).f0, (rd_T40 l0 x9_1).f1⟩ : S40)]) := ⟨_, rfl⟩
                     replace H : (impl_tied.l0 k1 y213 l0 (l0.length : Int) (wrap64 (x9_1 + 1))) = some r := by first | (rw [hy213]; with_reducible exact H) | (have H2_ := (Option.bind_some _ _).symm.trans H; rw [hy213]; with_reducible exact H2_) | (have H2_ := (Option.bind_some _ _).symm.trans H; with_reducible exact H2_) | with_reducible exact H | (rw [hy213]; exact H) | exact H
                     have Ny213 := Aside0.mk hy213
                     clear hy213
                     have H' := Aside0.mk H
                     clear H
                     have p206 : 0 ≤ (x9_1 : Int) := of_decide_eq_true (by first | (with_reducible assumption) | assumption)
                     have q206 : x9_1 < (l0.length : Int) := of_decide_eq_true (by first | (with_reducible assumption) | assumption)
                     obtain ⟨ad206, e206, hx206_0, hx206_1⟩ := at_T40 HR0.out x9_1 p206 q206
                     cases e206
                     replace hx206_0 := (HB.out.cell (World.block_lt_of_cell? w _ hx206_0)).trans hx206_0
                     replace hx206_1 := (HB.out.cell (World.block_lt_of_cell? w _ hx206_1)).trans hx206_1
                     replace p206 := eq_true p206
                     replace q206 := eq_true q206
                     try go_wp2_with (first | ((with_reducible refine gate_dst (N := 5) rfl ?_); refine box_event ?hg (N := 5) ?hd (cs := #[.int .i64 0, .int .i64 0]) (t := 40) ?hr ?_; (case hd => rfl); (case hg => rfl); (case hr => first | (go_simp; done) | (go_simp; rfl)); intro gb207 hg w21 hbox hb; have n0_ := Aside0.mk (Kd.R_below (Kd.R_elderB (by (with_reducible repeat (first | apply Kd.R_alloc | apply Kd.R_drewN | apply Kd.R_drew)); exact HO_3.out) gb207 (Nat.le_of_eq hg.symm)) hb); have n1_ := Aside0.mk (below_step (by repeat (first | (with_reducible first | exact HB.out | apply below_alloc | apply pw_below_drewN | apply below_drew1) | exact HB.out)) hb); have n2_ := Aside0.mk (hbox); have n3_ := Aside0.mk ((by rw [hg]; exact (below_size (by repeat (first | (with_reducible first | exact HB.out | apply below_alloc | apply pw_below_drewN | apply below_drew1) | exact HB.out))) : w.heap.size ≤ gb207)); have n4_ := Aside0.mk ((by rw [hg]; exact (below_size (by repeat (first | (with_reducible first | exact HB.out | apply below_alloc | apply pw_below_drewN | apply below_drew1) | exact HB.out))) : w.heap.size ≤ gb207)); clear HO_3; clear HB; have HO_3 := n0_; have HB := n1_; have BK207 := n2_; have GW207 := n3_; have GE207 := n4_; clear n0_ n1_ n2_ n3_ n4_; clear hb hbox hg; have hcz22_0 : w21.cell? ⟨gb207, 0, none⟩ = some (.int .i64 0) := (blk_cell BK207.out 0).trans rfl; have hcz22_1 : w21.cell? ⟨gb207, 1, none⟩ = some (.int .i64 0) := (blk_cell BK207.out 1).trans rfl; have hfz22_0 := blk_frozen BK207.out 0; have hfz22_1 := blk_frozen BK207.out 1; obtain ⟨Ao23, co23, eo23⟩ := Kd.R_slice HO_3.out; subst eo23))
                     have n0_ : Aside0 (Kd.R k40 40 ((w21.setCell ⟨gb207, 0, none⟩ (.int .i64 ((rd_T40 l0 x9_1).f0))).setCell ⟨gb207, 1, none⟩ (.int .i64 ((rd_T40 l0 x9_1).f1))) w.heap.size (fun k_ => k_ ≠ gb207) (.slice Ao23 x3_1.length co23) x3_1) := ⟨by (with_reducible repeat (first | apply Kd.R_alloc | apply Kd.R_drewN | apply Kd.R_drew)); exact Kd.R_mono (Kd.R_far (p := ⟨gb207, 1, none⟩) (Kd.R_far (p := ⟨gb207, 0, none⟩) (Kd.R_mono HO_3.out (fun k_ hk => (⟨hk, hk.2⟩ : _ ∧ k_ ≠ gb207))) (fun _ hk => hk.2) (.int .i64 ((rd_T40 l0 x9_1).f0))) (fun _ hk => hk.2) (.int .i64 ((rd_T40 l0 x9_1).f1))) (fun _ hk => hk.1.2)⟩
                     have n1_ : Aside0 (((w21.setCell ⟨gb207, 0, none⟩ (.int .i64 ((rd_T40 l0 x9_1).f0))).setCell ⟨gb207, 1, none⟩ (.int .i64 ((rd_T40 l0 x9_1).f1))).heap[gb207]? = some (.cells #[.int .i64 ((rd_T40 l0 x9_1).f0), .int .i64 ((rd_T40 l0 x9_1).f1)] 40 (0, 0))) := ⟨by (with_reducible repeat (first | refine blk_drewN ?_ _ | refine blk_drew ?_ | refine blk_alloc ?_ _)); refine blk_put (cs := #[.int .i64 ((rd_T40 l0 x9_1).f0), .int .i64 0]) ?_ 1 _ rfl; (with_reducible repeat (first | refine blk_drewN ?_ _ | refine blk_drew ?_ | refine blk_alloc ?_ _)); refine blk_put (cs := #[.int .i64 0, .int .i64 0]) ?_ 0 _ rfl; (with_reducible repeat (first | refine blk_drewN ?_ _ | refine blk_drew ?_ | refine blk_alloc ?_ _)); exact BK207.out⟩
                     have n2_ : Aside0 (Below w.heap.size w ((w21.setCell ⟨gb207, 0, none⟩ (.int .i64 ((rd_T40 l0 x9_1).f0))).setCell ⟨gb207, 1, none⟩ (.int .i64 ((rd_T40 l0 x9_1).f1)))) := ⟨by repeat (first | (with_reducible first | exact HB.out | apply below_alloc | apply pw_below_drewN | apply below_drew1 | refine below_set ?_ GE207.out) | exact HB.out)⟩
                     (try clear HO_3)
                     (try clear BK207)
                     (try clear HB)
                     generalize ((w21.setCell ⟨gb207, 0, none⟩ (.int .i64 ((rd_T40 l0 x9_1).f0))).setCell ⟨gb207, 1, none⟩ (.int .i64 ((rd_T40 l0 x9_1).f1))) = w24 at n0_ n1_ n2_ ⊢
                     have HO_3 := n0_
                     have BK207 := n1_
                     have HB := n2_
                     clear n0_ n1_ n2_
                     have n0_ := Aside0.mk (Kd.R_drew HO_3.out)
                     have n1_ := Aside0.mk (blk_drew BK207.out)
                     have n2_ := Aside0.mk (below_drew1 HB.out)
                     clear HO_3
                     clear BK207
                     clear HB
                     have HO_3 := n0_
                     have BK207 := n1_
                     have HB := n2_
                     clear n0_ n1_ n2_
                     have p208 : 0 ≤ ((ji6) : Int) := of_decide_eq_true (by first | (with_reducible assumption) | assumption)
                     have q208 : (ji6) < (x3_1.length : Int) := of_decide_eq_true (by first | (with_reducible assumption) | assumption)
                     obtain ⟨ad208, e208, hx208_0, hx208_1⟩ := at_T40 (Kd.R_reads' HO_3.out).2.2 (ji6) p208 q208
                     cases e208
                     replace p208 := eq_true p208
                     replace q208 := eq_true q208
                     have p209 : 0 ≤ ((ji6) : Int) := of_decide_eq_true (by first | (with_reducible assumption) | assumption)
                     have q209 : (ji6) < (x3_1.length : Int) := of_decide_eq_true (by first | (with_reducible assumption) | assumption)
                     obtain ⟨ad209, e209, hx209_0, hx209_1⟩ := at_T40 (Kd.R_reads' HO_3.out).2.2 (ji6) p209 q209
                     obtain rfl : ad208 = ad209 := (by injection e209)
                     replace p209 := eq_true p209
                     replace q209 := eq_true q209
                     refine start_ (n := 25) (S := fun w' => w'.cell? ⟨gb207, 0, none⟩ = some (.int .i64 ((rd_T40 l0 x9_1).f0)) ∧ w'.cell? ⟨gb207, 1, none⟩ = some (.int .i64 ((rd_T40 l0 x9_1).f1)) ∧ w'.cell? (ad208.add (((ji6)).toNat * 2)) = some (.int .i64 ((rd_T40 x3_1 (ji6)).f0)) ∧ w'.cell? ⟨(ad208.add (((ji6)).toNat * 2)).block, (ad208.add (((ji6)).toNat * 2)).off + 1, none⟩ = some (.int .i64 ((rd_T40 x3_1 (ji6)).f1)) ∧ w'.cell? (ad208.add (((ji6)).toNat * 2)) = some (.int .i64 ((rd_T40 x3_1 (ji6)).f0)) ∧ w'.cell? ⟨(ad208.add (((ji6)).toNat * 2)).block, (ad208.add (((ji6)).toNat * 2)).off + 1, none⟩ = some (.int .i64 ((rd_T40 x3_1 (ji6)).f1))) (ds := []) (bq [0, 25]) (by kernel_rfl) rfl rfl ⟨(blk_cell BK207.out 0).trans rfl, (blk_cell BK207.out 1).trans rfl, hx208_0, hx208_1, hx209_0, hx209_1⟩ (fun hHeld => ?_); refine with_tabW impl_tied.tab6 impl_tied.bits6 (fun HT_ HW_ => ?_)
                     generalize w24.drew = w25 at HO_3 BK207 HB hx208_0 hx208_1 hx209_0 hx209_1 hHeld ⊢
                     refine pure_ (i := 0) (N := some 15) (v := ?_) (a' := ?_) (bq [1, 24]) rfl rfl (any_of HT_.out (by kernel_rfl)) (fun _ _ _ h => h) (Or.inl ⟨by rfl, ?_⟩) ?_ ?_
                     rotate_left
                     · intro w'
                       go_simp
                       with_reducible rfl
                     rotate_left
                     · simp only [Act.put, sx0, sx1, sx2, i64_w, i32_w]
                       rfl
                     refine pure_ (i := 1) (N := some 16) (v := ?_) (a' := ?_) (bq [2, 23]) rfl rfl (any_of HT_.out (by kernel_rfl)) (fun _ _ _ h => h) (Or.inl ⟨by rfl, ?_⟩) ?_ ?_
                     rotate_left
                     · intro w'
                       go_simp
                       with_reducible rfl
                     rotate_left
                     · simp only [Act.put, sx0, sx1, sx2, i64_w, i32_w]
                       rfl
                     refine pure_ (i := 2) (N := some 17) (v := ?_) (a' := ?_) (bq [3, 22]) rfl rfl (any_of HT_.out (by kernel_rfl)) (fun _ _ _ h => h) (Or.inl ⟨by rfl, ?_⟩) ?_ ?_
                     rotate_left
                     · intro w'
                       go_simp
                       with_reducible rfl
                     rotate_left
                     · simp only [Act.put, sx0, sx1, sx2, i64_w, i32_w]
                       rfl
                     refine pure_ (i := 3) (N := some 18) (v := ?_) (a' := ?_) (bq [4, 21]) rfl rfl (any_of HT_.out (by kernel_rfl)) (fun _ _ _ h => h) (Or.inl ⟨by rfl, ?_⟩) ?_ ?_
                     rotate_left
                     · intro w'
                       go_simp
                       with_reducible rfl
                     rotate_left
                     · simp only [Act.put, sx0, sx1, sx2, i64_w, i32_w]
                       rfl
                     refine pure_ (i := 4) (N := some 19) (v := ?_) (a' := ?_) (bq [5, 20]) rfl rfl (any_of HT_.out (by kernel_rfl)) (fun _ _ _ h => h) (Or.inl ⟨by rfl, ?_⟩) ?_ ?_
                     rotate_left
                     · intro w'
                       go_simp
                       with_reducible rfl
                     rotate_left
                     · simp only [Act.put, sx0, sx1, sx2, i64_w, i32_w]
                       rfl
                     refine pure_ (i := 5) (N := some 20) (v := ?_) (a' := ?_) (bq [6, 19]) rfl rfl (any_of HT_.out (by kernel_rfl)) (fun _ _ _ h => h) (Or.inl ⟨by rfl, ?_⟩) ?_ ?_
                     rotate_left
                     · intro w'
                       go_simp
                       with_reducible rfl
                     rotate_left
                     · simp only [Act.put, sx0, sx1, sx2, i64_w, i32_w]
                       rfl
                     refine pure_ (i := 6) (N := some 21) (v := ?_) (a' := ?_) (bq [7, 18]) rfl rfl (any_of HT_.out (by kernel_rfl)) (fun _ _ _ h => h) (Or.inl ⟨by rfl, ?_⟩) ?_ ?_
                     rotate_left
                     · intro w'
                       go_simp
                       with_reducible rfl
                     rotate_left
                     · simp only [Act.put, sx0, sx1, sx2, i64_w, i32_w]
                       rfl
                     refine pure_ (i := 7) (N := some 22) (v := ?_) (a' := ?_) (bq [8, 17]) rfl rfl (any_of HT_.out (by kernel_rfl)) (fun _ _ _ h => h) (Or.inl ⟨by rfl, ?_⟩) ?_ ?_
                     rotate_left
                     · intro w'
                       go_simp
                       with_reducible rfl
                     rotate_left
                     · simp only [Act.put, sx0, sx1, sx2, i64_w, i32_w]
                       rfl
                     refine pure_ (i := 9) (N := some 24) (v := ?_) (a' := ?_) (bq [8, 1, 1, 15]) rfl rfl (any_of HT_.out (by kernel_rfl)) (fun _ _ _ h => h) (Or.inl ⟨by rfl, ?_⟩) ?_ ?_
                     rotate_left
                     · intro w'
                       go_simp
                       with_reducible rfl
                     rotate_left
                     · simp only [Act.put, sx0, sx1, sx2, i64_w, i32_w]
                       rfl
                     refine take_ (i := 8) (N := some 23) (v := ?_) (a' := ?_) (bq [10, 15]) rfl rfl (take_ofW HT_.out HW_.out (by kernel_rfl)) (fun _ _ _ h => h) (Or.inl ⟨by rfl, ?_⟩) hHeld ?_ ?_
                     rotate_left
                     · rintro w' ⟨s0, s1, s2, s3, s4, s5⟩
                       go_simp
                       with_reducible rfl
                     rotate_left
                     · simp only [Act.put, sx0, sx1, sx2, i64_w, i32_w]
                       rfl
                     refine take_ (i := 10) (N := some 25) (v := ?_) (a' := ?_) (bq [11, 14]) rfl rfl (take_ofW HT_.out HW_.out (by kernel_rfl)) (fun _ _ _ h => h) (Or.inl ⟨by rfl, ?_⟩) hHeld ?_ ?_
                     rotate_left
                     · rintro w' ⟨s0, s1, s2, s3, s4, s5⟩
                       go_simp
                       with_reducible rfl
                     rotate_left
                     · simp only [Act.put, sx0, sx1, sx2, i64_w, i32_w]
                       rfl
                     refine pure_ (i := 11) (N := some 26) (v := ?_) (a' := ?_) (bq [12, 13]) rfl rfl (any_of HT_.out (by kernel_rfl)) (fun _ _ _ h => h) (Or.inl ⟨by rfl, ?_⟩) ?_ ?_
                     rotate_left
                     · intro w'
                       go_simp
                       with_reducible rfl
                     rotate_left
                     · simp only [Act.put, sx0, sx1, sx2, i64_w, i32_w]
                       rfl
                     refine pure_ (i := 12) (N := some 27) (v := ?_) (a' := ?_) (bq [13, 12]) rfl rfl (any_of HT_.out (by kernel_rfl)) (fun _ _ _ h => h) (Or.inl ⟨by rfl, ?_⟩) ?_ ?_
                     rotate_left
                     · intro w'
                       go_simp
                       with_reducible rfl
                     rotate_left
                     · simp only [Act.put, sx0, sx1, sx2, i64_w, i32_w]
                       rfl
                     refine pure_ (i := 13) (N := some 28) (v := ?_) (a' := ?_) (bq [14, 11]) rfl rfl (any_of HT_.out (by kernel_rfl)) (fun _ _ _ h => h) (Or.inl ⟨by rfl, ?_⟩) ?_ ?_
                     rotate_left
                     · intro w'
                       go_simp
                       with_reducible rfl
                     rotate_left
                     · simp only [Act.put, sx0, sx1, sx2, i64_w, i32_w]
                       rfl
                     refine pure_ (i := 14) (N := some 29) (v := ?_) (a' := ?_) (bq [15, 10]) rfl rfl (any_of HT_.out (by kernel_rfl)) (fun _ _ _ h => h) (Or.inl ⟨by rfl, ?_⟩) ?_ ?_
                     rotate_left
                     · intro w'
                       go_simp
                       with_reducible rfl
                     rotate_left
                     · simp only [Act.put, sx0, sx1, sx2, i64_w, i32_w]
                       rfl
                     refine pure_ (i := 15) (N := some 30) (v := ?_) (a' := ?_) (bq [16, 9]) rfl rfl (any_of HT_.out (by kernel_rfl)) (fun _ _ _ h => h) (Or.inl ⟨by rfl, ?_⟩) ?_ ?_
                     rotate_left
                     · intro w'
                       go_simp
                       with_reducible rfl
                     rotate_left
                     · simp only [Act.put, sx0, sx1, sx2, i64_w, i32_w]
                       rfl
                     refine pure_ (i := 16) (N := some 31) (v := ?_) (a' := ?_) (bq [17, 8]) rfl rfl (any_of HT_.out (by kernel_rfl)) (fun _ _ _ h => h) (Or.inl ⟨by rfl, ?_⟩) ?_ ?_
                     rotate_left
                     · intro w'
                       go_simp
                       with_reducible rfl
                     rotate_left
                     · simp only [Act.put, sx0, sx1, sx2, i64_w, i32_w]
                       rfl
                     refine pure_ (i := 17) (N := some 32) (v := ?_) (a' := ?_) (bq [18, 7]) rfl rfl (any_of HT_.out (by kernel_rfl)) (fun _ _ _ h => h) (Or.inl ⟨by rfl, ?_⟩) ?_ ?_
                     rotate_left
                     · intro w'
                       go_simp
                       with_reducible rfl
                     rotate_left
                     · simp only [Act.put, sx0, sx1, sx2, i64_w, i32_w]
                       rfl
                     refine pure_ (i := 18) (N := some 33) (v := ?_) (a' := ?_) (bq [19, 6]) rfl rfl (any_of HT_.out (by kernel_rfl)) (fun _ _ _ h => h) (Or.inl ⟨by rfl, ?_⟩) ?_ ?_
                     rotate_left
                     · intro w'
                       go_simp
                       with_reducible rfl
                     rotate_left
                     · simp only [Act.put, sx0, sx1, sx2, i64_w, i32_w]
                       rfl
                     refine pure_ (i := 20) (N := some 35) (v := ?_) (a' := ?_) (bq [19, 1, 1, 4]) rfl rfl (any_of HT_.out (by kernel_rfl)) (fun _ _ _ h => h) (Or.inl ⟨by rfl, ?_⟩) ?_ ?_
                     rotate_left
                     · intro w'
                       go_simp
                       with_reducible rfl
                     rotate_left
                     · simp only [Act.put, sx0, sx1, sx2, i64_w, i32_w]
                       rfl
                     refine take_ (i := 19) (N := some 34) (v := ?_) (a' := ?_) (bq [21, 4]) rfl rfl (take_ofW HT_.out HW_.out (by kernel_rfl)) (fun _ _ _ h => h) (Or.inl ⟨by rfl, ?_⟩) hHeld ?_ ?_
                     rotate_left
                     · rintro w' ⟨s0, s1, s2, s3, s4, s5⟩
                       go_simp
                       with_reducible rfl
                     rotate_left
                     · simp only [Act.put, sx0, sx1, sx2, i64_w, i32_w]
                       rfl
                     refine take_ (i := 21) (N := some 36) (v := ?_) (a' := ?_) (bq [22, 3]) rfl rfl (take_ofW HT_.out HW_.out (by kernel_rfl)) (fun _ _ _ h => h) (Or.inl ⟨by rfl, ?_⟩) hHeld ?_ ?_
                     rotate_left
                     · rintro w' ⟨s0, s1, s2, s3, s4, s5⟩
                       go_simp
                       with_reducible rfl
                     rotate_left
                     · simp only [Act.put, sx0, sx1, sx2, i64_w, i32_w]
                       rfl
                     refine pure_ (i := 22) (N := some 37) (v := ?_) (a' := ?_) (bq [23, 2]) rfl rfl (any_of HT_.out (by kernel_rfl)) (fun _ _ _ h => h) (Or.inl ⟨by rfl, ?_⟩) ?_ ?_
                     rotate_left
                     · intro w'
                       go_simp
                       with_reducible rfl
                     rotate_left
                     · simp only [Act.put, sx0, sx1, sx2, i64_w, i32_w]
                       rfl
                     refine one_ (i := 23) (N := some 38) (bq [24, 1]) rfl rfl (one_of HT_.out (by kernel_rfl)) (by decide) (fun K hK => ?_)
                     refine goes_ Try.func144 (by kernel_rfl) rfl #[.int .i64 (wrap64 (((rd_T40 x3_1 (ji6)).f1) + ((rd_T40 l0 x9_1).f1)))] (by rfl) rfl rfl (by (try simp only [List.map_toArray, List.map_cons, List.map_nil]); first | done | (simp only [hji6]; rfl) | rfl | (simp only [List.length_drop, List.length_take]; rfl)) ?_
                     with_reducible refine (impl_lengthOk.calls (wrap64 (((rd_T40 x3_1 (ji6)).f1) + ((rd_T40 l0 x9_1).f1))) false _ A10.out).mono ?_
                     rintro e w' ⟨rfl, ⟨nd, rfl⟩⟩
                     refine ⟨_, rfl, ?_⟩
                     refine hK.out _ _ ⟨(blk_cell BK207.out 0).trans rfl, (blk_cell BK207.out 1).trans rfl, hHeld.2.2.1, hHeld.2.2.2.1, hHeld.2.2.2.2.1, hHeld.2.2.2.2.2⟩ (fun hHeld => ?_)
                     clear hK K
                     refine norm_ (a' := ?_) ?_ ?_
                     rotate_left
                     · show Act.put _ (some 38) _ = _
                       simp only [Act.put, sx0, sx1, sx2, i64_w, i32_w]
                       rfl
                     refine pure_ (i := 24) (N := some 39) (v := ?_) (a' := ?_) (bq [25]) rfl rfl (any_of HT_.out (by kernel_rfl)) (fun _ _ _ h => h) (Or.inl ⟨by rfl, ?_⟩) ?_ ?_
                     rotate_left
                     · intro w'
                       go_simp
                       with_reducible rfl
                     rotate_left
                     · simp only [Act.put, sx0, sx1, sx2, i64_w, i32_w]
                       rfl
                     refine done_ (done_of HT_.out (by kernel_rfl)) ?_
                     have hcz26_0 : w25.cell? ⟨gb207, 0, none⟩ = some (.int .i64 ((rd_T40 l0 x9_1).f0)) := (blk_cell BK207.out 0).trans rfl
                     have hcz26_1 : w25.cell? ⟨gb207, 1, none⟩ = some (.int .i64 ((rd_T40 l0 x9_1).f1)) := (blk_cell BK207.out 1).trans rfl
                     have hfz26_0 := blk_frozen BK207.out 0
                     have hfz26_1 := blk_frozen BK207.out 1
                     try go_wp2_with (first | ((with_reducible refine gate_builtin (b := .append) (xs := #[.tmp 51, .tmp 53]) rfl ?_); at_builtin; refine Kd.R_append k40 (w0 := w) w.heap.size rfl (.tmp 51) (.tmp 53) 31 40 (.agg #[(.int .i64 0), (.int .i64 0)]) 16 rfl Try.underlying31 info40 rfl (by decide) (by omega) (.slice (some ad208) x3_1.length co23) x3_1 (⟨(rd_T40 l0 x9_1).f0, (rd_T40 l0 x9_1).f1⟩ : S40) [.int .i64 ((rd_T40 l0 x9_1).f0), .int .i64 ((rd_T40 l0 x9_1).f1)] (fun k_ => k_ ≠ gb207) (fun _ => False) rfl rfl ?aP (fun _ hk => hk.elim) ?aF ?aO ?aB ?aS ?aL ?_; (case aP => exact k40_mkM _ _ _ (⟨(rd_T40 l0 x9_1).f0, (rd_T40 l0 x9_1).f1⟩ : S40)); (case aB => exact (by repeat (first | (with_reducible first | exact HB.out | apply below_alloc | apply pw_below_drewN | apply below_drew1 | refine below_set ?_ GE207.out) | exact HB.out))); (case aF => exact (fun k_ hk => Kd.freshB (g := gb207) (o := .cells #[.int .i64 ((rd_T40 l0 x9_1).f0), .int .i64 ((rd_T40 l0 x9_1).f1)] 40 (0, 0)) (by (with_reducible repeat (first | refine blk_drewN ?_ _ | refine blk_drew ?_ | refine blk_alloc ?_ _)); exact BK207.out) k_ hk)); (case aO => exact (by (with_reducible repeat (first | apply Kd.R_alloc | apply Kd.R_drewN | apply Kd.R_drew)); exact HO_3.out)); (case aS => exact (below_size (by repeat (first | (with_reducible first | exact HB.out | apply below_alloc | apply pw_below_drewN | apply below_drew1 | refine below_set ?_ GE207.out) | exact HB.out)))); (case aL => have := LMc20.out; omega); intro v214 w27 ho hb hg hat; rw [← Ny213.out] at ho; have n0_ := Aside0.mk (blk_grown (g := gb207) (o := .cells #[.int .i64 ((rd_T40 l0 x9_1).f0), .int .i64 ((rd_T40 l0 x9_1).f1)] 40 (0, 0)) (by (with_reducible repeat (first | refine blk_drewN ?_ _ | refine blk_drew ?_ | refine blk_alloc ?_ _)); exact BK207.out) hg (Kd.R_away HO_3.out (fun _ hk => hk))); have n1_ := Aside0.mk (hb); have n2_ := Aside0.mk (ho); clear BK207; clear HB; clear HO_3; have BK207 := n0_; have HB := n1_; have HO215 := n2_; clear n0_ n1_ n2_; clear ho hb hg hat))
                     go_roundg k1
                     case measure => have := HK1.out; omega
                     case rel => exact ⟨(y213), (wrap64 (x9_1 + 1)), (by first | rfl | (simp; done) | (simp [*]; done)), H', ⟨by have := HK1.out; omega⟩, ⟨by (with_reducible repeat (first | apply Kd.R_alloc | apply Kd.R_drewN | apply Kd.R_drew)); exact Kd.R_mono HO215.out (fun _ hk => trivial)⟩, ⟨by repeat (first | (with_reducible first | exact HB.out | apply below_alloc | apply pw_below_drewN | apply below_drew1 | refine below_set ?_ GE207.out) | exact HB.out)⟩⟩
                   · rw [if_neg c20] at H
                     exact absurd H (by simp)
               · rw [if_neg c9] at H
                 have c9b0 : (((rd_T40 x3_1 (ji6)).f0) == ((rd_T40 l0 x9_1).f0)) = false := beq_eq_false_iff_ne.mpr c9
                 have c9b1 : (((rd_T40 x3_1 (ji6)).f0) != ((rd_T40 l0 x9_1).f0)) = true := bne_iff_ne.mpr c9
                 by_cases c28 : x3_1.length < 8796093022208
                 · rw [if_pos c28] at H
                   have LMc28 := Aside0.mk c28
                   clear c28
                   obtain ⟨y216, hy216⟩ : ∃ y_ : List (S40), y_ = (x3_1 ++ [(⟨(rd_T40 l0 x9_1).f0, (rd_T40 l0 x9_1).f1⟩ : S40)]) := ⟨_, rfl⟩
                   replace H : (impl_tied.l0 k1 y216 l0 (l0.length : Int) (wrap64 (x9_1 + 1))) = some r := by first | (rw [hy216]; with_reducible exact H) | (have H2_ := (Option.bind_some _ _).symm.trans H; rw [hy216]; with_reducible exact H2_) | (have H2_ := (Option.bind_some _ _).symm.trans H; with_reducible exact H2_) | with_reducible exact H | (rw [hy216]; exact H) | exact H
                   have Ny216 := Aside0.mk hy216
                   clear hy216
                   have H' := Aside0.mk H
                   clear H
                   have p206 : 0 ≤ (x9_1 : Int) := of_decide_eq_true (by first | (with_reducible assumption) | assumption)
                   have q206 : x9_1 < (l0.length : Int) := of_decide_eq_true (by first | (with_reducible assumption) | assumption)
                   obtain ⟨ad206, e206, hx206_0, hx206_1⟩ := at_T40 HR0.out x9_1 p206 q206
                   cases e206
                   replace hx206_0 := (HB.out.cell (World.block_lt_of_cell? w _ hx206_0)).trans hx206_0
                   replace hx206_1 := (HB.out.cell (World.block_lt_of_cell? w _ hx206_1)).trans hx206_1
                   replace p206 := eq_true p206
                   replace q206 := eq_true q206
                   try go_wp2_with (first | ((with_reducible refine gate_dst (N := 5) rfl ?_); refine box_event ?hg (N := 5) ?hd (cs := #[.int .i64 0, .int .i64 0]) (t := 40) ?hr ?_; (case hd => rfl); (case hg => rfl); (case hr => first | (go_simp; done) | (go_simp; rfl)); intro gb207 hg w29 hbox hb; have n0_ := Aside0.mk (Kd.R_below (Kd.R_elderB (by (with_reducible repeat (first | apply Kd.R_alloc | apply Kd.R_drewN | apply Kd.R_drew)); exact HO_3.out) gb207 (Nat.le_of_eq hg.symm)) hb); have n1_ := Aside0.mk (below_step (by repeat (first | (with_reducible first | exact HB.out | apply below_alloc | apply pw_below_drewN | apply below_drew1) | exact HB.out)) hb); have n2_ := Aside0.mk (hbox); have n3_ := Aside0.mk ((by rw [hg]; exact (below_size (by repeat (first | (with_reducible first | exact HB.out | apply below_alloc | apply pw_below_drewN | apply below_drew1) | exact HB.out))) : w.heap.size ≤ gb207)); have n4_ := Aside0.mk ((by rw [hg]; exact (below_size (by repeat (first | (with_reducible first | exact HB.out | apply below_alloc | apply pw_below_drewN | apply below_drew1) | exact HB.out))) : w.heap.size ≤ gb207)); clear HO_3; clear HB; have HO_3 := n0_; have HB := n1_; have BK207 := n2_; have GW207 := n3_; have GE207 := n4_; clear n0_ n1_ n2_ n3_ n4_; clear hb hbox hg; have hcz30_0 : w29.cell? ⟨gb207, 0, none⟩ = some (.int .i64 0) := (blk_cell BK207.out 0).trans rfl; have hcz30_1 : w29.cell? ⟨gb207, 1, none⟩ = some (.int .i64 0) := (blk_cell BK207.out 1).trans rfl; have hfz30_0 := blk_frozen BK207.out 0; have hfz30_1 := blk_frozen BK207.out 1; obtain ⟨Ao31, co31, eo31⟩ := Kd.R_slice HO_3.out; subst eo31))
                   have n0_ : Aside0 (Kd.R k40 40 ((w29.setCell ⟨gb207, 0, none⟩ (.int .i64 ((rd_T40 l0 x9_1).f0))).setCell ⟨gb207, 1, none⟩ (.int .i64 ((rd_T40 l0 x9_1).f1))) w.heap.size (fun k_ => k_ ≠ gb207) (.slice Ao31 x3_1.length co31) x3_1) := ⟨by (with_reducible repeat (first | apply Kd.R_alloc | apply Kd.R_drewN | apply Kd.R_drew)); exact Kd.R_mono (Kd.R_far (p := ⟨gb207, 1, none⟩) (Kd.R_far (p := ⟨gb207, 0, none⟩) (Kd.R_mono HO_3.out (fun k_ hk => (⟨hk, hk.2⟩ : _ ∧ k_ ≠ gb207))) (fun _ hk => hk.2) (.int .i64 ((rd_T40 l0 x9_1).f0))) (fun _ hk => hk.2) (.int .i64 ((rd_T40 l0 x9_1).f1))) (fun _ hk => hk.1.2)⟩
                   have n1_ : Aside0 (((w29.setCell ⟨gb207, 0, none⟩ (.int .i64 ((rd_T40 l0 x9_1).f0))).setCell ⟨gb207, 1, none⟩ (.int .i64 ((rd_T40 l0 x9_1).f1))).heap[gb207]? = some (.cells #[.int .i64 ((rd_T40 l0 x9_1).f0), .int .i64 ((rd_T40 l0 x9_1).f1)] 40 (0, 0))) := ⟨by (with_reducible repeat (first | refine blk_drewN ?_ _ | refine blk_drew ?_ | refine blk_alloc ?_ _)); refine blk_put (cs := #[.int .i64 ((rd_T40 l0 x9_1).f0), .int .i64 0]) ?_ 1 _ rfl; (with_reducible repeat (first | refine blk_drewN ?_ _ | refine blk_drew ?_ | refine blk_alloc ?_ _)); refine blk_put (cs := #[.int .i64 0, .int .i64 0]) ?_ 0 _ rfl; (with_reducible repeat (first | refine blk_drewN ?_ _ | refine blk_drew ?_ | refine blk_alloc ?_ _)); exact BK207.out⟩
                   have n2_ : Aside0 (Below w.heap.size w ((w29.setCell ⟨gb207, 0, none⟩ (.int .i64 ((rd_T40 l0 x9_1).f0))).setCell ⟨gb207, 1, none⟩ (.int .i64 ((rd_T40 l0 x9_1).f1)))) := ⟨by repeat (first | (with_reducible first | exact HB.out | apply below_alloc | apply pw_below_drewN | apply below_drew1 | refine below_set ?_ GE207.out) | exact HB.out)⟩
                   (try clear HO_3)
                   (try clear BK207)
                   (try clear HB)
                   generalize ((w29.setCell ⟨gb207, 0, none⟩ (.int .i64 ((rd_T40 l0 x9_1).f0))).setCell ⟨gb207, 1, none⟩ (.int .i64 ((rd_T40 l0 x9_1).f1))) = w32 at n0_ n1_ n2_ ⊢
                   have HO_3 := n0_
                   have BK207 := n1_
                   have HB := n2_
                   clear n0_ n1_ n2_
                   have n0_ := Aside0.mk (Kd.R_drew HO_3.out)
                   have n1_ := Aside0.mk (blk_drew BK207.out)
                   have n2_ := Aside0.mk (below_drew1 HB.out)
                   clear HO_3
                   clear BK207
                   clear HB
                   have HO_3 := n0_
                   have BK207 := n1_
                   have HB := n2_
                   clear n0_ n1_ n2_
                   have p208 : 0 ≤ ((ji6) : Int) := of_decide_eq_true (by first | (with_reducible assumption) | assumption)
                   have q208 : (ji6) < (x3_1.length : Int) := of_decide_eq_true (by first | (with_reducible assumption) | assumption)
                   obtain ⟨ad208, e208, hx208_0, hx208_1⟩ := at_T40 (Kd.R_reads' HO_3.out).2.2 (ji6) p208 q208
                   cases e208
                   replace p208 := eq_true p208
                   replace q208 := eq_true q208
                   refine start_ (n := 25) (S := fun w' => w'.cell? ⟨gb207, 0, none⟩ = some (.int .i64 ((rd_T40 l0 x9_1).f0)) ∧ w'.cell? ⟨gb207, 1, none⟩ = some (.int .i64 ((rd_T40 l0 x9_1).f1)) ∧ w'.cell? (ad208.add (((ji6)).toNat * 2)) = some (.int .i64 ((rd_T40 x3_1 (ji6)).f0)) ∧ w'.cell? ⟨(ad208.add (((ji6)).toNat * 2)).block, (ad208.add (((ji6)).toNat * 2)).off + 1, none⟩ = some (.int .i64 ((rd_T40 x3_1 (ji6)).f1))) (ds := []) (bq [0, 25]) (by kernel_rfl) rfl rfl ⟨(blk_cell BK207.out 0).trans rfl, (blk_cell BK207.out 1).trans rfl, hx208_0, hx208_1⟩ (fun hHeld => ?_); refine with_tabW impl_tied.tab6 impl_tied.bits6 (fun HT_ HW_ => ?_)
                   generalize w32.drew = w33 at HO_3 BK207 HB hx208_0 hx208_1 hHeld ⊢
                   refine pure_ (i := 0) (N := some 15) (v := ?_) (a' := ?_) (bq [1, 24]) rfl rfl (any_of HT_.out (by kernel_rfl)) (fun _ _ _ h => h) (Or.inl ⟨by rfl, ?_⟩) ?_ ?_
                   rotate_left
                   · intro w'
                     go_simp
                     with_reducible rfl
                   rotate_left
                   · simp only [Act.put, sx0, sx1, sx2, i64_w, i32_w]
                     rfl
                   refine pure_ (i := 1) (N := some 16) (v := ?_) (a' := ?_) (bq [2, 23]) rfl rfl (any_of HT_.out (by kernel_rfl)) (fun _ _ _ h => h) (Or.inl ⟨by rfl, ?_⟩) ?_ ?_
                   rotate_left
                   · intro w'
                     go_simp
                     with_reducible rfl
                   rotate_left
                   · simp only [Act.put, sx0, sx1, sx2, i64_w, i32_w]
                     rfl
                   refine pure_ (i := 2) (N := some 17) (v := ?_) (a' := ?_) (bq [3, 22]) rfl rfl (any_of HT_.out (by kernel_rfl)) (fun _ _ _ h => h) (Or.inl ⟨by rfl, ?_⟩) ?_ ?_
                   rotate_left
                   · intro w'
                     go_simp
                     with_reducible rfl
                   rotate_left
                   · simp only [Act.put, sx0, sx1, sx2, i64_w, i32_w]
                     rfl
                   refine pure_ (i := 3) (N := some 18) (v := ?_) (a' := ?_) (bq [4, 21]) rfl rfl (any_of HT_.out (by kernel_rfl)) (fun _ _ _ h => h) (Or.inl ⟨by rfl, ?_⟩) ?_ ?_
                   rotate_left
                   · intro w'
                     go_simp
                     with_reducible rfl
                   rotate_left
                   · simp only [Act.put, sx0, sx1, sx2, i64_w, i32_w]
                     rfl
                   refine pure_ (i := 4) (N := some 19) (v := ?_) (a' := ?_) (bq [5, 20]) rfl rfl (any_of HT_.out (by kernel_rfl)) (fun _ _ _ h => h) (Or.inl ⟨by rfl, ?_⟩) ?_ ?_
                   rotate_left
                   · intro w'
                     go_simp
                     with_reducible rfl
                   rotate_left
                   · simp only [Act.put, sx0, sx1, sx2, i64_w, i32_w]
                     rfl
                   refine pure_ (i := 5) (N := some 20) (v := ?_) (a' := ?_) (bq [6, 19]) rfl rfl (any_of HT_.out (by kernel_rfl)) (fun _ _ _ h => h) (Or.inl ⟨by rfl, ?_⟩) ?_ ?_
                   rotate_left
                   · intro w'
                     go_simp
                     with_reducible rfl
                   rotate_left
                   · simp only [Act.put, sx0, sx1, sx2, i64_w, i32_w]
                     rfl
                   refine pure_ (i := 6) (N := some 21) (v := ?_) (a' := ?_) (bq [7, 18]) rfl rfl (any_of HT_.out (by kernel_rfl)) (fun _ _ _ h => h) (Or.inl ⟨by rfl, ?_⟩) ?_ ?_
                   rotate_left
                   · intro w'
                     go_simp
                     with_reducible rfl
                   rotate_left
                   · simp only [Act.put, sx0, sx1, sx2, i64_w, i32_w]
                     rfl
                   refine pure_ (i := 7) (N := some 22) (v := ?_) (a' := ?_) (bq [8, 17]) rfl rfl (any_of HT_.out (by kernel_rfl)) (fun _ _ _ h => h) (Or.inl ⟨by rfl, ?_⟩) ?_ ?_
                   rotate_left
                   · intro w'
                     go_simp
                     with_reducible rfl
                   rotate_left
                   · simp only [Act.put, sx0, sx1, sx2, i64_w, i32_w]
                     rfl
                   refine pure_ (i := 9) (N := some 24) (v := ?_) (a' := ?_) (bq [8, 1, 1, 15]) rfl rfl (any_of HT_.out (by kernel_rfl)) (fun _ _ _ h => h) (Or.inl ⟨by rfl, ?_⟩) ?_ ?_
                   rotate_left
                   · intro w'
                     go_simp
                     with_reducible rfl
                   rotate_left
                   · simp only [Act.put, sx0, sx1, sx2, i64_w, i32_w]
                     rfl
                   refine take_ (i := 8) (N := some 23) (v := ?_) (a' := ?_) (bq [10, 15]) rfl rfl (take_ofW HT_.out HW_.out (by kernel_rfl)) (fun _ _ _ h => h) (Or.inl ⟨by rfl, ?_⟩) hHeld ?_ ?_
                   rotate_left
                   · rintro w' ⟨s0, s1, s2, s3⟩
                     go_simp
                     with_reducible rfl
                   rotate_left
                   · simp only [Act.put, sx0, sx1, sx2, i64_w, i32_w]
                     rfl
                   refine take_ (i := 10) (N := some 25) (v := ?_) (a' := ?_) (bq [11, 14]) rfl rfl (take_ofW HT_.out HW_.out (by kernel_rfl)) (fun _ _ _ h => h) (Or.inl ⟨by rfl, ?_⟩) hHeld ?_ ?_
                   rotate_left
                   · rintro w' ⟨s0, s1, s2, s3⟩
                     go_simp
                     with_reducible rfl
                   rotate_left
                   · simp only [Act.put, sx0, sx1, sx2, i64_w, i32_w]
                     rfl
                   refine pure_ (i := 11) (N := some 26) (v := ?_) (a' := ?_) (bq [12, 13]) rfl rfl (any_of HT_.out (by kernel_rfl)) (fun _ _ _ h => h) (Or.inl ⟨by rfl, ?_⟩) ?_ ?_
                   rotate_left
                   · intro w'
                     go_simp
                     with_reducible rfl
                   rotate_left
                   · simp only [Act.put, sx0, sx1, sx2, i64_w, i32_w]
                     rfl
                   refine pure_ (i := 12) (N := some 27) (v := ?_) (a' := ?_) (bq [13, 12]) rfl rfl (any_of HT_.out (by kernel_rfl)) (fun _ _ _ h => h) (Or.inl ⟨by rfl, ?_⟩) ?_ ?_
                   rotate_left
                   · intro w'
                     go_simp
                     with_reducible rfl
                   rotate_left
                   · simp only [Act.put, sx0, sx1, sx2, i64_w, i32_w]
                     rfl
                   refine pure_ (i := 13) (N := some 28) (v := ?_) (a' := ?_) (bq [14, 11]) rfl rfl (any_of HT_.out (by kernel_rfl)) (fun _ _ _ h => h) (Or.inl ⟨by rfl, ?_⟩) ?_ ?_
                   rotate_left
                   · intro w'
                     go_simp
                     with_reducible rfl
                   rotate_left
                   · simp only [Act.put, sx0, sx1, sx2, i64_w, i32_w]
                     rfl
                   refine pure_ (i := 14) (N := some 29) (v := undef) (a' := ?_) (bq [15, 10]) rfl rfl (any_of HT_.out (by kernel_rfl)) (fun _ _ _ h => h) (Or.inr ⟨by rfl, rfl⟩) ?_ ?_
                   rotate_left
                   · simp only [Act.put, sx0, sx1, sx2, i64_w, i32_w]
                     rfl
                   refine pure_ (i := 15) (N := some 30) (v := undef) (a' := ?_) (bq [16, 9]) rfl rfl (any_of HT_.out (by kernel_rfl)) (fun _ _ _ h => h) (Or.inr ⟨by rfl, rfl⟩) ?_ ?_
                   rotate_left
                   · simp only [Act.put, sx0, sx1, sx2, i64_w, i32_w]
                     rfl
                   refine pure_ (i := 16) (N := some 31) (v := undef) (a' := ?_) (bq [17, 8]) rfl rfl (any_of HT_.out (by kernel_rfl)) (fun _ _ _ h => h) (Or.inr ⟨by rfl, rfl⟩) ?_ ?_
                   rotate_left
                   · simp only [Act.put, sx0, sx1, sx2, i64_w, i32_w]
                     rfl
                   refine pure_ (i := 17) (N := some 32) (v := undef) (a' := ?_) (bq [18, 7]) rfl rfl (any_of HT_.out (by kernel_rfl)) (fun _ _ _ h => h) (Or.inr ⟨by rfl, rfl⟩) ?_ ?_
                   rotate_left
                   · simp only [Act.put, sx0, sx1, sx2, i64_w, i32_w]
                     rfl
                   refine pure_ (i := 18) (N := some 33) (v := undef) (a' := ?_) (bq [19, 6]) rfl rfl (any_of HT_.out (by kernel_rfl)) (fun _ _ _ h => h) (Or.inr ⟨by rfl, rfl⟩) ?_ ?_
                   rotate_left
                   · simp only [Act.put, sx0, sx1, sx2, i64_w, i32_w]
                     rfl
                   refine pure_ (i := 19) (N := some 34) (v := undef) (a' := ?_) (bq [20, 5]) rfl rfl (any_of HT_.out (by kernel_rfl)) (fun _ _ _ h => h) (Or.inr ⟨by rfl, rfl⟩) ?_ ?_
                   rotate_left
                   · simp only [Act.put, sx0, sx1, sx2, i64_w, i32_w]
                     rfl
                   refine pure_ (i := 20) (N := some 35) (v := undef) (a' := ?_) (bq [21, 4]) rfl rfl (any_of HT_.out (by kernel_rfl)) (fun _ _ _ h => h) (Or.inr ⟨by rfl, rfl⟩) ?_ ?_
                   rotate_left
                   · simp only [Act.put, sx0, sx1, sx2, i64_w, i32_w]
                     rfl
                   refine pure_ (i := 21) (N := some 36) (v := undef) (a' := ?_) (bq [22, 3]) rfl rfl (any_of HT_.out (by kernel_rfl)) (fun _ _ _ h => h) (Or.inr ⟨by rfl, rfl⟩) ?_ ?_
                   rotate_left
                   · simp only [Act.put, sx0, sx1, sx2, i64_w, i32_w]
                     rfl
                   refine pure_ (i := 22) (N := some 37) (v := undef) (a' := ?_) (bq [23, 2]) rfl rfl (any_of HT_.out (by kernel_rfl)) (fun _ _ _ h => h) (Or.inr ⟨by rfl, rfl⟩) ?_ ?_
                   rotate_left
                   · simp only [Act.put, sx0, sx1, sx2, i64_w, i32_w]
                     rfl
                   refine pure_ (i := 23) (N := some 38) (v := undef) (a' := ?_) (bq [24, 1]) rfl rfl (any_of HT_.out (by kernel_rfl)) (fun _ _ _ h => h) (Or.inr ⟨by rfl, rfl⟩) ?_ ?_
                   rotate_left
                   · simp only [Act.put, sx0, sx1, sx2, i64_w, i32_w]
                     rfl
                   refine pure_ (i := 24) (N := some 39) (v := ?_) (a' := ?_) (bq [25]) rfl rfl (any_of HT_.out (by kernel_rfl)) (fun _ _ _ h => h) (Or.inl ⟨by rfl, ?_⟩) ?_ ?_
                   rotate_left
                   · intro w'
                     go_simp
                     with_reducible rfl
                   rotate_left
                   · simp only [Act.put, sx0, sx1, sx2, i64_w, i32_w]
                     rfl
                   refine done_ (done_of HT_.out (by kernel_rfl)) ?_
                   have hcz34_0 : w33.cell? ⟨gb207, 0, none⟩ = some (.int .i64 ((rd_T40 l0 x9_1).f0)) := (blk_cell BK207.out 0).trans rfl
                   have hcz34_1 : w33.cell? ⟨gb207, 1, none⟩ = some (.int .i64 ((rd_T40 l0 x9_1).f1)) := (blk_cell BK207.out 1).trans rfl
                   have hfz34_0 := blk_frozen BK207.out 0
                   have hfz34_1 := blk_frozen BK207.out 1
                   try go_wp2_with (first | ((with_reducible refine gate_builtin (b := .append) (xs := #[.tmp 51, .tmp 53]) rfl ?_); at_builtin; refine Kd.R_append k40 (w0 := w) w.heap.size rfl (.tmp 51) (.tmp 53) 31 40 (.agg #[(.int .i64 0), (.int .i64 0)]) 16 rfl Try.underlying31 info40 rfl (by decide) (by omega) (.slice (some ad208) x3_1.length co31) x3_1 (⟨(rd_T40 l0 x9_1).f0, (rd_T40 l0 x9_1).f1⟩ : S40) [.int .i64 ((rd_T40 l0 x9_1).f0), .int .i64 ((rd_T40 l0 x9_1).f1)] (fun k_ => k_ ≠ gb207) (fun _ => False) rfl rfl ?aP (fun _ hk => hk.elim) ?aF ?aO ?aB ?aS ?aL ?_; (case aP => exact k40_mkM _ _ _ (⟨(rd_T40 l0 x9_1).f0, (rd_T40 l0 x9_1).f1⟩ : S40)); (case aB => exact (by repeat (first | (with_reducible first | exact HB.out | apply below_alloc | apply pw_below_drewN | apply below_drew1 | refine below_set ?_ GE207.out) | exact HB.out))); (case aF => exact (fun k_ hk => Kd.freshB (g := gb207) (o := .cells #[.int .i64 ((rd_T40 l0 x9_1).f0), .int .i64 ((rd_T40 l0 x9_1).f1)] 40 (0, 0)) (by (with_reducible repeat (first | refine blk_drewN ?_ _ | refine blk_drew ?_ | refine blk_alloc ?_ _)); exact BK207.out) k_ hk)); (case aO => exact (by (with_reducible repeat (first | apply Kd.R_alloc | apply Kd.R_drewN | apply Kd.R_drew)); exact HO_3.out)); (case aS => exact (below_size (by repeat (first | (with_reducible first | exact HB.out | apply below_alloc | apply pw_below_drewN | apply below_drew1 | refine below_set ?_ GE207.out) | exact HB.out)))); (case aL => have := LMc28.out; omega); intro v217 w35 ho hb hg hat; rw [← Ny216.out] at ho; have n0_ := Aside0.mk (blk_grown (g := gb207) (o := .cells #[.int .i64 ((rd_T40 l0 x9_1).f0), .int .i64 ((rd_T40 l0 x9_1).f1)] 40 (0, 0)) (by (with_reducible repeat (first | refine blk_drewN ?_ _ | refine blk_drew ?_ | refine blk_alloc ?_ _)); exact BK207.out) hg (Kd.R_away HO_3.out (fun _ hk => hk))); have n1_ := Aside0.mk (hb); have n2_ := Aside0.mk (ho); clear BK207; clear HB; clear HO_3; have BK207 := n0_; have HB := n1_; have HO218 := n2_; clear n0_ n1_ n2_; clear ho hb hg hat))
                   go_roundg k1
                   case measure => have := HK1.out; omega
                   case rel => exact ⟨(y216), (wrap64 (x9_1 + 1)), (by first | rfl | (simp; done) | (simp [*]; done)), H', ⟨by have := HK1.out; omega⟩, ⟨by (with_reducible repeat (first | apply Kd.R_alloc | apply Kd.R_drewN | apply Kd.R_drew)); exact Kd.R_mono HO218.out (fun _ hk => trivial)⟩, ⟨by repeat (first | (with_reducible first | exact HB.out | apply below_alloc | apply pw_below_drewN | apply below_drew1 | refine below_set ?_ GE207.out) | exact HB.out)⟩⟩
                 · rw [if_neg c28] at H
                   exact absurd H (by simp)
             · rw [if_neg c8] at H
               exact absurd H (by simp)
           · rw [if_neg c7] at H
             exact absurd H (by simp)
         · rw [if_neg c5] at H
           have c5b0 : decide (0 < (x3_1.length : Int)) = false := decide_eq_false c5
           have c5b1 : decide (0 < x3_1.length) = false := decide_eq_false (by omega)
           clear c5
           by_cases c36 : x3_1.length < 8796093022208
           · rw [if_pos c36] at H
             have LMc36 := Aside0.mk c36
             clear c36
             obtain ⟨y219, hy219⟩ : ∃ y_ : List (S40), y_ = (x3_1 ++ [(⟨(rd_T40 l0 x9_1).f0, (rd_T40 l0 x9_1).f1⟩ : S40)]) := ⟨_, rfl⟩
             replace H : (impl_tied.l0 k1 y219 l0 (l0.length : Int) (wrap64 (x9_1 + 1))) = some r := by first | (rw [hy219]; with_reducible exact H) | (have H2_ := (Option.bind_some _ _).symm.trans H; rw [hy219]; with_reducible exact H2_) | (have H2_ := (Option.bind_some _ _).symm.trans H; with_reducible exact H2_) | with_reducible exact H | (rw [hy219]; exact H) | exact H
             have Ny219 := Aside0.mk hy219
             clear hy219
             have H' := Aside0.mk H
             clear H
             have p206 : 0 ≤ (x9_1 : Int) := of_decide_eq_true (by first | (with_reducible assumption) | assumption)
             have q206 : x9_1 < (l0.length : Int) := of_decide_eq_true (by first | (with_reducible assumption) | assumption)
             obtain ⟨ad206, e206, hx206_0, hx206_1⟩ := at_T40 HR0.out x9_1 p206 q206
             cases e206
             replace hx206_0 := (HB.out.cell (World.block_lt_of_cell? w _ hx206_0)).trans hx206_0
             replace hx206_1 := (HB.out.cell (World.block_lt_of_cell? w _ hx206_1)).trans hx206_1
             replace p206 := eq_true p206
             replace q206 := eq_true q206
             try go_wp2_with (first | ((with_reducible refine gate_dst (N := 5) rfl ?_); refine box_event ?hg (N := 5) ?hd (cs := #[.int .i64 0, .int .i64 0]) (t := 40) ?hr ?_; (case hd => rfl); (case hg => rfl); (case hr => first | (go_simp; done) | (go_simp; rfl)); intro gb207 hg w37 hbox hb; have n0_ := Aside0.mk (Kd.R_below (Kd.R_elderB (by (with_reducible repeat (first | apply Kd.R_alloc | apply Kd.R_drewN | apply Kd.R_drew)); exact HO_3.out) gb207 (Nat.le_of_eq hg.symm)) hb); have n1_ := Aside0.mk (below_step (by repeat (first | (with_reducible first | exact HB.out | apply below_alloc | apply pw_below_drewN | apply below_drew1) | exact HB.out)) hb); have n2_ := Aside0.mk (hbox); have n3_ := Aside0.mk ((by rw [hg]; exact (below_size (by repeat (first | (with_reducible first | exact HB.out | apply below_alloc | apply pw_below_drewN | apply below_drew1) | exact HB.out))) : w.heap.size ≤ gb207)); have n4_ := Aside0.mk ((by rw [hg]; exact (below_size (by repeat (first | (with_reducible first | exact HB.out | apply below_alloc | apply pw_below_drewN | apply below_drew1) | exact HB.out))) : w.heap.size ≤ gb207)); clear HO_3; clear HB; have HO_3 := n0_; have HB := n1_; have BK207 := n2_; have GW207 := n3_; have GE207 := n4_; clear n0_ n1_ n2_ n3_ n4_; clear hb hbox hg; have hcz38_0 : w37.cell? ⟨gb207, 0, none⟩ = some (.int .i64 0) := (blk_cell BK207.out 0).trans rfl; have hcz38_1 : w37.cell? ⟨gb207, 1, none⟩ = some (.int .i64 0) := (blk_cell BK207.out 1).trans rfl; have hfz38_0 := blk_frozen BK207.out 0; have hfz38_1 := blk_frozen BK207.out 1; obtain ⟨Ao39, co39, eo39⟩ := Kd.R_slice HO_3.out; subst eo39))
             have n0_ : Aside0 (Kd.R k40 40 ((w37.setCell ⟨gb207, 0, none⟩ (.int .i64 ((rd_T40 l0 x9_1).f0))).setCell ⟨gb207, 1, none⟩ (.int .i64 ((rd_T40 l0 x9_1).f1))) w.heap.size (fun k_ => k_ ≠ gb207) (.slice Ao39 x3_1.length co39) x3_1) := ⟨by (with_reducible repeat (first | apply Kd.R_alloc | apply Kd.R_drewN | apply Kd.R_drew)); exact Kd.R_mono (Kd.R_far (p := ⟨gb207, 1, none⟩) (Kd.R_far (p := ⟨gb207, 0, none⟩) (Kd.R_mono HO_3.out (fun k_ hk => (⟨hk, hk.2⟩ : _ ∧ k_ ≠ gb207))) (fun _ hk => hk.2) (.int .i64 ((rd_T40 l0 x9_1).f0))) (fun _ hk => hk.2) (.int .i64 ((rd_T40 l0 x9_1).f1))) (fun _ hk => hk.1.2)⟩
             have n1_ : Aside0 (((w37.setCell ⟨gb207, 0, none⟩ (.int .i64 ((rd_T40 l0 x9_1).f0))).setCell ⟨gb207, 1, none⟩ (.int .i64 ((rd_T40 l0 x9_1).f1))).heap[gb207]? = some (.cells #[.int .i64 ((rd_T40 l0 x9_1).f0), .int .i64 ((rd_T40 l0 x9_1).f1)] 40 (0, 0))) := ⟨by (with_reducible repeat (first | refine blk_drewN ?_ _ | refine blk_drew ?_ | refine blk_alloc ?_ _)); refine blk_put (cs := #[.int .i64 ((rd_T40 l0 x9_1).f0), .int .i64 0]) ?_ 1 _ rfl; (with_reducible repeat (first | refine blk_drewN ?_ _ | refine blk_drew ?_ | refine blk_alloc ?_ _)); refine blk_put (cs := #[.int .i64 0, .int .i64 0]) ?_ 0 _ rfl; (with_reducible repeat (first | refine blk_drewN ?_ _ | refine blk_drew ?_ | refine blk_alloc ?_ _)); exact BK207.out⟩
             have n2_ : Aside0 (Below w.heap.size w ((w37.setCell ⟨gb207, 0, none⟩ (.int .i64 ((rd_T40 l0 x9_1).f0))).setCell ⟨gb207, 1, none⟩ (.int .i64 ((rd_T40 l0 x9_1).f1)))) := ⟨by repeat (first | (with_reducible first | exact HB.out | apply below_alloc | apply pw_below_drewN | apply below_drew1 | refine below_set ?_ GE207.out) | exact HB.out)⟩
             (try clear HO_3)
             (try clear BK207)
             (try clear HB)
             generalize ((w37.setCell ⟨gb207, 0, none⟩ (.int .i64 ((rd_T40 l0 x9_1).f0))).setCell ⟨gb207, 1, none⟩ (.int .i64 ((rd_T40 l0 x9_1).f1))) = w40 at n0_ n1_ n2_ ⊢
             have HO_3 := n0_
             have BK207 := n1_
             have HB := n2_
             clear n0_ n1_ n2_
             have n0_ := Aside0.mk (Kd.R_drew HO_3.out)
             have n1_ := Aside0.mk (blk_drew BK207.out)
             have n2_ := Aside0.mk (below_drew1 HB.out)
             clear HO_3
             clear BK207
             clear HB
             have HO_3 := n0_
             have BK207 := n1_
             have HB := n2_
             clear n0_ n1_ n2_
             refine start_ (n := 25) (S := fun w' => True) (ds := []) (bq [0, 25]) (by kernel_rfl) rfl rfl trivial (fun hHeld => ?_); refine with_tabW impl_tied.tab6 impl_tied.bits6 (fun HT_ HW_ => ?_)
             generalize w40.drew = w41 at HO_3 BK207 HB hHeld ⊢
             refine pure_ (i := 0) (N := some 15) (v := ?_) (a' := ?_) (bq [1, 24]) rfl rfl (any_of HT_.out (by kernel_rfl)) (fun _ _ _ h => h) (Or.inl ⟨by rfl, ?_⟩) ?_ ?_
             rotate_left
             · intro w'
               go_simp
               with_reducible rfl
             rotate_left
             · simp only [Act.put, sx0, sx1, sx2, i64_w, i32_w]
               rfl
             refine pure_ (i := 1) (N := some 16) (v := ?_) (a' := ?_) (bq [2, 23]) rfl rfl (any_of HT_.out (by kernel_rfl)) (fun _ _ _ h => h) (Or.inl ⟨by rfl, ?_⟩) ?_ ?_
             rotate_left
             · intro w'
               go_simp
               with_reducible rfl
             rotate_left
             · simp only [Act.put, sx0, sx1, sx2, i64_w, i32_w]
               rfl
             refine pure_ (i := 2) (N := some 17) (v := ?_) (a' := ?_) (bq [3, 22]) rfl rfl (any_of HT_.out (by kernel_rfl)) (fun _ _ _ h => h) (Or.inl ⟨by rfl, ?_⟩) ?_ ?_
             rotate_left
             · intro w'
               go_simp
               with_reducible rfl
             rotate_left
             · simp only [Act.put, sx0, sx1, sx2, i64_w, i32_w]
               rfl
             refine pure_ (i := 3) (N := some 18) (v := undef) (a' := ?_) (bq [4, 21]) rfl rfl (any_of HT_.out (by kernel_rfl)) (fun _ _ _ h => h) (Or.inr ⟨by rfl, rfl⟩) ?_ ?_
             rotate_left
             · simp only [Act.put, sx0, sx1, sx2, i64_w, i32_w]
               rfl
             refine pure_ (i := 4) (N := some 19) (v := undef) (a' := ?_) (bq [5, 20]) rfl rfl (any_of HT_.out (by kernel_rfl)) (fun _ _ _ h => h) (Or.inr ⟨by rfl, rfl⟩) ?_ ?_
             rotate_left
             · simp only [Act.put, sx0, sx1, sx2, i64_w, i32_w]
               rfl
             refine pure_ (i := 5) (N := some 20) (v := undef) (a' := ?_) (bq [6, 19]) rfl rfl (any_of HT_.out (by kernel_rfl)) (fun _ _ _ h => h) (Or.inr ⟨by rfl, rfl⟩) ?_ ?_
             rotate_left
             · simp only [Act.put, sx0, sx1, sx2, i64_w, i32_w]
               rfl
             refine pure_ (i := 6) (N := some 21) (v := undef) (a' := ?_) (bq [7, 18]) rfl rfl (any_of HT_.out (by kernel_rfl)) (fun _ _ _ h => h) (Or.inr ⟨by rfl, rfl⟩) ?_ ?_
             rotate_left
             · simp only [Act.put, sx0, sx1, sx2, i64_w, i32_w]
               rfl
             refine pure_ (i := 7) (N := some 22) (v := undef) (a' := ?_) (bq [8, 17]) rfl rfl (any_of HT_.out (by kernel_rfl)) (fun _ _ _ h => h) (Or.inr ⟨by rfl, rfl⟩) ?_ ?_
             rotate_left
             · simp only [Act.put, sx0, sx1, sx2, i64_w, i32_w]
               rfl
             refine pure_ (i := 8) (N := some 23) (v := undef) (a' := ?_) (bq [9, 16]) rfl rfl (any_of HT_.out (by kernel_rfl)) (fun _ _ _ h => h) (Or.inr ⟨by rfl, rfl⟩) ?_ ?_
             rotate_left
             · simp only [Act.put, sx0, sx1, sx2, i64_w, i32_w]
               rfl
             refine pure_ (i := 9) (N := some 24) (v := undef) (a' := ?_) (bq [10, 15]) rfl rfl (any_of HT_.out (by kernel_rfl)) (fun _ _ _ h => h) (Or.inr ⟨by rfl, rfl⟩) ?_ ?_
             rotate_left
             · simp only [Act.put, sx0, sx1, sx2, i64_w, i32_w]
               rfl
             refine pure_ (i := 10) (N := some 25) (v := undef) (a' := ?_) (bq [11, 14]) rfl rfl (any_of HT_.out (by kernel_rfl)) (fun _ _ _ h => h) (Or.inr ⟨by rfl, rfl⟩) ?_ ?_
             rotate_left
             · simp only [Act.put, sx0, sx1, sx2, i64_w, i32_w]
               rfl
             refine pure_ (i := 11) (N := some 26) (v := undef) (a' := ?_) (bq [12, 13]) rfl rfl (any_of HT_.out (by kernel_rfl)) (fun _ _ _ h => h) (Or.inr ⟨by rfl, rfl⟩) ?_ ?_
             rotate_left
             · simp only [Act.put, sx0, sx1, sx2, i64_w, i32_w]
               rfl
             refine pure_ (i := 12) (N := some 27) (v := ?_) (a' := ?_) (bq [13, 12]) rfl rfl (any_of HT_.out (by kernel_rfl)) (fun _ _ _ h => h) (Or.inl ⟨by rfl, ?_⟩) ?_ ?_
             rotate_left
             · intro w'
               go_simp
               with_reducible rfl
             rotate_left
             · simp only [Act.put, sx0, sx1, sx2, i64_w, i32_w]
               rfl
             refine pure_ (i := 13) (N := some 28) (v := ?_) (a' := ?_) (bq [14, 11]) rfl rfl (any_of HT_.out (by kernel_rfl)) (fun _ _ _ h => h) (Or.inl ⟨by rfl, ?_⟩) ?_ ?_
             rotate_left
             · intro w'
               go_simp
               with_reducible rfl
             rotate_left
             · simp only [Act.put, sx0, sx1, sx2, i64_w, i32_w]
               rfl
             refine pure_ (i := 14) (N := some 29) (v := undef) (a' := ?_) (bq [15, 10]) rfl rfl (any_of HT_.out (by kernel_rfl)) (fun _ _ _ h => h) (Or.inr ⟨by rfl, rfl⟩) ?_ ?_
             rotate_left
             · simp only [Act.put, sx0, sx1, sx2, i64_w, i32_w]
               rfl
             refine pure_ (i := 15) (N := some 30) (v := undef) (a' := ?_) (bq [16, 9]) rfl rfl (any_of HT_.out (by kernel_rfl)) (fun _ _ _ h => h) (Or.inr ⟨by rfl, rfl⟩) ?_ ?_
             rotate_left
             · simp only [Act.put, sx0, sx1, sx2, i64_w, i32_w]
               rfl
             refine pure_ (i := 16) (N := some 31) (v := undef) (a' := ?_) (bq [17, 8]) rfl rfl (any_of HT_.out (by kernel_rfl)) (fun _ _ _ h => h) (Or.inr ⟨by rfl, rfl⟩) ?_ ?_
             rotate_left
             · simp only [Act.put, sx0, sx1, sx2, i64_w, i32_w]
               rfl
             refine pure_ (i := 17) (N := some 32) (v := undef) (a' := ?_) (bq [18, 7]) rfl rfl (any_of HT_.out (by kernel_rfl)) (fun _ _ _ h => h) (Or.inr ⟨by rfl, rfl⟩) ?_ ?_
             rotate_left
             · simp only [Act.put, sx0, sx1, sx2, i64_w, i32_w]
               rfl
             refine pure_ (i := 18) (N := some 33) (v := undef) (a' := ?_) (bq [19, 6]) rfl rfl (any_of HT_.out (by kernel_rfl)) (fun _ _ _ h => h) (Or.inr ⟨by rfl, rfl⟩) ?_ ?_
             rotate_left
             · simp only [Act.put, sx0, sx1, sx2, i64_w, i32_w]
               rfl
             refine pure_ (i := 19) (N := some 34) (v := undef) (a' := ?_) (bq [20, 5]) rfl rfl (any_of HT_.out (by kernel_rfl)) (fun _ _ _ h => h) (Or.inr ⟨by rfl, rfl⟩) ?_ ?_
             rotate_left
             · simp only [Act.put, sx0, sx1, sx2, i64_w, i32_w]
               rfl
             refine pure_ (i := 20) (N := some 35) (v := undef) (a' := ?_) (bq [21, 4]) rfl rfl (any_of HT_.out (by kernel_rfl)) (fun _ _ _ h => h) (Or.inr ⟨by rfl, rfl⟩) ?_ ?_
             rotate_left
             · simp only [Act.put, sx0, sx1, sx2, i64_w, i32_w]
               rfl
             refine pure_ (i := 21) (N := some 36) (v := undef) (a' := ?_) (bq [22, 3]) rfl rfl (any_of HT_.out (by kernel_rfl)) (fun _ _ _ h => h) (Or.inr ⟨by rfl, rfl⟩) ?_ ?_
             rotate_left
             · simp only [Act.put, sx0, sx1, sx2, i64_w, i32_w]
               rfl
             refine pure_ (i := 22) (N := some 37) (v := undef) (a' := ?_) (bq [23, 2]) rfl rfl (any_of HT_.out (by kernel_rfl)) (fun _ _ _ h => h) (Or.inr ⟨by rfl, rfl⟩) ?_ ?_
             rotate_left
             · simp only [Act.put, sx0, sx1, sx2, i64_w, i32_w]
               rfl
             refine pure_ (i := 23) (N := some 38) (v := undef) (a' := ?_) (bq [24, 1]) rfl rfl (any_of HT_.out (by kernel_rfl)) (fun _ _ _ h => h) (Or.inr ⟨by rfl, rfl⟩) ?_ ?_
             rotate_left
             · simp only [Act.put, sx0, sx1, sx2, i64_w, i32_w]
               rfl
             refine pure_ (i := 24) (N := some 39) (v := ?_) (a' := ?_) (bq [25]) rfl rfl (any_of HT_.out (by kernel_rfl)) (fun _ _ _ h => h) (Or.inl ⟨by rfl, ?_⟩) ?_ ?_
             rotate_left
             · intro w'
               go_simp
               with_reducible rfl
             rotate_left
             · simp only [Act.put, sx0, sx1, sx2, i64_w, i32_w]
               rfl
             refine done_ (done_of HT_.out (by kernel_rfl)) ?_
             have hcz42_0 : w41.cell? ⟨gb207, 0, none⟩ = some (.int .i64 ((rd_T40 l0 x9_1).f0)) := (blk_cell BK207.out 0).trans rfl
             have hcz42_1 : w41.cell? ⟨gb207, 1, none⟩ = some (.int .i64 ((rd_T40 l0 x9_1).f1)) := (blk_cell BK207.out 1).trans rfl
             have hfz42_0 := blk_frozen BK207.out 0
             have hfz42_1 := blk_frozen BK207.out 1
             try go_wp2_with (first | ((with_reducible refine gate_builtin (b := .append) (xs := #[.tmp 51, .tmp 53]) rfl ?_); at_builtin; refine Kd.R_append k40 (w0 := w) w.heap.size rfl (.tmp 51) (.tmp 53) 31 40 (.agg #[(.int .i64 0), (.int .i64 0)]) 16 rfl Try.underlying31 info40 rfl (by decide) (by omega) (.slice Ao39 x3_1.length co39) x3_1 (⟨(rd_T40 l0 x9_1).f0, (rd_T40 l0 x9_1).f1⟩ : S40) [.int .i64 ((rd_T40 l0 x9_1).f0), .int .i64 ((rd_T40 l0 x9_1).f1)] (fun k_ => k_ ≠ gb207) (fun _ => False) rfl rfl ?aP (fun _ hk => hk.elim) ?aF ?aO ?aB ?aS ?aL ?_; (case aP => exact k40_mkM _ _ _ (⟨(rd_T40 l0 x9_1).f0, (rd_T40 l0 x9_1).f1⟩ : S40)); (case aB => exact (by repeat (first | (with_reducible first | exact HB.out | apply below_alloc | apply pw_below_drewN | apply below_drew1 | refine below_set ?_ GE207.out) | exact HB.out))); (case aF => exact (fun k_ hk => Kd.freshB (g := gb207) (o := .cells #[.int .i64 ((rd_T40 l0 x9_1).f0), .int .i64 ((rd_T40 l0 x9_1).f1)] 40 (0, 0)) (by (with_reducible repeat (first | refine blk_drewN ?_ _ | refine blk_drew ?_ | refine blk_alloc ?_ _)); exact BK207.out) k_ hk)); (case aO => exact (by (with_reducible repeat (first | apply Kd.R_alloc | apply Kd.R_drewN | apply Kd.R_drew)); exact HO_3.out)); (case aS => exact (below_size (by repeat (first | (with_reducible first | exact HB.out | apply below_alloc | apply pw_below_drewN | apply below_drew1 | refine below_set ?_ GE207.out) | exact HB.out)))); (case aL => have := LMc36.out; omega); intro v220 w43 ho hb hg hat; rw [← Ny219.out] at ho; have n0_ := Aside0.mk (blk_grown (g := gb207) (o := .cells #[.int .i64 ((rd_T40 l0 x9_1).f0), .int .i64 ((rd_T40 l0 x9_1).f1)] 40 (0, 0)) (by (with_reducible repeat (first | refine blk_drewN ?_ _ | refine blk_drew ?_ | refine blk_alloc ?_ _)); exact BK207.out) hg (Kd.R_away HO_3.out (fun _ hk => hk))); have n1_ := Aside0.mk (hb); have n2_ := Aside0.mk (ho); clear BK207; clear HB; clear HO_3; have BK207 := n0_; have HB := n1_; have HO221 := n2_; clear n0_ n1_ n2_; clear ho hb hg hat))
             go_roundg k1
             case measure => have := HK1.out; omega
             case rel => exact ⟨(y219), (wrap64 (x9_1 + 1)), (by first | rfl | (simp; done) | (simp [*]; done)), H', ⟨by have := HK1.out; omega⟩, ⟨by (with_reducible repeat (first | apply Kd.R_alloc | apply Kd.R_drewN | apply Kd.R_drew)); exact Kd.R_mono HO221.out (fun _ hk => trivial)⟩, ⟨by repeat (first | (with_reducible first | exact HB.out | apply below_alloc | apply pw_below_drewN | apply below_drew1 | refine below_set ?_ GE207.out) | exact HB.out)⟩⟩
           · rw [if_neg c36] at H
             exact absurd H (by simp)
       · rw [if_neg c4] at H
         exact absurd H (by simp)
     · rw [if_neg c3] at H
       exact absurd H (by simp)
   · rw [if_neg c2] at H
     have c2b0 : decide (x9_1 < (l0.length : Int)) = false := decide_eq_false c2
     clear c2
     obtain rfl := Option.some.inj H
     go_wp2
     go_ret
     exact ⟨_, by first | rfl | (simp [errW_none, errW_some] <;> rfl) | (simp [*, errW_none, errW_some] <;> rfl), by (with_reducible repeat (first | apply Kd.R_alloc | apply Kd.R_drewN | apply Kd.R_drew)); exact HO_3.out, by repeat (first | (with_reducible first | exact HB.out | apply below_alloc | apply pw_below_drewN | apply below_drew1) | exact HB.out)⟩

end Go.Proofs.Ytomeeimjlagbbaa.PC
