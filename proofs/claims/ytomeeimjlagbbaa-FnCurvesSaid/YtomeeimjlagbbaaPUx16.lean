-- WRITTEN BY wip/gprint.py, a program of this session's over the kit's print, with contracts given by hand
import Derived.Test.YtomeeimjlagbbaaPUx0
import Derived.Test.YtomeeimjlagbbaaPUx11
import Derived.Test.YtomeeimjlagbbaaPUx12
import Derived.Test.YtomeeimjlagbbaaPUx13
namespace Go.Proofs.Ytomeeimjlagbbaa.PU
open Go.RowKit Go.Proofs.YtomeeimjlagbbaaW.PrintWords Go.Proofs.YtomeeimjlagbbaaW.PrintLast Go.Proofs.YtomeeimjlagbbaaW.PrintMore
attribute [local go_sem] max2_int min2_int max_two min_two max_three min_three max_four min_four   -- for this text's walks alone
set_option linter.unusedVariables false
set_option linter.unusedSimpArgs false

attribute [local go_sem] isSome_setCell
/-! ### impl_TrillNote: function 71 -/
mutual
def impl_TrillNote.j0 : Nat → List (S40) → Int → Int → Int → Bool → Int → Int → Option ((List (S40)) × Int)
 | 0, _, _, _, _, _, _, _ => none
 | k + 1, x0, x1, x2, x3, x36, x453000, x453001 => if x36 = true then (some (([] : List (S40)), 6)) else (if x3 = 0 then (none) else (impl_TrillNote.l0 k x0 x1 x2 x3 ([] : List (S40)) (wrap64 (Int.tdiv x453001 x3)) 0 x453000 x453001))
def impl_TrillNote.l0 : Nat → List (S40) → Int → Int → Int → List (S40) → Int → Int → Int → Int → Option ((List (S40)) × Int)
 | 0, _, _, _, _, _, _, _, _, _ => none
 | k + 1, x0, x1, x2, x3, x12, x40, x41, x453000, x453001 => if x41 < x40 then (if 0 ≤ (Int.tmod x41 2) then (if (Int.tmod x41 2) < 2 then (if x12.length < 8796093022208 then (impl_TrillNote.l0 k x0 x1 x2 x3 (x12 ++ [(⟨rd ([x453000, x2] : List Int) (Int.tmod x41 2), x3⟩ : S40)]) x40 (wrap64 (x41 + 1)) x453000 x453001) else (none)) else (none)) else (none)) else (if 0 ≤ x1 then (if x1 ≤ (x0.length : Int) then (if 0 ≤ (wrap64 (x1 + 1)) then (if (wrap64 (x1 + 1)) ≤ (x0.length : Int) then ((impl_Note_99.f k (([(x0.take (x1 : Int).toNat), x12, (x0.drop ((wrap64 (x1 + 1)) : Int).toNat)] : List (List (S40))))).bind fun t469 => ((impl_checkedMelody.f t469).bind fun bt472 => (some (bt472.1, bt472.2)))) else (none)) else (none)) else (none)) else (none))
end
def impl_TrillNote.f (k : Nat) (l0 : List (S40)) (a1 : Int) (a2 : Int) (a3 : Int) : Option ((List (S40)) × Int) := (impl_noteCode.f k l0 a1 a2 a3).bind fun t450 => (if t450 = 0 then (if 0 ≤ a1 then (if a1 < (l0.length : Int) then (if a3 ≥ ((rd_T40 l0 a1).f1) then (impl_TrillNote.j0 k l0 a1 a2 a3 true ((rd_T40 l0 a1).f0) ((rd_T40 l0 a1).f1)) else (if a3 = 0 then (none) else (impl_TrillNote.j0 k l0 a1 a2 a3 ((Int.tmod ((rd_T40 l0 a1).f1) a3) != 0) ((rd_T40 l0 a1).f0) ((rd_T40 l0 a1).f1)))) else (none)) else (none)) else (some (([] : List (S40)), t450)))
theorem impl_TrillNote.mono_l : ∀ k, (∀ y0 y1 y2 y3 y4 y5 y6, LeO (impl_TrillNote.j0 k y0 y1 y2 y3 y4 y5 y6) (impl_TrillNote.j0 (k + 1) y0 y1 y2 y3 y4 y5 y6)) ∧ (∀ y0 y1 y2 y3 y4 y5 y6 y7 y8, LeO (impl_TrillNote.l0 k y0 y1 y2 y3 y4 y5 y6 y7 y8) (impl_TrillNote.l0 (k + 1) y0 y1 y2 y3 y4 y5 y6 y7 y8))
 | 0 => ⟨fun _ _ _ _ _ _ _ r h => by simp [impl_TrillNote.j0] at h, fun _ _ _ _ _ _ _ _ _ r h => by simp [impl_TrillNote.l0] at h⟩
 | k + 1 => by
  obtain ⟨ih0, ih1⟩ := impl_TrillNote.mono_l k
  refine ⟨?_, ?_⟩
  · intro y0 y1 y2 y3 y4 y5 y6
    unfold impl_TrillNote.j0
    repeat' first
    | (with_reducible exact ih0 _ _ _ _ _ _ _)
    | (with_reducible exact ih1 _ _ _ _ _ _ _ _ _)
    | (with_reducible exact impl_Note_99.mono _ _)
    | (with_reducible exact impl_noteCode.mono _ _ _ _ _)
    | (with_reducible exact LeO.refl _)
    | (with_reducible exact LeO.none _)
    | (with_reducible refine LeO.ite ?_ ?_)
    | (with_reducible refine LeO.bind ?_ (fun _ => ?_))
    | exact ih0 _ _ _ _ _ _ _
    | exact ih1 _ _ _ _ _ _ _ _ _
    | exact impl_Note_99.mono _ _
    | exact impl_noteCode.mono _ _ _ _ _
    | exact LeO.none _
    | refine LeO.ite ?_ ?_
    | refine LeO.bind ?_ (fun _ => ?_)
  · intro y0 y1 y2 y3 y4 y5 y6 y7 y8
    unfold impl_TrillNote.l0
    repeat' first
    | (with_reducible exact ih0 _ _ _ _ _ _ _)
    | (with_reducible exact ih1 _ _ _ _ _ _ _ _ _)
    | (with_reducible exact impl_Note_99.mono _ _)
    | (with_reducible exact impl_noteCode.mono _ _ _ _ _)
    | (with_reducible exact LeO.refl _)
    | (with_reducible exact LeO.none _)
    | (with_reducible refine LeO.ite ?_ ?_)
    | (with_reducible refine LeO.bind ?_ (fun _ => ?_))
    | exact ih0 _ _ _ _ _ _ _
    | exact ih1 _ _ _ _ _ _ _ _ _
    | exact impl_Note_99.mono _ _
    | exact impl_noteCode.mono _ _ _ _ _
    | exact LeO.none _
    | refine LeO.ite ?_ ?_
    | refine LeO.bind ?_ (fun _ => ?_)
theorem impl_TrillNote.mono : ∀ a0 a1 a2 a3 k, LeO (impl_TrillNote.f k a0 a1 a2 a3) (impl_TrillNote.f (k + 1) a0 a1 a2 a3) := by
 intro a0 a1 a2 a3 k
 obtain ⟨ih0, ih1⟩ := impl_TrillNote.mono_l k
 unfold impl_TrillNote.f
 repeat' first
  | (with_reducible exact ih0 _ _ _ _ _ _ _)
  | (with_reducible exact ih1 _ _ _ _ _ _ _ _ _)
  | (with_reducible exact impl_Note_99.mono _ _)
  | (with_reducible exact impl_noteCode.mono _ _ _ _ _)
  | (with_reducible exact LeO.refl _)
  | (with_reducible exact LeO.none _)
  | (with_reducible refine LeO.ite ?_ ?_)
  | (with_reducible refine LeO.bind ?_ (fun _ => ?_))
  | exact ih0 _ _ _ _ _ _ _
  | exact ih1 _ _ _ _ _ _ _ _ _
  | exact impl_Note_99.mono _ _
  | exact impl_noteCode.mono _ _ _ _ _
  | exact LeO.none _
  | refine LeO.ite ?_ ?_
  | refine LeO.bind ?_ (fun _ => ?_)
def impl_TrillNote.T13 : Bool × List (List Nat × List Nat) := (true, [([], []), ([], []), ([0, 1], [0, 1]), ([], []), ([], []), ([], []), ([5], [5]), ([4, 6], [4, 6]), ([2, 3, 7], [2, 3, 7]), ([8], [8]), ([9, 9], [9]), ([10], [10]), ([10], [10]), ([11, 10, 0, 1, 2, 3, 4, 5, 6, 7, 8, 9, 10, 11, 12], [11]), ([12, 13, 0, 1, 2, 3, 4, 5, 6, 7, 8, 9, 10, 11, 12, 13], [12])])
def impl_TrillNote.B13 : List Nat := [0, 0, 3, 0, 0, 0, 32, 112, 255, 511, 1023, 2047, 2047, 8191, 16383]
theorem impl_TrillNote.tab13 : rtab .any (opsOf Try.f71 13) = impl_TrillNote.T13 := by kernel_rfl
theorem impl_TrillNote.bits13 : waitsOk impl_TrillNote.T13.2 impl_TrillNote.B13 = true := by kernel_rfl
set_option maxHeartbeats 8000000 in
set_option maxRecDepth 100000 in
theorem impl_TrillNote.calls (k : Nat) (P0_ : Nat → Prop) (A0 : Option Addr) (c0 : Nat) (l0 : List (S40)) (a1 : Int) (a2 : Int) (a3 : Int) (r1 : List (S40)) (r2 : Int) (w : World) (hs0 : Kd.V k40 40 w w.heap.size (fun k_ => P0_ k_) (.slice A0 l0.length c0) l0) (h : impl_TrillNote.f k l0 a1 a2 a3 = some (r1, r2)) :
 Calls Try.prog 71 #[.slice A0 l0.length c0, .int .i64 a1, .int .i64 a2, .int .i64 a3] w fun e w' => ∃ v0_ : Value, e = .returned (.tuple #[v0_, .int .i64 r2]) ∧ Kd.R k40 40 w' w.heap.size (fun k_ => (w.heap.size ≤ k_)) v0_ r1 ∧ Below w.heap.size w w' := by
 have hu40 := Try.underlying40
 have HO0 := Aside0.mk (show Kd.V k40 40 w w.heap.size (fun k_ => (P0_ k_ ∨ w.heap.size ≤ k_)) (.slice A0 l0.length c0) l0 from Kd.V_mono hs0 (fun k_ hk => .inl hk))
 have HB := Aside0.mk (Below.refl w.heap.size w)
 have H : ((impl_noteCode.f k l0 a1 a2 a3).bind fun t450 => (if t450 = 0 then (if 0 ≤ a1 then (if a1 < (l0.length : Int) then (if a3 ≥ ((rd_T40 l0 a1).f1) then (impl_TrillNote.j0 k l0 a1 a2 a3 true ((rd_T40 l0 a1).f0) ((rd_T40 l0 a1).f1)) else (if a3 = 0 then (none) else (impl_TrillNote.j0 k l0 a1 a2 a3 ((Int.tmod ((rd_T40 l0 a1).f1) a3) != 0) ((rd_T40 l0 a1).f0) ((rd_T40 l0 a1).f1)))) else (none)) else (none)) else (some (([] : List (S40)), t450)))) = some (r1, r2) := h
 clear h
 replace H := Option.bind_eq_some_iff.mp H
 obtain ⟨t450, A50, H⟩ := H
 replace H : (if t450 = 0 then (if 0 ≤ a1 then (if a1 < (l0.length : Int) then (if a3 ≥ ((rd_T40 l0 a1).f1) then (impl_TrillNote.j0 k l0 a1 a2 a3 true ((rd_T40 l0 a1).f0) ((rd_T40 l0 a1).f1)) else (if a3 = 0 then (none) else (impl_TrillNote.j0 k l0 a1 a2 a3 ((Int.tmod ((rd_T40 l0 a1).f1) a3) != 0) ((rd_T40 l0 a1).f0) ((rd_T40 l0 a1).f1)))) else (none)) else (none)) else (some (([] : List (S40)), t450))) = some (r1, r2) := H
 have A5 := Aside0.mk A50
 clear A50
 by_cases c6 : t450 = 0
 · rw [if_pos c6] at H
   have c6b0 : (t450 == 0) = true := beq_iff_eq.mpr c6
   have c6b1 : (t450 != 0) = false := bne_eq_false_iff_eq.mpr c6
   clear c6
   by_cases c7 : 0 ≤ a1
   · rw [if_pos c7] at H
     have c7b0 : decide (0 ≤ a1) = true := decide_eq_true c7
     clear c7
     by_cases c8 : a1 < (l0.length : Int)
     · rw [if_pos c8] at H
       have c8b0 : decide (a1 < (l0.length : Int)) = true := decide_eq_true c8
       clear c8
       have HC9 := Aside0.mk H
       clear H
       go_enter Try.func71, Try.ntmps71
       go_upto_region 5 with (first | ((with_reducible refine gate_callee (f := 146) rfl ?_); refine gL_ (some 18) rfl rfl Try.func146 #[.slice A0 l0.length c0, .int .i64 a1, .int .i64 a2, .int .i64 a3] rfl ?_; (with_reducible refine (impl_noteCode.calls k _ _ l0 a1 a2 a3 t450 _ ?side1 ?side2 A5.out).mono ?_); (case side1 => repeat (first | exact (Kd.V_reads' HO0.out).2.2 | (with_reducible refine Kd.C_alloc ?_ _) | (with_reducible refine Kd.C_drewN ?_ _) | (with_reducible refine Kd.C_drew ?_))); (case side2 => exact (Kd.V_reads' HO0.out).2.1); rintro e w10 ⟨rfl, hb⟩; refine ⟨_, rfl, ?_⟩; have n0_ := Aside0.mk (Kd.V_below (by (with_reducible repeat (first | apply Kd.V_alloc | apply Kd.V_drewN | apply Kd.V_drew)); exact HO0.out) hb); have n1_ := Aside0.mk (below_step (by repeat (first | (with_reducible first | exact HB.out | apply qba | apply qbn | apply qb1) | exact HB.out)) hb); clear HO0; clear HB; have HO0 := n0_; have HB := n1_; clear n0_ n1_; (try clear hb); (try clear hb2); (try clear hk); (try clear hi); have p451 : 0 ≤ (a1 : Int) := of_decide_eq_true (by first | (with_reducible assumption) | assumption); have q451 : a1 < (l0.length : Int) := of_decide_eq_true (by first | (with_reducible assumption) | assumption); obtain ⟨ad451, e451, hx451_0, hx451_1⟩ := at_T40 (Kd.V_reads' HO0.out).2.2 a1 p451 q451; cases e451; replace p451 := eq_true p451; replace q451 := eq_true q451) | ((with_reducible refine gate_dst (N := 11) rfl ?_); refine box_event ?hg (N := 11) ?hd (cs := #[.int .i64 0, .int .i64 0]) (t := 40) ?hr ?_; (case hd => rfl); (case hg => rfl); (case hr => first | (go_simp; done) | (go_simp; rfl)); intro gb452 hg w11 hbox hb; have n0_ := Aside0.mk (Kd.V_below (Kd.V_elderB (by (with_reducible repeat (first | apply Kd.V_alloc | apply Kd.V_drewN | apply Kd.V_drew)); exact HO0.out) gb452 (Nat.le_of_eq hg.symm)) hb); have n1_ := Aside0.mk (below_step (by repeat (first | (with_reducible first | exact HB.out | apply qba | apply qbn | apply qb1) | exact HB.out)) hb); have n2_ := Aside0.mk (hbox); have n3_ := Aside0.mk ((by rw [hg]; exact (below_size (by repeat (first | (with_reducible first | exact HB.out | apply qba | apply qbn | apply qb1) | exact HB.out))) : w.heap.size ≤ gb452)); have n4_ := Aside0.mk ((by rw [hg]; exact (below_size (by repeat (first | (with_reducible first | exact HB.out | apply qba | apply qbn | apply qb1) | exact HB.out))) : w.heap.size ≤ gb452)); clear HO0; clear HB; have HO0 := n0_; have HB := n1_; have BK452 := n2_; have GW452 := n3_; have GE452 := n4_; clear n0_ n1_ n2_ n3_ n4_; clear hb hbox hg; have hcz12_0 : w11.cell? ⟨gb452, 0, none⟩ = some (.int .i64 0) := (blk_cell BK452.out 0).trans rfl; have hcz12_1 : w11.cell? ⟨gb452, 1, none⟩ = some (.int .i64 0) := (blk_cell BK452.out 1).trans rfl; have hfz12_0 := blk_frozen BK452.out 0; have hfz12_1 := blk_frozen BK452.out 1))
       (try simp only [Act.put, sx0, sx1, sx2])
       go_cut [36] (fun v36 wc => ∃ (kq : Nat) (x36_8 : Bool), v36 = .bool x36_8 ∧ Aside0 (impl_TrillNote.j0 kq l0 a1 a2 a3 x36_8 ((rd_T40 l0 a1).f0) ((rd_T40 l0 a1).f1) = some (r1, r2)) ∧ Aside0 (kq ≤ k) ∧ Aside0 (Kd.V k40 40 wc w.heap.size (fun k_ => (P0_ k_ ∨ w.heap.size ≤ k_) ∧ k_ ≠ gb452) (.slice (some ad451) l0.length c0) l0) ∧ Aside0 (wc.heap[gb452]? = some (.cells #[.int .i64 ((rd_T40 l0 a1).f0), .int .i64 ((rd_T40 l0 a1).f1)] 40 (0, 0))) ∧ Aside0 (Below w.heap.size w wc))
       case first =>
        have H := HC9.out
        clear HC9
        by_cases c13 : a3 ≥ ((rd_T40 l0 a1).f1)
        · rw [if_pos c13] at H
          have c13b0 : decide (((rd_T40 l0 a1).f1) ≤ a3) = true := decide_eq_true c13
          clear c13
          (first | rw [c13b0] | (simp only [i64_w, i32_w]; rw [c13b0]) | skip)
          have H' := Aside0.mk H
          clear H
          have hcz14_0 : w11.cell? ⟨gb452, 0, none⟩ = some (.int .i64 0) := (blk_cell BK452.out 0).trans rfl
          have hcz14_1 : w11.cell? ⟨gb452, 1, none⟩ = some (.int .i64 0) := (blk_cell BK452.out 1).trans rfl
          have hfz14_0 := blk_frozen BK452.out 0
          have hfz14_1 := blk_frozen BK452.out 1
          go_wp2
          go_meet
          case rel => exact ⟨_, (true), (by first | rfl | (simp; done) | (simp [*]; done)), H', ⟨by first | omega | exact Nat.le_refl _⟩, ⟨by (with_reducible repeat (first | apply Kd.V_alloc | apply Kd.V_drewN | apply Kd.V_drew)); exact Kd.V_mono (Kd.V_far (p := ⟨gb452, 1, none⟩) (Kd.V_far (p := ⟨gb452, 0, none⟩) (Kd.V_mono HO0.out (fun k_ hk => (⟨hk, hk.2⟩ : _ ∧ k_ ≠ gb452))) (fun _ hk => hk.2) (.int .i64 ((rd_T40 l0 a1).f0))) (fun _ hk => hk.2) (.int .i64 ((rd_T40 l0 a1).f1))) (fun _ hk => ⟨hk.1.1, hk.1.2⟩)⟩, ⟨by (with_reducible repeat (first | refine blk_drewN ?_ _ | refine blk_drew ?_ | refine blk_alloc ?_ _)); refine blk_put (cs := #[.int .i64 ((rd_T40 l0 a1).f0), .int .i64 0]) ?_ 1 _ rfl; (with_reducible repeat (first | refine blk_drewN ?_ _ | refine blk_drew ?_ | refine blk_alloc ?_ _)); refine blk_put (cs := #[.int .i64 0, .int .i64 0]) ?_ 0 _ rfl; (with_reducible repeat (first | refine blk_drewN ?_ _ | refine blk_drew ?_ | refine blk_alloc ?_ _)); exact BK452.out⟩, ⟨by repeat (first | (with_reducible first | exact HB.out | apply qba | apply qbn | apply qb1 | refine below_set ?_ GE452.out) | exact HB.out)⟩⟩
        · rw [if_neg c13] at H
          have c13b0 : decide (((rd_T40 l0 a1).f1) ≤ a3) = false := decide_eq_false c13
          clear c13
          (first | rw [c13b0] | (simp only [i64_w, i32_w]; rw [c13b0]) | skip)
          by_cases c15 : a3 = 0
          · rw [if_pos c15] at H
            exact absurd H (by simp)
          · rw [if_neg c15] at H
            have c15b0 : (a3 == 0) = false := beq_eq_false_iff_ne.mpr c15
            have c15b1 : (a3 != 0) = true := bne_iff_ne.mpr c15
            have H' := Aside0.mk H
            clear H
            have hcz16_0 : w11.cell? ⟨gb452, 0, none⟩ = some (.int .i64 0) := (blk_cell BK452.out 0).trans rfl
            have hcz16_1 : w11.cell? ⟨gb452, 1, none⟩ = some (.int .i64 0) := (blk_cell BK452.out 1).trans rfl
            have hfz16_0 := blk_frozen BK452.out 0
            have hfz16_1 := blk_frozen BK452.out 1
            go_wp2
            go_meet
            case rel => exact ⟨_, (((Int.tmod ((rd_T40 l0 a1).f1) a3) != 0)), (by first | rfl | (simp; done) | (simp [*]; done)), H', ⟨by first | omega | exact Nat.le_refl _⟩, ⟨by (with_reducible repeat (first | apply Kd.V_alloc | apply Kd.V_drewN | apply Kd.V_drew)); exact Kd.V_mono (Kd.V_far (p := ⟨gb452, 1, none⟩) (Kd.V_far (p := ⟨gb452, 0, none⟩) (Kd.V_mono HO0.out (fun k_ hk => (⟨hk, hk.2⟩ : _ ∧ k_ ≠ gb452))) (fun _ hk => hk.2) (.int .i64 ((rd_T40 l0 a1).f0))) (fun _ hk => hk.2) (.int .i64 ((rd_T40 l0 a1).f1))) (fun _ hk => ⟨hk.1.1, hk.1.2⟩)⟩, ⟨by (with_reducible repeat (first | refine blk_drewN ?_ _ | refine blk_drew ?_ | refine blk_alloc ?_ _)); refine blk_put (cs := #[.int .i64 ((rd_T40 l0 a1).f0), .int .i64 0]) ?_ 1 _ rfl; (with_reducible repeat (first | refine blk_drewN ?_ _ | refine blk_drew ?_ | refine blk_alloc ?_ _)); refine blk_put (cs := #[.int .i64 0, .int .i64 0]) ?_ 0 _ rfl; (with_reducible repeat (first | refine blk_drewN ?_ _ | refine blk_drew ?_ | refine blk_alloc ?_ _)); exact BK452.out⟩, ⟨by repeat (first | (with_reducible first | exact HB.out | apply qba | apply qbn | apply qb1 | refine below_set ?_ GE452.out) | exact HB.out)⟩⟩
       case rest =>
        clear HC9
        try clear c1
        try clear p2
        try clear p4
        try clear q4
        try clear hx4
        try clear c6
        try clear c6b0
        try clear c6b1
        try clear c7
        try clear c7b0
        try clear c8
        try clear c8b0
        try clear c13
        try clear c13b0
        try clear c14
        try clear c15
        try clear c15b0
        try clear c15b1
        try clear hcz12_0
        try clear hcz12_1
        try clear hcz14_0
        try clear hcz14_1
        try clear hcz16_0
        try clear hcz16_1
        try clear hfz12_0
        try clear hfz12_1
        try clear hfz14_0
        try clear hfz14_1
        try clear hfz16_0
        try clear hfz16_1
        try clear hx451_0
        try clear hx451_1
        try clear p451
        try clear q451
        obtain ⟨kq, x36_8, rfl, HA, HJ8, HO_0, BK452, HB⟩ := hcut
        cases kq with
        | zero => exact absurd HA.out (by simp [impl_TrillNote.j0])
        | succ kj8 =>
         have H := HA.out
         clear HA
         simp only [impl_TrillNote.j0] at H
         by_cases c17 : x36_8 = true
         · subst c17
           have H1 : (some (([] : List (S40)), 6)) = some (r1, r2) := by rw [if_pos rfl] at H; exact H
           clear H
           have H := H1
           clear H1
           simp only [Option.some.injEq, Prod.mk.injEq] at H
           obtain ⟨rfl, rfl⟩ := H
           go_wp2
           go_ret2
           exact ⟨_, by first | rfl | (simp [errW_none, errW_some] <;> rfl) | (simp [*, errW_none, errW_some] <;> rfl), by first | exact Kd.R_nil _ _ _ _ _ | exact Kd.N_nil _ _ _ _ _ | exact Kd.V_nil _ _ _ _ _ | exact Kd.Q_nil _ _ _ _ _ | exact Kd.S_nil _ _ _ _ _, by repeat (first | (with_reducible first | exact HB.out | apply qba | apply qbn | apply qb1 | refine below_set ?_ GE452.out) | exact HB.out)⟩
         · replace c17 := Bool.eq_false_iff.mpr c17
           subst c17
           have H1 : (if a3 = 0 then (none) else (impl_TrillNote.l0 kj8 l0 a1 a2 a3 ([] : List (S40)) (wrap64 (Int.tdiv ((rd_T40 l0 a1).f1) a3)) 0 ((rd_T40 l0 a1).f0) ((rd_T40 l0 a1).f1))) = some (r1, r2) := by rw [if_neg (show ¬ (false = true) by decide)] at H; exact H
           clear H
           have H := H1
           clear H1
           by_cases c18 : a3 = 0
           · rw [if_pos c18] at H
             exact absurd H (by simp)
           · rw [if_neg c18] at H
             have c18b0 : (a3 == 0) = false := beq_eq_false_iff_ne.mpr c18
             have c18b1 : (a3 != 0) = true := bne_iff_ne.mpr c18
             have H' := Aside0.mk H
             clear H
             have hcz19_0 : wc.cell? ⟨gb452, 0, none⟩ = some (.int .i64 ((rd_T40 l0 a1).f0)) := (blk_cell BK452.out 0).trans rfl
             have hcz19_1 : wc.cell? ⟨gb452, 1, none⟩ = some (.int .i64 ((rd_T40 l0 a1).f1)) := (blk_cell BK452.out 1).trans rfl
             have hfz19_0 := blk_frozen BK452.out 0
             have hfz19_1 := blk_frozen BK452.out 1
             go_wp2
             go_loopg [12, 41] kj8 (fun kq v12 v41 w' => ∃ (x12_2 : List (S40)) (x41_2 : Int), v41 = .int .i64 x41_2 ∧ Aside0 (impl_TrillNote.l0 kq l0 a1 a2 a3 x12_2 (wrap64 (Int.tdiv ((rd_T40 l0 a1).f1) a3)) x41_2 ((rd_T40 l0 a1).f0) ((rd_T40 l0 a1).f1) = some (r1, r2)) ∧ Aside0 (kq ≤ kj8) ∧ Aside0 (Kd.V k40 40 w' w.heap.size (fun k_ => (P0_ k_ ∨ w.heap.size ≤ k_) ∧ some k_ ≠ (v12 : Value).ownBlock ∧ k_ ≠ gb452) (.slice (some ad451) l0.length c0) l0) ∧ Aside0 (Kd.R k40 40 w' w.heap.size (fun k_ => (w.heap.size ≤ k_) ∧ k_ ≠ gb452) v12 x12_2) ∧ Aside0 (w'.heap[gb452]? = some (.cells #[.int .i64 ((rd_T40 l0 a1).f0), .int .i64 ((rd_T40 l0 a1).f1)] 40 (0, 0))) ∧ Aside0 (Below w.heap.size w w'))
             case atStart => exact ⟨(([] : List (S40))), (0), (by first | rfl | (simp; done) | (simp [*]; done)), H', ⟨Nat.le_refl _⟩, ⟨by (with_reducible repeat (first | apply Kd.V_alloc | apply Kd.V_drewN | apply Kd.V_drew)); exact Kd.V_mono HO_0.out (fun _ hk => ⟨hk.1, ⟨(by simp [Value.ownBlock]), hk.2⟩⟩)⟩, ⟨by first | exact Kd.R_nil _ _ _ _ _ | exact Kd.N_nil _ _ _ _ _ | exact Kd.V_nil _ _ _ _ _ | exact Kd.Q_nil _ _ _ _ _ | exact Kd.S_nil _ _ _ _ _⟩, ⟨by (with_reducible repeat (first | refine blk_drewN ?_ _ | refine blk_drew ?_ | refine blk_alloc ?_ _)); exact BK452.out⟩, ⟨by repeat (first | (with_reducible first | exact HB.out | apply qba | apply qbn | apply qb1 | refine below_set ?_ GE452.out) | exact HB.out)⟩⟩
             case round =>
              clear H'
              try clear c1
              try clear p2
              try clear p4
              try clear q4
              try clear hx4
              try clear c6
              try clear c6b0
              try clear c6b1
              try clear p6
              try clear c7
              try clear c7b0
              try clear c8
              try clear c8b0
              try clear c13
              try clear c13b0
              try clear c14
              try clear c15
              try clear c15b0
              try clear c15b1
              try clear c17
              try clear c18
              try clear c18b0
              try clear c18b1
              try clear hcz12_0
              try clear hcz12_1
              try clear hcz14_0
              try clear hcz14_1
              try clear hcz16_0
              try clear hcz16_1
              try clear hcz19_0
              try clear hcz19_1
              try clear hfz12_0
              try clear hfz12_1
              try clear hfz14_0
              try clear hfz14_1
              try clear hfz16_0
              try clear hfz16_1
              try clear hfz19_0
              try clear hfz19_1
              try clear hx451_0
              try clear hx451_1
              try clear p2
              try clear p4
              try clear p451
              try clear q4
              try clear q451
              obtain ⟨x12_2, x41_2, rfl, HA, HK2, HO_0, HO_12, BK452, HB⟩ := hrel
              cases gk with
              | zero => exact absurd HA.out (by simp [impl_TrillNote.l0])
              | succ k2 =>
               have H := HA.out
               clear HA
               simp only [impl_TrillNote.l0] at H
               by_cases c20 : x41_2 < (wrap64 (Int.tdiv ((rd_T40 l0 a1).f1) a3))
               · rw [if_pos c20] at H
                 have c20b0 : decide (x41_2 < (wrap64 (Int.tdiv ((rd_T40 l0 a1).f1) a3))) = true := decide_eq_true c20
                 clear c20
                 obtain ⟨ji21, hji21⟩ : ∃ j_ : Int, (Int.tmod x41_2 2) = j_ := ⟨_, rfl⟩
                 replace H : (if 0 ≤ (ji21) then (if (ji21) < 2 then (if x12_2.length < 8796093022208 then (impl_TrillNote.l0 k2 l0 a1 a2 a3 (x12_2 ++ [(⟨rd ([((rd_T40 l0 a1).f0), a2] : List Int) (ji21), a3⟩ : S40)]) (wrap64 (Int.tdiv ((rd_T40 l0 a1).f1) a3)) (wrap64 (x41_2 + 1)) ((rd_T40 l0 a1).f0) ((rd_T40 l0 a1).f1)) else (none)) else (none)) else (none)) = some (r1, r2) := by first | (rw [hji21] at H; exact H) | (simp only [hji21] at H ⊢; exact H)
                 by_cases c22 : 0 ≤ (ji21)
                 · rw [if_pos c22] at H
                   have c22b0 : decide (0 ≤ (ji21)) = true := decide_eq_true c22
                   clear c22
                   by_cases c23 : (ji21) < 2
                   · rw [if_pos c23] at H
                     have c23b0 : decide ((ji21) < 2) = true := decide_eq_true c23
                     clear c23
                     by_cases c25 : x12_2.length < 8796093022208
                     · rw [if_pos c25] at H
                       have LMc25 := Aside0.mk c25
                       clear c25
                       obtain ⟨y453, hy453⟩ : ∃ y_ : List (S40), y_ = (x12_2 ++ [(⟨rd ([((rd_T40 l0 a1).f0), a2] : List Int) (ji21), a3⟩ : S40)]) := ⟨_, rfl⟩
                       replace H : (impl_TrillNote.l0 k2 l0 a1 a2 a3 y453 (wrap64 (Int.tdiv ((rd_T40 l0 a1).f1) a3)) (wrap64 (x41_2 + 1)) ((rd_T40 l0 a1).f0) ((rd_T40 l0 a1).f1)) = some (r1, r2) := by first | (rw [hy453]; with_reducible exact H) | (have H2_ := (Option.bind_some _ _).symm.trans H; rw [hy453]; with_reducible exact H2_) | (have H2_ := (Option.bind_some _ _).symm.trans H; with_reducible exact H2_) | with_reducible exact H | (rw [hy453]; exact H) | exact H
                       have Ny453 := Aside0.mk hy453
                       clear hy453
                       have H' := Aside0.mk H
                       clear H
                       have hcz26_0 : wr.cell? ⟨gb452, 0, none⟩ = some (.int .i64 ((rd_T40 l0 a1).f0)) := (blk_cell BK452.out 0).trans rfl
                       have hcz26_1 : wr.cell? ⟨gb452, 1, none⟩ = some (.int .i64 ((rd_T40 l0 a1).f1)) := (blk_cell BK452.out 1).trans rfl
                       have hfz26_0 := blk_frozen BK452.out 0
                       have hfz26_1 := blk_frozen BK452.out 1
                       have p24 : 0 ≤ ((ji21) : Int) := of_decide_eq_true (by first | (with_reducible assumption) | assumption)
                       have q24 : ((ji21) : Int) < 2 := of_decide_eq_true (by first | (with_reducible assumption) | assumption)
                       have hx24 : ∀ w_, (Instr.index 125 (.agg #[.int .i64 ((rd_T40 l0 a1).f0), .int .i64 a2]) (.int .i64 (ji21))).run Try.prog w_ = .ok (.int .i64 (rd ([((rd_T40 l0 a1).f0), a2] : List Int) (ji21))) w_ := fun w_ => ix_arr (n := 2) (e := 2) (by kernel_rfl) w_ (by kernel_rfl) (by kernel_rfl) _ _ _ _ p24 q24 (arr_at (Value.int .i64) 0 ([((rd_T40 l0 a1).f0), a2] : List Int) _ (by simp only [List.length_cons, List.length_nil]; omega))
                       clear p24 q24
                       go_wp2_with (first | ((with_reducible refine gate_builtin (b := .append) (xs := #[.tmp 44, .tmp 54]) rfl ?_); at_builtin; refine Kd.R_append k40 (w0 := w) w.heap.size rfl (.tmp 44) (.tmp 54) 31 40 (.agg #[(.int .i64 0), (.int .i64 0)]) 16 rfl Try.underlying31 info40 rfl (by decide) (by omega) u12 x12_2 (⟨rd ([((rd_T40 l0 a1).f0), a2] : List Int) (ji21), a3⟩ : S40) [.int .i64 (rd ([((rd_T40 l0 a1).f0), a2] : List Int) (ji21)), .int .i64 a3] (fun k_ => (w.heap.size ≤ k_) ∧ k_ ≠ gb452) (fun _ => False) rfl rfl ?aP (fun _ hk => hk.elim) ?aF ?aO ?aB ?aS ?aL ?_; (case aP => exact k40_mkM _ _ _ (⟨rd ([((rd_T40 l0 a1).f0), a2] : List Int) (ji21), a3⟩ : S40)); (case aB => exact (by repeat (first | (with_reducible first | exact HB.out | apply qba | apply qbn | apply qb1 | refine below_set ?_ GE452.out) | exact HB.out))); (case aF => exact (fun k_ hk => ⟨(Nat.le_trans (below_size (by repeat (first | (with_reducible first | exact HB.out | apply qba | apply qbn | apply qb1 | refine below_set ?_ GE452.out) | exact HB.out))) hk), Kd.freshB (g := gb452) (o := .cells #[.int .i64 ((rd_T40 l0 a1).f0), .int .i64 ((rd_T40 l0 a1).f1)] 40 (0, 0)) (by (with_reducible repeat (first | refine blk_drewN ?_ _ | refine blk_drew ?_ | refine blk_alloc ?_ _)); exact BK452.out) k_ hk⟩)); (case aO => exact (by (with_reducible repeat (first | apply qra | apply qrn | apply qrd)); exact HO_12.out)); (case aS => exact (below_size (by repeat (first | (with_reducible first | exact HB.out | apply qba | apply qbn | apply qb1 | refine below_set ?_ GE452.out) | exact HB.out)))); (case aL => have := LMc25.out; omega); intro v454 w27 ho hb hg hat; rw [← Ny453.out] at ho; have n0_ := Aside0.mk (Kd.V_afterv (ok := (fun k_ => (P0_ k_ ∨ w.heap.size ≤ k_) ∧ k_ ≠ gb452)) (by (with_reducible repeat (first | apply Kd.V_alloc | apply Kd.V_drewN | apply Kd.V_drew)); exact Kd.V_mono HO_0.out (fun _ hk => ⟨⟨hk.1, hk.2.2⟩, hk.2.1⟩)) hg hat); have n1_ := Aside0.mk (blk_grown (g := gb452) (o := .cells #[.int .i64 ((rd_T40 l0 a1).f0), .int .i64 ((rd_T40 l0 a1).f1)] 40 (0, 0)) (by (with_reducible repeat (first | refine blk_drewN ?_ _ | refine blk_drew ?_ | refine blk_alloc ?_ _)); exact BK452.out) hg (Kd.R_away HO_12.out (fun _ hk => hk.2))); have n2_ := Aside0.mk (hb); have n3_ := Aside0.mk (ho); clear HO_0; clear BK452; clear HB; clear HO_12; have HO_0 := n0_; have BK452 := n1_; have HB := n2_; have HO455 := n3_; clear n0_ n1_ n2_ n3_; clear ho hb hg hat))
                       go_roundg k2
                       case measure => have := HJ8.out; have := HK2.out; omega
                       case rel => exact ⟨(y453), (wrap64 (x41_2 + 1)), (by first | rfl | (simp; done) | (simp [*]; done)), H', ⟨by have := HJ8.out; have := HK2.out; omega⟩, ⟨by (with_reducible repeat (first | apply Kd.V_alloc | apply Kd.V_drewN | apply Kd.V_drew)); exact Kd.V_mono HO_0.out (fun _ hk => ⟨hk.1.1, ⟨hk.2, hk.1.2⟩⟩)⟩, ⟨by (with_reducible repeat (first | apply qra | apply qrn | apply qrd)); exact HO455.out⟩, ⟨by (with_reducible repeat (first | refine blk_drewN ?_ _ | refine blk_drew ?_ | refine blk_alloc ?_ _)); exact BK452.out⟩, ⟨by repeat (first | (with_reducible first | exact HB.out | apply qba | apply qbn | apply qb1 | refine below_set ?_ GE452.out) | exact HB.out)⟩⟩
                     · rw [if_neg c25] at H
                       exact absurd H (by simp)
                   · rw [if_neg c23] at H
                     exact absurd H (by simp)
                 · rw [if_neg c22] at H
                   exact absurd H (by simp)
               · rw [if_neg c20] at H
                 have c20b0 : decide (x41_2 < (wrap64 (Int.tdiv ((rd_T40 l0 a1).f1) a3))) = false := decide_eq_false c20
                 clear c20
                 by_cases c28 : 0 ≤ a1
                 · rw [if_pos c28] at H
                   have c28b0 := eq_true c28
                   have c28b1 : decide (0 ≤ a1) = true := decide_eq_true c28
                   clear c28
                   by_cases c29 : a1 ≤ (l0.length : Int)
                   · rw [if_pos c29] at H
                     have c29b0 := eq_true c29
                     have c29b1 : decide (a1 ≤ (l0.length : Int)) = true := decide_eq_true c29
                     clear c29
                     obtain ⟨y456, hy456⟩ : ∃ y_ : List (S40), y_ = (l0.take (a1 : Int).toNat) := ⟨_, rfl⟩
                     replace H : (if 0 ≤ (wrap64 (a1 + 1)) then (if (wrap64 (a1 + 1)) ≤ (l0.length : Int) then ((impl_Note_99.f k2 (([y456, x12_2, (l0.drop ((wrap64 (a1 + 1)) : Int).toNat)] : List (List (S40))))).bind fun t469 => ((impl_checkedMelody.f t469).bind fun bt472 => (some (bt472.1, bt472.2)))) else (none)) else (none)) = some (r1, r2) := by first | (rw [hy456]; with_reducible exact H) | (have H2_ := (Option.bind_some _ _).symm.trans H; rw [hy456]; with_reducible exact H2_) | (have H2_ := (Option.bind_some _ _).symm.trans H; with_reducible exact H2_) | with_reducible exact H | (rw [hy456]; exact H) | exact H
                     have Ny456 := Aside0.mk hy456
                     clear hy456
                     obtain ⟨ji30, hji30⟩ : ∃ j_ : Int, (wrap64 (a1 + 1)) = j_ := ⟨_, rfl⟩
                     replace H : (if 0 ≤ (ji30) then (if (ji30) ≤ (l0.length : Int) then ((impl_Note_99.f k2 (([y456, x12_2, (l0.drop ((ji30) : Int).toNat)] : List (List (S40))))).bind fun t469 => ((impl_checkedMelody.f t469).bind fun bt472 => (some (bt472.1, bt472.2)))) else (none)) else (none)) = some (r1, r2) := by first | (rw [hji30] at H; exact H) | (simp only [hji30] at H ⊢; exact H)
                     have hji30w : (IntKind.i64.wrap (a1 + 1)) = ji30 := (i64_w _).trans hji30
                     by_cases c31 : 0 ≤ (ji30)
                     · rw [if_pos c31] at H
                       have c31b0 := eq_true c31
                       have c31b1 : decide (0 ≤ (ji30)) = true := decide_eq_true c31
                       clear c31
                       by_cases c32 : (ji30) ≤ (l0.length : Int)
                       · rw [if_pos c32] at H
                         have c32b0 := eq_true c32
                         have c32b1 : decide ((ji30) ≤ (l0.length : Int)) = true := decide_eq_true c32
                         clear c32
                         obtain ⟨y461, hy461⟩ : ∃ y_ : List (S40), y_ = (l0.drop ((ji30) : Int).toNat) := ⟨_, rfl⟩
                         replace H : ((impl_Note_99.f k2 (([y456, x12_2, y461] : List (List (S40))))).bind fun t469 => ((impl_checkedMelody.f t469).bind fun bt472 => (some (bt472.1, bt472.2)))) = some (r1, r2) := by first | (rw [hy461]; with_reducible exact H) | (have H2_ := (Option.bind_some _ _).symm.trans H; rw [hy461]; with_reducible exact H2_) | (have H2_ := (Option.bind_some _ _).symm.trans H; with_reducible exact H2_) | with_reducible exact H | (rw [hy461]; exact H) | exact H
                         have Ny461 := Aside0.mk hy461
                         clear hy461
                         obtain ⟨y466, hy466⟩ : ∃ y_ : List (List (S40)), y_ = (([y456, x12_2, y461] : List (List (S40)))) := ⟨_, rfl⟩
                         replace H : ((impl_Note_99.f k2 y466).bind fun t469 => ((impl_checkedMelody.f t469).bind fun bt472 => (some (bt472.1, bt472.2)))) = some (r1, r2) := by first | (rw [hy466]; with_reducible exact H) | (have H2_ := (Option.bind_some _ _).symm.trans H; rw [hy466]; with_reducible exact H2_) | (have H2_ := (Option.bind_some _ _).symm.trans H; with_reducible exact H2_) | with_reducible exact H | (rw [hy466]; exact H) | exact H
                         have Ny466 := Aside0.mk hy466
                         clear hy466
                         replace H := Option.bind_eq_some_iff.mp H
                         obtain ⟨t469, A330, H⟩ := H
                         replace H : ((impl_checkedMelody.f t469).bind fun bt472 => (some (bt472.1, bt472.2))) = some (r1, r2) := H
                         have A33 := Aside0.mk A330
                         clear A330
                         replace H := Option.bind_eq_some_iff.mp H
                         obtain ⟨⟨t472, t475⟩, A340, H⟩ := H
                         replace H : (some (t472, t475)) = some (r1, r2) := H
                         have A34 := Aside0.mk A340
                         clear A340
                         simp only [Option.some.injEq, Prod.mk.injEq] at H
                         obtain ⟨rfl, rfl⟩ := H
                         try go_wp2
                         have n0_ := Aside0.mk (Kd.V_drew HO_0.out)
                         have n1_ := Aside0.mk (Kd.R_drew HO_12.out)
                         have n2_ := Aside0.mk (blk_drew BK452.out)
                         have n3_ := Aside0.mk (below_drew1 HB.out)
                         clear HO_0
                         clear HO_12
                         clear BK452
                         clear HB
                         have HO_0 := n0_
                         have HO_12 := n1_
                         have BK452 := n2_
                         have HB := n3_
                         clear n0_ n1_ n2_ n3_
                         have q36 : (a1 : Int) ≤ ((l0.length : Int) : Int) := of_decide_eq_true (by first | (with_reducible assumption) | assumption)
                         obtain ⟨i036, hi036, _, hsz36, _⟩ := info_parts info40
                         have hroom36 : l0.length ≤ c0 := (Kd.V_reads' HO_0.out).2.1
                         have hC36 : Kd.F k40 _ _ (some ad451) l0.length l0 := (Kd.V_at (base := w.heap.size) HO_0.out).2.2
                         have hcut36 := cut_to (P := Try.prog) 31 40 .i64 Try.underlying31 hi036 (some ad451) l0.length c0 a1 (of_decide_eq_true (by first | (with_reducible assumption) | assumption)) q36 hroom36
                         have hr36 := Kd.F_take (m := (a1 : Int).toNat) hC36 (by omega)
                         have hy36 : y456.length = (a1 : Int).toNat := (by rw [Ny456.out, List.length_take]; omega)
                         rw [← Ny456.out] at hr36
                         rw [← hy36] at hcut36
                         have HO460 := Aside0.mk (show Kd.V k40 40 _ w.heap.size _ (.slice (some ad451) y456.length c0) y456 from Kd.V_mk (by omega) hr36)
                         have HC460 := Aside0.mk (show y456.length ≤ c0 from by omega)
                         clear hr36 hC36 hroom36 hi036 hsz36
                         have KY36 := Aside0.mk hy36
                         clear hy36
                         replace q36 := eq_true q36
                         have q37 : ((ji30) : Int) ≤ ((l0.length : Int) : Int) := of_decide_eq_true (by first | (with_reducible assumption) | assumption)
                         obtain ⟨i037, hi037, _, hsz37, _⟩ := info_parts info40
                         have hroom37 : l0.length ≤ c0 := (Kd.V_reads' HO_0.out).2.1
                         have hC37 : Kd.F k40 _ _ (some ad451) l0.length l0 := (Kd.V_at (base := w.heap.size) HO_0.out).2.2
                         have q037 : (0 : Int) ≤ ((ji30) : Int) := of_decide_eq_true (by first | (with_reducible assumption) | assumption)
                         have hcut37 := cut_from (P := Try.prog) 31 40 .i64 Try.underlying31 hi037 2 hsz37 (some ad451) l0.length c0 (ji30) q037 q37
                         have hr37 := Kd.F_cut (m := ((ji30) : Int).toNat) (c := c0) hC37 (by omega) hroom37
                         obtain ⟨A37, hA37⟩ : ∃ A1, A1 = (if c0 = ((ji30) : Int).toNat then (some ad451) else ((some ad451) : Option Addr).map (·.add (((ji30) : Int).toNat * 2))) := ⟨_, rfl⟩
                         obtain ⟨c37, hc37⟩ : ∃ c1, c1 = c0 - ((ji30) : Int).toNat := ⟨_, rfl⟩
                         have hy37 : y461.length = l0.length - ((ji30) : Int).toNat := (by rw [Ny461.out, List.length_drop] <;> omega)
                         rw [show (l0).drop ((ji30) : Int).toNat = y461 from Ny461.out.symm] at hr37
                         replace hr37 : Kd.F k40 _ _ A37 y461.length y461 := (by rw [hA37]; exact hr37)
                         rw [← hy37, ← hA37, ← hc37] at hcut37
                         have HO465 := Aside0.mk (show Kd.V k40 40 _ w.heap.size _ (.slice A37 y461.length c37) y461 from Kd.V_mk (by rw [hy37, hc37]; exact Nat.sub_le_sub_right hroom37 _) hr37)
                         have HC465 := Aside0.mk (show y461.length ≤ c37 from by rw [hy37, hc37]; exact Nat.sub_le_sub_right hroom37 _)
                         clear hr37 hC37 hroom37 hi037 hsz37 hc37
                         have KY37 := Aside0.mk hy37
                         have KA37 := Aside0.mk hA37
                         clear hy37 hA37
                         replace q37 := eq_true q37
                         obtain ⟨Ao38, co38, eo38⟩ := Kd.R_slice HO_12.out
                         (first | subst eo38 | (injection eo38 with f1_ f2_ f3_; have f4_ := f1_.symm; have f5_ := f3_.symm; clear f1_ f2_ f3_; subst f4_; subst f5_))
                         refine start_ (n := 15) (S := fun w' => True) (ds := []) (bq [0, 15]) (by kernel_rfl) rfl rfl trivial (fun hHeld => ?_); refine with_tabW impl_TrillNote.tab13 impl_TrillNote.bits13 (fun HT_ HW_ => ?_)
                         generalize wr.drew = w35 at HO_0 HO_12 BK452 HB HO460 HO465 hHeld ⊢
                         refine pV_ (i := 0) (N := some 57) (bq [1, 14]) rfl rfl HT_.out ?_
                         refine pV_ (i := 1) (N := some 58) (bq [2, 13]) rfl rfl HT_.out ?_
                         refine pV_ (i := 2) (N := some 59) (bq [3, 12]) rfl rfl HT_.out ?_
                         refine pV_ (i := 3) (N := some 60) (bq [4, 11]) rfl rfl HT_.out ?_
                         refine pV_ (i := 4) (N := some 61) (bq [5, 10]) rfl rfl HT_.out ?_
                         refine pV_ (i := 5) (N := some 62) (bq [6, 9]) rfl rfl HT_.out ?_
                         refine pV_ (i := 6) (N := some 63) (bq [7, 8]) rfl rfl HT_.out ?_
                         refine pV_ (i := 7) (N := some 64) (bq [8, 7]) rfl rfl HT_.out ?_
                         refine one_ (i := 8) (N := some 65) (bq [9, 6]) rfl rfl (one_of HT_.out (by kernel_rfl)) (by decide) (fun K hK => ?_)
                         refine Kd.N_lit_step (Kd.slice 40 k40) _ 31 ?hg (N' := 65) ?hd (xs := ([y456, x12_2, y461] : List (List (S40)))) (inner := [.slice (some ad451) y456.length c0, .slice Ao38 x12_2.length co38, .slice A37 y461.length c37]) (ok := (fun k_ => (P0_ k_ ∨ w.heap.size ≤ k_) ∧ k_ ≠ gb452)) (okp := (fun k_ => (P0_ k_ ∨ w.heap.size ≤ k_) ∧ k_ ≠ gb452)) ?hr ?hp (fun _ hk => hk) ((show ∀ k_, w35.heap.size ≤ k_ → (fun k_ => (P0_ k_ ∨ w.heap.size ≤ k_) ∧ k_ ≠ gb452) k_ from fun k_ hk => ⟨(.inr (Nat.le_trans (below_size (by repeat (first | (with_reducible first | exact HB.out | apply qba | apply qbn | apply qb1 | refine below_set ?_ GE452.out) | exact HB.out))) hk)), Kd.freshB (g := gb452) (o := .cells #[.int .i64 ((rd_T40 l0 a1).f0), .int .i64 ((rd_T40 l0 a1).f1)] 40 (0, 0)) (by (with_reducible repeat (first | refine blk_drewN ?_ _ | refine blk_drew ?_ | refine blk_alloc ?_ _)); exact BK452.out) k_ hk⟩) _ (Nat.le_refl _)) (Below.refl _ _) (Nat.le_refl _) (by simp) ?_; (case hd => rfl); (case hg => rfl); (case hr => first | (go_simp; done) | (go_simp; rfl)); (case hp => exact (Reps.one (show Kd.FK (Kd.slice 40 k40) _ _ y456 [.slice (some ad451) y456.length c0] from (Kd.FK_slice_mk (Kd.V_reads' (Kd.V_mono (ok' := (fun k_ => (P0_ k_ ∨ w.heap.size ≤ k_) ∧ k_ ≠ gb452)) (HO460.out) (fun k_ hk => ⟨hk.1, hk.2.2⟩))).2.1 (Kd.V_F (Kd.V_mono (ok' := (fun k_ => (P0_ k_ ∨ w.heap.size ≤ k_) ∧ k_ ≠ gb452)) (HO460.out) (fun k_ hk => ⟨hk.1, hk.2.2⟩))))) (Reps.one (show Kd.FK (Kd.slice 40 k40) _ _ x12_2 [.slice Ao38 x12_2.length co38] from (Kd.FK_slice_mk (Kd.R_reads' (Kd.R_mono (ok' := (fun k_ => (P0_ k_ ∨ w.heap.size ≤ k_) ∧ k_ ≠ gb452)) (HO_12.out) (fun k_ hk => ⟨(.inr (hk.1)), hk.2⟩))).2.1 (Kd.R_F (Kd.R_mono (ok' := (fun k_ => (P0_ k_ ∨ w.heap.size ≤ k_) ∧ k_ ≠ gb452)) (HO_12.out) (fun k_ hk => ⟨(.inr (hk.1)), hk.2⟩))))) (Reps.one (show Kd.FK (Kd.slice 40 k40) _ _ y461 [.slice A37 y461.length c37] from (Kd.FK_slice_mk (Kd.V_reads' (Kd.V_mono (ok' := (fun k_ => (P0_ k_ ∨ w.heap.size ≤ k_) ∧ k_ ≠ gb452)) (HO465.out) (fun k_ hk => ⟨hk.1, hk.2.2⟩))).2.1 (Kd.V_F (Kd.V_mono (ok' := (fun k_ => (P0_ k_ ∨ w.heap.size ≤ k_) ∧ k_ ≠ gb452)) (HO465.out) (fun k_ hk => ⟨hk.1, hk.2.2⟩))))) (Reps.none _ _)))))
                         intro v467 w39 ho40 hb hg_ hnew_
                         clear hg_ hnew_
                         (first | rw [← Ny466.out] at ho40 | (simp only [Int.reduceToNat] at ho40; rw [← Ny466.out] at ho40))
                         have n0_ := Aside0.mk (Kd.V_elder' (by (with_reducible repeat (first | apply Kd.V_alloc | apply Kd.V_drewN | apply Kd.V_drew)); exact HO_0.out) (Kd.N_base ho40) hb)
                         have n1_ := Aside0.mk (Kd.V_elder' (by (with_reducible repeat (first | apply Kd.V_alloc | apply Kd.V_drewN | apply Kd.V_drew)); exact HO460.out) (Kd.N_base ho40) hb)
                         have n2_ := Aside0.mk (Kd.V_elder' (by (with_reducible repeat (first | apply Kd.V_alloc | apply Kd.V_drewN | apply Kd.V_drew)); exact HO465.out) (Kd.N_base ho40) hb)
                         have n3_ := Aside0.mk (Kd.N_lower ho40 (below_size (by repeat (first | (with_reducible first | exact HB.out | apply qba | apply qbn | apply qb1 | refine below_set ?_ GE452.out) | exact HB.out))))
                         have n4_ := Aside0.mk (blk_below (g := gb452) (o := .cells #[.int .i64 ((rd_T40 l0 a1).f0), .int .i64 ((rd_T40 l0 a1).f1)] 40 (0, 0)) (by (with_reducible repeat (first | refine blk_drewN ?_ _ | refine blk_drew ?_ | refine blk_alloc ?_ _)); exact BK452.out) hb)
                         have n5_ := Aside0.mk (below_step (by repeat (first | (with_reducible first | exact HB.out | apply qba | apply qbn | apply qb1 | refine below_set ?_ GE452.out) | exact HB.out)) hb)
                         clear HO_0
                         clear HO460
                         clear HO465
                         clear BK452
                         clear HB
                         clear HO_12
                         have HO_0 := n0_
                         have HO460 := n1_
                         have HO465 := n2_
                         have HO468 := n3_
                         have BK452 := n4_
                         have HB := n5_
                         clear n0_ n1_ n2_ n3_ n4_ n5_
                         clear hb ho40
                         obtain ⟨Ao41, co41, eo41⟩ := Kd.N_slice HO468.out
                         (first | subst eo41 | (injection eo41 with f1_ f2_ f3_; have f4_ := f1_.symm; have f5_ := f3_.symm; clear f1_ f2_ f3_; subst f4_; subst f5_))
                         refine hK.out _ _ trivial (fun hHeld => ?_)
                         clear hK K
                         refine norm_ (a' := ?_) ?_ ?_
                         rotate_left
                         · show Act.put _ (some 65) _ = _
                           simp only [Act.put, sx0, sx1, sx2, i64_w, i32_w]
                           rfl
                         refine one_ (i := 9) (N := some 66) (bq [10, 5]) rfl rfl (one_of HT_.out (by kernel_rfl)) (by decide) (fun K hK => ?_)
                         refine gS_ Try.func99 #[.slice Ao41 y466.length co41] rfl rfl ?_
                         with_reducible refine (impl_Note_99.calls k2 _ _ y466 t469 _ ?side1 ?side2 A33.out).mono ?_
                         (case side1 => repeat (first | exact (Kd.N_reads' HO468.out).2.2 | (with_reducible refine Kd.C_alloc ?_ _) | (with_reducible refine Kd.C_drewN ?_ _) | (with_reducible refine Kd.C_drew ?_)))
                         (case side2 => exact (Kd.N_reads' HO468.out).2.1)
                         rintro e w42 ⟨v470, rfl, ho0, hb⟩
                         refine ⟨_, rfl, ?_⟩
                         have n0_ := Aside0.mk (Kd.V_elder' (by (with_reducible repeat (first | apply Kd.V_alloc | apply Kd.V_drewN | apply Kd.V_drew)); exact HO_0.out) (Kd.R_base ho0) hb)
                         have n1_ := Aside0.mk (Kd.V_elder' (by (with_reducible repeat (first | apply Kd.V_alloc | apply Kd.V_drewN | apply Kd.V_drew)); exact HO460.out) (Kd.R_base ho0) hb)
                         have n2_ := Aside0.mk (Kd.V_elder' (by (with_reducible repeat (first | apply Kd.V_alloc | apply Kd.V_drewN | apply Kd.V_drew)); exact HO465.out) (Kd.R_base ho0) hb)
                         have n3_ := Aside0.mk (Kd.N_elder' (by (with_reducible repeat (first | apply Kd.N_alloc | apply Kd.N_drewN | apply Kd.N_drew)); exact HO468.out) (Kd.R_base ho0) hb)
                         have n4_ := Aside0.mk (Kd.R_lower (Kd.R_newB (Kd.R_newM (M := fun k_ => (w.heap.size ≤ k_)) ho0 (below_size (by repeat (first | (with_reducible first | exact HB.out | apply qba | apply qbn | apply qb1 | refine below_set ?_ GE452.out) | exact HB.out))) (fun k_ h_ => h_)) (g := gb452) (o := .cells #[.int .i64 ((rd_T40 l0 a1).f0), .int .i64 ((rd_T40 l0 a1).f1)] 40 (0, 0)) (by (with_reducible repeat (first | refine blk_drewN ?_ _ | refine blk_drew ?_ | refine blk_alloc ?_ _)); exact BK452.out)) (below_size (by repeat (first | (with_reducible first | exact HB.out | apply qba | apply qbn | apply qb1 | refine below_set ?_ GE452.out) | exact HB.out))))
                         have n5_ := Aside0.mk (blk_below (g := gb452) (o := .cells #[.int .i64 ((rd_T40 l0 a1).f0), .int .i64 ((rd_T40 l0 a1).f1)] 40 (0, 0)) (by (with_reducible repeat (first | refine blk_drewN ?_ _ | refine blk_drew ?_ | refine blk_alloc ?_ _)); exact BK452.out) hb)
                         have n6_ := Aside0.mk (below_step (by repeat (first | (with_reducible first | exact HB.out | apply qba | apply qbn | apply qb1 | refine below_set ?_ GE452.out) | exact HB.out)) hb)
                         clear HO_0
                         clear HO460
                         clear HO465
                         clear HO468
                         clear BK452
                         clear HB
                         have HO_0 := n0_
                         have HO460 := n1_
                         have HO465 := n2_
                         have HO468 := n3_
                         have HO471 := n4_
                         have BK452 := n5_
                         have HB := n6_
                         clear n0_ n1_ n2_ n3_ n4_ n5_ n6_
                         (try clear hb)
                         (try clear hb2)
                         (try clear hk)
                         (try clear hi)
                         (try clear ho0)
                         obtain ⟨Ao43, co43, eo43⟩ := Kd.R_slice HO471.out
                         (first | subst eo43 | (injection eo43 with f1_ f2_ f3_; have f4_ := f1_.symm; have f5_ := f3_.symm; clear f1_ f2_ f3_; subst f4_; subst f5_))
                         refine hK.out _ _ trivial (fun hHeld => ?_)
                         clear hK K
                         refine norm_ (a' := ?_) ?_ ?_
                         rotate_left
                         · show Act.put _ (some 66) _ = _
                           simp only [Act.put, sx0, sx1, sx2, i64_w, i32_w]
                           rfl
                         refine one_ (i := 10) (N := some 67) (bq [11, 4]) rfl rfl (one_of HT_.out (by kernel_rfl)) (by decide) (fun K hK => ?_)
                         refine gS_ Try.func98 #[.slice Ao43 t469.length co43] rfl rfl ?_
                         with_reducible refine (impl_checkedMelody.calls (fun k_ => some k_ = (.slice Ao43 t469.length co43 : Value).ownBlock) (.slice Ao43 t469.length co43) t469 t472 t475 w _ ?side1 ?side2 A34.out).mono ?_
                         (case side1 => repeat (first | (with_reducible first | exact HB.out | apply qba | apply qbn | apply qb1 | refine below_set ?_ GE452.out) | exact HB.out))
                         (case side2 => exact Kd.R_tight rfl HO471.out)
                         rintro e w44 ⟨v473, rfl, ho0, hb, hkp⟩
                         refine ⟨_, rfl, ?_⟩
                         have n0_ := Aside0.mk (Kd.V_mono (ok' := fun k_ => (P0_ k_ ∨ w.heap.size ≤ k_) ∧ some k_ ≠ (.slice Ao41 y466.length co41 : Value).ownBlock ∧ k_ ≠ gb452 ∧ some k_ ≠ (v473 : Value).ownBlock) (Kd.V_keptB (HO_0.out) hkp (fun k_ hk_ hs_ => (hk_.2) hs_)) (fun k_ hk_ => ⟨hk_.1.1.1.1, hk_.1.1.2, hk_.1.1.1.2.2, fun e_ => Or.elim (ho0.1 k_ e_.symm) (fun hs_ => hk_.2.1 hs_) (fun hn_ => Nat.not_le.2 hk_.2.2 hn_)⟩))
                         have n1_ := Aside0.mk (blk_kept (by (with_reducible repeat (first | refine blk_drewN ?_ _ | refine blk_drew ?_ | refine blk_alloc ?_ _)); exact BK452.out) hkp (fun hs_ => (fun e_ => (Kd.R_away HO471.out (fun _ hk => hk.2)) e_) hs_))
                         have n2_ := Aside0.mk (Kd.V_mono (ok' := fun k_ => (P0_ k_ ∨ w.heap.size ≤ k_) ∧ some k_ ≠ (.slice Ao41 y466.length co41 : Value).ownBlock ∧ k_ ≠ gb452 ∧ some k_ ≠ (v473 : Value).ownBlock) (Kd.V_keptB (HO460.out) hkp (fun k_ hk_ hs_ => (hk_.2) hs_)) (fun k_ hk_ => ⟨hk_.1.1.1.1, hk_.1.1.2, hk_.1.1.1.2.2, fun e_ => Or.elim (ho0.1 k_ e_.symm) (fun hs_ => hk_.2.1 hs_) (fun hn_ => Nat.not_le.2 hk_.2.2 hn_)⟩))
                         have n3_ := Aside0.mk (Kd.V_mono (ok' := fun k_ => (P0_ k_ ∨ w.heap.size ≤ k_) ∧ some k_ ≠ (.slice Ao41 y466.length co41 : Value).ownBlock ∧ k_ ≠ gb452 ∧ some k_ ≠ (v473 : Value).ownBlock) (Kd.V_keptB (HO465.out) hkp (fun k_ hk_ hs_ => (hk_.2) hs_)) (fun k_ hk_ => ⟨hk_.1.1.1.1, hk_.1.1.2, hk_.1.1.1.2.2, fun e_ => Or.elim (ho0.1 k_ e_.symm) (fun hs_ => hk_.2.1 hs_) (fun hn_ => Nat.not_le.2 hk_.2.2 hn_)⟩))
                         have n4_ := Aside0.mk (Kd.N_mono (ok' := fun k_ => (P0_ k_ ∨ w.heap.size ≤ k_) ∧ k_ ≠ gb452 ∧ some k_ ≠ (v473 : Value).ownBlock) (Kd.N_keptB (HO468.out) hkp (fun k_ hk_ hs_ => (hk_.2) hs_)) (fun k_ hk_ => ⟨hk_.1.1.1, hk_.1.1.2, fun e_ => Or.elim (ho0.1 k_ e_.symm) (fun hs_ => hk_.2.1 hs_) (fun hn_ => Nat.not_le.2 hk_.2.2 hn_)⟩))
                         have n5_ := Aside0.mk (Kd.R_mono (ok' := fun k_ => (w.heap.size ≤ k_) ∧ k_ ≠ gb452) ho0 (fun k_ hk_ => ⟨Or.elim hk_ (fun hs_ => (HO471.out.1 k_ (hs_).symm).1.1) (fun hn_ => (Nat.le_trans (below_size (by repeat (first | (with_reducible first | exact HB.out | apply qba | apply qbn | apply qb1 | refine below_set ?_ GE452.out) | exact HB.out))) hn_)), Or.elim hk_ (fun hs_ => fun e_ => (Kd.R_away HO471.out (fun _ hk => hk.2)) (by rw [← e_]; exact hs_)) (fun hn_ => (Kd.freshB (g := gb452) (o := .cells #[.int .i64 ((rd_T40 l0 a1).f0), .int .i64 ((rd_T40 l0 a1).f1)] 40 (0, 0)) (by (with_reducible repeat (first | refine blk_drewN ?_ _ | refine blk_drew ?_ | refine blk_alloc ?_ _)); exact BK452.out) k_ hn_))⟩))
                         have n6_ := Aside0.mk (hb)
                         clear HO_0
                         clear BK452
                         clear HO460
                         clear HO465
                         clear HO468
                         clear HB
                         clear HO471
                         have HO_0 := n0_
                         have BK452 := n1_
                         have HO460 := n2_
                         have HO465 := n3_
                         have HO468 := n4_
                         have HO474 := n5_
                         have HB := n6_
                         clear n0_ n1_ n2_ n3_ n4_ n5_ n6_
                         (try clear hb)
                         (try clear hkp)
                         (try clear ho0)
                         refine hK.out _ _ trivial (fun hHeld => ?_)
                         clear hK K
                         refine norm_ (a' := ?_) ?_ ?_
                         rotate_left
                         · show Act.put _ (some 67) _ = _
                           simp only [Act.put, sx0, sx1, sx2, i64_w, i32_w]
                           rfl
                         refine pV_ (i := 11) (N := some 68) (bq [12, 3]) rfl rfl HT_.out ?_
                         refine pV_ (i := 12) (N := some 69) (bq [13, 2]) rfl rfl HT_.out ?_
                         refine pV_ (i := 13) (N := some 8) (bq [14, 1]) rfl rfl HT_.out ?_
                         refine pV_ (i := 14) (N := some 9) (bq [15]) rfl rfl HT_.out ?_
                         refine done_ (done_of HT_.out (by kernel_rfl)) ?_
                         try go_wp2
                         go_ret2
                         exact ⟨_, by first | rfl | (simp [errW_none, errW_some] <;> rfl) | (simp only [← hji30]; first | rfl | (simp [errW_none, errW_some] <;> rfl)) | (simp [*, errW_none, errW_some] <;> rfl), by (with_reducible repeat (first | apply qra | apply qrn | apply qrd)); exact Kd.R_mono HO474.out (fun _ hk => hk.1), by repeat (first | (with_reducible first | exact HB.out | apply qba | apply qbn | apply qb1 | refine below_set ?_ GE452.out) | exact HB.out)⟩
                       · rw [if_neg c32] at H
                         exact absurd H (by simp)
                     · rw [if_neg c31] at H
                       exact absurd H (by simp)
                   · rw [if_neg c29] at H
                     exact absurd H (by simp)
                 · rw [if_neg c28] at H
                   exact absurd H (by simp)
     · rw [if_neg c8] at H
       exact absurd H (by simp)
   · rw [if_neg c7] at H
     exact absurd H (by simp)
 · rw [if_neg c6] at H
   have c6b0 : (t450 == 0) = false := beq_eq_false_iff_ne.mpr c6
   have c6b1 : (t450 != 0) = true := bne_iff_ne.mpr c6
   simp only [Option.some.injEq, Prod.mk.injEq] at H
   obtain ⟨rfl, rfl⟩ := H
   go_enter Try.func71, Try.ntmps71
   go_wp2_with (first | ((with_reducible refine gate_callee (f := 146) rfl ?_); refine gL_ (some 18) rfl rfl Try.func146 #[.slice A0 l0.length c0, .int .i64 a1, .int .i64 a2, .int .i64 a3] rfl ?_; (with_reducible refine (impl_noteCode.calls k _ _ l0 a1 a2 a3 t450 _ ?side1 ?side2 A5.out).mono ?_); (case side1 => repeat (first | exact (Kd.V_reads' HO0.out).2.2 | (with_reducible refine Kd.C_alloc ?_ _) | (with_reducible refine Kd.C_drewN ?_ _) | (with_reducible refine Kd.C_drew ?_))); (case side2 => exact (Kd.V_reads' HO0.out).2.1); rintro e w45 ⟨rfl, hb⟩; refine ⟨_, rfl, ?_⟩; have n0_ := Aside0.mk (Kd.V_below (by (with_reducible repeat (first | apply Kd.V_alloc | apply Kd.V_drewN | apply Kd.V_drew)); exact HO0.out) hb); have n1_ := Aside0.mk (below_step (by repeat (first | (with_reducible first | exact HB.out | apply qba | apply qbn | apply qb1) | exact HB.out)) hb); clear HO0; clear HB; have HO0 := n0_; have HB := n1_; clear n0_ n1_; (try clear hb); (try clear hb2); (try clear hk); (try clear hi)))
   go_ret2
   exact ⟨_, by first | rfl | (simp [errW_none, errW_some] <;> rfl) | (simp [*, errW_none, errW_some] <;> rfl), by first | exact Kd.R_nil _ _ _ _ _ | exact Kd.N_nil _ _ _ _ _ | exact Kd.V_nil _ _ _ _ _ | exact Kd.Q_nil _ _ _ _ _ | exact Kd.S_nil _ _ _ _ _, by repeat (first | (with_reducible first | exact HB.out | apply qba | apply qbn | apply qb1) | exact HB.out)⟩

end Go.Proofs.Ytomeeimjlagbbaa.PU
