-- WRITTEN BY wip/gprint.py, a program of this session's over the kit's print, with contracts given by hand
import Derived.Test.YtomeeimjlagbbaaPUx0
import Derived.Test.YtomeeimjlagbbaaPUx11
import Derived.Test.YtomeeimjlagbbaaPUx12
import Derived.Test.YtomeeimjlagbbaaPUx13
namespace Go.Proofs.Ytomeeimjlagbbaa.PU
open Go.RowKit Go.Proofs.YtomeeimjlagbbaaW.PrintWords Go.Proofs.YtomeeimjlagbbaaW.PrintLast Go.Proofs.YtomeeimjlagbbaaW.PrintMore
attribute [local go_sem] max2_int min2_int max_two min_two max_three min_three max_four min_four   -- for this text's walks alone
set_option linter.unusedVariables false
set_option linter.unusedSimpArgs false

attribute [local go_sem] isSome_setCell
/-! ### impl_GraceNotes: function 68 -/
def impl_GraceNotes.f (k : Nat) (l0 : List (S40)) (a1 : Int) (a2 : Int) (a3 : Int) : Option ((List (S40)) × Int) := (impl_noteCode.f k l0 a1 a2 a3).bind fun t384 => (if t384 = 0 then (if 0 ≤ a1 then (if a1 < (l0.length : Int) then (if a3 ≥ ((rd_T40 l0 a1).f1) then (some (([] : List (S40)), 6)) else (if a1 ≤ (l0.length : Int) then (if 0 ≤ (wrap64 (a1 + 1)) then (if (wrap64 (a1 + 1)) ≤ (l0.length : Int) then ((impl_Note_99.f k (([(l0.take (a1 : Int).toNat), (([(⟨a2, a3⟩ : S40), (⟨(rd_T40 l0 a1).f0, wrap64 (((rd_T40 l0 a1).f1) - a3)⟩ : S40)] : List (S40))), (l0.drop ((wrap64 (a1 + 1)) : Int).toNat)] : List (List (S40))))).bind fun t403 => ((impl_checkedMelody.f t403).bind fun bt406 => (some (bt406.1, bt406.2)))) else (none)) else (none)) else (none))) else (none)) else (none)) else (some (([] : List (S40)), t384)))
theorem impl_GraceNotes.mono : ∀ a0 a1 a2 a3 k, LeO (impl_GraceNotes.f k a0 a1 a2 a3) (impl_GraceNotes.f (k + 1) a0 a1 a2 a3) := by
 intro a0 a1 a2 a3 k
 unfold impl_GraceNotes.f
 repeat' first
  | (with_reducible exact impl_Note_99.mono _ _)
  | (with_reducible exact impl_noteCode.mono _ _ _ _ _)
  | (with_reducible exact LeO.refl _)
  | (with_reducible exact LeO.none _)
  | (with_reducible refine LeO.ite ?_ ?_)
  | (with_reducible refine LeO.bind ?_ (fun _ => ?_))
  | exact impl_Note_99.mono _ _
  | exact impl_noteCode.mono _ _ _ _ _
  | exact LeO.none _
  | refine LeO.ite ?_ ?_
  | refine LeO.bind ?_ (fun _ => ?_)
def impl_GraceNotes.T7 : Bool × List (List Nat × List Nat) := (true, [([], []), ([], []), ([0, 1], [0, 1]), ([], []), ([], []), ([3, 4], [3, 4]), ([], []), ([6], [6]), ([], []), ([8], [8]), ([], []), ([9, 10], [9, 10]), ([7, 11], [7, 11]), ([5, 12], [5, 12]), ([], []), ([], []), ([15], [15]), ([14, 16], [14, 16]), ([2, 13, 17], [2, 13, 17]), ([18], [18]), ([19, 19], [19]), ([20], [20]), ([20], [20]), ([21, 20, 0, 1, 2, 3, 4, 5, 6, 7, 8, 9, 10, 11, 12, 13, 14, 15, 16, 17, 18, 19, 20, 21, 22], [21]), ([22, 23, 0, 1, 2, 3, 4, 5, 6, 7, 8, 9, 10, 11, 12, 13, 14, 15, 16, 17, 18, 19, 20, 21, 22, 23], [22])])
def impl_GraceNotes.B7 : List Nat := [0, 0, 3, 0, 0, 24, 0, 64, 0, 256, 0, 1792, 4032, 8184, 0, 0, 32768, 114688, 262143, 524287, 1048575, 2097151, 2097151, 8388607, 16777215]
theorem impl_GraceNotes.tab7 : rtab .any (opsOf Try.f68 7) = impl_GraceNotes.T7 := by kernel_rfl
theorem impl_GraceNotes.bits7 : waitsOk impl_GraceNotes.T7.2 impl_GraceNotes.B7 = true := by kernel_rfl
set_option maxHeartbeats 8000000 in
set_option maxRecDepth 100000 in
theorem impl_GraceNotes.calls (k : Nat) (P0_ : Nat → Prop) (A0 : Option Addr) (c0 : Nat) (l0 : List (S40)) (a1 : Int) (a2 : Int) (a3 : Int) (r1 : List (S40)) (r2 : Int) (w : World) (hs0 : Kd.V k40 40 w w.heap.size (fun k_ => P0_ k_) (.slice A0 l0.length c0) l0) (h : impl_GraceNotes.f k l0 a1 a2 a3 = some (r1, r2)) :
 Calls Try.prog 68 #[.slice A0 l0.length c0, .int .i64 a1, .int .i64 a2, .int .i64 a3] w fun e w' => ∃ v0_ : Value, e = .returned (.tuple #[v0_, .int .i64 r2]) ∧ Kd.R k40 40 w' w.heap.size (fun k_ => (w.heap.size ≤ k_)) v0_ r1 ∧ Below w.heap.size w w' := by
 have hu40 := Try.underlying40
 have HO0 := Aside0.mk (show Kd.V k40 40 w w.heap.size (fun k_ => (P0_ k_ ∨ w.heap.size ≤ k_)) (.slice A0 l0.length c0) l0 from Kd.V_mono hs0 (fun k_ hk => .inl hk))
 have HB := Aside0.mk (Below.refl w.heap.size w)
 have H : ((impl_noteCode.f k l0 a1 a2 a3).bind fun t384 => (if t384 = 0 then (if 0 ≤ a1 then (if a1 < (l0.length : Int) then (if a3 ≥ ((rd_T40 l0 a1).f1) then (some (([] : List (S40)), 6)) else (if a1 ≤ (l0.length : Int) then (if 0 ≤ (wrap64 (a1 + 1)) then (if (wrap64 (a1 + 1)) ≤ (l0.length : Int) then ((impl_Note_99.f k (([(l0.take (a1 : Int).toNat), (([(⟨a2, a3⟩ : S40), (⟨(rd_T40 l0 a1).f0, wrap64 (((rd_T40 l0 a1).f1) - a3)⟩ : S40)] : List (S40))), (l0.drop ((wrap64 (a1 + 1)) : Int).toNat)] : List (List (S40))))).bind fun t403 => ((impl_checkedMelody.f t403).bind fun bt406 => (some (bt406.1, bt406.2)))) else (none)) else (none)) else (none))) else (none)) else (none)) else (some (([] : List (S40)), t384)))) = some (r1, r2) := h
 clear h
 replace H := Option.bind_eq_some_iff.mp H
 obtain ⟨t384, A50, H⟩ := H
 replace H : (if t384 = 0 then (if 0 ≤ a1 then (if a1 < (l0.length : Int) then (if a3 ≥ ((rd_T40 l0 a1).f1) then (some (([] : List (S40)), 6)) else (if a1 ≤ (l0.length : Int) then (if 0 ≤ (wrap64 (a1 + 1)) then (if (wrap64 (a1 + 1)) ≤ (l0.length : Int) then ((impl_Note_99.f k (([(l0.take (a1 : Int).toNat), (([(⟨a2, a3⟩ : S40), (⟨(rd_T40 l0 a1).f0, wrap64 (((rd_T40 l0 a1).f1) - a3)⟩ : S40)] : List (S40))), (l0.drop ((wrap64 (a1 + 1)) : Int).toNat)] : List (List (S40))))).bind fun t403 => ((impl_checkedMelody.f t403).bind fun bt406 => (some (bt406.1, bt406.2)))) else (none)) else (none)) else (none))) else (none)) else (none)) else (some (([] : List (S40)), t384))) = some (r1, r2) := H
 have A5 := Aside0.mk A50
 clear A50
 by_cases c6 : t384 = 0
 · rw [if_pos c6] at H
   have c6b0 : (t384 == 0) = true := beq_iff_eq.mpr c6
   have c6b1 : (t384 != 0) = false := bne_eq_false_iff_eq.mpr c6
   clear c6
   by_cases c7 : 0 ≤ a1
   · rw [if_pos c7] at H
     have c7b0 : decide (0 ≤ a1) = true := decide_eq_true c7
     clear c7
     by_cases c8 : a1 < (l0.length : Int)
     · rw [if_pos c8] at H
       have c8b0 : decide (a1 < (l0.length : Int)) = true := decide_eq_true c8
       clear c8
       by_cases c9 : a3 ≥ ((rd_T40 l0 a1).f1)
       · rw [if_pos c9] at H
         have c9b0 : decide (((rd_T40 l0 a1).f1) ≤ a3) = true := decide_eq_true c9
         clear c9
         simp only [Option.some.injEq, Prod.mk.injEq] at H
         obtain ⟨rfl, rfl⟩ := H
         go_enter Try.func68, Try.ntmps68
         go_wp2_with (first | ((with_reducible refine gate_callee (f := 146) rfl ?_); refine gL_ (some 16) rfl rfl Try.func146 #[.slice A0 l0.length c0, .int .i64 a1, .int .i64 a2, .int .i64 a3] rfl ?_; (with_reducible refine (impl_noteCode.calls k _ _ l0 a1 a2 a3 t384 _ ?side1 ?side2 A5.out).mono ?_); (case side1 => repeat (first | exact (Kd.V_reads' HO0.out).2.2 | (with_reducible refine Kd.C_alloc ?_ _) | (with_reducible refine Kd.C_drewN ?_ _) | (with_reducible refine Kd.C_drew ?_))); (case side2 => exact (Kd.V_reads' HO0.out).2.1); rintro e w10 ⟨rfl, hb⟩; refine ⟨_, rfl, ?_⟩; have n0_ := Aside0.mk (Kd.V_below (by (with_reducible repeat (first | apply Kd.V_alloc | apply Kd.V_drewN | apply Kd.V_drew)); exact HO0.out) hb); have n1_ := Aside0.mk (below_step (by repeat (first | (with_reducible first | exact HB.out | apply qba | apply qbn | apply qb1) | exact HB.out)) hb); clear HO0; clear HB; have HO0 := n0_; have HB := n1_; clear n0_ n1_; (try clear hb); (try clear hb2); (try clear hk); (try clear hi); have p385 : 0 ≤ (a1 : Int) := of_decide_eq_true (by first | (with_reducible assumption) | assumption); have q385 : a1 < (l0.length : Int) := of_decide_eq_true (by first | (with_reducible assumption) | assumption); obtain ⟨ad385, e385, hx385_0, hx385_1⟩ := at_T40 (Kd.V_reads' HO0.out).2.2 a1 p385 q385; cases e385; replace p385 := eq_true p385; replace q385 := eq_true q385) | ((with_reducible refine gate_dst (N := 11) rfl ?_); refine box_event ?hg (N := 11) ?hd (cs := #[.int .i64 0, .int .i64 0]) (t := 40) ?hr ?_; (case hd => rfl); (case hg => rfl); (case hr => first | (go_simp; done) | (go_simp; rfl)); intro gb386 hg w11 hbox hb; have n0_ := Aside0.mk (Kd.V_below (Kd.V_elderB (by (with_reducible repeat (first | apply Kd.V_alloc | apply Kd.V_drewN | apply Kd.V_drew)); exact HO0.out) gb386 (Nat.le_of_eq hg.symm)) hb); have n1_ := Aside0.mk (below_step (by repeat (first | (with_reducible first | exact HB.out | apply qba | apply qbn | apply qb1) | exact HB.out)) hb); have n2_ := Aside0.mk (hbox); have n3_ := Aside0.mk ((by rw [hg]; exact (below_size (by repeat (first | (with_reducible first | exact HB.out | apply qba | apply qbn | apply qb1) | exact HB.out))) : w.heap.size ≤ gb386)); have n4_ := Aside0.mk ((by rw [hg]; exact (below_size (by repeat (first | (with_reducible first | exact HB.out | apply qba | apply qbn | apply qb1) | exact HB.out))) : w.heap.size ≤ gb386)); clear HO0; clear HB; have HO0 := n0_; have HB := n1_; have BK386 := n2_; have GW386 := n3_; have GE386 := n4_; clear n0_ n1_ n2_ n3_ n4_; clear hb hbox hg; have hcz12_0 : w11.cell? ⟨gb386, 0, none⟩ = some (.int .i64 0) := (blk_cell BK386.out 0).trans rfl; have hcz12_1 : w11.cell? ⟨gb386, 1, none⟩ = some (.int .i64 0) := (blk_cell BK386.out 1).trans rfl; have hfz12_0 := blk_frozen BK386.out 0; have hfz12_1 := blk_frozen BK386.out 1))
         go_ret2
         exact ⟨_, by first | rfl | (simp [errW_none, errW_some] <;> rfl) | (simp [*, errW_none, errW_some] <;> rfl), by first | exact Kd.R_nil _ _ _ _ _ | exact Kd.N_nil _ _ _ _ _ | exact Kd.V_nil _ _ _ _ _ | exact Kd.Q_nil _ _ _ _ _ | exact Kd.S_nil _ _ _ _ _, by repeat (first | (with_reducible first | exact HB.out | apply qba | apply qbn | apply qb1 | refine below_set ?_ GE386.out) | exact HB.out)⟩
       · rw [if_neg c9] at H
         have c9b0 : decide (((rd_T40 l0 a1).f1) ≤ a3) = false := decide_eq_false c9
         clear c9
         have c13b0 := eq_true (of_decide_eq_true (by first | (with_reducible assumption) | assumption) : 0 ≤ a1)
         by_cases c14 : a1 ≤ (l0.length : Int)
         · rw [if_pos c14] at H
           have c14b0 := eq_true c14
           have c14b1 : decide (a1 ≤ (l0.length : Int)) = true := decide_eq_true c14
           clear c14
           obtain ⟨y387, hy387⟩ : ∃ y_ : List (S40), y_ = (l0.take (a1 : Int).toNat) := ⟨_, rfl⟩
           replace H : (if 0 ≤ (wrap64 (a1 + 1)) then (if (wrap64 (a1 + 1)) ≤ (l0.length : Int) then ((impl_Note_99.f k (([y387, (([(⟨a2, a3⟩ : S40), (⟨(rd_T40 l0 a1).f0, wrap64 (((rd_T40 l0 a1).f1) - a3)⟩ : S40)] : List (S40))), (l0.drop ((wrap64 (a1 + 1)) : Int).toNat)] : List (List (S40))))).bind fun t403 => ((impl_checkedMelody.f t403).bind fun bt406 => (some (bt406.1, bt406.2)))) else (none)) else (none)) = some (r1, r2) := by first | (rw [hy387]; with_reducible exact H) | (have H2_ := (Option.bind_some _ _).symm.trans H; rw [hy387]; with_reducible exact H2_) | (have H2_ := (Option.bind_some _ _).symm.trans H; with_reducible exact H2_) | with_reducible exact H | (rw [hy387]; exact H) | exact H
           have Ny387 := Aside0.mk hy387
           clear hy387
           obtain ⟨y392, hy392⟩ : ∃ y_ : List (S40), y_ = (([(⟨a2, a3⟩ : S40), (⟨(rd_T40 l0 a1).f0, wrap64 (((rd_T40 l0 a1).f1) - a3)⟩ : S40)] : List (S40))) := ⟨_, rfl⟩
           replace H : (if 0 ≤ (wrap64 (a1 + 1)) then (if (wrap64 (a1 + 1)) ≤ (l0.length : Int) then ((impl_Note_99.f k (([y387, y392, (l0.drop ((wrap64 (a1 + 1)) : Int).toNat)] : List (List (S40))))).bind fun t403 => ((impl_checkedMelody.f t403).bind fun bt406 => (some (bt406.1, bt406.2)))) else (none)) else (none)) = some (r1, r2) := by first | (rw [hy392]; with_reducible exact H) | (have H2_ := (Option.bind_some _ _).symm.trans H; rw [hy392]; with_reducible exact H2_) | (have H2_ := (Option.bind_some _ _).symm.trans H; with_reducible exact H2_) | with_reducible exact H | (rw [hy392]; exact H) | exact H
           have Ny392 := Aside0.mk hy392
           clear hy392
           obtain ⟨ji15, hji15⟩ : ∃ j_ : Int, (wrap64 (a1 + 1)) = j_ := ⟨_, rfl⟩
           replace H : (if 0 ≤ (ji15) then (if (ji15) ≤ (l0.length : Int) then ((impl_Note_99.f k (([y387, y392, (l0.drop ((ji15) : Int).toNat)] : List (List (S40))))).bind fun t403 => ((impl_checkedMelody.f t403).bind fun bt406 => (some (bt406.1, bt406.2)))) else (none)) else (none)) = some (r1, r2) := by first | (rw [hji15] at H; exact H) | (simp only [hji15] at H ⊢; exact H)
           (try rw [hji15] at A5)
           have hji15w : (IntKind.i64.wrap (a1 + 1)) = ji15 := (i64_w _).trans hji15
           by_cases c16 : 0 ≤ (ji15)
           · rw [if_pos c16] at H
             have c16b0 := eq_true c16
             have c16b1 : decide (0 ≤ (ji15)) = true := decide_eq_true c16
             clear c16
             by_cases c17 : (ji15) ≤ (l0.length : Int)
             · rw [if_pos c17] at H
               have c17b0 := eq_true c17
               have c17b1 : decide ((ji15) ≤ (l0.length : Int)) = true := decide_eq_true c17
               clear c17
               obtain ⟨y395, hy395⟩ : ∃ y_ : List (S40), y_ = (l0.drop ((ji15) : Int).toNat) := ⟨_, rfl⟩
               replace H : ((impl_Note_99.f k (([y387, y392, y395] : List (List (S40))))).bind fun t403 => ((impl_checkedMelody.f t403).bind fun bt406 => (some (bt406.1, bt406.2)))) = some (r1, r2) := by first | (rw [hy395]; with_reducible exact H) | (have H2_ := (Option.bind_some _ _).symm.trans H; rw [hy395]; with_reducible exact H2_) | (have H2_ := (Option.bind_some _ _).symm.trans H; with_reducible exact H2_) | with_reducible exact H | (rw [hy395]; exact H) | exact H
               have Ny395 := Aside0.mk hy395
               clear hy395
               obtain ⟨y400, hy400⟩ : ∃ y_ : List (List (S40)), y_ = (([y387, y392, y395] : List (List (S40)))) := ⟨_, rfl⟩
               replace H : ((impl_Note_99.f k y400).bind fun t403 => ((impl_checkedMelody.f t403).bind fun bt406 => (some (bt406.1, bt406.2)))) = some (r1, r2) := by first | (rw [hy400]; with_reducible exact H) | (have H2_ := (Option.bind_some _ _).symm.trans H; rw [hy400]; with_reducible exact H2_) | (have H2_ := (Option.bind_some _ _).symm.trans H; with_reducible exact H2_) | with_reducible exact H | (rw [hy400]; exact H) | exact H
               have Ny400 := Aside0.mk hy400
               clear hy400
               replace H := Option.bind_eq_some_iff.mp H
               obtain ⟨t403, A180, H⟩ := H
               replace H : ((impl_checkedMelody.f t403).bind fun bt406 => (some (bt406.1, bt406.2))) = some (r1, r2) := H
               have A18 := Aside0.mk A180
               clear A180
               replace H := Option.bind_eq_some_iff.mp H
               obtain ⟨⟨t406, t409⟩, A190, H⟩ := H
               replace H : (some (t406, t409)) = some (r1, r2) := H
               have A19 := Aside0.mk A190
               clear A190
               simp only [Option.some.injEq, Prod.mk.injEq] at H
               obtain ⟨rfl, rfl⟩ := H
               go_enter Try.func68, Try.ntmps68
               try go_wp2_with (first | ((with_reducible refine gate_callee (f := 146) rfl ?_); refine gL_ (some 16) rfl rfl Try.func146 #[.slice A0 l0.length c0, .int .i64 a1, .int .i64 a2, .int .i64 a3] rfl ?_; (with_reducible refine (impl_noteCode.calls k _ _ l0 a1 a2 a3 t384 _ ?side1 ?side2 A5.out).mono ?_); (case side1 => repeat (first | exact (Kd.V_reads' HO0.out).2.2 | (with_reducible refine Kd.C_alloc ?_ _) | (with_reducible refine Kd.C_drewN ?_ _) | (with_reducible refine Kd.C_drew ?_))); (case side2 => exact (Kd.V_reads' HO0.out).2.1); rintro e w20 ⟨rfl, hb⟩; refine ⟨_, rfl, ?_⟩; have n0_ := Aside0.mk (Kd.V_below (by (with_reducible repeat (first | apply Kd.V_alloc | apply Kd.V_drewN | apply Kd.V_drew)); exact HO0.out) hb); have n1_ := Aside0.mk (below_step (by repeat (first | (with_reducible first | exact HB.out | apply qba | apply qbn | apply qb1) | exact HB.out)) hb); clear HO0; clear HB; have HO0 := n0_; have HB := n1_; clear n0_ n1_; (try clear hb); (try clear hb2); (try clear hk); (try clear hi); have p385 : 0 ≤ (a1 : Int) := of_decide_eq_true (by first | (with_reducible assumption) | assumption); have q385 : a1 < (l0.length : Int) := of_decide_eq_true (by first | (with_reducible assumption) | assumption); obtain ⟨ad385, e385, hx385_0, hx385_1⟩ := at_T40 (Kd.V_reads' HO0.out).2.2 a1 p385 q385; cases e385; replace p385 := eq_true p385; replace q385 := eq_true q385) | ((with_reducible refine gate_dst (N := 11) rfl ?_); refine box_event ?hg (N := 11) ?hd (cs := #[.int .i64 0, .int .i64 0]) (t := 40) ?hr ?_; (case hd => rfl); (case hg => rfl); (case hr => first | (go_simp; done) | (go_simp; rfl)); intro gb386 hg w21 hbox hb; have n0_ := Aside0.mk (Kd.V_below (Kd.V_elderB (by (with_reducible repeat (first | apply Kd.V_alloc | apply Kd.V_drewN | apply Kd.V_drew)); exact HO0.out) gb386 (Nat.le_of_eq hg.symm)) hb); have n1_ := Aside0.mk (below_step (by repeat (first | (with_reducible first | exact HB.out | apply qba | apply qbn | apply qb1) | exact HB.out)) hb); have n2_ := Aside0.mk (hbox); have n3_ := Aside0.mk ((by rw [hg]; exact (below_size (by repeat (first | (with_reducible first | exact HB.out | apply qba | apply qbn | apply qb1) | exact HB.out))) : w.heap.size ≤ gb386)); have n4_ := Aside0.mk ((by rw [hg]; exact (below_size (by repeat (first | (with_reducible first | exact HB.out | apply qba | apply qbn | apply qb1) | exact HB.out))) : w.heap.size ≤ gb386)); clear HO0; clear HB; have HO0 := n0_; have HB := n1_; have BK386 := n2_; have GW386 := n3_; have GE386 := n4_; clear n0_ n1_ n2_ n3_ n4_; clear hb hbox hg; have hcz22_0 : w21.cell? ⟨gb386, 0, none⟩ = some (.int .i64 0) := (blk_cell BK386.out 0).trans rfl; have hcz22_1 : w21.cell? ⟨gb386, 1, none⟩ = some (.int .i64 0) := (blk_cell BK386.out 1).trans rfl; have hfz22_0 := blk_frozen BK386.out 0; have hfz22_1 := blk_frozen BK386.out 1))
               have n0_ : Aside0 (Kd.V k40 40 ((w21.setCell ⟨gb386, 0, none⟩ (.int .i64 ((rd_T40 l0 a1).f0))).setCell ⟨gb386, 1, none⟩ (.int .i64 ((rd_T40 l0 a1).f1))) w.heap.size (fun k_ => (P0_ k_ ∨ w.heap.size ≤ k_) ∧ k_ ≠ gb386) (.slice (some ad385) l0.length c0) l0) := ⟨by (with_reducible repeat (first | apply Kd.V_alloc | apply Kd.V_drewN | apply Kd.V_drew)); exact Kd.V_mono (Kd.V_far (p := ⟨gb386, 1, none⟩) (Kd.V_far (p := ⟨gb386, 0, none⟩) (Kd.V_mono HO0.out (fun k_ hk => (⟨hk, hk.2⟩ : _ ∧ k_ ≠ gb386))) (fun _ hk => hk.2) (.int .i64 ((rd_T40 l0 a1).f0))) (fun _ hk => hk.2) (.int .i64 ((rd_T40 l0 a1).f1))) (fun _ hk => ⟨hk.1.1, hk.1.2⟩)⟩
               have n1_ : Aside0 (((w21.setCell ⟨gb386, 0, none⟩ (.int .i64 ((rd_T40 l0 a1).f0))).setCell ⟨gb386, 1, none⟩ (.int .i64 ((rd_T40 l0 a1).f1))).heap[gb386]? = some (.cells #[.int .i64 ((rd_T40 l0 a1).f0), .int .i64 ((rd_T40 l0 a1).f1)] 40 (0, 0))) := ⟨by (with_reducible repeat (first | refine blk_drewN ?_ _ | refine blk_drew ?_ | refine blk_alloc ?_ _)); refine blk_put (cs := #[.int .i64 ((rd_T40 l0 a1).f0), .int .i64 0]) ?_ 1 _ rfl; (with_reducible repeat (first | refine blk_drewN ?_ _ | refine blk_drew ?_ | refine blk_alloc ?_ _)); refine blk_put (cs := #[.int .i64 0, .int .i64 0]) ?_ 0 _ rfl; (with_reducible repeat (first | refine blk_drewN ?_ _ | refine blk_drew ?_ | refine blk_alloc ?_ _)); exact BK386.out⟩
               have n2_ : Aside0 (Below w.heap.size w ((w21.setCell ⟨gb386, 0, none⟩ (.int .i64 ((rd_T40 l0 a1).f0))).setCell ⟨gb386, 1, none⟩ (.int .i64 ((rd_T40 l0 a1).f1)))) := ⟨by repeat (first | (with_reducible first | exact HB.out | apply qba | apply qbn | apply qb1 | refine below_set ?_ GE386.out) | exact HB.out)⟩
               (try clear HO0)
               (try clear BK386)
               (try clear HB)
               generalize ((w21.setCell ⟨gb386, 0, none⟩ (.int .i64 ((rd_T40 l0 a1).f0))).setCell ⟨gb386, 1, none⟩ (.int .i64 ((rd_T40 l0 a1).f1))) = w23 at n0_ n1_ n2_ ⊢
               have HO0 := n0_
               have BK386 := n1_
               have HB := n2_
               clear n0_ n1_ n2_
               have n0_ := Aside0.mk (Kd.V_drew HO0.out)
               have n1_ := Aside0.mk (blk_drew BK386.out)
               have n2_ := Aside0.mk (below_drew1 HB.out)
               clear HO0
               clear BK386
               clear HB
               have HO0 := n0_
               have BK386 := n1_
               have HB := n2_
               clear n0_ n1_ n2_
               have q25 : (a1 : Int) ≤ ((l0.length : Int) : Int) := of_decide_eq_true (by first | (with_reducible assumption) | assumption)
               obtain ⟨i025, hi025, _, hsz25, _⟩ := info_parts info40
               have hroom25 : l0.length ≤ c0 := (Kd.V_reads' HO0.out).2.1
               have hC25 : Kd.F k40 _ _ (some ad385) l0.length l0 := (Kd.V_at (base := w.heap.size) HO0.out).2.2
               have hcut25 := cut_to (P := Try.prog) 31 40 .i64 Try.underlying31 hi025 (some ad385) l0.length c0 a1 (of_decide_eq_true (by first | (with_reducible assumption) | assumption)) q25 hroom25
               have hr25 := Kd.F_take (m := (a1 : Int).toNat) hC25 (by omega)
               have hy25 : y387.length = (a1 : Int).toNat := (by rw [Ny387.out, List.length_take]; omega)
               rw [← Ny387.out] at hr25
               rw [← hy25] at hcut25
               have HO391 := Aside0.mk (show Kd.V k40 40 _ w.heap.size _ (.slice (some ad385) y387.length c0) y387 from Kd.V_mk (by omega) hr25)
               have HC391 := Aside0.mk (show y387.length ≤ c0 from by omega)
               clear hr25 hC25 hroom25 hi025 hsz25
               have KY25 := Aside0.mk hy25
               clear hy25
               replace q25 := eq_true q25
               have q26 : ((ji15) : Int) ≤ ((l0.length : Int) : Int) := of_decide_eq_true (by first | (with_reducible assumption) | assumption)
               obtain ⟨i026, hi026, _, hsz26, _⟩ := info_parts info40
               have hroom26 : l0.length ≤ c0 := (Kd.V_reads' HO0.out).2.1
               have hC26 : Kd.F k40 _ _ (some ad385) l0.length l0 := (Kd.V_at (base := w.heap.size) HO0.out).2.2
               have q026 : (0 : Int) ≤ ((ji15) : Int) := of_decide_eq_true (by first | (with_reducible assumption) | assumption)
               have hcut26 := cut_from (P := Try.prog) 31 40 .i64 Try.underlying31 hi026 2 hsz26 (some ad385) l0.length c0 (ji15) q026 q26
               have hr26 := Kd.F_cut (m := ((ji15) : Int).toNat) (c := c0) hC26 (by omega) hroom26
               obtain ⟨A26, hA26⟩ : ∃ A1, A1 = (if c0 = ((ji15) : Int).toNat then (some ad385) else ((some ad385) : Option Addr).map (·.add (((ji15) : Int).toNat * 2))) := ⟨_, rfl⟩
               obtain ⟨c26, hc26⟩ : ∃ c1, c1 = c0 - ((ji15) : Int).toNat := ⟨_, rfl⟩
               have hy26 : y395.length = l0.length - ((ji15) : Int).toNat := (by rw [Ny395.out, List.length_drop] <;> omega)
               rw [show (l0).drop ((ji15) : Int).toNat = y395 from Ny395.out.symm] at hr26
               replace hr26 : Kd.F k40 _ _ A26 y395.length y395 := (by rw [hA26]; exact hr26)
               rw [← hy26, ← hA26, ← hc26] at hcut26
               have HO399 := Aside0.mk (show Kd.V k40 40 _ w.heap.size _ (.slice A26 y395.length c26) y395 from Kd.V_mk (by rw [hy26, hc26]; exact Nat.sub_le_sub_right hroom26 _) hr26)
               have HC399 := Aside0.mk (show y395.length ≤ c26 from by rw [hy26, hc26]; exact Nat.sub_le_sub_right hroom26 _)
               clear hr26 hC26 hroom26 hi026 hsz26 hc26
               have KY26 := Aside0.mk hy26
               have KA26 := Aside0.mk hA26
               clear hy26 hA26
               replace q26 := eq_true q26
               refine start_ (n := 25) (S := fun w' => w'.cell? ⟨gb386, 0, none⟩ = some (.int .i64 ((rd_T40 l0 a1).f0)) ∧ w'.cell? ⟨gb386, 1, none⟩ = some (.int .i64 ((rd_T40 l0 a1).f1))) (ds := []) (bq [0, 25]) (by kernel_rfl) rfl rfl ⟨(blk_cell BK386.out 0).trans rfl, (blk_cell BK386.out 1).trans rfl⟩ (fun hHeld => ?_); refine with_tabW impl_GraceNotes.tab7 impl_GraceNotes.bits7 (fun HT_ HW_ => ?_)
               generalize w23.drew = w24 at HO0 BK386 HB HO391 HO399 hHeld ⊢
               refine pV_ (i := 0) (N := some 28) (bq [1, 24]) rfl rfl HT_.out ?_
               refine pV_ (i := 1) (N := some 29) (bq [2, 23]) rfl rfl HT_.out ?_
               refine pV_ (i := 2) (N := some 30) (bq [3, 22]) rfl rfl HT_.out ?_
               refine pV_ (i := 3) (N := some 31) (bq [4, 21]) rfl rfl HT_.out ?_
               refine pV_ (i := 4) (N := some 32) (bq [5, 20]) rfl rfl HT_.out ?_
               refine pV_ (i := 5) (N := some 33) (bq [6, 19]) rfl rfl HT_.out ?_
               refine pV_ (i := 6) (N := some 34) (bq [7, 18]) rfl rfl HT_.out ?_
               refine pV_ (i := 8) (N := some 36) (bq [7, 1, 1, 16]) rfl rfl HT_.out ?_
               refine pV_ (i := 10) (N := some 38) (bq [7, 1, 1, 1, 1, 14]) rfl rfl HT_.out ?_
               refine pV_ (i := 14) (N := some 42) (bq [7, 1, 1, 1, 1, 3, 1, 10]) rfl rfl HT_.out ?_
               refine pV_ (i := 15) (N := some 43) (bq [7, 1, 1, 1, 1, 3, 2, 9]) rfl rfl HT_.out ?_
               refine pV_ (i := 16) (N := some 44) (bq [7, 1, 1, 1, 1, 3, 3, 8]) rfl rfl HT_.out ?_
               refine pV_ (i := 17) (N := some 45) (bq [7, 1, 1, 1, 1, 3, 4, 7]) rfl rfl HT_.out ?_
               refine take_ (i := 7) (N := some 35) (v := ?_) (a' := ?_) (bq [9, 1, 1, 3, 4, 7]) rfl rfl (take_ofW HT_.out HW_.out (by kernel_rfl)) (fun _ _ _ h => h) (Or.inl ⟨by rfl, ?_⟩) hHeld ?_ ?_
               rotate_left
               · rintro w' ⟨s0, s1⟩
                 go_simp
                 with_reducible rfl
               rotate_left
               · simp only [Act.put, sx0, sx1, sx2, i64_w, i32_w]
                 rfl
               refine take_ (i := 9) (N := some 37) (v := ?_) (a' := ?_) (bq [11, 3, 4, 7]) rfl rfl (take_ofW HT_.out HW_.out (by kernel_rfl)) (fun _ _ _ h => h) (Or.inl ⟨by rfl, ?_⟩) hHeld ?_ ?_
               rotate_left
               · rintro w' ⟨s0, s1⟩
                 go_simp
                 with_reducible rfl
               rotate_left
               · simp only [Act.put, sx0, sx1, sx2, i64_w, i32_w]
                 rfl
               refine pV_ (i := 11) (N := some 39) (bq [12, 2, 4, 7]) rfl rfl HT_.out ?_
               refine pV_ (i := 12) (N := some 40) (bq [13, 1, 4, 7]) rfl rfl HT_.out ?_
               refine one_ (i := 13) (N := some 41) (bq [18, 7]) rfl rfl (one_of HT_.out (by kernel_rfl)) (by decide) (fun K hK => ?_)
               refine Kd.R_lit_step k40 _ 40 ?hg (N := 41) ?hd (xs := ([(⟨a2, a3⟩ : S40), (⟨(rd_T40 l0 a1).f0, wrap64 (((rd_T40 l0 a1).f1) - a3)⟩ : S40)] : List (S40))) (inner := [.int .i64 a2, .int .i64 a3, .int .i64 ((rd_T40 l0 a1).f0), .int .i64 (wrap64 (((rd_T40 l0 a1).f1) - a3))]) (ok := fun _ => True) (okp := fun _ => True) ?hr ?hp (fun _ hk => hk) trivial (Below.refl _ _) (Nat.le_refl _) (by simp) ?_; (case hd => rfl); (case hg => rfl); (case hr => first | (go_simp; done) | (go_simp; rfl)); (case hp => exact (Reps.c2 (show Kd.M k40 _ _ _ (⟨a2, a3⟩ : S40) [.int .i64 a2, .int .i64 a3] from (k40_mkM _ _ _ (⟨a2, a3⟩ : S40) )) (Reps.c2 (show Kd.M k40 _ _ _ (⟨(rd_T40 l0 a1).f0, wrap64 (((rd_T40 l0 a1).f1) - a3)⟩ : S40) [.int .i64 ((rd_T40 l0 a1).f0), .int .i64 (wrap64 (((rd_T40 l0 a1).f1) - a3))] from (k40_mkM _ _ _ (⟨(rd_T40 l0 a1).f0, wrap64 (((rd_T40 l0 a1).f1) - a3)⟩ : S40) )) (Reps.none _ _))))
               intro v393 w27 ho28 hb hg_ hnew_
               clear hg_ hnew_
               (first | rw [← Ny392.out] at ho28 | (simp only [Int.reduceToNat] at ho28; rw [← Ny392.out] at ho28))
               have n0_ := Aside0.mk (Kd.V_elder' (by (with_reducible repeat (first | apply Kd.V_alloc | apply Kd.V_drewN | apply Kd.V_drew)); exact HO0.out) (Kd.R_base ho28) hb)
               have n1_ := Aside0.mk (Kd.V_elder' (by (with_reducible repeat (first | apply Kd.V_alloc | apply Kd.V_drewN | apply Kd.V_drew)); exact HO391.out) (Kd.R_base ho28) hb)
               have n2_ := Aside0.mk (Kd.V_elder' (by (with_reducible repeat (first | apply Kd.V_alloc | apply Kd.V_drewN | apply Kd.V_drew)); exact HO399.out) (Kd.R_base ho28) hb)
               have n3_ := Aside0.mk (Kd.R_lower (Kd.R_newB (Kd.R_newM (M := fun k_ => (w.heap.size ≤ k_)) ho28 (below_size (by repeat (first | (with_reducible first | exact HB.out | apply qba | apply qbn | apply qb1 | refine below_set ?_ GE386.out) | exact HB.out))) (fun k_ h_ => h_)) (g := gb386) (o := .cells #[.int .i64 ((rd_T40 l0 a1).f0), .int .i64 ((rd_T40 l0 a1).f1)] 40 (0, 0)) (by (with_reducible repeat (first | refine blk_drewN ?_ _ | refine blk_drew ?_ | refine blk_alloc ?_ _)); exact BK386.out)) (below_size (by repeat (first | (with_reducible first | exact HB.out | apply qba | apply qbn | apply qb1 | refine below_set ?_ GE386.out) | exact HB.out))))
               have n4_ := Aside0.mk (blk_below (g := gb386) (o := .cells #[.int .i64 ((rd_T40 l0 a1).f0), .int .i64 ((rd_T40 l0 a1).f1)] 40 (0, 0)) (by (with_reducible repeat (first | refine blk_drewN ?_ _ | refine blk_drew ?_ | refine blk_alloc ?_ _)); exact BK386.out) hb)
               have n5_ := Aside0.mk (below_step (by repeat (first | (with_reducible first | exact HB.out | apply qba | apply qbn | apply qb1 | refine below_set ?_ GE386.out) | exact HB.out)) hb)
               clear HO0
               clear HO391
               clear HO399
               clear BK386
               clear HB
               have HO0 := n0_
               have HO391 := n1_
               have HO399 := n2_
               have HO394 := n3_
               have BK386 := n4_
               have HB := n5_
               clear n0_ n1_ n2_ n3_ n4_ n5_
               clear hb ho28
               obtain ⟨Ao29, co29, eo29⟩ := Kd.R_slice HO394.out
               (first | subst eo29 | (injection eo29 with f1_ f2_ f3_; have f4_ := f1_.symm; have f5_ := f3_.symm; clear f1_ f2_ f3_; subst f4_; subst f5_))
               refine hK.out _ _ ⟨(blk_cell BK386.out 0).trans rfl, (blk_cell BK386.out 1).trans rfl⟩ (fun hHeld => ?_)
               clear hK K
               refine norm_ (a' := ?_) ?_ ?_
               rotate_left
               · show Act.put _ (some 41) _ = _
                 simp only [Act.put, sx0, sx1, sx2, i64_w, i32_w]
                 rfl
               refine one_ (i := 18) (N := some 46) (bq [19, 6]) rfl rfl (one_of HT_.out (by kernel_rfl)) (by decide) (fun K hK => ?_)
               refine Kd.N_lit_step (Kd.slice 40 k40) _ 31 ?hg (N' := 46) ?hd (xs := ([y387, y392, y395] : List (List (S40)))) (inner := [.slice (some ad385) y387.length c0, .slice Ao29 y392.length co29, .slice A26 y395.length c26]) (ok := (fun k_ => (P0_ k_ ∨ w.heap.size ≤ k_) ∧ k_ ≠ gb386)) (okp := (fun k_ => (P0_ k_ ∨ w.heap.size ≤ k_) ∧ k_ ≠ gb386)) ?hr ?hp (fun _ hk => hk) ((show ∀ k_, w27.heap.size ≤ k_ → (fun k_ => (P0_ k_ ∨ w.heap.size ≤ k_) ∧ k_ ≠ gb386) k_ from fun k_ hk => ⟨(.inr (Nat.le_trans (below_size (by repeat (first | (with_reducible first | exact HB.out | apply qba | apply qbn | apply qb1 | refine below_set ?_ GE386.out) | exact HB.out))) hk)), Kd.freshB (g := gb386) (o := .cells #[.int .i64 ((rd_T40 l0 a1).f0), .int .i64 ((rd_T40 l0 a1).f1)] 40 (0, 0)) (by (with_reducible repeat (first | refine blk_drewN ?_ _ | refine blk_drew ?_ | refine blk_alloc ?_ _)); exact BK386.out) k_ hk⟩) _ (Nat.le_refl _)) (Below.refl _ _) (Nat.le_refl _) (by simp) ?_; (case hd => rfl); (case hg => rfl); (case hr => first | (go_simp; done) | (go_simp; rfl)); (case hp => exact (Reps.one (show Kd.FK (Kd.slice 40 k40) _ _ y387 [.slice (some ad385) y387.length c0] from (Kd.FK_slice_mk (Kd.V_reads' (Kd.V_mono (ok' := (fun k_ => (P0_ k_ ∨ w.heap.size ≤ k_) ∧ k_ ≠ gb386)) (HO391.out) (fun k_ hk => ⟨hk.1.1, hk.1.2⟩))).2.1 (Kd.V_F (Kd.V_mono (ok' := (fun k_ => (P0_ k_ ∨ w.heap.size ≤ k_) ∧ k_ ≠ gb386)) (HO391.out) (fun k_ hk => ⟨hk.1.1, hk.1.2⟩))))) (Reps.one (show Kd.FK (Kd.slice 40 k40) _ _ y392 [.slice Ao29 y392.length co29] from (Kd.FK_slice_mk (Kd.R_reads' (Kd.R_mono (ok' := (fun k_ => (P0_ k_ ∨ w.heap.size ≤ k_) ∧ k_ ≠ gb386)) (HO394.out) (fun k_ hk => ⟨(.inr (hk.1.1)), hk.2⟩))).2.1 (Kd.R_F (Kd.R_mono (ok' := (fun k_ => (P0_ k_ ∨ w.heap.size ≤ k_) ∧ k_ ≠ gb386)) (HO394.out) (fun k_ hk => ⟨(.inr (hk.1.1)), hk.2⟩))))) (Reps.one (show Kd.FK (Kd.slice 40 k40) _ _ y395 [.slice A26 y395.length c26] from (Kd.FK_slice_mk (Kd.V_reads' (Kd.V_mono (ok' := (fun k_ => (P0_ k_ ∨ w.heap.size ≤ k_) ∧ k_ ≠ gb386)) (HO399.out) (fun k_ hk => ⟨hk.1.1, hk.1.2⟩))).2.1 (Kd.V_F (Kd.V_mono (ok' := (fun k_ => (P0_ k_ ∨ w.heap.size ≤ k_) ∧ k_ ≠ gb386)) (HO399.out) (fun k_ hk => ⟨hk.1.1, hk.1.2⟩))))) (Reps.none _ _)))))
               intro v401 w30 ho31 hb hg_ hnew_
               clear hg_ hnew_
               (first | rw [← Ny400.out] at ho31 | (simp only [Int.reduceToNat] at ho31; rw [← Ny400.out] at ho31))
               have n0_ := Aside0.mk (Kd.V_elder' (by (with_reducible repeat (first | apply Kd.V_alloc | apply Kd.V_drewN | apply Kd.V_drew)); exact HO0.out) (Kd.N_base ho31) hb)
               have n1_ := Aside0.mk (Kd.V_elder' (by (with_reducible repeat (first | apply Kd.V_alloc | apply Kd.V_drewN | apply Kd.V_drew)); exact HO391.out) (Kd.N_base ho31) hb)
               have n2_ := Aside0.mk (Kd.V_elder' (by (with_reducible repeat (first | apply Kd.V_alloc | apply Kd.V_drewN | apply Kd.V_drew)); exact HO399.out) (Kd.N_base ho31) hb)
               have n3_ := Aside0.mk (Kd.N_lower ho31 (below_size (by repeat (first | (with_reducible first | exact HB.out | apply qba | apply qbn | apply qb1 | refine below_set ?_ GE386.out) | exact HB.out))))
               have n4_ := Aside0.mk (blk_below (g := gb386) (o := .cells #[.int .i64 ((rd_T40 l0 a1).f0), .int .i64 ((rd_T40 l0 a1).f1)] 40 (0, 0)) (by (with_reducible repeat (first | refine blk_drewN ?_ _ | refine blk_drew ?_ | refine blk_alloc ?_ _)); exact BK386.out) hb)
               have n5_ := Aside0.mk (below_step (by repeat (first | (with_reducible first | exact HB.out | apply qba | apply qbn | apply qb1 | refine below_set ?_ GE386.out) | exact HB.out)) hb)
               clear HO0
               clear HO391
               clear HO399
               clear BK386
               clear HB
               clear HO394
               have HO0 := n0_
               have HO391 := n1_
               have HO399 := n2_
               have HO402 := n3_
               have BK386 := n4_
               have HB := n5_
               clear n0_ n1_ n2_ n3_ n4_ n5_
               clear hb ho31
               obtain ⟨Ao32, co32, eo32⟩ := Kd.N_slice HO402.out
               (first | subst eo32 | (injection eo32 with f1_ f2_ f3_; have f4_ := f1_.symm; have f5_ := f3_.symm; clear f1_ f2_ f3_; subst f4_; subst f5_))
               refine hK.out _ _ ⟨(blk_cell BK386.out 0).trans rfl, (blk_cell BK386.out 1).trans rfl⟩ (fun hHeld => ?_)
               clear hK K
               refine norm_ (a' := ?_) ?_ ?_
               rotate_left
               · show Act.put _ (some 46) _ = _
                 simp only [Act.put, sx0, sx1, sx2, i64_w, i32_w]
                 rfl
               refine one_ (i := 19) (N := some 47) (bq [20, 5]) rfl rfl (one_of HT_.out (by kernel_rfl)) (by decide) (fun K hK => ?_)
               refine gS_ Try.func99 #[.slice Ao32 y400.length co32] rfl rfl ?_
               with_reducible refine (impl_Note_99.calls k _ _ y400 t403 _ ?side1 ?side2 A18.out).mono ?_
               (case side1 => repeat (first | exact (Kd.N_reads' HO402.out).2.2 | (with_reducible refine Kd.C_alloc ?_ _) | (with_reducible refine Kd.C_drewN ?_ _) | (with_reducible refine Kd.C_drew ?_)))
               (case side2 => exact (Kd.N_reads' HO402.out).2.1)
               rintro e w33 ⟨v404, rfl, ho0, hb⟩
               refine ⟨_, rfl, ?_⟩
               have n0_ := Aside0.mk (Kd.V_elder' (by (with_reducible repeat (first | apply Kd.V_alloc | apply Kd.V_drewN | apply Kd.V_drew)); exact HO0.out) (Kd.R_base ho0) hb)
               have n1_ := Aside0.mk (Kd.V_elder' (by (with_reducible repeat (first | apply Kd.V_alloc | apply Kd.V_drewN | apply Kd.V_drew)); exact HO391.out) (Kd.R_base ho0) hb)
               have n2_ := Aside0.mk (Kd.V_elder' (by (with_reducible repeat (first | apply Kd.V_alloc | apply Kd.V_drewN | apply Kd.V_drew)); exact HO399.out) (Kd.R_base ho0) hb)
               have n3_ := Aside0.mk (Kd.N_elder' (by (with_reducible repeat (first | apply Kd.N_alloc | apply Kd.N_drewN | apply Kd.N_drew)); exact HO402.out) (Kd.R_base ho0) hb)
               have n4_ := Aside0.mk (Kd.R_lower (Kd.R_newB (Kd.R_newM (M := fun k_ => (w.heap.size ≤ k_)) ho0 (below_size (by repeat (first | (with_reducible first | exact HB.out | apply qba | apply qbn | apply qb1 | refine below_set ?_ GE386.out) | exact HB.out))) (fun k_ h_ => h_)) (g := gb386) (o := .cells #[.int .i64 ((rd_T40 l0 a1).f0), .int .i64 ((rd_T40 l0 a1).f1)] 40 (0, 0)) (by (with_reducible repeat (first | refine blk_drewN ?_ _ | refine blk_drew ?_ | refine blk_alloc ?_ _)); exact BK386.out)) (below_size (by repeat (first | (with_reducible first | exact HB.out | apply qba | apply qbn | apply qb1 | refine below_set ?_ GE386.out) | exact HB.out))))
               have n5_ := Aside0.mk (blk_below (g := gb386) (o := .cells #[.int .i64 ((rd_T40 l0 a1).f0), .int .i64 ((rd_T40 l0 a1).f1)] 40 (0, 0)) (by (with_reducible repeat (first | refine blk_drewN ?_ _ | refine blk_drew ?_ | refine blk_alloc ?_ _)); exact BK386.out) hb)
               have n6_ := Aside0.mk (below_step (by repeat (first | (with_reducible first | exact HB.out | apply qba | apply qbn | apply qb1 | refine below_set ?_ GE386.out) | exact HB.out)) hb)
               clear HO0
               clear HO391
               clear HO399
               clear HO402
               clear BK386
               clear HB
               have HO0 := n0_
               have HO391 := n1_
               have HO399 := n2_
               have HO402 := n3_
               have HO405 := n4_
               have BK386 := n5_
               have HB := n6_
               clear n0_ n1_ n2_ n3_ n4_ n5_ n6_
               (try clear hb)
               (try clear hb2)
               (try clear hk)
               (try clear hi)
               (try clear ho0)
               obtain ⟨Ao34, co34, eo34⟩ := Kd.R_slice HO405.out
               (first | subst eo34 | (injection eo34 with f1_ f2_ f3_; have f4_ := f1_.symm; have f5_ := f3_.symm; clear f1_ f2_ f3_; subst f4_; subst f5_))
               refine hK.out _ _ ⟨(blk_cell BK386.out 0).trans rfl, (blk_cell BK386.out 1).trans rfl⟩ (fun hHeld => ?_)
               clear hK K
               refine norm_ (a' := ?_) ?_ ?_
               rotate_left
               · show Act.put _ (some 47) _ = _
                 simp only [Act.put, sx0, sx1, sx2, i64_w, i32_w]
                 rfl
               refine one_ (i := 20) (N := some 48) (bq [21, 4]) rfl rfl (one_of HT_.out (by kernel_rfl)) (by decide) (fun K hK => ?_)
               refine gS_ Try.func98 #[.slice Ao34 t403.length co34] rfl rfl ?_
               with_reducible refine (impl_checkedMelody.calls (fun k_ => some k_ = (.slice Ao34 t403.length co34 : Value).ownBlock) (.slice Ao34 t403.length co34) t403 t406 t409 w _ ?side1 ?side2 A19.out).mono ?_
               (case side1 => repeat (first | (with_reducible first | exact HB.out | apply qba | apply qbn | apply qb1 | refine below_set ?_ GE386.out) | exact HB.out))
               (case side2 => exact Kd.R_tight rfl HO405.out)
               rintro e w35 ⟨v407, rfl, ho0, hb, hkp⟩
               refine ⟨_, rfl, ?_⟩
               have n0_ := Aside0.mk (Kd.V_mono (ok' := fun k_ => (P0_ k_ ∨ w.heap.size ≤ k_) ∧ some k_ ≠ (.slice Ao32 y400.length co32 : Value).ownBlock ∧ k_ ≠ gb386 ∧ some k_ ≠ (v407 : Value).ownBlock) (Kd.V_keptB (HO0.out) hkp (fun k_ hk_ hs_ => (hk_.2) hs_)) (fun k_ hk_ => ⟨hk_.1.1.1.1.1, hk_.1.1.2, hk_.1.1.1.1.2, fun e_ => Or.elim (ho0.1 k_ e_.symm) (fun hs_ => hk_.2.1 hs_) (fun hn_ => Nat.not_le.2 hk_.2.2 hn_)⟩))
               have n1_ := Aside0.mk (blk_kept (by (with_reducible repeat (first | refine blk_drewN ?_ _ | refine blk_drew ?_ | refine blk_alloc ?_ _)); exact BK386.out) hkp (fun hs_ => (fun e_ => (Kd.R_away HO405.out (fun _ hk => hk.2)) e_) hs_))
               have n2_ := Aside0.mk (Kd.V_mono (ok' := fun k_ => (P0_ k_ ∨ w.heap.size ≤ k_) ∧ some k_ ≠ (.slice Ao32 y400.length co32 : Value).ownBlock ∧ k_ ≠ gb386 ∧ some k_ ≠ (v407 : Value).ownBlock) (Kd.V_keptB (HO391.out) hkp (fun k_ hk_ hs_ => (hk_.2) hs_)) (fun k_ hk_ => ⟨hk_.1.1.1.1.1, hk_.1.1.2, hk_.1.1.1.1.2, fun e_ => Or.elim (ho0.1 k_ e_.symm) (fun hs_ => hk_.2.1 hs_) (fun hn_ => Nat.not_le.2 hk_.2.2 hn_)⟩))
               have n3_ := Aside0.mk (Kd.V_mono (ok' := fun k_ => (P0_ k_ ∨ w.heap.size ≤ k_) ∧ some k_ ≠ (.slice Ao32 y400.length co32 : Value).ownBlock ∧ k_ ≠ gb386 ∧ some k_ ≠ (v407 : Value).ownBlock) (Kd.V_keptB (HO399.out) hkp (fun k_ hk_ hs_ => (hk_.2) hs_)) (fun k_ hk_ => ⟨hk_.1.1.1.1.1, hk_.1.1.2, hk_.1.1.1.1.2, fun e_ => Or.elim (ho0.1 k_ e_.symm) (fun hs_ => hk_.2.1 hs_) (fun hn_ => Nat.not_le.2 hk_.2.2 hn_)⟩))
               have n4_ := Aside0.mk (Kd.N_mono (ok' := fun k_ => (P0_ k_ ∨ w.heap.size ≤ k_) ∧ k_ ≠ gb386 ∧ some k_ ≠ (v407 : Value).ownBlock) (Kd.N_keptB (HO402.out) hkp (fun k_ hk_ hs_ => (hk_.2) hs_)) (fun k_ hk_ => ⟨hk_.1.1.1, hk_.1.1.2, fun e_ => Or.elim (ho0.1 k_ e_.symm) (fun hs_ => hk_.2.1 hs_) (fun hn_ => Nat.not_le.2 hk_.2.2 hn_)⟩))
               have n5_ := Aside0.mk (Kd.R_mono (ok' := fun k_ => (w.heap.size ≤ k_) ∧ k_ ≠ gb386) ho0 (fun k_ hk_ => ⟨Or.elim hk_ (fun hs_ => (HO405.out.1 k_ (hs_).symm).1.1) (fun hn_ => (Nat.le_trans (below_size (by repeat (first | (with_reducible first | exact HB.out | apply qba | apply qbn | apply qb1 | refine below_set ?_ GE386.out) | exact HB.out))) hn_)), Or.elim hk_ (fun hs_ => fun e_ => (Kd.R_away HO405.out (fun _ hk => hk.2)) (by rw [← e_]; exact hs_)) (fun hn_ => (Kd.freshB (g := gb386) (o := .cells #[.int .i64 ((rd_T40 l0 a1).f0), .int .i64 ((rd_T40 l0 a1).f1)] 40 (0, 0)) (by (with_reducible repeat (first | refine blk_drewN ?_ _ | refine blk_drew ?_ | refine blk_alloc ?_ _)); exact BK386.out) k_ hn_))⟩))
               have n6_ := Aside0.mk (hb)
               clear HO0
               clear BK386
               clear HO391
               clear HO399
               clear HO402
               clear HB
               clear HO405
               have HO0 := n0_
               have BK386 := n1_
               have HO391 := n2_
               have HO399 := n3_
               have HO402 := n4_
               have HO408 := n5_
               have HB := n6_
               clear n0_ n1_ n2_ n3_ n4_ n5_ n6_
               (try clear hb)
               (try clear hkp)
               (try clear ho0)
               refine hK.out _ _ ⟨(blk_cell BK386.out 0).trans rfl, (blk_cell BK386.out 1).trans rfl⟩ (fun hHeld => ?_)
               clear hK K
               refine norm_ (a' := ?_) ?_ ?_
               rotate_left
               · show Act.put _ (some 48) _ = _
                 simp only [Act.put, sx0, sx1, sx2, i64_w, i32_w]
                 rfl
               refine pV_ (i := 21) (N := some 49) (bq [22, 3]) rfl rfl HT_.out ?_
               refine pV_ (i := 22) (N := some 50) (bq [23, 2]) rfl rfl HT_.out ?_
               refine pV_ (i := 23) (N := some 8) (bq [24, 1]) rfl rfl HT_.out ?_
               refine pV_ (i := 24) (N := some 9) (bq [25]) rfl rfl HT_.out ?_
               refine done_ (done_of HT_.out (by kernel_rfl)) ?_
               try go_wp2
               go_ret2
               exact ⟨_, by first | rfl | (simp [errW_none, errW_some] <;> rfl) | (simp only [← hji15]; first | rfl | (simp [errW_none, errW_some] <;> rfl)) | (simp [*, errW_none, errW_some] <;> rfl), by (with_reducible repeat (first | apply qra | apply qrn | apply qrd)); exact Kd.R_mono HO408.out (fun _ hk => hk.1), by repeat (first | (with_reducible first | exact HB.out | apply qba | apply qbn | apply qb1 | refine below_set ?_ GE386.out) | exact HB.out)⟩
             · rw [if_neg c17] at H
               exact absurd H (by simp)
           · rw [if_neg c16] at H
             exact absurd H (by simp)
         · rw [if_neg c14] at H
           exact absurd H (by simp)
     · rw [if_neg c8] at H
       exact absurd H (by simp)
   · rw [if_neg c7] at H
     exact absurd H (by simp)
 · rw [if_neg c6] at H
   have c6b0 : (t384 == 0) = false := beq_eq_false_iff_ne.mpr c6
   have c6b1 : (t384 != 0) = true := bne_iff_ne.mpr c6
   simp only [Option.some.injEq, Prod.mk.injEq] at H
   obtain ⟨rfl, rfl⟩ := H
   go_enter Try.func68, Try.ntmps68
   go_wp2_with (first | ((with_reducible refine gate_callee (f := 146) rfl ?_); refine gL_ (some 16) rfl rfl Try.func146 #[.slice A0 l0.length c0, .int .i64 a1, .int .i64 a2, .int .i64 a3] rfl ?_; (with_reducible refine (impl_noteCode.calls k _ _ l0 a1 a2 a3 t384 _ ?side1 ?side2 A5.out).mono ?_); (case side1 => repeat (first | exact (Kd.V_reads' HO0.out).2.2 | (with_reducible refine Kd.C_alloc ?_ _) | (with_reducible refine Kd.C_drewN ?_ _) | (with_reducible refine Kd.C_drew ?_))); (case side2 => exact (Kd.V_reads' HO0.out).2.1); rintro e w36 ⟨rfl, hb⟩; refine ⟨_, rfl, ?_⟩; have n0_ := Aside0.mk (Kd.V_below (by (with_reducible repeat (first | apply Kd.V_alloc | apply Kd.V_drewN | apply Kd.V_drew)); exact HO0.out) hb); have n1_ := Aside0.mk (below_step (by repeat (first | (with_reducible first | exact HB.out | apply qba | apply qbn | apply qb1) | exact HB.out)) hb); clear HO0; clear HB; have HO0 := n0_; have HB := n1_; clear n0_ n1_; (try clear hb); (try clear hb2); (try clear hk); (try clear hi)))
   go_ret2
   exact ⟨_, by first | rfl | (simp [errW_none, errW_some] <;> rfl) | (simp [*, errW_none, errW_some] <;> rfl), by first | exact Kd.R_nil _ _ _ _ _ | exact Kd.N_nil _ _ _ _ _ | exact Kd.V_nil _ _ _ _ _ | exact Kd.Q_nil _ _ _ _ _ | exact Kd.S_nil _ _ _ _ _, by repeat (first | (with_reducible first | exact HB.out | apply qba | apply qbn | apply qb1) | exact HB.out)⟩

end Go.Proofs.Ytomeeimjlagbbaa.PU
