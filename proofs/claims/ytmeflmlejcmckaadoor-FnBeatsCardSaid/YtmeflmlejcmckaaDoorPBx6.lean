-- WRITTEN BY wip/gprint.py, a program of this session's over the kit's print, with contracts given by hand
import Derived.Test.YtmeflmlejcmckaaDoorPBx0
namespace Go.Proofs.YtmeflmlejcmckaaDoor.PB
open Go.RowKit Go.Proofs.YtmeflmlejcmckaaDoorW.PrintWords Go.Proofs.YtmeflmlejcmckaaDoorW.PrintLast Go.Proofs.YtmeflmlejcmckaaDoorW.PrintMore
attribute [local go_sem] max2_int min2_int max_two min_two max_three min_three max_four min_four   -- for this text's walks alone
set_option linter.unusedVariables false
set_option linter.unusedSimpArgs false

attribute [local go_sem] isSome_setCell
/-! ### spec_l04Just: function 205 -/
def spec_l04Just.l0 : Nat → List Int → List Int → Int → ByteArray → List (S52) → Option (ByteArray × (List (S52)))
 | 0, _, _, _, _, _ => none
 | k + 1, x1, x2, x4, x178000, x178001 => if x4 < (x1.length : Int) then (if 0 ≤ x4 then (if x4 < (x2.length : Int) then (if x178001.length < 8796093022208 then (spec_l04Just.l0 k x1 x2 (wrap64 (x4 + 1)) x178000 (x178001 ++ [(⟨rd x1 x4, rd x2 x4⟩ : S52)])) else (none)) else (none)) else (none)) else (some (x178000, x178001))
def spec_l04Just.f (k : Nat)  : Option (ByteArray × (List (S52))) := spec_l04Just.l0 k (([1, 16, 9, 6, 5, 4, 45, 3, 8, 5, 9, 15] : List Int)) (([1, 15, 8, 5, 4, 3, 32, 2, 5, 3, 5, 8] : List Int)) 0 (⟨#[106, 117, 115, 116]⟩ : ByteArray) ([] : List (S52))
theorem spec_l04Just.mono_l : ∀ k, (∀ y0 y1 y2 y3 y4, LeO (spec_l04Just.l0 k y0 y1 y2 y3 y4) (spec_l04Just.l0 (k + 1) y0 y1 y2 y3 y4))
 | 0 => fun _ _ _ _ _ r h => by simp [spec_l04Just.l0] at h
 | k + 1 => by
  have ih0 := spec_l04Just.mono_l k
  · intro y0 y1 y2 y3 y4
    unfold spec_l04Just.l0
    repeat' first
    | (with_reducible exact ih0 _ _ _ _ _)
    | (with_reducible exact LeO.refl _)
    | (with_reducible exact LeO.none _)
    | (with_reducible refine LeO.ite ?_ ?_)
    | (with_reducible refine LeO.bind ?_ (fun _ => ?_))
    | exact ih0 _ _ _ _ _
    | exact LeO.none _
    | refine LeO.ite ?_ ?_
    | refine LeO.bind ?_ (fun _ => ?_)
theorem spec_l04Just.mono : ∀ k, LeO (spec_l04Just.f k ) (spec_l04Just.f (k + 1) ) := by
 intro  k
 have ih0 := spec_l04Just.mono_l k
 unfold spec_l04Just.f
 repeat' first
  | (with_reducible exact ih0 _ _ _ _ _)
  | (with_reducible exact LeO.refl _)
  | (with_reducible exact LeO.none _)
  | (with_reducible refine LeO.ite ?_ ?_)
  | (with_reducible refine LeO.bind ?_ (fun _ => ?_))
  | exact ih0 _ _ _ _ _
  | exact LeO.none _
  | refine LeO.ite ?_ ?_
  | refine LeO.bind ?_ (fun _ => ?_)
def spec_l04Just.T7 : Bool × List (List Nat × List Nat) := (true, [([], []), ([0], [0]), ([], []), ([], []), ([2, 3], [2, 3]), ([4], [4]), ([], []), ([], []), ([6, 7], [6, 7]), ([8], [8]), ([5, 9], [5, 9]), ([10], [10]), ([1, 11], [1, 11]), ([0, 1, 2, 3, 4, 5, 6, 7, 8, 9, 10, 11, 12], []), ([13, 12, 12, 0, 1, 2, 3, 4, 5, 6, 7, 8, 9, 10, 11, 12], [12, 13])])
def spec_l04Just.B7 : List Nat := [0, 1, 0, 0, 12, 28, 0, 0, 192, 448, 1020, 2044, 4095, 8191, 16383]
theorem spec_l04Just.tab7 : rtab .any (opsOf Tryd.f205 7) = spec_l04Just.T7 := by kernel_rfl
theorem spec_l04Just.bits7 : waitsOk spec_l04Just.T7.2 spec_l04Just.B7 = true := by kernel_rfl
set_option maxHeartbeats 8000000 in
set_option maxRecDepth 100000 in
theorem spec_l04Just.calls (k : Nat)  (r1 : ByteArray) (r2 : List (S52)) (w : World) (h : spec_l04Just.f k  = some (r1, r2)) :
 Calls Tryd.prog 205 #[] w fun e w' => ∃ v1_ : Value, e = .returned (.agg #[.string r1, v1_]) ∧ Kd.R k52 52 w' w.heap.size (fun _ => True) v1_ r2 ∧ Below w.heap.size w w' := by
 have hu71 := Tryd.underlying71
 have hu52 := Tryd.underlying52
 have HB := Aside0.mk (Below.refl w.heap.size w)
 have H : (spec_l04Just.l0 k (([1, 16, 9, 6, 5, 4, 45, 3, 8, 5, 9, 15] : List Int)) (([1, 15, 8, 5, 4, 3, 32, 2, 5, 3, 5, 8] : List Int)) 0 (⟨#[106, 117, 115, 116]⟩ : ByteArray) ([] : List (S52))) = some (r1, r2) := h
 clear h
 obtain ⟨y171, hy171⟩ : ∃ y_ : List Int, y_ = (([1, 16, 9, 6, 5, 4, 45, 3, 8, 5, 9, 15] : List Int)) := ⟨_, rfl⟩
 replace H : (spec_l04Just.l0 k y171 (([1, 15, 8, 5, 4, 3, 32, 2, 5, 3, 5, 8] : List Int)) 0 (⟨#[106, 117, 115, 116]⟩ : ByteArray) ([] : List (S52))) = some (r1, r2) := by first | (rw [hy171]; with_reducible exact H) | (have H2_ := (Option.bind_some _ _).symm.trans H; rw [hy171]; with_reducible exact H2_) | (have H2_ := (Option.bind_some _ _).symm.trans H; with_reducible exact H2_) | with_reducible exact H | (rw [hy171]; exact H) | exact H
 have Ny171 := Aside0.mk hy171
 clear hy171
 obtain ⟨y174, hy174⟩ : ∃ y_ : List Int, y_ = (([1, 15, 8, 5, 4, 3, 32, 2, 5, 3, 5, 8] : List Int)) := ⟨_, rfl⟩
 replace H : (spec_l04Just.l0 k y171 y174 0 (⟨#[106, 117, 115, 116]⟩ : ByteArray) ([] : List (S52))) = some (r1, r2) := by first | (rw [hy174]; with_reducible exact H) | (have H2_ := (Option.bind_some _ _).symm.trans H; rw [hy174]; with_reducible exact H2_) | (have H2_ := (Option.bind_some _ _).symm.trans H; with_reducible exact H2_) | with_reducible exact H | (rw [hy174]; exact H) | exact H
 have Ny174 := Aside0.mk hy174
 clear hy174
 have H' := Aside0.mk H
 clear H
 go_enter Tryd.func205, Tryd.ntmps205
 go_wp2_with (first | ((with_reducible refine gate_dst (N := 0) rfl ?_); refine box_event ?hg (N := 0) ?hd (cs := #[.string (⟨#[]⟩ : ByteArray), .slice none 0 0]) (t := 71) ?hr ?_; (case hd => rfl); (case hg => rfl); (case hr => first | (go_simp; done) | (go_simp; rfl)); intro gb170 hg w1 hbox hb; have BK170 := Aside0.mk (hbox); have GW170 := Aside0.mk ((by rw [hg]; exact (below_size (tH HB)) : w.heap.size ≤ gb170)); have GE170 := Aside0.mk ((by rw [hg]; exact (below_size (tH HB)) : w.heap.size ≤ gb170)); replace HB := Aside0.mk (below_step (tH HB) hb); clear hb hbox hg) | ((with_reducible refine gate_dst (N := 5) rfl ?_); refine Kd.R_lit (Kd.int .i64) _ 2 ?hg (N := 5) ?hd (xs := ([1, 16, 9, 6, 5, 4, 45, 3, 8, 5, 9, 15] : List Int)) (inner := [.int .i64 1, .int .i64 16, .int .i64 9, .int .i64 6, .int .i64 5, .int .i64 4, .int .i64 45, .int .i64 3, .int .i64 8, .int .i64 5, .int .i64 9, .int .i64 15]) (ok := fun _ => True) (okp := fun _ => True) ?hr ?hp (fun _ hk => hk) trivial (Below.refl _ _) (Nat.le_refl _) (by simp) ?_; (case hd => rfl); (case hg => rfl); (case hr => first | (go_simp; done) | (go_simp; rfl)); (case hp => exact (Reps.one (show Kd.M (Kd.int .i64) _ _ _ 1 [.int .i64 1] from rfl) (Reps.one (show Kd.M (Kd.int .i64) _ _ _ 16 [.int .i64 16] from rfl) (Reps.one (show Kd.M (Kd.int .i64) _ _ _ 9 [.int .i64 9] from rfl) (Reps.one (show Kd.M (Kd.int .i64) _ _ _ 6 [.int .i64 6] from rfl) (Reps.one (show Kd.M (Kd.int .i64) _ _ _ 5 [.int .i64 5] from rfl) (Reps.one (show Kd.M (Kd.int .i64) _ _ _ 4 [.int .i64 4] from rfl) (Reps.one (show Kd.M (Kd.int .i64) _ _ _ 45 [.int .i64 45] from rfl) (Reps.one (show Kd.M (Kd.int .i64) _ _ _ 3 [.int .i64 3] from rfl) (Reps.one (show Kd.M (Kd.int .i64) _ _ _ 8 [.int .i64 8] from rfl) (Reps.one (show Kd.M (Kd.int .i64) _ _ _ 5 [.int .i64 5] from rfl) (Reps.one (show Kd.M (Kd.int .i64) _ _ _ 9 [.int .i64 9] from rfl) (Reps.one (show Kd.M (Kd.int .i64) _ _ _ 15 [.int .i64 15] from rfl) (Reps.none _ _)))))))))))))); intro v172 w2 ho3 hb hg_ hnew_; clear hg_ hnew_; (first | rw [← Ny171.out] at ho3 | (simp only [Int.reduceToNat] at ho3; rw [← Ny171.out] at ho3)); have HO173 := Aside0.mk (Kd.R_lower ho3 (below_size (tH1 HB GE170.out))); replace BK170 := Aside0.mk (blk_below (g := gb170) (o := .cells #[.string (⟨#[]⟩ : ByteArray), .slice none 0 0] 71 (0, 0)) (tB BK170) hb); replace HB := Aside0.mk (below_step (tH1 HB GE170.out) hb); clear hb ho3) | ((with_reducible refine gate_dst (N := 6) rfl ?_); refine Kd.R_lit (Kd.int .i64) _ 2 ?hg (N := 6) ?hd (xs := ([1, 15, 8, 5, 4, 3, 32, 2, 5, 3, 5, 8] : List Int)) (inner := [.int .i64 1, .int .i64 15, .int .i64 8, .int .i64 5, .int .i64 4, .int .i64 3, .int .i64 32, .int .i64 2, .int .i64 5, .int .i64 3, .int .i64 5, .int .i64 8]) (ok := fun _ => True) (okp := fun _ => True) ?hr ?hp (fun _ hk => hk) trivial (Below.refl _ _) (Nat.le_refl _) (by simp) ?_; (case hd => rfl); (case hg => rfl); (case hr => first | (go_simp; done) | (go_simp; rfl)); (case hp => exact (Reps.one (show Kd.M (Kd.int .i64) _ _ _ 1 [.int .i64 1] from rfl) (Reps.one (show Kd.M (Kd.int .i64) _ _ _ 15 [.int .i64 15] from rfl) (Reps.one (show Kd.M (Kd.int .i64) _ _ _ 8 [.int .i64 8] from rfl) (Reps.one (show Kd.M (Kd.int .i64) _ _ _ 5 [.int .i64 5] from rfl) (Reps.one (show Kd.M (Kd.int .i64) _ _ _ 4 [.int .i64 4] from rfl) (Reps.one (show Kd.M (Kd.int .i64) _ _ _ 3 [.int .i64 3] from rfl) (Reps.one (show Kd.M (Kd.int .i64) _ _ _ 32 [.int .i64 32] from rfl) (Reps.one (show Kd.M (Kd.int .i64) _ _ _ 2 [.int .i64 2] from rfl) (Reps.one (show Kd.M (Kd.int .i64) _ _ _ 5 [.int .i64 5] from rfl) (Reps.one (show Kd.M (Kd.int .i64) _ _ _ 3 [.int .i64 3] from rfl) (Reps.one (show Kd.M (Kd.int .i64) _ _ _ 5 [.int .i64 5] from rfl) (Reps.one (show Kd.M (Kd.int .i64) _ _ _ 8 [.int .i64 8] from rfl) (Reps.none _ _)))))))))))))); intro v175 w4 ho5 hb hg_ hnew_; clear hg_ hnew_; (first | rw [← Ny174.out] at ho5 | (simp only [Int.reduceToNat] at ho5; rw [← Ny174.out] at ho5)); have HO176 := Aside0.mk (Kd.R_lower (Kd.R_new' ho5 (Kd.R_lt (tR HO173))) (below_size (tH1 HB GE170.out))); replace HO173 := Aside0.mk (Kd.R_elder' (tR HO173) (Kd.R_base ho5) hb); replace BK170 := Aside0.mk (blk_below (g := gb170) (o := .cells #[.string (⟨#[]⟩ : ByteArray), .slice none 0 0] 71 (0, 0)) (tB BK170) hb); replace HB := Aside0.mk (below_step (tH1 HB GE170.out) hb); clear hb ho5) | ((with_reducible refine gate_dst (N := 3) rfl ?_); refine box_event ?hg (N := 3) ?hd (cs := #[.string (⟨#[]⟩ : ByteArray), .slice none 0 0]) (t := 71) ?hr ?_; (case hd => rfl); (case hg => rfl); (case hr => first | (go_simp; done) | (go_simp; rfl)); intro gb177 hg w6 hbox hb; replace HO173 := Aside0.mk (Kd.R_below (tR HO173) hb); replace HO176 := Aside0.mk (Kd.R_below (tR HO176) hb); have BK177 := Aside0.mk (hbox); have GW177 := Aside0.mk ((by rw [hg]; exact (below_size (tH1 HB GE170.out)) : w.heap.size ≤ gb177)); have GE177 := Aside0.mk ((by rw [hg]; exact (below_size (tH1 HB GE170.out)) : w.heap.size ≤ gb177)); replace HB := Aside0.mk (below_step (tH1 HB GE170.out) hb); have NB170_177 := Aside0.mk ((by rw [hg]; exact Nat.ne_of_lt (blk_lt (g := gb170) (o := .cells #[.string (⟨#[]⟩ : ByteArray), .slice none 0 0] 71 (0, 0)) (tB BK170)) : gb170 ≠ gb177)); have NB177_170 := Aside0.mk ((by rw [hg]; exact Nat.ne_of_gt (blk_lt (g := gb170) (o := .cells #[.string (⟨#[]⟩ : ByteArray), .slice none 0 0] 71 (0, 0)) (tB BK170)) : gb177 ≠ gb170)); replace BK170 := Aside0.mk (blk_below (g := gb170) (o := .cells #[.string (⟨#[]⟩ : ByteArray), .slice none 0 0] 71 (0, 0)) (tB BK170) hb); clear hb hbox hg; have hnb7 := NB177_170.out; have hnc7 := NB170_177.out; have hcz8_0 : w6.cell? ⟨gb177, 0, none⟩ = some (.string (⟨#[]⟩ : ByteArray)) := (blk_cell BK177.out 0).trans rfl; have hcz8_1 : w6.cell? ⟨gb177, 1, none⟩ = some (.slice none 0 0) := (blk_cell BK177.out 1).trans rfl; have hfz8_0 := blk_frozen BK177.out 0; have hfz8_1 := blk_frozen BK177.out 1))
 go_loopg [4] k (fun kq v4 w' => ∃ (x4_1 : Int) (x178001_1 : List (S52)) (u178001 : Value), v4 = .int .i64 x4_1 ∧ Aside0 (spec_l04Just.l0 kq y171 y174 x4_1 (⟨#[106, 117, 115, 116]⟩ : ByteArray) x178001_1 = some (r1, r2)) ∧ Aside0 (kq ≤ k) ∧ Aside0 (Kd.R (Kd.int .i64) 2 w' w.heap.size (fun k_ => some k_ ≠ (v175 : Value).ownBlock) v172 y171) ∧ Aside0 (Kd.R (Kd.int .i64) 2 w' w.heap.size (fun k_ => some k_ ≠ (v172 : Value).ownBlock) v175 y174) ∧ Aside0 (Kd.R k52 52 w' w.heap.size (fun _ => True) u178001 x178001_1) ∧ Aside0 (w'.heap[gb170]? = some (.cells #[.string (⟨#[]⟩ : ByteArray), (.slice none 0 0)] 71 (0, 0))) ∧ Aside0 (w'.heap[gb177]? = some (.cells #[.string (⟨#[106, 117, 115, 116]⟩ : ByteArray), u178001] 71 (0, 0))) ∧ Aside0 (Below w.heap.size w w'))
 case atStart => exact ⟨(0), (([] : List (S52))), (.slice none 0 0), tq, H', ⟨Nat.le_refl _⟩, ⟨by (with_reducible repeat (first | apply qra | apply qrn | apply qrd)); exact Kd.R_mono (Kd.R_far (p := ⟨gb177, 1, none⟩) (Kd.R_far (p := ⟨gb177, 0, none⟩) (Kd.R_types HO173.out BK177.out (by decide)) (fun _ hk => hk.2) (.string (⟨#[106, 117, 115, 116]⟩ : ByteArray))) (fun _ hk => hk.2) (.slice none 0 0)) (fun _ hk => hk.1.2)⟩, ⟨by (with_reducible repeat (first | apply qra | apply qrn | apply qrd)); exact Kd.R_mono (Kd.R_far (p := ⟨gb177, 1, none⟩) (Kd.R_far (p := ⟨gb177, 0, none⟩) (Kd.R_types HO176.out BK177.out (by decide)) (fun _ hk => hk.2) (.string (⟨#[106, 117, 115, 116]⟩ : ByteArray))) (fun _ hk => hk.2) (.slice none 0 0)) (fun _ hk => hk.1.2)⟩, ⟨by first | exact Kd.R_nil _ _ _ _ _ | exact Kd.N_nil _ _ _ _ _ | exact Kd.V_nil _ _ _ _ _ | exact Kd.Q_nil _ _ _ _ _ | exact Kd.S_nil _ _ _ _ _⟩, ⟨by (with_reducible repeat (first | refine blk_drewN ?_ _ | refine blk_drew ?_ | refine blk_alloc ?_ _)); refine blk_far ?_ NB170_177.out _; (with_reducible repeat (first | refine blk_drewN ?_ _ | refine blk_drew ?_ | refine blk_alloc ?_ _)); refine blk_far ?_ NB170_177.out _; (with_reducible repeat (first | refine blk_drewN ?_ _ | refine blk_drew ?_ | refine blk_alloc ?_ _)); exact BK170.out⟩, ⟨by (with_reducible repeat (first | refine blk_drewN ?_ _ | refine blk_drew ?_ | refine blk_alloc ?_ _)); refine blk_put (cs := #[.string (⟨#[106, 117, 115, 116]⟩ : ByteArray), .slice none 0 0]) ?_ 1 _ rfl; (with_reducible repeat (first | refine blk_drewN ?_ _ | refine blk_drew ?_ | refine blk_alloc ?_ _)); refine blk_put (cs := #[.string (⟨#[]⟩ : ByteArray), .slice none 0 0]) ?_ 0 _ rfl; (with_reducible repeat (first | refine blk_drewN ?_ _ | refine blk_drew ?_ | refine blk_alloc ?_ _)); exact BK177.out⟩, ⟨tH2 HB GE170.out GE177.out⟩⟩
 case round =>
 clear H'
 try clear c2
 try clear p2
 try clear c7
 try clear hcz8_0 hcz8_1
 try clear hfz8_0 hfz8_1
 obtain ⟨x4_1, x178001_1, u178001, rfl, HA, HK1, HO_1, HO_2, HO_178001, BK170, BK177, HB⟩ := hrel
 cases gk with
 | zero => exact absurd HA.out (by simp [spec_l04Just.l0])
 | succ k1 =>
 have H := HA.out
 clear HA
 simp only [spec_l04Just.l0] at H
 by_cases c9 : x4_1 < (y171.length : Int)
 · rw [if_pos c9] at H
   have c9b0 : decide (x4_1 < (y171.length : Int)) = true := decide_eq_true c9
   clear c9
   by_cases c10 : 0 ≤ x4_1
   · rw [if_pos c10] at H
     have c10b0 : decide (0 ≤ x4_1) = true := decide_eq_true c10
     clear c10
     by_cases c11 : x4_1 < (y174.length : Int)
     · rw [if_pos c11] at H
       have c11b0 : decide (x4_1 < (y174.length : Int)) = true := decide_eq_true c11
       clear c11
       by_cases c12 : x178001_1.length < 8796093022208
       · rw [if_pos c12] at H
         have LMc12 := Aside0.mk c12
         clear c12
         obtain ⟨y180, hy180⟩ : ∃ y_ : List (S52), y_ = (x178001_1 ++ [(⟨rd y171 x4_1, rd y174 x4_1⟩ : S52)]) := ⟨_, rfl⟩
         replace H : (spec_l04Just.l0 k1 y171 y174 (wrap64 (x4_1 + 1)) (⟨#[106, 117, 115, 116]⟩ : ByteArray) y180) = some (r1, r2) := by first | (rw [hy180]; with_reducible exact H) | (have H2_ := (Option.bind_some _ _).symm.trans H; rw [hy180]; with_reducible exact H2_) | (have H2_ := (Option.bind_some _ _).symm.trans H; with_reducible exact H2_) | with_reducible exact H | (rw [hy180]; exact H) | exact H
         have Ny180 := Aside0.mk hy180
         clear hy180
         have H' := Aside0.mk H
         clear H
         obtain ⟨Ao13, co13, eo13⟩ := Kd.R_slice HO_1.out
         subst eo13
         try go_wp2
         replace HO_1 := Aside0.mk (Kd.R_drew HO_1.out)
         replace HO_2 := Aside0.mk (Kd.R_drew HO_2.out)
         replace HO_178001 := Aside0.mk (Kd.R_drew HO_178001.out)
         replace BK170 := Aside0.mk (blk_drew BK170.out)
         replace BK177 := Aside0.mk (blk_drew BK177.out)
         replace HB := Aside0.mk (below_drew1 HB.out)
         have p178 : 0 ≤ (x4_1 : Int) := of_decide_eq_true tA
         have q178 : x4_1 < (y171.length : Int) := of_decide_eq_true tA
         obtain ⟨ad178, e178, hx178_0⟩ := Kd.at_int (Kd.R_reads' HO_1.out).2.2 x4_1 p178 q178
         cases e178
         replace p178 := eq_true p178
         replace q178 := eq_true q178
         obtain ⟨Ao15, co15, eo15⟩ := Kd.R_slice HO_2.out
         (first | subst eo15 | (injection eo15 with f1_ f2_ f3_; have f4_ := f1_.symm; have f5_ := f3_.symm; clear f1_ f2_ f3_; subst f4_; subst f5_))
         have p179 : 0 ≤ (x4_1 : Int) := of_decide_eq_true tA
         have q179 : x4_1 < (y174.length : Int) := of_decide_eq_true tA
         obtain ⟨ad179, e179, hx179_0⟩ := Kd.at_int (Kd.R_reads' HO_2.out).2.2 x4_1 p179 q179
         cases e179
         replace p179 := eq_true p179
         replace q179 := eq_true q179
         refine start_ (n := 15) (S := fun w' => w'.cell? ⟨gb177, 0, none⟩ = some (.string (⟨#[106, 117, 115, 116]⟩ : ByteArray)) ∧ w'.cell? ⟨gb177, 1, none⟩ = some (u178001) ∧ w'.cell? (ad178.add (x4_1).toNat) = some (.int .i64 (rd y171 x4_1)) ∧ w'.cell? (ad179.add (x4_1).toNat) = some (.int .i64 (rd y174 x4_1))) (ds := [12, 14]) (bq [0, 15]) (by kernel_rfl) rfl rfl ⟨(blk_cell BK177.out 0).trans rfl, (blk_cell BK177.out 1).trans rfl, hx178_0, hx179_0⟩ (fun hHeld => ?_); refine with_tabW spec_l04Just.tab7 spec_l04Just.bits7 (fun HT_ HW_ => ?_)
         generalize wr.drew = w14 at HO_1 HO_2 HO_178001 BK170 BK177 HB hx178_0 hx179_0 hHeld ⊢
         refine pV 0 (some 14) [1, 14] rfl rfl HT_ ?_
         refine pV 2 (some 16) [1, 1, 1, 12] rfl rfl HT_ ?_
         refine pV 3 (some 17) [1, 1, 2, 11] rfl rfl HT_ ?_
         refine pV 4 (some 18) [1, 1, 3, 10] rfl rfl HT_ ?_
         refine pV 6 (some 20) [1, 1, 3, 1, 1, 8] rfl rfl HT_ ?_
         refine pV 7 (some 21) [1, 1, 3, 1, 2, 7] rfl rfl HT_ ?_
         refine pV 8 (some 22) [1, 1, 3, 1, 3, 6] rfl rfl HT_ ?_
         refine pT 1 (some 15) (bq [5, 1, 3, 6]) rfl rfl HT_ HW_ hHeld ?_
         refine pT 5 (some 19) (bq [9, 6]) rfl rfl HT_ HW_ hHeld ?_
         refine pT 9 (some 23) (bq [10, 5]) rfl rfl HT_ HW_ hHeld ?_
         refine pV 10 (some 24) [11, 4] rfl rfl HT_ ?_
         refine pO 11 (some 25) (bq [12, 3]) rfl rfl HT_ (fun K hK => ?_)
         refine value_ (w1 := ?_) (v := ?_) (by rfl) rfl ?_ ?_
         rotate_left 2
         · go_simp
           constructor
           · rfl
           rfl
         refine hK.out _ _ ⟨(blk_cell (blk_alloc BK177.out _) 0).trans rfl, (blk_cell (blk_alloc BK177.out _) 1).trans rfl, (World.cell?_alloc_lt _ _ _ (World.block_lt_of_cell? _ _ (hHeld.2.2.1))).trans (hHeld.2.2.1), (World.cell?_alloc_lt _ _ _ (World.block_lt_of_cell? _ _ (hHeld.2.2.2))).trans (hHeld.2.2.2)⟩ (fun hHeld => ?_)
         clear hK K
         refine nO (some 25) ?_
         refine last_ (i := 12) (N := some 26) (bq [13, 2]) rfl rfl (one_of HT_.out (by kernel_rfl)) (by decide) (fun K hK => ?_)
         refine Kd.R_append_step k52 (w0 := w) w.heap.size (by rfl) (.tmp 15) (.tmp 25) 69 52 (.agg #[(.int .i64 0), (.int .i64 0)]) 16 rfl Tryd.underlying69 info52 rfl (by decide) (by omega) u178001 x178001_1 (⟨rd y171 x4_1, rd y174 x4_1⟩ : S52) [.int .i64 (rd y171 x4_1), .int .i64 (rd y174 x4_1)] (fun _ => True) (fun _ => False) rfl rfl ?aP (fun _ hk => hk.elim) ?aF ?aO ?aB ?aS ?aL ?_
         (case aP => exact k52_mkM _ _ _ (⟨rd y171 x4_1, rd y174 x4_1⟩ : S52))
         (case aB => exact (tH2 HB GE170.out GE177.out))
         (case aF => exact (fun _ _ => trivial))
         (case aO => exact (tR HO_178001))
         (case aS => exact (below_size (tH2 HB GE170.out GE177.out)))
         (case aL => have := LMc12.out; omega)
         intro v181 w16 ho hb hg hat
         rw [← Ny180.out] at ho
         replace HO_1 := Aside0.mk (Kd.R_over' (tR HO_1) (Kd.R_typed (tR HO_178001)) (by decide) hg)
         replace HO_2 := Aside0.mk (Kd.R_over' (tR HO_2) (Kd.R_typed (tR HO_178001)) (by decide) hg)
         replace BK170 := Aside0.mk (blk_grown (g := gb170) (o := .cells #[.string (⟨#[]⟩ : ByteArray), .slice none 0 0] 71 (0, 0)) (tB BK170) hg (Kd.R_ne HO_178001.out BK170.out (by decide)))
         replace BK177 := Aside0.mk (blk_grown (g := gb177) (o := .cells #[.string (⟨#[106, 117, 115, 116]⟩ : ByteArray), u178001] 71 (0, 0)) (tB BK177) hg (Kd.R_ne HO_178001.out BK177.out (by decide)))
         replace HB := Aside0.mk (hb)
         have HO182 := Aside0.mk (ho)
         clear HO_178001
         clear ho hb hg hat
         obtain ⟨Ao17, co17, eo17⟩ := Kd.R_slice HO182.out
         (first | subst eo17 | (injection eo17 with f1_ f2_ f3_; have f4_ := f1_.symm; have f5_ := f3_.symm; clear f1_ f2_ f3_; subst f4_; subst f5_))
         refine hK.out _ _ ?_
         clear hK K
         refine nO (some 26) ?_
         refine pV 13 (some 27) [14, 1] rfl rfl HT_ ?_
         refine last_ (i := 14) (N := none) (bq [15]) rfl rfl (one_of HT_.out (by kernel_rfl)) (by decide) (fun K hK => ?_)
         have hs18 : w16.cell? ⟨gb177, 1, none⟩ = some (u178001) := (blk_cell BK177.out 1).trans rfl
         have hfs18 := blk_frozen BK177.out 1
         have hns18_0 := NB170_177.out
         have hms18_0 := NB177_170.out
         refine skip_ (w1 := ?_) (by rfl) rfl ?_ ?_
         rotate_left
         · go_simp
           rfl
         refine hK.out _ _ ?_
         clear hK K
         refine done_ (done_of HT_.out (by kernel_rfl)) ?_
         try go_wp2
         go_roundg k1
         case measure => have := HK1.out; omega
         case rel => exact ⟨(wrap64 (x4_1 + 1)), (y180), (.slice Ao17 y180.length co17), tq, H', ⟨by have := HK1.out; omega⟩, ⟨by (with_reducible repeat (first | apply qra | apply qrn | apply qrd)); exact Kd.R_mono (Kd.R_far (p := ⟨gb177, 1, none⟩) (Kd.R_types HO_1.out BK177.out (by decide)) (fun _ hk => hk.2) (.slice Ao17 y180.length co17)) (fun _ hk => hk.1)⟩, ⟨by (with_reducible repeat (first | apply qra | apply qrn | apply qrd)); exact Kd.R_mono (Kd.R_far (p := ⟨gb177, 1, none⟩) (Kd.R_types HO_2.out BK177.out (by decide)) (fun _ hk => hk.2) (.slice Ao17 y180.length co17)) (fun _ hk => hk.1)⟩, ⟨by (with_reducible repeat (first | apply qra | apply qrn | apply qrd)); exact Kd.R_mono (Kd.R_far (p := ⟨gb177, 1, none⟩) (Kd.R_types HO182.out BK177.out (by decide)) (fun _ hk => hk.2) (.slice Ao17 y180.length co17)) (fun _ hk => trivial)⟩, ⟨by (with_reducible repeat (first | refine blk_drewN ?_ _ | refine blk_drew ?_ | refine blk_alloc ?_ _)); refine blk_far ?_ NB170_177.out _; (with_reducible repeat (first | refine blk_drewN ?_ _ | refine blk_drew ?_ | refine blk_alloc ?_ _)); exact BK170.out⟩, ⟨by (with_reducible repeat (first | refine blk_drewN ?_ _ | refine blk_drew ?_ | refine blk_alloc ?_ _)); refine blk_put (cs := #[.string (⟨#[106, 117, 115, 116]⟩ : ByteArray), u178001]) ?_ 1 _ rfl; (with_reducible repeat (first | refine blk_drewN ?_ _ | refine blk_drew ?_ | refine blk_alloc ?_ _)); exact BK177.out⟩, ⟨tH2 HB GE170.out GE177.out⟩⟩
       rw [if_neg c12] at H
       exact absurd H (by simp)
     rw [if_neg c11] at H
     exact absurd H (by simp)
   rw [if_neg c10] at H
   exact absurd H (by simp)
 rw [if_neg c9] at H
 have c9b0 : decide (x4_1 < (y171.length : Int)) = false := decide_eq_false c9
 clear c9
 simp only [Option.some.injEq, Prod.mk.injEq] at H
 obtain ⟨rfl, rfl⟩ := H
 obtain ⟨Ao19, co19, eo19⟩ := Kd.R_slice HO_1.out
 subst eo19
 have hnb20 := NB177_170.out
 have hnc20 := NB170_177.out
 have hcz21_0 : wr.cell? ⟨gb177, 0, none⟩ = some (.string (⟨#[106, 117, 115, 116]⟩ : ByteArray)) := (blk_cell BK177.out 0).trans rfl
 have hcz21_1 : wr.cell? ⟨gb177, 1, none⟩ = some (u178001) := (blk_cell BK177.out 1).trans rfl
 have hfz21_0 := blk_frozen BK177.out 0
 have hfz21_1 := blk_frozen BK177.out 1
 have hcz22_0 : wr.cell? ⟨gb170, 0, none⟩ = some (.string (⟨#[]⟩ : ByteArray)) := (blk_cell BK170.out 0).trans rfl
 have hcz22_1 : wr.cell? ⟨gb170, 1, none⟩ = some (.slice none 0 0) := (blk_cell BK170.out 1).trans rfl
 have hfz22_0 := blk_frozen BK170.out 0
 have hfz22_1 := blk_frozen BK170.out 1
 obtain ⟨Ao23, co23, eo23⟩ := Kd.R_slice HO_178001.out
 subst eo23
 go_wp2
 refine bodyPost_ret (results_cell_row rfl _ _ gb170 71 #[.string (⟨#[106, 117, 115, 116]⟩ : ByteArray), .slice Ao23 x178001_1.length co23] (0, 0) _ rfl (by (with_reducible repeat (first | refine blk_drewN ?_ _ | refine blk_drew ?_ | refine blk_alloc ?_ _)); refine blk_put (cs := #[.string (⟨#[106, 117, 115, 116]⟩ : ByteArray), .slice none 0 0]) ?_ 1 _ rfl; (with_reducible repeat (first | refine blk_drewN ?_ _ | refine blk_drew ?_ | refine blk_alloc ?_ _)); refine blk_put (cs := #[.string (⟨#[]⟩ : ByteArray), .slice none 0 0]) ?_ 0 _ rfl; (with_reducible repeat (first | refine blk_drewN ?_ _ | refine blk_drew ?_ | refine blk_alloc ?_ _)); exact BK170.out) Tryd.underlying71 rfl (by kernel_rfl)) rfl ?_
 exact ⟨_, tE, by (with_reducible repeat (first | apply qra | apply qrn | apply qrd)); exact Kd.R_mono (Kd.R_far (p := ⟨gb170, 1, none⟩) (Kd.R_far (p := ⟨gb170, 0, none⟩) (Kd.R_types HO_178001.out BK170.out (by decide)) (fun _ hk => hk.2) (.string (⟨#[106, 117, 115, 116]⟩ : ByteArray))) (fun _ hk => hk.2) (.slice Ao23 x178001_1.length co23)) (fun _ hk => trivial), tH2 HB GE170.out GE177.out⟩

/-! ### spec_l01Small: function 197 -/
def spec_l01Small.f (a0 : Int) : Option (Bool) := if a0 ≥ 97 then (some (decide (a0 ≤ 122))) else (some false)
set_option maxHeartbeats 8000000 in
set_option maxRecDepth 100000 in
theorem spec_l01Small.calls (a0 : Int) (r : Bool) (w : World) (h : spec_l01Small.f a0 = some r) :
 Calls Tryd.prog 197 #[.int .u8 a0] w fun e w' => e = .returned (.bool r) ∧ Drawn0 w w' := by
 have H : (if a0 ≥ 97 then (some (decide (a0 ≤ 122))) else (some false)) = some r := h
 clear h
 by_cases c2 : a0 ≥ 97
 · rw [if_pos c2] at H
   have c2b0 : decide (97 ≤ a0) = true := decide_eq_true c2
   clear c2
   obtain rfl := Option.some.inj H
   go_enter Tryd.func197, Tryd.ntmps197
   go_wp2
   go_ret
   exact ⟨by first | rfl | (simp; done) | (simp [*]; done), tZ⟩
 rw [if_neg c2] at H
 have c2b0 : decide (97 ≤ a0) = false := decide_eq_false c2
 clear c2
 obtain rfl := Option.some.inj H
 go_enter Tryd.func197, Tryd.ntmps197
 go_wp2
 go_ret
 exact ⟨by first | rfl | (simp; done) | (simp [*]; done), tZ⟩

/-! ### spec_l01Digit: function 198 -/
def spec_l01Digit.f (a0 : Int) : Option (Bool) := if a0 ≥ 48 then (some (decide (a0 ≤ 57))) else (some false)
set_option maxHeartbeats 8000000 in
set_option maxRecDepth 100000 in
theorem spec_l01Digit.calls (a0 : Int) (r : Bool) (w : World) (h : spec_l01Digit.f a0 = some r) :
 Calls Tryd.prog 198 #[.int .u8 a0] w fun e w' => e = .returned (.bool r) ∧ Drawn0 w w' := by
 have H : (if a0 ≥ 48 then (some (decide (a0 ≤ 57))) else (some false)) = some r := h
 clear h
 by_cases c2 : a0 ≥ 48
 · rw [if_pos c2] at H
   have c2b0 : decide (48 ≤ a0) = true := decide_eq_true c2
   clear c2
   obtain rfl := Option.some.inj H
   go_enter Tryd.func198, Tryd.ntmps198
   go_wp2
   go_ret
   exact ⟨by first | rfl | (simp; done) | (simp [*]; done), tZ⟩
 rw [if_neg c2] at H
 have c2b0 : decide (48 ≤ a0) = false := decide_eq_false c2
 clear c2
 obtain rfl := Option.some.inj H
 go_enter Tryd.func198, Tryd.ntmps198
 go_wp2
 go_ret
 exact ⟨by first | rfl | (simp; done) | (simp [*]; done), tZ⟩

end Go.Proofs.YtmeflmlejcmckaaDoor.PB
