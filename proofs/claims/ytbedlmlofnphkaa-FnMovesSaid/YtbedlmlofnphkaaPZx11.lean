-- WRITTEN BY wip/gprint.py, a program of this session's over the kit's print, with contracts given by hand
import Derived.Test.YtbedlmlofnphkaaPZx0
import Derived.Test.YtbedlmlofnphkaaPZx3
import Derived.Test.YtbedlmlofnphkaaPZx8
import Derived.Test.YtbedlmlofnphkaaPZx9
import Derived.Test.YtbedlmlofnphkaaPZx10
namespace Go.Proofs.Ytbedlmlofnphkaa.PZ
open Go.RowKit Go.Proofs.YtbedlmlofnphkaaW.PrintWords Go.Proofs.YtbedlmlofnphkaaW.PrintLast Go.Proofs.YtbedlmlofnphkaaW.PrintMore
attribute [local go_sem] max2_int min2_int max_two min_two max_three min_three max_four min_four   -- for this text's walks alone
set_option linter.unusedVariables false
set_option linter.unusedSimpArgs false

attribute [local go_sem] isSome_setCell
/-! ### spec_l05Read: function 209 -/
mutual
def spec_l05Read.j0 : Nat → List ByteArray → List Int → List Int → List Int → Bool → Option (ByteArray × List Int × List Int × Int × Int × (List (List Int)) × Bool)
 | 0, _, _, _, _, _ => none
 | k + 1, x4, x5, x7, x9, x51 => if x51 = true then (some ((⟨#[]⟩ : ByteArray), ([] : List Int), ([] : List Int), 0, 0, ([] : List (List Int)), false)) else (if 0 < (x4.length : Int) then (if 0 < (x9.length : Int) then (if 1 < (x9.length : Int) then (spec_l05Read.l0 k x4 4 (rdOf ByteArray.empty x4 0) x5 x7 (rd x9 0) (rd x9 1) ([] : List (List Int))) else (none)) else (none)) else (none))
def spec_l05Read.l0 : Nat → List ByteArray → Int → ByteArray → List Int → List Int → Int → Int → List (List Int) → Option (ByteArray × List Int × List Int × Int × Int × (List (List Int)) × Bool)
 | 0, _, _, _, _, _, _, _, _ => none
 | k + 1, x4, x12, x229000, x229001, x229002, x229003, x229004, x229005 => if x12 < (x4.length : Int) then (if 0 ≤ x12 then ((spec_l05Two.f k (rdOf ByteArray.empty x4 x12)).bind fun bt230 => (if bt230.2 = true then (if x229005.length < 5864062014805 then (spec_l05Read.l0 k x4 (wrap64 (x12 + 1)) x229000 x229001 x229002 x229003 x229004 (x229005 ++ [bt230.1])) else (none)) else (some ((⟨#[]⟩ : ByteArray), ([] : List Int), ([] : List Int), 0, 0, ([] : List (List Int)), false)))) else (none)) else ((spec_l05Ok.f k [(⟨x229000, x229001, x229002, x229003, x229004, x229005⟩ : S27)]).bind fun t237 => (if t237 = true then (some (x229000, x229001, x229002, x229003, x229004, x229005, true)) else (some ((⟨#[]⟩ : ByteArray), ([] : List Int), ([] : List Int), 0, 0, ([] : List (List Int)), false))))
end
def spec_l05Read.f (k : Nat) (a0 : ByteArray) : Option (ByteArray × List Int × List Int × Int × Int × (List (List Int)) × Bool) := (spec_l01Split.f k a0 32).bind fun t207 => (if (t207.length : Int) < 4 then (some ((⟨#[]⟩ : ByteArray), ([] : List Int), ([] : List Int), 0, 0, ([] : List (List Int)), false)) else (if 1 < (t207.length : Int) then ((spec_l03Read.f k (rdOf ByteArray.empty t207 1)).bind fun bt211 => (if 2 < (t207.length : Int) then ((spec_l03Read.f k (rdOf ByteArray.empty t207 2)).bind fun bt216 => (if 3 < (t207.length : Int) then ((spec_l05Two.f k (rdOf ByteArray.empty t207 3)).bind fun bt221 => (if bt211.2 = true then (if bt216.2 = true then (spec_l05Read.j0 k t207 bt211.1 bt216.1 bt221.1 (!bt221.2)) else (spec_l05Read.j0 k t207 bt211.1 bt216.1 bt221.1 true)) else (spec_l05Read.j0 k t207 bt211.1 bt216.1 bt221.1 true))) else (none))) else (none))) else (none)))
theorem spec_l05Read.mono_l : ∀ k, (∀ y0 y1 y2 y3 y4, LeO (spec_l05Read.j0 k y0 y1 y2 y3 y4) (spec_l05Read.j0 (k + 1) y0 y1 y2 y3 y4)) ∧ (∀ y0 y1 y2 y3 y4 y5 y6 y7, LeO (spec_l05Read.l0 k y0 y1 y2 y3 y4 y5 y6 y7) (spec_l05Read.l0 (k + 1) y0 y1 y2 y3 y4 y5 y6 y7))
 | 0 => ⟨fun _ _ _ _ _ r h => by simp [spec_l05Read.j0] at h, fun _ _ _ _ _ _ _ _ r h => by simp [spec_l05Read.l0] at h⟩
 | k + 1 => by
  obtain ⟨ih0, ih1⟩ := spec_l05Read.mono_l k
  refine ⟨?_, ?_⟩
  all_goals (intros; (first | unfold spec_l05Read.j0 | unfold spec_l05Read.l0); repeat' first
   | (with_reducible exact ih0 _ _ _ _ _)
   | (with_reducible exact ih1 _ _ _ _ _ _ _ _)
   | (with_reducible exact spec_l01Split.mono _ _ _)
   | (with_reducible exact spec_l03Read.mono _ _)
   | (with_reducible exact spec_l05Ok.mono _ _)
   | (with_reducible exact spec_l05Two.mono _ _)
   | (with_reducible exact LeO.refl _)
   | (with_reducible exact LeO.none _)
   | (with_reducible refine LeO.ite ?_ ?_)
   | (with_reducible refine LeO.bind ?_ (fun _ => ?_))
   | exact ih0 _ _ _ _ _
   | exact ih1 _ _ _ _ _ _ _ _
   | exact spec_l01Split.mono _ _ _
   | exact spec_l03Read.mono _ _
   | exact spec_l05Ok.mono _ _
   | exact spec_l05Two.mono _ _
   | exact LeO.none _
   | refine LeO.ite ?_ ?_
   | refine LeO.bind ?_ (fun _ => ?_))
theorem spec_l05Read.mono : ∀ a0 k, LeO (spec_l05Read.f k a0) (spec_l05Read.f (k + 1) a0) := by
 intro a0 k
 obtain ⟨ih0, ih1⟩ := spec_l05Read.mono_l k
 unfold spec_l05Read.f
 repeat' first
  | (with_reducible exact ih0 _ _ _ _ _)
  | (with_reducible exact ih1 _ _ _ _ _ _ _ _)
  | (with_reducible exact spec_l01Split.mono _ _ _)
  | (with_reducible exact spec_l03Read.mono _ _)
  | (with_reducible exact spec_l05Ok.mono _ _)
  | (with_reducible exact spec_l05Two.mono _ _)
  | (with_reducible exact LeO.refl _)
  | (with_reducible exact LeO.none _)
  | (with_reducible refine LeO.ite ?_ ?_)
  | (with_reducible refine LeO.bind ?_ (fun _ => ?_))
  | exact ih0 _ _ _ _ _
  | exact ih1 _ _ _ _ _ _ _ _
  | exact spec_l01Split.mono _ _ _
  | exact spec_l03Read.mono _ _
  | exact spec_l05Ok.mono _ _
  | exact spec_l05Two.mono _ _
  | exact LeO.none _
  | refine LeO.ite ?_ ?_
  | refine LeO.bind ?_ (fun _ => ?_)
def spec_l05Read.T9 : Bool × List (List Nat × List Nat) := (true, [([], []), ([0], [0]), ([1], [1]), ([], []), ([], []), ([], []), ([5], [5]), ([6], [6]), ([], []), ([8], [8]), ([9], [9]), ([2, 3, 4, 7, 10], [2, 3, 4, 7, 10]), ([], []), ([12, 11, 0, 1, 2, 3, 4, 5, 6, 7, 8, 9, 10, 11, 12], [11, 12])])
def spec_l05Read.B9 : List Nat := [0, 1, 3, 0, 0, 0, 32, 96, 0, 256, 768, 2047, 0, 8191]
theorem spec_l05Read.tab9 : rtab .any (opsOf Try.f209 9) = spec_l05Read.T9 := by kernel_rfl
theorem spec_l05Read.bits9 : waitsOk spec_l05Read.T9.2 spec_l05Read.B9 = true := by kernel_rfl
set_option maxHeartbeats 8000000 in
set_option maxRecDepth 100000 in
theorem spec_l05Read.calls (k : Nat) (a0 : ByteArray) (r1 : ByteArray) (r2 : List Int) (r3 : List Int) (r4 : Int) (r5 : Int) (r6 : List (List Int)) (r7 : Bool) (w : World) (h : spec_l05Read.f k a0 = some (r1, r2, r3, r4, r5, r6, r7)) :
 Calls Try.prog 209 #[.string a0] w fun e w' => ∃ v1_ v2_ v5_ : Value, e = .returned (.tuple #[.agg #[.string r1, v1_, v2_, .int .i64 r4, .int .i64 r5, v5_], .bool r7]) ∧ Kd.R (Kd.int .i64) 2 w' w.heap.size (fun k_ => some k_ ≠ (v2_ : Value).ownBlock) v1_ r2 ∧ Kd.R (Kd.int .i64) 2 w' w.heap.size (fun k_ => some k_ ≠ (v1_ : Value).ownBlock) v2_ r3 ∧ Kd.S (Kd.slice 2 (Kd.int .i64)) 24 w' w.heap.size (fun k_ => some k_ ≠ (v1_ : Value).ownBlock ∧ some k_ ≠ (v2_ : Value).ownBlock) v5_ r6 ∧ Below w.heap.size w w' := by
 have hu27 := Try.underlying27
 have HB := Aside0.mk (Below.refl w.heap.size w)
 have H : ((spec_l01Split.f k a0 32).bind fun t207 => (if (t207.length : Int) < 4 then (some ((⟨#[]⟩ : ByteArray), ([] : List Int), ([] : List Int), 0, 0, ([] : List (List Int)), false)) else (if 1 < (t207.length : Int) then ((spec_l03Read.f k (rdOf ByteArray.empty t207 1)).bind fun bt211 => (if 2 < (t207.length : Int) then ((spec_l03Read.f k (rdOf ByteArray.empty t207 2)).bind fun bt216 => (if 3 < (t207.length : Int) then ((spec_l05Two.f k (rdOf ByteArray.empty t207 3)).bind fun bt221 => (if bt211.2 = true then (if bt216.2 = true then (spec_l05Read.j0 k t207 bt211.1 bt216.1 bt221.1 (!bt221.2)) else (spec_l05Read.j0 k t207 bt211.1 bt216.1 bt221.1 true)) else (spec_l05Read.j0 k t207 bt211.1 bt216.1 bt221.1 true))) else (none))) else (none))) else (none)))) = some (r1, r2, r3, r4, r5, r6, r7) := h
 clear h
 replace H := Option.bind_eq_some_iff.mp H
 obtain ⟨t207, A20, H⟩ := H
 replace H : (if (t207.length : Int) < 4 then (some ((⟨#[]⟩ : ByteArray), ([] : List Int), ([] : List Int), 0, 0, ([] : List (List Int)), false)) else (if 1 < (t207.length : Int) then ((spec_l03Read.f k (rdOf ByteArray.empty t207 1)).bind fun bt211 => (if 2 < (t207.length : Int) then ((spec_l03Read.f k (rdOf ByteArray.empty t207 2)).bind fun bt216 => (if 3 < (t207.length : Int) then ((spec_l05Two.f k (rdOf ByteArray.empty t207 3)).bind fun bt221 => (if bt211.2 = true then (if bt216.2 = true then (spec_l05Read.j0 k t207 bt211.1 bt216.1 bt221.1 (!bt221.2)) else (spec_l05Read.j0 k t207 bt211.1 bt216.1 bt221.1 true)) else (spec_l05Read.j0 k t207 bt211.1 bt216.1 bt221.1 true))) else (none))) else (none))) else (none))) = some (r1, r2, r3, r4, r5, r6, r7) := H
 have A2 := Aside0.mk A20
 clear A20
 by_cases c3 : (t207.length : Int) < 4
 · rw [if_pos c3] at H
   have c3b0 : decide ((t207.length : Int) < 4) = true := decide_eq_true c3
   have c3b1 : decide (t207.length < 4) = true := decide_eq_true (by omega)
   clear c3
   simp only [Option.some.injEq, Prod.mk.injEq] at H
   obtain ⟨rfl, rfl, rfl, rfl, rfl, rfl, rfl⟩ := H
   go_enter Try.func209, Try.ntmps209
   go_wp2_with (first | ((with_reducible refine gate_dst (N := 2) rfl ?_); refine box_event ?hg (N := 2) ?hd (cs := #[.string (⟨#[]⟩ : ByteArray), .slice none 0 0, .slice none 0 0, .int .i64 0, .int .i64 0, .slice none 0 0]) (t := 27) ?hr ?_; (case hd => rfl); (case hg => rfl); (case hr => first | (go_simp; done) | (go_simp; rfl)); intro gb206 hg w4 hbox hb; have BK206 := Aside0.mk (hbox); have GW206 := Aside0.mk ((by rw [hg]; exact (below_size (tH HB)) : w.heap.size ≤ gb206)); have GE206 := Aside0.mk ((by rw [hg]; exact (below_size (tH HB)) : w.heap.size ≤ gb206)); replace HB := Aside0.mk (below_step (tH HB) hb); clear hb hbox hg) | ((with_reducible refine gate_callee (f := 264) rfl ?_); refine gL_ (some 16) rfl rfl Try.func264 #[.string a0, .int .u8 32] rfl ?_; (with_reducible refine (spec_l01Split.calls k a0 32 t207 _ A2.out).mono ?_); rintro e w5 ⟨v208, rfl, ho0, hb⟩; refine ⟨_, rfl, ?_⟩; have HO209 := Aside0.mk (Kd.R_lower ho0 (below_size (tH1 HB GE206.out))); replace BK206 := Aside0.mk (blk_below (g := gb206) (o := .cells #[.string (⟨#[]⟩ : ByteArray), .slice none 0 0, .slice none 0 0, .int .i64 0, .int .i64 0, .slice none 0 0] 27 (0, 0)) (tB BK206) hb); replace HB := Aside0.mk (below_step (tH1 HB GE206.out) hb); (try clear hb); (try clear hb2); (try clear hk); (try clear hi); (try clear ho0); obtain ⟨Ao6, co6, eo6⟩ := Kd.R_slice HO209.out; subst eo6; have hcz7_0 : w5.cell? ⟨gb206, 0, none⟩ = some (.string (⟨#[]⟩ : ByteArray)) := (blk_cell BK206.out 0).trans rfl; have hcz7_1 : w5.cell? ⟨gb206, 1, none⟩ = some (.slice none 0 0) := (blk_cell BK206.out 1).trans rfl; have hcz7_2 : w5.cell? ⟨gb206, 2, none⟩ = some (.slice none 0 0) := (blk_cell BK206.out 2).trans rfl; have hcz7_3 : w5.cell? ⟨gb206, 3, none⟩ = some (.int .i64 0) := (blk_cell BK206.out 3).trans rfl; have hcz7_4 : w5.cell? ⟨gb206, 4, none⟩ = some (.int .i64 0) := (blk_cell BK206.out 4).trans rfl; have hcz7_5 : w5.cell? ⟨gb206, 5, none⟩ = some (.slice none 0 0) := (blk_cell BK206.out 5).trans rfl; have hfz7_0 := blk_frozen BK206.out 0; have hfz7_1 := blk_frozen BK206.out 1; have hfz7_2 := blk_frozen BK206.out 2; have hfz7_3 := blk_frozen BK206.out 3; have hfz7_4 := blk_frozen BK206.out 4; have hfz7_5 := blk_frozen BK206.out 5))
   refine bodyPost_ret (results_ct rfl _ _ gb206 27 #[.string (⟨#[]⟩ : ByteArray), .slice none 0 0, .slice none 0 0, .int .i64 0, .int .i64 0, .slice none 0 0] (0, 0) _ rfl (by (with_reducible repeat (first | refine blk_drewN ?_ _ | refine blk_drew ?_ | refine blk_alloc ?_ _)); refine blk_put (cs := #[.string (⟨#[]⟩ : ByteArray), .slice none 0 0, .slice none 0 0, .int .i64 0, .int .i64 0, .slice none 0 0]) ?_ 5 _ rfl; (with_reducible repeat (first | refine blk_drewN ?_ _ | refine blk_drew ?_ | refine blk_alloc ?_ _)); refine blk_put (cs := #[.string (⟨#[]⟩ : ByteArray), .slice none 0 0, .slice none 0 0, .int .i64 0, .int .i64 0, .slice none 0 0]) ?_ 4 _ rfl; (with_reducible repeat (first | refine blk_drewN ?_ _ | refine blk_drew ?_ | refine blk_alloc ?_ _)); refine blk_put (cs := #[.string (⟨#[]⟩ : ByteArray), .slice none 0 0, .slice none 0 0, .int .i64 0, .int .i64 0, .slice none 0 0]) ?_ 3 _ rfl; (with_reducible repeat (first | refine blk_drewN ?_ _ | refine blk_drew ?_ | refine blk_alloc ?_ _)); refine blk_put (cs := #[.string (⟨#[]⟩ : ByteArray), .slice none 0 0, .slice none 0 0, .int .i64 0, .int .i64 0, .slice none 0 0]) ?_ 2 _ rfl; (with_reducible repeat (first | refine blk_drewN ?_ _ | refine blk_drew ?_ | refine blk_alloc ?_ _)); refine blk_put (cs := #[.string (⟨#[]⟩ : ByteArray), .slice none 0 0, .slice none 0 0, .int .i64 0, .int .i64 0, .slice none 0 0]) ?_ 1 _ rfl; (with_reducible repeat (first | refine blk_drewN ?_ _ | refine blk_drew ?_ | refine blk_alloc ?_ _)); refine blk_put (cs := #[.string (⟨#[]⟩ : ByteArray), .slice none 0 0, .slice none 0 0, .int .i64 0, .int .i64 0, .slice none 0 0]) ?_ 0 _ rfl; (with_reducible repeat (first | refine blk_drewN ?_ _ | refine blk_drew ?_ | refine blk_alloc ?_ _)); exact BK206.out) Try.underlying27 rfl (by kernel_rfl)) rfl ?_
   exact ⟨_, _, _, tE, by first | exact Kd.R_nil _ _ _ _ _ | exact Kd.N_nil _ _ _ _ _ | exact Kd.V_nil _ _ _ _ _ | exact Kd.Q_nil _ _ _ _ _ | exact Kd.S_nil _ _ _ _ _, by first | exact Kd.R_nil _ _ _ _ _ | exact Kd.N_nil _ _ _ _ _ | exact Kd.V_nil _ _ _ _ _ | exact Kd.Q_nil _ _ _ _ _ | exact Kd.S_nil _ _ _ _ _, by first | exact Kd.S_nil _ _ _ _ _ | exact Kd.N_nil _ _ _ _ _ | exact Kd.V_nil _ _ _ _ _ | exact Kd.Q_nil _ _ _ _ _ | exact Kd.R_nil _ _ _ _ _, tH1 HB GE206.out⟩
 rw [if_neg c3] at H
 have c3b0 : decide ((t207.length : Int) < 4) = false := decide_eq_false c3
 have c3b1 : decide (t207.length < 4) = false := decide_eq_false (by omega)
 clear c3
 by_cases c8 : 1 < (t207.length : Int)
 · rw [if_pos c8] at H
   have c8b0 : decide (1 < (t207.length : Int)) = true := decide_eq_true c8
   have c8b1 : decide (1 < t207.length) = true := decide_eq_true (by omega)
   clear c8
   replace H := Option.bind_eq_some_iff.mp H
   obtain ⟨⟨t211, t212⟩, A90, H⟩ := H
   replace H : (if 2 < (t207.length : Int) then ((spec_l03Read.f k (rdOf ByteArray.empty t207 2)).bind fun bt216 => (if 3 < (t207.length : Int) then ((spec_l05Two.f k (rdOf ByteArray.empty t207 3)).bind fun bt221 => (if t212 = true then (if bt216.2 = true then (spec_l05Read.j0 k t207 t211 bt216.1 bt221.1 (!bt221.2)) else (spec_l05Read.j0 k t207 t211 bt216.1 bt221.1 true)) else (spec_l05Read.j0 k t207 t211 bt216.1 bt221.1 true))) else (none))) else (none)) = some (r1, r2, r3, r4, r5, r6, r7) := H
   have A9 := Aside0.mk A90
   clear A90
   by_cases c10 : 2 < (t207.length : Int)
   · rw [if_pos c10] at H
     have c10b0 : decide (2 < (t207.length : Int)) = true := decide_eq_true c10
     have c10b1 : decide (2 < t207.length) = true := decide_eq_true (by omega)
     clear c10
     replace H := Option.bind_eq_some_iff.mp H
     obtain ⟨⟨t216, t217⟩, A110, H⟩ := H
     replace H : (if 3 < (t207.length : Int) then ((spec_l05Two.f k (rdOf ByteArray.empty t207 3)).bind fun bt221 => (if t212 = true then (if t217 = true then (spec_l05Read.j0 k t207 t211 t216 bt221.1 (!bt221.2)) else (spec_l05Read.j0 k t207 t211 t216 bt221.1 true)) else (spec_l05Read.j0 k t207 t211 t216 bt221.1 true))) else (none)) = some (r1, r2, r3, r4, r5, r6, r7) := H
     have A11 := Aside0.mk A110
     clear A110
     by_cases c12 : 3 < (t207.length : Int)
     · rw [if_pos c12] at H
       have c12b0 : decide (3 < (t207.length : Int)) = true := decide_eq_true c12
       have c12b1 : decide (3 < t207.length) = true := decide_eq_true (by omega)
       clear c12
       replace H := Option.bind_eq_some_iff.mp H
       obtain ⟨⟨t221, t222⟩, A130, H⟩ := H
       replace H : (if t212 = true then (if t217 = true then (spec_l05Read.j0 k t207 t211 t216 t221 (!t222)) else (spec_l05Read.j0 k t207 t211 t216 t221 true)) else (spec_l05Read.j0 k t207 t211 t216 t221 true)) = some (r1, r2, r3, r4, r5, r6, r7) := H
       have A13 := Aside0.mk A130
       clear A130
       have HC14 := Aside0.mk H
       clear H
       go_enter Try.func209, Try.ntmps209
       go_upto_region 7 with (first | ((with_reducible refine gate_dst (N := 2) rfl ?_); refine box_event ?hg (N := 2) ?hd (cs := #[.string (⟨#[]⟩ : ByteArray), .slice none 0 0, .slice none 0 0, .int .i64 0, .int .i64 0, .slice none 0 0]) (t := 27) ?hr ?_; (case hd => rfl); (case hg => rfl); (case hr => first | (go_simp; done) | (go_simp; rfl)); intro gb206 hg w15 hbox hb; have BK206 := Aside0.mk (hbox); have GW206 := Aside0.mk ((by rw [hg]; exact (below_size (tH HB)) : w.heap.size ≤ gb206)); have GE206 := Aside0.mk ((by rw [hg]; exact (below_size (tH HB)) : w.heap.size ≤ gb206)); replace HB := Aside0.mk (below_step (tH HB) hb); clear hb hbox hg) | ((with_reducible refine gate_callee (f := 264) rfl ?_); refine gL_ (some 16) rfl rfl Try.func264 #[.string a0, .int .u8 32] rfl ?_; (with_reducible refine (spec_l01Split.calls k a0 32 t207 _ A2.out).mono ?_); rintro e w16 ⟨v208, rfl, ho0, hb⟩; refine ⟨_, rfl, ?_⟩; have HO209 := Aside0.mk (Kd.R_lower ho0 (below_size (tH1 HB GE206.out))); replace BK206 := Aside0.mk (blk_below (g := gb206) (o := .cells #[.string (⟨#[]⟩ : ByteArray), .slice none 0 0, .slice none 0 0, .int .i64 0, .int .i64 0, .slice none 0 0] 27 (0, 0)) (tB BK206) hb); replace HB := Aside0.mk (below_step (tH1 HB GE206.out) hb); (try clear hb); (try clear hb2); (try clear hk); (try clear hi); (try clear ho0); obtain ⟨Ao17, co17, eo17⟩ := Kd.R_slice HO209.out; subst eo17; have p210 : 0 ≤ (1 : Int) := (by omega); have q210 : 1 < (t207.length : Int) := of_decide_eq_true tA; obtain ⟨ad210, e210, hx210_0⟩ := Kd.at_string (Kd.R_reads' HO209.out).2.2 1 p210 q210; cases e210; (try simp only [show (1 : Int).toNat = 1 from rfl, Nat.reduceMul, Nat.reduceEqDiff, Go.Addr.add, ↓reduceIte] at hx210_0); have qi210 : (1 < t207.length) = True := eq_true (by omega); (try rw [t1n] at hx210_0); replace p210 := eq_true p210; replace q210 := eq_true q210) | ((with_reducible refine gate_callee (f := 243) rfl ?_); refine gL_ (some 25) rfl rfl Try.func243 #[.string (rdOf ByteArray.empty t207 1)] rfl ?_; (with_reducible refine (spec_l03Read.calls k (rdOf ByteArray.empty t207 1) t211 t212 _ A9.out).mono ?_); rintro e w18 ⟨v213, rfl, ho0, hb⟩; refine ⟨_, rfl, ?_⟩; replace HO209 := Aside0.mk (Kd.R_below (tR HO209) hb); have HO214 := Aside0.mk (Kd.R_lower ho0 (below_size (tH1 HB GE206.out))); replace BK206 := Aside0.mk (blk_below (g := gb206) (o := .cells #[.string (⟨#[]⟩ : ByteArray), .slice none 0 0, .slice none 0 0, .int .i64 0, .int .i64 0, .slice none 0 0] 27 (0, 0)) (tB BK206) hb); replace HB := Aside0.mk (below_step (tH1 HB GE206.out) hb); (try clear hb); (try clear hb2); (try clear hk); (try clear hi); (try clear ho0); have p215 : 0 ≤ (2 : Int) := (by omega); have q215 : 2 < (t207.length : Int) := of_decide_eq_true tA; obtain ⟨ad215, e215, hx215_0⟩ := Kd.at_string (Kd.R_reads' HO209.out).2.2 2 p215 q215; obtain rfl : ad210 = ad215 := (by injection e215); (try simp only [show (2 : Int).toNat = 2 from rfl, Nat.reduceMul, Nat.reduceEqDiff, Go.Addr.add, ↓reduceIte] at hx215_0); have qi215 : (2 < t207.length) = True := eq_true (by omega); (try rw [t2n] at hx215_0); replace p215 := eq_true p215; replace q215 := eq_true q215) | ((with_reducible refine gate_callee (f := 243) rfl ?_); refine gL_ (some 32) rfl rfl Try.func243 #[.string (rdOf ByteArray.empty t207 2)] rfl ?_; (with_reducible refine (spec_l03Read.calls k (rdOf ByteArray.empty t207 2) t216 t217 _ A11.out).mono ?_); rintro e w19 ⟨v218, rfl, ho0, hb⟩; refine ⟨_, rfl, ?_⟩; replace HO209 := Aside0.mk (Kd.R_below (tR HO209) hb); have HO219 := Aside0.mk (Kd.R_lower (Kd.R_new' ho0 (Kd.R_lt (tR HO214))) (below_size (tH1 HB GE206.out))); replace HO214 := Aside0.mk (Kd.R_elder' (tR HO214) (Kd.R_base ho0) hb); replace BK206 := Aside0.mk (blk_below (g := gb206) (o := .cells #[.string (⟨#[]⟩ : ByteArray), .slice none 0 0, .slice none 0 0, .int .i64 0, .int .i64 0, .slice none 0 0] 27 (0, 0)) (tB BK206) hb); replace HB := Aside0.mk (below_step (tH1 HB GE206.out) hb); (try clear hb); (try clear hb2); (try clear hk); (try clear hi); (try clear ho0); have p220 : 0 ≤ (3 : Int) := (by omega); have q220 : 3 < (t207.length : Int) := of_decide_eq_true tA; obtain ⟨ad220, e220, hx220_0⟩ := Kd.at_string (Kd.R_reads' HO209.out).2.2 3 p220 q220; obtain rfl : ad210 = ad220 := (by injection e220); (try simp only [show (3 : Int).toNat = 3 from rfl, Nat.reduceMul, Nat.reduceEqDiff, Go.Addr.add, ↓reduceIte] at hx220_0); have qi220 : (3 < t207.length) = True := eq_true (by omega); (try rw [t3n] at hx220_0); replace p220 := eq_true p220; replace q220 := eq_true q220) | ((with_reducible refine gate_callee (f := 265) rfl ?_); refine gL_ (some 39) rfl rfl Try.func265 #[.string (rdOf ByteArray.empty t207 3)] rfl ?_; (with_reducible refine (spec_l05Two.calls k (rdOf ByteArray.empty t207 3) t221 t222 _ A13.out).mono ?_); rintro e w20 ⟨v223, rfl, ho0, hb⟩; refine ⟨_, rfl, ?_⟩; replace HO209 := Aside0.mk (Kd.R_below (tR HO209) hb); have HO224 := Aside0.mk (Kd.R_lower (Kd.R_new' (Kd.R_new' ho0 (Kd.R_lt (tR HO214))) (Kd.R_lt (tR HO219))) (below_size (tH1 HB GE206.out))); replace HO214 := Aside0.mk (Kd.R_elder' (tR HO214) (Kd.R_base ho0) hb); replace HO219 := Aside0.mk (Kd.R_elder' (tR HO219) (Kd.R_base ho0) hb); replace BK206 := Aside0.mk (blk_below (g := gb206) (o := .cells #[.string (⟨#[]⟩ : ByteArray), .slice none 0 0, .slice none 0 0, .int .i64 0, .int .i64 0, .slice none 0 0] 27 (0, 0)) (tB BK206) hb); replace HB := Aside0.mk (below_step (tH1 HB GE206.out) hb); (try clear hb); (try clear hb2); (try clear hk); (try clear hi); (try clear ho0)))
       (try simp only [Act.put, sx0, sx1, sx2])
       go_cut [51] (fun v51 wc => ∃ (kq : Nat) (x51_13 : Bool), v51 = .bool x51_13 ∧ Aside0 (spec_l05Read.j0 kq t207 t211 t216 t221 x51_13 = some (r1, r2, r3, r4, r5, r6, r7)) ∧ Aside0 (kq ≤ k) ∧ Aside0 (Kd.R Kd.string 9 wc w.heap.size (fun _ => True) (.slice (some ad210) t207.length co17) t207) ∧ Aside0 (Kd.R (Kd.int .i64) 2 wc w.heap.size (fun k_ => some k_ ≠ (v218 : Value).ownBlock ∧ some k_ ≠ (v223 : Value).ownBlock) v213 t211) ∧ Aside0 (Kd.R (Kd.int .i64) 2 wc w.heap.size (fun k_ => some k_ ≠ (v213 : Value).ownBlock ∧ some k_ ≠ (v223 : Value).ownBlock) v218 t216) ∧ Aside0 (Kd.R (Kd.int .i64) 2 wc w.heap.size (fun k_ => some k_ ≠ (v213 : Value).ownBlock ∧ some k_ ≠ (v218 : Value).ownBlock) v223 t221) ∧ Aside0 (wc.heap[gb206]? = some (.cells #[.string (⟨#[]⟩ : ByteArray), (.slice none 0 0), (.slice none 0 0), .int .i64 0, .int .i64 0, (.slice none 0 0)] 27 (0, 0))) ∧ Aside0 (Below w.heap.size w wc))
       case first =>
        have H := HC14.out
        clear HC14
        by_cases c21 : t212 = true
        · subst c21
          have H1 : (if t217 = true then (spec_l05Read.j0 k t207 t211 t216 t221 (!t222)) else (spec_l05Read.j0 k t207 t211 t216 t221 true)) = some (r1, r2, r3, r4, r5, r6, r7) := by rw [if_pos rfl] at H; exact H
          clear H
          have H := H1
          clear H1
          by_cases c22 : t217 = true
          · subst c22
            have H1 : (spec_l05Read.j0 k t207 t211 t216 t221 (!t222)) = some (r1, r2, r3, r4, r5, r6, r7) := by rw [if_pos rfl] at H; exact H
            clear H
            have H := H1
            clear H1
            have H' := Aside0.mk H
            clear H
            go_wp2
            go_meet
            case rel => exact ⟨_, (!t222), tq, H', ⟨by first | omega | exact Nat.le_refl _⟩, ⟨tR HO209⟩, ⟨by (with_reducible repeat (first | apply qra | apply qrn | apply qrd)); exact Kd.R_mono HO214.out (fun _ hk => ⟨hk.1.2, hk.2⟩)⟩, ⟨by (with_reducible repeat (first | apply qra | apply qrn | apply qrd)); exact Kd.R_mono HO219.out (fun _ hk => ⟨hk.1.2, hk.2⟩)⟩, ⟨by (with_reducible repeat (first | apply qra | apply qrn | apply qrd)); exact Kd.R_mono HO224.out (fun _ hk => ⟨hk.1.2, hk.2⟩)⟩, ⟨tB BK206⟩, ⟨tH1 HB GE206.out⟩⟩
          replace c22 := Bool.eq_false_iff.mpr c22
          subst c22
          have H1 : (spec_l05Read.j0 k t207 t211 t216 t221 true) = some (r1, r2, r3, r4, r5, r6, r7) := by rw [if_neg (show ¬ (false = true) by decide)] at H; exact H
          clear H
          have H := H1
          clear H1
          have H' := Aside0.mk H
          clear H
          go_wp2
          go_meet
          case rel => exact ⟨_, (true), tq, H', ⟨by first | omega | exact Nat.le_refl _⟩, ⟨tR HO209⟩, ⟨by (with_reducible repeat (first | apply qra | apply qrn | apply qrd)); exact Kd.R_mono HO214.out (fun _ hk => ⟨hk.1.2, hk.2⟩)⟩, ⟨by (with_reducible repeat (first | apply qra | apply qrn | apply qrd)); exact Kd.R_mono HO219.out (fun _ hk => ⟨hk.1.2, hk.2⟩)⟩, ⟨by (with_reducible repeat (first | apply qra | apply qrn | apply qrd)); exact Kd.R_mono HO224.out (fun _ hk => ⟨hk.1.2, hk.2⟩)⟩, ⟨tB BK206⟩, ⟨tH1 HB GE206.out⟩⟩
        replace c21 := Bool.eq_false_iff.mpr c21
        subst c21
        have H1 : (spec_l05Read.j0 k t207 t211 t216 t221 true) = some (r1, r2, r3, r4, r5, r6, r7) := by rw [if_neg (show ¬ (false = true) by decide)] at H; exact H
        clear H
        have H := H1
        clear H1
        have H' := Aside0.mk H
        clear H
        go_wp2
        go_meet
        case rel => exact ⟨_, (true), tq, H', ⟨by first | omega | exact Nat.le_refl _⟩, ⟨tR HO209⟩, ⟨by (with_reducible repeat (first | apply qra | apply qrn | apply qrd)); exact Kd.R_mono HO214.out (fun _ hk => ⟨hk.1.2, hk.2⟩)⟩, ⟨by (with_reducible repeat (first | apply qra | apply qrn | apply qrd)); exact Kd.R_mono HO219.out (fun _ hk => ⟨hk.1.2, hk.2⟩)⟩, ⟨by (with_reducible repeat (first | apply qra | apply qrn | apply qrd)); exact Kd.R_mono HO224.out (fun _ hk => ⟨hk.1.2, hk.2⟩)⟩, ⟨tB BK206⟩, ⟨tH1 HB GE206.out⟩⟩
       case rest =>
       clear HC14
       try clear c1
       try clear c2
       try clear p2
       try clear q2
       try clear hx2
       try clear qi2
       try clear c3
       try clear c3b0
       try clear c3b1
       try clear c8
       try clear c8b0
       try clear c8b1
       try clear c10
       try clear c10b0
       try clear c10b1
       try clear c12
       try clear c12b0
       try clear c12b1
       try clear c20
       try clear c21
       try clear p21
       try clear q21
       try clear hx21
       try clear qi21
       try clear c22
       try clear p22
       try clear q22
       try clear hx22
       try clear qi22
       try clear hcz7_0 hcz7_1 hcz7_2 hcz7_3 hcz7_4 hcz7_5
       try clear hfz7_0 hfz7_1 hfz7_2 hfz7_3 hfz7_4 hfz7_5
       try clear hx210_0
       try clear hx215_0
       try clear hx220_0
       try clear p210
       try clear p215
       try clear p220
       try clear q210
       try clear q215
       try clear q220
       obtain ⟨kq, x51_13, rfl, HA, HJ13, HO_4, HO_5, HO_7, HO_9, BK206, HB⟩ := hcut
       cases kq with
       | zero => exact absurd HA.out (by simp [spec_l05Read.j0])
       | succ kj13 =>
       have H := HA.out
       clear HA
       simp only [spec_l05Read.j0] at H
       by_cases c23 : x51_13 = true
       · subst c23
         have H1 : (some ((⟨#[]⟩ : ByteArray), ([] : List Int), ([] : List Int), 0, 0, ([] : List (List Int)), false)) = some (r1, r2, r3, r4, r5, r6, r7) := by rw [if_pos rfl] at H; exact H
         clear H
         have H := H1
         clear H1
         simp only [Option.some.injEq, Prod.mk.injEq] at H
         obtain ⟨rfl, rfl, rfl, rfl, rfl, rfl, rfl⟩ := H
         have hcz24_0 : wc.cell? ⟨gb206, 0, none⟩ = some (.string (⟨#[]⟩ : ByteArray)) := (blk_cell BK206.out 0).trans rfl
         have hcz24_1 : wc.cell? ⟨gb206, 1, none⟩ = some (.slice none 0 0) := (blk_cell BK206.out 1).trans rfl
         have hcz24_2 : wc.cell? ⟨gb206, 2, none⟩ = some (.slice none 0 0) := (blk_cell BK206.out 2).trans rfl
         have hcz24_3 : wc.cell? ⟨gb206, 3, none⟩ = some (.int .i64 0) := (blk_cell BK206.out 3).trans rfl
         have hcz24_4 : wc.cell? ⟨gb206, 4, none⟩ = some (.int .i64 0) := (blk_cell BK206.out 4).trans rfl
         have hcz24_5 : wc.cell? ⟨gb206, 5, none⟩ = some (.slice none 0 0) := (blk_cell BK206.out 5).trans rfl
         have hfz24_0 := blk_frozen BK206.out 0
         have hfz24_1 := blk_frozen BK206.out 1
         have hfz24_2 := blk_frozen BK206.out 2
         have hfz24_3 := blk_frozen BK206.out 3
         have hfz24_4 := blk_frozen BK206.out 4
         have hfz24_5 := blk_frozen BK206.out 5
         go_wp2
         refine bodyPost_ret (results_ct rfl _ _ gb206 27 #[.string (⟨#[]⟩ : ByteArray), .slice none 0 0, .slice none 0 0, .int .i64 0, .int .i64 0, .slice none 0 0] (0, 0) _ rfl (by (with_reducible repeat (first | refine blk_drewN ?_ _ | refine blk_drew ?_ | refine blk_alloc ?_ _)); refine blk_put (cs := #[.string (⟨#[]⟩ : ByteArray), .slice none 0 0, .slice none 0 0, .int .i64 0, .int .i64 0, .slice none 0 0]) ?_ 5 _ rfl; (with_reducible repeat (first | refine blk_drewN ?_ _ | refine blk_drew ?_ | refine blk_alloc ?_ _)); refine blk_put (cs := #[.string (⟨#[]⟩ : ByteArray), .slice none 0 0, .slice none 0 0, .int .i64 0, .int .i64 0, .slice none 0 0]) ?_ 4 _ rfl; (with_reducible repeat (first | refine blk_drewN ?_ _ | refine blk_drew ?_ | refine blk_alloc ?_ _)); refine blk_put (cs := #[.string (⟨#[]⟩ : ByteArray), .slice none 0 0, .slice none 0 0, .int .i64 0, .int .i64 0, .slice none 0 0]) ?_ 3 _ rfl; (with_reducible repeat (first | refine blk_drewN ?_ _ | refine blk_drew ?_ | refine blk_alloc ?_ _)); refine blk_put (cs := #[.string (⟨#[]⟩ : ByteArray), .slice none 0 0, .slice none 0 0, .int .i64 0, .int .i64 0, .slice none 0 0]) ?_ 2 _ rfl; (with_reducible repeat (first | refine blk_drewN ?_ _ | refine blk_drew ?_ | refine blk_alloc ?_ _)); refine blk_put (cs := #[.string (⟨#[]⟩ : ByteArray), .slice none 0 0, .slice none 0 0, .int .i64 0, .int .i64 0, .slice none 0 0]) ?_ 1 _ rfl; (with_reducible repeat (first | refine blk_drewN ?_ _ | refine blk_drew ?_ | refine blk_alloc ?_ _)); refine blk_put (cs := #[.string (⟨#[]⟩ : ByteArray), .slice none 0 0, .slice none 0 0, .int .i64 0, .int .i64 0, .slice none 0 0]) ?_ 0 _ rfl; (with_reducible repeat (first | refine blk_drewN ?_ _ | refine blk_drew ?_ | refine blk_alloc ?_ _)); exact BK206.out) Try.underlying27 rfl (by kernel_rfl)) rfl ?_
         exact ⟨_, _, _, tE, by first | exact Kd.R_nil _ _ _ _ _ | exact Kd.N_nil _ _ _ _ _ | exact Kd.V_nil _ _ _ _ _ | exact Kd.Q_nil _ _ _ _ _ | exact Kd.S_nil _ _ _ _ _, by first | exact Kd.R_nil _ _ _ _ _ | exact Kd.N_nil _ _ _ _ _ | exact Kd.V_nil _ _ _ _ _ | exact Kd.Q_nil _ _ _ _ _ | exact Kd.S_nil _ _ _ _ _, by first | exact Kd.S_nil _ _ _ _ _ | exact Kd.N_nil _ _ _ _ _ | exact Kd.V_nil _ _ _ _ _ | exact Kd.Q_nil _ _ _ _ _ | exact Kd.R_nil _ _ _ _ _, tH1 HB GE206.out⟩
       replace c23 := Bool.eq_false_iff.mpr c23
       subst c23
       have H1 : (if 0 < (t207.length : Int) then (if 0 < (t221.length : Int) then (if 1 < (t221.length : Int) then (spec_l05Read.l0 kj13 t207 4 (rdOf ByteArray.empty t207 0) t211 t216 (rd t221 0) (rd t221 1) ([] : List (List Int))) else (none)) else (none)) else (none)) = some (r1, r2, r3, r4, r5, r6, r7) := by rw [if_neg (show ¬ (false = true) by decide)] at H; exact H
       clear H
       have H := H1
       clear H1
       by_cases c25 : 0 < (t207.length : Int)
       · rw [if_pos c25] at H
         have c25b0 : decide (0 < (t207.length : Int)) = true := decide_eq_true c25
         have c25b1 : decide (0 < t207.length) = true := decide_eq_true (by omega)
         clear c25
         by_cases c26 : 0 < (t221.length : Int)
         · rw [if_pos c26] at H
           have c26b0 : decide (0 < (t221.length : Int)) = true := decide_eq_true c26
           have c26b1 : decide (0 < t221.length) = true := decide_eq_true (by omega)
           clear c26
           by_cases c27 : 1 < (t221.length : Int)
           · rw [if_pos c27] at H
             have c27b0 : decide (1 < (t221.length : Int)) = true := decide_eq_true c27
             have c27b1 : decide (1 < t221.length) = true := decide_eq_true (by omega)
             clear c27
             have H' := Aside0.mk H
             clear H
             try go_wp2
             replace HO_4 := Aside0.mk (Kd.R_drew HO_4.out)
             replace HO_5 := Aside0.mk (Kd.R_drew HO_5.out)
             replace HO_7 := Aside0.mk (Kd.R_drew HO_7.out)
             replace HO_9 := Aside0.mk (Kd.R_drew HO_9.out)
             replace BK206 := Aside0.mk (blk_drew BK206.out)
             replace HB := Aside0.mk (below_drew1 HB.out)
             have p225 : 0 ≤ (0 : Int) := (by omega)
             have q225 : 0 < (t207.length : Int) := of_decide_eq_true tA
             obtain ⟨ad225, e225, hx225_0⟩ := Kd.at_string (Kd.R_reads' HO_4.out).2.2 0 p225 q225
             obtain rfl : ad210 = ad225 := (by injection e225)
             have qi225 : (0 < t207.length) = True := eq_true (by omega)
             (try rw [t0n] at hx225_0)
             (try rw [Addr.add_zero'] at hx225_0)
             replace p225 := eq_true p225
             replace q225 := eq_true q225
             obtain ⟨Ao29, co29, eo29⟩ := Kd.R_slice HO_9.out
             (first | subst eo29 | (injection eo29 with f1_ f2_ f3_; have f4_ := f1_.symm; have f5_ := f3_.symm; clear f1_ f2_ f3_; subst f4_; subst f5_))
             have p226 : 0 ≤ (0 : Int) := (by omega)
             have q226 : 0 < (t221.length : Int) := of_decide_eq_true tA
             obtain ⟨ad226, e226, hx226_0⟩ := Kd.at_int (Kd.R_reads' HO_9.out).2.2 0 p226 q226
             cases e226
             have qi226 : (0 < t221.length) = True := eq_true (by omega)
             (try rw [t0n] at hx226_0)
             (try rw [Addr.add_zero'] at hx226_0)
             replace p226 := eq_true p226
             replace q226 := eq_true q226
             have p227 : 0 ≤ (1 : Int) := (by omega)
             have q227 : 1 < (t221.length : Int) := of_decide_eq_true tA
             obtain ⟨ad227, e227, hx227_0⟩ := Kd.at_int (Kd.R_reads' HO_9.out).2.2 1 p227 q227
             obtain rfl : ad226 = ad227 := (by injection e227)
             (try simp only [show (1 : Int).toNat = 1 from rfl, Nat.reduceMul, Nat.reduceEqDiff, Go.Addr.add, ↓reduceIte] at hx227_0)
             have qi227 : (1 < t221.length) = True := eq_true (by omega)
             (try rw [t1n] at hx227_0)
             replace p227 := eq_true p227
             replace q227 := eq_true q227
             obtain ⟨Ao30, co30, eo30⟩ := Kd.R_slice HO_7.out
             (first | subst eo30 | (injection eo30 with f1_ f2_ f3_; have f4_ := f1_.symm; have f5_ := f3_.symm; clear f1_ f2_ f3_; subst f4_; subst f5_))
             obtain ⟨Ao31, co31, eo31⟩ := Kd.R_slice HO_5.out
             (first | subst eo31 | (injection eo31 with f1_ f2_ f3_; have f4_ := f1_.symm; have f5_ := f3_.symm; clear f1_ f2_ f3_; subst f4_; subst f5_))
             refine start_ (n := 14) (S := fun w' => w'.cell? ad210 = some (.string (rdOf ByteArray.empty t207 0)) ∧ w'.cell? ad226 = some (.int .i64 (rd t221 0)) ∧ w'.cell? ⟨ad226.block, ad226.off + 1, none⟩ = some (.int .i64 (rd t221 1))) (ds := []) (bq [0, 14]) (by kernel_rfl) rfl rfl ⟨hx225_0, hx226_0, hx227_0⟩ (fun hHeld => ?_); refine with_tabW spec_l05Read.tab9 spec_l05Read.bits9 (fun HT_ HW_ => ?_)
             generalize wc.drew = w28 at HO_4 HO_5 HO_7 HO_9 BK206 HB hx225_0 hx226_0 hx227_0 hHeld ⊢
             refine pV 0 (some 53) [1, 13] rfl rfl HT_ ?_
             refine pV 1 (some 54) [2, 12] rfl rfl HT_ ?_
             refine pV 3 (some 56) [2, 1, 1, 10] rfl rfl HT_ ?_
             refine pV 4 (some 57) [2, 1, 2, 9] rfl rfl HT_ ?_
             refine pV 5 (some 58) [2, 1, 3, 8] rfl rfl HT_ ?_
             refine pV 6 (some 59) [2, 1, 4, 7] rfl rfl HT_ ?_
             refine pV 8 (some 61) [2, 1, 4, 1, 1, 5] rfl rfl HT_ ?_
             refine pV 9 (some 62) [2, 1, 4, 1, 2, 4] rfl rfl HT_ ?_
             refine pT 2 (some 55) (bq [7, 1, 2, 4]) rfl rfl HT_ HW_ hHeld ?_
             refine pT 7 (some 60) (bq [10, 4]) rfl rfl HT_ HW_ hHeld ?_
             refine pT 10 (some 63) (bq [11, 3]) rfl rfl HT_ HW_ hHeld ?_
             refine pV 11 (some 64) [12, 2] rfl rfl HT_ ?_
             refine pO 12 (some 11) (bq [13, 1]) rfl rfl HT_ (fun K hK => ?_)
             refine box_step ?hg (N := 11) ?hd (cs := #[.string (⟨#[]⟩ : ByteArray), .slice none 0 0, .slice none 0 0, .int .i64 0, .int .i64 0, .slice none 0 0]) (t := 27) ?hr ?_; (case hd => rfl); (case hg => rfl); (case hr => first | (go_simp; done) | (go_simp; rfl))
             intro gb228 hg w32 hbox hb
             have HS0_ := (hb.cell (World.block_lt_of_cell? _ _ (hHeld.1))).trans (hHeld.1)
             have HS1_ := (hb.cell (World.block_lt_of_cell? _ _ (hHeld.2.1))).trans (hHeld.2.1)
             have HS2_ := (hb.cell (World.block_lt_of_cell? _ _ (hHeld.2.2))).trans (hHeld.2.2)
             replace HO_4 := Aside0.mk (Kd.R_below (tR HO_4) hb)
             replace HO_5 := Aside0.mk (Kd.R_below (tR HO_5) hb)
             replace HO_7 := Aside0.mk (Kd.R_below (tR HO_7) hb)
             replace HO_9 := Aside0.mk (Kd.R_below (tR HO_9) hb)
             have BK228 := Aside0.mk (hbox)
             have GW228 := Aside0.mk ((by rw [hg]; exact (below_size (tH1 HB GE206.out)) : w.heap.size ≤ gb228))
             have GE228 := Aside0.mk ((by rw [hg]; exact (below_size (tH1 HB GE206.out)) : w.heap.size ≤ gb228))
             replace HB := Aside0.mk (below_step (tH1 HB GE206.out) hb)
             have NB206_228 := Aside0.mk ((by rw [hg]; exact Nat.ne_of_lt (blk_lt (g := gb206) (o := .cells #[.string (⟨#[]⟩ : ByteArray), .slice none 0 0, .slice none 0 0, .int .i64 0, .int .i64 0, .slice none 0 0] 27 (0, 0)) (tB BK206)) : gb206 ≠ gb228))
             have NB228_206 := Aside0.mk ((by rw [hg]; exact Nat.ne_of_gt (blk_lt (g := gb206) (o := .cells #[.string (⟨#[]⟩ : ByteArray), .slice none 0 0, .slice none 0 0, .int .i64 0, .int .i64 0, .slice none 0 0] 27 (0, 0)) (tB BK206)) : gb228 ≠ gb206))
             replace BK206 := Aside0.mk (blk_below (g := gb206) (o := .cells #[.string (⟨#[]⟩ : ByteArray), .slice none 0 0, .slice none 0 0, .int .i64 0, .int .i64 0, .slice none 0 0] 27 (0, 0)) (tB BK206) hb)
             clear hb hbox hg
             refine hK.out _ _ ⟨HS0_, HS1_, HS2_⟩ (fun hHeld => ?_)
             clear hK K
             refine nO (some 11) ?_
             refine pO 13 none (bq [14]) rfl rfl HT_ (fun K hK => ?_)
             have hs33 : w32.cell? ⟨gb228, 0, none⟩ = some (.string (⟨#[]⟩ : ByteArray)) := (blk_cell BK228.out 0).trans rfl
             have hfs33 := blk_frozen BK228.out 0
             have hns33_0 := NB206_228.out
             have hms33_0 := NB228_206.out
             have hs34 : w32.cell? ⟨gb228, 1, none⟩ = some (.slice none 0 0) := (blk_cell BK228.out 1).trans rfl
             have hfs34 := blk_frozen BK228.out 1
             have hns34_0 := NB206_228.out
             have hms34_0 := NB228_206.out
             have hs35 : w32.cell? ⟨gb228, 2, none⟩ = some (.slice none 0 0) := (blk_cell BK228.out 2).trans rfl
             have hfs35 := blk_frozen BK228.out 2
             have hns35_0 := NB206_228.out
             have hms35_0 := NB228_206.out
             have hs36 : w32.cell? ⟨gb228, 3, none⟩ = some (.int .i64 0) := (blk_cell BK228.out 3).trans rfl
             have hfs36 := blk_frozen BK228.out 3
             have hns36_0 := NB206_228.out
             have hms36_0 := NB228_206.out
             have hs37 : w32.cell? ⟨gb228, 4, none⟩ = some (.int .i64 0) := (blk_cell BK228.out 4).trans rfl
             have hfs37 := blk_frozen BK228.out 4
             have hns37_0 := NB206_228.out
             have hms37_0 := NB228_206.out
             have hs38 : w32.cell? ⟨gb228, 5, none⟩ = some (.slice none 0 0) := (blk_cell BK228.out 5).trans rfl
             have hfs38 := blk_frozen BK228.out 5
             have hns38_0 := NB206_228.out
             have hms38_0 := NB228_206.out
             refine skip_ (w1 := ?_) (by rfl) rfl ?_ ?_
             rotate_left
             · go_simp
               rfl
             refine hK.out _ _ ⟨((cell_far (p := ⟨gb228, _, none⟩) (by first | exact Kd.own_blk (Kd.R_ne HO_4.out BK228.out (by decide)) | (rw [add_block]; exact Kd.own_blk (Kd.R_ne HO_4.out BK228.out (by decide))) | (show (Addr.add _ _).block ≠ _; rw [add_block]; exact Kd.own_blk (Kd.R_ne HO_4.out BK228.out (by decide))) | (dsimp only; exact Kd.own_blk (Kd.R_ne HO_4.out BK228.out (by decide)))) _).trans (((cell_far (p := ⟨gb228, _, none⟩) (by first | exact Kd.own_blk (Kd.R_ne HO_4.out BK228.out (by decide)) | (rw [add_block]; exact Kd.own_blk (Kd.R_ne HO_4.out BK228.out (by decide))) | (show (Addr.add _ _).block ≠ _; rw [add_block]; exact Kd.own_blk (Kd.R_ne HO_4.out BK228.out (by decide))) | (dsimp only; exact Kd.own_blk (Kd.R_ne HO_4.out BK228.out (by decide)))) _).trans (((cell_far (p := ⟨gb228, _, none⟩) (by first | exact Kd.own_blk (Kd.R_ne HO_4.out BK228.out (by decide)) | (rw [add_block]; exact Kd.own_blk (Kd.R_ne HO_4.out BK228.out (by decide))) | (show (Addr.add _ _).block ≠ _; rw [add_block]; exact Kd.own_blk (Kd.R_ne HO_4.out BK228.out (by decide))) | (dsimp only; exact Kd.own_blk (Kd.R_ne HO_4.out BK228.out (by decide)))) _).trans (((cell_far (p := ⟨gb228, _, none⟩) (by first | exact Kd.own_blk (Kd.R_ne HO_4.out BK228.out (by decide)) | (rw [add_block]; exact Kd.own_blk (Kd.R_ne HO_4.out BK228.out (by decide))) | (show (Addr.add _ _).block ≠ _; rw [add_block]; exact Kd.own_blk (Kd.R_ne HO_4.out BK228.out (by decide))) | (dsimp only; exact Kd.own_blk (Kd.R_ne HO_4.out BK228.out (by decide)))) _).trans (((cell_far (p := ⟨gb228, _, none⟩) (by first | exact Kd.own_blk (Kd.R_ne HO_4.out BK228.out (by decide)) | (rw [add_block]; exact Kd.own_blk (Kd.R_ne HO_4.out BK228.out (by decide))) | (show (Addr.add _ _).block ≠ _; rw [add_block]; exact Kd.own_blk (Kd.R_ne HO_4.out BK228.out (by decide))) | (dsimp only; exact Kd.own_blk (Kd.R_ne HO_4.out BK228.out (by decide)))) _).trans (((cell_far (p := ⟨gb228, _, none⟩) (by first | exact Kd.own_blk (Kd.R_ne HO_4.out BK228.out (by decide)) | (rw [add_block]; exact Kd.own_blk (Kd.R_ne HO_4.out BK228.out (by decide))) | (show (Addr.add _ _).block ≠ _; rw [add_block]; exact Kd.own_blk (Kd.R_ne HO_4.out BK228.out (by decide))) | (dsimp only; exact Kd.own_blk (Kd.R_ne HO_4.out BK228.out (by decide)))) _).trans (hHeld.1)))))))))))), ((cell_far (p := ⟨gb228, _, none⟩) (by first | exact Kd.own_blk (Kd.R_ne HO_9.out BK228.out (by decide)) | (rw [add_block]; exact Kd.own_blk (Kd.R_ne HO_9.out BK228.out (by decide))) | (show (Addr.add _ _).block ≠ _; rw [add_block]; exact Kd.own_blk (Kd.R_ne HO_9.out BK228.out (by decide))) | (dsimp only; exact Kd.own_blk (Kd.R_ne HO_9.out BK228.out (by decide)))) _).trans (((cell_far (p := ⟨gb228, _, none⟩) (by first | exact Kd.own_blk (Kd.R_ne HO_9.out BK228.out (by decide)) | (rw [add_block]; exact Kd.own_blk (Kd.R_ne HO_9.out BK228.out (by decide))) | (show (Addr.add _ _).block ≠ _; rw [add_block]; exact Kd.own_blk (Kd.R_ne HO_9.out BK228.out (by decide))) | (dsimp only; exact Kd.own_blk (Kd.R_ne HO_9.out BK228.out (by decide)))) _).trans (((cell_far (p := ⟨gb228, _, none⟩) (by first | exact Kd.own_blk (Kd.R_ne HO_9.out BK228.out (by decide)) | (rw [add_block]; exact Kd.own_blk (Kd.R_ne HO_9.out BK228.out (by decide))) | (show (Addr.add _ _).block ≠ _; rw [add_block]; exact Kd.own_blk (Kd.R_ne HO_9.out BK228.out (by decide))) | (dsimp only; exact Kd.own_blk (Kd.R_ne HO_9.out BK228.out (by decide)))) _).trans (((cell_far (p := ⟨gb228, _, none⟩) (by first | exact Kd.own_blk (Kd.R_ne HO_9.out BK228.out (by decide)) | (rw [add_block]; exact Kd.own_blk (Kd.R_ne HO_9.out BK228.out (by decide))) | (show (Addr.add _ _).block ≠ _; rw [add_block]; exact Kd.own_blk (Kd.R_ne HO_9.out BK228.out (by decide))) | (dsimp only; exact Kd.own_blk (Kd.R_ne HO_9.out BK228.out (by decide)))) _).trans (((cell_far (p := ⟨gb228, _, none⟩) (by first | exact Kd.own_blk (Kd.R_ne HO_9.out BK228.out (by decide)) | (rw [add_block]; exact Kd.own_blk (Kd.R_ne HO_9.out BK228.out (by decide))) | (show (Addr.add _ _).block ≠ _; rw [add_block]; exact Kd.own_blk (Kd.R_ne HO_9.out BK228.out (by decide))) | (dsimp only; exact Kd.own_blk (Kd.R_ne HO_9.out BK228.out (by decide)))) _).trans (((cell_far (p := ⟨gb228, _, none⟩) (by first | exact Kd.own_blk (Kd.R_ne HO_9.out BK228.out (by decide)) | (rw [add_block]; exact Kd.own_blk (Kd.R_ne HO_9.out BK228.out (by decide))) | (show (Addr.add _ _).block ≠ _; rw [add_block]; exact Kd.own_blk (Kd.R_ne HO_9.out BK228.out (by decide))) | (dsimp only; exact Kd.own_blk (Kd.R_ne HO_9.out BK228.out (by decide)))) _).trans (hHeld.2.1)))))))))))), ((cell_far (p := ⟨gb228, _, none⟩) (by first | exact Kd.own_blk (Kd.R_ne HO_9.out BK228.out (by decide)) | (rw [add_block]; exact Kd.own_blk (Kd.R_ne HO_9.out BK228.out (by decide))) | (show (Addr.add _ _).block ≠ _; rw [add_block]; exact Kd.own_blk (Kd.R_ne HO_9.out BK228.out (by decide))) | (dsimp only; exact Kd.own_blk (Kd.R_ne HO_9.out BK228.out (by decide)))) _).trans (((cell_far (p := ⟨gb228, _, none⟩) (by first | exact Kd.own_blk (Kd.R_ne HO_9.out BK228.out (by decide)) | (rw [add_block]; exact Kd.own_blk (Kd.R_ne HO_9.out BK228.out (by decide))) | (show (Addr.add _ _).block ≠ _; rw [add_block]; exact Kd.own_blk (Kd.R_ne HO_9.out BK228.out (by decide))) | (dsimp only; exact Kd.own_blk (Kd.R_ne HO_9.out BK228.out (by decide)))) _).trans (((cell_far (p := ⟨gb228, _, none⟩) (by first | exact Kd.own_blk (Kd.R_ne HO_9.out BK228.out (by decide)) | (rw [add_block]; exact Kd.own_blk (Kd.R_ne HO_9.out BK228.out (by decide))) | (show (Addr.add _ _).block ≠ _; rw [add_block]; exact Kd.own_blk (Kd.R_ne HO_9.out BK228.out (by decide))) | (dsimp only; exact Kd.own_blk (Kd.R_ne HO_9.out BK228.out (by decide)))) _).trans (((cell_far (p := ⟨gb228, _, none⟩) (by first | exact Kd.own_blk (Kd.R_ne HO_9.out BK228.out (by decide)) | (rw [add_block]; exact Kd.own_blk (Kd.R_ne HO_9.out BK228.out (by decide))) | (show (Addr.add _ _).block ≠ _; rw [add_block]; exact Kd.own_blk (Kd.R_ne HO_9.out BK228.out (by decide))) | (dsimp only; exact Kd.own_blk (Kd.R_ne HO_9.out BK228.out (by decide)))) _).trans (((cell_far (p := ⟨gb228, _, none⟩) (by first | exact Kd.own_blk (Kd.R_ne HO_9.out BK228.out (by decide)) | (rw [add_block]; exact Kd.own_blk (Kd.R_ne HO_9.out BK228.out (by decide))) | (show (Addr.add _ _).block ≠ _; rw [add_block]; exact Kd.own_blk (Kd.R_ne HO_9.out BK228.out (by decide))) | (dsimp only; exact Kd.own_blk (Kd.R_ne HO_9.out BK228.out (by decide)))) _).trans (((cell_far (p := ⟨gb228, _, none⟩) (by first | exact Kd.own_blk (Kd.R_ne HO_9.out BK228.out (by decide)) | (rw [add_block]; exact Kd.own_blk (Kd.R_ne HO_9.out BK228.out (by decide))) | (show (Addr.add _ _).block ≠ _; rw [add_block]; exact Kd.own_blk (Kd.R_ne HO_9.out BK228.out (by decide))) | (dsimp only; exact Kd.own_blk (Kd.R_ne HO_9.out BK228.out (by decide)))) _).trans (hHeld.2.2))))))))))))⟩ (fun hHeld => ?_)
             clear hK K
             refine done_ (done_of HT_.out (by kernel_rfl)) ?_
             try go_wp2
             go_loopg [12] kj13 (fun kq v12 w' => ∃ (x12_2 : Int) (x207000_2 : ByteArray) (x207003_2 : Int) (x207004_2 : Int) (x229005_2 : List (List Int)) (u229005 : Value), v12 = .int .i64 x12_2 ∧ Aside0 (spec_l05Read.l0 kq t207 x12_2 (rdOf ByteArray.empty t207 0) t211 t216 (rd t221 0) (rd t221 1) x229005_2 = some (r1, r2, r3, r4, r5, r6, r7)) ∧ Aside0 (kq ≤ kj13) ∧ Aside0 (Kd.R Kd.string 9 w' w.heap.size (fun _ => True) (.slice (some ad210) t207.length co17) t207) ∧ Aside0 (Kd.R (Kd.int .i64) 2 w' w.heap.size (fun k_ => some k_ ≠ ((.slice Ao30 t216.length co30) : Value).ownBlock) (.slice Ao31 t211.length co31) t211) ∧ Aside0 (Kd.R (Kd.int .i64) 2 w' w.heap.size (fun k_ => some k_ ≠ ((.slice Ao31 t211.length co31) : Value).ownBlock) (.slice Ao30 t216.length co30) t216) ∧ Aside0 (Kd.S (Kd.slice 2 (Kd.int .i64)) 24 w' w.heap.size (fun k_ => some k_ ≠ ((.slice Ao31 t211.length co31) : Value).ownBlock ∧ some k_ ≠ ((.slice Ao30 t216.length co30) : Value).ownBlock) u229005 x229005_2) ∧ Aside0 (w'.heap[gb206]? = some (.cells #[.string x207000_2, (.slice none 0 0), (.slice none 0 0), .int .i64 x207003_2, .int .i64 x207004_2, (.slice none 0 0)] 27 (0, 0))) ∧ Aside0 (w'.heap[gb228]? = some (.cells #[.string (rdOf ByteArray.empty t207 0), (.slice Ao31 t211.length co31), (.slice Ao30 t216.length co30), .int .i64 (rd t221 0), .int .i64 (rd t221 1), u229005] 27 (0, 0))) ∧ Aside0 (Below w.heap.size w w'))
             case atStart => exact ⟨(4), ((⟨#[]⟩ : ByteArray)), (0), (0), (([] : List (List Int))), (.slice none 0 0), tq, H', ⟨Nat.le_refl _⟩, ⟨by (with_reducible repeat (first | apply qra | apply qrn | apply qrd)); exact Kd.R_mono (Kd.R_far (p := ⟨gb228, 5, none⟩) (Kd.R_far (p := ⟨gb228, 4, none⟩) (Kd.R_far (p := ⟨gb228, 3, none⟩) (Kd.R_far (p := ⟨gb228, 2, none⟩) (Kd.R_far (p := ⟨gb228, 1, none⟩) (Kd.R_far (p := ⟨gb228, 0, none⟩) (Kd.R_types HO_4.out BK228.out (by decide)) (fun _ hk => hk.2) (.string (rdOf ByteArray.empty t207 0))) (fun _ hk => hk.2) (.slice Ao31 t211.length co31)) (fun _ hk => hk.2) (.slice Ao30 t216.length co30)) (fun _ hk => hk.2) (.int .i64 (rd t221 0))) (fun _ hk => hk.2) (.int .i64 (rd t221 1))) (fun _ hk => hk.2) (.slice none 0 0)) (fun _ hk => trivial)⟩, ⟨by (with_reducible repeat (first | apply qra | apply qrn | apply qrd)); exact Kd.R_mono (Kd.R_far (p := ⟨gb228, 5, none⟩) (Kd.R_far (p := ⟨gb228, 4, none⟩) (Kd.R_far (p := ⟨gb228, 3, none⟩) (Kd.R_far (p := ⟨gb228, 2, none⟩) (Kd.R_far (p := ⟨gb228, 1, none⟩) (Kd.R_far (p := ⟨gb228, 0, none⟩) (Kd.R_types HO_5.out BK228.out (by decide)) (fun _ hk => hk.2) (.string (rdOf ByteArray.empty t207 0))) (fun _ hk => hk.2) (.slice Ao31 t211.length co31)) (fun _ hk => hk.2) (.slice Ao30 t216.length co30)) (fun _ hk => hk.2) (.int .i64 (rd t221 0))) (fun _ hk => hk.2) (.int .i64 (rd t221 1))) (fun _ hk => hk.2) (.slice none 0 0)) (fun _ hk => hk.1.1)⟩, ⟨by (with_reducible repeat (first | apply qra | apply qrn | apply qrd)); exact Kd.R_mono (Kd.R_far (p := ⟨gb228, 5, none⟩) (Kd.R_far (p := ⟨gb228, 4, none⟩) (Kd.R_far (p := ⟨gb228, 3, none⟩) (Kd.R_far (p := ⟨gb228, 2, none⟩) (Kd.R_far (p := ⟨gb228, 1, none⟩) (Kd.R_far (p := ⟨gb228, 0, none⟩) (Kd.R_types HO_7.out BK228.out (by decide)) (fun _ hk => hk.2) (.string (rdOf ByteArray.empty t207 0))) (fun _ hk => hk.2) (.slice Ao31 t211.length co31)) (fun _ hk => hk.2) (.slice Ao30 t216.length co30)) (fun _ hk => hk.2) (.int .i64 (rd t221 0))) (fun _ hk => hk.2) (.int .i64 (rd t221 1))) (fun _ hk => hk.2) (.slice none 0 0)) (fun _ hk => hk.1.1)⟩, ⟨by first | exact Kd.S_nil _ _ _ _ _ | exact Kd.N_nil _ _ _ _ _ | exact Kd.V_nil _ _ _ _ _ | exact Kd.Q_nil _ _ _ _ _ | exact Kd.R_nil _ _ _ _ _⟩, ⟨by (with_reducible repeat (first | refine blk_drewN ?_ _ | refine blk_drew ?_ | refine blk_alloc ?_ _)); refine blk_far ?_ NB206_228.out _; (with_reducible repeat (first | refine blk_drewN ?_ _ | refine blk_drew ?_ | refine blk_alloc ?_ _)); refine blk_far ?_ NB206_228.out _; (with_reducible repeat (first | refine blk_drewN ?_ _ | refine blk_drew ?_ | refine blk_alloc ?_ _)); refine blk_far ?_ NB206_228.out _; (with_reducible repeat (first | refine blk_drewN ?_ _ | refine blk_drew ?_ | refine blk_alloc ?_ _)); refine blk_far ?_ NB206_228.out _; (with_reducible repeat (first | refine blk_drewN ?_ _ | refine blk_drew ?_ | refine blk_alloc ?_ _)); refine blk_far ?_ NB206_228.out _; (with_reducible repeat (first | refine blk_drewN ?_ _ | refine blk_drew ?_ | refine blk_alloc ?_ _)); refine blk_far ?_ NB206_228.out _; (with_reducible repeat (first | refine blk_drewN ?_ _ | refine blk_drew ?_ | refine blk_alloc ?_ _)); exact BK206.out⟩, ⟨by (with_reducible repeat (first | refine blk_drewN ?_ _ | refine blk_drew ?_ | refine blk_alloc ?_ _)); refine blk_put (cs := #[.string (rdOf ByteArray.empty t207 0), .slice Ao31 t211.length co31, .slice Ao30 t216.length co30, .int .i64 (rd t221 0), .int .i64 (rd t221 1), .slice none 0 0]) ?_ 5 _ rfl; (with_reducible repeat (first | refine blk_drewN ?_ _ | refine blk_drew ?_ | refine blk_alloc ?_ _)); refine blk_put (cs := #[.string (rdOf ByteArray.empty t207 0), .slice Ao31 t211.length co31, .slice Ao30 t216.length co30, .int .i64 (rd t221 0), .int .i64 0, .slice none 0 0]) ?_ 4 _ rfl; (with_reducible repeat (first | refine blk_drewN ?_ _ | refine blk_drew ?_ | refine blk_alloc ?_ _)); refine blk_put (cs := #[.string (rdOf ByteArray.empty t207 0), .slice Ao31 t211.length co31, .slice Ao30 t216.length co30, .int .i64 0, .int .i64 0, .slice none 0 0]) ?_ 3 _ rfl; (with_reducible repeat (first | refine blk_drewN ?_ _ | refine blk_drew ?_ | refine blk_alloc ?_ _)); refine blk_put (cs := #[.string (rdOf ByteArray.empty t207 0), .slice Ao31 t211.length co31, .slice none 0 0, .int .i64 0, .int .i64 0, .slice none 0 0]) ?_ 2 _ rfl; (with_reducible repeat (first | refine blk_drewN ?_ _ | refine blk_drew ?_ | refine blk_alloc ?_ _)); refine blk_put (cs := #[.string (rdOf ByteArray.empty t207 0), .slice none 0 0, .slice none 0 0, .int .i64 0, .int .i64 0, .slice none 0 0]) ?_ 1 _ rfl; (with_reducible repeat (first | refine blk_drewN ?_ _ | refine blk_drew ?_ | refine blk_alloc ?_ _)); refine blk_put (cs := #[.string (⟨#[]⟩ : ByteArray), .slice none 0 0, .slice none 0 0, .int .i64 0, .int .i64 0, .slice none 0 0]) ?_ 0 _ rfl; (with_reducible repeat (first | refine blk_drewN ?_ _ | refine blk_drew ?_ | refine blk_alloc ?_ _)); exact BK228.out⟩, ⟨tH2 HB GE206.out GE228.out⟩⟩
             case round =>
             clear H'
             try clear c1
             try clear c2
             try clear p2
             try clear q2
             try clear hx2
             try clear qi2
             try clear c3
             try clear c3b0
             try clear c3b1
             try clear c8
             try clear c8b0
             try clear c8b1
             try clear c10
             try clear c10b0
             try clear c10b1
             try clear c12
             try clear c12b0
             try clear c12b1
             try clear c20
             try clear c21
             try clear p21
             try clear q21
             try clear hx21
             try clear qi21
             try clear c22
             try clear p22
             try clear q22
             try clear hx22
             try clear qi22
             try clear c23
             try clear c24
             try clear c25
             try clear c25b0
             try clear c25b1
             try clear c26
             try clear c26b0
             try clear c26b1
             try clear c27
             try clear c27b0
             try clear c27b1
             try clear hcz24_0 hcz24_1 hcz24_2 hcz24_3 hcz24_4 hcz24_5
             try clear hcz7_0 hcz7_1 hcz7_2 hcz7_3 hcz7_4 hcz7_5
             try clear hfz24_0 hfz24_1 hfz24_2 hfz24_3 hfz24_4 hfz24_5
             try clear hfz7_0 hfz7_1 hfz7_2 hfz7_3 hfz7_4 hfz7_5
             try clear hx210_0
             try clear hx215_0
             try clear hx220_0
             try clear hx225_0
             try clear hx226_0
             try clear hx227_0
             try clear p2
             try clear p21
             try clear p210
             try clear p215
             try clear p22
             try clear p220
             try clear p225
             try clear p226
             try clear p227
             try clear q2
             try clear q21
             try clear q210
             try clear q215
             try clear q22
             try clear q220
             try clear q225
             try clear q226
             try clear q227
             obtain ⟨x12_2, x207000_2, x207003_2, x207004_2, x229005_2, u229005, rfl, HA, HK2, HO_4, HO_229001, HO_229002, HO_229005, BK206, BK228, HB⟩ := hrel
             cases gk with
             | zero => exact absurd HA.out (by simp [spec_l05Read.l0])
             | succ k2 =>
             have H := HA.out
             clear HA
             simp only [spec_l05Read.l0] at H
             by_cases c39 : x12_2 < (t207.length : Int)
             · rw [if_pos c39] at H
               have c39b0 : decide (x12_2 < (t207.length : Int)) = true := decide_eq_true c39
               clear c39
               by_cases c40 : 0 ≤ x12_2
               · rw [if_pos c40] at H
                 have c40b0 : decide (0 ≤ x12_2) = true := decide_eq_true c40
                 clear c40
                 replace H := Option.bind_eq_some_iff.mp H
                 obtain ⟨⟨t230, t231⟩, A410, H⟩ := H
                 replace H : (if t231 = true then (if x229005_2.length < 5864062014805 then (spec_l05Read.l0 k2 t207 (wrap64 (x12_2 + 1)) (rdOf ByteArray.empty t207 0) t211 t216 (rd t221 0) (rd t221 1) (x229005_2 ++ [t230])) else (none)) else (some ((⟨#[]⟩ : ByteArray), ([] : List Int), ([] : List Int), 0, 0, ([] : List (List Int)), false))) = some (r1, r2, r3, r4, r5, r6, r7) := H
                 have A41 := Aside0.mk A410
                 clear A410
                 by_cases c42 : t231 = true
                 · subst c42
                   have H1 : (if x229005_2.length < 5864062014805 then (spec_l05Read.l0 k2 t207 (wrap64 (x12_2 + 1)) (rdOf ByteArray.empty t207 0) t211 t216 (rd t221 0) (rd t221 1) (x229005_2 ++ [t230])) else (none)) = some (r1, r2, r3, r4, r5, r6, r7) := by rw [if_pos rfl] at H; exact H
                   clear H
                   have H := H1
                   clear H1
                   by_cases c43 : x229005_2.length < 5864062014805
                   · rw [if_pos c43] at H
                     have LMc43 := Aside0.mk c43
                     clear c43
                     obtain ⟨y234, hy234⟩ : ∃ y_ : List (List Int), y_ = (x229005_2 ++ [t230]) := ⟨_, rfl⟩
                     replace H : (spec_l05Read.l0 k2 t207 (wrap64 (x12_2 + 1)) (rdOf ByteArray.empty t207 0) t211 t216 (rd t221 0) (rd t221 1) y234) = some (r1, r2, r3, r4, r5, r6, r7) := by first | (rw [hy234]; with_reducible exact H) | (have H2_ := (Option.bind_some _ _).symm.trans H; rw [hy234]; with_reducible exact H2_) | (have H2_ := (Option.bind_some _ _).symm.trans H; with_reducible exact H2_) | with_reducible exact H | (rw [hy234]; exact H) | exact H
                     have Ny234 := Aside0.mk hy234
                     clear hy234
                     have H' := Aside0.mk H
                     clear H
                     have p229 : 0 ≤ (x12_2 : Int) := of_decide_eq_true tA
                     have q229 : x12_2 < (t207.length : Int) := of_decide_eq_true tA
                     obtain ⟨ad229, e229, hx229_0⟩ := Kd.at_string (Kd.R_reads' HO_4.out).2.2 x12_2 p229 q229
                     obtain rfl : ad210 = ad229 := (by injection e229)
                     replace p229 := eq_true p229
                     replace q229 := eq_true q229
                     go_wp2_with (first | ((with_reducible refine gate_callee (f := 265) rfl ?_); refine gL_ (some 76) rfl rfl Try.func265 #[.string (rdOf ByteArray.empty t207 x12_2)] rfl ?_; (with_reducible refine (spec_l05Two.calls k2 (rdOf ByteArray.empty t207 x12_2) t230 true _ A41.out).mono ?_); rintro e w44 ⟨v232, rfl, ho0, hb⟩; refine ⟨_, rfl, ?_⟩; replace HO_4 := Aside0.mk (Kd.R_below (tR HO_4) hb); replace HO_229005 := Aside0.mk (Kd.S_elder' (by (with_reducible repeat (first | apply Kd.S_alloc | apply Kd.S_drewN | apply Kd.S_drew)); exact HO_229005.out) (Kd.R_base ho0) hb); have HO233 := Aside0.mk (Kd.R_lower (Kd.R_new' (Kd.R_new' ho0 (Kd.R_lt (tR HO_229001))) (Kd.R_lt (tR HO_229002))) (below_size (tH2 HB GE206.out GE228.out))); replace HO_229001 := Aside0.mk (Kd.R_elder' (tR HO_229001) (Kd.R_base ho0) hb); replace HO_229002 := Aside0.mk (Kd.R_elder' (tR HO_229002) (Kd.R_base ho0) hb); replace BK206 := tbB BK206 hb; replace BK228 := tbB BK228 hb; replace HB := Aside0.mk (below_step (tH2 HB GE206.out GE228.out) hb); (try clear hb); (try clear hb2); (try clear hk); (try clear hi); (try clear ho0); have hnb45 := NB228_206.out; have hnc45 := NB206_228.out; have hcz46_0 : w44.cell? ⟨gb228, 0, none⟩ = some (.string (rdOf ByteArray.empty t207 0)) := (blk_cell BK228.out 0).trans rfl; have hcz46_1 : w44.cell? ⟨gb228, 1, none⟩ = some (.slice Ao31 t211.length co31) := (blk_cell BK228.out 1).trans rfl; have hcz46_2 : w44.cell? ⟨gb228, 2, none⟩ = some (.slice Ao30 t216.length co30) := (blk_cell BK228.out 2).trans rfl; have hcz46_3 : w44.cell? ⟨gb228, 3, none⟩ = some (.int .i64 (rd t221 0)) := (blk_cell BK228.out 3).trans rfl; have hcz46_4 : w44.cell? ⟨gb228, 4, none⟩ = some (.int .i64 (rd t221 1)) := (blk_cell BK228.out 4).trans rfl; have hcz46_5 : w44.cell? ⟨gb228, 5, none⟩ = some (u229005) := (blk_cell BK228.out 5).trans rfl; have hfz46_0 := blk_frozen BK228.out 0; have hfz46_1 := blk_frozen BK228.out 1; have hfz46_2 := blk_frozen BK228.out 2; have hfz46_3 := blk_frozen BK228.out 3; have hfz46_4 := blk_frozen BK228.out 4; have hfz46_5 := blk_frozen BK228.out 5; obtain ⟨Ao48, co48, eo48⟩ := Kd.R_slice HO233.out; subst eo48) | ((with_reducible refine gate_builtin (b := .append) (xs := #[.tmp 83, .tmp 85]) rfl ?_); at_builtin; refine Kd.S_append (Kd.slice 2 (Kd.int .i64)) (w0 := w) w.heap.size rfl (.tmp 83) (.tmp 85) 25 24 (.slice none 0 0) 24 rfl Try.underlying25 info24 rfl (by decide) (by omega) u229005 x229005_2 t230 [.slice Ao48 t230.length co48] (fun k_ => some k_ ≠ (.slice Ao31 t211.length co31 : Value).ownBlock ∧ some k_ ≠ (.slice Ao30 t216.length co30 : Value).ownBlock) (fun k_ => some k_ = (.slice Ao48 t230.length co48 : Value).ownBlock) rfl rfl ?aP (fun k_ hk_ => ((Kd.R_mono (ok' := fun k_ => ((fun k_ => some k_ ≠ (.slice Ao31 t211.length co31 : Value).ownBlock ∧ some k_ ≠ (.slice Ao30 t216.length co30 : Value).ownBlock)) k_ ∧ some k_ ≠ (u229005 : Value).ownBlock) (Kd.R_apart' (HO233.out) (Kd.S_typed HO_229005.out) (by decide)) (fun k_ hk => ⟨⟨hk.1.1.2, hk.1.2⟩, hk.2⟩))).1 k_ hk_.symm) ?aF ?aO ?aB ?aS ?aL ?_; (case aP => exact Kd.M_row (Kd.R_mono (Kd.R_tight rfl (Kd.R_mono (ok' := fun k_ => ((fun k_ => some k_ ≠ (.slice Ao31 t211.length co31 : Value).ownBlock ∧ some k_ ≠ (.slice Ao30 t216.length co30 : Value).ownBlock)) k_ ∧ some k_ ≠ (u229005 : Value).ownBlock) (Kd.R_apart' (HO233.out) (Kd.S_typed HO_229005.out) (by decide)) (fun k_ hk => ⟨⟨hk.1.1.2, hk.1.2⟩, hk.2⟩))) (fun _ h_ => h_))); (case aB => exact (tH2 HB GE206.out GE228.out)); (case aF => exact (fun k_ hk => ⟨Kd.fresh' (Kd.R_lt (tR HO_229001)) k_ hk, Kd.fresh' (Kd.R_lt (tR HO_229002)) k_ hk⟩)); (case aO => exact (by (with_reducible repeat (first | apply Kd.S_alloc | apply Kd.S_drewN | apply Kd.S_drew)); exact Kd.S_mono HO_229005.out (fun k_ hk => ⟨⟨hk.1.1, hk.1.2⟩, fun e_ => hk.2 e_⟩))); (case aS => exact (below_size (tH2 HB GE206.out GE228.out))); (case aL => have := LMc43.out; omega); intro v235 w47 ho hb hg hat; rw [← Ny234.out] at ho; replace HO_4 := Aside0.mk (Kd.R_over' (tR HO_4) (Kd.S_typed (by (with_reducible repeat (first | apply Kd.S_alloc | apply Kd.S_drewN | apply Kd.S_drew)); exact HO_229005.out)) (by decide) hg); replace HO_229001 := Aside0.mk (Kd.R_over' (tR HO_229001) (Kd.S_typed (by (with_reducible repeat (first | apply Kd.S_alloc | apply Kd.S_drewN | apply Kd.S_drew)); exact HO_229005.out)) (by decide) hg); replace HO_229002 := Aside0.mk (Kd.R_over' (tR HO_229002) (Kd.S_typed (by (with_reducible repeat (first | apply Kd.S_alloc | apply Kd.S_drewN | apply Kd.S_drew)); exact HO_229005.out)) (by decide) hg); replace BK206 := Aside0.mk (blk_grown (g := gb206) (o := .cells #[.string x207000_2, .slice none 0 0, .slice none 0 0, .int .i64 x207003_2, .int .i64 x207004_2, .slice none 0 0] 27 (0, 0)) (tB BK206) hg (Kd.S_ne HO_229005.out BK206.out (by decide))); replace BK228 := Aside0.mk (blk_grown (g := gb228) (o := .cells #[.string (rdOf ByteArray.empty t207 0), .slice Ao31 t211.length co31, .slice Ao30 t216.length co30, .int .i64 (rd t221 0), .int .i64 (rd t221 1), u229005] 27 (0, 0)) (tB BK228) hg (Kd.S_ne HO_229005.out BK228.out (by decide))); replace HB := Aside0.mk (hb); have HO236 := Aside0.mk (ho); clear HO_229005; clear HO233; clear ho hb hg hat; obtain ⟨Ao49, co49, eo49⟩ := Kd.S_slice HO236.out; subst eo49; have hcz50_0 : w47.cell? ⟨gb228, 0, none⟩ = some (.string (rdOf ByteArray.empty t207 0)) := (blk_cell BK228.out 0).trans rfl; have hcz50_1 : w47.cell? ⟨gb228, 1, none⟩ = some (.slice Ao31 t211.length co31) := (blk_cell BK228.out 1).trans rfl; have hcz50_2 : w47.cell? ⟨gb228, 2, none⟩ = some (.slice Ao30 t216.length co30) := (blk_cell BK228.out 2).trans rfl; have hcz50_3 : w47.cell? ⟨gb228, 3, none⟩ = some (.int .i64 (rd t221 0)) := (blk_cell BK228.out 3).trans rfl; have hcz50_4 : w47.cell? ⟨gb228, 4, none⟩ = some (.int .i64 (rd t221 1)) := (blk_cell BK228.out 4).trans rfl; have hcz50_5 : w47.cell? ⟨gb228, 5, none⟩ = some (u229005) := (blk_cell BK228.out 5).trans rfl; have hfz50_0 := blk_frozen BK228.out 0; have hfz50_1 := blk_frozen BK228.out 1; have hfz50_2 := blk_frozen BK228.out 2; have hfz50_3 := blk_frozen BK228.out 3; have hfz50_4 := blk_frozen BK228.out 4; have hfz50_5 := blk_frozen BK228.out 5))
                     go_roundg k2
                     case measure => have := HJ13.out; have := HK2.out; omega
                     case rel => exact ⟨(wrap64 (x12_2 + 1)), (x207000_2), (x207003_2), (x207004_2), (y234), (.slice Ao49 y234.length co49), tq, H', ⟨by have := HJ13.out; have := HK2.out; omega⟩, ⟨by (with_reducible repeat (first | apply qra | apply qrn | apply qrd)); exact Kd.R_mono (Kd.R_far (p := ⟨gb228, 5, none⟩) (Kd.R_types HO_4.out BK228.out (by decide)) (fun _ hk => hk.2) (.slice Ao49 y234.length co49)) (fun _ hk => trivial)⟩, ⟨by (with_reducible repeat (first | apply qra | apply qrn | apply qrd)); exact Kd.R_mono (Kd.R_far (p := ⟨gb228, 5, none⟩) (Kd.R_types HO_229001.out BK228.out (by decide)) (fun _ hk => hk.2) (.slice Ao49 y234.length co49)) (fun _ hk => hk.1.1)⟩, ⟨by (with_reducible repeat (first | apply qra | apply qrn | apply qrd)); exact Kd.R_mono (Kd.R_far (p := ⟨gb228, 5, none⟩) (Kd.R_types HO_229002.out BK228.out (by decide)) (fun _ hk => hk.2) (.slice Ao49 y234.length co49)) (fun _ hk => hk.1.1)⟩, ⟨by (with_reducible repeat (first | apply Kd.S_alloc | apply Kd.S_drewN | apply Kd.S_drew)); exact Kd.S_mono (Kd.S_far (p := ⟨gb228, 5, none⟩) (Kd.S_types HO236.out BK228.out (by decide)) (fun _ hk => hk.2) (.slice Ao49 y234.length co49)) (fun _ hk => ⟨hk.1.1, hk.1.2⟩)⟩, ⟨by (with_reducible repeat (first | refine blk_drewN ?_ _ | refine blk_drew ?_ | refine blk_alloc ?_ _)); refine blk_far ?_ NB206_228.out _; (with_reducible repeat (first | refine blk_drewN ?_ _ | refine blk_drew ?_ | refine blk_alloc ?_ _)); exact BK206.out⟩, ⟨by (with_reducible repeat (first | refine blk_drewN ?_ _ | refine blk_drew ?_ | refine blk_alloc ?_ _)); refine blk_put (cs := #[.string (rdOf ByteArray.empty t207 0), .slice Ao31 t211.length co31, .slice Ao30 t216.length co30, .int .i64 (rd t221 0), .int .i64 (rd t221 1), u229005]) ?_ 5 _ rfl; (with_reducible repeat (first | refine blk_drewN ?_ _ | refine blk_drew ?_ | refine blk_alloc ?_ _)); exact BK228.out⟩, ⟨tH2 HB GE206.out GE228.out⟩⟩
                   rw [if_neg c43] at H
                   exact absurd H (by simp)
                 replace c42 := Bool.eq_false_iff.mpr c42
                 subst c42
                 have H1 : (some ((⟨#[]⟩ : ByteArray), ([] : List Int), ([] : List Int), 0, 0, ([] : List (List Int)), false)) = some (r1, r2, r3, r4, r5, r6, r7) := by rw [if_neg (show ¬ (false = true) by decide)] at H; exact H
                 clear H
                 have H := H1
                 clear H1
                 simp only [Option.some.injEq, Prod.mk.injEq] at H
                 obtain ⟨rfl, rfl, rfl, rfl, rfl, rfl, rfl⟩ := H
                 have p229 : 0 ≤ (x12_2 : Int) := of_decide_eq_true tA
                 have q229 : x12_2 < (t207.length : Int) := of_decide_eq_true tA
                 obtain ⟨ad229, e229, hx229_0⟩ := Kd.at_string (Kd.R_reads' HO_4.out).2.2 x12_2 p229 q229
                 obtain rfl : ad210 = ad229 := (by injection e229)
                 replace p229 := eq_true p229
                 replace q229 := eq_true q229
                 go_wp2_with (first | ((with_reducible refine gate_callee (f := 265) rfl ?_); refine gL_ (some 76) rfl rfl Try.func265 #[.string (rdOf ByteArray.empty t207 x12_2)] rfl ?_; (with_reducible refine (spec_l05Two.calls k2 (rdOf ByteArray.empty t207 x12_2) t230 false _ A41.out).mono ?_); rintro e w51 ⟨v232, rfl, ho0, hb⟩; refine ⟨_, rfl, ?_⟩; replace HO_4 := Aside0.mk (Kd.R_below (tR HO_4) hb); replace HO_229005 := Aside0.mk (Kd.S_elder' (by (with_reducible repeat (first | apply Kd.S_alloc | apply Kd.S_drewN | apply Kd.S_drew)); exact HO_229005.out) (Kd.R_base ho0) hb); have HO233 := Aside0.mk (Kd.R_lower (Kd.R_new' (Kd.R_new' ho0 (Kd.R_lt (tR HO_229001))) (Kd.R_lt (tR HO_229002))) (below_size (tH2 HB GE206.out GE228.out))); replace HO_229001 := Aside0.mk (Kd.R_elder' (tR HO_229001) (Kd.R_base ho0) hb); replace HO_229002 := Aside0.mk (Kd.R_elder' (tR HO_229002) (Kd.R_base ho0) hb); replace BK206 := tbB BK206 hb; replace BK228 := tbB BK228 hb; replace HB := Aside0.mk (below_step (tH2 HB GE206.out GE228.out) hb); (try clear hb); (try clear hb2); (try clear hk); (try clear hi); (try clear ho0); have hnb52 := NB206_228.out; have hnc52 := NB228_206.out; have hcz53_0 : w51.cell? ⟨gb206, 0, none⟩ = some (.string x207000_2) := (blk_cell BK206.out 0).trans rfl; have hcz53_1 : w51.cell? ⟨gb206, 1, none⟩ = some (.slice none 0 0) := (blk_cell BK206.out 1).trans rfl; have hcz53_2 : w51.cell? ⟨gb206, 2, none⟩ = some (.slice none 0 0) := (blk_cell BK206.out 2).trans rfl; have hcz53_3 : w51.cell? ⟨gb206, 3, none⟩ = some (.int .i64 x207003_2) := (blk_cell BK206.out 3).trans rfl; have hcz53_4 : w51.cell? ⟨gb206, 4, none⟩ = some (.int .i64 x207004_2) := (blk_cell BK206.out 4).trans rfl; have hcz53_5 : w51.cell? ⟨gb206, 5, none⟩ = some (.slice none 0 0) := (blk_cell BK206.out 5).trans rfl; have hfz53_0 := blk_frozen BK206.out 0; have hfz53_1 := blk_frozen BK206.out 1; have hfz53_2 := blk_frozen BK206.out 2; have hfz53_3 := blk_frozen BK206.out 3; have hfz53_4 := blk_frozen BK206.out 4; have hfz53_5 := blk_frozen BK206.out 5))
                 refine bodyPost_ret (results_ct rfl _ _ gb206 27 #[.string (⟨#[]⟩ : ByteArray), .slice none 0 0, .slice none 0 0, .int .i64 0, .int .i64 0, .slice none 0 0] (0, 0) _ rfl (by (with_reducible repeat (first | refine blk_drewN ?_ _ | refine blk_drew ?_ | refine blk_alloc ?_ _)); refine blk_put (cs := #[.string (⟨#[]⟩ : ByteArray), .slice none 0 0, .slice none 0 0, .int .i64 0, .int .i64 0, .slice none 0 0]) ?_ 5 _ rfl; (with_reducible repeat (first | refine blk_drewN ?_ _ | refine blk_drew ?_ | refine blk_alloc ?_ _)); refine blk_put (cs := #[.string (⟨#[]⟩ : ByteArray), .slice none 0 0, .slice none 0 0, .int .i64 0, .int .i64 x207004_2, .slice none 0 0]) ?_ 4 _ rfl; (with_reducible repeat (first | refine blk_drewN ?_ _ | refine blk_drew ?_ | refine blk_alloc ?_ _)); refine blk_put (cs := #[.string (⟨#[]⟩ : ByteArray), .slice none 0 0, .slice none 0 0, .int .i64 x207003_2, .int .i64 x207004_2, .slice none 0 0]) ?_ 3 _ rfl; (with_reducible repeat (first | refine blk_drewN ?_ _ | refine blk_drew ?_ | refine blk_alloc ?_ _)); refine blk_put (cs := #[.string (⟨#[]⟩ : ByteArray), .slice none 0 0, .slice none 0 0, .int .i64 x207003_2, .int .i64 x207004_2, .slice none 0 0]) ?_ 2 _ rfl; (with_reducible repeat (first | refine blk_drewN ?_ _ | refine blk_drew ?_ | refine blk_alloc ?_ _)); refine blk_put (cs := #[.string (⟨#[]⟩ : ByteArray), .slice none 0 0, .slice none 0 0, .int .i64 x207003_2, .int .i64 x207004_2, .slice none 0 0]) ?_ 1 _ rfl; (with_reducible repeat (first | refine blk_drewN ?_ _ | refine blk_drew ?_ | refine blk_alloc ?_ _)); refine blk_put (cs := #[.string x207000_2, .slice none 0 0, .slice none 0 0, .int .i64 x207003_2, .int .i64 x207004_2, .slice none 0 0]) ?_ 0 _ rfl; (with_reducible repeat (first | refine blk_drewN ?_ _ | refine blk_drew ?_ | refine blk_alloc ?_ _)); exact BK206.out) Try.underlying27 rfl (by kernel_rfl)) rfl ?_
                 exact ⟨_, _, _, tE, by first | exact Kd.R_nil _ _ _ _ _ | exact Kd.N_nil _ _ _ _ _ | exact Kd.V_nil _ _ _ _ _ | exact Kd.Q_nil _ _ _ _ _ | exact Kd.S_nil _ _ _ _ _, by first | exact Kd.R_nil _ _ _ _ _ | exact Kd.N_nil _ _ _ _ _ | exact Kd.V_nil _ _ _ _ _ | exact Kd.Q_nil _ _ _ _ _ | exact Kd.S_nil _ _ _ _ _, by first | exact Kd.S_nil _ _ _ _ _ | exact Kd.N_nil _ _ _ _ _ | exact Kd.V_nil _ _ _ _ _ | exact Kd.Q_nil _ _ _ _ _ | exact Kd.R_nil _ _ _ _ _, tH2 HB GE206.out GE228.out⟩
               rw [if_neg c40] at H
               exact absurd H (by simp)
             rw [if_neg c39] at H
             have c39b0 : decide (x12_2 < (t207.length : Int)) = false := decide_eq_false c39
             clear c39
             replace H := Option.bind_eq_some_iff.mp H
             obtain ⟨t237, A540, H⟩ := H
             replace H : (if t237 = true then (some ((rdOf ByteArray.empty t207 0), t211, t216, (rd t221 0), (rd t221 1), x229005_2, true)) else (some ((⟨#[]⟩ : ByteArray), ([] : List Int), ([] : List Int), 0, 0, ([] : List (List Int)), false))) = some (r1, r2, r3, r4, r5, r6, r7) := H
             have A54 := Aside0.mk A540
             clear A540
             by_cases c55 : t237 = true
             · subst c55
               have H1 : (some ((rdOf ByteArray.empty t207 0), t211, t216, (rd t221 0), (rd t221 1), x229005_2, true)) = some (r1, r2, r3, r4, r5, r6, r7) := by rw [if_pos rfl] at H; exact H
               clear H
               have H := H1
               clear H1
               simp only [Option.some.injEq, Prod.mk.injEq] at H
               obtain ⟨rfl, rfl, rfl, rfl, rfl, rfl, rfl⟩ := H
               obtain ⟨Ao56, co56, eo56⟩ := Kd.S_slice HO_229005.out
               subst eo56
               go_wp2_with (first | ((with_reducible refine gate_callee (f := 109) rfl ?_); refine gL_ (some 88) rfl rfl Try.func109 #[.pointer (some ⟨gb228, 0, none⟩)] rfl ?_; (with_reducible refine (spec_l05Ok.calls k2 _ [(⟨(rdOf ByteArray.empty t207 0), t211, t216, (rd t221 0), (rd t221 1), x229005_2⟩ : S27)] true _ ?side1 ?side2 A54.out).mono ?_); (case side1 => exact Kd.C_box (k27_mk _ _ (by exact (Kd.R_reads' HO_229001.out).2.1) (by exact tC (Kd.R_reads' HO_229001.out).2.2) (by exact (Kd.R_reads' HO_229002.out).2.1) (by exact tC (Kd.R_reads' HO_229002.out).2.2) (by exact (Kd.S_reads' HO_229005.out).2.1) (by repeat (first | exact (Kd.S_reads' HO_229005.out).2.2 | (with_reducible refine Kd.C_alloc ?_ _) | (with_reducible refine Kd.C_drewN ?_ _) | (with_reducible refine Kd.C_drew ?_)))) (tB BK228)); (case side2 => exact Nat.one_pos); rintro e w57 ⟨rfl, hb⟩; refine ⟨_, rfl, ?_⟩; replace HO_4 := Aside0.mk (Kd.R_below (tR HO_4) hb); replace HO_229001 := Aside0.mk (Kd.R_below (tR HO_229001) hb); replace HO_229002 := Aside0.mk (Kd.R_below (tR HO_229002) hb); replace HO_229005 := Aside0.mk (Kd.S_below (by (with_reducible repeat (first | apply Kd.S_alloc | apply Kd.S_drewN | apply Kd.S_drew)); exact HO_229005.out) hb); replace BK206 := tbB BK206 hb; replace BK228 := tbB BK228 hb; replace HB := Aside0.mk (below_step (tH2 HB GE206.out GE228.out) hb); (try clear hb); (try clear hb2); (try clear hk); (try clear hi); have hnb58 := NB228_206.out; have hnc58 := NB206_228.out; have hcz59_0 : w57.cell? ⟨gb228, 0, none⟩ = some (.string (rdOf ByteArray.empty t207 0)) := (blk_cell BK228.out 0).trans rfl; have hcz59_1 : w57.cell? ⟨gb228, 1, none⟩ = some (.slice Ao31 t211.length co31) := (blk_cell BK228.out 1).trans rfl; have hcz59_2 : w57.cell? ⟨gb228, 2, none⟩ = some (.slice Ao30 t216.length co30) := (blk_cell BK228.out 2).trans rfl; have hcz59_3 : w57.cell? ⟨gb228, 3, none⟩ = some (.int .i64 (rd t221 0)) := (blk_cell BK228.out 3).trans rfl; have hcz59_4 : w57.cell? ⟨gb228, 4, none⟩ = some (.int .i64 (rd t221 1)) := (blk_cell BK228.out 4).trans rfl; have hcz59_5 : w57.cell? ⟨gb228, 5, none⟩ = some (.slice Ao56 x229005_2.length co56) := (blk_cell BK228.out 5).trans rfl; have hfz59_0 := blk_frozen BK228.out 0; have hfz59_1 := blk_frozen BK228.out 1; have hfz59_2 := blk_frozen BK228.out 2; have hfz59_3 := blk_frozen BK228.out 3; have hfz59_4 := blk_frozen BK228.out 4; have hfz59_5 := blk_frozen BK228.out 5; have hcz60_0 : w57.cell? ⟨gb206, 0, none⟩ = some (.string x207000_2) := (blk_cell BK206.out 0).trans rfl; have hcz60_1 : w57.cell? ⟨gb206, 1, none⟩ = some (.slice none 0 0) := (blk_cell BK206.out 1).trans rfl; have hcz60_2 : w57.cell? ⟨gb206, 2, none⟩ = some (.slice none 0 0) := (blk_cell BK206.out 2).trans rfl; have hcz60_3 : w57.cell? ⟨gb206, 3, none⟩ = some (.int .i64 x207003_2) := (blk_cell BK206.out 3).trans rfl; have hcz60_4 : w57.cell? ⟨gb206, 4, none⟩ = some (.int .i64 x207004_2) := (blk_cell BK206.out 4).trans rfl; have hcz60_5 : w57.cell? ⟨gb206, 5, none⟩ = some (.slice none 0 0) := (blk_cell BK206.out 5).trans rfl; have hfz60_0 := blk_frozen BK206.out 0; have hfz60_1 := blk_frozen BK206.out 1; have hfz60_2 := blk_frozen BK206.out 2; have hfz60_3 := blk_frozen BK206.out 3; have hfz60_4 := blk_frozen BK206.out 4; have hfz60_5 := blk_frozen BK206.out 5))
               refine bodyPost_ret (results_ct rfl _ _ gb206 27 #[.string (rdOf ByteArray.empty t207 0), .slice Ao31 t211.length co31, .slice Ao30 t216.length co30, .int .i64 (rd t221 0), .int .i64 (rd t221 1), .slice Ao56 x229005_2.length co56] (0, 0) _ rfl (by (with_reducible repeat (first | refine blk_drewN ?_ _ | refine blk_drew ?_ | refine blk_alloc ?_ _)); refine blk_put (cs := #[.string (rdOf ByteArray.empty t207 0), .slice Ao31 t211.length co31, .slice Ao30 t216.length co30, .int .i64 (rd t221 0), .int .i64 (rd t221 1), .slice none 0 0]) ?_ 5 _ rfl; (with_reducible repeat (first | refine blk_drewN ?_ _ | refine blk_drew ?_ | refine blk_alloc ?_ _)); refine blk_put (cs := #[.string (rdOf ByteArray.empty t207 0), .slice Ao31 t211.length co31, .slice Ao30 t216.length co30, .int .i64 (rd t221 0), .int .i64 x207004_2, .slice none 0 0]) ?_ 4 _ rfl; (with_reducible repeat (first | refine blk_drewN ?_ _ | refine blk_drew ?_ | refine blk_alloc ?_ _)); refine blk_put (cs := #[.string (rdOf ByteArray.empty t207 0), .slice Ao31 t211.length co31, .slice Ao30 t216.length co30, .int .i64 x207003_2, .int .i64 x207004_2, .slice none 0 0]) ?_ 3 _ rfl; (with_reducible repeat (first | refine blk_drewN ?_ _ | refine blk_drew ?_ | refine blk_alloc ?_ _)); refine blk_put (cs := #[.string (rdOf ByteArray.empty t207 0), .slice Ao31 t211.length co31, .slice none 0 0, .int .i64 x207003_2, .int .i64 x207004_2, .slice none 0 0]) ?_ 2 _ rfl; (with_reducible repeat (first | refine blk_drewN ?_ _ | refine blk_drew ?_ | refine blk_alloc ?_ _)); refine blk_put (cs := #[.string (rdOf ByteArray.empty t207 0), .slice none 0 0, .slice none 0 0, .int .i64 x207003_2, .int .i64 x207004_2, .slice none 0 0]) ?_ 1 _ rfl; (with_reducible repeat (first | refine blk_drewN ?_ _ | refine blk_drew ?_ | refine blk_alloc ?_ _)); refine blk_put (cs := #[.string x207000_2, .slice none 0 0, .slice none 0 0, .int .i64 x207003_2, .int .i64 x207004_2, .slice none 0 0]) ?_ 0 _ rfl; (with_reducible repeat (first | refine blk_drewN ?_ _ | refine blk_drew ?_ | refine blk_alloc ?_ _)); exact BK206.out) Try.underlying27 rfl (by kernel_rfl)) rfl ?_
               exact ⟨_, _, _, tE, by (with_reducible repeat (first | apply qra | apply qrn | apply qrd)); exact Kd.R_mono (Kd.R_far (p := ⟨gb206, 5, none⟩) (Kd.R_far (p := ⟨gb206, 4, none⟩) (Kd.R_far (p := ⟨gb206, 3, none⟩) (Kd.R_far (p := ⟨gb206, 2, none⟩) (Kd.R_far (p := ⟨gb206, 1, none⟩) (Kd.R_far (p := ⟨gb206, 0, none⟩) (Kd.R_types HO_229001.out BK206.out (by decide)) (fun _ hk => hk.2) (.string (rdOf ByteArray.empty t207 0))) (fun _ hk => hk.2) (.slice Ao31 t211.length co31)) (fun _ hk => hk.2) (.slice Ao30 t216.length co30)) (fun _ hk => hk.2) (.int .i64 (rd t221 0))) (fun _ hk => hk.2) (.int .i64 (rd t221 1))) (fun _ hk => hk.2) (.slice Ao56 x229005_2.length co56)) (fun _ hk => hk.1), by (with_reducible repeat (first | apply qra | apply qrn | apply qrd)); exact Kd.R_mono (Kd.R_far (p := ⟨gb206, 5, none⟩) (Kd.R_far (p := ⟨gb206, 4, none⟩) (Kd.R_far (p := ⟨gb206, 3, none⟩) (Kd.R_far (p := ⟨gb206, 2, none⟩) (Kd.R_far (p := ⟨gb206, 1, none⟩) (Kd.R_far (p := ⟨gb206, 0, none⟩) (Kd.R_types HO_229002.out BK206.out (by decide)) (fun _ hk => hk.2) (.string (rdOf ByteArray.empty t207 0))) (fun _ hk => hk.2) (.slice Ao31 t211.length co31)) (fun _ hk => hk.2) (.slice Ao30 t216.length co30)) (fun _ hk => hk.2) (.int .i64 (rd t221 0))) (fun _ hk => hk.2) (.int .i64 (rd t221 1))) (fun _ hk => hk.2) (.slice Ao56 x229005_2.length co56)) (fun _ hk => hk.1), by (with_reducible repeat (first | apply Kd.S_alloc | apply Kd.S_drewN | apply Kd.S_drew)); exact Kd.S_mono (Kd.S_far (p := ⟨gb206, 5, none⟩) (Kd.S_far (p := ⟨gb206, 4, none⟩) (Kd.S_far (p := ⟨gb206, 3, none⟩) (Kd.S_far (p := ⟨gb206, 2, none⟩) (Kd.S_far (p := ⟨gb206, 1, none⟩) (Kd.S_far (p := ⟨gb206, 0, none⟩) (Kd.S_types HO_229005.out BK206.out (by decide)) (fun _ hk => hk.2) (.string (rdOf ByteArray.empty t207 0))) (fun _ hk => hk.2) (.slice Ao31 t211.length co31)) (fun _ hk => hk.2) (.slice Ao30 t216.length co30)) (fun _ hk => hk.2) (.int .i64 (rd t221 0))) (fun _ hk => hk.2) (.int .i64 (rd t221 1))) (fun _ hk => hk.2) (.slice Ao56 x229005_2.length co56)) (fun _ hk => ⟨hk.1.1, hk.1.2⟩), tH2 HB GE206.out GE228.out⟩
             replace c55 := Bool.eq_false_iff.mpr c55
             subst c55
             have H1 : (some ((⟨#[]⟩ : ByteArray), ([] : List Int), ([] : List Int), 0, 0, ([] : List (List Int)), false)) = some (r1, r2, r3, r4, r5, r6, r7) := by rw [if_neg (show ¬ (false = true) by decide)] at H; exact H
             clear H
             have H := H1
             clear H1
             simp only [Option.some.injEq, Prod.mk.injEq] at H
             obtain ⟨rfl, rfl, rfl, rfl, rfl, rfl, rfl⟩ := H
             obtain ⟨Ao61, co61, eo61⟩ := Kd.S_slice HO_229005.out
             subst eo61
             go_wp2_with (first | ((with_reducible refine gate_callee (f := 109) rfl ?_); refine gL_ (some 88) rfl rfl Try.func109 #[.pointer (some ⟨gb228, 0, none⟩)] rfl ?_; (with_reducible refine (spec_l05Ok.calls k2 _ [(⟨(rdOf ByteArray.empty t207 0), t211, t216, (rd t221 0), (rd t221 1), x229005_2⟩ : S27)] false _ ?side1 ?side2 A54.out).mono ?_); (case side1 => exact Kd.C_box (k27_mk _ _ (by exact (Kd.R_reads' HO_229001.out).2.1) (by exact tC (Kd.R_reads' HO_229001.out).2.2) (by exact (Kd.R_reads' HO_229002.out).2.1) (by exact tC (Kd.R_reads' HO_229002.out).2.2) (by exact (Kd.S_reads' HO_229005.out).2.1) (by repeat (first | exact (Kd.S_reads' HO_229005.out).2.2 | (with_reducible refine Kd.C_alloc ?_ _) | (with_reducible refine Kd.C_drewN ?_ _) | (with_reducible refine Kd.C_drew ?_)))) (tB BK228)); (case side2 => exact Nat.one_pos); rintro e w62 ⟨rfl, hb⟩; refine ⟨_, rfl, ?_⟩; replace HO_4 := Aside0.mk (Kd.R_below (tR HO_4) hb); replace HO_229001 := Aside0.mk (Kd.R_below (tR HO_229001) hb); replace HO_229002 := Aside0.mk (Kd.R_below (tR HO_229002) hb); replace HO_229005 := Aside0.mk (Kd.S_below (by (with_reducible repeat (first | apply Kd.S_alloc | apply Kd.S_drewN | apply Kd.S_drew)); exact HO_229005.out) hb); replace BK206 := tbB BK206 hb; replace BK228 := tbB BK228 hb; replace HB := Aside0.mk (below_step (tH2 HB GE206.out GE228.out) hb); (try clear hb); (try clear hb2); (try clear hk); (try clear hi); have hnb63 := NB206_228.out; have hnc63 := NB228_206.out; have hcz64_0 : w62.cell? ⟨gb206, 0, none⟩ = some (.string x207000_2) := (blk_cell BK206.out 0).trans rfl; have hcz64_1 : w62.cell? ⟨gb206, 1, none⟩ = some (.slice none 0 0) := (blk_cell BK206.out 1).trans rfl; have hcz64_2 : w62.cell? ⟨gb206, 2, none⟩ = some (.slice none 0 0) := (blk_cell BK206.out 2).trans rfl; have hcz64_3 : w62.cell? ⟨gb206, 3, none⟩ = some (.int .i64 x207003_2) := (blk_cell BK206.out 3).trans rfl; have hcz64_4 : w62.cell? ⟨gb206, 4, none⟩ = some (.int .i64 x207004_2) := (blk_cell BK206.out 4).trans rfl; have hcz64_5 : w62.cell? ⟨gb206, 5, none⟩ = some (.slice none 0 0) := (blk_cell BK206.out 5).trans rfl; have hfz64_0 := blk_frozen BK206.out 0; have hfz64_1 := blk_frozen BK206.out 1; have hfz64_2 := blk_frozen BK206.out 2; have hfz64_3 := blk_frozen BK206.out 3; have hfz64_4 := blk_frozen BK206.out 4; have hfz64_5 := blk_frozen BK206.out 5))
             refine bodyPost_ret (results_ct rfl _ _ gb206 27 #[.string (⟨#[]⟩ : ByteArray), .slice none 0 0, .slice none 0 0, .int .i64 0, .int .i64 0, .slice none 0 0] (0, 0) _ rfl (by (with_reducible repeat (first | refine blk_drewN ?_ _ | refine blk_drew ?_ | refine blk_alloc ?_ _)); refine blk_put (cs := #[.string (⟨#[]⟩ : ByteArray), .slice none 0 0, .slice none 0 0, .int .i64 0, .int .i64 0, .slice none 0 0]) ?_ 5 _ rfl; (with_reducible repeat (first | refine blk_drewN ?_ _ | refine blk_drew ?_ | refine blk_alloc ?_ _)); refine blk_put (cs := #[.string (⟨#[]⟩ : ByteArray), .slice none 0 0, .slice none 0 0, .int .i64 0, .int .i64 x207004_2, .slice none 0 0]) ?_ 4 _ rfl; (with_reducible repeat (first | refine blk_drewN ?_ _ | refine blk_drew ?_ | refine blk_alloc ?_ _)); refine blk_put (cs := #[.string (⟨#[]⟩ : ByteArray), .slice none 0 0, .slice none 0 0, .int .i64 x207003_2, .int .i64 x207004_2, .slice none 0 0]) ?_ 3 _ rfl; (with_reducible repeat (first | refine blk_drewN ?_ _ | refine blk_drew ?_ | refine blk_alloc ?_ _)); refine blk_put (cs := #[.string (⟨#[]⟩ : ByteArray), .slice none 0 0, .slice none 0 0, .int .i64 x207003_2, .int .i64 x207004_2, .slice none 0 0]) ?_ 2 _ rfl; (with_reducible repeat (first | refine blk_drewN ?_ _ | refine blk_drew ?_ | refine blk_alloc ?_ _)); refine blk_put (cs := #[.string (⟨#[]⟩ : ByteArray), .slice none 0 0, .slice none 0 0, .int .i64 x207003_2, .int .i64 x207004_2, .slice none 0 0]) ?_ 1 _ rfl; (with_reducible repeat (first | refine blk_drewN ?_ _ | refine blk_drew ?_ | refine blk_alloc ?_ _)); refine blk_put (cs := #[.string x207000_2, .slice none 0 0, .slice none 0 0, .int .i64 x207003_2, .int .i64 x207004_2, .slice none 0 0]) ?_ 0 _ rfl; (with_reducible repeat (first | refine blk_drewN ?_ _ | refine blk_drew ?_ | refine blk_alloc ?_ _)); exact BK206.out) Try.underlying27 rfl (by kernel_rfl)) rfl ?_
             exact ⟨_, _, _, tE, by first | exact Kd.R_nil _ _ _ _ _ | exact Kd.N_nil _ _ _ _ _ | exact Kd.V_nil _ _ _ _ _ | exact Kd.Q_nil _ _ _ _ _ | exact Kd.S_nil _ _ _ _ _, by first | exact Kd.R_nil _ _ _ _ _ | exact Kd.N_nil _ _ _ _ _ | exact Kd.V_nil _ _ _ _ _ | exact Kd.Q_nil _ _ _ _ _ | exact Kd.S_nil _ _ _ _ _, by first | exact Kd.S_nil _ _ _ _ _ | exact Kd.N_nil _ _ _ _ _ | exact Kd.V_nil _ _ _ _ _ | exact Kd.Q_nil _ _ _ _ _ | exact Kd.R_nil _ _ _ _ _, tH2 HB GE206.out GE228.out⟩
           rw [if_neg c27] at H
           exact absurd H (by simp)
         rw [if_neg c26] at H
         exact absurd H (by simp)
       rw [if_neg c25] at H
       exact absurd H (by simp)
     rw [if_neg c12] at H
     exact absurd H (by simp)
   rw [if_neg c10] at H
   exact absurd H (by simp)
 rw [if_neg c8] at H
 exact absurd H (by simp)

end Go.Proofs.Ytbedlmlofnphkaa.PZ
