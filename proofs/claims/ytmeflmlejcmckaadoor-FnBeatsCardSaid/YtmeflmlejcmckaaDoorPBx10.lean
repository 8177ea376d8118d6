-- WRITTEN BY wip/gprint.py, a program of this session's over the kit's print, with contracts given by hand
import Derived.Test.YtmeflmlejcmckaaDoorPBx0
import Derived.Test.YtmeflmlejcmckaaDoorPBx2
import Derived.Test.YtmeflmlejcmckaaDoorPBx4
import Derived.Test.YtmeflmlejcmckaaDoorPBx6
import Derived.Test.YtmeflmlejcmckaaDoorPBx9
namespace Go.Proofs.YtmeflmlejcmckaaDoor.PB
open Go.RowKit Go.Proofs.YtmeflmlejcmckaaDoorW.PrintWords Go.Proofs.YtmeflmlejcmckaaDoorW.PrintLast Go.Proofs.YtmeflmlejcmckaaDoorW.PrintMore
attribute [local go_sem] max2_int min2_int max_two min_two max_three min_three max_four min_four   -- for this text's walks alone
set_option linter.unusedVariables false
set_option linter.unusedSimpArgs false

attribute [local go_sem] isSome_setCell cell_setCell_any
attribute [local go_sem] isSome_setCell
/-! ### spec_l04DrawOk: function 175 -/
mutual
def spec_l04DrawOk.j1 : Nat → List Int → Int → Int → ByteArray → List (S52) → Option (ByteArray × (List (S52)) × Int × Int)
 | 0, _, _, _, _, _ => none
 | k + 1, x1000, x1001, x1002, x208000, x208001 => (spec_l04Ok.f k [(⟨x208000, x208001⟩ : S71)]).bind fun t231 => (if t231 = true then (some (x208000, x208001, x1001, x1002)) else ((spec_l04Just.f k).bind fun bt232 => (some (bt232.1, bt232.2, x1001, x1002))))
def spec_l04DrawOk.l0 : Nat → Int → List Int → Int → Int → ByteArray → List (S52) → Option (ByteArray × (List (S52)) × Int × Int)
 | 0, _, _, _, _, _, _ => none
 | k + 1, x4, x1000, x1001, x1002, x208000, x208001 => if x4 < 12 then ((spec_l02Done.f k (wrap64 (106 * (wrap64 (53 + (wrap64 (Int.tdiv (wrap64 (x4 * 53)) 12)))))) 5618).bind fun bt213 => (if 0 ≤ x4 then (if x4 < (x208001.length : Int) then (spec_l04DrawOk.l0 k (wrap64 (x4 + 1)) x1000 x1001 x1002 x208000 (x208001.set (x4 : Int).toNat (⟨bt213.1, bt213.2.1⟩ : S52))) else (none)) else (none))) else (spec_l04DrawOk.j1 k x1000 x1001 x1002 x208000 x208001)
end
def spec_l04DrawOk.f (k : Nat) (s0_0 : List Int) (s0_1 : Int) (s0_2 : Int) : Option (ByteArray × (List (S52)) × Int × Int) := (spec_l04Just.f k).bind fun bt203 => ((spec_l00Src_pick.f s0_0 s0_1 s0_2 4).bind fun bt208 => (if bt208.1 = 0 then (if 4 < (bt203.2.length : Int) then (if 9 < (bt203.2.length : Int) then (spec_l04DrawOk.j1 k s0_0 bt208.2.1 bt208.2.2 (⟨#[104, 105, 103, 104]⟩ : ByteArray) ((bt203.2.set (4 : Int).toNat (⟨81, 64⟩ : S52)).set (9 : Int).toNat (⟨27, 16⟩ : S52))) else (none)) else (none)) else (if bt208.1 = 1 then (spec_l04DrawOk.l0 k 1 s0_0 bt208.2.1 bt208.2.2 (⟨#[101, 118, 101, 110]⟩ : ByteArray) bt203.2) else (if bt208.1 = 2 then ((spec_l00Src_pick.f s0_0 bt208.2.1 bt208.2.2 11).bind fun bt218 => (if 0 ≤ (wrap64 (1 + bt218.1)) then (if (wrap64 (1 + bt218.1)) < (bt203.2.length : Int) then ((spec_l00Src_pick.f s0_0 bt218.2.1 bt218.2.2 3).bind fun bt222 => ((spec_l02Done.f k (wrap64 ((wrap64 (((rd_T52 bt203.2 (wrap64 (1 + bt218.1))).f0) * 80)) + bt222.1)) (wrap64 (((rd_T52 bt203.2 (wrap64 (1 + bt218.1))).f1) * 80))).bind fun bt226 => (if bt226.2.2 = 0 then (spec_l04DrawOk.j1 k s0_0 bt222.2.1 bt222.2.2 bt203.1 (bt203.2.set ((wrap64 (1 + bt218.1)) : Int).toNat (⟨bt226.1, bt226.2.1⟩ : S52))) else (spec_l04DrawOk.j1 k s0_0 bt222.2.1 bt222.2.2 bt203.1 bt203.2)))) else (none)) else (none))) else (spec_l04DrawOk.j1 k s0_0 bt208.2.1 bt208.2.2 bt203.1 bt203.2)))))
theorem spec_l04DrawOk.mono_l : ∀ k, (∀ y0 y1 y2 y3 y4, LeO (spec_l04DrawOk.j1 k y0 y1 y2 y3 y4) (spec_l04DrawOk.j1 (k + 1) y0 y1 y2 y3 y4)) ∧ (∀ y0 y1 y2 y3 y4 y5, LeO (spec_l04DrawOk.l0 k y0 y1 y2 y3 y4 y5) (spec_l04DrawOk.l0 (k + 1) y0 y1 y2 y3 y4 y5))
 | 0 => ⟨fun _ _ _ _ _ r h => by simp [spec_l04DrawOk.j1] at h, fun _ _ _ _ _ _ r h => by simp [spec_l04DrawOk.l0] at h⟩
 | k + 1 => by
  obtain ⟨ih0, ih1⟩ := spec_l04DrawOk.mono_l k
  refine ⟨?_, ?_⟩
  all_goals (intros; (first | unfold spec_l04DrawOk.j1 | unfold spec_l04DrawOk.l0); repeat' first
   | (with_reducible exact ih0 _ _ _ _ _)
   | (with_reducible exact ih1 _ _ _ _ _ _)
   | (with_reducible exact spec_l02Done.mono _ _ _)
   | (with_reducible exact spec_l04Just.mono _)
   | (with_reducible exact spec_l04Ok.mono _ _)
   | (with_reducible exact LeO.refl _)
   | (with_reducible exact LeO.none _)
   | (with_reducible refine LeO.ite ?_ ?_)
   | (with_reducible refine LeO.bind ?_ (fun _ => ?_))
   | exact ih0 _ _ _ _ _
   | exact ih1 _ _ _ _ _ _
   | exact spec_l02Done.mono _ _ _
   | exact spec_l04Just.mono _
   | exact spec_l04Ok.mono _ _
   | exact LeO.none _
   | refine LeO.ite ?_ ?_
   | refine LeO.bind ?_ (fun _ => ?_))
theorem spec_l04DrawOk.mono : ∀ a0 a1 a2 k, LeO (spec_l04DrawOk.f k a0 a1 a2) (spec_l04DrawOk.f (k + 1) a0 a1 a2) := by
 intro a0 a1 a2 k
 obtain ⟨ih0, ih1⟩ := spec_l04DrawOk.mono_l k
 unfold spec_l04DrawOk.f
 repeat' first
  | (with_reducible exact ih0 _ _ _ _ _)
  | (with_reducible exact ih1 _ _ _ _ _ _)
  | (with_reducible exact spec_l02Done.mono _ _ _)
  | (with_reducible exact spec_l04Just.mono _)
  | (with_reducible exact spec_l04Ok.mono _ _)
  | (with_reducible exact LeO.refl _)
  | (with_reducible exact LeO.none _)
  | (with_reducible refine LeO.ite ?_ ?_)
  | (with_reducible refine LeO.bind ?_ (fun _ => ?_))
  | exact ih0 _ _ _ _ _
  | exact ih1 _ _ _ _ _ _
  | exact spec_l02Done.mono _ _ _
  | exact spec_l04Just.mono _
  | exact spec_l04Ok.mono _ _
  | exact LeO.none _
  | refine LeO.ite ?_ ?_
  | refine LeO.bind ?_ (fun _ => ?_)
def spec_l04DrawOk.T17 : Bool × List (List Nat × List Nat) := (true, [([], []), ([0], [0]), ([], []), ([1, 2], [1, 2]), ([3], [3]), ([4], [4]), ([5], [5]), ([], []), ([7], [7]), ([6, 8], [6, 8]), ([9, 8, 0, 1, 2, 3, 4, 5, 6, 7, 8, 9], [9])])
def spec_l04DrawOk.B17 : List Nat := [0, 1, 0, 7, 15, 31, 63, 0, 128, 511, 1023]
theorem spec_l04DrawOk.tab17 : rtab .any (opsOf Tryd.f175 17) = spec_l04DrawOk.T17 := by kernel_rfl
theorem spec_l04DrawOk.bits17 : waitsOk spec_l04DrawOk.T17.2 spec_l04DrawOk.B17 = true := by kernel_rfl
set_option maxHeartbeats 8000000 in
set_option maxRecDepth 100000 in
theorem spec_l04DrawOk.calls (k : Nat) (g : Nat) (s0_0 : List Int) (s0_1 : Int) (s0_2 : Int) (r1 : ByteArray) (r2 : List (S52)) (r3 : Int) (r4 : Int) (w0 w : World) (hI : IsS179 w0 w g s0_0 s0_1 s0_2) (hB : Below w0.heap.size w0 w) (h : spec_l04DrawOk.f k s0_0 s0_1 s0_2 = some (r1, r2, r3, r4)) :
 Calls Tryd.prog 175 #[.pointer (some ⟨g, 0, none⟩)] w fun e w' => ∃ v1_ : Value, e = .returned (.agg #[.string r1, v1_]) ∧ Kd.R k52 52 w' w.heap.size (fun _ => True) v1_ r2 ∧ IsS179 w0 w' g s0_0 r3 r4 ∧ Below w0.heap.size w0 w' ∧ KeepBut w w' g none := by
 have hu71 := Tryd.underlying71
 have hu52 := Tryd.underlying52
 have HI0 := Aside0.mk hI
 have HK := Aside0.mk (KeepBut.refl w g none)
 have HL := Aside0.mk hB.size
 clear hI
 have HW0 := Aside0.mk hB.size
 have HB := Aside0.mk hB
 clear hB
 have H : ((spec_l04Just.f k).bind fun bt203 => ((spec_l00Src_pick.f s0_0 s0_1 s0_2 4).bind fun bt208 => (if bt208.1 = 0 then (if 4 < (bt203.2.length : Int) then (if 9 < (bt203.2.length : Int) then (spec_l04DrawOk.j1 k s0_0 bt208.2.1 bt208.2.2 (⟨#[104, 105, 103, 104]⟩ : ByteArray) ((bt203.2.set (4 : Int).toNat (⟨81, 64⟩ : S52)).set (9 : Int).toNat (⟨27, 16⟩ : S52))) else (none)) else (none)) else (if bt208.1 = 1 then (spec_l04DrawOk.l0 k 1 s0_0 bt208.2.1 bt208.2.2 (⟨#[101, 118, 101, 110]⟩ : ByteArray) bt203.2) else (if bt208.1 = 2 then ((spec_l00Src_pick.f s0_0 bt208.2.1 bt208.2.2 11).bind fun bt218 => (if 0 ≤ (wrap64 (1 + bt218.1)) then (if (wrap64 (1 + bt218.1)) < (bt203.2.length : Int) then ((spec_l00Src_pick.f s0_0 bt218.2.1 bt218.2.2 3).bind fun bt222 => ((spec_l02Done.f k (wrap64 ((wrap64 (((rd_T52 bt203.2 (wrap64 (1 + bt218.1))).f0) * 80)) + bt222.1)) (wrap64 (((rd_T52 bt203.2 (wrap64 (1 + bt218.1))).f1) * 80))).bind fun bt226 => (if bt226.2.2 = 0 then (spec_l04DrawOk.j1 k s0_0 bt222.2.1 bt222.2.2 bt203.1 (bt203.2.set ((wrap64 (1 + bt218.1)) : Int).toNat (⟨bt226.1, bt226.2.1⟩ : S52))) else (spec_l04DrawOk.j1 k s0_0 bt222.2.1 bt222.2.2 bt203.1 bt203.2)))) else (none)) else (none))) else (spec_l04DrawOk.j1 k s0_0 bt208.2.1 bt208.2.2 bt203.1 bt203.2)))))) = some (r1, r2, r3, r4) := h
 clear h
 replace H := Option.bind_eq_some_iff.mp H
 obtain ⟨⟨t203, t204⟩, A20, H⟩ := H
 replace H : ((spec_l00Src_pick.f s0_0 s0_1 s0_2 4).bind fun bt208 => (if bt208.1 = 0 then (if 4 < (t204.length : Int) then (if 9 < (t204.length : Int) then (spec_l04DrawOk.j1 k s0_0 bt208.2.1 bt208.2.2 (⟨#[104, 105, 103, 104]⟩ : ByteArray) ((t204.set (4 : Int).toNat (⟨81, 64⟩ : S52)).set (9 : Int).toNat (⟨27, 16⟩ : S52))) else (none)) else (none)) else (if bt208.1 = 1 then (spec_l04DrawOk.l0 k 1 s0_0 bt208.2.1 bt208.2.2 (⟨#[101, 118, 101, 110]⟩ : ByteArray) t204) else (if bt208.1 = 2 then ((spec_l00Src_pick.f s0_0 bt208.2.1 bt208.2.2 11).bind fun bt218 => (if 0 ≤ (wrap64 (1 + bt218.1)) then (if (wrap64 (1 + bt218.1)) < (t204.length : Int) then ((spec_l00Src_pick.f s0_0 bt218.2.1 bt218.2.2 3).bind fun bt222 => ((spec_l02Done.f k (wrap64 ((wrap64 (((rd_T52 t204 (wrap64 (1 + bt218.1))).f0) * 80)) + bt222.1)) (wrap64 (((rd_T52 t204 (wrap64 (1 + bt218.1))).f1) * 80))).bind fun bt226 => (if bt226.2.2 = 0 then (spec_l04DrawOk.j1 k s0_0 bt222.2.1 bt222.2.2 t203 (t204.set ((wrap64 (1 + bt218.1)) : Int).toNat (⟨bt226.1, bt226.2.1⟩ : S52))) else (spec_l04DrawOk.j1 k s0_0 bt222.2.1 bt222.2.2 t203 t204)))) else (none)) else (none))) else (spec_l04DrawOk.j1 k s0_0 bt208.2.1 bt208.2.2 t203 t204))))) = some (r1, r2, r3, r4) := H
 have A2 := Aside0.mk A20
 clear A20
 replace H := Option.bind_eq_some_iff.mp H
 obtain ⟨⟨t208, t209, t210⟩, A30, H⟩ := H
 replace H : (if t208 = 0 then (if 4 < (t204.length : Int) then (if 9 < (t204.length : Int) then (spec_l04DrawOk.j1 k s0_0 t209 t210 (⟨#[104, 105, 103, 104]⟩ : ByteArray) ((t204.set (4 : Int).toNat (⟨81, 64⟩ : S52)).set (9 : Int).toNat (⟨27, 16⟩ : S52))) else (none)) else (none)) else (if t208 = 1 then (spec_l04DrawOk.l0 k 1 s0_0 t209 t210 (⟨#[101, 118, 101, 110]⟩ : ByteArray) t204) else (if t208 = 2 then ((spec_l00Src_pick.f s0_0 t209 t210 11).bind fun bt218 => (if 0 ≤ (wrap64 (1 + bt218.1)) then (if (wrap64 (1 + bt218.1)) < (t204.length : Int) then ((spec_l00Src_pick.f s0_0 bt218.2.1 bt218.2.2 3).bind fun bt222 => ((spec_l02Done.f k (wrap64 ((wrap64 (((rd_T52 t204 (wrap64 (1 + bt218.1))).f0) * 80)) + bt222.1)) (wrap64 (((rd_T52 t204 (wrap64 (1 + bt218.1))).f1) * 80))).bind fun bt226 => (if bt226.2.2 = 0 then (spec_l04DrawOk.j1 k s0_0 bt222.2.1 bt222.2.2 t203 (t204.set ((wrap64 (1 + bt218.1)) : Int).toNat (⟨bt226.1, bt226.2.1⟩ : S52))) else (spec_l04DrawOk.j1 k s0_0 bt222.2.1 bt222.2.2 t203 t204)))) else (none)) else (none))) else (spec_l04DrawOk.j1 k s0_0 t209 t210 t203 t204)))) = some (r1, r2, r3, r4) := H
 have A3 := Aside0.mk A30
 clear A30
 have HC4 := Aside0.mk H
 clear H
 go_enter Tryd.func175, Tryd.ntmps175
 go_upto_block 0 with (first | ((with_reducible refine gate_dst (N := 2) rfl ?_); refine box_event ?hg (N := 2) ?hd (cs := #[.string (⟨#[]⟩ : ByteArray), .slice none 0 0]) (t := 71) ?hr ?_; (case hd => rfl); (case hg => rfl); (case hr => first | (go_simp; done) | (go_simp; rfl)); intro gb202 hg w5 hbox hb; replace HB := Aside0.mk (below_step (tH1 HB (IsS179.ge HI0.out)) hb); have BK202 := Aside0.mk (hbox); have GW202 := Aside0.mk ((by rw [hg]; exact (keep_size (w := w) (g := g) (row := none) (tK HK)) : w.heap.size ≤ gb202)); have GE202 := Aside0.mk ((Nat.le_trans HW0.out (by rw [hg]; exact (keep_size (w := w) (g := g) (row := none) (tK HK)) : w.heap.size ≤ gb202) : w0.heap.size ≤ gb202)); replace HK := Aside0.mk (KeepBut.trans (tK HK) (KeepBut.of_below hb g none) (.inl rfl)); have NB0_202 := Aside0.mk ((by rw [hg]; exact Nat.ne_of_lt (IsS179.lt (show IsS179 w0 _ g s0_0 s0_1 s0_2 from IsS179.t0 HI0)) : g ≠ gb202)); have NB202_0 := Aside0.mk ((by rw [hg]; exact Nat.ne_of_gt (IsS179.lt (show IsS179 w0 _ g s0_0 s0_1 s0_2 from IsS179.t0 HI0)) : gb202 ≠ g)); replace HI0 := Aside0.mk (IsS179.below (IsS179.t0 HI0) hb); clear hb hbox hg) | ((with_reducible refine gate_callee (f := 205) rfl ?_); refine gL_ (some 12) rfl rfl Tryd.func205 #[] rfl ?_; (with_reducible refine (spec_l04Just.calls k  t203 t204 _ A2.out).mono ?_); rintro e w6 ⟨v205, rfl, ho0, hb⟩; refine ⟨_, rfl, ?_⟩; have HO206 := Aside0.mk (Kd.R_lower ho0 (keep_size (w := w) (g := g) (row := none) (tK1 HK GW202))); replace BK202 := Aside0.mk (blk_below (g := gb202) (o := .cells #[.string (⟨#[]⟩ : ByteArray), .slice none 0 0] 71 (0, 0)) (tB BK202) hb); replace HK := Aside0.mk (KeepBut.trans (tK1 HK GW202) (KeepBut.of_below hb g none) (.inl rfl)); replace HB := Aside0.mk (below_step (tH2 HB (IsS179.ge HI0.out) GE202.out) hb); replace HI0 := Aside0.mk (IsS179.below (IsS179.t1 HI0 NB0_202) hb); (try clear hb); (try clear hb2); (try clear hk); (try clear hi); (try clear ho0)) | ((with_reducible refine gate_dst (N := 3) rfl ?_); refine box_event ?hg (N := 3) ?hd (cs := #[.string (⟨#[]⟩ : ByteArray), .slice none 0 0]) (t := 71) ?hr ?_; (case hd => rfl); (case hg => rfl); (case hr => first | (go_simp; done) | (go_simp; rfl)); intro gb207 hg w7 hbox hb; replace HO206 := Aside0.mk (Kd.R_below (tR HO206) hb); replace HB := Aside0.mk (below_step (tH2 HB (IsS179.ge HI0.out) GE202.out) hb); have BK207 := Aside0.mk (hbox); have GW207 := Aside0.mk ((by rw [hg]; exact (keep_size (w := w) (g := g) (row := none) (tK1 HK GW202)) : w.heap.size ≤ gb207)); have GE207 := Aside0.mk ((Nat.le_trans HW0.out (by rw [hg]; exact (keep_size (w := w) (g := g) (row := none) (tK1 HK GW202)) : w.heap.size ≤ gb207) : w0.heap.size ≤ gb207)); replace HK := Aside0.mk (KeepBut.trans (tK1 HK GW202) (KeepBut.of_below hb g none) (.inl rfl)); have NB202_207 := Aside0.mk ((by rw [hg]; exact Nat.ne_of_lt (blk_lt (g := gb202) (o := .cells #[.string (⟨#[]⟩ : ByteArray), .slice none 0 0] 71 (0, 0)) (tB BK202)) : gb202 ≠ gb207)); have NB207_202 := Aside0.mk ((by rw [hg]; exact Nat.ne_of_gt (blk_lt (g := gb202) (o := .cells #[.string (⟨#[]⟩ : ByteArray), .slice none 0 0] 71 (0, 0)) (tB BK202)) : gb207 ≠ gb202)); replace BK202 := Aside0.mk (blk_below (g := gb202) (o := .cells #[.string (⟨#[]⟩ : ByteArray), .slice none 0 0] 71 (0, 0)) (tB BK202) hb); have NB0_207 := Aside0.mk ((by rw [hg]; exact Nat.ne_of_lt (IsS179.lt (show IsS179 w0 _ g s0_0 s0_1 s0_2 from IsS179.t1 HI0 NB0_202)) : g ≠ gb207)); have NB207_0 := Aside0.mk ((by rw [hg]; exact Nat.ne_of_gt (IsS179.lt (show IsS179 w0 _ g s0_0 s0_1 s0_2 from IsS179.t1 HI0 NB0_202)) : gb207 ≠ g)); replace HI0 := Aside0.mk (IsS179.below (IsS179.t1 HI0 NB0_202) hb); clear hb hbox hg; have hnb8 := NB207_202.out; have hnc8 := NB202_207.out; have hnb9 := NB207_0.out; have hnc9 := NB0_207.out; have hcz10_0 : w7.cell? ⟨gb207, 0, none⟩ = some (.string (⟨#[]⟩ : ByteArray)) := (blk_cell BK207.out 0).trans rfl; have hcz10_1 : w7.cell? ⟨gb207, 1, none⟩ = some (.slice none 0 0) := (blk_cell BK207.out 1).trans rfl; have hfz10_0 := blk_frozen BK207.out 0; have hfz10_1 := blk_frozen BK207.out 1; obtain ⟨Ao11, co11, eo11⟩ := Kd.R_slice HO206.out; subst eo11) | ((with_reducible refine gate_callee (f := 113) rfl ?_); refine gL_ (some 14) rfl rfl Tryd.func113 #[.pointer (some ⟨g, 0, none⟩), .int .i64 4] rfl ?_; (with_reducible refine (spec_l00Src_pick.calls g s0_0 s0_1 s0_2 4 t208 t209 t210 w0 _ ?side1 ?side2 A3.out).mono ?_); (case side1 => exact IsS179.t2 HI0 NB0_202 NB0_207); (case side2 => exact tH3 HB (IsS179.ge HI0.out) GE202.out GE207.out); rintro e w12 ⟨rfl, hi, hb, hk⟩; refine ⟨_, rfl, ?_⟩; replace BK202 := Aside0.mk (KeepBut.blk hk (g' := gb202) (o := .cells #[.string (⟨#[]⟩ : ByteArray), .slice none 0 0] 71 (0, 0)) (by (with_reducible repeat (first | refine blk_drewN ?_ _ | refine blk_drew ?_ | refine blk_alloc ?_ _)); refine blk_far ?_ NB202_207.out _; (with_reducible repeat (first | refine blk_drewN ?_ _ | refine blk_drew ?_ | refine blk_alloc ?_ _)); refine blk_far ?_ NB202_207.out _; (with_reducible repeat (first | refine blk_drewN ?_ _ | refine blk_drew ?_ | refine blk_alloc ?_ _)); exact BK202.out) NB202_0.out (by simp)); replace HO206 := Aside0.mk (Kd.R_mono (Kd.R_keep (IsS179.apart (show IsS179 w0 _ g s0_0 s0_1 s0_2 from IsS179.t2 HI0 NB0_202 NB0_207) (by (with_reducible repeat (first | apply qra | apply qrn | apply qrd)); exact (Kd.R_mono (Kd.R_far (p := ⟨gb207, 1, none⟩) (Kd.R_far (p := ⟨gb207, 0, none⟩) (Kd.R_types HO206.out BK207.out (by decide)) (fun _ hk => hk.2) (.string t203)) (fun _ hk => hk.2) (.slice Ao11 t204.length co11)) (fun _ h_ => h_.1))) (by decide)) hk (fun _ h => h.2)) (fun _ h => h.1)); replace BK207 := Aside0.mk (KeepBut.blk hk (g' := gb207) (o := .cells #[.string t203, .slice Ao11 t204.length co11] 71 (0, 0)) (by (with_reducible repeat (first | refine blk_drewN ?_ _ | refine blk_drew ?_ | refine blk_alloc ?_ _)); refine blk_put (cs := #[.string t203, .slice none 0 0]) ?_ 1 _ rfl; (with_reducible repeat (first | refine blk_drewN ?_ _ | refine blk_drew ?_ | refine blk_alloc ?_ _)); refine blk_put (cs := #[.string (⟨#[]⟩ : ByteArray), .slice none 0 0]) ?_ 0 _ rfl; (with_reducible repeat (first | refine blk_drewN ?_ _ | refine blk_drew ?_ | refine blk_alloc ?_ _)); exact BK207.out) NB207_0.out (by simp)); replace HK := Aside0.mk (KeepBut.trans (tK2 HK GW202 GW207) hk (.inl rfl)); replace HB := Aside0.mk (hb); replace HI0 := Aside0.mk (hi); (try clear hb); (try clear hb2); (try clear hk); (try clear hi)))
 (try simp only [Act.put, sx0, sx1, sx2])
 go_cut [] (fun wc => ∃ (kq : Nat) (x1001_3 : Int) (x1002_3 : Int) (x208000_3 : ByteArray) (x208001_3 : List (S52)) (u208001 : Value), Aside0 (spec_l04DrawOk.j1 kq s0_0 x1001_3 x1002_3 x208000_3 x208001_3 = some (r1, r2, r3, r4)) ∧ Aside0 (kq ≤ k) ∧ Aside0 (Kd.R k52 52 wc w.heap.size (fun _ => True) u208001 x208001_3) ∧ Aside0 (wc.heap[gb202]? = some (.cells #[.string (⟨#[]⟩ : ByteArray), (.slice none 0 0)] 71 (0, 0))) ∧ Aside0 (wc.heap[gb207]? = some (.cells #[.string x208000_3, u208001] 71 (0, 0))) ∧ Aside0 (IsS179 w0 wc g s0_0 x1001_3 x1002_3) ∧ Aside0 (KeepBut w wc g none) ∧ Aside0 (Below w0.heap.size w0 wc))
 case first =>
  have H := HC4.out
  clear HC4
  by_cases c13 : t208 = 0
  · rw [if_pos c13] at H
    have c13b0 : (t208 == 0) = true := beq_iff_eq.mpr c13
    have c13b1 : (t208 != 0) = false := bne_eq_false_iff_eq.mpr c13
    clear c13
    (first | rw [c13b0] | (simp only [i64_w, i32_w]; rw [c13b0]) | skip)
    by_cases c14 : 4 < (t204.length : Int)
    · rw [if_pos c14] at H
      have c14b0 : decide (4 < (t204.length : Int)) = true := decide_eq_true c14
      have c14b1 : decide (4 < t204.length) = true := decide_eq_true (by omega)
      clear c14
      obtain ⟨y211, hy211⟩ : ∃ y_ : List (S52), y_ = (t204.set (4 : Int).toNat (⟨81, 64⟩ : S52)) := ⟨_, rfl⟩
      replace H : (if 9 < (t204.length : Int) then (spec_l04DrawOk.j1 k s0_0 t209 t210 (⟨#[104, 105, 103, 104]⟩ : ByteArray) (y211.set (9 : Int).toNat (⟨27, 16⟩ : S52))) else (none)) = some (r1, r2, r3, r4) := by first | (rw [hy211]; with_reducible exact H) | (have H2_ := (Option.bind_some _ _).symm.trans H; rw [hy211]; with_reducible exact H2_) | (have H2_ := (Option.bind_some _ _).symm.trans H; with_reducible exact H2_) | with_reducible exact H | (rw [hy211]; exact H) | exact H
      have Ny211 := Aside0.mk hy211
      clear hy211
      by_cases c16 : 9 < (t204.length : Int)
      · rw [if_pos c16] at H
        have c16b0 : decide (9 < (t204.length : Int)) = true := decide_eq_true c16
        have c16b1 : decide (9 < t204.length) = true := decide_eq_true (by omega)
        clear c16
        obtain ⟨y212, hy212⟩ : ∃ y_ : List (S52), y_ = (y211.set (9 : Int).toNat (⟨27, 16⟩ : S52)) := ⟨_, rfl⟩
        replace H : (spec_l04DrawOk.j1 k s0_0 t209 t210 (⟨#[104, 105, 103, 104]⟩ : ByteArray) y212) = some (r1, r2, r3, r4) := by first | (rw [hy212]; with_reducible exact H) | (have H2_ := (Option.bind_some _ _).symm.trans H; rw [hy212]; with_reducible exact H2_) | (have H2_ := (Option.bind_some _ _).symm.trans H; with_reducible exact H2_) | with_reducible exact H | (rw [hy212]; exact H) | exact H
        have Ny212 := Aside0.mk hy212
        clear hy212
        have H' := Aside0.mk H
        clear H
        have hnb18 := NB207_202.out
        have hnc18 := NB202_207.out
        have hnb19 := NB207_0.out
        have hnc19 := NB0_207.out
        have hcz20_0 : w12.cell? ⟨gb207, 0, none⟩ = some (.string t203) := (blk_cell BK207.out 0).trans rfl
        have hcz20_1 : w12.cell? ⟨gb207, 1, none⟩ = some (.slice Ao11 t204.length co11) := (blk_cell BK207.out 1).trans rfl
        have hfz20_0 := blk_frozen BK207.out 0
        have hfz20_1 := blk_frozen BK207.out 1
        go_wp2_with (first | ((with_reducible refine gate_store (t := 9) (p := 17) rfl ?_); refine store_event (t := 9) (p := 17) (v := ?vo_w21) (w1 := (w12.setCell ⟨gb207, 0, none⟩ (.string (⟨#[104, 105, 103, 104]⟩ : ByteArray)))) ?hg ?ho ?hn ?hr ?_; (case ho => rfl); (case hg => rfl); (case hn => rfl); (case hr => first | (go_simp; done) | (go_simp; rfl)); intro w21 hw; have n0_ : Aside0 (Kd.R k52 52 w21 w.heap.size (fun _ => True) (.slice Ao11 t204.length co11) t204) := ⟨(by rw [hw]; exact (by (with_reducible repeat (first | apply qra | apply qrn | apply qrd)); exact Kd.R_mono (Kd.R_far (p := ⟨gb207, 0, none⟩) (Kd.R_types HO206.out BK207.out (by decide)) (fun _ hk => hk.2) (.string (⟨#[104, 105, 103, 104]⟩ : ByteArray))) (fun _ hk => trivial)))⟩; have n1_ : Aside0 (w21.heap[gb202]? = some (.cells #[.string (⟨#[]⟩ : ByteArray), .slice none 0 0] 71 (0, 0))) := ⟨(by rw [hw]; exact (by (with_reducible repeat (first | refine blk_drewN ?_ _ | refine blk_drew ?_ | refine blk_alloc ?_ _)); refine blk_far ?_ NB202_207.out _; (with_reducible repeat (first | refine blk_drewN ?_ _ | refine blk_drew ?_ | refine blk_alloc ?_ _)); exact BK202.out))⟩; have n2_ : Aside0 (w21.heap[gb207]? = some (.cells #[.string (⟨#[104, 105, 103, 104]⟩ : ByteArray), .slice Ao11 t204.length co11] 71 (0, 0))) := ⟨(by rw [hw]; exact (by (with_reducible repeat (first | refine blk_drewN ?_ _ | refine blk_drew ?_ | refine blk_alloc ?_ _)); refine blk_put (cs := #[.string t203, .slice Ao11 t204.length co11]) ?_ 0 _ rfl; (with_reducible repeat (first | refine blk_drewN ?_ _ | refine blk_drew ?_ | refine blk_alloc ?_ _)); exact BK207.out))⟩; have n3_ : Aside0 (IsS179 w0 w21 g s0_0 t209 t210) := ⟨(by rw [hw]; exact (IsS179.t2 HI0 NB0_202 NB0_207))⟩; have n4_ : Aside0 (KeepBut w w21 g none) := ⟨(by rw [hw]; exact (tK2 HK GW202 GW207))⟩; have n5_ : Aside0 (Below w0.heap.size w0 w21) := ⟨(by rw [hw]; exact (tH3 HB (IsS179.ge HI0.out) GE202.out GE207.out))⟩; clear hw; clear HO206; clear BK202; clear BK207; clear HI0; clear HK; clear HB; have HO206 := n0_; have BK202 := n1_; have BK207 := n2_; have HI0 := n3_; have HK := n4_; have HB := n5_; clear n0_ n1_ n2_ n3_ n4_ n5_; have hcz22_0 : w21.cell? ⟨gb207, 0, none⟩ = some (.string (⟨#[104, 105, 103, 104]⟩ : ByteArray)) := (blk_cell BK207.out 0).trans rfl; have hcz22_1 : w21.cell? ⟨gb207, 1, none⟩ = some (.slice Ao11 t204.length co11) := (blk_cell BK207.out 1).trans rfl; have hfz22_0 := blk_frozen BK207.out 0; have hfz22_1 := blk_frozen BK207.out 1; have p15 : 0 ≤ (4 : Int) := (by omega); have q15 : (4 : Int) < ((t204.length : Int) : Int) := of_decide_eq_true tA; have qi15 : (4 < t204.length) = True := eq_true (by omega); obtain ⟨go15, co15, eo15, gb15, gl15, cl15, HG15⟩ := Kd.R_form HO206.out (by omega); (first | cases eo15 | (injection eo15 with ea_ en_ ec_; (first | subst ea_ | (injection ea_ with ea_; subst ea_)); subst ec_; clear en_)); have GB15 := Aside0.mk gb15; have GG15 := Aside0.mk HG15; clear gb15 gl15 HG15; obtain ⟨ce15, hcl15, hM15, hcc15, hfr15⟩ := Kd.R_elem HO206.out z52 (4 : Int) p15 q15; obtain rfl := k52_openM hM15; have hx15_0 : w21.cell? ⟨go15, (4 : Int).toNat * 2, none⟩ = some (.int .i64 ((rd_T52 t204 4).f0)) := hcc15 0 _ rfl; have hx15_1 : w21.cell? ⟨go15, (4 : Int).toNat * 2 + 1, none⟩ = some (.int .i64 ((rd_T52 t204 4).f1)) := hcc15 1 _ rfl; have hf15_0 : w21.frozen? ⟨go15, (4 : Int).toNat * 2, none⟩ = false := hfr15 0; have hf15_1 : w21.frozen? ⟨go15, (4 : Int).toNat * 2 + 1, none⟩ = false := hfr15 1; clear hcl15 hcc15 hfr15 hM15; (try rw [t4n] at hx15_0); (try simp only [Nat.reduceMul, Nat.zero_mul, Nat.zero_add, Nat.reduceAdd] at hx15_0); (try rw [t4n] at hf15_0); (try simp only [Nat.reduceMul, Nat.zero_mul, Nat.zero_add, Nat.reduceAdd] at hf15_0); (try rw [t4n] at hx15_1); (try simp only [Nat.reduceMul, Nat.zero_mul, Nat.zero_add, Nat.reduceAdd] at hx15_1); (try rw [t4n] at hf15_1); (try simp only [Nat.reduceMul, Nat.zero_mul, Nat.zero_add, Nat.reduceAdd] at hf15_1); replace p15 := eq_true p15; replace q15 := eq_true q15; have HX23 := Aside0.mk (show Kd.R k52 52 w21 w.heap.size (fun _ => True) (.slice (some ⟨go15, 0, none⟩) t204.length co11) t204 from (tR HO206)); obtain ⟨ce23, hcl23, hM23, hcc23, hfr23⟩ := Kd.R_elem HX23.out z52 (4 : Int) (by omega) (by have h_ : (4 : Int) < ((t204.length : Int) : Int) := of_decide_eq_true tA; first | exact h_ | (have e_ := (Kd.R_reads' HO206.out).1; omega) | simpa using h_); obtain rfl := k52_openM hM23; have HP23 := Kd.R_seg HX23.out (4 : Int) (by omega) (by have h_ : (4 : Int) < ((t204.length : Int) : Int) := of_decide_eq_true tA; first | exact h_ | (have e_ := (Kd.R_reads' HO206.out).1; omega) | simpa using h_) (seg := [.int .i64 81, .int .i64 64]) (j := 0) hcl23 hcc23 (show 2 ≤ 2 from by decide) (x' := (⟨81, 64⟩ : S52)) (k52_mkM _ _ _ (⟨81, 64⟩ : S52) ) (fun _ hk => hk); have hx23_0 := hcc23 0 _ rfl; (try simp only [show (k52).sz = 2 from rfl, Nat.mul_one, Nat.add_zero] at hx23_0); (try rw [t4n] at hx23_0); (try simp only [Nat.reduceMul, Nat.zero_mul, Nat.zero_add, Nat.reduceAdd] at hx23_0); have hf23_0 := hfr23 0; (try simp only [show (k52).sz = 2 from rfl, Nat.mul_one, Nat.add_zero] at hf23_0); (try rw [t4n] at hf23_0); (try simp only [Nat.reduceMul, Nat.zero_mul, Nat.zero_add, Nat.reduceAdd] at hf23_0); have hx23_1 := hcc23 1 _ rfl; (try simp only [show (k52).sz = 2 from rfl, Nat.mul_one, Nat.add_zero] at hx23_1); (try rw [t4n] at hx23_1); (try simp only [Nat.reduceMul, Nat.zero_mul, Nat.zero_add, Nat.reduceAdd] at hx23_1); have hf23_1 := hfr23 1; (try simp only [show (k52).sz = 2 from rfl, Nat.mul_one, Nat.add_zero] at hf23_1); (try rw [t4n] at hf23_1); (try simp only [Nat.reduceMul, Nat.zero_mul, Nat.zero_add, Nat.reduceAdd] at hf23_1); clear hcl23 hcc23 hfr23 hM23) | ((with_reducible refine gate_store (t := 52) (p := 21) rfl ?_); refine store_event (t := 52) (p := 21) (v := ?vo_w24) (w1 := ((w21.setCell ⟨go15, 8, none⟩ (.int .i64 81)).setCell ⟨go15, 9, none⟩ (.int .i64 64))) ?hg ?ho ?hn ?hr ?_; (case ho => rfl); (case hg => rfl); (case hn => rfl); (case hr => first | (go_simp; done) | (go_simp; rfl)); intro w24 hw; have hg : w21.grownBy w24 (some go15) := (by rw [hw]; exact HP23.2); have hp_ : Kd.R k52 52 w24 w.heap.size (fun _ => True) (.slice (some ⟨go15, 0, none⟩) t204.length co11) y211 := (by rw [hw, Ny211.out]; exact HP23.1); clear HP23; replace HI0 := Aside0.mk (IsS179.grown (IsS179.t2 HI0 NB0_202 NB0_207) hg (IsS179.own_ne HI0.out HO206.out (by decide))); replace BK202 := Aside0.mk (blk_grown (g := gb202) (o := .cells #[.string (⟨#[]⟩ : ByteArray), .slice none 0 0] 71 (0, 0)) (tB BK202) hg (Kd.R_ne HO206.out BK202.out (by decide))); replace BK207 := Aside0.mk (blk_grown (g := gb207) (o := .cells #[.string (⟨#[104, 105, 103, 104]⟩ : ByteArray), .slice (some ⟨go15, 0, none⟩) t204.length co11] 71 (0, 0)) (tB BK207) hg (Kd.R_ne HO206.out BK207.out (by decide))); replace HB := Aside0.mk ((by rw [hw]; exact below_set (below_set (HB.out) (Nat.le_trans HL.out GB15.out)) (Nat.le_trans HL.out GB15.out) : Below w0.heap.size w0 w24)); replace HK := Aside0.mk (KeepBut.trans (tK2 HK GW202 GW207) (KeepBut.of_grown hg g) (Kd.R_base2 HO206.out)); replace HO206 := Aside0.mk (hp_); clear hg hw hp_; have hcz25_0 : w24.cell? ⟨gb207, 0, none⟩ = some (.string (⟨#[104, 105, 103, 104]⟩ : ByteArray)) := (blk_cell BK207.out 0).trans rfl; have hcz25_1 : w24.cell? ⟨gb207, 1, none⟩ = some (.slice (some ⟨go15, 0, none⟩) t204.length co11) := (blk_cell BK207.out 1).trans rfl; have hfz25_0 := blk_frozen BK207.out 0; have hfz25_1 := blk_frozen BK207.out 1; have p17 : 0 ≤ (9 : Int) := (by omega); have q17 : (9 : Int) < ((t204.length : Int) : Int) := of_decide_eq_true tA; have qi17 : (9 < t204.length) = True := eq_true (by omega); obtain ⟨ce17, hcl17, hM17, hcc17, hfr17⟩ := Kd.R_elem HO206.out z52 (9 : Int) p17 q17; obtain rfl := k52_openM hM17; have hx17_0 : w24.cell? ⟨go15, (9 : Int).toNat * 2, none⟩ = some (.int .i64 ((rd_T52 y211 9).f0)) := hcc17 0 _ rfl; have hx17_1 : w24.cell? ⟨go15, (9 : Int).toNat * 2 + 1, none⟩ = some (.int .i64 ((rd_T52 y211 9).f1)) := hcc17 1 _ rfl; have hf17_0 : w24.frozen? ⟨go15, (9 : Int).toNat * 2, none⟩ = false := hfr17 0; have hf17_1 : w24.frozen? ⟨go15, (9 : Int).toNat * 2 + 1, none⟩ = false := hfr17 1; clear hcl17 hcc17 hfr17 hM17; (try rw [show ((9 : Int)).toNat = 9 from rfl] at hx17_0); (try simp only [Nat.reduceMul, Nat.zero_mul, Nat.zero_add, Nat.reduceAdd] at hx17_0); (try rw [show ((9 : Int)).toNat = 9 from rfl] at hf17_0); (try simp only [Nat.reduceMul, Nat.zero_mul, Nat.zero_add, Nat.reduceAdd] at hf17_0); (try rw [show ((9 : Int)).toNat = 9 from rfl] at hx17_1); (try simp only [Nat.reduceMul, Nat.zero_mul, Nat.zero_add, Nat.reduceAdd] at hx17_1); (try rw [show ((9 : Int)).toNat = 9 from rfl] at hf17_1); (try simp only [Nat.reduceMul, Nat.zero_mul, Nat.zero_add, Nat.reduceAdd] at hf17_1); replace p17 := eq_true p17; replace q17 := eq_true q17; have HX26 := Aside0.mk (show Kd.R k52 52 w24 w.heap.size (fun _ => True) (.slice (some ⟨go15, 0, none⟩) t204.length co11) y211 from (tR HO206)); obtain ⟨ce26, hcl26, hM26, hcc26, hfr26⟩ := Kd.R_elem HX26.out z52 (9 : Int) (by omega) (by have h_ : (9 : Int) < ((t204.length : Int) : Int) := of_decide_eq_true tA; first | exact h_ | (have e_ := (Kd.R_reads' HO206.out).1; omega) | simpa using h_); obtain rfl := k52_openM hM26; have HP26 := Kd.R_seg HX26.out (9 : Int) (by omega) (by have h_ : (9 : Int) < ((t204.length : Int) : Int) := of_decide_eq_true tA; first | exact h_ | (have e_ := (Kd.R_reads' HO206.out).1; omega) | simpa using h_) (seg := [.int .i64 27, .int .i64 16]) (j := 0) hcl26 hcc26 (show 2 ≤ 2 from by decide) (x' := (⟨27, 16⟩ : S52)) (k52_mkM _ _ _ (⟨27, 16⟩ : S52) ) (fun _ hk => hk); have hx26_0 := hcc26 0 _ rfl; (try simp only [show (k52).sz = 2 from rfl, Nat.mul_one, Nat.add_zero] at hx26_0); (try rw [show ((9 : Int)).toNat = 9 from rfl] at hx26_0); (try simp only [Nat.reduceMul, Nat.zero_mul, Nat.zero_add, Nat.reduceAdd] at hx26_0); have hf26_0 := hfr26 0; (try simp only [show (k52).sz = 2 from rfl, Nat.mul_one, Nat.add_zero] at hf26_0); (try rw [show ((9 : Int)).toNat = 9 from rfl] at hf26_0); (try simp only [Nat.reduceMul, Nat.zero_mul, Nat.zero_add, Nat.reduceAdd] at hf26_0); have hx26_1 := hcc26 1 _ rfl; (try simp only [show (k52).sz = 2 from rfl, Nat.mul_one, Nat.add_zero] at hx26_1); (try rw [show ((9 : Int)).toNat = 9 from rfl] at hx26_1); (try simp only [Nat.reduceMul, Nat.zero_mul, Nat.zero_add, Nat.reduceAdd] at hx26_1); have hf26_1 := hfr26 1; (try simp only [show (k52).sz = 2 from rfl, Nat.mul_one, Nat.add_zero] at hf26_1); (try rw [show ((9 : Int)).toNat = 9 from rfl] at hf26_1); (try simp only [Nat.reduceMul, Nat.zero_mul, Nat.zero_add, Nat.reduceAdd] at hf26_1); clear hcl26 hcc26 hfr26 hM26) | ((with_reducible refine gate_store (t := 52) (p := 25) rfl ?_); refine store_event (t := 52) (p := 25) (v := ?vo_w27) (w1 := ((w24.setCell ⟨go15, 18, none⟩ (.int .i64 27)).setCell ⟨go15, 19, none⟩ (.int .i64 16))) ?hg ?ho ?hn ?hr ?_; (case ho => rfl); (case hg => rfl); (case hn => rfl); (case hr => first | (go_simp; done) | (go_simp; rfl)); intro w27 hw; have hg : w24.grownBy w27 (some go15) := (by rw [hw]; exact HP26.2); have hp_ : Kd.R k52 52 w27 w.heap.size (fun _ => True) (.slice (some ⟨go15, 0, none⟩) t204.length co11) y212 := (by rw [hw, Ny212.out]; exact HP26.1); clear HP26; replace HI0 := Aside0.mk (IsS179.grown (IsS179.t2 HI0 NB0_202 NB0_207) hg (IsS179.own_ne HI0.out HO206.out (by decide))); replace BK202 := Aside0.mk (blk_grown (g := gb202) (o := .cells #[.string (⟨#[]⟩ : ByteArray), .slice none 0 0] 71 (0, 0)) (tB BK202) hg (Kd.R_ne HO206.out BK202.out (by decide))); replace BK207 := Aside0.mk (blk_grown (g := gb207) (o := .cells #[.string (⟨#[104, 105, 103, 104]⟩ : ByteArray), .slice (some ⟨go15, 0, none⟩) t204.length co11] 71 (0, 0)) (tB BK207) hg (Kd.R_ne HO206.out BK207.out (by decide))); replace HB := Aside0.mk ((by rw [hw]; exact below_set (below_set (HB.out) (Nat.le_trans HL.out GB15.out)) (Nat.le_trans HL.out GB15.out) : Below w0.heap.size w0 w27)); replace HK := Aside0.mk (KeepBut.trans (tK2 HK GW202 GW207) (KeepBut.of_grown hg g) (Kd.R_base2 HO206.out)); replace HO206 := Aside0.mk (hp_); clear hg hw hp_))
        go_meet
        case rel => exact ⟨_, (t209), (t210), ((⟨#[104, 105, 103, 104]⟩ : ByteArray)), (y212), (.slice (some ⟨go15, 0, none⟩) t204.length co11), H', ⟨by first | omega | exact Nat.le_refl _⟩, ⟨tR HO206⟩, ⟨tB BK202⟩, ⟨tB BK207⟩, ⟨IsS179.t2 HI0 NB0_202 NB0_207⟩, ⟨tK2 HK GW202 GW207⟩, ⟨tH3 HB (IsS179.ge HI0.out) GE202.out GE207.out⟩⟩
      rw [if_neg c16] at H
      exact absurd H (by simp)
    rw [if_neg c14] at H
    exact absurd H (by simp)
  rw [if_neg c13] at H
  have c13b0 : (t208 == 0) = false := beq_eq_false_iff_ne.mpr c13
  have c13b1 : (t208 != 0) = true := bne_iff_ne.mpr c13
  (first | rw [c13b0] | (simp only [i64_w, i32_w]; rw [c13b0]) | skip)
  by_cases c28 : t208 = 1
  · rw [if_pos c28] at H
    have c28b0 : (t208 == 1) = true := beq_iff_eq.mpr c28
    have c28b1 : (t208 != 1) = false := bne_eq_false_iff_eq.mpr c28
    clear c28
    have H' := Aside0.mk H
    clear H
    have hnb29 := NB207_202.out
    have hnc29 := NB202_207.out
    have hnb30 := NB207_0.out
    have hnc30 := NB0_207.out
    have hcz31_0 : w12.cell? ⟨gb207, 0, none⟩ = some (.string t203) := (blk_cell BK207.out 0).trans rfl
    have hcz31_1 : w12.cell? ⟨gb207, 1, none⟩ = some (.slice Ao11 t204.length co11) := (blk_cell BK207.out 1).trans rfl
    have hfz31_0 := blk_frozen BK207.out 0
    have hfz31_1 := blk_frozen BK207.out 1
    go_wp2
    go_loopg [4] k (fun kq v4 w' => ∃ (x4_1 : Int) (x208001_1 : List (S52)) (u208001 : Value), v4 = .int .i64 x4_1 ∧ Aside0 (spec_l04DrawOk.l0 kq x4_1 s0_0 t209 t210 (⟨#[101, 118, 101, 110]⟩ : ByteArray) x208001_1 = some (r1, r2, r3, r4)) ∧ Aside0 (kq ≤ k) ∧ Aside0 (Kd.R k52 52 w' w.heap.size (fun _ => True) u208001 x208001_1) ∧ Aside0 (w'.heap[gb202]? = some (.cells #[.string (⟨#[]⟩ : ByteArray), (.slice none 0 0)] 71 (0, 0))) ∧ Aside0 (w'.heap[gb207]? = some (.cells #[.string (⟨#[101, 118, 101, 110]⟩ : ByteArray), u208001] 71 (0, 0))) ∧ Aside0 (IsS179 w0 w' g s0_0 t209 t210) ∧ Aside0 (KeepBut w w' g none) ∧ Aside0 (Below w0.heap.size w0 w'))
    case atStart => exact ⟨(1), (t204), (.slice Ao11 t204.length co11), tq, H', ⟨Nat.le_refl _⟩, ⟨by (with_reducible repeat (first | apply qra | apply qrn | apply qrd)); exact Kd.R_mono (Kd.R_far (p := ⟨gb207, 0, none⟩) (Kd.R_types HO206.out BK207.out (by decide)) (fun _ hk => hk.2) (.string (⟨#[101, 118, 101, 110]⟩ : ByteArray))) (fun _ hk => trivial)⟩, ⟨by (with_reducible repeat (first | refine blk_drewN ?_ _ | refine blk_drew ?_ | refine blk_alloc ?_ _)); refine blk_far ?_ NB202_207.out _; (with_reducible repeat (first | refine blk_drewN ?_ _ | refine blk_drew ?_ | refine blk_alloc ?_ _)); exact BK202.out⟩, ⟨by (with_reducible repeat (first | refine blk_drewN ?_ _ | refine blk_drew ?_ | refine blk_alloc ?_ _)); refine blk_put (cs := #[.string t203, .slice Ao11 t204.length co11]) ?_ 0 _ rfl; (with_reducible repeat (first | refine blk_drewN ?_ _ | refine blk_drew ?_ | refine blk_alloc ?_ _)); exact BK207.out⟩, ⟨IsS179.t2 HI0 NB0_202 NB0_207⟩, ⟨tK2 HK GW202 GW207⟩, ⟨tH3 HB (IsS179.ge HI0.out) GE202.out GE207.out⟩⟩
    case round =>
    clear H'
    try clear c1
    try clear p1
    try clear q1
    try clear hx1
    try clear qi1
    try clear hf1
    try clear c2
    try clear p2
    try clear hx2
    try clear hf2
    try clear c3
    try clear p6
    try clear c8
    try clear c9
    try clear c11
    try clear c13
    try clear c13b0
    try clear c13b1
    try clear c14
    try clear c14b0
    try clear c14b1
    try clear c15
    try clear p15
    try clear q15
    try clear hx15
    try clear qi15
    try clear hf15
    try clear c16
    try clear c16b0
    try clear c16b1
    try clear c17
    try clear p17
    try clear q17
    try clear hx17
    try clear qi17
    try clear hf17
    try clear c18
    try clear c19
    try clear c20
    try clear c23
    try clear hx23
    try clear hf23
    try clear c26
    try clear hx26
    try clear hf26
    try clear c28
    try clear c28b0
    try clear c28b1
    try clear c29
    try clear c30
    try clear hcz10_0 hcz10_1
    try clear hcz20_0 hcz20_1
    try clear hcz22_0 hcz22_1
    try clear hcz25_0 hcz25_1
    try clear hcz31_0 hcz31_1
    try clear hfz10_0 hfz10_1
    try clear hfz20_0 hfz20_1
    try clear hfz22_0 hfz22_1
    try clear hfz25_0 hfz25_1
    try clear hfz31_0 hfz31_1
    try clear hx15_0
    try clear hx15_1
    try clear hx17_0
    try clear hx17_1
    try clear hx23_0
    try clear hx23_1
    try clear hx26_0
    try clear hx26_1
    try clear p15
    try clear p17
    try clear q15
    try clear q17
    obtain ⟨x4_1, x208001_1, u208001, rfl, HA, HK1, HO_208001, BK202, BK207, HI0, HK, HB⟩ := hrel
    cases gk with
    | zero => exact absurd HA.out (by simp [spec_l04DrawOk.l0])
    | succ k1 =>
    have H := HA.out
    clear HA
    simp only [spec_l04DrawOk.l0] at H
    by_cases c32 : x4_1 < 12
    · rw [if_pos c32] at H
      have c32b0 : decide (x4_1 < 12) = true := decide_eq_true c32
      clear c32
      replace H := Option.bind_eq_some_iff.mp H
      obtain ⟨⟨t213, t214, t215⟩, A330, H⟩ := H
      replace H : (if 0 ≤ x4_1 then (if x4_1 < (x208001_1.length : Int) then (spec_l04DrawOk.l0 k1 (wrap64 (x4_1 + 1)) s0_0 t209 t210 (⟨#[101, 118, 101, 110]⟩ : ByteArray) (x208001_1.set (x4_1 : Int).toNat (⟨t213, t214⟩ : S52))) else (none)) else (none)) = some (r1, r2, r3, r4) := H
      have A33 := Aside0.mk A330
      clear A330
      by_cases c34 : 0 ≤ x4_1
      · rw [if_pos c34] at H
        have c34b0 : decide (0 ≤ x4_1) = true := decide_eq_true c34
        clear c34
        by_cases c35 : x4_1 < (x208001_1.length : Int)
        · rw [if_pos c35] at H
          have c35b0 : decide (x4_1 < (x208001_1.length : Int)) = true := decide_eq_true c35
          clear c35
          obtain ⟨y217, hy217⟩ : ∃ y_ : List (S52), y_ = (x208001_1.set (x4_1 : Int).toNat (⟨t213, t214⟩ : S52)) := ⟨_, rfl⟩
          replace H : (spec_l04DrawOk.l0 k1 (wrap64 (x4_1 + 1)) s0_0 t209 t210 (⟨#[101, 118, 101, 110]⟩ : ByteArray) y217) = some (r1, r2, r3, r4) := by first | (rw [hy217]; with_reducible exact H) | (have H2_ := (Option.bind_some _ _).symm.trans H; rw [hy217]; with_reducible exact H2_) | (have H2_ := (Option.bind_some _ _).symm.trans H; with_reducible exact H2_) | with_reducible exact H | (rw [hy217]; exact H) | exact H
          have Ny217 := Aside0.mk hy217
          clear hy217
          have H' := Aside0.mk H
          clear H
          go_wp2_with (first | ((with_reducible refine gate_callee (f := 119) rfl ?_); refine gL_ (some 40) rfl rfl Tryd.func119 #[.int .i64 (wrap64 (106 * (wrap64 (53 + (wrap64 (Int.tdiv (wrap64 (x4_1 * 53)) 12)))))), .int .i64 5618] rfl ?_; (with_reducible refine (spec_l02Done.calls k1 (wrap64 (106 * (wrap64 (53 + (wrap64 (Int.tdiv (wrap64 (x4_1 * 53)) 12)))))) 5618 t213 t214 t215 _ A33.out).mono ?_); rintro e w37 ⟨rfl, hb⟩; refine ⟨_, rfl, ?_⟩; replace HO_208001 := Aside0.mk (Kd.R_below (tR HO_208001) hb); replace BK202 := Aside0.mk (blk_below (g := gb202) (o := .cells #[.string (⟨#[]⟩ : ByteArray), .slice none 0 0] 71 (0, 0)) (tB BK202) hb); replace BK207 := Aside0.mk (blk_below (g := gb207) (o := .cells #[.string (⟨#[101, 118, 101, 110]⟩ : ByteArray), u208001] 71 (0, 0)) (tB BK207) hb); replace HK := Aside0.mk (KeepBut.trans (tK2 HK GW202 GW207) (KeepBut.of_below hb g none) (.inl rfl)); replace HB := Aside0.mk (below_step (tH3 HB (IsS179.ge HI0.out) GE202.out GE207.out) hb); replace HI0 := Aside0.mk (IsS179.below (IsS179.t2 HI0 NB0_202 NB0_207) hb); (try clear hb); (try clear hb2); (try clear hk); (try clear hi)) | ((with_reducible refine gate_dst (N := 6) rfl ?_); refine box_event ?hg (N := 6) ?hd (cs := #[.int .i64 0, .int .i64 0]) (t := 52) ?hr ?_; (case hd => rfl); (case hg => rfl); (case hr => first | (go_simp; done) | (go_simp; rfl)); intro gb216 hg w38 hbox hb; replace HO_208001 := Aside0.mk (Kd.R_below (Kd.R_elderB (tR HO_208001) gb216 (Nat.le_of_eq hg.symm)) hb); replace HB := Aside0.mk (below_step (tH3 HB (IsS179.ge HI0.out) GE202.out GE207.out) hb); have BK216 := Aside0.mk (hbox); have GW216 := Aside0.mk ((by rw [hg]; exact (keep_size (w := w) (g := g) (row := none) (tK2 HK GW202 GW207)) : w.heap.size ≤ gb216)); have GE216 := Aside0.mk ((Nat.le_trans HW0.out (by rw [hg]; exact (keep_size (w := w) (g := g) (row := none) (tK2 HK GW202 GW207)) : w.heap.size ≤ gb216) : w0.heap.size ≤ gb216)); replace HK := Aside0.mk (KeepBut.trans (tK2 HK GW202 GW207) (KeepBut.of_below hb g none) (.inl rfl)); have NB202_216 := Aside0.mk ((by rw [hg]; exact Nat.ne_of_lt (blk_lt (g := gb202) (o := .cells #[.string (⟨#[]⟩ : ByteArray), .slice none 0 0] 71 (0, 0)) (tB BK202)) : gb202 ≠ gb216)); have NB216_202 := Aside0.mk ((by rw [hg]; exact Nat.ne_of_gt (blk_lt (g := gb202) (o := .cells #[.string (⟨#[]⟩ : ByteArray), .slice none 0 0] 71 (0, 0)) (tB BK202)) : gb216 ≠ gb202)); replace BK202 := Aside0.mk (blk_below (g := gb202) (o := .cells #[.string (⟨#[]⟩ : ByteArray), .slice none 0 0] 71 (0, 0)) (tB BK202) hb); have NB207_216 := Aside0.mk ((by rw [hg]; exact Nat.ne_of_lt (blk_lt (g := gb207) (o := .cells #[.string (⟨#[101, 118, 101, 110]⟩ : ByteArray), u208001] 71 (0, 0)) (tB BK207)) : gb207 ≠ gb216)); have NB216_207 := Aside0.mk ((by rw [hg]; exact Nat.ne_of_gt (blk_lt (g := gb207) (o := .cells #[.string (⟨#[101, 118, 101, 110]⟩ : ByteArray), u208001] 71 (0, 0)) (tB BK207)) : gb216 ≠ gb207)); replace BK207 := Aside0.mk (blk_below (g := gb207) (o := .cells #[.string (⟨#[101, 118, 101, 110]⟩ : ByteArray), u208001] 71 (0, 0)) (tB BK207) hb); have NB0_216 := Aside0.mk ((by rw [hg]; exact Nat.ne_of_lt (IsS179.lt (show IsS179 w0 _ g s0_0 t209 t210 from IsS179.t2 HI0 NB0_202 NB0_207)) : g ≠ gb216)); have NB216_0 := Aside0.mk ((by rw [hg]; exact Nat.ne_of_gt (IsS179.lt (show IsS179 w0 _ g s0_0 t209 t210 from IsS179.t2 HI0 NB0_202 NB0_207)) : gb216 ≠ g)); replace HI0 := Aside0.mk (IsS179.below (IsS179.t2 HI0 NB0_202 NB0_207) hb); clear hb hbox hg; have hnb39 := NB216_202.out; have hnc39 := NB202_216.out; have hnb40 := NB216_207.out; have hnc40 := NB207_216.out; have hnb41 := NB216_0.out; have hnc41 := NB0_216.out; have hcz42_0 : w38.cell? ⟨gb216, 0, none⟩ = some (.int .i64 0) := (blk_cell BK216.out 0).trans rfl; have hcz42_1 : w38.cell? ⟨gb216, 1, none⟩ = some (.int .i64 0) := (blk_cell BK216.out 1).trans rfl; have hfz42_0 := blk_frozen BK216.out 0; have hfz42_1 := blk_frozen BK216.out 1) | ((with_reducible refine gate_store (t := 52) (p := 6) rfl ?_); refine store_event (t := 52) (p := 6) (v := ?vo_w43) (w1 := ((w38.setCell ⟨gb216, 0, none⟩ (.int .i64 t213)).setCell ⟨gb216, 1, none⟩ (.int .i64 t214))) ?hg ?ho ?hn ?hr ?_; (case ho => rfl); (case hg => rfl); (case hn => rfl); (case hr => first | (go_simp; done) | (go_simp; rfl)); intro w43 hw; have n0_ : Aside0 (Kd.R k52 52 w43 w.heap.size (fun k_ => k_ ≠ gb216) u208001 x208001_1) := ⟨(by rw [hw]; exact (by (with_reducible repeat (first | apply qra | apply qrn | apply qrd)); exact Kd.R_mono (Kd.R_far (p := ⟨gb216, 1, none⟩) (Kd.R_far (p := ⟨gb216, 0, none⟩) (Kd.R_mono HO_208001.out (fun k_ hk => (⟨hk, hk.2⟩ : _ ∧ k_ ≠ gb216))) (fun _ hk => hk.2) (.int .i64 t213)) (fun _ hk => hk.2) (.int .i64 t214)) (fun _ hk => hk.1.2)))⟩; have n1_ : Aside0 (w43.heap[gb202]? = some (.cells #[.string (⟨#[]⟩ : ByteArray), .slice none 0 0] 71 (0, 0))) := ⟨(by rw [hw]; exact (by (with_reducible repeat (first | refine blk_drewN ?_ _ | refine blk_drew ?_ | refine blk_alloc ?_ _)); refine blk_far ?_ NB202_216.out _; (with_reducible repeat (first | refine blk_drewN ?_ _ | refine blk_drew ?_ | refine blk_alloc ?_ _)); refine blk_far ?_ NB202_216.out _; (with_reducible repeat (first | refine blk_drewN ?_ _ | refine blk_drew ?_ | refine blk_alloc ?_ _)); exact BK202.out))⟩; have n2_ : Aside0 (w43.heap[gb207]? = some (.cells #[.string (⟨#[101, 118, 101, 110]⟩ : ByteArray), u208001] 71 (0, 0))) := ⟨(by rw [hw]; exact (by (with_reducible repeat (first | refine blk_drewN ?_ _ | refine blk_drew ?_ | refine blk_alloc ?_ _)); refine blk_far ?_ NB207_216.out _; (with_reducible repeat (first | refine blk_drewN ?_ _ | refine blk_drew ?_ | refine blk_alloc ?_ _)); refine blk_far ?_ NB207_216.out _; (with_reducible repeat (first | refine blk_drewN ?_ _ | refine blk_drew ?_ | refine blk_alloc ?_ _)); exact BK207.out))⟩; have n3_ : Aside0 (w43.heap[gb216]? = some (.cells #[.int .i64 t213, .int .i64 t214] 52 (0, 0))) := ⟨(by rw [hw]; exact (by (with_reducible repeat (first | refine blk_drewN ?_ _ | refine blk_drew ?_ | refine blk_alloc ?_ _)); refine blk_put (cs := #[.int .i64 t213, .int .i64 0]) ?_ 1 _ rfl; (with_reducible repeat (first | refine blk_drewN ?_ _ | refine blk_drew ?_ | refine blk_alloc ?_ _)); refine blk_put (cs := #[.int .i64 0, .int .i64 0]) ?_ 0 _ rfl; (with_reducible repeat (first | refine blk_drewN ?_ _ | refine blk_drew ?_ | refine blk_alloc ?_ _)); exact BK216.out))⟩; have n4_ : Aside0 (IsS179 w0 w43 g s0_0 t209 t210) := ⟨(by rw [hw]; exact (IsS179.t3 HI0 NB0_202 NB0_207 NB0_216))⟩; have n5_ : Aside0 (KeepBut w w43 g none) := ⟨(by rw [hw]; exact (by repeat (first | (with_reducible first | exact HK.out | apply qks | apply qkn | apply qkd | apply qka | refine keep_far ?_ GW202.out _ | refine keep_far ?_ GW207.out _ | refine keep_far ?_ GW216.out _) | exact HK.out)))⟩; have n6_ : Aside0 (Below w0.heap.size w0 w43) := ⟨(by rw [hw]; exact (tH4 HB (IsS179.ge HI0.out) GE202.out GE207.out GE216.out))⟩; clear hw; clear HO_208001; clear BK202; clear BK207; clear BK216; clear HI0; clear HK; clear HB; have HO_208001 := n0_; have BK202 := n1_; have BK207 := n2_; have BK216 := n3_; have HI0 := n4_; have HK := n5_; have HB := n6_; clear n0_ n1_ n2_ n3_ n4_ n5_ n6_; have hnb44 := NB207_202.out; have hnc44 := NB202_207.out; have hnb45 := NB207_0.out; have hnc45 := NB0_207.out; have hcz46_0 : w43.cell? ⟨gb207, 0, none⟩ = some (.string (⟨#[101, 118, 101, 110]⟩ : ByteArray)) := (blk_cell BK207.out 0).trans rfl; have hcz46_1 : w43.cell? ⟨gb207, 1, none⟩ = some (u208001) := (blk_cell BK207.out 1).trans rfl; have hfz46_0 := blk_frozen BK207.out 0; have hfz46_1 := blk_frozen BK207.out 1; have hcz47_0 : w43.cell? ⟨gb216, 0, none⟩ = some (.int .i64 t213) := (blk_cell BK216.out 0).trans rfl; have hcz47_1 : w43.cell? ⟨gb216, 1, none⟩ = some (.int .i64 t214) := (blk_cell BK216.out 1).trans rfl; have hfz47_0 := blk_frozen BK216.out 0; have hfz47_1 := blk_frozen BK216.out 1; have p36 : 0 ≤ (x4_1 : Int) := of_decide_eq_true tA; have q36 : (x4_1 : Int) < ((x208001_1.length : Int) : Int) := of_decide_eq_true tA; obtain ⟨go36, co36, eo36, gb36, gl36, cl36, HG36⟩ := Kd.R_form HO_208001.out (by omega); (first | cases eo36 | (injection eo36 with ea_ en_ ec_; (first | subst ea_ | (injection ea_ with ea_; subst ea_)); subst ec_; clear en_)); have GB36 := Aside0.mk gb36; have GG36 := Aside0.mk HG36; clear gb36 gl36 HG36; obtain ⟨ce36, hcl36, hM36, hcc36, hfr36⟩ := Kd.R_elem HO_208001.out z52 (x4_1 : Int) p36 q36; obtain rfl := k52_openM hM36; have hx36_0 : w43.cell? ⟨go36, (x4_1 : Int).toNat * 2, none⟩ = some (.int .i64 ((rd_T52 x208001_1 x4_1).f0)) := hcc36 0 _ rfl; have hx36_1 : w43.cell? ⟨go36, (x4_1 : Int).toNat * 2 + 1, none⟩ = some (.int .i64 ((rd_T52 x208001_1 x4_1).f1)) := hcc36 1 _ rfl; have hf36_0 : w43.frozen? ⟨go36, (x4_1 : Int).toNat * 2, none⟩ = false := hfr36 0; have hf36_1 : w43.frozen? ⟨go36, (x4_1 : Int).toNat * 2 + 1, none⟩ = false := hfr36 1; clear hcl36 hcc36 hfr36 hM36; replace p36 := eq_true p36; replace q36 := eq_true q36; have HX48 := Aside0.mk (show Kd.R k52 52 w43 w.heap.size (fun k_ => k_ ≠ gb216) (.slice (some ⟨go36, 0, none⟩) x208001_1.length co36) x208001_1 from (tR HO_208001)); obtain ⟨ce48, hcl48, hM48, hcc48, hfr48⟩ := Kd.R_elem HX48.out z52 (x4_1 : Int) (of_decide_eq_true tA) (by have h_ : (x4_1 : Int) < ((x208001_1.length : Int) : Int) := of_decide_eq_true tA; first | exact h_ | (have e_ := (Kd.R_reads' HO_208001.out).1; omega) | simpa using h_); obtain rfl := k52_openM hM48; have HP48 := Kd.R_seg HX48.out (x4_1 : Int) (of_decide_eq_true tA) (by have h_ : (x4_1 : Int) < ((x208001_1.length : Int) : Int) := of_decide_eq_true tA; first | exact h_ | (have e_ := (Kd.R_reads' HO_208001.out).1; omega) | simpa using h_) (seg := [.int .i64 t213, .int .i64 t214]) (j := 0) hcl48 hcc48 (show 2 ≤ 2 from by decide) (x' := (⟨t213, t214⟩ : S52)) (k52_mkM _ _ _ (⟨t213, t214⟩ : S52) ) (fun _ hk => hk); have hx48_0 := hcc48 0 _ rfl; (try simp only [show (k52).sz = 2 from rfl, Nat.mul_one, Nat.add_zero] at hx48_0); have hf48_0 := hfr48 0; (try simp only [show (k52).sz = 2 from rfl, Nat.mul_one, Nat.add_zero] at hf48_0); have hx48_1 := hcc48 1 _ rfl; (try simp only [show (k52).sz = 2 from rfl, Nat.mul_one, Nat.add_zero] at hx48_1); have hf48_1 := hfr48 1; (try simp only [show (k52).sz = 2 from rfl, Nat.mul_one, Nat.add_zero] at hf48_1); clear hcl48 hcc48 hfr48 hM48) | ((with_reducible refine gate_store (t := 52) (p := 47) rfl ?_); refine store_event (t := 52) (p := 47) (v := ?vo_w49) (w1 := ((w43.setCell ⟨go36, (x4_1 : Int).toNat * 2, none⟩ (.int .i64 t213)).setCell ⟨go36, (x4_1 : Int).toNat * 2 + 1, none⟩ (.int .i64 t214))) ?hg ?ho ?hn ?hr ?_; (case ho => rfl); (case hg => rfl); (case hn => rfl); (case hr => first | (go_simp; done) | (go_simp; rfl)); intro w49 hw; have hg : w43.grownBy w49 (some go36) := (by rw [hw]; exact HP48.2); have hp_ : Kd.R k52 52 w49 w.heap.size (fun k_ => k_ ≠ gb216) (.slice (some ⟨go36, 0, none⟩) x208001_1.length co36) y217 := (by rw [hw, Ny217.out]; exact HP48.1); clear HP48; replace BK202 := Aside0.mk (blk_grown (g := gb202) (o := .cells #[.string (⟨#[]⟩ : ByteArray), .slice none 0 0] 71 (0, 0)) (tB BK202) hg (Kd.R_ne HO_208001.out BK202.out (by decide))); replace BK207 := Aside0.mk (blk_grown (g := gb207) (o := .cells #[.string (⟨#[101, 118, 101, 110]⟩ : ByteArray), .slice (some ⟨go36, 0, none⟩) x208001_1.length co36] 71 (0, 0)) (tB BK207) hg (Kd.R_ne HO_208001.out BK207.out (by decide))); replace HI0 := Aside0.mk (IsS179.grown (IsS179.t3 HI0 NB0_202 NB0_207 NB0_216) hg (IsS179.own_ne HI0.out HO_208001.out (by decide))); replace BK216 := Aside0.mk (blk_grown (g := gb216) (o := .cells #[.int .i64 t213, .int .i64 t214] 52 (0, 0)) (tB BK216) hg (Kd.R_away HO_208001.out (fun _ hk => hk))); replace HB := Aside0.mk ((by rw [hw]; exact below_set (below_set (HB.out) (Nat.le_trans HL.out GB36.out)) (Nat.le_trans HL.out GB36.out) : Below w0.heap.size w0 w49)); replace HK := Aside0.mk (KeepBut.trans (by repeat (first | (with_reducible first | exact HK.out | apply qks | apply qkn | apply qkd | apply qka | refine keep_far ?_ GW202.out _ | refine keep_far ?_ GW207.out _ | refine keep_far ?_ GW216.out _) | exact HK.out)) (KeepBut.of_grown hg g) (Kd.R_base2 HO_208001.out)); replace HO_208001 := Aside0.mk (hp_); clear hg hw hp_))
          go_roundg k1
          case measure => have := HK1.out; omega
          case rel => exact ⟨(wrap64 (x4_1 + 1)), (y217), (.slice (some ⟨go36, 0, none⟩) x208001_1.length co36), tq, H', ⟨by have := HK1.out; omega⟩, ⟨by (with_reducible repeat (first | apply qra | apply qrn | apply qrd)); exact Kd.R_mono HO_208001.out (fun _ hk => trivial)⟩, ⟨tB BK202⟩, ⟨tB BK207⟩, ⟨IsS179.t3 HI0 NB0_202 NB0_207 NB0_216⟩, ⟨by repeat (first | (with_reducible first | exact HK.out | apply qks | apply qkn | apply qkd | apply qka | refine keep_far ?_ GW202.out _ | refine keep_far ?_ GW207.out _ | refine keep_far ?_ GW216.out _) | exact HK.out)⟩, ⟨tH4 HB (IsS179.ge HI0.out) GE202.out GE207.out GE216.out⟩⟩
        rw [if_neg c35] at H
        exact absurd H (by simp)
      rw [if_neg c34] at H
      exact absurd H (by simp)
    rw [if_neg c32] at H
    have c32b0 : decide (x4_1 < 12) = false := decide_eq_false c32
    clear c32
    have H' := Aside0.mk H
    clear H
    go_wp2
    go_meet
    case rel => exact ⟨_, (t209), (t210), ((⟨#[101, 118, 101, 110]⟩ : ByteArray)), (x208001_1), (u208001), H', ⟨by have := HK1.out; first | omega | exact Nat.le_refl _⟩, ⟨tR HO_208001⟩, ⟨tB BK202⟩, ⟨tB BK207⟩, ⟨IsS179.t2 HI0 NB0_202 NB0_207⟩, ⟨tK2 HK GW202 GW207⟩, ⟨tH3 HB (IsS179.ge HI0.out) GE202.out GE207.out⟩⟩
  rw [if_neg c28] at H
  have c28b0 : (t208 == 1) = false := beq_eq_false_iff_ne.mpr c28
  have c28b1 : (t208 != 1) = true := bne_iff_ne.mpr c28
  by_cases c50 : t208 = 2
  · rw [if_pos c50] at H
    have c50b0 : (t208 == 2) = true := beq_iff_eq.mpr c50
    have c50b1 : (t208 != 2) = false := bne_eq_false_iff_eq.mpr c50
    clear c50
    replace H := Option.bind_eq_some_iff.mp H
    obtain ⟨⟨t218, t219, t220⟩, A510, H⟩ := H
    replace H : (if 0 ≤ (wrap64 (1 + t218)) then (if (wrap64 (1 + t218)) < (t204.length : Int) then ((spec_l00Src_pick.f s0_0 t219 t220 3).bind fun bt222 => ((spec_l02Done.f k (wrap64 ((wrap64 (((rd_T52 t204 (wrap64 (1 + t218))).f0) * 80)) + bt222.1)) (wrap64 (((rd_T52 t204 (wrap64 (1 + t218))).f1) * 80))).bind fun bt226 => (if bt226.2.2 = 0 then (spec_l04DrawOk.j1 k s0_0 bt222.2.1 bt222.2.2 t203 (t204.set ((wrap64 (1 + t218)) : Int).toNat (⟨bt226.1, bt226.2.1⟩ : S52))) else (spec_l04DrawOk.j1 k s0_0 bt222.2.1 bt222.2.2 t203 t204)))) else (none)) else (none)) = some (r1, r2, r3, r4) := H
    have A51 := Aside0.mk A510
    clear A510
    obtain ⟨ji52, hji52⟩ : ∃ j_ : Int, (wrap64 (1 + t218)) = j_ := ⟨_, rfl⟩
    replace H : (if 0 ≤ (ji52) then (if (ji52) < (t204.length : Int) then ((spec_l00Src_pick.f s0_0 t219 t220 3).bind fun bt222 => ((spec_l02Done.f k (wrap64 ((wrap64 (((rd_T52 t204 (ji52)).f0) * 80)) + bt222.1)) (wrap64 (((rd_T52 t204 (ji52)).f1) * 80))).bind fun bt226 => (if bt226.2.2 = 0 then (spec_l04DrawOk.j1 k s0_0 bt222.2.1 bt222.2.2 t203 (t204.set ((ji52) : Int).toNat (⟨bt226.1, bt226.2.1⟩ : S52))) else (spec_l04DrawOk.j1 k s0_0 bt222.2.1 bt222.2.2 t203 t204)))) else (none)) else (none)) = some (r1, r2, r3, r4) := by first | (rw [hji52] at H; exact H) | (simp only [hji52] at H ⊢; exact H)
    (try rw [hji52] at A51)
    have hji52w : (IntKind.i64.wrap (1 + t218)) = ji52 := (i64_w _).trans hji52
    by_cases c53 : 0 ≤ (ji52)
    · rw [if_pos c53] at H
      have c53b0 : decide (0 ≤ (ji52)) = true := decide_eq_true c53
      clear c53
      by_cases c54 : (ji52) < (t204.length : Int)
      · rw [if_pos c54] at H
        have c54b0 : decide ((ji52) < (t204.length : Int)) = true := decide_eq_true c54
        clear c54
        replace H := Option.bind_eq_some_iff.mp H
        obtain ⟨⟨t222, t223, t224⟩, A550, H⟩ := H
        replace H : ((spec_l02Done.f k (wrap64 ((wrap64 (((rd_T52 t204 (ji52)).f0) * 80)) + t222)) (wrap64 (((rd_T52 t204 (ji52)).f1) * 80))).bind fun bt226 => (if bt226.2.2 = 0 then (spec_l04DrawOk.j1 k s0_0 t223 t224 t203 (t204.set ((ji52) : Int).toNat (⟨bt226.1, bt226.2.1⟩ : S52))) else (spec_l04DrawOk.j1 k s0_0 t223 t224 t203 t204))) = some (r1, r2, r3, r4) := H
        have A55 := Aside0.mk A550
        clear A550
        replace H := Option.bind_eq_some_iff.mp H
        obtain ⟨⟨t226, t227, t228⟩, A560, H⟩ := H
        replace H : (if t228 = 0 then (spec_l04DrawOk.j1 k s0_0 t223 t224 t203 (t204.set ((ji52) : Int).toNat (⟨t226, t227⟩ : S52))) else (spec_l04DrawOk.j1 k s0_0 t223 t224 t203 t204)) = some (r1, r2, r3, r4) := H
        have A56 := Aside0.mk A560
        clear A560
        by_cases c57 : t228 = 0
        · rw [if_pos c57] at H
          have c57b0 : (t228 == 0) = true := beq_iff_eq.mpr c57
          have c57b1 : (t228 != 0) = false := bne_eq_false_iff_eq.mpr c57
          clear c57
          obtain ⟨y230, hy230⟩ : ∃ y_ : List (S52), y_ = (t204.set ((ji52) : Int).toNat (⟨t226, t227⟩ : S52)) := ⟨_, rfl⟩
          replace H : (spec_l04DrawOk.j1 k s0_0 t223 t224 t203 y230) = some (r1, r2, r3, r4) := by first | (rw [hy230]; with_reducible exact H) | (have H2_ := (Option.bind_some _ _).symm.trans H; rw [hy230]; with_reducible exact H2_) | (have H2_ := (Option.bind_some _ _).symm.trans H; with_reducible exact H2_) | with_reducible exact H | (rw [hy230]; exact H) | exact H
          have Ny230 := Aside0.mk hy230
          clear hy230
          have H' := Aside0.mk H
          clear H
          try go_wp2_with (first | ((with_reducible refine gate_callee (f := 113) rfl ?_); refine gL_ (some 51) rfl rfl Tryd.func113 #[.pointer (some ⟨g, 0, none⟩), .int .i64 11] rfl ?_; (with_reducible refine (spec_l00Src_pick.calls g s0_0 t209 t210 11 t218 t219 t220 w0 _ ?side1 ?side2 A51.out).mono ?_); (case side1 => exact IsS179.t2 HI0 NB0_202 NB0_207); (case side2 => exact tH3 HB (IsS179.ge HI0.out) GE202.out GE207.out); rintro e w59 ⟨rfl, hi, hb, hk⟩; refine ⟨_, rfl, ?_⟩; replace BK202 := Aside0.mk (KeepBut.blk hk (g' := gb202) (o := .cells #[.string (⟨#[]⟩ : ByteArray), .slice none 0 0] 71 (0, 0)) (tB BK202) NB202_0.out (by simp)); replace HO206 := Aside0.mk (Kd.R_mono (Kd.R_keep (IsS179.apart (show IsS179 w0 _ g s0_0 t209 t210 from IsS179.t2 HI0 NB0_202 NB0_207) (tR HO206) (by decide)) hk (fun _ h => h.2)) (fun _ h => h.1)); replace BK207 := tKB hk BK207 NB207_0.out; replace HK := Aside0.mk (KeepBut.trans (tK2 HK GW202 GW207) hk (.inl rfl)); replace HB := Aside0.mk (hb); replace HI0 := Aside0.mk (hi); (try clear hb); (try clear hb2); (try clear hk); (try clear hi)))
          replace HO206 := Aside0.mk (Kd.R_drew HO206.out)
          replace BK202 := Aside0.mk (blk_drew BK202.out)
          replace BK207 := Aside0.mk (blk_drew BK207.out)
          replace HI0 := Aside0.mk (IsS179.drew HI0.out)
          replace HK := Aside0.mk (keep_drew HK.out)
          replace HB := Aside0.mk (below_drew1 HB.out)
          have p221 : 0 ≤ ((ji52) : Int) := of_decide_eq_true tA
          have q221 : (ji52) < (t204.length : Int) := of_decide_eq_true tA
          obtain ⟨ad221, e221, hx221_0, hx221_1⟩ := at_T52 (Kd.R_reads' HO206.out).2.2 (ji52) p221 q221
          cases e221
          replace p221 := eq_true p221
          replace q221 := eq_true q221
          refine start_ (n := 11) (S := fun w' => w'.cell? ⟨gb207, 0, none⟩ = some (.string t203) ∧ w'.cell? ⟨gb207, 1, none⟩ = some (.slice (some ad221) t204.length co11) ∧ w'.cell? (ad221.add (((ji52)).toNat * 2)) = some (.int .i64 ((rd_T52 t204 (ji52)).f0)) ∧ w'.cell? ⟨(ad221.add (((ji52)).toNat * 2)).block, (ad221.add (((ji52)).toNat * 2)).off + 1, none⟩ = some (.int .i64 ((rd_T52 t204 (ji52)).f1))) (ds := []) (bq [0, 11]) (by kernel_rfl) rfl rfl ⟨(blk_cell BK207.out 0).trans rfl, (blk_cell BK207.out 1).trans rfl, hx221_0, hx221_1⟩ (fun hHeld => ?_); refine with_tabW spec_l04DrawOk.tab17 spec_l04DrawOk.bits17 (fun HT_ HW_ => ?_)
          generalize w59.drew = w60 at HO206 BK202 BK207 HI0 HK HB hx221_0 hx221_1 hHeld ⊢
          refine pV 0 (some 53) [1, 10] rfl rfl HT_ ?_
          refine pV 2 (some 55) [1, 1, 1, 8] rfl rfl HT_ ?_
          refine pV 7 (some 60) [1, 1, 1, 4, 1, 3] rfl rfl HT_ ?_
          refine pT 1 (some 54) (bq [3, 4, 1, 3]) rfl rfl HT_ HW_ hHeld ?_
          refine pV 3 (some 56) [4, 3, 1, 3] rfl rfl HT_ ?_
          refine pV 4 (some 57) [5, 2, 1, 3] rfl rfl HT_ ?_
          refine pT 5 (some 58) (bq [6, 1, 1, 3]) rfl rfl HT_ HW_ hHeld ?_
          refine pV 6 (some 59) [8, 3] rfl rfl HT_ ?_
          refine pO 8 (some 61) (bq [9, 2]) rfl rfl HT_ (fun K hK => ?_)
          refine gS_ Tryd.func113 #[.pointer (some ⟨g, 0, none⟩), .int .i64 3] rfl rfl ?_
          with_reducible refine (spec_l00Src_pick.calls g s0_0 t219 t220 3 t222 t223 t224 w0 _ ?side1 ?side2 A55.out).mono ?_
          (case side1 => exact IsS179.t2 HI0 NB0_202 NB0_207)
          (case side2 => exact tH3 HB (IsS179.ge HI0.out) GE202.out GE207.out)
          rintro e w61 ⟨rfl, hi, hb, hk⟩
          have HS2_ := keep_cell hk (hHeld.2.2.1) (by first | (rw [add_block]; exact Kd.own_blk (IsS179.own_ne HI0.out HO206.out (by decide))) | (show (Addr.add _ _).block ≠ _; rw [add_block]; exact Kd.own_blk (IsS179.own_ne HI0.out HO206.out (by decide))) | exact Kd.own_blk (IsS179.own_ne HI0.out HO206.out (by decide)))
          have HS3_ := keep_cell hk (hHeld.2.2.2) (by first | (rw [add_block]; exact Kd.own_blk (IsS179.own_ne HI0.out HO206.out (by decide))) | (show (Addr.add _ _).block ≠ _; rw [add_block]; exact Kd.own_blk (IsS179.own_ne HI0.out HO206.out (by decide))) | exact Kd.own_blk (IsS179.own_ne HI0.out HO206.out (by decide)))
          refine ⟨_, rfl, ?_⟩
          replace BK202 := Aside0.mk (KeepBut.blk hk (g' := gb202) (o := .cells #[.string (⟨#[]⟩ : ByteArray), .slice none 0 0] 71 (0, 0)) (tB BK202) NB202_0.out (by simp))
          replace HO206 := Aside0.mk (Kd.R_mono (Kd.R_keep (IsS179.apart (show IsS179 w0 _ g s0_0 t219 t220 from IsS179.t2 HI0 NB0_202 NB0_207) (tR HO206) (by decide)) hk (fun _ h => h.2)) (fun _ h => h.1))
          replace BK207 := tKB hk BK207 NB207_0.out
          replace HK := Aside0.mk (KeepBut.trans (tK2 HK GW202 GW207) hk (.inl rfl))
          replace HB := Aside0.mk (hb)
          replace HI0 := Aside0.mk (hi)
          (try clear hb)
          (try clear hb2)
          (try clear hk)
          (try clear hi)
          refine hK.out _ _ ⟨(blk_cell BK207.out 0).trans rfl, (blk_cell BK207.out 1).trans rfl, HS2_, HS3_⟩ (fun hHeld => ?_)
          clear hK K
          refine nO (some 61) ?_
          refine pV 9 (some 62) [10, 1] rfl rfl HT_ ?_
          refine pV 10 (some 9) [11] rfl rfl HT_ ?_
          refine done_ (done_of HT_.out (by kernel_rfl)) ?_
          have hnb62 := NB207_202.out
          have hnc62 := NB202_207.out
          have hnb63 := NB207_0.out
          have hnc63 := NB0_207.out
          have hcz64_0 : w61.cell? ⟨gb207, 0, none⟩ = some (.string t203) := (blk_cell BK207.out 0).trans rfl
          have hcz64_1 : w61.cell? ⟨gb207, 1, none⟩ = some (.slice (some ad221) t204.length co11) := (blk_cell BK207.out 1).trans rfl
          have hfz64_0 := blk_frozen BK207.out 0
          have hfz64_1 := blk_frozen BK207.out 1
          have p225 : 0 ≤ ((ji52) : Int) := of_decide_eq_true tA
          have q225 : (ji52) < (t204.length : Int) := of_decide_eq_true tA
          obtain ⟨ad225, e225, hx225_0, hx225_1⟩ := at_T52 (Kd.R_reads' HO206.out).2.2 (ji52) p225 q225
          obtain rfl : ad221 = ad225 := (by injection e225)
          replace p225 := eq_true p225
          replace q225 := eq_true q225
          try go_wp2_with (first | ((with_reducible refine gate_callee (f := 119) rfl ?_); refine goesL_ (some 72) rfl rfl Tryd.func119 (by kernel_rfl) rfl #[.int .i64 (wrap64 ((wrap64 (((rd_T52 t204 (ji52)).f0) * 80)) + t222)), .int .i64 (wrap64 (((rd_T52 t204 (ji52)).f1) * 80))] rfl (by (try simp only [List.map_toArray, List.map_cons, List.map_nil]); first | done | (simp only [hji52]; rfl) | rfl | (simp only [List.length_drop, List.length_take]; rfl)) ?_; (with_reducible refine (spec_l02Done.calls k (wrap64 ((wrap64 (((rd_T52 t204 (ji52)).f0) * 80)) + t222)) (wrap64 (((rd_T52 t204 (ji52)).f1) * 80)) t226 t227 t228 _ A56.out).mono ?_); rintro e w65 ⟨rfl, hb⟩; refine ⟨_, rfl, ?_⟩; replace HO206 := Aside0.mk (Kd.R_below (tR HO206) hb); replace BK202 := Aside0.mk (blk_below (g := gb202) (o := .cells #[.string (⟨#[]⟩ : ByteArray), .slice none 0 0] 71 (0, 0)) (tB BK202) hb); replace BK207 := tbB BK207 hb; replace HK := Aside0.mk (KeepBut.trans (tK2 HK GW202 GW207) (KeepBut.of_below hb g none) (.inl rfl)); replace HB := Aside0.mk (below_step (tH3 HB (IsS179.ge HI0.out) GE202.out GE207.out) hb); replace HI0 := Aside0.mk (IsS179.below (IsS179.t2 HI0 NB0_202 NB0_207) hb); (try clear hb); (try clear hb2); (try clear hk); (try clear hi)) | ((with_reducible refine gate_dst (N := 10) rfl ?_); refine box_event ?hg (N := 10) ?hd (cs := #[.int .i64 0, .int .i64 0]) (t := 52) ?hr ?_; (case hd => rfl); (case hg => rfl); (case hr => first | (go_simp; done) | (go_simp; rfl)); intro gb229 hg w66 hbox hb; replace HO206 := Aside0.mk (Kd.R_below (Kd.R_elderB (tR HO206) gb229 (Nat.le_of_eq hg.symm)) hb); replace HB := Aside0.mk (below_step (tH3 HB (IsS179.ge HI0.out) GE202.out GE207.out) hb); have BK229 := Aside0.mk (hbox); have GW229 := Aside0.mk ((by rw [hg]; exact (keep_size (w := w) (g := g) (row := none) (tK2 HK GW202 GW207)) : w.heap.size ≤ gb229)); have GE229 := Aside0.mk ((Nat.le_trans HW0.out (by rw [hg]; exact (keep_size (w := w) (g := g) (row := none) (tK2 HK GW202 GW207)) : w.heap.size ≤ gb229) : w0.heap.size ≤ gb229)); replace HK := Aside0.mk (KeepBut.trans (tK2 HK GW202 GW207) (KeepBut.of_below hb g none) (.inl rfl)); have NB202_229 := Aside0.mk ((by rw [hg]; exact Nat.ne_of_lt (blk_lt (g := gb202) (o := .cells #[.string (⟨#[]⟩ : ByteArray), .slice none 0 0] 71 (0, 0)) (tB BK202)) : gb202 ≠ gb229)); have NB229_202 := Aside0.mk ((by rw [hg]; exact Nat.ne_of_gt (blk_lt (g := gb202) (o := .cells #[.string (⟨#[]⟩ : ByteArray), .slice none 0 0] 71 (0, 0)) (tB BK202)) : gb229 ≠ gb202)); replace BK202 := Aside0.mk (blk_below (g := gb202) (o := .cells #[.string (⟨#[]⟩ : ByteArray), .slice none 0 0] 71 (0, 0)) (tB BK202) hb); have NB207_229 := Aside0.mk ((by rw [hg]; exact Nat.ne_of_lt (blk_lt (g := gb207) (o := .cells #[.string t203, .slice (some ad221) t204.length co11] 71 (0, 0)) (tB BK207)) : gb207 ≠ gb229)); have NB229_207 := Aside0.mk ((by rw [hg]; exact Nat.ne_of_gt (blk_lt (g := gb207) (o := .cells #[.string t203, .slice (some ad221) t204.length co11] 71 (0, 0)) (tB BK207)) : gb229 ≠ gb207)); replace BK207 := tbB BK207 hb; have NB0_229 := Aside0.mk ((by rw [hg]; exact Nat.ne_of_lt (IsS179.lt (show IsS179 w0 _ g s0_0 t223 t224 from IsS179.t2 HI0 NB0_202 NB0_207)) : g ≠ gb229)); have NB229_0 := Aside0.mk ((by rw [hg]; exact Nat.ne_of_gt (IsS179.lt (show IsS179 w0 _ g s0_0 t223 t224 from IsS179.t2 HI0 NB0_202 NB0_207)) : gb229 ≠ g)); replace HI0 := Aside0.mk (IsS179.below (IsS179.t2 HI0 NB0_202 NB0_207) hb); clear hb hbox hg; have hnb67 := NB229_202.out; have hnc67 := NB202_229.out; have hnb68 := NB229_207.out; have hnc68 := NB207_229.out; have hnb69 := NB229_0.out; have hnc69 := NB0_229.out; have hcz70_0 : w66.cell? ⟨gb229, 0, none⟩ = some (.int .i64 0) := (blk_cell BK229.out 0).trans rfl; have hcz70_1 : w66.cell? ⟨gb229, 1, none⟩ = some (.int .i64 0) := (blk_cell BK229.out 1).trans rfl; have hfz70_0 := blk_frozen BK229.out 0; have hfz70_1 := blk_frozen BK229.out 1) | ((with_reducible refine gate_store (t := 52) (p := 10) rfl ?_); refine store_event (t := 52) (p := 10) (v := ?vo_w71) (w1 := ((w66.setCell ⟨gb229, 0, none⟩ (.int .i64 t226)).setCell ⟨gb229, 1, none⟩ (.int .i64 t227))) ?hg ?ho ?hn ?hr ?_; (case ho => rfl); (case hg => rfl); (case hn => rfl); (case hr => first | (go_simp; done) | (go_simp; rfl)); intro w71 hw; have n0_ : Aside0 (Kd.R k52 52 w71 w.heap.size (fun k_ => k_ ≠ gb229) (.slice (some ad221) t204.length co11) t204) := ⟨(by rw [hw]; exact (by (with_reducible repeat (first | apply qra | apply qrn | apply qrd)); exact Kd.R_mono (Kd.R_far (p := ⟨gb229, 1, none⟩) (Kd.R_far (p := ⟨gb229, 0, none⟩) (Kd.R_mono HO206.out (fun k_ hk => (⟨hk, hk.2⟩ : _ ∧ k_ ≠ gb229))) (fun _ hk => hk.2) (.int .i64 t226)) (fun _ hk => hk.2) (.int .i64 t227)) (fun _ hk => hk.1.2)))⟩; have n1_ : Aside0 (w71.heap[gb202]? = some (.cells #[.string (⟨#[]⟩ : ByteArray), .slice none 0 0] 71 (0, 0))) := ⟨(by rw [hw]; exact (by (with_reducible repeat (first | refine blk_drewN ?_ _ | refine blk_drew ?_ | refine blk_alloc ?_ _)); refine blk_far ?_ NB202_229.out _; (with_reducible repeat (first | refine blk_drewN ?_ _ | refine blk_drew ?_ | refine blk_alloc ?_ _)); refine blk_far ?_ NB202_229.out _; (with_reducible repeat (first | refine blk_drewN ?_ _ | refine blk_drew ?_ | refine blk_alloc ?_ _)); exact BK202.out))⟩; have n2_ : Aside0 (w71.heap[gb207]? = some (.cells #[.string t203, .slice (some ad221) t204.length co11] 71 (0, 0))) := ⟨(by rw [hw]; exact (by (with_reducible repeat (first | refine blk_drewN ?_ _ | refine blk_drew ?_ | refine blk_alloc ?_ _)); refine blk_far ?_ NB207_229.out _; (with_reducible repeat (first | refine blk_drewN ?_ _ | refine blk_drew ?_ | refine blk_alloc ?_ _)); refine blk_far ?_ NB207_229.out _; (with_reducible repeat (first | refine blk_drewN ?_ _ | refine blk_drew ?_ | refine blk_alloc ?_ _)); exact BK207.out))⟩; have n3_ : Aside0 (w71.heap[gb229]? = some (.cells #[.int .i64 t226, .int .i64 t227] 52 (0, 0))) := ⟨(by rw [hw]; exact (by (with_reducible repeat (first | refine blk_drewN ?_ _ | refine blk_drew ?_ | refine blk_alloc ?_ _)); refine blk_put (cs := #[.int .i64 t226, .int .i64 0]) ?_ 1 _ rfl; (with_reducible repeat (first | refine blk_drewN ?_ _ | refine blk_drew ?_ | refine blk_alloc ?_ _)); refine blk_put (cs := #[.int .i64 0, .int .i64 0]) ?_ 0 _ rfl; (with_reducible repeat (first | refine blk_drewN ?_ _ | refine blk_drew ?_ | refine blk_alloc ?_ _)); exact BK229.out))⟩; have n4_ : Aside0 (IsS179 w0 w71 g s0_0 t223 t224) := ⟨(by rw [hw]; exact (IsS179.t3 HI0 NB0_202 NB0_207 NB0_229))⟩; have n5_ : Aside0 (KeepBut w w71 g none) := ⟨(by rw [hw]; exact (by repeat (first | (with_reducible first | exact HK.out | apply qks | apply qkn | apply qkd | apply qka | refine keep_far ?_ GW202.out _ | refine keep_far ?_ GW207.out _ | refine keep_far ?_ GW229.out _) | exact HK.out)))⟩; have n6_ : Aside0 (Below w0.heap.size w0 w71) := ⟨(by rw [hw]; exact (tH4 HB (IsS179.ge HI0.out) GE202.out GE207.out GE229.out))⟩; clear hw; clear HO206; clear BK202; clear BK207; clear BK229; clear HI0; clear HK; clear HB; have HO206 := n0_; have BK202 := n1_; have BK207 := n2_; have BK229 := n3_; have HI0 := n4_; have HK := n5_; have HB := n6_; clear n0_ n1_ n2_ n3_ n4_ n5_ n6_; have hcz72_0 : w71.cell? ⟨gb207, 0, none⟩ = some (.string t203) := (blk_cell BK207.out 0).trans rfl; have hcz72_1 : w71.cell? ⟨gb207, 1, none⟩ = some (.slice (some ad221) t204.length co11) := (blk_cell BK207.out 1).trans rfl; have hfz72_0 := blk_frozen BK207.out 0; have hfz72_1 := blk_frozen BK207.out 1; have hcz73_0 : w71.cell? ⟨gb229, 0, none⟩ = some (.int .i64 t226) := (blk_cell BK229.out 0).trans rfl; have hcz73_1 : w71.cell? ⟨gb229, 1, none⟩ = some (.int .i64 t227) := (blk_cell BK229.out 1).trans rfl; have hfz73_0 := blk_frozen BK229.out 0; have hfz73_1 := blk_frozen BK229.out 1; have p58 : 0 ≤ ((ji52) : Int) := of_decide_eq_true tA; have q58 : ((ji52) : Int) < ((t204.length : Int) : Int) := of_decide_eq_true tA; obtain ⟨go58, co58, eo58, gb58, gl58, cl58, HG58⟩ := Kd.R_form HO206.out (by omega); (first | cases eo58 | (injection eo58 with ea_ en_ ec_; (first | subst ea_ | (injection ea_ with ea_; subst ea_)); subst ec_; clear en_)); have GB58 := Aside0.mk gb58; have GG58 := Aside0.mk HG58; clear gb58 gl58 HG58; (first | simp only [add_plain] at hx221_0 | skip); (first | simp only [add_plain] at hx221_1 | skip); (first | simp only [add_plain] at hx225_0 | skip); (first | simp only [add_plain] at hx225_1 | skip); obtain ⟨ce58, hcl58, hM58, hcc58, hfr58⟩ := Kd.R_elem HO206.out z52 ((ji52) : Int) p58 q58; obtain rfl := k52_openM hM58; have hx58_0 : w71.cell? ⟨go58, ((ji52) : Int).toNat * 2, none⟩ = some (.int .i64 ((rd_T52 t204 (ji52)).f0)) := hcc58 0 _ rfl; have hx58_1 : w71.cell? ⟨go58, ((ji52) : Int).toNat * 2 + 1, none⟩ = some (.int .i64 ((rd_T52 t204 (ji52)).f1)) := hcc58 1 _ rfl; have hf58_0 : w71.frozen? ⟨go58, ((ji52) : Int).toNat * 2, none⟩ = false := hfr58 0; have hf58_1 : w71.frozen? ⟨go58, ((ji52) : Int).toNat * 2 + 1, none⟩ = false := hfr58 1; clear hcl58 hcc58 hfr58 hM58; replace p58 := eq_true p58; replace q58 := eq_true q58; have HX74 := Aside0.mk (show Kd.R k52 52 w71 w.heap.size (fun k_ => k_ ≠ gb229) (.slice (some ⟨go58, 0, none⟩) t204.length co11) t204 from (tR HO206)); obtain ⟨ce74, hcl74, hM74, hcc74, hfr74⟩ := Kd.R_elem HX74.out z52 ((ji52) : Int) (of_decide_eq_true tA) (by have h_ : ((ji52) : Int) < ((t204.length : Int) : Int) := of_decide_eq_true tA; first | exact h_ | (have e_ := (Kd.R_reads' HO206.out).1; omega) | simpa using h_); obtain rfl := k52_openM hM74; have HP74 := Kd.R_seg HX74.out ((ji52) : Int) (of_decide_eq_true tA) (by have h_ : ((ji52) : Int) < ((t204.length : Int) : Int) := of_decide_eq_true tA; first | exact h_ | (have e_ := (Kd.R_reads' HO206.out).1; omega) | simpa using h_) (seg := [.int .i64 t226, .int .i64 t227]) (j := 0) hcl74 hcc74 (show 2 ≤ 2 from by decide) (x' := (⟨t226, t227⟩ : S52)) (k52_mkM _ _ _ (⟨t226, t227⟩ : S52) ) (fun _ hk => hk); have hx74_0 := hcc74 0 _ rfl; (try simp only [show (k52).sz = 2 from rfl, Nat.mul_one, Nat.add_zero] at hx74_0); have hf74_0 := hfr74 0; (try simp only [show (k52).sz = 2 from rfl, Nat.mul_one, Nat.add_zero] at hf74_0); have hx74_1 := hcc74 1 _ rfl; (try simp only [show (k52).sz = 2 from rfl, Nat.mul_one, Nat.add_zero] at hx74_1); have hf74_1 := hfr74 1; (try simp only [show (k52).sz = 2 from rfl, Nat.mul_one, Nat.add_zero] at hf74_1); clear hcl74 hcc74 hfr74 hM74) | ((with_reducible refine gate_store (t := 52) (p := 81) rfl ?_); refine store_event (t := 52) (p := 81) (v := ?vo_w75) (w1 := ((w71.setCell ⟨go58, ((ji52) : Int).toNat * 2, none⟩ (.int .i64 t226)).setCell ⟨go58, ((ji52) : Int).toNat * 2 + 1, none⟩ (.int .i64 t227))) ?hg ?ho ?hn ?hr ?_; (case ho => rfl); (case hg => rfl); (case hn => rfl); (case hr => first | (go_simp; done) | (go_simp; rfl)); intro w75 hw; have hg : w71.grownBy w75 (some go58) := (by rw [hw]; exact HP74.2); have hp_ : Kd.R k52 52 w75 w.heap.size (fun k_ => k_ ≠ gb229) (.slice (some ⟨go58, 0, none⟩) t204.length co11) y230 := (by rw [hw, Ny230.out]; exact HP74.1); clear HP74; replace HI0 := Aside0.mk (IsS179.grown (IsS179.t3 HI0 NB0_202 NB0_207 NB0_229) hg (IsS179.own_ne HI0.out HO206.out (by decide))); replace BK202 := Aside0.mk (blk_grown (g := gb202) (o := .cells #[.string (⟨#[]⟩ : ByteArray), .slice none 0 0] 71 (0, 0)) (tB BK202) hg (Kd.R_ne HO206.out BK202.out (by decide))); replace BK207 := Aside0.mk (blk_grown (g := gb207) (o := .cells #[.string t203, .slice (some ⟨go58, 0, none⟩) t204.length co11] 71 (0, 0)) (tB BK207) hg (Kd.R_ne HO206.out BK207.out (by decide))); replace BK229 := Aside0.mk (blk_grown (g := gb229) (o := .cells #[.int .i64 t226, .int .i64 t227] 52 (0, 0)) (tB BK229) hg (Kd.R_away HO206.out (fun _ hk => hk))); replace HB := Aside0.mk ((by rw [hw]; exact below_set (below_set (HB.out) (Nat.le_trans HL.out GB58.out)) (Nat.le_trans HL.out GB58.out) : Below w0.heap.size w0 w75)); replace HK := Aside0.mk (KeepBut.trans (by repeat (first | (with_reducible first | exact HK.out | apply qks | apply qkn | apply qkd | apply qka | refine keep_far ?_ GW202.out _ | refine keep_far ?_ GW207.out _ | refine keep_far ?_ GW229.out _) | exact HK.out)) (KeepBut.of_grown hg g) (Kd.R_base2 HO206.out)); replace HO206 := Aside0.mk (hp_); clear hg hw hp_))
          go_meet
          case rel => exact ⟨_, (t223), (t224), (t203), (y230), (.slice (some ⟨go58, 0, none⟩) t204.length co11), H', ⟨by first | omega | exact Nat.le_refl _⟩, ⟨by (with_reducible repeat (first | apply qra | apply qrn | apply qrd)); exact Kd.R_mono HO206.out (fun _ hk => trivial)⟩, ⟨tB BK202⟩, ⟨tB BK207⟩, ⟨IsS179.t3 HI0 NB0_202 NB0_207 NB0_229⟩, ⟨by repeat (first | (with_reducible first | exact HK.out | apply qks | apply qkn | apply qkd | apply qka | refine keep_far ?_ GW202.out _ | refine keep_far ?_ GW207.out _ | refine keep_far ?_ GW229.out _) | exact HK.out)⟩, ⟨tH4 HB (IsS179.ge HI0.out) GE202.out GE207.out GE229.out⟩⟩
        rw [if_neg c57] at H
        have c57b0 : (t228 == 0) = false := beq_eq_false_iff_ne.mpr c57
        have c57b1 : (t228 != 0) = true := bne_iff_ne.mpr c57
        have H' := Aside0.mk H
        clear H
        try go_wp2_with (first | ((with_reducible refine gate_callee (f := 113) rfl ?_); refine gL_ (some 51) rfl rfl Tryd.func113 #[.pointer (some ⟨g, 0, none⟩), .int .i64 11] rfl ?_; (with_reducible refine (spec_l00Src_pick.calls g s0_0 t209 t210 11 t218 t219 t220 w0 _ ?side1 ?side2 A51.out).mono ?_); (case side1 => exact IsS179.t2 HI0 NB0_202 NB0_207); (case side2 => exact tH3 HB (IsS179.ge HI0.out) GE202.out GE207.out); rintro e w76 ⟨rfl, hi, hb, hk⟩; refine ⟨_, rfl, ?_⟩; replace BK202 := Aside0.mk (KeepBut.blk hk (g' := gb202) (o := .cells #[.string (⟨#[]⟩ : ByteArray), .slice none 0 0] 71 (0, 0)) (tB BK202) NB202_0.out (by simp)); replace HO206 := Aside0.mk (Kd.R_mono (Kd.R_keep (IsS179.apart (show IsS179 w0 _ g s0_0 t209 t210 from IsS179.t2 HI0 NB0_202 NB0_207) (tR HO206) (by decide)) hk (fun _ h => h.2)) (fun _ h => h.1)); replace BK207 := tKB hk BK207 NB207_0.out; replace HK := Aside0.mk (KeepBut.trans (tK2 HK GW202 GW207) hk (.inl rfl)); replace HB := Aside0.mk (hb); replace HI0 := Aside0.mk (hi); (try clear hb); (try clear hb2); (try clear hk); (try clear hi)))
        replace HO206 := Aside0.mk (Kd.R_drew HO206.out)
        replace BK202 := Aside0.mk (blk_drew BK202.out)
        replace BK207 := Aside0.mk (blk_drew BK207.out)
        replace HI0 := Aside0.mk (IsS179.drew HI0.out)
        replace HK := Aside0.mk (keep_drew HK.out)
        replace HB := Aside0.mk (below_drew1 HB.out)
        have p221 : 0 ≤ ((ji52) : Int) := of_decide_eq_true tA
        have q221 : (ji52) < (t204.length : Int) := of_decide_eq_true tA
        obtain ⟨ad221, e221, hx221_0, hx221_1⟩ := at_T52 (Kd.R_reads' HO206.out).2.2 (ji52) p221 q221
        cases e221
        replace p221 := eq_true p221
        replace q221 := eq_true q221
        refine start_ (n := 11) (S := fun w' => w'.cell? ⟨gb207, 0, none⟩ = some (.string t203) ∧ w'.cell? ⟨gb207, 1, none⟩ = some (.slice (some ad221) t204.length co11) ∧ w'.cell? (ad221.add (((ji52)).toNat * 2)) = some (.int .i64 ((rd_T52 t204 (ji52)).f0)) ∧ w'.cell? ⟨(ad221.add (((ji52)).toNat * 2)).block, (ad221.add (((ji52)).toNat * 2)).off + 1, none⟩ = some (.int .i64 ((rd_T52 t204 (ji52)).f1))) (ds := []) (bq [0, 11]) (by kernel_rfl) rfl rfl ⟨(blk_cell BK207.out 0).trans rfl, (blk_cell BK207.out 1).trans rfl, hx221_0, hx221_1⟩ (fun hHeld => ?_); refine with_tabW spec_l04DrawOk.tab17 spec_l04DrawOk.bits17 (fun HT_ HW_ => ?_)
        generalize w76.drew = w77 at HO206 BK202 BK207 HI0 HK HB hx221_0 hx221_1 hHeld ⊢
        refine pV 0 (some 53) [1, 10] rfl rfl HT_ ?_
        refine pV 2 (some 55) [1, 1, 1, 8] rfl rfl HT_ ?_
        refine pV 7 (some 60) [1, 1, 1, 4, 1, 3] rfl rfl HT_ ?_
        refine pT 1 (some 54) (bq [3, 4, 1, 3]) rfl rfl HT_ HW_ hHeld ?_
        refine pV 3 (some 56) [4, 3, 1, 3] rfl rfl HT_ ?_
        refine pV 4 (some 57) [5, 2, 1, 3] rfl rfl HT_ ?_
        refine pT 5 (some 58) (bq [6, 1, 1, 3]) rfl rfl HT_ HW_ hHeld ?_
        refine pV 6 (some 59) [8, 3] rfl rfl HT_ ?_
        refine pO 8 (some 61) (bq [9, 2]) rfl rfl HT_ (fun K hK => ?_)
        refine gS_ Tryd.func113 #[.pointer (some ⟨g, 0, none⟩), .int .i64 3] rfl rfl ?_
        with_reducible refine (spec_l00Src_pick.calls g s0_0 t219 t220 3 t222 t223 t224 w0 _ ?side1 ?side2 A55.out).mono ?_
        (case side1 => exact IsS179.t2 HI0 NB0_202 NB0_207)
        (case side2 => exact tH3 HB (IsS179.ge HI0.out) GE202.out GE207.out)
        rintro e w78 ⟨rfl, hi, hb, hk⟩
        have HS2_ := keep_cell hk (hHeld.2.2.1) (by first | (rw [add_block]; exact Kd.own_blk (IsS179.own_ne HI0.out HO206.out (by decide))) | (show (Addr.add _ _).block ≠ _; rw [add_block]; exact Kd.own_blk (IsS179.own_ne HI0.out HO206.out (by decide))) | exact Kd.own_blk (IsS179.own_ne HI0.out HO206.out (by decide)))
        have HS3_ := keep_cell hk (hHeld.2.2.2) (by first | (rw [add_block]; exact Kd.own_blk (IsS179.own_ne HI0.out HO206.out (by decide))) | (show (Addr.add _ _).block ≠ _; rw [add_block]; exact Kd.own_blk (IsS179.own_ne HI0.out HO206.out (by decide))) | exact Kd.own_blk (IsS179.own_ne HI0.out HO206.out (by decide)))
        refine ⟨_, rfl, ?_⟩
        replace BK202 := Aside0.mk (KeepBut.blk hk (g' := gb202) (o := .cells #[.string (⟨#[]⟩ : ByteArray), .slice none 0 0] 71 (0, 0)) (tB BK202) NB202_0.out (by simp))
        replace HO206 := Aside0.mk (Kd.R_mono (Kd.R_keep (IsS179.apart (show IsS179 w0 _ g s0_0 t219 t220 from IsS179.t2 HI0 NB0_202 NB0_207) (tR HO206) (by decide)) hk (fun _ h => h.2)) (fun _ h => h.1))
        replace BK207 := tKB hk BK207 NB207_0.out
        replace HK := Aside0.mk (KeepBut.trans (tK2 HK GW202 GW207) hk (.inl rfl))
        replace HB := Aside0.mk (hb)
        replace HI0 := Aside0.mk (hi)
        (try clear hb)
        (try clear hb2)
        (try clear hk)
        (try clear hi)
        refine hK.out _ _ ⟨(blk_cell BK207.out 0).trans rfl, (blk_cell BK207.out 1).trans rfl, HS2_, HS3_⟩ (fun hHeld => ?_)
        clear hK K
        refine nO (some 61) ?_
        refine pV 9 (some 62) [10, 1] rfl rfl HT_ ?_
        refine pV 10 (some 9) [11] rfl rfl HT_ ?_
        refine done_ (done_of HT_.out (by kernel_rfl)) ?_
        have hnb79 := NB207_202.out
        have hnc79 := NB202_207.out
        have hnb80 := NB207_0.out
        have hnc80 := NB0_207.out
        have hcz81_0 : w78.cell? ⟨gb207, 0, none⟩ = some (.string t203) := (blk_cell BK207.out 0).trans rfl
        have hcz81_1 : w78.cell? ⟨gb207, 1, none⟩ = some (.slice (some ad221) t204.length co11) := (blk_cell BK207.out 1).trans rfl
        have hfz81_0 := blk_frozen BK207.out 0
        have hfz81_1 := blk_frozen BK207.out 1
        have p225 : 0 ≤ ((ji52) : Int) := of_decide_eq_true tA
        have q225 : (ji52) < (t204.length : Int) := of_decide_eq_true tA
        obtain ⟨ad225, e225, hx225_0, hx225_1⟩ := at_T52 (Kd.R_reads' HO206.out).2.2 (ji52) p225 q225
        obtain rfl : ad221 = ad225 := (by injection e225)
        replace p225 := eq_true p225
        replace q225 := eq_true q225
        try go_wp2_with (first | ((with_reducible refine gate_callee (f := 119) rfl ?_); refine goesL_ (some 72) rfl rfl Tryd.func119 (by kernel_rfl) rfl #[.int .i64 (wrap64 ((wrap64 (((rd_T52 t204 (ji52)).f0) * 80)) + t222)), .int .i64 (wrap64 (((rd_T52 t204 (ji52)).f1) * 80))] rfl (by (try simp only [List.map_toArray, List.map_cons, List.map_nil]); first | done | (simp only [hji52]; rfl) | rfl | (simp only [List.length_drop, List.length_take]; rfl)) ?_; (with_reducible refine (spec_l02Done.calls k (wrap64 ((wrap64 (((rd_T52 t204 (ji52)).f0) * 80)) + t222)) (wrap64 (((rd_T52 t204 (ji52)).f1) * 80)) t226 t227 t228 _ A56.out).mono ?_); rintro e w82 ⟨rfl, hb⟩; refine ⟨_, rfl, ?_⟩; replace HO206 := Aside0.mk (Kd.R_below (tR HO206) hb); replace BK202 := Aside0.mk (blk_below (g := gb202) (o := .cells #[.string (⟨#[]⟩ : ByteArray), .slice none 0 0] 71 (0, 0)) (tB BK202) hb); replace BK207 := tbB BK207 hb; replace HK := Aside0.mk (KeepBut.trans (tK2 HK GW202 GW207) (KeepBut.of_below hb g none) (.inl rfl)); replace HB := Aside0.mk (below_step (tH3 HB (IsS179.ge HI0.out) GE202.out GE207.out) hb); replace HI0 := Aside0.mk (IsS179.below (IsS179.t2 HI0 NB0_202 NB0_207) hb); (try clear hb); (try clear hb2); (try clear hk); (try clear hi)) | ((with_reducible refine gate_dst (N := 10) rfl ?_); refine box_event ?hg (N := 10) ?hd (cs := #[.int .i64 0, .int .i64 0]) (t := 52) ?hr ?_; (case hd => rfl); (case hg => rfl); (case hr => first | (go_simp; done) | (go_simp; rfl)); intro gb229 hg w83 hbox hb; replace HO206 := Aside0.mk (Kd.R_below (Kd.R_elderB (tR HO206) gb229 (Nat.le_of_eq hg.symm)) hb); replace HB := Aside0.mk (below_step (tH3 HB (IsS179.ge HI0.out) GE202.out GE207.out) hb); have BK229 := Aside0.mk (hbox); have GW229 := Aside0.mk ((by rw [hg]; exact (keep_size (w := w) (g := g) (row := none) (tK2 HK GW202 GW207)) : w.heap.size ≤ gb229)); have GE229 := Aside0.mk ((Nat.le_trans HW0.out (by rw [hg]; exact (keep_size (w := w) (g := g) (row := none) (tK2 HK GW202 GW207)) : w.heap.size ≤ gb229) : w0.heap.size ≤ gb229)); replace HK := Aside0.mk (KeepBut.trans (tK2 HK GW202 GW207) (KeepBut.of_below hb g none) (.inl rfl)); have NB202_229 := Aside0.mk ((by rw [hg]; exact Nat.ne_of_lt (blk_lt (g := gb202) (o := .cells #[.string (⟨#[]⟩ : ByteArray), .slice none 0 0] 71 (0, 0)) (tB BK202)) : gb202 ≠ gb229)); have NB229_202 := Aside0.mk ((by rw [hg]; exact Nat.ne_of_gt (blk_lt (g := gb202) (o := .cells #[.string (⟨#[]⟩ : ByteArray), .slice none 0 0] 71 (0, 0)) (tB BK202)) : gb229 ≠ gb202)); replace BK202 := Aside0.mk (blk_below (g := gb202) (o := .cells #[.string (⟨#[]⟩ : ByteArray), .slice none 0 0] 71 (0, 0)) (tB BK202) hb); have NB207_229 := Aside0.mk ((by rw [hg]; exact Nat.ne_of_lt (blk_lt (g := gb207) (o := .cells #[.string t203, .slice (some ad221) t204.length co11] 71 (0, 0)) (tB BK207)) : gb207 ≠ gb229)); have NB229_207 := Aside0.mk ((by rw [hg]; exact Nat.ne_of_gt (blk_lt (g := gb207) (o := .cells #[.string t203, .slice (some ad221) t204.length co11] 71 (0, 0)) (tB BK207)) : gb229 ≠ gb207)); replace BK207 := tbB BK207 hb; have NB0_229 := Aside0.mk ((by rw [hg]; exact Nat.ne_of_lt (IsS179.lt (show IsS179 w0 _ g s0_0 t223 t224 from IsS179.t2 HI0 NB0_202 NB0_207)) : g ≠ gb229)); have NB229_0 := Aside0.mk ((by rw [hg]; exact Nat.ne_of_gt (IsS179.lt (show IsS179 w0 _ g s0_0 t223 t224 from IsS179.t2 HI0 NB0_202 NB0_207)) : gb229 ≠ g)); replace HI0 := Aside0.mk (IsS179.below (IsS179.t2 HI0 NB0_202 NB0_207) hb); clear hb hbox hg; have hnb84 := NB229_202.out; have hnc84 := NB202_229.out; have hnb85 := NB229_207.out; have hnc85 := NB207_229.out; have hnb86 := NB229_0.out; have hnc86 := NB0_229.out; have hcz87_0 : w83.cell? ⟨gb229, 0, none⟩ = some (.int .i64 0) := (blk_cell BK229.out 0).trans rfl; have hcz87_1 : w83.cell? ⟨gb229, 1, none⟩ = some (.int .i64 0) := (blk_cell BK229.out 1).trans rfl; have hfz87_0 := blk_frozen BK229.out 0; have hfz87_1 := blk_frozen BK229.out 1))
        go_meet
        case rel => exact ⟨_, (t223), (t224), (t203), (t204), (.slice (some ad221) t204.length co11), H', ⟨by first | omega | exact Nat.le_refl _⟩, ⟨by (with_reducible repeat (first | apply qra | apply qrn | apply qrd)); exact Kd.R_mono (Kd.R_far (p := ⟨gb229, 1, none⟩) (Kd.R_far (p := ⟨gb229, 0, none⟩) (Kd.R_mono HO206.out (fun k_ hk => (⟨hk, hk.2⟩ : _ ∧ k_ ≠ gb229))) (fun _ hk => hk.2) (.int .i64 t226)) (fun _ hk => hk.2) (.int .i64 t227)) (fun _ hk => trivial)⟩, ⟨by (with_reducible repeat (first | refine blk_drewN ?_ _ | refine blk_drew ?_ | refine blk_alloc ?_ _)); refine blk_far ?_ NB202_229.out _; (with_reducible repeat (first | refine blk_drewN ?_ _ | refine blk_drew ?_ | refine blk_alloc ?_ _)); refine blk_far ?_ NB202_229.out _; (with_reducible repeat (first | refine blk_drewN ?_ _ | refine blk_drew ?_ | refine blk_alloc ?_ _)); exact BK202.out⟩, ⟨by (with_reducible repeat (first | refine blk_drewN ?_ _ | refine blk_drew ?_ | refine blk_alloc ?_ _)); refine blk_far ?_ NB207_229.out _; (with_reducible repeat (first | refine blk_drewN ?_ _ | refine blk_drew ?_ | refine blk_alloc ?_ _)); refine blk_far ?_ NB207_229.out _; (with_reducible repeat (first | refine blk_drewN ?_ _ | refine blk_drew ?_ | refine blk_alloc ?_ _)); exact BK207.out⟩, ⟨IsS179.t3 HI0 NB0_202 NB0_207 NB0_229⟩, ⟨by repeat (first | (with_reducible first | exact HK.out | apply qks | apply qkn | apply qkd | apply qka | refine keep_far ?_ GW202.out _ | refine keep_far ?_ GW207.out _ | refine keep_far ?_ GW229.out _) | exact HK.out)⟩, ⟨tH4 HB (IsS179.ge HI0.out) GE202.out GE207.out GE229.out⟩⟩
      rw [if_neg c54] at H
      exact absurd H (by simp)
    rw [if_neg c53] at H
    exact absurd H (by simp)
  rw [if_neg c50] at H
  have c50b0 : (t208 == 2) = false := beq_eq_false_iff_ne.mpr c50
  have c50b1 : (t208 != 2) = true := bne_iff_ne.mpr c50
  have H' := Aside0.mk H
  clear H
  go_wp2
  go_meet
  case rel => exact ⟨_, (t209), (t210), (t203), (t204), (.slice Ao11 t204.length co11), H', ⟨by first | omega | exact Nat.le_refl _⟩, ⟨tR HO206⟩, ⟨tB BK202⟩, ⟨tB BK207⟩, ⟨IsS179.t2 HI0 NB0_202 NB0_207⟩, ⟨tK2 HK GW202 GW207⟩, ⟨tH3 HB (IsS179.ge HI0.out) GE202.out GE207.out⟩⟩
 case rest =>
 clear HC4
 try clear c1
 try clear p1
 try clear q1
 try clear hx1
 try clear qi1
 try clear hf1
 try clear c2
 try clear p2
 try clear q2
 try clear hx2
 try clear hf2
 try clear c3
 try clear p3
 try clear q3
 try clear hx3
 try clear hf3
 try clear c4
 try clear hx4
 try clear hf4
 try clear c5
 try clear p5
 try clear q5
 try clear hx5
 try clear hf5
 try clear c6
 try clear p6
 try clear c7
 try clear hx7
 try clear hf7
 try clear c8
 try clear c9
 try clear c11
 try clear c13
 try clear c13b0
 try clear c13b1
 try clear c14
 try clear c14b0
 try clear c14b1
 try clear c15
 try clear p15
 try clear q15
 try clear hx15
 try clear qi15
 try clear hf15
 try clear c16
 try clear c16b0
 try clear c16b1
 try clear c17
 try clear p17
 try clear q17
 try clear hx17
 try clear qi17
 try clear hf17
 try clear c18
 try clear c19
 try clear c20
 try clear p22
 try clear q22
 try clear hx22
 try clear c23
 try clear hx23
 try clear hf23
 try clear c26
 try clear hx26
 try clear hf26
 try clear c28
 try clear c28b0
 try clear c28b1
 try clear c29
 try clear c30
 try clear c32
 try clear c32b0
 try clear c34
 try clear c34b0
 try clear c35
 try clear c35b0
 try clear c36
 try clear p36
 try clear q36
 try clear hx36
 try clear hf36
 try clear c39
 try clear c40
 try clear c41
 try clear c44
 try clear c45
 try clear c48
 try clear hx48
 try clear hf48
 try clear c50
 try clear c50b0
 try clear c50b1
 try clear c53
 try clear c53b0
 try clear c54
 try clear c54b0
 try clear c57
 try clear c57b0
 try clear c57b1
 try clear c58
 try clear p58
 try clear q58
 try clear hx58
 try clear hf58
 try clear c62
 try clear c63
 try clear p64
 try clear c67
 try clear c68
 try clear c69
 try clear c74
 try clear hx74
 try clear hf74
 try clear c79
 try clear c80
 try clear c84
 try clear c85
 try clear c86
 try clear hcz10_0 hcz10_1
 try clear hcz20_0 hcz20_1
 try clear hcz22_0 hcz22_1
 try clear hcz25_0 hcz25_1
 try clear hcz31_0 hcz31_1
 try clear hcz42_0 hcz42_1
 try clear hcz46_0 hcz46_1
 try clear hcz47_0 hcz47_1
 try clear hcz64_0 hcz64_1
 try clear hcz70_0 hcz70_1
 try clear hcz72_0 hcz72_1
 try clear hcz73_0 hcz73_1
 try clear hcz81_0 hcz81_1
 try clear hcz87_0 hcz87_1
 try clear hfz10_0 hfz10_1
 try clear hfz20_0 hfz20_1
 try clear hfz22_0 hfz22_1
 try clear hfz25_0 hfz25_1
 try clear hfz31_0 hfz31_1
 try clear hfz42_0 hfz42_1
 try clear hfz46_0 hfz46_1
 try clear hfz47_0 hfz47_1
 try clear hfz64_0 hfz64_1
 try clear hfz70_0 hfz70_1
 try clear hfz72_0 hfz72_1
 try clear hfz73_0 hfz73_1
 try clear hfz81_0 hfz81_1
 try clear hfz87_0 hfz87_1
 try clear hx15_0
 try clear hx15_1
 try clear hx17_0
 try clear hx17_1
 try clear hx221_0
 try clear hx221_1
 try clear hx225_0
 try clear hx225_1
 try clear hx23_0
 try clear hx23_1
 try clear hx26_0
 try clear hx26_1
 try clear hx36_0
 try clear hx36_1
 try clear hx48_0
 try clear hx48_1
 try clear hx58_0
 try clear hx58_1
 try clear hx74_0
 try clear hx74_1
 try clear p1
 try clear p15
 try clear p17
 try clear p2
 try clear p221
 try clear p225
 try clear p36
 try clear p58
 try clear p6
 try clear q1
 try clear q15
 try clear q17
 try clear q221
 try clear q225
 try clear q36
 try clear q58
 obtain ⟨kq, x1001_3, x1002_3, x208000_3, x208001_3, u208001, HA, HJ3, HO_208001, BK202, BK207, HI0, HK, HB⟩ := hcut
 cases kq with
 | zero => exact absurd HA.out (by simp [spec_l04DrawOk.j1])
 | succ kj3 =>
 have H := HA.out
 clear HA
 simp only [spec_l04DrawOk.j1] at H
 replace H := Option.bind_eq_some_iff.mp H
 obtain ⟨t231, A880, H⟩ := H
 replace H : (if t231 = true then (some (x208000_3, x208001_3, x1001_3, x1002_3)) else ((spec_l04Just.f kj3).bind fun bt232 => (some (bt232.1, bt232.2, x1001_3, x1002_3)))) = some (r1, r2, r3, r4) := H
 have A88 := Aside0.mk A880
 clear A880
 by_cases c89 : t231 = true
 · subst c89
   have H1 : (some (x208000_3, x208001_3, x1001_3, x1002_3)) = some (r1, r2, r3, r4) := by rw [if_pos rfl] at H; exact H
   clear H
   have H := H1
   clear H1
   simp only [Option.some.injEq, Prod.mk.injEq] at H
   obtain ⟨rfl, rfl, rfl, rfl⟩ := H
   obtain ⟨Ao90, co90, eo90⟩ := Kd.R_slice HO_208001.out
   subst eo90
   go_wp2_with (first | ((with_reducible refine gate_callee (f := 206) rfl ?_); refine gL_ (some 82) rfl rfl Tryd.func206 #[.pointer (some ⟨gb207, 0, none⟩)] rfl ?_; (with_reducible refine (spec_l04Ok.calls kj3 _ [(⟨x208000_3, x208001_3⟩ : S71)] true _ ?side1 ?side2 A88.out).mono ?_); (case side1 => exact Kd.C_box (t := 71) (k71_mk _ _ (by exact (Kd.R_reads' HO_208001.out).2.1) (by exact tC (Kd.R_reads' HO_208001.out).2.2)) (tB BK207)); (case side2 => exact Nat.one_pos); rintro e w91 ⟨rfl, hb⟩; refine ⟨_, rfl, ?_⟩; replace HO_208001 := Aside0.mk (Kd.R_below (tR HO_208001) hb); replace BK202 := Aside0.mk (blk_below (g := gb202) (o := .cells #[.string (⟨#[]⟩ : ByteArray), .slice none 0 0] 71 (0, 0)) (tB BK202) hb); replace BK207 := tbB BK207 hb; replace HK := Aside0.mk (KeepBut.trans (tK2 HK GW202 GW207) (KeepBut.of_below hb g none) (.inl rfl)); replace HB := Aside0.mk (below_step (tH3 HB (IsS179.ge HI0.out) GE202.out GE207.out) hb); replace HI0 := Aside0.mk (IsS179.below (IsS179.t2 HI0 NB0_202 NB0_207) hb); (try clear hb); (try clear hb2); (try clear hk); (try clear hi); have hnb92 := NB207_202.out; have hnc92 := NB202_207.out; have hnb93 := NB207_0.out; have hnc93 := NB0_207.out; have hcz94_0 : w91.cell? ⟨gb207, 0, none⟩ = some (.string x208000_3) := (blk_cell BK207.out 0).trans rfl; have hcz94_1 : w91.cell? ⟨gb207, 1, none⟩ = some (.slice Ao90 x208001_3.length co90) := (blk_cell BK207.out 1).trans rfl; have hfz94_0 := blk_frozen BK207.out 0; have hfz94_1 := blk_frozen BK207.out 1; have hnb95 := NB202_0.out; have hnc95 := NB0_202.out; have hcz96_0 : w91.cell? ⟨gb202, 0, none⟩ = some (.string (⟨#[]⟩ : ByteArray)) := (blk_cell BK202.out 0).trans rfl; have hcz96_1 : w91.cell? ⟨gb202, 1, none⟩ = some (.slice none 0 0) := (blk_cell BK202.out 1).trans rfl; have hfz96_0 := blk_frozen BK202.out 0; have hfz96_1 := blk_frozen BK202.out 1))
   refine bodyPost_ret (results_cell_row rfl _ _ gb202 71 #[.string x208000_3, .slice Ao90 x208001_3.length co90] (0, 0) _ rfl (by (with_reducible repeat (first | refine blk_drewN ?_ _ | refine blk_drew ?_ | refine blk_alloc ?_ _)); refine blk_put (cs := #[.string x208000_3, .slice none 0 0]) ?_ 1 _ rfl; (with_reducible repeat (first | refine blk_drewN ?_ _ | refine blk_drew ?_ | refine blk_alloc ?_ _)); refine blk_put (cs := #[.string (⟨#[]⟩ : ByteArray), .slice none 0 0]) ?_ 0 _ rfl; (with_reducible repeat (first | refine blk_drewN ?_ _ | refine blk_drew ?_ | refine blk_alloc ?_ _)); exact BK202.out) Tryd.underlying71 rfl (by kernel_rfl)) rfl ?_
   exact ⟨_, tE, by (with_reducible repeat (first | apply qra | apply qrn | apply qrd)); exact Kd.R_mono (Kd.R_far (p := ⟨gb202, 1, none⟩) (Kd.R_far (p := ⟨gb202, 0, none⟩) (Kd.R_types HO_208001.out BK202.out (by decide)) (fun _ hk => hk.2) (.string x208000_3)) (fun _ hk => hk.2) (.slice Ao90 x208001_3.length co90)) (fun _ hk => trivial), IsS179.t2 HI0 NB0_202 NB0_207, tH3 HB (IsS179.ge HI0.out) GE202.out GE207.out, tK2 HK GW202 GW207⟩
 replace c89 := Bool.eq_false_iff.mpr c89
 subst c89
 have H1 : ((spec_l04Just.f kj3).bind fun bt232 => (some (bt232.1, bt232.2, x1001_3, x1002_3))) = some (r1, r2, r3, r4) := by rw [if_neg (show ¬ (false = true) by decide)] at H; exact H
 clear H
 have H := H1
 clear H1
 replace H := Option.bind_eq_some_iff.mp H
 obtain ⟨⟨t232, t233⟩, A970, H⟩ := H
 replace H : (some (t232, t233, x1001_3, x1002_3)) = some (r1, r2, r3, r4) := H
 have A97 := Aside0.mk A970
 clear A970
 simp only [Option.some.injEq, Prod.mk.injEq] at H
 obtain ⟨rfl, rfl, rfl, rfl⟩ := H
 obtain ⟨Ao98, co98, eo98⟩ := Kd.R_slice HO_208001.out
 subst eo98
 go_wp2_with (first | ((with_reducible refine gate_callee (f := 206) rfl ?_); refine gL_ (some 82) rfl rfl Tryd.func206 #[.pointer (some ⟨gb207, 0, none⟩)] rfl ?_; (with_reducible refine (spec_l04Ok.calls kj3 _ [(⟨x208000_3, x208001_3⟩ : S71)] false _ ?side1 ?side2 A88.out).mono ?_); (case side1 => exact Kd.C_box (t := 71) (k71_mk _ _ (by exact (Kd.R_reads' HO_208001.out).2.1) (by exact tC (Kd.R_reads' HO_208001.out).2.2)) (tB BK207)); (case side2 => exact Nat.one_pos); rintro e w99 ⟨rfl, hb⟩; refine ⟨_, rfl, ?_⟩; replace HO_208001 := Aside0.mk (Kd.R_below (tR HO_208001) hb); replace BK202 := Aside0.mk (blk_below (g := gb202) (o := .cells #[.string (⟨#[]⟩ : ByteArray), .slice none 0 0] 71 (0, 0)) (tB BK202) hb); replace BK207 := tbB BK207 hb; replace HK := Aside0.mk (KeepBut.trans (tK2 HK GW202 GW207) (KeepBut.of_below hb g none) (.inl rfl)); replace HB := Aside0.mk (below_step (tH3 HB (IsS179.ge HI0.out) GE202.out GE207.out) hb); replace HI0 := Aside0.mk (IsS179.below (IsS179.t2 HI0 NB0_202 NB0_207) hb); (try clear hb); (try clear hb2); (try clear hk); (try clear hi)) | ((with_reducible refine gate_callee (f := 205) rfl ?_); refine gL_ (some 84) rfl rfl Tryd.func205 #[] rfl ?_; (with_reducible refine (spec_l04Just.calls kj3  t232 t233 _ A97.out).mono ?_); rintro e w100 ⟨v234, rfl, ho0, hb⟩; refine ⟨_, rfl, ?_⟩; have HO235 := Aside0.mk (Kd.R_lower (Kd.R_new' ho0 (Kd.R_lt (tR HO_208001))) (keep_size (w := w) (g := g) (row := none) (tK2 HK GW202 GW207))); replace HO_208001 := Aside0.mk (Kd.R_elder' (tR HO_208001) (Kd.R_base ho0) hb); replace BK202 := Aside0.mk (blk_below (g := gb202) (o := .cells #[.string (⟨#[]⟩ : ByteArray), .slice none 0 0] 71 (0, 0)) (tB BK202) hb); replace BK207 := tbB BK207 hb; replace HK := Aside0.mk (KeepBut.trans (tK2 HK GW202 GW207) (KeepBut.of_below hb g none) (.inl rfl)); replace HB := Aside0.mk (below_step (tH3 HB (IsS179.ge HI0.out) GE202.out GE207.out) hb); replace HI0 := Aside0.mk (IsS179.below (IsS179.t2 HI0 NB0_202 NB0_207) hb); (try clear hb); (try clear hb2); (try clear hk); (try clear hi); (try clear ho0); have hnb101 := NB202_207.out; have hnc101 := NB207_202.out; have hnb102 := NB202_0.out; have hnc102 := NB0_202.out; have hcz103_0 : w100.cell? ⟨gb202, 0, none⟩ = some (.string (⟨#[]⟩ : ByteArray)) := (blk_cell BK202.out 0).trans rfl; have hcz103_1 : w100.cell? ⟨gb202, 1, none⟩ = some (.slice none 0 0) := (blk_cell BK202.out 1).trans rfl; have hfz103_0 := blk_frozen BK202.out 0; have hfz103_1 := blk_frozen BK202.out 1; obtain ⟨Ao104, co104, eo104⟩ := Kd.R_slice HO235.out; subst eo104))
 refine bodyPost_ret (results_cell_row rfl _ _ gb202 71 #[.string t232, .slice Ao104 t233.length co104] (0, 0) _ rfl (by (with_reducible repeat (first | refine blk_drewN ?_ _ | refine blk_drew ?_ | refine blk_alloc ?_ _)); refine blk_put (cs := #[.string t232, .slice none 0 0]) ?_ 1 _ rfl; (with_reducible repeat (first | refine blk_drewN ?_ _ | refine blk_drew ?_ | refine blk_alloc ?_ _)); refine blk_put (cs := #[.string (⟨#[]⟩ : ByteArray), .slice none 0 0]) ?_ 0 _ rfl; (with_reducible repeat (first | refine blk_drewN ?_ _ | refine blk_drew ?_ | refine blk_alloc ?_ _)); exact BK202.out) Tryd.underlying71 rfl (by kernel_rfl)) rfl ?_
 exact ⟨_, tE, by (with_reducible repeat (first | apply qra | apply qrn | apply qrd)); exact Kd.R_mono (Kd.R_far (p := ⟨gb202, 1, none⟩) (Kd.R_far (p := ⟨gb202, 0, none⟩) (Kd.R_types HO235.out BK202.out (by decide)) (fun _ hk => hk.2) (.string t232)) (fun _ hk => hk.2) (.slice Ao104 t233.length co104)) (fun _ hk => trivial), IsS179.t2 HI0 NB0_202 NB0_207, tH3 HB (IsS179.ge HI0.out) GE202.out GE207.out, tK2 HK GW202 GW207⟩

end Go.Proofs.YtmeflmlejcmckaaDoor.PB
