-- WRITTEN BY wip/gprint.py, a program of this session's over the kit's print, with contracts given by hand
import Derived.Test.YtmeflmlejcmckaaDoorPBx0
import Derived.Test.YtmeflmlejcmckaaDoorPBx2
import Derived.Test.YtmeflmlejcmckaaDoorPBx3
import Derived.Test.YtmeflmlejcmckaaDoorPBx4
import Derived.Test.YtmeflmlejcmckaaDoorPBx11
namespace Go.Proofs.YtmeflmlejcmckaaDoor.PB
open Go.RowKit Go.Proofs.YtmeflmlejcmckaaDoorW.PrintWords Go.Proofs.YtmeflmlejcmckaaDoorW.PrintLast Go.Proofs.YtmeflmlejcmckaaDoorW.PrintMore
attribute [local go_sem] max2_int min2_int max_two min_two max_three min_three max_four min_four   -- for this text's walks alone
set_option linter.unusedVariables false
set_option linter.unusedSimpArgs false

attribute [local go_sem] isSome_setCell
/-! ### spec_l03DrawPitch: function 123 -/
def spec_l03DrawPitch.f (s0_0 : List Int) (s0_1 : Int) (s0_2 : Int) : Option (Int × Int × Int) := (spec_l00Src_pick.f s0_0 s0_1 s0_2 36).bind fun bt267 => ((spec_l00Src_one.f s0_0 bt267.2.1 bt267.2.2 12).bind fun bt270 => (if bt270.1 = true then ((spec_l00Src_among.f s0_0 bt270.2.1 bt270.2.2 (([(-13), (-12), 23, 24] : List Int))).bind fun bt276 => (some (bt276.1, bt276.2.1, bt276.2.2))) else (some (wrap64 (bt267.1 - 12), bt270.2.1, bt270.2.2))))
set_option maxHeartbeats 8000000 in
set_option maxRecDepth 100000 in
theorem spec_l03DrawPitch.calls (g : Nat) (s0_0 : List Int) (s0_1 : Int) (s0_2 : Int) (r1 : Int) (r2 : Int) (r3 : Int) (w0 w : World) (hI : IsS179 w0 w g s0_0 s0_1 s0_2) (hB : Below w0.heap.size w0 w) (h : spec_l03DrawPitch.f s0_0 s0_1 s0_2 = some (r1, r2, r3)) :
 Calls Tryd.prog 123 #[.pointer (some ⟨g, 0, none⟩)] w fun e w' => e = .returned (.int .i64 r1) ∧ IsS179 w0 w' g s0_0 r2 r3 ∧ Below w0.heap.size w0 w' ∧ KeepBut w w' g none := by
 have HI0 := Aside0.mk hI
 have HK := Aside0.mk (KeepBut.refl w g none)
 have HL := Aside0.mk hB.size
 clear hI
 have HW0 := Aside0.mk hB.size
 have HB := Aside0.mk hB
 clear hB
 have H : ((spec_l00Src_pick.f s0_0 s0_1 s0_2 36).bind fun bt267 => ((spec_l00Src_one.f s0_0 bt267.2.1 bt267.2.2 12).bind fun bt270 => (if bt270.1 = true then ((spec_l00Src_among.f s0_0 bt270.2.1 bt270.2.2 (([(-13), (-12), 23, 24] : List Int))).bind fun bt276 => (some (bt276.1, bt276.2.1, bt276.2.2))) else (some (wrap64 (bt267.1 - 12), bt270.2.1, bt270.2.2))))) = some (r1, r2, r3) := h
 clear h
 replace H := Option.bind_eq_some_iff.mp H
 obtain ⟨⟨t267, t268, t269⟩, A20, H⟩ := H
 replace H : ((spec_l00Src_one.f s0_0 t268 t269 12).bind fun bt270 => (if bt270.1 = true then ((spec_l00Src_among.f s0_0 bt270.2.1 bt270.2.2 (([(-13), (-12), 23, 24] : List Int))).bind fun bt276 => (some (bt276.1, bt276.2.1, bt276.2.2))) else (some (wrap64 (t267 - 12), bt270.2.1, bt270.2.2)))) = some (r1, r2, r3) := H
 have A2 := Aside0.mk A20
 clear A20
 replace H := Option.bind_eq_some_iff.mp H
 obtain ⟨⟨t270, t271, t272⟩, A30, H⟩ := H
 replace H : (if t270 = true then ((spec_l00Src_among.f s0_0 t271 t272 (([(-13), (-12), 23, 24] : List Int))).bind fun bt276 => (some (bt276.1, bt276.2.1, bt276.2.2))) else (some (wrap64 (t267 - 12), t271, t272))) = some (r1, r2, r3) := H
 have A3 := Aside0.mk A30
 clear A30
 by_cases c4 : t270 = true
 · subst c4
   have H1 : ((spec_l00Src_among.f s0_0 t271 t272 (([(-13), (-12), 23, 24] : List Int))).bind fun bt276 => (some (bt276.1, bt276.2.1, bt276.2.2))) = some (r1, r2, r3) := by rw [if_pos rfl] at H; exact H
   clear H
   have H := H1
   clear H1
   obtain ⟨y273, hy273⟩ : ∃ y_ : List Int, y_ = (([(-13), (-12), 23, 24] : List Int)) := ⟨_, rfl⟩
   replace H : ((spec_l00Src_among.f s0_0 t271 t272 y273).bind fun bt276 => (some (bt276.1, bt276.2.1, bt276.2.2))) = some (r1, r2, r3) := by first | (rw [hy273]; with_reducible exact H) | (have H2_ := (Option.bind_some _ _).symm.trans H; rw [hy273]; with_reducible exact H2_) | (have H2_ := (Option.bind_some _ _).symm.trans H; with_reducible exact H2_) | with_reducible exact H | (rw [hy273]; exact H) | exact H
   have Ny273 := Aside0.mk hy273
   clear hy273
   replace H := Option.bind_eq_some_iff.mp H
   obtain ⟨⟨t276, t277, t278⟩, A50, H⟩ := H
   replace H : (some (t276, t277, t278)) = some (r1, r2, r3) := H
   have A5 := Aside0.mk A50
   clear A50
   simp only [Option.some.injEq, Prod.mk.injEq] at H
   obtain ⟨rfl, rfl, rfl⟩ := H
   go_enter Tryd.func123, Tryd.ntmps123
   go_wp2_with (first | ((with_reducible refine gate_callee (f := 113) rfl ?_); refine gL_ (some 5) rfl rfl Tryd.func113 #[.pointer (some ⟨g, 0, none⟩), .int .i64 36] rfl ?_; (with_reducible refine (spec_l00Src_pick.calls g s0_0 s0_1 s0_2 36 t267 t268 t269 w0 _ ?side1 ?side2 A2.out).mono ?_); (case side1 => exact IsS179.t0 HI0); (case side2 => exact tH1 HB (IsS179.ge HI0.out)); rintro e w6 ⟨rfl, hi, hb, hk⟩; refine ⟨_, rfl, ?_⟩; replace HK := Aside0.mk (KeepBut.trans (tK HK) hk (.inl rfl)); replace HB := Aside0.mk (hb); replace HI0 := Aside0.mk (hi); (try clear hb); (try clear hb2); (try clear hk); (try clear hi)) | ((with_reducible refine gate_callee (f := 107) rfl ?_); refine gL_ (some 8) rfl rfl Tryd.func107 #[.pointer (some ⟨g, 0, none⟩), .int .i64 12] rfl ?_; (with_reducible refine (spec_l00Src_one.calls g s0_0 t268 t269 12 true t271 t272 w0 _ ?side1 ?side2 A3.out).mono ?_); (case side1 => exact IsS179.t0 HI0); (case side2 => exact tH1 HB (IsS179.ge HI0.out)); rintro e w7 ⟨rfl, hi, hb, hk⟩; refine ⟨_, rfl, ?_⟩; replace HK := Aside0.mk (KeepBut.trans (tK HK) hk (.inl rfl)); replace HB := Aside0.mk (hb); replace HI0 := Aside0.mk (hi); (try clear hb); (try clear hb2); (try clear hk); (try clear hi)) | ((with_reducible refine gate_dst (N := 10) rfl ?_); refine Kd.R_lit (Kd.int .i64) _ 2 ?hg (N := 10) ?hd (xs := ([(-13), (-12), 23, 24] : List Int)) (inner := [.int .i64 (-13), .int .i64 (-12), .int .i64 23, .int .i64 24]) (ok := fun _ => True) (okp := fun _ => True) ?hr ?hp (fun _ hk => hk) trivial (Below.refl _ _) (Nat.le_refl _) (by simp) ?_; (case hd => rfl); (case hg => rfl); (case hr => first | (go_simp; done) | (go_simp; rfl)); (case hp => exact (Reps.one (show Kd.M (Kd.int .i64) _ _ _ (-13) [.int .i64 (-13)] from rfl) (Reps.one (show Kd.M (Kd.int .i64) _ _ _ (-12) [.int .i64 (-12)] from rfl) (Reps.one (show Kd.M (Kd.int .i64) _ _ _ 23 [.int .i64 23] from rfl) (Reps.one (show Kd.M (Kd.int .i64) _ _ _ 24 [.int .i64 24] from rfl) (Reps.none _ _)))))); intro v274 w8 ho9 hb hg_ hnew_; clear hg_ hnew_; (first | rw [← Ny273.out] at ho9 | (simp only [Int.reduceToNat] at ho9; rw [← Ny273.out] at ho9)); have HO275 := Aside0.mk (Kd.R_lower ho9 (keep_size (w := w) (g := g) (row := none) (tK HK))); replace HK := Aside0.mk (KeepBut.trans (tK HK) (KeepBut.of_below hb g none) (.inl rfl)); replace HB := Aside0.mk (below_step (tH1 HB (IsS179.ge HI0.out)) hb); replace HI0 := Aside0.mk (IsS179.below (IsS179.t0 HI0) hb); clear hb ho9; obtain ⟨Ao10, co10, eo10⟩ := Kd.R_slice HO275.out; subst eo10) | ((with_reducible refine gate_callee (f := 114) rfl ?_); refine gL_ (some 11) rfl rfl Tryd.func114 #[.pointer (some ⟨g, 0, none⟩), .slice Ao10 y273.length co10] rfl ?_; (with_reducible refine (spec_l00Src_among.calls g s0_0 t271 t272 _ _ y273 t276 t277 t278 w0 _ ?side1 ?side2 ?side3 ?side4 ?side5 A5.out).mono ?_); (case side1 => exact IsS179.t0 HI0); (case side2 => exact tH1 HB (IsS179.ge HI0.out)); (case side3 => exact tC (Kd.R_reads' HO275.out).2.2); (case side4 => exact (Kd.R_reads' HO275.out).2.1); (case side5 => exact far_slice (IsS179.own_ne HI0.out HO275.out (by decide))); rintro e w11 ⟨rfl, hi, hb, hk⟩; refine ⟨_, rfl, ?_⟩; replace HO275 := Aside0.mk (Kd.R_mono (Kd.R_keep (IsS179.apart (show IsS179 w0 _ g s0_0 t271 t272 from IsS179.t0 HI0) (tR HO275) (by decide)) hk (fun _ h => h.2)) (fun _ h => h.1)); replace HK := Aside0.mk (KeepBut.trans (tK HK) hk (.inl rfl)); replace HB := Aside0.mk (hb); replace HI0 := Aside0.mk (hi); (try clear hb); (try clear hb2); (try clear hk); (try clear hi)))
   go_ret
   exact ⟨tE, IsS179.t0 HI0, tH1 HB (IsS179.ge HI0.out), tK HK⟩
 replace c4 := Bool.eq_false_iff.mpr c4
 subst c4
 have H1 : (some (wrap64 (t267 - 12), t271, t272)) = some (r1, r2, r3) := by rw [if_neg (show ¬ (false = true) by decide)] at H; exact H
 clear H
 have H := H1
 clear H1
 simp only [Option.some.injEq, Prod.mk.injEq] at H
 obtain ⟨rfl, rfl, rfl⟩ := H
 go_enter Tryd.func123, Tryd.ntmps123
 go_wp2_with (first | ((with_reducible refine gate_callee (f := 113) rfl ?_); refine gL_ (some 5) rfl rfl Tryd.func113 #[.pointer (some ⟨g, 0, none⟩), .int .i64 36] rfl ?_; (with_reducible refine (spec_l00Src_pick.calls g s0_0 s0_1 s0_2 36 t267 t268 t269 w0 _ ?side1 ?side2 A2.out).mono ?_); (case side1 => exact IsS179.t0 HI0); (case side2 => exact tH1 HB (IsS179.ge HI0.out)); rintro e w12 ⟨rfl, hi, hb, hk⟩; refine ⟨_, rfl, ?_⟩; replace HK := Aside0.mk (KeepBut.trans (tK HK) hk (.inl rfl)); replace HB := Aside0.mk (hb); replace HI0 := Aside0.mk (hi); (try clear hb); (try clear hb2); (try clear hk); (try clear hi)) | ((with_reducible refine gate_callee (f := 107) rfl ?_); refine gL_ (some 8) rfl rfl Tryd.func107 #[.pointer (some ⟨g, 0, none⟩), .int .i64 12] rfl ?_; (with_reducible refine (spec_l00Src_one.calls g s0_0 t268 t269 12 false t271 t272 w0 _ ?side1 ?side2 A3.out).mono ?_); (case side1 => exact IsS179.t0 HI0); (case side2 => exact tH1 HB (IsS179.ge HI0.out)); rintro e w13 ⟨rfl, hi, hb, hk⟩; refine ⟨_, rfl, ?_⟩; replace HK := Aside0.mk (KeepBut.trans (tK HK) hk (.inl rfl)); replace HB := Aside0.mk (hb); replace HI0 := Aside0.mk (hi); (try clear hb); (try clear hb2); (try clear hk); (try clear hi)))
 go_ret
 exact ⟨tE, IsS179.t0 HI0, tH1 HB (IsS179.ge HI0.out), tK HK⟩

/-! ### spec_DrawPureBeats: function 46 -/
def spec_DrawPureBeats.f (k : Nat) (l0 : List Int) : Option (ByteArray × (List (S52)) × Int × Int × Int) := (spec_l00From.f l0).bind fun bt280 => ((spec_l04Draw.f k bt280.1 bt280.2.1 bt280.2.2).bind fun bt284 => ((spec_l04DrawBase.f bt280.1 bt284.2.2.1 bt284.2.2.2).bind fun bt291 => ((spec_l03DrawPitch.f bt280.1 bt291.2.1 bt291.2.2).bind fun bt294 => ((spec_l03DrawPitch.f bt280.1 bt294.2.1 bt294.2.2).bind fun bt297 => (some (bt284.1, bt284.2.1, bt291.1, bt294.1, bt297.1))))))
theorem spec_DrawPureBeats.mono : ∀ a0 k, LeO (spec_DrawPureBeats.f k a0) (spec_DrawPureBeats.f (k + 1) a0) := by
 intro a0 k
 unfold spec_DrawPureBeats.f
 repeat' first
  | (with_reducible exact spec_l04Draw.mono _ _ _ _)
  | (with_reducible exact LeO.refl _)
  | (with_reducible exact LeO.none _)
  | (with_reducible refine LeO.ite ?_ ?_)
  | (with_reducible refine LeO.bind ?_ (fun _ => ?_))
  | exact spec_l04Draw.mono _ _ _ _
  | exact LeO.none _
  | refine LeO.ite ?_ ?_
  | refine LeO.bind ?_ (fun _ => ?_)
def spec_DrawPureBeats.T5 : Bool × List (List Nat × List Nat) := (true, [([], []), ([], []), ([], []), ([], []), ([3], [3]), ([0, 4, 0], [0]), ([1, 5, 0, 1, 5], [1]), ([2, 6, 0, 1, 2, 5, 6], [2]), ([4, 7, 0, 1, 2, 3, 4, 5, 6, 7], [4])])
def spec_DrawPureBeats.B5 : List Nat := [0, 0, 0, 0, 8, 25, 59, 127, 255]
theorem spec_DrawPureBeats.tab5 : rtab .any (opsOf Tryd.f46 5) = spec_DrawPureBeats.T5 := by kernel_rfl
theorem spec_DrawPureBeats.bits5 : waitsOk spec_DrawPureBeats.T5.2 spec_DrawPureBeats.B5 = true := by kernel_rfl
set_option maxHeartbeats 8000000 in
set_option maxRecDepth 100000 in
theorem spec_DrawPureBeats.calls (k : Nat) (A0 : Option Addr) (c0 : Nat) (l0 : List Int) (r1 : ByteArray) (r2 : List (S52)) (r3 : Int) (r4 : Int) (r5 : Int) (w : World) (hr0 : Kd.C (Kd.int .u8) w A0 l0.length l0) (hc0 : l0.length ≤ c0) (h : spec_DrawPureBeats.f k l0 = some (r1, r2, r3, r4, r5)) :
 Calls Tryd.prog 46 #[.slice A0 l0.length c0] w fun e w' => ∃ v1_ : Value, e = .returned (.tuple #[.agg #[.string r1, v1_], .int .i64 r3, .int .i64 r4, .int .i64 r5]) ∧ Kd.R k52 52 w' w.heap.size (fun _ => True) v1_ r2 ∧ Below w.heap.size w w' := by
 have hu71 := Tryd.underlying71
 have HR0 := Aside0.mk hr0
 have HC0 := Aside0.mk hc0
 clear hr0 hc0
 have HB := Aside0.mk (Below.refl w.heap.size w)
 have H : ((spec_l00From.f l0).bind fun bt280 => ((spec_l04Draw.f k bt280.1 bt280.2.1 bt280.2.2).bind fun bt284 => ((spec_l04DrawBase.f bt280.1 bt284.2.2.1 bt284.2.2.2).bind fun bt291 => ((spec_l03DrawPitch.f bt280.1 bt291.2.1 bt291.2.2).bind fun bt294 => ((spec_l03DrawPitch.f bt280.1 bt294.2.1 bt294.2.2).bind fun bt297 => (some (bt284.1, bt284.2.1, bt291.1, bt294.1, bt297.1))))))) = some (r1, r2, r3, r4, r5) := h
 clear h
 replace H := Option.bind_eq_some_iff.mp H
 obtain ⟨⟨t280, t281, t282⟩, A20, H⟩ := H
 replace H : ((spec_l04Draw.f k t280 t281 t282).bind fun bt284 => ((spec_l04DrawBase.f t280 bt284.2.2.1 bt284.2.2.2).bind fun bt291 => ((spec_l03DrawPitch.f t280 bt291.2.1 bt291.2.2).bind fun bt294 => ((spec_l03DrawPitch.f t280 bt294.2.1 bt294.2.2).bind fun bt297 => (some (bt284.1, bt284.2.1, bt291.1, bt294.1, bt297.1)))))) = some (r1, r2, r3, r4, r5) := H
 have A2 := Aside0.mk A20
 clear A20
 replace H := Option.bind_eq_some_iff.mp H
 obtain ⟨⟨t284, t285, t288, t289⟩, A30, H⟩ := H
 replace H : ((spec_l04DrawBase.f t280 t288 t289).bind fun bt291 => ((spec_l03DrawPitch.f t280 bt291.2.1 bt291.2.2).bind fun bt294 => ((spec_l03DrawPitch.f t280 bt294.2.1 bt294.2.2).bind fun bt297 => (some (t284, t285, bt291.1, bt294.1, bt297.1))))) = some (r1, r2, r3, r4, r5) := H
 have A3 := Aside0.mk A30
 clear A30
 replace H := Option.bind_eq_some_iff.mp H
 obtain ⟨⟨t291, t292, t293⟩, A40, H⟩ := H
 replace H : ((spec_l03DrawPitch.f t280 t292 t293).bind fun bt294 => ((spec_l03DrawPitch.f t280 bt294.2.1 bt294.2.2).bind fun bt297 => (some (t284, t285, t291, bt294.1, bt297.1)))) = some (r1, r2, r3, r4, r5) := H
 have A4 := Aside0.mk A40
 clear A40
 replace H := Option.bind_eq_some_iff.mp H
 obtain ⟨⟨t294, t295, t296⟩, A50, H⟩ := H
 replace H : ((spec_l03DrawPitch.f t280 t295 t296).bind fun bt297 => (some (t284, t285, t291, t294, bt297.1))) = some (r1, r2, r3, r4, r5) := H
 have A5 := Aside0.mk A50
 clear A50
 replace H := Option.bind_eq_some_iff.mp H
 obtain ⟨⟨t297, t298, t299⟩, A60, H⟩ := H
 replace H : (some (t284, t285, t291, t294, t297)) = some (r1, r2, r3, r4, r5) := H
 have A6 := Aside0.mk A60
 clear A60
 simp only [Option.some.injEq, Prod.mk.injEq] at H
 obtain ⟨rfl, rfl, rfl, rfl, rfl⟩ := H
 go_enter Tryd.func46, Tryd.ntmps46
 try go_wp2_with (first | ((with_reducible refine gate_dst (N := 2) rfl ?_); refine box_event ?hg (N := 2) ?hd (cs := #[.string (⟨#[]⟩ : ByteArray), .slice none 0 0]) (t := 71) ?hr ?_; (case hd => rfl); (case hg => rfl); (case hr => first | (go_simp; done) | (go_simp; rfl)); intro gb279 hg w7 hbox hb; have BK279 := Aside0.mk (hbox); have GW279 := Aside0.mk ((by rw [hg]; exact (below_size (tH HB)) : w.heap.size ≤ gb279)); have GE279 := Aside0.mk ((by rw [hg]; exact (below_size (tH HB)) : w.heap.size ≤ gb279)); replace HB := Aside0.mk (below_step (tH HB) hb); clear hb hbox hg) | ((with_reducible refine gate_callee (f := 105) rfl ?_); refine gL_ (some 11) rfl rfl Tryd.func105 #[.slice A0 l0.length c0] rfl ?_; (with_reducible refine (spec_l00From.calls _ _ l0 t280 t281 t282 w _ ?side1 ?side2 ?side3 A2.out).mono ?_); (case side1 => exact tH1 HB GE279.out); (case side2 => exact HR0.out); (case side3 => exact HC0.out); rintro e w8 ⟨g283, rfl, hi, hb, hb2⟩; refine ⟨_, rfl, ?_⟩; replace HB := Aside0.mk (hb); have HI283 := Aside0.mk (hi); have NB283_279 := Aside0.mk (IsS179.ne_blk hi (blk_below (g := gb279) (o := .cells #[.string (⟨#[]⟩ : ByteArray), .slice none 0 0] 71 (0, 0)) (tB BK279) hb2) (by decide)); have NB279_283 := Aside0.mk (Ne.symm (IsS179.ne_blk hi (blk_below (g := gb279) (o := .cells #[.string (⟨#[]⟩ : ByteArray), .slice none 0 0] 71 (0, 0)) (tB BK279) hb2) (by decide))); replace BK279 := Aside0.mk (blk_below (g := gb279) (o := .cells #[.string (⟨#[]⟩ : ByteArray), .slice none 0 0] 71 (0, 0)) (tB BK279) hb2); (try clear hb); (try clear hb2); (try clear hk); (try clear hi)) | ((with_reducible refine gate_callee (f := 121) rfl ?_); refine gL_ (some 13) rfl rfl Tryd.func121 #[.pointer (some ⟨g283, 0, none⟩)] rfl ?_; (with_reducible refine (spec_l04Draw.calls k g283 t280 t281 t282 t284 t285 t288 t289 w _ ?side1 ?side2 A3.out).mono ?_); (case side1 => exact IsS179.t1 HI283 NB283_279); (case side2 => exact tH2 HB (IsS179.ge HI283.out) GE279.out); rintro e w9 ⟨v286, rfl, ho0, hi, hb, hk⟩; refine ⟨_, rfl, ?_⟩; replace BK279 := Aside0.mk (KeepBut.blk hk (g' := gb279) (o := .cells #[.string (⟨#[]⟩ : ByteArray), .slice none 0 0] 71 (0, 0)) (tB BK279) NB279_283.out (by simp)); have HO287 := Aside0.mk (Kd.R_lower ho0 (below_size (tH2 HB (IsS179.ge HI283.out) GE279.out))); replace HB := Aside0.mk (hb); replace HI283 := Aside0.mk (hi); (try clear hb); (try clear hb2); (try clear hk); (try clear hi); (try clear ho0)) | ((with_reducible refine gate_dst (N := 7) rfl ?_); refine box_event ?hg (N := 7) ?hd (cs := #[.string (⟨#[]⟩ : ByteArray), .slice none 0 0]) (t := 71) ?hr ?_; (case hd => rfl); (case hg => rfl); (case hr => first | (go_simp; done) | (go_simp; rfl)); intro gb290 hg w10 hbox hb; replace HO287 := Aside0.mk (Kd.R_below (tR HO287) hb); have BK290 := Aside0.mk (hbox); have GW290 := Aside0.mk ((by rw [hg]; exact (below_size (tH2 HB (IsS179.ge HI283.out) GE279.out)) : w.heap.size ≤ gb290)); have GE290 := Aside0.mk ((by rw [hg]; exact (below_size (tH2 HB (IsS179.ge HI283.out) GE279.out)) : w.heap.size ≤ gb290)); replace HB := Aside0.mk (below_step (tH2 HB (IsS179.ge HI283.out) GE279.out) hb); have NB279_290 := Aside0.mk ((by rw [hg]; exact Nat.ne_of_lt (blk_lt (g := gb279) (o := .cells #[.string (⟨#[]⟩ : ByteArray), .slice none 0 0] 71 (0, 0)) (tB BK279)) : gb279 ≠ gb290)); have NB290_279 := Aside0.mk ((by rw [hg]; exact Nat.ne_of_gt (blk_lt (g := gb279) (o := .cells #[.string (⟨#[]⟩ : ByteArray), .slice none 0 0] 71 (0, 0)) (tB BK279)) : gb290 ≠ gb279)); replace BK279 := Aside0.mk (blk_below (g := gb279) (o := .cells #[.string (⟨#[]⟩ : ByteArray), .slice none 0 0] 71 (0, 0)) (tB BK279) hb); have NB283_290 := Aside0.mk ((by rw [hg]; exact Nat.ne_of_lt (IsS179.lt (show IsS179 w _ g283 t280 t288 t289 from IsS179.t1 HI283 NB283_279)) : g283 ≠ gb290)); have NB290_283 := Aside0.mk ((by rw [hg]; exact Nat.ne_of_gt (IsS179.lt (show IsS179 w _ g283 t280 t288 t289 from IsS179.t1 HI283 NB283_279)) : gb290 ≠ g283)); replace HI283 := Aside0.mk (IsS179.below (IsS179.t1 HI283 NB283_279) hb); clear hb hbox hg; have hnb11 := NB290_279.out; have hnc11 := NB279_290.out; have hnb12 := NB290_283.out; have hnc12 := NB283_290.out; have hcz13_0 : w10.cell? ⟨gb290, 0, none⟩ = some (.string (⟨#[]⟩ : ByteArray)) := (blk_cell BK290.out 0).trans rfl; have hcz13_1 : w10.cell? ⟨gb290, 1, none⟩ = some (.slice none 0 0) := (blk_cell BK290.out 1).trans rfl; have hfz13_0 := blk_frozen BK290.out 0; have hfz13_1 := blk_frozen BK290.out 1; obtain ⟨Ao14, co14, eo14⟩ := Kd.R_slice HO287.out; subst eo14) | ((with_reducible refine gate_callee (f := 122) rfl ?_); refine gL_ (some 15) rfl rfl Tryd.func122 #[.pointer (some ⟨g283, 0, none⟩)] rfl ?_; (with_reducible refine (spec_l04DrawBase.calls g283 t280 t288 t289 t291 t292 t293 w _ ?side1 ?side2 A4.out).mono ?_); (case side1 => exact IsS179.t2 HI283 NB283_279 NB283_290); (case side2 => exact tH3 HB (IsS179.ge HI283.out) GE279.out GE290.out); rintro e w15 ⟨rfl, hi, hb, hk⟩; refine ⟨_, rfl, ?_⟩; replace BK279 := Aside0.mk (KeepBut.blk hk (g' := gb279) (o := .cells #[.string (⟨#[]⟩ : ByteArray), .slice none 0 0] 71 (0, 0)) (by (with_reducible repeat (first | refine blk_drewN ?_ _ | refine blk_drew ?_ | refine blk_alloc ?_ _)); refine blk_far ?_ NB279_290.out _; (with_reducible repeat (first | refine blk_drewN ?_ _ | refine blk_drew ?_ | refine blk_alloc ?_ _)); refine blk_far ?_ NB279_290.out _; (with_reducible repeat (first | refine blk_drewN ?_ _ | refine blk_drew ?_ | refine blk_alloc ?_ _)); exact BK279.out) NB279_283.out (by simp)); replace HO287 := Aside0.mk (Kd.R_mono (Kd.R_keep (IsS179.apart (show IsS179 w _ g283 t280 t288 t289 from IsS179.t2 HI283 NB283_279 NB283_290) (by (with_reducible repeat (first | apply qra | apply qrn | apply qrd)); exact (Kd.R_mono (Kd.R_far (p := ⟨gb290, 1, none⟩) (Kd.R_far (p := ⟨gb290, 0, none⟩) (Kd.R_types HO287.out BK290.out (by decide)) (fun _ hk => hk.2) (.string t284)) (fun _ hk => hk.2) (.slice Ao14 t285.length co14)) (fun _ h_ => h_.1))) (by decide)) hk (fun _ h => h.2)) (fun _ h => h.1)); replace BK290 := Aside0.mk (KeepBut.blk hk (g' := gb290) (o := .cells #[.string t284, .slice Ao14 t285.length co14] 71 (0, 0)) (by (with_reducible repeat (first | refine blk_drewN ?_ _ | refine blk_drew ?_ | refine blk_alloc ?_ _)); refine blk_put (cs := #[.string t284, .slice none 0 0]) ?_ 1 _ rfl; (with_reducible repeat (first | refine blk_drewN ?_ _ | refine blk_drew ?_ | refine blk_alloc ?_ _)); refine blk_put (cs := #[.string (⟨#[]⟩ : ByteArray), .slice none 0 0]) ?_ 0 _ rfl; (with_reducible repeat (first | refine blk_drewN ?_ _ | refine blk_drew ?_ | refine blk_alloc ?_ _)); exact BK290.out) NB290_283.out (by simp)); replace HB := Aside0.mk (hb); replace HI283 := Aside0.mk (hi); (try clear hb); (try clear hb2); (try clear hk); (try clear hi)) | ((with_reducible refine gate_callee (f := 123) rfl ?_); refine gL_ (some 17) rfl rfl Tryd.func123 #[.pointer (some ⟨g283, 0, none⟩)] rfl ?_; (with_reducible refine (spec_l03DrawPitch.calls g283 t280 t292 t293 t294 t295 t296 w _ ?side1 ?side2 A5.out).mono ?_); (case side1 => exact IsS179.t2 HI283 NB283_279 NB283_290); (case side2 => exact tH3 HB (IsS179.ge HI283.out) GE279.out GE290.out); rintro e w16 ⟨rfl, hi, hb, hk⟩; refine ⟨_, rfl, ?_⟩; replace BK279 := Aside0.mk (KeepBut.blk hk (g' := gb279) (o := .cells #[.string (⟨#[]⟩ : ByteArray), .slice none 0 0] 71 (0, 0)) (tB BK279) NB279_283.out (by simp)); replace HO287 := Aside0.mk (Kd.R_mono (Kd.R_keep (IsS179.apart (show IsS179 w _ g283 t280 t292 t293 from IsS179.t2 HI283 NB283_279 NB283_290) (tR HO287) (by decide)) hk (fun _ h => h.2)) (fun _ h => h.1)); replace BK290 := tKB hk BK290 NB290_283.out; replace HB := Aside0.mk (hb); replace HI283 := Aside0.mk (hi); (try clear hb); (try clear hb2); (try clear hk); (try clear hi)))
 replace HO287 := Aside0.mk (Kd.R_drew HO287.out)
 replace BK279 := Aside0.mk (blk_drew BK279.out)
 replace BK290 := Aside0.mk (blk_drew BK290.out)
 replace HI283 := Aside0.mk (IsS179.drew HI283.out)
 replace HB := Aside0.mk (below_drew1 HB.out)
 refine start_ (n := 9) (S := fun w' => w'.cell? ⟨gb290, 0, none⟩ = some (.string t284) ∧ w'.cell? ⟨gb290, 1, none⟩ = some (.slice Ao14 t285.length co14)) (ds := []) (bq [0, 9]) (by kernel_rfl) rfl rfl ⟨(blk_cell BK290.out 0).trans rfl, (blk_cell BK290.out 1).trans rfl⟩ (fun hHeld => ?_); refine with_tabW spec_DrawPureBeats.tab5 spec_DrawPureBeats.bits5 (fun HT_ HW_ => ?_)
 generalize w16.drew = w17 at HO287 BK279 BK290 HI283 HB hHeld ⊢
 refine pV 1 (some 19) [0, 1, 1, 7] rfl rfl HT_ ?_
 refine pV 2 (some 20) [0, 1, 2, 6] rfl rfl HT_ ?_
 refine pV 3 (some 21) [0, 1, 3, 5] rfl rfl HT_ ?_
 refine pT 0 (some 18) (bq [4, 5]) rfl rfl HT_ HW_ hHeld ?_
 refine pO 4 (some 22) (bq [5, 4]) rfl rfl HT_ (fun K hK => ?_)
 refine gS_ Tryd.func123 #[.pointer (some ⟨g283, 0, none⟩)] rfl rfl ?_
 with_reducible refine (spec_l03DrawPitch.calls g283 t280 t295 t296 t297 t298 t299 w _ ?side1 ?side2 A6.out).mono ?_
 (case side1 => exact IsS179.t2 HI283 NB283_279 NB283_290)
 (case side2 => exact tH3 HB (IsS179.ge HI283.out) GE279.out GE290.out)
 rintro e w18 ⟨rfl, hi, hb, hk⟩
 refine ⟨_, rfl, ?_⟩
 replace BK279 := Aside0.mk (KeepBut.blk hk (g' := gb279) (o := .cells #[.string (⟨#[]⟩ : ByteArray), .slice none 0 0] 71 (0, 0)) (tB BK279) NB279_283.out (by simp))
 replace HO287 := Aside0.mk (Kd.R_mono (Kd.R_keep (IsS179.apart (show IsS179 w _ g283 t280 t295 t296 from IsS179.t2 HI283 NB283_279 NB283_290) (tR HO287) (by decide)) hk (fun _ h => h.2)) (fun _ h => h.1))
 replace BK290 := tKB hk BK290 NB290_283.out
 replace HB := Aside0.mk (hb)
 replace HI283 := Aside0.mk (hi)
 (try clear hb)
 (try clear hb2)
 (try clear hk)
 (try clear hi)
 refine hK.out _ _ ⟨(blk_cell BK290.out 0).trans rfl, (blk_cell BK290.out 1).trans rfl⟩ (fun hHeld => ?_)
 clear hK K
 refine nO (some 22) ?_
 refine pO 5 none (bq [6, 3]) rfl rfl HT_ (fun K hK => ?_)
 have hs19 : w18.cell? ⟨gb279, 0, none⟩ = some (.string (⟨#[]⟩ : ByteArray)) := (blk_cell BK279.out 0).trans rfl
 have hfs19 := blk_frozen BK279.out 0
 have hns19_1 := NB290_279.out
 have hms19_1 := NB279_290.out
 have hs20 : w18.cell? ⟨gb279, 1, none⟩ = some (.slice none 0 0) := (blk_cell BK279.out 1).trans rfl
 have hfs20 := blk_frozen BK279.out 1
 have hns20_1 := NB290_279.out
 have hms20_1 := NB279_290.out
 refine skip_ (w1 := ?_) (by rfl) rfl ?_ ?_
 rotate_left
 · go_simp
   rfl
 refine hK.out _ _ ⟨((cell_far (p := ⟨gb279, _, none⟩) NB290_279.out _).trans (((cell_far (p := ⟨gb279, _, none⟩) NB290_279.out _).trans (hHeld.1)))), ((cell_far (p := ⟨gb279, _, none⟩) NB290_279.out _).trans (((cell_far (p := ⟨gb279, _, none⟩) NB290_279.out _).trans (hHeld.2))))⟩ (fun hHeld => ?_)
 clear hK K
 refine pV 6 (some 3) [7, 2] rfl rfl HT_ ?_
 refine pV 7 (some 4) [8, 1] rfl rfl HT_ ?_
 refine pV 8 (some 5) [9] rfl rfl HT_ ?_
 refine done_ (done_of HT_.out (by kernel_rfl)) ?_
 try go_wp2
 refine bodyPost_ret (results_list (rs := [.cell 2 71, .tmp 3, .tmp 4, .tmp 5]) rfl (by simp) (.cell gb279 71 #[.string t284, .slice Ao14 t285.length co14] (0, 0) _ rfl (by (with_reducible repeat (first | refine blk_drewN ?_ _ | refine blk_drew ?_ | refine blk_alloc ?_ _)); refine blk_put (cs := #[.string t284, .slice none 0 0]) ?_ 1 _ rfl; (with_reducible repeat (first | refine blk_drewN ?_ _ | refine blk_drew ?_ | refine blk_alloc ?_ _)); refine blk_put (cs := #[.string (⟨#[]⟩ : ByteArray), .slice none 0 0]) ?_ 0 _ rfl; (with_reducible repeat (first | refine blk_drewN ?_ _ | refine blk_drew ?_ | refine blk_alloc ?_ _)); exact BK279.out) Tryd.underlying71 rfl (by kernel_rfl) (.tmp (.tmp (.tmp .nil))))) rfl ?_
 exact ⟨_, tE, by (with_reducible repeat (first | apply qra | apply qrn | apply qrd)); exact Kd.R_mono (Kd.R_far (p := ⟨gb279, 1, none⟩) (Kd.R_far (p := ⟨gb279, 0, none⟩) (Kd.R_types HO287.out BK279.out (by decide)) (fun _ hk => hk.2) (.string t284)) (fun _ hk => hk.2) (.slice Ao14 t285.length co14)) (fun _ hk => trivial), tH3 HB (IsS179.ge HI283.out) GE279.out GE290.out⟩

/-! ### impl_abs: function 116 -/
def impl_abs.f (a0 : Int) : Option (Int) := some (mx a0 (wrap64 (-a0)))
set_option maxHeartbeats 8000000 in
set_option maxRecDepth 100000 in
theorem impl_abs.calls (a0 : Int) (r : Int) (w : World) (h : impl_abs.f a0 = some r) :
 Calls Tryd.prog 116 #[.int .i64 a0] w fun e w' => e = .returned (.int .i64 r) ∧ Below w.heap.size w w' := by
 have HB := Aside0.mk (Below.refl w.heap.size w)
 have H : (some (mx a0 (wrap64 (-a0)))) = some r := h
 clear h
 obtain ⟨ji2, hji2⟩ : ∃ j_ : Int, (mx a0 (wrap64 (-a0))) = j_ := ⟨_, rfl⟩
 replace H : (some ji2) = some r := by first | (rw [hji2] at H; exact H) | (simp only [hji2] at H ⊢; exact H)
 have hji2_ : (if a0 < (wrap64 (-a0)) then (wrap64 (-a0)) else a0) = ji2 := hji2
 obtain rfl := Option.some.inj H
 go_enter Tryd.func116, Tryd.ntmps116
 go_wp2
 go_ret
 exact ⟨by first | rfl | (simp [errW_none, errW_some] <;> rfl) | (simp only [← hji2]; first | rfl | (simp [errW_none, errW_some] <;> rfl)) | (simp [*, errW_none, errW_some] <;> rfl), tH HB⟩

/-! ### impl_within: function 115 -/
def impl_within.f (a0 : Int) (a1 : Int) (a2 : Int) : Option (Bool) := if a0 ≥ a1 then (some (decide (a0 ≤ a2))) else (some false)
set_option maxHeartbeats 8000000 in
set_option maxRecDepth 100000 in
theorem impl_within.calls (a0 : Int) (a1 : Int) (a2 : Int) (r : Bool) (w : World) (h : impl_within.f a0 a1 a2 = some r) :
 Calls Tryd.prog 115 #[.int .i64 a0, .int .i64 a1, .int .i64 a2] w fun e w' => e = .returned (.bool r) ∧ Drawn0 w w' := by
 have H : (if a0 ≥ a1 then (some (decide (a0 ≤ a2))) else (some false)) = some r := h
 clear h
 by_cases c4 : a0 ≥ a1
 · rw [if_pos c4] at H
   have c4b0 : decide (a1 ≤ a0) = true := decide_eq_true c4
   clear c4
   obtain rfl := Option.some.inj H
   go_enter Tryd.func115, Tryd.ntmps115
   go_wp2
   go_ret
   exact ⟨by first | rfl | (simp; done) | (simp [*]; done), tZ⟩
 rw [if_neg c4] at H
 have c4b0 : decide (a1 ≤ a0) = false := decide_eq_false c4
 clear c4
 obtain rfl := Option.some.inj H
 go_enter Tryd.func115, Tryd.ntmps115
 go_wp2
 go_ret
 exact ⟨by first | rfl | (simp; done) | (simp [*]; done), tZ⟩

/-! ### impl_commonDivisor: function 167 -/
def impl_commonDivisor.l0 : Nat → Int → Int → Option (Int)
 | 0, _, _ => none
 | k + 1, x0, x1 => if x1 = 0 then (some x0) else (impl_commonDivisor.l0 k x1 (Int.tmod x0 x1))
def impl_commonDivisor.f (k : Nat) (a0 : Int) (a1 : Int) : Option (Int) := impl_commonDivisor.l0 k a0 a1
theorem impl_commonDivisor.mono_l : ∀ k, (∀ y0 y1, LeO (impl_commonDivisor.l0 k y0 y1) (impl_commonDivisor.l0 (k + 1) y0 y1))
 | 0 => fun _ _ r h => by simp [impl_commonDivisor.l0] at h
 | k + 1 => by
  have ih0 := impl_commonDivisor.mono_l k
  · intro y0 y1
    unfold impl_commonDivisor.l0
    repeat' first
    | (with_reducible exact ih0 _ _)
    | (with_reducible exact LeO.refl _)
    | (with_reducible exact LeO.none _)
    | (with_reducible refine LeO.ite ?_ ?_)
    | (with_reducible refine LeO.bind ?_ (fun _ => ?_))
    | exact ih0 _ _
    | exact LeO.none _
    | refine LeO.ite ?_ ?_
    | refine LeO.bind ?_ (fun _ => ?_)
theorem impl_commonDivisor.mono : ∀ a0 a1 k, LeO (impl_commonDivisor.f k a0 a1) (impl_commonDivisor.f (k + 1) a0 a1) := by
 intro a0 a1 k
 have ih0 := impl_commonDivisor.mono_l k
 unfold impl_commonDivisor.f
 repeat' first
  | (with_reducible exact ih0 _ _)
  | (with_reducible exact LeO.refl _)
  | (with_reducible exact LeO.none _)
  | (with_reducible refine LeO.ite ?_ ?_)
  | (with_reducible refine LeO.bind ?_ (fun _ => ?_))
  | exact ih0 _ _
  | exact LeO.none _
  | refine LeO.ite ?_ ?_
  | refine LeO.bind ?_ (fun _ => ?_)
set_option maxHeartbeats 8000000 in
set_option maxRecDepth 100000 in
theorem impl_commonDivisor.calls (k : Nat) (a0 : Int) (a1 : Int) (r : Int) (w : World) (h : impl_commonDivisor.f k a0 a1 = some r) :
 Calls Tryd.prog 167 #[.int .i64 a0, .int .i64 a1] w fun e w' => e = .returned (.int .i64 r) ∧ Drawn0 w w' := by
 have H : (impl_commonDivisor.l0 k a0 a1) = some r := h
 clear h
 have H' := Aside0.mk H
 clear H
 go_enter Tryd.func167, Tryd.ntmps167
 go_wp2
 repeat (go_quiet (fail); try go_wp2)
 go_loopg [0, 1] k (fun kq v0 v1 w' => ∃ (x0_1 : Int) (x1_1 : Int), v0 = .int .i64 x0_1 ∧ v1 = .int .i64 x1_1 ∧ Aside0 (impl_commonDivisor.l0 kq x0_1 x1_1 = some r) ∧ Aside0 (kq ≤ k) ∧ Drawn0 w w')
 case atStart => exact ⟨(a0), (a1), tq, tq, H', ⟨Nat.le_refl _⟩, tZ⟩
 case round =>
 clear H'
 try clear c1
 try clear p2
 obtain ⟨x0_1, x1_1, rfl, rfl, HA, HK1, ⟨m1, rfl⟩⟩ := hrel
 cases gk with
 | zero => exact absurd HA.out (by simp [impl_commonDivisor.l0])
 | succ k1 =>
 have H := HA.out
 clear HA
 simp only [impl_commonDivisor.l0] at H
 by_cases c3 : x1_1 = 0
 · rw [if_pos c3] at H
   have c3b0 : (x1_1 == 0) = true := beq_iff_eq.mpr c3
   have c3b1 : (x1_1 != 0) = false := bne_eq_false_iff_eq.mpr c3
   clear c3
   obtain rfl := Option.some.inj H
   go_wp2
   repeat (go_quiet (fail); try go_wp2)
   go_ret
   exact ⟨by first | rfl | (simp; done) | (simp [*]; done), tZ⟩
 rw [if_neg c3] at H
 have c3b0 : (x1_1 == 0) = false := beq_eq_false_iff_ne.mpr c3
 have c3b1 : (x1_1 != 0) = true := bne_iff_ne.mpr c3
 have H' := Aside0.mk H
 clear H
 go_wp2
 repeat (go_quiet (fail); try go_wp2)
 go_roundg k1
 case measure => have := HK1.out; omega
 case rel => exact ⟨(x1_1), (Int.tmod x0_1 x1_1), tq, tq, H', ⟨by have := HK1.out; omega⟩, tZ⟩

end Go.Proofs.YtmeflmlejcmckaaDoor.PB
