-- WRITTEN BY wip/gprint.py, a program of this session's over the kit's print, with contracts given by hand
import Derived.Test.YtmeflmlejcmckaaDoorPBx0
import Derived.Test.YtmeflmlejcmckaaDoorPBx2
import Derived.Test.YtmeflmlejcmckaaDoorPBx11
import Derived.Test.YtmeflmlejcmckaaDoorPBx12
import Derived.Test.YtmeflmlejcmckaaDoorPBx16
import Derived.Test.YtmeflmlejcmckaaDoorPBx18
namespace Go.Proofs.YtmeflmlejcmckaaDoor.PB
open Go.RowKit Go.Proofs.YtmeflmlejcmckaaDoorW.PrintWords Go.Proofs.YtmeflmlejcmckaaDoorW.PrintLast Go.Proofs.YtmeflmlejcmckaaDoorW.PrintMore
attribute [local go_sem] max2_int min2_int max_two min_two max_three min_three max_four min_four   -- for this text's walks alone
set_option linter.unusedVariables false
set_option linter.unusedSimpArgs false

attribute [local go_sem] isSome_setCell
/-! ### spec_DrawFrequencyOf: function 49 -/
def spec_DrawFrequencyOf.f (k : Nat) (l0 : List Int) : Option (ByteArray × (List (S52)) × Int × Int) := (spec_l00From.f l0).bind fun bt352 => ((spec_l04Draw.f k bt352.1 bt352.2.1 bt352.2.2).bind fun bt356 => ((spec_l04DrawBase.f bt352.1 bt356.2.2.1 bt356.2.2.2).bind fun bt363 => ((spec_l03DrawPitch.f bt352.1 bt363.2.1 bt363.2.2).bind fun bt366 => (some (bt356.1, bt356.2.1, bt363.1, bt366.1)))))
theorem spec_DrawFrequencyOf.mono : ∀ a0 k, LeO (spec_DrawFrequencyOf.f k a0) (spec_DrawFrequencyOf.f (k + 1) a0) := by
 intro a0 k
 unfold spec_DrawFrequencyOf.f
 repeat' first
  | (with_reducible exact spec_l04Draw.mono _ _ _ _)
  | (with_reducible exact LeO.refl _)
  | (with_reducible exact LeO.none _)
  | (with_reducible refine LeO.ite ?_ ?_)
  | (with_reducible refine LeO.bind ?_ (fun _ => ?_))
  | exact spec_l04Draw.mono _ _ _ _
  | exact LeO.none _
  | refine LeO.ite ?_ ?_
  | refine LeO.bind ?_ (fun _ => ?_)
set_option maxHeartbeats 8000000 in
set_option maxRecDepth 100000 in
theorem spec_DrawFrequencyOf.calls (k : Nat) (A0 : Option Addr) (c0 : Nat) (l0 : List Int) (r1 : ByteArray) (r2 : List (S52)) (r3 : Int) (r4 : Int) (w : World) (hr0 : Kd.C (Kd.int .u8) w A0 l0.length l0) (hc0 : l0.length ≤ c0) (h : spec_DrawFrequencyOf.f k l0 = some (r1, r2, r3, r4)) :
 Calls Tryd.prog 49 #[.slice A0 l0.length c0] w fun e w' => ∃ v1_ : Value, e = .returned (.tuple #[.agg #[.string r1, v1_], .int .i64 r3, .int .i64 r4]) ∧ Kd.R k52 52 w' w.heap.size (fun _ => True) v1_ r2 ∧ Below w.heap.size w w' := by
 have hu71 := Tryd.underlying71
 have HR0 := Aside0.mk hr0
 have HC0 := Aside0.mk hc0
 clear hr0 hc0
 have HB := Aside0.mk (Below.refl w.heap.size w)
 have H : ((spec_l00From.f l0).bind fun bt352 => ((spec_l04Draw.f k bt352.1 bt352.2.1 bt352.2.2).bind fun bt356 => ((spec_l04DrawBase.f bt352.1 bt356.2.2.1 bt356.2.2.2).bind fun bt363 => ((spec_l03DrawPitch.f bt352.1 bt363.2.1 bt363.2.2).bind fun bt366 => (some (bt356.1, bt356.2.1, bt363.1, bt366.1)))))) = some (r1, r2, r3, r4) := h
 clear h
 replace H := Option.bind_eq_some_iff.mp H
 obtain ⟨⟨t352, t353, t354⟩, A20, H⟩ := H
 replace H : ((spec_l04Draw.f k t352 t353 t354).bind fun bt356 => ((spec_l04DrawBase.f t352 bt356.2.2.1 bt356.2.2.2).bind fun bt363 => ((spec_l03DrawPitch.f t352 bt363.2.1 bt363.2.2).bind fun bt366 => (some (bt356.1, bt356.2.1, bt363.1, bt366.1))))) = some (r1, r2, r3, r4) := H
 have A2 := Aside0.mk A20
 clear A20
 replace H := Option.bind_eq_some_iff.mp H
 obtain ⟨⟨t356, t357, t360, t361⟩, A30, H⟩ := H
 replace H : ((spec_l04DrawBase.f t352 t360 t361).bind fun bt363 => ((spec_l03DrawPitch.f t352 bt363.2.1 bt363.2.2).bind fun bt366 => (some (t356, t357, bt363.1, bt366.1)))) = some (r1, r2, r3, r4) := H
 have A3 := Aside0.mk A30
 clear A30
 replace H := Option.bind_eq_some_iff.mp H
 obtain ⟨⟨t363, t364, t365⟩, A40, H⟩ := H
 replace H : ((spec_l03DrawPitch.f t352 t364 t365).bind fun bt366 => (some (t356, t357, t363, bt366.1))) = some (r1, r2, r3, r4) := H
 have A4 := Aside0.mk A40
 clear A40
 replace H := Option.bind_eq_some_iff.mp H
 obtain ⟨⟨t366, t367, t368⟩, A50, H⟩ := H
 replace H : (some (t356, t357, t363, t366)) = some (r1, r2, r3, r4) := H
 have A5 := Aside0.mk A50
 clear A50
 simp only [Option.some.injEq, Prod.mk.injEq] at H
 obtain ⟨rfl, rfl, rfl, rfl⟩ := H
 go_enter Tryd.func49, Tryd.ntmps49
 try go_wp2_with (first | ((with_reducible refine gate_dst (N := 2) rfl ?_); refine box_event ?hg (N := 2) ?hd (cs := #[.string (⟨#[]⟩ : ByteArray), .slice none 0 0]) (t := 71) ?hr ?_; (case hd => rfl); (case hg => rfl); (case hr => first | (go_simp; done) | (go_simp; rfl)); intro gb351 hg w6 hbox hb; have BK351 := Aside0.mk (hbox); have GW351 := Aside0.mk ((by rw [hg]; exact (below_size (tH HB)) : w.heap.size ≤ gb351)); have GE351 := Aside0.mk ((by rw [hg]; exact (below_size (tH HB)) : w.heap.size ≤ gb351)); replace HB := Aside0.mk (below_step (tH HB) hb); clear hb hbox hg) | ((with_reducible refine gate_callee (f := 105) rfl ?_); refine gL_ (some 9) rfl rfl Tryd.func105 #[.slice A0 l0.length c0] rfl ?_; (with_reducible refine (spec_l00From.calls _ _ l0 t352 t353 t354 w _ ?side1 ?side2 ?side3 A2.out).mono ?_); (case side1 => exact tH1 HB GE351.out); (case side2 => exact HR0.out); (case side3 => exact HC0.out); rintro e w7 ⟨g355, rfl, hi, hb, hb2⟩; refine ⟨_, rfl, ?_⟩; replace HB := Aside0.mk (hb); have HI355 := Aside0.mk (hi); have NB355_351 := Aside0.mk (IsS179.ne_blk hi (blk_below (g := gb351) (o := .cells #[.string (⟨#[]⟩ : ByteArray), .slice none 0 0] 71 (0, 0)) (tB BK351) hb2) (by decide)); have NB351_355 := Aside0.mk (Ne.symm (IsS179.ne_blk hi (blk_below (g := gb351) (o := .cells #[.string (⟨#[]⟩ : ByteArray), .slice none 0 0] 71 (0, 0)) (tB BK351) hb2) (by decide))); replace BK351 := Aside0.mk (blk_below (g := gb351) (o := .cells #[.string (⟨#[]⟩ : ByteArray), .slice none 0 0] 71 (0, 0)) (tB BK351) hb2); (try clear hb); (try clear hb2); (try clear hk); (try clear hi)) | ((with_reducible refine gate_callee (f := 121) rfl ?_); refine gL_ (some 11) rfl rfl Tryd.func121 #[.pointer (some ⟨g355, 0, none⟩)] rfl ?_; (with_reducible refine (spec_l04Draw.calls k g355 t352 t353 t354 t356 t357 t360 t361 w _ ?side1 ?side2 A3.out).mono ?_); (case side1 => exact IsS179.t1 HI355 NB355_351); (case side2 => exact tH2 HB (IsS179.ge HI355.out) GE351.out); rintro e w8 ⟨v358, rfl, ho0, hi, hb, hk⟩; refine ⟨_, rfl, ?_⟩; replace BK351 := Aside0.mk (KeepBut.blk hk (g' := gb351) (o := .cells #[.string (⟨#[]⟩ : ByteArray), .slice none 0 0] 71 (0, 0)) (tB BK351) NB351_355.out (by simp)); have HO359 := Aside0.mk (Kd.R_lower ho0 (below_size (tH2 HB (IsS179.ge HI355.out) GE351.out))); replace HB := Aside0.mk (hb); replace HI355 := Aside0.mk (hi); (try clear hb); (try clear hb2); (try clear hk); (try clear hi); (try clear ho0)) | ((with_reducible refine gate_dst (N := 6) rfl ?_); refine box_event ?hg (N := 6) ?hd (cs := #[.string (⟨#[]⟩ : ByteArray), .slice none 0 0]) (t := 71) ?hr ?_; (case hd => rfl); (case hg => rfl); (case hr => first | (go_simp; done) | (go_simp; rfl)); intro gb362 hg w9 hbox hb; replace HO359 := Aside0.mk (Kd.R_below (tR HO359) hb); have BK362 := Aside0.mk (hbox); have GW362 := Aside0.mk ((by rw [hg]; exact (below_size (tH2 HB (IsS179.ge HI355.out) GE351.out)) : w.heap.size ≤ gb362)); have GE362 := Aside0.mk ((by rw [hg]; exact (below_size (tH2 HB (IsS179.ge HI355.out) GE351.out)) : w.heap.size ≤ gb362)); replace HB := Aside0.mk (below_step (tH2 HB (IsS179.ge HI355.out) GE351.out) hb); have NB351_362 := Aside0.mk ((by rw [hg]; exact Nat.ne_of_lt (blk_lt (g := gb351) (o := .cells #[.string (⟨#[]⟩ : ByteArray), .slice none 0 0] 71 (0, 0)) (tB BK351)) : gb351 ≠ gb362)); have NB362_351 := Aside0.mk ((by rw [hg]; exact Nat.ne_of_gt (blk_lt (g := gb351) (o := .cells #[.string (⟨#[]⟩ : ByteArray), .slice none 0 0] 71 (0, 0)) (tB BK351)) : gb362 ≠ gb351)); replace BK351 := Aside0.mk (blk_below (g := gb351) (o := .cells #[.string (⟨#[]⟩ : ByteArray), .slice none 0 0] 71 (0, 0)) (tB BK351) hb); have NB355_362 := Aside0.mk ((by rw [hg]; exact Nat.ne_of_lt (IsS179.lt (show IsS179 w _ g355 t352 t360 t361 from IsS179.t1 HI355 NB355_351)) : g355 ≠ gb362)); have NB362_355 := Aside0.mk ((by rw [hg]; exact Nat.ne_of_gt (IsS179.lt (show IsS179 w _ g355 t352 t360 t361 from IsS179.t1 HI355 NB355_351)) : gb362 ≠ g355)); replace HI355 := Aside0.mk (IsS179.below (IsS179.t1 HI355 NB355_351) hb); clear hb hbox hg; have hnb10 := NB362_351.out; have hnc10 := NB351_362.out; have hnb11 := NB362_355.out; have hnc11 := NB355_362.out; have hcz12_0 : w9.cell? ⟨gb362, 0, none⟩ = some (.string (⟨#[]⟩ : ByteArray)) := (blk_cell BK362.out 0).trans rfl; have hcz12_1 : w9.cell? ⟨gb362, 1, none⟩ = some (.slice none 0 0) := (blk_cell BK362.out 1).trans rfl; have hfz12_0 := blk_frozen BK362.out 0; have hfz12_1 := blk_frozen BK362.out 1; obtain ⟨Ao13, co13, eo13⟩ := Kd.R_slice HO359.out; subst eo13) | ((with_reducible refine gate_callee (f := 122) rfl ?_); refine gL_ (some 13) rfl rfl Tryd.func122 #[.pointer (some ⟨g355, 0, none⟩)] rfl ?_; (with_reducible refine (spec_l04DrawBase.calls g355 t352 t360 t361 t363 t364 t365 w _ ?side1 ?side2 A4.out).mono ?_); (case side1 => exact IsS179.t2 HI355 NB355_351 NB355_362); (case side2 => exact tH3 HB (IsS179.ge HI355.out) GE351.out GE362.out); rintro e w14 ⟨rfl, hi, hb, hk⟩; refine ⟨_, rfl, ?_⟩; replace BK351 := Aside0.mk (KeepBut.blk hk (g' := gb351) (o := .cells #[.string (⟨#[]⟩ : ByteArray), .slice none 0 0] 71 (0, 0)) (by (with_reducible repeat (first | refine blk_drewN ?_ _ | refine blk_drew ?_ | refine blk_alloc ?_ _)); refine blk_far ?_ NB351_362.out _; (with_reducible repeat (first | refine blk_drewN ?_ _ | refine blk_drew ?_ | refine blk_alloc ?_ _)); refine blk_far ?_ NB351_362.out _; (with_reducible repeat (first | refine blk_drewN ?_ _ | refine blk_drew ?_ | refine blk_alloc ?_ _)); exact BK351.out) NB351_355.out (by simp)); replace HO359 := Aside0.mk (Kd.R_mono (Kd.R_keep (IsS179.apart (show IsS179 w _ g355 t352 t360 t361 from IsS179.t2 HI355 NB355_351 NB355_362) (by (with_reducible repeat (first | apply qra | apply qrn | apply qrd)); exact (Kd.R_mono (Kd.R_far (p := ⟨gb362, 1, none⟩) (Kd.R_far (p := ⟨gb362, 0, none⟩) (Kd.R_types HO359.out BK362.out (by decide)) (fun _ hk => hk.2) (.string t356)) (fun _ hk => hk.2) (.slice Ao13 t357.length co13)) (fun _ h_ => h_.1))) (by decide)) hk (fun _ h => h.2)) (fun _ h => h.1)); replace BK362 := Aside0.mk (KeepBut.blk hk (g' := gb362) (o := .cells #[.string t356, .slice Ao13 t357.length co13] 71 (0, 0)) (by (with_reducible repeat (first | refine blk_drewN ?_ _ | refine blk_drew ?_ | refine blk_alloc ?_ _)); refine blk_put (cs := #[.string t356, .slice none 0 0]) ?_ 1 _ rfl; (with_reducible repeat (first | refine blk_drewN ?_ _ | refine blk_drew ?_ | refine blk_alloc ?_ _)); refine blk_put (cs := #[.string (⟨#[]⟩ : ByteArray), .slice none 0 0]) ?_ 0 _ rfl; (with_reducible repeat (first | refine blk_drewN ?_ _ | refine blk_drew ?_ | refine blk_alloc ?_ _)); exact BK362.out) NB362_355.out (by simp)); replace HB := Aside0.mk (hb); replace HI355 := Aside0.mk (hi); (try clear hb); (try clear hb2); (try clear hk); (try clear hi)))
 replace HO359 := Aside0.mk (Kd.R_drew HO359.out)
 replace BK351 := Aside0.mk (blk_drew BK351.out)
 replace BK362 := Aside0.mk (blk_drew BK362.out)
 replace HI355 := Aside0.mk (IsS179.drew HI355.out)
 replace HB := Aside0.mk (below_drew1 HB.out)
 refine start_ (n := 7) (S := fun w' => w'.cell? ⟨gb362, 0, none⟩ = some (.string t356) ∧ w'.cell? ⟨gb362, 1, none⟩ = some (.slice Ao13 t357.length co13)) (ds := []) (bq [0, 7]) (by kernel_rfl) rfl rfl ⟨(blk_cell BK362.out 0).trans rfl, (blk_cell BK362.out 1).trans rfl⟩ (fun hHeld => ?_)
 generalize w14.drew = w15 at HO359 BK351 BK362 HI355 HB hHeld ⊢
 refine pv_ (i := 1) (N := some 15) (bq [0, 1, 1, 5]) rfl rfl ?_
 refine pv_ (i := 2) (N := some 16) (bq [0, 1, 2, 4]) rfl rfl ?_
 refine take_ (i := 0) (N := some 14) (v := ?_) (a' := ?_) (bq [3, 4]) rfl rfl (by kernel_rfl) (fun _ _ _ h => h) (Or.inl ⟨by rfl, ?_⟩) hHeld ?_ ?_
 rotate_left
 · rintro w' ⟨s0, s1⟩
   go_simp
   with_reducible rfl
 rotate_left
 · simp only [Act.put, sx0, sx1, sx2, i64_w, i32_w]
   rfl
 refine one_ (i := 3) (N := some 17) (bq [4, 3]) rfl rfl (by kernel_rfl) (by decide) (fun K hK => ?_)
 refine gS_ Tryd.func123 #[.pointer (some ⟨g355, 0, none⟩)] rfl rfl ?_
 with_reducible refine (spec_l03DrawPitch.calls g355 t352 t364 t365 t366 t367 t368 w _ ?side1 ?side2 A5.out).mono ?_
 (case side1 => exact IsS179.t2 HI355 NB355_351 NB355_362)
 (case side2 => exact tH3 HB (IsS179.ge HI355.out) GE351.out GE362.out)
 rintro e w16 ⟨rfl, hi, hb, hk⟩
 refine ⟨_, rfl, ?_⟩
 replace BK351 := Aside0.mk (KeepBut.blk hk (g' := gb351) (o := .cells #[.string (⟨#[]⟩ : ByteArray), .slice none 0 0] 71 (0, 0)) (tB BK351) NB351_355.out (by simp))
 replace HO359 := Aside0.mk (Kd.R_mono (Kd.R_keep (IsS179.apart (show IsS179 w _ g355 t352 t364 t365 from IsS179.t2 HI355 NB355_351 NB355_362) (tR HO359) (by decide)) hk (fun _ h => h.2)) (fun _ h => h.1))
 replace BK362 := tKB hk BK362 NB362_355.out
 replace HB := Aside0.mk (hb)
 replace HI355 := Aside0.mk (hi)
 (try clear hb)
 (try clear hb2)
 (try clear hk)
 (try clear hi)
 refine hK.out _ _ ⟨(blk_cell BK362.out 0).trans rfl, (blk_cell BK362.out 1).trans rfl⟩ (fun hHeld => ?_)
 clear hK K
 refine nO (some 17) ?_
 refine one_ (i := 4) (N := none) (bq [5, 2]) rfl rfl (by kernel_rfl) (by decide) (fun K hK => ?_)
 have hs17 : w16.cell? ⟨gb351, 0, none⟩ = some (.string (⟨#[]⟩ : ByteArray)) := (blk_cell BK351.out 0).trans rfl
 have hfs17 := blk_frozen BK351.out 0
 have hns17_1 := NB362_351.out
 have hms17_1 := NB351_362.out
 have hs18 : w16.cell? ⟨gb351, 1, none⟩ = some (.slice none 0 0) := (blk_cell BK351.out 1).trans rfl
 have hfs18 := blk_frozen BK351.out 1
 have hns18_1 := NB362_351.out
 have hms18_1 := NB351_362.out
 refine skip_ (w1 := ?_) (by rfl) rfl ?_ ?_
 rotate_left
 · go_simp
   rfl
 refine hK.out _ _ ⟨((cell_far (p := ⟨gb351, _, none⟩) NB362_351.out _).trans (((cell_far (p := ⟨gb351, _, none⟩) NB362_351.out _).trans (hHeld.1)))), ((cell_far (p := ⟨gb351, _, none⟩) NB362_351.out _).trans (((cell_far (p := ⟨gb351, _, none⟩) NB362_351.out _).trans (hHeld.2))))⟩ (fun hHeld => ?_)
 clear hK K
 refine pv_ (i := 5) (N := some 3) (bq [6, 1]) rfl rfl ?_
 refine pv_ (i := 6) (N := some 4) (bq [7]) rfl rfl ?_
 refine done_ (by kernel_rfl) ?_
 try go_wp2
 refine bodyPost_ret (results_ctt rfl _ _ gb351 71 #[.string t356, .slice Ao13 t357.length co13] (0, 0) _ rfl (by (with_reducible repeat (first | refine blk_drewN ?_ _ | refine blk_drew ?_ | refine blk_alloc ?_ _)); refine blk_put (cs := #[.string t356, .slice none 0 0]) ?_ 1 _ rfl; (with_reducible repeat (first | refine blk_drewN ?_ _ | refine blk_drew ?_ | refine blk_alloc ?_ _)); refine blk_put (cs := #[.string (⟨#[]⟩ : ByteArray), .slice none 0 0]) ?_ 0 _ rfl; (with_reducible repeat (first | refine blk_drewN ?_ _ | refine blk_drew ?_ | refine blk_alloc ?_ _)); exact BK351.out) Tryd.underlying71 rfl (by kernel_rfl)) rfl ?_
 exact ⟨_, tE, by (with_reducible repeat (first | apply qra | apply qrn | apply qrd)); exact Kd.R_mono (Kd.R_far (p := ⟨gb351, 1, none⟩) (Kd.R_far (p := ⟨gb351, 0, none⟩) (Kd.R_types HO359.out BK351.out (by decide)) (fun _ hk => hk.2) (.string t356)) (fun _ hk => hk.2) (.slice Ao13 t357.length co13)) (fun _ hk => trivial), tH3 HB (IsS179.ge HI355.out) GE351.out GE362.out⟩

/-! ### impl_FrequencyOf: function 50 -/
def impl_FrequencyOf.f (k : Nat) (a0_0 : ByteArray) (l0_1 : List (S52)) (a1 : Int) (a2 : Int) : Option (Int × Int) := (impl_tuningCode.f k a0_0 l0_1 a1 (([a2] : List Int))).bind fun t373 => (if t373 = 0 then ((impl_Tuning_frequency.f a0_0 l0_1 a1 a2).bind fun t374 => (some (t374, 0))) else (some (0, t373)))
theorem impl_FrequencyOf.mono : ∀ a0 a1 a2 a3 k, LeO (impl_FrequencyOf.f k a0 a1 a2 a3) (impl_FrequencyOf.f (k + 1) a0 a1 a2 a3) := by
 intro a0 a1 a2 a3 k
 unfold impl_FrequencyOf.f
 repeat' first
  | (with_reducible exact impl_tuningCode.mono _ _ _ _ _)
  | (with_reducible exact LeO.refl _)
  | (with_reducible exact LeO.none _)
  | (with_reducible refine LeO.ite ?_ ?_)
  | (with_reducible refine LeO.bind ?_ (fun _ => ?_))
  | exact impl_tuningCode.mono _ _ _ _ _
  | exact LeO.none _
  | refine LeO.ite ?_ ?_
  | refine LeO.bind ?_ (fun _ => ?_)
set_option maxHeartbeats 8000000 in
set_option maxRecDepth 100000 in
theorem impl_FrequencyOf.calls (k : Nat) (a0_0 : ByteArray) (A0_1 : Option Addr) (c0_1 : Nat) (l0_1 : List (S52)) (a1 : Int) (a2 : Int) (r1 : Int) (r2 : Int) (w : World) (hr0_1 : Kd.C k52 w A0_1 l0_1.length l0_1) (hc0_1 : l0_1.length ≤ c0_1) (h : impl_FrequencyOf.f k a0_0 l0_1 a1 a2 = some (r1, r2)) :
 Calls Tryd.prog 50 #[.agg #[.string a0_0, .slice A0_1 l0_1.length c0_1], .int .i64 a1, .int .i64 a2] w fun e w' => e = .returned (.tuple #[.int .i64 r1, .int .i64 r2]) ∧ Below w.heap.size w w' := by
 have hu71 := Tryd.underlying71
 have HR0_1 := Aside0.mk hr0_1
 have HC0_1 := Aside0.mk hc0_1
 clear hr0_1 hc0_1
 have HB := Aside0.mk (Below.refl w.heap.size w)
 have H : ((impl_tuningCode.f k a0_0 l0_1 a1 (([a2] : List Int))).bind fun t373 => (if t373 = 0 then ((impl_Tuning_frequency.f a0_0 l0_1 a1 a2).bind fun t374 => (some (t374, 0))) else (some (0, t373)))) = some (r1, r2) := h
 clear h
 obtain ⟨y370, hy370⟩ : ∃ y_ : List Int, y_ = (([a2] : List Int)) := ⟨_, rfl⟩
 replace H : ((impl_tuningCode.f k a0_0 l0_1 a1 y370).bind fun t373 => (if t373 = 0 then ((impl_Tuning_frequency.f a0_0 l0_1 a1 a2).bind fun t374 => (some (t374, 0))) else (some (0, t373)))) = some (r1, r2) := by first | (rw [hy370]; with_reducible exact H) | (have H2_ := (Option.bind_some _ _).symm.trans H; rw [hy370]; with_reducible exact H2_) | (have H2_ := (Option.bind_some _ _).symm.trans H; with_reducible exact H2_) | with_reducible exact H | (rw [hy370]; exact H) | exact H
 have Ny370 := Aside0.mk hy370
 clear hy370
 replace H := Option.bind_eq_some_iff.mp H
 obtain ⟨t373, A40, H⟩ := H
 replace H : (if t373 = 0 then ((impl_Tuning_frequency.f a0_0 l0_1 a1 a2).bind fun t374 => (some (t374, 0))) else (some (0, t373))) = some (r1, r2) := H
 have A4 := Aside0.mk A40
 clear A40
 by_cases c5 : t373 = 0
 · rw [if_pos c5] at H
   have c5b0 : (t373 == 0) = true := beq_iff_eq.mpr c5
   have c5b1 : (t373 != 0) = false := bne_eq_false_iff_eq.mpr c5
   clear c5
   replace H := Option.bind_eq_some_iff.mp H
   obtain ⟨t374, A60, H⟩ := H
   replace H : (some (t374, 0)) = some (r1, r2) := H
   have A6 := Aside0.mk A60
   clear A60
   simp only [Option.some.injEq, Prod.mk.injEq] at H
   obtain ⟨rfl, rfl⟩ := H
   go_enter Tryd.func50, Tryd.ntmps50
   go_wp2_with (first | ((with_reducible refine gate_dst (N := 3) rfl ?_); refine box_event ?hg (N := 3) ?hd (cs := #[.string a0_0, .slice A0_1 l0_1.length c0_1]) (t := 71) ?hr ?_; (case hd => rfl); (case hg => rfl); (case hr => first | (go_simp; done) | (go_simp; rfl)); intro gb369 hg w7 hbox hb; have BK369 := Aside0.mk (hbox); have GW369 := Aside0.mk ((by rw [hg]; exact (below_size (tH HB)) : w.heap.size ≤ gb369)); have GE369 := Aside0.mk ((by rw [hg]; exact (below_size (tH HB)) : w.heap.size ≤ gb369)); replace HB := Aside0.mk (below_step (tH HB) hb); clear hb hbox hg; have hcz8_0 : w7.cell? ⟨gb369, 0, none⟩ = some (.string a0_0) := (blk_cell BK369.out 0).trans rfl; have hcz8_1 : w7.cell? ⟨gb369, 1, none⟩ = some (.slice A0_1 l0_1.length c0_1) := (blk_cell BK369.out 1).trans rfl; have hfz8_0 := blk_frozen BK369.out 0; have hfz8_1 := blk_frozen BK369.out 1) | ((with_reducible refine gate_dst (N := 12) rfl ?_); refine Kd.R_lit (Kd.int .i64) _ 2 ?hg (N := 12) ?hd (xs := ([a2] : List Int)) (inner := [.int .i64 a2]) (ok := fun _ => True) (okp := fun _ => True) ?hr ?hp (fun _ hk => hk) trivial (Below.refl _ _) (Nat.le_refl _) (by simp) ?_; (case hd => rfl); (case hg => rfl); (case hr => first | (go_simp; done) | (go_simp; rfl)); (case hp => exact (Reps.one (show Kd.M (Kd.int .i64) _ _ _ a2 [.int .i64 a2] from rfl) (Reps.none _ _))); intro v371 w9 ho10 hb hg_ hnew_; clear hg_ hnew_; (first | rw [← Ny370.out] at ho10 | (simp only [Int.reduceToNat] at ho10; rw [← Ny370.out] at ho10)); have HO372 := Aside0.mk (Kd.R_lower ho10 (below_size (tH1 HB GE369.out))); replace BK369 := tbB BK369 hb; replace HB := Aside0.mk (below_step (tH1 HB GE369.out) hb); clear hb ho10; obtain ⟨Ao11, co11, eo11⟩ := Kd.R_slice HO372.out; subst eo11) | ((with_reducible refine gate_callee (f := 124) rfl ?_); refine gL_ (some 13) rfl rfl Tryd.func124 #[.agg #[.string a0_0, .slice A0_1 l0_1.length c0_1], .int .i64 a1, .slice Ao11 y370.length co11] rfl ?_; (with_reducible refine (impl_tuningCode.calls k a0_0 _ _ l0_1 a1 _ _ y370 t373 _ ?side1 ?side2 ?side3 ?side4 A4.out).mono ?_); (case side1 => exact tC (Kd.C_below HR0_1.out HB.out)); (case side2 => exact HC0_1.out); (case side3 => exact tC (Kd.R_reads' HO372.out).2.2); (case side4 => exact (Kd.R_reads' HO372.out).2.1); rintro e w12 ⟨rfl, hb⟩; refine ⟨_, rfl, ?_⟩; replace HO372 := Aside0.mk (Kd.R_below (tR HO372) hb); replace BK369 := tbB BK369 hb; replace HB := Aside0.mk (below_step (tH1 HB GE369.out) hb); (try clear hb); (try clear hb2); (try clear hk); (try clear hi); have hcz13_0 : w12.cell? ⟨gb369, 0, none⟩ = some (.string a0_0) := (blk_cell BK369.out 0).trans rfl; have hcz13_1 : w12.cell? ⟨gb369, 1, none⟩ = some (.slice A0_1 l0_1.length c0_1) := (blk_cell BK369.out 1).trans rfl; have hfz13_0 := blk_frozen BK369.out 0; have hfz13_1 := blk_frozen BK369.out 1) | ((with_reducible refine gate_callee (f := 125) rfl ?_); refine gL_ (some 20) rfl rfl Tryd.func125 #[.agg #[.string a0_0, .slice A0_1 l0_1.length c0_1], .int .i64 a1, .int .i64 a2] rfl ?_; (with_reducible refine (impl_Tuning_frequency.calls a0_0 _ _ l0_1 a1 a2 t374 _ ?side1 ?side2 A6.out).mono ?_); (case side1 => exact tC (Kd.C_below HR0_1.out HB.out)); (case side2 => exact HC0_1.out); rintro e w14 ⟨rfl, hb⟩; refine ⟨_, rfl, ?_⟩; replace HO372 := Aside0.mk (Kd.R_below (tR HO372) hb); replace BK369 := tbB BK369 hb; replace HB := Aside0.mk (below_step (tH1 HB GE369.out) hb); (try clear hb); (try clear hb2); (try clear hk); (try clear hi)))
   go_ret2
   exact ⟨tE, tH1 HB GE369.out⟩
 rw [if_neg c5] at H
 have c5b0 : (t373 == 0) = false := beq_eq_false_iff_ne.mpr c5
 have c5b1 : (t373 != 0) = true := bne_iff_ne.mpr c5
 simp only [Option.some.injEq, Prod.mk.injEq] at H
 obtain ⟨rfl, rfl⟩ := H
 go_enter Tryd.func50, Tryd.ntmps50
 go_wp2_with (first | ((with_reducible refine gate_dst (N := 3) rfl ?_); refine box_event ?hg (N := 3) ?hd (cs := #[.string a0_0, .slice A0_1 l0_1.length c0_1]) (t := 71) ?hr ?_; (case hd => rfl); (case hg => rfl); (case hr => first | (go_simp; done) | (go_simp; rfl)); intro gb369 hg w15 hbox hb; have BK369 := Aside0.mk (hbox); have GW369 := Aside0.mk ((by rw [hg]; exact (below_size (tH HB)) : w.heap.size ≤ gb369)); have GE369 := Aside0.mk ((by rw [hg]; exact (below_size (tH HB)) : w.heap.size ≤ gb369)); replace HB := Aside0.mk (below_step (tH HB) hb); clear hb hbox hg; have hcz16_0 : w15.cell? ⟨gb369, 0, none⟩ = some (.string a0_0) := (blk_cell BK369.out 0).trans rfl; have hcz16_1 : w15.cell? ⟨gb369, 1, none⟩ = some (.slice A0_1 l0_1.length c0_1) := (blk_cell BK369.out 1).trans rfl; have hfz16_0 := blk_frozen BK369.out 0; have hfz16_1 := blk_frozen BK369.out 1) | ((with_reducible refine gate_dst (N := 12) rfl ?_); refine Kd.R_lit (Kd.int .i64) _ 2 ?hg (N := 12) ?hd (xs := ([a2] : List Int)) (inner := [.int .i64 a2]) (ok := fun _ => True) (okp := fun _ => True) ?hr ?hp (fun _ hk => hk) trivial (Below.refl _ _) (Nat.le_refl _) (by simp) ?_; (case hd => rfl); (case hg => rfl); (case hr => first | (go_simp; done) | (go_simp; rfl)); (case hp => exact (Reps.one (show Kd.M (Kd.int .i64) _ _ _ a2 [.int .i64 a2] from rfl) (Reps.none _ _))); intro v371 w17 ho18 hb hg_ hnew_; clear hg_ hnew_; (first | rw [← Ny370.out] at ho18 | (simp only [Int.reduceToNat] at ho18; rw [← Ny370.out] at ho18)); have HO372 := Aside0.mk (Kd.R_lower ho18 (below_size (tH1 HB GE369.out))); replace BK369 := tbB BK369 hb; replace HB := Aside0.mk (below_step (tH1 HB GE369.out) hb); clear hb ho18; obtain ⟨Ao19, co19, eo19⟩ := Kd.R_slice HO372.out; subst eo19) | ((with_reducible refine gate_callee (f := 124) rfl ?_); refine gL_ (some 13) rfl rfl Tryd.func124 #[.agg #[.string a0_0, .slice A0_1 l0_1.length c0_1], .int .i64 a1, .slice Ao19 y370.length co19] rfl ?_; (with_reducible refine (impl_tuningCode.calls k a0_0 _ _ l0_1 a1 _ _ y370 t373 _ ?side1 ?side2 ?side3 ?side4 A4.out).mono ?_); (case side1 => exact tC (Kd.C_below HR0_1.out HB.out)); (case side2 => exact HC0_1.out); (case side3 => exact tC (Kd.R_reads' HO372.out).2.2); (case side4 => exact (Kd.R_reads' HO372.out).2.1); rintro e w20 ⟨rfl, hb⟩; refine ⟨_, rfl, ?_⟩; replace HO372 := Aside0.mk (Kd.R_below (tR HO372) hb); replace BK369 := tbB BK369 hb; replace HB := Aside0.mk (below_step (tH1 HB GE369.out) hb); (try clear hb); (try clear hb2); (try clear hk); (try clear hi)))
 go_ret2
 exact ⟨tE, tH1 HB GE369.out⟩

/-! ### impl_Ratio_octave: function 111 -/
mutual
def impl_Ratio_octave.l0 : Nat → Int → Int → Int → Option (Int × Int × Int)
 | 0, _, _, _ => none
 | k + 1, x5, x6, x7 => if x5 ≥ (wrap64 (2 * x6)) then (impl_Ratio_octave.l0 k x5 (wrap64 (x6 * 2)) (wrap64 (x7 + 1))) else (impl_Ratio_octave.l1 k x5 x6 x7)
def impl_Ratio_octave.l1 : Nat → Int → Int → Int → Option (Int × Int × Int)
 | 0, _, _, _ => none
 | k + 1, x5, x6, x7 => if x5 < x6 then (impl_Ratio_octave.l1 k (wrap64 (x5 * 2)) x6 (wrap64 (x7 - 1))) else (some (x5, x6, x7))
end
def impl_Ratio_octave.f (k : Nat) (a0_0 : Int) (a0_1 : Int) : Option (Int × Int × Int) := impl_Ratio_octave.l0 k a0_0 a0_1 0
theorem impl_Ratio_octave.mono_l : ∀ k, (∀ y0 y1 y2, LeO (impl_Ratio_octave.l0 k y0 y1 y2) (impl_Ratio_octave.l0 (k + 1) y0 y1 y2)) ∧ (∀ y0 y1 y2, LeO (impl_Ratio_octave.l1 k y0 y1 y2) (impl_Ratio_octave.l1 (k + 1) y0 y1 y2))
 | 0 => ⟨fun _ _ _ r h => by simp [impl_Ratio_octave.l0] at h, fun _ _ _ r h => by simp [impl_Ratio_octave.l1] at h⟩
 | k + 1 => by
  obtain ⟨ih0, ih1⟩ := impl_Ratio_octave.mono_l k
  refine ⟨?_, ?_⟩
  all_goals (intros; (first | unfold impl_Ratio_octave.l0 | unfold impl_Ratio_octave.l1); repeat' first
   | (with_reducible exact ih0 _ _ _)
   | (with_reducible exact ih1 _ _ _)
   | (with_reducible exact LeO.refl _)
   | (with_reducible exact LeO.none _)
   | (with_reducible refine LeO.ite ?_ ?_)
   | (with_reducible refine LeO.bind ?_ (fun _ => ?_))
   | exact ih0 _ _ _
   | exact ih1 _ _ _
   | exact LeO.none _
   | refine LeO.ite ?_ ?_
   | refine LeO.bind ?_ (fun _ => ?_))
theorem impl_Ratio_octave.mono : ∀ a0 a1 k, LeO (impl_Ratio_octave.f k a0 a1) (impl_Ratio_octave.f (k + 1) a0 a1) := by
 intro a0 a1 k
 obtain ⟨ih0, ih1⟩ := impl_Ratio_octave.mono_l k
 unfold impl_Ratio_octave.f
 repeat' first
  | (with_reducible exact ih0 _ _ _)
  | (with_reducible exact ih1 _ _ _)
  | (with_reducible exact LeO.refl _)
  | (with_reducible exact LeO.none _)
  | (with_reducible refine LeO.ite ?_ ?_)
  | (with_reducible refine LeO.bind ?_ (fun _ => ?_))
  | exact ih0 _ _ _
  | exact ih1 _ _ _
  | exact LeO.none _
  | refine LeO.ite ?_ ?_
  | refine LeO.bind ?_ (fun _ => ?_)
set_option maxHeartbeats 8000000 in
set_option maxRecDepth 100000 in
theorem impl_Ratio_octave.calls (k : Nat) (a0_0 : Int) (a0_1 : Int) (r1 : Int) (r2 : Int) (r3 : Int) (w : World) (h : impl_Ratio_octave.f k a0_0 a0_1 = some (r1, r2, r3)) :
 Calls Tryd.prog 111 #[.agg #[.int .i64 a0_0, .int .i64 a0_1]] w fun e w' => e = .returned (.tuple #[.int .i64 r1, .int .i64 r2, .int .i64 r3]) ∧ Below w.heap.size w w' := by
 have hu52 := Tryd.underlying52
 have HB := Aside0.mk (Below.refl w.heap.size w)
 have H : (impl_Ratio_octave.l0 k a0_0 a0_1 0) = some (r1, r2, r3) := h
 clear h
 have H' := Aside0.mk H
 clear H
 go_enter Tryd.func111, Tryd.ntmps111
 go_wp2_with (first | ((with_reducible refine gate_dst (N := 1) rfl ?_); refine box_event ?hg (N := 1) ?hd (cs := #[.int .i64 a0_0, .int .i64 a0_1]) (t := 52) ?hr ?_; (case hd => rfl); (case hg => rfl); (case hr => first | (go_simp; done) | (go_simp; rfl)); intro gb375 hg w2 hbox hb; have BK375 := Aside0.mk (hbox); have GW375 := Aside0.mk ((by rw [hg]; exact (below_size (tH HB)) : w.heap.size ≤ gb375)); have GE375 := Aside0.mk ((by rw [hg]; exact (below_size (tH HB)) : w.heap.size ≤ gb375)); replace HB := Aside0.mk (below_step (tH HB) hb); clear hb hbox hg; have hcz3_0 : w2.cell? ⟨gb375, 0, none⟩ = some (.int .i64 a0_0) := (blk_cell BK375.out 0).trans rfl; have hcz3_1 : w2.cell? ⟨gb375, 1, none⟩ = some (.int .i64 a0_1) := (blk_cell BK375.out 1).trans rfl; have hfz3_0 := blk_frozen BK375.out 0; have hfz3_1 := blk_frozen BK375.out 1))
 repeat (go_quiet (first | ((with_reducible refine gate_dst (N := 1) rfl ?_); refine box_event ?hg (N := 1) ?hd (cs := #[.int .i64 a0_0, .int .i64 a0_1]) (t := 52) ?hr ?_; (case hd => rfl); (case hg => rfl); (case hr => first | (go_simp; done) | (go_simp; rfl)); intro gb375 hg w2 hbox hb; have BK375 := Aside0.mk (hbox); have GW375 := Aside0.mk ((by rw [hg]; exact (below_size (tH HB)) : w.heap.size ≤ gb375)); have GE375 := Aside0.mk ((by rw [hg]; exact (below_size (tH HB)) : w.heap.size ≤ gb375)); replace HB := Aside0.mk (below_step (tH HB) hb); clear hb hbox hg; have hcz3_0 : w2.cell? ⟨gb375, 0, none⟩ = some (.int .i64 a0_0) := (blk_cell BK375.out 0).trans rfl; have hcz3_1 : w2.cell? ⟨gb375, 1, none⟩ = some (.int .i64 a0_1) := (blk_cell BK375.out 1).trans rfl; have hfz3_0 := blk_frozen BK375.out 0; have hfz3_1 := blk_frozen BK375.out 1)); try go_wp2_with (first | ((with_reducible refine gate_dst (N := 1) rfl ?_); refine box_event ?hg (N := 1) ?hd (cs := #[.int .i64 a0_0, .int .i64 a0_1]) (t := 52) ?hr ?_; (case hd => rfl); (case hg => rfl); (case hr => first | (go_simp; done) | (go_simp; rfl)); intro gb375 hg w2 hbox hb; have BK375 := Aside0.mk (hbox); have GW375 := Aside0.mk ((by rw [hg]; exact (below_size (tH HB)) : w.heap.size ≤ gb375)); have GE375 := Aside0.mk ((by rw [hg]; exact (below_size (tH HB)) : w.heap.size ≤ gb375)); replace HB := Aside0.mk (below_step (tH HB) hb); clear hb hbox hg; have hcz3_0 : w2.cell? ⟨gb375, 0, none⟩ = some (.int .i64 a0_0) := (blk_cell BK375.out 0).trans rfl; have hcz3_1 : w2.cell? ⟨gb375, 1, none⟩ = some (.int .i64 a0_1) := (blk_cell BK375.out 1).trans rfl; have hfz3_0 := blk_frozen BK375.out 0; have hfz3_1 := blk_frozen BK375.out 1)))
 go_loopg [6, 7] k (fun kq v6 v7 w' => ∃ (x6_1 : Int) (x7_1 : Int), v6 = .int .i64 x6_1 ∧ v7 = .int .i64 x7_1 ∧ Aside0 (impl_Ratio_octave.l0 kq a0_0 x6_1 x7_1 = some (r1, r2, r3)) ∧ Aside0 (kq ≤ k) ∧ Aside0 (w'.heap[gb375]? = some (.cells #[.int .i64 a0_0, .int .i64 a0_1] 52 (0, 0))) ∧ Aside0 (Below w.heap.size w w'))
 case atStart => exact ⟨(a0_1), (0), tq, tq, H', ⟨Nat.le_refl _⟩, ⟨tB BK375⟩, ⟨tH1 HB GE375.out⟩⟩
 case round =>
 clear H'
 try clear c1
 try clear p2
 try clear hcz3_0 hcz3_1
 try clear hfz3_0 hfz3_1
 obtain ⟨x6_1, x7_1, rfl, rfl, HA, HK1, BK375, HB⟩ := hrel
 cases gk with
 | zero => exact absurd HA.out (by simp [impl_Ratio_octave.l0])
 | succ k1 =>
 have H := HA.out
 clear HA
 simp only [impl_Ratio_octave.l0] at H
 by_cases c4 : a0_0 ≥ (wrap64 (2 * x6_1))
 · rw [if_pos c4] at H
   have c4b0 : decide ((wrap64 (2 * x6_1)) ≤ a0_0) = true := decide_eq_true c4
   clear c4
   have H' := Aside0.mk H
   clear H
   go_wp2
   repeat (go_quiet (fail); try go_wp2)
   go_roundg k1
   case measure => have := HK1.out; omega
   case rel => exact ⟨(wrap64 (x6_1 * 2)), (wrap64 (x7_1 + 1)), tq, tq, H', ⟨by have := HK1.out; omega⟩, ⟨tB BK375⟩, ⟨tH1 HB GE375.out⟩⟩
 rw [if_neg c4] at H
 have c4b0 : decide ((wrap64 (2 * x6_1)) ≤ a0_0) = false := decide_eq_false c4
 clear c4
 have H' := Aside0.mk H
 clear H
 go_wp2
 repeat (go_quiet (fail); try go_wp2)
 go_loopg [5, 7] k1 (fun kq v5 v7 w' => ∃ (x5_2 : Int) (x7_2 : Int), v5 = .int .i64 x5_2 ∧ v7 = .int .i64 x7_2 ∧ Aside0 (impl_Ratio_octave.l1 kq x5_2 x6_1 x7_2 = some (r1, r2, r3)) ∧ Aside0 (kq ≤ k1) ∧ Aside0 (w'.heap[gb375]? = some (.cells #[.int .i64 a0_0, .int .i64 a0_1] 52 (0, 0))) ∧ Aside0 (Below w.heap.size w w'))
 case atStart => exact ⟨(a0_0), (x7_1), tq, tq, H', ⟨Nat.le_refl _⟩, ⟨tB BK375⟩, ⟨tH1 HB GE375.out⟩⟩
 case round =>
 clear H'
 try clear c1
 try clear p2
 try clear c4
 try clear c4b0
 try clear hcz3_0 hcz3_1
 try clear hfz3_0 hfz3_1
 try clear p2
 obtain ⟨x5_2, x7_2, rfl, rfl, HA, HK2, BK375, HB⟩ := hrel
 cases gk with
 | zero => exact absurd HA.out (by simp [impl_Ratio_octave.l1])
 | succ k2 =>
 have H := HA.out
 clear HA
 simp only [impl_Ratio_octave.l1] at H
 by_cases c5 : x5_2 < x6_1
 · rw [if_pos c5] at H
   have c5b0 : decide (x5_2 < x6_1) = true := decide_eq_true c5
   clear c5
   have H' := Aside0.mk H
   clear H
   go_wp2
   repeat (go_quiet (fail); try go_wp2)
   go_roundg k2
   case measure => have := HK1.out; have := HK2.out; omega
   case rel => exact ⟨(wrap64 (x5_2 * 2)), (wrap64 (x7_2 - 1)), tq, tq, H', ⟨by have := HK1.out; have := HK2.out; omega⟩, ⟨tB BK375⟩, ⟨tH1 HB GE375.out⟩⟩
 rw [if_neg c5] at H
 have c5b0 : decide (x5_2 < x6_1) = false := decide_eq_false c5
 clear c5
 simp only [Option.some.injEq, Prod.mk.injEq] at H
 obtain ⟨rfl, rfl, rfl⟩ := H
 go_wp2
 repeat (go_quiet (fail); try go_wp2)
 go_ret3
 exact ⟨tE, tH1 HB GE375.out⟩

end Go.Proofs.YtmeflmlejcmckaaDoor.PB
