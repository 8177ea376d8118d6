-- WRITTEN BY wip/gprint.py, a program of this session's over the kit's print, with contracts given by hand
import Derived.Test.YtmeflmlejcmckaaDoorPCx0
import Derived.Test.YtmeflmlejcmckaaDoorPCx1
import Derived.Test.YtmeflmlejcmckaaDoorPCx3
import Derived.Test.YtmeflmlejcmckaaDoorPCx4
namespace Go.Proofs.YtmeflmlejcmckaaDoor.PC
open Go.RowKit Go.Proofs.YtmeflmlejcmckaaDoorW.PrintWords Go.Proofs.YtmeflmlejcmckaaDoorW.PrintLast Go.Proofs.YtmeflmlejcmckaaDoorW.PrintMore
attribute [local go_sem] max2_int min2_int max_two min_two max_three min_three max_four min_four   -- for this text's walks alone
set_option linter.unusedVariables false
set_option linter.unusedSimpArgs false

attribute [local go_sem] isSome_setCell
/-! ### spec_DrawCompareRatios: function 34 -/
def spec_DrawCompareRatios.f (k : Nat) (l0 : List Int) : Option (Int × Int × Int × Int) := (spec_l00From.f l0).bind fun bt171 => ((spec_l02Draw.f k bt171.1 bt171.2.1 bt171.2.2).bind fun bt175 => ((spec_l00Src_one.f bt171.1 bt175.2.2.1 bt175.2.2.2 6).bind fun bt180 => (if bt180.1 = true then (some (bt175.1, bt175.2.1, bt175.1, bt175.2.1)) else ((spec_l02Draw.f k bt171.1 bt180.2.1 bt180.2.2).bind fun bt183 => (some (bt175.1, bt175.2.1, bt183.1, bt183.2.1))))))
theorem spec_DrawCompareRatios.mono : ∀ a0 k, LeO (spec_DrawCompareRatios.f k a0) (spec_DrawCompareRatios.f (k + 1) a0) := by
 intro a0 k
 unfold spec_DrawCompareRatios.f
 repeat' first
  | (with_reducible exact spec_l02Draw.mono _ _ _ _)
  | (with_reducible exact LeO.refl _)
  | (with_reducible exact LeO.none _)
  | (with_reducible refine LeO.ite ?_ ?_)
  | (with_reducible refine LeO.bind ?_ (fun _ => ?_))
  | exact spec_l02Draw.mono _ _ _ _
  | exact LeO.none _
  | refine LeO.ite ?_ ?_
  | refine LeO.bind ?_ (fun _ => ?_)
set_option maxHeartbeats 8000000 in
set_option maxRecDepth 100000 in
theorem spec_DrawCompareRatios.calls (k : Nat) (A0 : Option Addr) (c0 : Nat) (l0 : List Int) (r1 : Int) (r2 : Int) (r3 : Int) (r4 : Int) (w : World) (hr0 : Kd.C (Kd.int .u8) w A0 l0.length l0) (hc0 : l0.length ≤ c0) (h : spec_DrawCompareRatios.f k l0 = some (r1, r2, r3, r4)) :
 Calls Tryd.prog 34 #[.slice A0 l0.length c0] w fun e w' => e = .returned (.tuple #[.agg #[.int .i64 r1, .int .i64 r2], .agg #[.int .i64 r3, .int .i64 r4]]) ∧ Below w.heap.size w w' := by
 have hu52 := Tryd.underlying52
 have HR0 := Aside0.mk hr0
 have HC0 := Aside0.mk hc0
 clear hr0 hc0
 have HB := Aside0.mk (Below.refl w.heap.size w)
 have H : ((spec_l00From.f l0).bind fun bt171 => ((spec_l02Draw.f k bt171.1 bt171.2.1 bt171.2.2).bind fun bt175 => ((spec_l00Src_one.f bt171.1 bt175.2.2.1 bt175.2.2.2 6).bind fun bt180 => (if bt180.1 = true then (some (bt175.1, bt175.2.1, bt175.1, bt175.2.1)) else ((spec_l02Draw.f k bt171.1 bt180.2.1 bt180.2.2).bind fun bt183 => (some (bt175.1, bt175.2.1, bt183.1, bt183.2.1))))))) = some (r1, r2, r3, r4) := h
 clear h
 replace H := Option.bind_eq_some_iff.mp H
 obtain ⟨⟨t171, t172, t173⟩, A20, H⟩ := H
 replace H : ((spec_l02Draw.f k t171 t172 t173).bind fun bt175 => ((spec_l00Src_one.f t171 bt175.2.2.1 bt175.2.2.2 6).bind fun bt180 => (if bt180.1 = true then (some (bt175.1, bt175.2.1, bt175.1, bt175.2.1)) else ((spec_l02Draw.f k t171 bt180.2.1 bt180.2.2).bind fun bt183 => (some (bt175.1, bt175.2.1, bt183.1, bt183.2.1)))))) = some (r1, r2, r3, r4) := H
 have A2 := Aside0.mk A20
 clear A20
 replace H := Option.bind_eq_some_iff.mp H
 obtain ⟨⟨t175, t176, t177, t178⟩, A30, H⟩ := H
 replace H : ((spec_l00Src_one.f t171 t177 t178 6).bind fun bt180 => (if bt180.1 = true then (some (t175, t176, t175, t176)) else ((spec_l02Draw.f k t171 bt180.2.1 bt180.2.2).bind fun bt183 => (some (t175, t176, bt183.1, bt183.2.1))))) = some (r1, r2, r3, r4) := H
 have A3 := Aside0.mk A30
 clear A30
 replace H := Option.bind_eq_some_iff.mp H
 obtain ⟨⟨t180, t181, t182⟩, A40, H⟩ := H
 replace H : (if t180 = true then (some (t175, t176, t175, t176)) else ((spec_l02Draw.f k t171 t181 t182).bind fun bt183 => (some (t175, t176, bt183.1, bt183.2.1)))) = some (r1, r2, r3, r4) := H
 have A4 := Aside0.mk A40
 clear A40
 by_cases c5 : t180 = true
 · subst c5
   have H1 : (some (t175, t176, t175, t176)) = some (r1, r2, r3, r4) := by rw [if_pos rfl] at H; exact H
   clear H
   have H := H1
   clear H1
   simp only [Option.some.injEq, Prod.mk.injEq] at H
   obtain ⟨rfl, rfl, rfl, rfl⟩ := H
   go_enter Tryd.func34, Tryd.ntmps34
   try go_wp2_with (first | ((with_reducible refine gate_dst (N := 2) rfl ?_); refine box_event ?hg (N := 2) ?hd (cs := #[.int .i64 0, .int .i64 0]) (t := 52) ?hr ?_; (case hd => rfl); (case hg => rfl); (case hr => first | (go_simp; done) | (go_simp; rfl)); intro gb169 hg w6 hbox hb; have BK169 := Aside0.mk (hbox); have GW169 := Aside0.mk ((by rw [hg]; exact (below_size (tH HB)) : w.heap.size ≤ gb169)); have GE169 := Aside0.mk ((by rw [hg]; exact (below_size (tH HB)) : w.heap.size ≤ gb169)); replace HB := Aside0.mk (below_step (tH HB) hb); clear hb hbox hg) | ((with_reducible refine gate_dst (N := 3) rfl ?_); refine box_event ?hg (N := 3) ?hd (cs := #[.int .i64 0, .int .i64 0]) (t := 52) ?hr ?_; (case hd => rfl); (case hg => rfl); (case hr => first | (go_simp; done) | (go_simp; rfl)); intro gb170 hg w7 hbox hb; have BK170 := Aside0.mk (hbox); have GW170 := Aside0.mk ((by rw [hg]; exact (below_size (tH1 HB GE169.out)) : w.heap.size ≤ gb170)); have GE170 := Aside0.mk ((by rw [hg]; exact (below_size (tH1 HB GE169.out)) : w.heap.size ≤ gb170)); replace HB := Aside0.mk (below_step (tH1 HB GE169.out) hb); have NB169_170 := Aside0.mk ((by rw [hg]; exact Nat.ne_of_lt (blk_lt (g := gb169) (o := .cells #[.int .i64 0, .int .i64 0] 52 (0, 0)) (tB BK169)) : gb169 ≠ gb170)); have NB170_169 := Aside0.mk ((by rw [hg]; exact Nat.ne_of_gt (blk_lt (g := gb169) (o := .cells #[.int .i64 0, .int .i64 0] 52 (0, 0)) (tB BK169)) : gb170 ≠ gb169)); replace BK169 := tbB BK169 hb; clear hb hbox hg) | ((with_reducible refine gate_callee (f := 105) rfl ?_); refine gL_ (some 7) rfl rfl Tryd.func105 #[.slice A0 l0.length c0] rfl ?_; (with_reducible refine (spec_l00From.calls _ _ l0 t171 t172 t173 w _ ?side1 ?side2 ?side3 A2.out).mono ?_); (case side1 => exact tH2 HB GE169.out GE170.out); (case side2 => exact HR0.out); (case side3 => exact HC0.out); rintro e w8 ⟨g174, rfl, hi, hb, hb2⟩; refine ⟨_, rfl, ?_⟩; replace HB := Aside0.mk (hb); have HI174 := Aside0.mk (hi); have NB174_169 := Aside0.mk (IsS179.ne_blk hi (blk_below (g := gb169) (o := .cells #[.int .i64 0, .int .i64 0] 52 (0, 0)) (tB BK169) hb2) (by decide)); have NB169_174 := Aside0.mk (Ne.symm (IsS179.ne_blk hi (blk_below (g := gb169) (o := .cells #[.int .i64 0, .int .i64 0] 52 (0, 0)) (tB BK169) hb2) (by decide))); replace BK169 := Aside0.mk (blk_below (g := gb169) (o := .cells #[.int .i64 0, .int .i64 0] 52 (0, 0)) (tB BK169) hb2); have NB174_170 := Aside0.mk (IsS179.ne_blk hi (blk_below (g := gb170) (o := .cells #[.int .i64 0, .int .i64 0] 52 (0, 0)) (tB BK170) hb2) (by decide)); have NB170_174 := Aside0.mk (Ne.symm (IsS179.ne_blk hi (blk_below (g := gb170) (o := .cells #[.int .i64 0, .int .i64 0] 52 (0, 0)) (tB BK170) hb2) (by decide))); replace BK170 := Aside0.mk (blk_below (g := gb170) (o := .cells #[.int .i64 0, .int .i64 0] 52 (0, 0)) (tB BK170) hb2); (try clear hb); (try clear hb2); (try clear hk); (try clear hi)) | ((with_reducible refine gate_callee (f := 106) rfl ?_); refine gL_ (some 9) rfl rfl Tryd.func106 #[.pointer (some ⟨g174, 0, none⟩)] rfl ?_; (with_reducible refine (spec_l02Draw.calls k g174 t171 t172 t173 t175 t176 t177 t178 w _ ?side1 ?side2 A3.out).mono ?_); (case side1 => exact IsS179.t2 HI174 NB174_169 NB174_170); (case side2 => exact tH3 HB (IsS179.ge HI174.out) GE169.out GE170.out); rintro e w9 ⟨rfl, hi, hb, hk⟩; refine ⟨_, rfl, ?_⟩; replace BK169 := tKB hk BK169 NB169_174.out; replace BK170 := tKB hk BK170 NB170_174.out; replace HB := Aside0.mk (hb); replace HI174 := Aside0.mk (hi); (try clear hb); (try clear hb2); (try clear hk); (try clear hi)) | ((with_reducible refine gate_dst (N := 5) rfl ?_); refine box_event ?hg (N := 5) ?hd (cs := #[.int .i64 0, .int .i64 0]) (t := 52) ?hr ?_; (case hd => rfl); (case hg => rfl); (case hr => first | (go_simp; done) | (go_simp; rfl)); intro gb179 hg w10 hbox hb; have BK179 := Aside0.mk (hbox); have GW179 := Aside0.mk ((by rw [hg]; exact (below_size (tH3 HB (IsS179.ge HI174.out) GE169.out GE170.out)) : w.heap.size ≤ gb179)); have GE179 := Aside0.mk ((by rw [hg]; exact (below_size (tH3 HB (IsS179.ge HI174.out) GE169.out GE170.out)) : w.heap.size ≤ gb179)); replace HB := Aside0.mk (below_step (tH3 HB (IsS179.ge HI174.out) GE169.out GE170.out) hb); have NB169_179 := Aside0.mk ((by rw [hg]; exact Nat.ne_of_lt (blk_lt (g := gb169) (o := .cells #[.int .i64 0, .int .i64 0] 52 (0, 0)) (tB BK169)) : gb169 ≠ gb179)); have NB179_169 := Aside0.mk ((by rw [hg]; exact Nat.ne_of_gt (blk_lt (g := gb169) (o := .cells #[.int .i64 0, .int .i64 0] 52 (0, 0)) (tB BK169)) : gb179 ≠ gb169)); replace BK169 := tbB BK169 hb; have NB170_179 := Aside0.mk ((by rw [hg]; exact Nat.ne_of_lt (blk_lt (g := gb170) (o := .cells #[.int .i64 0, .int .i64 0] 52 (0, 0)) (tB BK170)) : gb170 ≠ gb179)); have NB179_170 := Aside0.mk ((by rw [hg]; exact Nat.ne_of_gt (blk_lt (g := gb170) (o := .cells #[.int .i64 0, .int .i64 0] 52 (0, 0)) (tB BK170)) : gb179 ≠ gb170)); replace BK170 := tbB BK170 hb; have NB174_179 := Aside0.mk ((by rw [hg]; exact Nat.ne_of_lt (IsS179.lt (show IsS179 w _ g174 t171 t177 t178 from IsS179.t2 HI174 NB174_169 NB174_170)) : g174 ≠ gb179)); have NB179_174 := Aside0.mk ((by rw [hg]; exact Nat.ne_of_gt (IsS179.lt (show IsS179 w _ g174 t171 t177 t178 from IsS179.t2 HI174 NB174_169 NB174_170)) : gb179 ≠ g174)); replace HI174 := Aside0.mk (IsS179.below (IsS179.t2 HI174 NB174_169 NB174_170) hb); clear hb hbox hg; have hnb11 := NB179_169.out; have hnc11 := NB169_179.out; have hnb12 := NB179_170.out; have hnc12 := NB170_179.out; have hnb13 := NB179_174.out; have hnc13 := NB174_179.out; have hcz14_0 : w10.cell? ⟨gb179, 0, none⟩ = some (.int .i64 0) := (blk_cell BK179.out 0).trans rfl; have hcz14_1 : w10.cell? ⟨gb179, 1, none⟩ = some (.int .i64 0) := (blk_cell BK179.out 1).trans rfl; have hfz14_0 := blk_frozen BK179.out 0; have hfz14_1 := blk_frozen BK179.out 1) | ((with_reducible refine gate_callee (f := 107) rfl ?_); refine gL_ (some 11) rfl rfl Tryd.func107 #[.pointer (some ⟨g174, 0, none⟩), .int .i64 6] rfl ?_; (with_reducible refine (spec_l00Src_one.calls g174 t171 t177 t178 6 true t181 t182 w _ ?side1 ?side2 A4.out).mono ?_); (case side1 => exact IsS179.t3 HI174 NB174_169 NB174_170 NB174_179); (case side2 => exact tH4 HB (IsS179.ge HI174.out) GE169.out GE170.out GE179.out); rintro e w15 ⟨rfl, hi, hb, hk⟩; refine ⟨_, rfl, ?_⟩; replace BK169 := Aside0.mk (KeepBut.blk hk (g' := gb169) (o := .cells #[.int .i64 0, .int .i64 0] 52 (0, 0)) (by (with_reducible repeat (first | refine blk_drewN ?_ _ | refine blk_drew ?_ | refine blk_alloc ?_ _)); refine blk_far ?_ NB169_179.out _; (with_reducible repeat (first | refine blk_drewN ?_ _ | refine blk_drew ?_ | refine blk_alloc ?_ _)); refine blk_far ?_ NB169_179.out _; (with_reducible repeat (first | refine blk_drewN ?_ _ | refine blk_drew ?_ | refine blk_alloc ?_ _)); exact BK169.out) NB169_174.out (by simp)); replace BK170 := Aside0.mk (KeepBut.blk hk (g' := gb170) (o := .cells #[.int .i64 0, .int .i64 0] 52 (0, 0)) (by (with_reducible repeat (first | refine blk_drewN ?_ _ | refine blk_drew ?_ | refine blk_alloc ?_ _)); refine blk_far ?_ NB170_179.out _; (with_reducible repeat (first | refine blk_drewN ?_ _ | refine blk_drew ?_ | refine blk_alloc ?_ _)); refine blk_far ?_ NB170_179.out _; (with_reducible repeat (first | refine blk_drewN ?_ _ | refine blk_drew ?_ | refine blk_alloc ?_ _)); exact BK170.out) NB170_174.out (by simp)); replace BK179 := Aside0.mk (KeepBut.blk hk (g' := gb179) (o := .cells #[.int .i64 t175, .int .i64 t176] 52 (0, 0)) (by (with_reducible repeat (first | refine blk_drewN ?_ _ | refine blk_drew ?_ | refine blk_alloc ?_ _)); refine blk_put (cs := #[.int .i64 t175, .int .i64 0]) ?_ 1 _ rfl; (with_reducible repeat (first | refine blk_drewN ?_ _ | refine blk_drew ?_ | refine blk_alloc ?_ _)); refine blk_put (cs := #[.int .i64 0, .int .i64 0]) ?_ 0 _ rfl; (with_reducible repeat (first | refine blk_drewN ?_ _ | refine blk_drew ?_ | refine blk_alloc ?_ _)); exact BK179.out) NB179_174.out (by simp)); replace HB := Aside0.mk (hb); replace HI174 := Aside0.mk (hi); (try clear hb); (try clear hb2); (try clear hk); (try clear hi)))
   replace BK169 := Aside0.mk (blk_drew BK169.out)
   replace BK170 := Aside0.mk (blk_drew BK170.out)
   replace BK179 := Aside0.mk (blk_drew BK179.out)
   replace HI174 := Aside0.mk (IsS179.drew HI174.out)
   replace HB := Aside0.mk (below_drew1 HB.out)
   refine start_ (n := 4) (S := fun w' => w'.cell? ⟨gb179, 0, none⟩ = some (.int .i64 t175) ∧ w'.cell? ⟨gb179, 1, none⟩ = some (.int .i64 t176)) (ds := []) #[false, false, false, false] (by kernel_rfl) rfl rfl ⟨(blk_cell BK179.out 0).trans rfl, (blk_cell BK179.out 1).trans rfl⟩ (fun hHeld => ?_)
   generalize w15.drew = w16 at BK169 BK170 BK179 HI174 HB hHeld ⊢
   refine take_ (i := 0) (N := some 12) (v := ?_) (a' := ?_) #[true, false, false, false] rfl rfl (by kernel_rfl) (fun _ _ _ h => h) (Or.inl ⟨by rfl, ?_⟩) hHeld ?_ ?_
   rotate_left
   · rintro w' ⟨s0, s1⟩
     go_simp
     with_reducible rfl
   rotate_left
   · simp only [Act.put, sx0, sx1, sx2, i64_w, i32_w]
     rfl
   refine take_ (i := 1) (N := some 13) (v := ?_) (a' := ?_) #[true, true, false, false] rfl rfl (by kernel_rfl) (fun _ _ _ h => h) (Or.inl ⟨by rfl, ?_⟩) hHeld ?_ ?_
   rotate_left
   · rintro w' ⟨s0, s1⟩
     go_simp
     with_reducible rfl
   rotate_left
   · simp only [Act.put, sx0, sx1, sx2, i64_w, i32_w]
     rfl
   refine one_ (i := 2) (N := none) #[true, true, true, false] rfl rfl (by kernel_rfl) (by decide) (fun K hK => ?_)
   have hs17 : w16.cell? ⟨gb169, 0, none⟩ = some (.int .i64 0) := (blk_cell BK169.out 0).trans rfl
   have hfs17 := blk_frozen BK169.out 0
   have hns17_1 := NB170_169.out
   have hns17_2 := NB179_169.out
   have hms17_1 := NB169_170.out
   have hms17_2 := NB169_179.out
   have hs18 : w16.cell? ⟨gb169, 1, none⟩ = some (.int .i64 0) := (blk_cell BK169.out 1).trans rfl
   have hfs18 := blk_frozen BK169.out 1
   have hns18_1 := NB170_169.out
   have hns18_2 := NB179_169.out
   have hms18_1 := NB169_170.out
   have hms18_2 := NB169_179.out
   refine skip_ (w1 := ?_) (by rfl) rfl ?_ ?_
   rotate_left
   · go_simp
     rfl
   refine hK.out _ _ ⟨((cell_far (p := ⟨gb169, _, none⟩) NB179_169.out _).trans (((cell_far (p := ⟨gb169, _, none⟩) NB179_169.out _).trans (hHeld.1)))), ((cell_far (p := ⟨gb169, _, none⟩) NB179_169.out _).trans (((cell_far (p := ⟨gb169, _, none⟩) NB179_169.out _).trans (hHeld.2))))⟩ (fun hHeld => ?_)
   clear hK K
   refine one_ (i := 3) (N := none) #[true, true, true, true] rfl rfl (by kernel_rfl) (by decide) (fun K hK => ?_)
   have hs19 : w16.cell? ⟨gb170, 0, none⟩ = some (.int .i64 0) := (blk_cell BK170.out 0).trans rfl
   have hfs19 := blk_frozen BK170.out 0
   have hns19_0 := NB169_170.out
   have hns19_2 := NB179_170.out
   have hms19_0 := NB170_169.out
   have hms19_2 := NB170_179.out
   have hs20 : w16.cell? ⟨gb170, 1, none⟩ = some (.int .i64 0) := (blk_cell BK170.out 1).trans rfl
   have hfs20 := blk_frozen BK170.out 1
   have hns20_0 := NB169_170.out
   have hns20_2 := NB179_170.out
   have hms20_0 := NB170_169.out
   have hms20_2 := NB170_179.out
   refine skip_ (w1 := ?_) (by rfl) rfl ?_ ?_
   rotate_left
   · go_simp
     rfl
   refine hK.out _ _ ⟨((cell_far (p := ⟨gb170, _, none⟩) NB179_170.out _).trans (((cell_far (p := ⟨gb170, _, none⟩) NB179_170.out _).trans (hHeld.1)))), ((cell_far (p := ⟨gb170, _, none⟩) NB179_170.out _).trans (((cell_far (p := ⟨gb170, _, none⟩) NB179_170.out _).trans (hHeld.2))))⟩ (fun hHeld => ?_)
   clear hK K
   refine done_ (by kernel_rfl) ?_
   try go_wp2
   refine bodyPost_ret (results_cc rfl _ _ gb169 gb170 52 52 #[.int .i64 t175, .int .i64 t176] #[.int .i64 t175, .int .i64 t176] (0, 0) (0, 0) _ _ rfl (by (with_reducible repeat (first | refine blk_drewN ?_ _ | refine blk_drew ?_ | refine blk_alloc ?_ _)); refine blk_far ?_ NB169_170.out _; (with_reducible repeat (first | refine blk_drewN ?_ _ | refine blk_drew ?_ | refine blk_alloc ?_ _)); refine blk_far ?_ NB169_170.out _; (with_reducible repeat (first | refine blk_drewN ?_ _ | refine blk_drew ?_ | refine blk_alloc ?_ _)); refine blk_put (cs := #[.int .i64 t175, .int .i64 0]) ?_ 1 _ rfl; (with_reducible repeat (first | refine blk_drewN ?_ _ | refine blk_drew ?_ | refine blk_alloc ?_ _)); refine blk_put (cs := #[.int .i64 0, .int .i64 0]) ?_ 0 _ rfl; (with_reducible repeat (first | refine blk_drewN ?_ _ | refine blk_drew ?_ | refine blk_alloc ?_ _)); exact BK169.out) Tryd.underlying52 rfl (by kernel_rfl) rfl (by (with_reducible repeat (first | refine blk_drewN ?_ _ | refine blk_drew ?_ | refine blk_alloc ?_ _)); refine blk_put (cs := #[.int .i64 t175, .int .i64 0]) ?_ 1 _ rfl; (with_reducible repeat (first | refine blk_drewN ?_ _ | refine blk_drew ?_ | refine blk_alloc ?_ _)); refine blk_put (cs := #[.int .i64 0, .int .i64 0]) ?_ 0 _ rfl; (with_reducible repeat (first | refine blk_drewN ?_ _ | refine blk_drew ?_ | refine blk_alloc ?_ _)); refine blk_far ?_ NB170_169.out _; (with_reducible repeat (first | refine blk_drewN ?_ _ | refine blk_drew ?_ | refine blk_alloc ?_ _)); refine blk_far ?_ NB170_169.out _; (with_reducible repeat (first | refine blk_drewN ?_ _ | refine blk_drew ?_ | refine blk_alloc ?_ _)); exact BK170.out) Tryd.underlying52 rfl (by kernel_rfl)) rfl ?_
   exact ⟨tE, tH4 HB (IsS179.ge HI174.out) GE169.out GE170.out GE179.out⟩
 replace c5 := Bool.eq_false_iff.mpr c5
 subst c5
 have H1 : ((spec_l02Draw.f k t171 t181 t182).bind fun bt183 => (some (t175, t176, bt183.1, bt183.2.1))) = some (r1, r2, r3, r4) := by rw [if_neg (show ¬ (false = true) by decide)] at H; exact H
 clear H
 have H := H1
 clear H1
 replace H := Option.bind_eq_some_iff.mp H
 obtain ⟨⟨t183, t184, t185, t186⟩, A210, H⟩ := H
 replace H : (some (t175, t176, t183, t184)) = some (r1, r2, r3, r4) := H
 have A21 := Aside0.mk A210
 clear A210
 simp only [Option.some.injEq, Prod.mk.injEq] at H
 obtain ⟨rfl, rfl, rfl, rfl⟩ := H
 go_enter Tryd.func34, Tryd.ntmps34
 try go_wp2_with (first | ((with_reducible refine gate_dst (N := 2) rfl ?_); refine box_event ?hg (N := 2) ?hd (cs := #[.int .i64 0, .int .i64 0]) (t := 52) ?hr ?_; (case hd => rfl); (case hg => rfl); (case hr => first | (go_simp; done) | (go_simp; rfl)); intro gb169 hg w22 hbox hb; have BK169 := Aside0.mk (hbox); have GW169 := Aside0.mk ((by rw [hg]; exact (below_size (tH HB)) : w.heap.size ≤ gb169)); have GE169 := Aside0.mk ((by rw [hg]; exact (below_size (tH HB)) : w.heap.size ≤ gb169)); replace HB := Aside0.mk (below_step (tH HB) hb); clear hb hbox hg) | ((with_reducible refine gate_dst (N := 3) rfl ?_); refine box_event ?hg (N := 3) ?hd (cs := #[.int .i64 0, .int .i64 0]) (t := 52) ?hr ?_; (case hd => rfl); (case hg => rfl); (case hr => first | (go_simp; done) | (go_simp; rfl)); intro gb170 hg w23 hbox hb; have BK170 := Aside0.mk (hbox); have GW170 := Aside0.mk ((by rw [hg]; exact (below_size (tH1 HB GE169.out)) : w.heap.size ≤ gb170)); have GE170 := Aside0.mk ((by rw [hg]; exact (below_size (tH1 HB GE169.out)) : w.heap.size ≤ gb170)); replace HB := Aside0.mk (below_step (tH1 HB GE169.out) hb); have NB169_170 := Aside0.mk ((by rw [hg]; exact Nat.ne_of_lt (blk_lt (g := gb169) (o := .cells #[.int .i64 0, .int .i64 0] 52 (0, 0)) (tB BK169)) : gb169 ≠ gb170)); have NB170_169 := Aside0.mk ((by rw [hg]; exact Nat.ne_of_gt (blk_lt (g := gb169) (o := .cells #[.int .i64 0, .int .i64 0] 52 (0, 0)) (tB BK169)) : gb170 ≠ gb169)); replace BK169 := tbB BK169 hb; clear hb hbox hg) | ((with_reducible refine gate_callee (f := 105) rfl ?_); refine gL_ (some 7) rfl rfl Tryd.func105 #[.slice A0 l0.length c0] rfl ?_; (with_reducible refine (spec_l00From.calls _ _ l0 t171 t172 t173 w _ ?side1 ?side2 ?side3 A2.out).mono ?_); (case side1 => exact tH2 HB GE169.out GE170.out); (case side2 => exact HR0.out); (case side3 => exact HC0.out); rintro e w24 ⟨g174, rfl, hi, hb, hb2⟩; refine ⟨_, rfl, ?_⟩; replace HB := Aside0.mk (hb); have HI174 := Aside0.mk (hi); have NB174_169 := Aside0.mk (IsS179.ne_blk hi (blk_below (g := gb169) (o := .cells #[.int .i64 0, .int .i64 0] 52 (0, 0)) (tB BK169) hb2) (by decide)); have NB169_174 := Aside0.mk (Ne.symm (IsS179.ne_blk hi (blk_below (g := gb169) (o := .cells #[.int .i64 0, .int .i64 0] 52 (0, 0)) (tB BK169) hb2) (by decide))); replace BK169 := Aside0.mk (blk_below (g := gb169) (o := .cells #[.int .i64 0, .int .i64 0] 52 (0, 0)) (tB BK169) hb2); have NB174_170 := Aside0.mk (IsS179.ne_blk hi (blk_below (g := gb170) (o := .cells #[.int .i64 0, .int .i64 0] 52 (0, 0)) (tB BK170) hb2) (by decide)); have NB170_174 := Aside0.mk (Ne.symm (IsS179.ne_blk hi (blk_below (g := gb170) (o := .cells #[.int .i64 0, .int .i64 0] 52 (0, 0)) (tB BK170) hb2) (by decide))); replace BK170 := Aside0.mk (blk_below (g := gb170) (o := .cells #[.int .i64 0, .int .i64 0] 52 (0, 0)) (tB BK170) hb2); (try clear hb); (try clear hb2); (try clear hk); (try clear hi)) | ((with_reducible refine gate_callee (f := 106) rfl ?_); refine gL_ (some 9) rfl rfl Tryd.func106 #[.pointer (some ⟨g174, 0, none⟩)] rfl ?_; (with_reducible refine (spec_l02Draw.calls k g174 t171 t172 t173 t175 t176 t177 t178 w _ ?side1 ?side2 A3.out).mono ?_); (case side1 => exact IsS179.t2 HI174 NB174_169 NB174_170); (case side2 => exact tH3 HB (IsS179.ge HI174.out) GE169.out GE170.out); rintro e w25 ⟨rfl, hi, hb, hk⟩; refine ⟨_, rfl, ?_⟩; replace BK169 := tKB hk BK169 NB169_174.out; replace BK170 := tKB hk BK170 NB170_174.out; replace HB := Aside0.mk (hb); replace HI174 := Aside0.mk (hi); (try clear hb); (try clear hb2); (try clear hk); (try clear hi)) | ((with_reducible refine gate_dst (N := 5) rfl ?_); refine box_event ?hg (N := 5) ?hd (cs := #[.int .i64 0, .int .i64 0]) (t := 52) ?hr ?_; (case hd => rfl); (case hg => rfl); (case hr => first | (go_simp; done) | (go_simp; rfl)); intro gb179 hg w26 hbox hb; have BK179 := Aside0.mk (hbox); have GW179 := Aside0.mk ((by rw [hg]; exact (below_size (tH3 HB (IsS179.ge HI174.out) GE169.out GE170.out)) : w.heap.size ≤ gb179)); have GE179 := Aside0.mk ((by rw [hg]; exact (below_size (tH3 HB (IsS179.ge HI174.out) GE169.out GE170.out)) : w.heap.size ≤ gb179)); replace HB := Aside0.mk (below_step (tH3 HB (IsS179.ge HI174.out) GE169.out GE170.out) hb); have NB169_179 := Aside0.mk ((by rw [hg]; exact Nat.ne_of_lt (blk_lt (g := gb169) (o := .cells #[.int .i64 0, .int .i64 0] 52 (0, 0)) (tB BK169)) : gb169 ≠ gb179)); have NB179_169 := Aside0.mk ((by rw [hg]; exact Nat.ne_of_gt (blk_lt (g := gb169) (o := .cells #[.int .i64 0, .int .i64 0] 52 (0, 0)) (tB BK169)) : gb179 ≠ gb169)); replace BK169 := tbB BK169 hb; have NB170_179 := Aside0.mk ((by rw [hg]; exact Nat.ne_of_lt (blk_lt (g := gb170) (o := .cells #[.int .i64 0, .int .i64 0] 52 (0, 0)) (tB BK170)) : gb170 ≠ gb179)); have NB179_170 := Aside0.mk ((by rw [hg]; exact Nat.ne_of_gt (blk_lt (g := gb170) (o := .cells #[.int .i64 0, .int .i64 0] 52 (0, 0)) (tB BK170)) : gb179 ≠ gb170)); replace BK170 := tbB BK170 hb; have NB174_179 := Aside0.mk ((by rw [hg]; exact Nat.ne_of_lt (IsS179.lt (show IsS179 w _ g174 t171 t177 t178 from IsS179.t2 HI174 NB174_169 NB174_170)) : g174 ≠ gb179)); have NB179_174 := Aside0.mk ((by rw [hg]; exact Nat.ne_of_gt (IsS179.lt (show IsS179 w _ g174 t171 t177 t178 from IsS179.t2 HI174 NB174_169 NB174_170)) : gb179 ≠ g174)); replace HI174 := Aside0.mk (IsS179.below (IsS179.t2 HI174 NB174_169 NB174_170) hb); clear hb hbox hg; have hnb27 := NB179_169.out; have hnc27 := NB169_179.out; have hnb28 := NB179_170.out; have hnc28 := NB170_179.out; have hnb29 := NB179_174.out; have hnc29 := NB174_179.out; have hcz30_0 : w26.cell? ⟨gb179, 0, none⟩ = some (.int .i64 0) := (blk_cell BK179.out 0).trans rfl; have hcz30_1 : w26.cell? ⟨gb179, 1, none⟩ = some (.int .i64 0) := (blk_cell BK179.out 1).trans rfl; have hfz30_0 := blk_frozen BK179.out 0; have hfz30_1 := blk_frozen BK179.out 1) | ((with_reducible refine gate_callee (f := 107) rfl ?_); refine gL_ (some 11) rfl rfl Tryd.func107 #[.pointer (some ⟨g174, 0, none⟩), .int .i64 6] rfl ?_; (with_reducible refine (spec_l00Src_one.calls g174 t171 t177 t178 6 false t181 t182 w _ ?side1 ?side2 A4.out).mono ?_); (case side1 => exact IsS179.t3 HI174 NB174_169 NB174_170 NB174_179); (case side2 => exact tH4 HB (IsS179.ge HI174.out) GE169.out GE170.out GE179.out); rintro e w31 ⟨rfl, hi, hb, hk⟩; refine ⟨_, rfl, ?_⟩; replace BK169 := Aside0.mk (KeepBut.blk hk (g' := gb169) (o := .cells #[.int .i64 0, .int .i64 0] 52 (0, 0)) (by (with_reducible repeat (first | refine blk_drewN ?_ _ | refine blk_drew ?_ | refine blk_alloc ?_ _)); refine blk_far ?_ NB169_179.out _; (with_reducible repeat (first | refine blk_drewN ?_ _ | refine blk_drew ?_ | refine blk_alloc ?_ _)); refine blk_far ?_ NB169_179.out _; (with_reducible repeat (first | refine blk_drewN ?_ _ | refine blk_drew ?_ | refine blk_alloc ?_ _)); exact BK169.out) NB169_174.out (by simp)); replace BK170 := Aside0.mk (KeepBut.blk hk (g' := gb170) (o := .cells #[.int .i64 0, .int .i64 0] 52 (0, 0)) (by (with_reducible repeat (first | refine blk_drewN ?_ _ | refine blk_drew ?_ | refine blk_alloc ?_ _)); refine blk_far ?_ NB170_179.out _; (with_reducible repeat (first | refine blk_drewN ?_ _ | refine blk_drew ?_ | refine blk_alloc ?_ _)); refine blk_far ?_ NB170_179.out _; (with_reducible repeat (first | refine blk_drewN ?_ _ | refine blk_drew ?_ | refine blk_alloc ?_ _)); exact BK170.out) NB170_174.out (by simp)); replace BK179 := Aside0.mk (KeepBut.blk hk (g' := gb179) (o := .cells #[.int .i64 t175, .int .i64 t176] 52 (0, 0)) (by (with_reducible repeat (first | refine blk_drewN ?_ _ | refine blk_drew ?_ | refine blk_alloc ?_ _)); refine blk_put (cs := #[.int .i64 t175, .int .i64 0]) ?_ 1 _ rfl; (with_reducible repeat (first | refine blk_drewN ?_ _ | refine blk_drew ?_ | refine blk_alloc ?_ _)); refine blk_put (cs := #[.int .i64 0, .int .i64 0]) ?_ 0 _ rfl; (with_reducible repeat (first | refine blk_drewN ?_ _ | refine blk_drew ?_ | refine blk_alloc ?_ _)); exact BK179.out) NB179_174.out (by simp)); replace HB := Aside0.mk (hb); replace HI174 := Aside0.mk (hi); (try clear hb); (try clear hb2); (try clear hk); (try clear hi)))
 replace BK169 := Aside0.mk (blk_drew BK169.out)
 replace BK170 := Aside0.mk (blk_drew BK170.out)
 replace BK179 := Aside0.mk (blk_drew BK179.out)
 replace HI174 := Aside0.mk (IsS179.drew HI174.out)
 replace HB := Aside0.mk (below_drew1 HB.out)
 refine start_ (n := 5) (S := fun w' => w'.cell? ⟨gb179, 0, none⟩ = some (.int .i64 t175) ∧ w'.cell? ⟨gb179, 1, none⟩ = some (.int .i64 t176)) (ds := []) #[false, false, false, false, false] (by kernel_rfl) rfl rfl ⟨(blk_cell BK179.out 0).trans rfl, (blk_cell BK179.out 1).trans rfl⟩ (fun hHeld => ?_)
 generalize w31.drew = w32 at BK169 BK170 BK179 HI174 HB hHeld ⊢
 refine pv_ (i := 1) (N := some 15) #[false, true, false, false, false] rfl rfl ?_
 refine take_ (i := 0) (N := some 14) (v := ?_) (a' := ?_) #[true, true, false, false, false] rfl rfl (by kernel_rfl) (fun _ _ _ h => h) (Or.inl ⟨by rfl, ?_⟩) hHeld ?_ ?_
 rotate_left
 · rintro w' ⟨s0, s1⟩
   go_simp
   with_reducible rfl
 rotate_left
 · simp only [Act.put, sx0, sx1, sx2, i64_w, i32_w]
   rfl
 refine one_ (i := 2) (N := some 16) #[true, true, true, false, false] rfl rfl (by kernel_rfl) (by decide) (fun K hK => ?_)
 refine gS_ Tryd.func106 #[.pointer (some ⟨g174, 0, none⟩)] rfl rfl ?_
 with_reducible refine (spec_l02Draw.calls k g174 t171 t181 t182 t183 t184 t185 t186 w _ ?side1 ?side2 A21.out).mono ?_
 (case side1 => exact IsS179.t3 HI174 NB174_169 NB174_170 NB174_179)
 (case side2 => exact tH4 HB (IsS179.ge HI174.out) GE169.out GE170.out GE179.out)
 rintro e w33 ⟨rfl, hi, hb, hk⟩
 refine ⟨_, rfl, ?_⟩
 replace BK169 := tKB hk BK169 NB169_174.out
 replace BK170 := tKB hk BK170 NB170_174.out
 replace BK179 := tKB hk BK179 NB179_174.out
 replace HB := Aside0.mk (hb)
 replace HI174 := Aside0.mk (hi)
 (try clear hb)
 (try clear hb2)
 (try clear hk)
 (try clear hi)
 refine hK.out _ _ ⟨(blk_cell BK179.out 0).trans rfl, (blk_cell BK179.out 1).trans rfl⟩ (fun hHeld => ?_)
 clear hK K
 refine nO (some 16) ?_
 refine one_ (i := 3) (N := none) #[true, true, true, true, false] rfl rfl (by kernel_rfl) (by decide) (fun K hK => ?_)
 have hs34 : w33.cell? ⟨gb169, 0, none⟩ = some (.int .i64 0) := (blk_cell BK169.out 0).trans rfl
 have hfs34 := blk_frozen BK169.out 0
 have hns34_1 := NB170_169.out
 have hns34_2 := NB179_169.out
 have hms34_1 := NB169_170.out
 have hms34_2 := NB169_179.out
 have hs35 : w33.cell? ⟨gb169, 1, none⟩ = some (.int .i64 0) := (blk_cell BK169.out 1).trans rfl
 have hfs35 := blk_frozen BK169.out 1
 have hns35_1 := NB170_169.out
 have hns35_2 := NB179_169.out
 have hms35_1 := NB169_170.out
 have hms35_2 := NB169_179.out
 refine skip_ (w1 := ?_) (by rfl) rfl ?_ ?_
 rotate_left
 · go_simp
   rfl
 refine hK.out _ _ ⟨((cell_far (p := ⟨gb169, _, none⟩) NB179_169.out _).trans (((cell_far (p := ⟨gb169, _, none⟩) NB179_169.out _).trans (hHeld.1)))), ((cell_far (p := ⟨gb169, _, none⟩) NB179_169.out _).trans (((cell_far (p := ⟨gb169, _, none⟩) NB179_169.out _).trans (hHeld.2))))⟩ (fun hHeld => ?_)
 clear hK K
 refine one_ (i := 4) (N := none) #[true, true, true, true, true] rfl rfl (by kernel_rfl) (by decide) (fun K hK => ?_)
 have hs36 : w33.cell? ⟨gb170, 0, none⟩ = some (.int .i64 0) := (blk_cell BK170.out 0).trans rfl
 have hfs36 := blk_frozen BK170.out 0
 have hns36_0 := NB169_170.out
 have hns36_2 := NB179_170.out
 have hms36_0 := NB170_169.out
 have hms36_2 := NB170_179.out
 have hs37 : w33.cell? ⟨gb170, 1, none⟩ = some (.int .i64 0) := (blk_cell BK170.out 1).trans rfl
 have hfs37 := blk_frozen BK170.out 1
 have hns37_0 := NB169_170.out
 have hns37_2 := NB179_170.out
 have hms37_0 := NB170_169.out
 have hms37_2 := NB170_179.out
 refine skip_ (w1 := ?_) (by rfl) rfl ?_ ?_
 rotate_left
 · go_simp
   rfl
 refine hK.out _ _ ⟨((cell_far (p := ⟨gb170, _, none⟩) NB179_170.out _).trans (((cell_far (p := ⟨gb170, _, none⟩) NB179_170.out _).trans (hHeld.1)))), ((cell_far (p := ⟨gb170, _, none⟩) NB179_170.out _).trans (((cell_far (p := ⟨gb170, _, none⟩) NB179_170.out _).trans (hHeld.2))))⟩ (fun hHeld => ?_)
 clear hK K
 refine done_ (by kernel_rfl) ?_
 try go_wp2
 refine bodyPost_ret (results_cc rfl _ _ gb169 gb170 52 52 #[.int .i64 t175, .int .i64 t176] #[.int .i64 t183, .int .i64 t184] (0, 0) (0, 0) _ _ rfl (by (with_reducible repeat (first | refine blk_drewN ?_ _ | refine blk_drew ?_ | refine blk_alloc ?_ _)); refine blk_far ?_ NB169_170.out _; (with_reducible repeat (first | refine blk_drewN ?_ _ | refine blk_drew ?_ | refine blk_alloc ?_ _)); refine blk_far ?_ NB169_170.out _; (with_reducible repeat (first | refine blk_drewN ?_ _ | refine blk_drew ?_ | refine blk_alloc ?_ _)); refine blk_put (cs := #[.int .i64 t175, .int .i64 0]) ?_ 1 _ rfl; (with_reducible repeat (first | refine blk_drewN ?_ _ | refine blk_drew ?_ | refine blk_alloc ?_ _)); refine blk_put (cs := #[.int .i64 0, .int .i64 0]) ?_ 0 _ rfl; (with_reducible repeat (first | refine blk_drewN ?_ _ | refine blk_drew ?_ | refine blk_alloc ?_ _)); exact BK169.out) Tryd.underlying52 rfl (by kernel_rfl) rfl (by (with_reducible repeat (first | refine blk_drewN ?_ _ | refine blk_drew ?_ | refine blk_alloc ?_ _)); refine blk_put (cs := #[.int .i64 t183, .int .i64 0]) ?_ 1 _ rfl; (with_reducible repeat (first | refine blk_drewN ?_ _ | refine blk_drew ?_ | refine blk_alloc ?_ _)); refine blk_put (cs := #[.int .i64 0, .int .i64 0]) ?_ 0 _ rfl; (with_reducible repeat (first | refine blk_drewN ?_ _ | refine blk_drew ?_ | refine blk_alloc ?_ _)); refine blk_far ?_ NB170_169.out _; (with_reducible repeat (first | refine blk_drewN ?_ _ | refine blk_drew ?_ | refine blk_alloc ?_ _)); refine blk_far ?_ NB170_169.out _; (with_reducible repeat (first | refine blk_drewN ?_ _ | refine blk_drew ?_ | refine blk_alloc ?_ _)); exact BK170.out) Tryd.underlying52 rfl (by kernel_rfl)) rfl ?_
 exact ⟨tE, tH4 HB (IsS179.ge HI174.out) GE169.out GE170.out GE179.out⟩

/-! ### impl_within: function 115 -/
def impl_within.f (a0 : Int) (a1 : Int) (a2 : Int) : Option (Bool) := if a0 ≥ a1 then (some (decide (a0 ≤ a2))) else (some false)
set_option maxHeartbeats 8000000 in
set_option maxRecDepth 100000 in
theorem impl_within.calls (a0 : Int) (a1 : Int) (a2 : Int) (r : Bool) (w : World) (h : impl_within.f a0 a1 a2 = some r) :
 Calls Tryd.prog 115 #[.int .i64 a0, .int .i64 a1, .int .i64 a2] w fun e w' => e = .returned (.bool r) ∧ Drawn0 w w' := by
 have H : (if a0 ≥ a1 then (some (decide (a0 ≤ a2))) else (some false)) = some r := h
 clear h
 by_cases c4 : a0 ≥ a1
 · rw [if_pos c4] at H
   have c4b0 : decide (a1 ≤ a0) = true := decide_eq_true c4
   clear c4
   obtain rfl := Option.some.inj H
   go_enter Tryd.func115, Tryd.ntmps115
   go_wp2
   go_ret
   exact ⟨by first | rfl | (simp; done) | (simp [*]; done), tZ⟩
 rw [if_neg c4] at H
 have c4b0 : decide (a1 ≤ a0) = false := decide_eq_false c4
 clear c4
 obtain rfl := Option.some.inj H
 go_enter Tryd.func115, Tryd.ntmps115
 go_wp2
 go_ret
 exact ⟨by first | rfl | (simp; done) | (simp [*]; done), tZ⟩

/-! ### impl_commonDivisor: function 167 -/
def impl_commonDivisor.l0 : Nat → Int → Int → Option (Int)
 | 0, _, _ => none
 | k + 1, x0, x1 => if x1 = 0 then (some x0) else (impl_commonDivisor.l0 k x1 (Int.tmod x0 x1))
def impl_commonDivisor.f (k : Nat) (a0 : Int) (a1 : Int) : Option (Int) := impl_commonDivisor.l0 k a0 a1
theorem impl_commonDivisor.mono_l : ∀ k, (∀ y0 y1, LeO (impl_commonDivisor.l0 k y0 y1) (impl_commonDivisor.l0 (k + 1) y0 y1))
 | 0 => fun _ _ r h => by simp [impl_commonDivisor.l0] at h
 | k + 1 => by
  have ih0 := impl_commonDivisor.mono_l k
  · intro y0 y1
    unfold impl_commonDivisor.l0
    repeat' first
    | (with_reducible exact ih0 _ _)
    | (with_reducible exact LeO.refl _)
    | (with_reducible exact LeO.none _)
    | (with_reducible refine LeO.ite ?_ ?_)
    | (with_reducible refine LeO.bind ?_ (fun _ => ?_))
    | exact ih0 _ _
    | exact LeO.none _
    | refine LeO.ite ?_ ?_
    | refine LeO.bind ?_ (fun _ => ?_)
theorem impl_commonDivisor.mono : ∀ a0 a1 k, LeO (impl_commonDivisor.f k a0 a1) (impl_commonDivisor.f (k + 1) a0 a1) := by
 intro a0 a1 k
 have ih0 := impl_commonDivisor.mono_l k
 unfold impl_commonDivisor.f
 repeat' first
  | (with_reducible exact ih0 _ _)
  | (with_reducible exact LeO.refl _)
  | (with_reducible exact LeO.none _)
  | (with_reducible refine LeO.ite ?_ ?_)
  | (with_reducible refine LeO.bind ?_ (fun _ => ?_))
  | exact ih0 _ _
  | exact LeO.none _
  | refine LeO.ite ?_ ?_
  | refine LeO.bind ?_ (fun _ => ?_)
set_option maxHeartbeats 8000000 in
set_option maxRecDepth 100000 in
theorem impl_commonDivisor.calls (k : Nat) (a0 : Int) (a1 : Int) (r : Int) (w : World) (h : impl_commonDivisor.f k a0 a1 = some r) :
 Calls Tryd.prog 167 #[.int .i64 a0, .int .i64 a1] w fun e w' => e = .returned (.int .i64 r) ∧ Drawn0 w w' := by
 have H : (impl_commonDivisor.l0 k a0 a1) = some r := h
 clear h
 have H' := Aside0.mk H
 clear H
 go_enter Tryd.func167, Tryd.ntmps167
 go_wp2
 repeat (go_quiet (fail); try go_wp2)
 go_loopg [0, 1] k (fun kq v0 v1 w' => ∃ (x0_1 : Int) (x1_1 : Int), v0 = .int .i64 x0_1 ∧ v1 = .int .i64 x1_1 ∧ Aside0 (impl_commonDivisor.l0 kq x0_1 x1_1 = some r) ∧ Aside0 (kq ≤ k) ∧ Drawn0 w w')
 case atStart => exact ⟨(a0), (a1), tq, tq, H', ⟨Nat.le_refl _⟩, tZ⟩
 case round =>
 clear H'
 try clear c1
 try clear p2
 obtain ⟨x0_1, x1_1, rfl, rfl, HA, HK1, ⟨m1, rfl⟩⟩ := hrel
 cases gk with
 | zero => exact absurd HA.out (by simp [impl_commonDivisor.l0])
 | succ k1 =>
 have H := HA.out
 clear HA
 simp only [impl_commonDivisor.l0] at H
 by_cases c3 : x1_1 = 0
 · rw [if_pos c3] at H
   have c3b0 : (x1_1 == 0) = true := beq_iff_eq.mpr c3
   have c3b1 : (x1_1 != 0) = false := bne_eq_false_iff_eq.mpr c3
   clear c3
   obtain rfl := Option.some.inj H
   go_wp2
   repeat (go_quiet (fail); try go_wp2)
   go_ret
   exact ⟨by first | rfl | (simp; done) | (simp [*]; done), tZ⟩
 rw [if_neg c3] at H
 have c3b0 : (x1_1 == 0) = false := beq_eq_false_iff_ne.mpr c3
 have c3b1 : (x1_1 != 0) = true := bne_iff_ne.mpr c3
 have H' := Aside0.mk H
 clear H
 go_wp2
 repeat (go_quiet (fail); try go_wp2)
 go_roundg k1
 case measure => have := HK1.out; omega
 case rel => exact ⟨(x1_1), (Int.tmod x0_1 x1_1), tq, tq, H', ⟨by have := HK1.out; omega⟩, tZ⟩

end Go.Proofs.YtmeflmlejcmckaaDoor.PC
