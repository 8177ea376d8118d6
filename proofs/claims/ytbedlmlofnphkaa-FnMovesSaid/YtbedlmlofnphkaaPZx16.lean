-- WRITTEN BY wip/gprint.py, a program of this session's over the kit's print, with contracts given by hand
import Derived.Test.YtbedlmlofnphkaaPZx0
import Derived.Test.YtbedlmlofnphkaaPZx1
import Derived.Test.YtbedlmlofnphkaaPZx15
namespace Go.Proofs.Ytbedlmlofnphkaa.PZ
open Go.RowKit Go.Proofs.YtbedlmlofnphkaaW.PrintWords Go.Proofs.YtbedlmlofnphkaaW.PrintLast Go.Proofs.YtbedlmlofnphkaaW.PrintMore
attribute [local go_sem] max2_int min2_int max_two min_two max_three min_three max_four min_four   -- for this text's walks alone
set_option linter.unusedVariables false
set_option linter.unusedSimpArgs false

/-! ### spec_R8Pitches: function 82 -/
mutual
def spec_R8Pitches.l0 : Nat → List Int → Int → ByteArray → List Int → List Int → Int → Int → List (List Int) → List Int → Int → Int → Option (List Int)
 | 0, _, _, _, _, _, _, _, _, _, _, _ => none
 | k + 1, x6, x7, x339000, x339001, x339002, x339003, x339004, x339005, x343000, x343001, x343002 => if x7 > 0 then ((spec_l00Src_pick.f x343000 x343001 x343002 20).bind fun bt349 => (if (x6.length : Int) > 0 then ((spec_l00Src_pick.f x343000 bt349.2.1 bt349.2.2 8).bind fun bt352 => (spec_R8Pitches.j1 k x6 x7 (wrap64 (bt349.1 - 4)) (decide (bt352.1 > 0)) x339000 x339001 x339002 x339003 x339004 x339005 x343000 bt352.2.1 bt352.2.2)) else (spec_R8Pitches.j1 k x6 x7 (wrap64 (bt349.1 - 4)) false x339000 x339001 x339002 x339003 x339004 x339005 x343000 bt349.2.1 bt349.2.2))) else (some x6)
def spec_R8Pitches.j1 : Nat → List Int → Int → Int → Bool → ByteArray → List Int → List Int → Int → Int → List (List Int) → List Int → Int → Int → Option (List Int)
 | 0, _, _, _, _, _, _, _, _, _, _, _, _, _ => none
 | k + 1, x6, x7, x8, x29, x339000, x339001, x339002, x339003, x339004, x339005, x343000, x343001, x343002 => if x29 = true then (if 0 ≤ (wrap64 ((x6.length : Int) - 1)) then (if (wrap64 ((x6.length : Int) - 1)) < (x6.length : Int) then ((spec_l05Next.f k [(⟨x339000, x339001, x339002, x339003, x339004, x339005⟩ : S27)] (rd x6 (wrap64 ((x6.length : Int) - 1)))).bind fun t356 => (if (t356.length : Int) > 0 then ((spec_l00Src_pick.f x343000 x343001 x343002 (t356.length : Int)).bind fun bt359 => (if 0 ≤ bt359.1 then (if bt359.1 < (t356.length : Int) then (if x6.length < 17592186044416 then (spec_R8Pitches.l0 k (x6 ++ [rd t356 bt359.1]) (wrap64 (x7 - 1)) x339000 x339001 x339002 x339003 x339004 x339005 x343000 bt359.2.1 bt359.2.2) else (none)) else (none)) else (none))) else (if x6.length < 17592186044416 then (spec_R8Pitches.l0 k (x6 ++ [x8]) (wrap64 (x7 - 1)) x339000 x339001 x339002 x339003 x339004 x339005 x343000 x343001 x343002) else (none)))) else (none)) else (none)) else (if x6.length < 17592186044416 then (spec_R8Pitches.l0 k (x6 ++ [x8]) (wrap64 (x7 - 1)) x339000 x339001 x339002 x339003 x339004 x339005 x343000 x343001 x343002) else (none))
end
def spec_R8Pitches.f (k : Nat) (l0 : List Int) (a1_0 : ByteArray) (l1_1 : List Int) (l1_2 : List Int) (a1_3 : Int) (a1_4 : Int) (l1_5 : List (List Int)) : Option (List Int) := (spec_l00From.f l0).bind fun bt339 => ((spec_l00Src_pick.f bt339.1 bt339.2.1 bt339.2.2 10).bind fun bt346 => (spec_R8Pitches.l0 k (([] : List Int)) bt346.1 a1_0 l1_1 l1_2 a1_3 a1_4 l1_5 bt339.1 bt346.2.1 bt346.2.2))
theorem spec_R8Pitches.mono_l : ∀ k, (∀ y0 y1 y2 y3 y4 y5 y6 y7 y8 y9 y10, LeO (spec_R8Pitches.l0 k y0 y1 y2 y3 y4 y5 y6 y7 y8 y9 y10) (spec_R8Pitches.l0 (k + 1) y0 y1 y2 y3 y4 y5 y6 y7 y8 y9 y10)) ∧ (∀ y0 y1 y2 y3 y4 y5 y6 y7 y8 y9 y10 y11 y12, LeO (spec_R8Pitches.j1 k y0 y1 y2 y3 y4 y5 y6 y7 y8 y9 y10 y11 y12) (spec_R8Pitches.j1 (k + 1) y0 y1 y2 y3 y4 y5 y6 y7 y8 y9 y10 y11 y12))
 | 0 => ⟨fun _ _ _ _ _ _ _ _ _ _ _ r h => by simp [spec_R8Pitches.l0] at h, fun _ _ _ _ _ _ _ _ _ _ _ _ _ r h => by simp [spec_R8Pitches.j1] at h⟩
 | k + 1 => by
  obtain ⟨ih0, ih1⟩ := spec_R8Pitches.mono_l k
  refine ⟨?_, ?_⟩
  all_goals (intros; (first | unfold spec_R8Pitches.l0 | unfold spec_R8Pitches.j1); repeat' first
   | (with_reducible exact ih0 _ _ _ _ _ _ _ _ _ _ _)
   | (with_reducible exact ih1 _ _ _ _ _ _ _ _ _ _ _ _ _)
   | (with_reducible exact spec_l05Next.mono _ _ _)
   | (with_reducible exact LeO.refl _)
   | (with_reducible exact LeO.none _)
   | (with_reducible refine LeO.ite ?_ ?_)
   | (with_reducible refine LeO.bind ?_ (fun _ => ?_))
   | exact ih0 _ _ _ _ _ _ _ _ _ _ _
   | exact ih1 _ _ _ _ _ _ _ _ _ _ _ _ _
   | exact spec_l05Next.mono _ _ _
   | exact LeO.none _
   | refine LeO.ite ?_ ?_
   | refine LeO.bind ?_ (fun _ => ?_))
theorem spec_R8Pitches.mono : ∀ a0 a1 a2 a3 a4 a5 a6 k, LeO (spec_R8Pitches.f k a0 a1 a2 a3 a4 a5 a6) (spec_R8Pitches.f (k + 1) a0 a1 a2 a3 a4 a5 a6) := by
 intro a0 a1 a2 a3 a4 a5 a6 k
 obtain ⟨ih0, ih1⟩ := spec_R8Pitches.mono_l k
 unfold spec_R8Pitches.f
 repeat' first
  | (with_reducible exact ih0 _ _ _ _ _ _ _ _ _ _ _)
  | (with_reducible exact ih1 _ _ _ _ _ _ _ _ _ _ _ _ _)
  | (with_reducible exact spec_l05Next.mono _ _ _)
  | (with_reducible exact LeO.refl _)
  | (with_reducible exact LeO.none _)
  | (with_reducible refine LeO.ite ?_ ?_)
  | (with_reducible refine LeO.bind ?_ (fun _ => ?_))
  | exact ih0 _ _ _ _ _ _ _ _ _ _ _
  | exact ih1 _ _ _ _ _ _ _ _ _ _ _ _ _
  | exact spec_l05Next.mono _ _ _
  | exact LeO.none _
  | refine LeO.ite ?_ ?_
  | refine LeO.bind ?_ (fun _ => ?_)
set_option maxHeartbeats 8000000 in
set_option maxRecDepth 100000 in
theorem spec_R8Pitches.calls (k : Nat) (A0 : Option Addr) (c0 : Nat) (l0 : List Int) (a1_0 : ByteArray) (A1_1 : Option Addr) (c1_1 : Nat) (l1_1 : List Int) (A1_2 : Option Addr) (c1_2 : Nat) (l1_2 : List Int) (a1_3 : Int) (a1_4 : Int) (A1_5 : Option Addr) (c1_5 : Nat) (l1_5 : List (List Int)) (r : List Int) (w : World) (hr0 : Kd.C (Kd.int .u8) w A0 l0.length l0) (hc0 : l0.length ≤ c0) (hr1_1 : Kd.C (Kd.int .i64) w A1_1 l1_1.length l1_1) (hc1_1 : l1_1.length ≤ c1_1) (hr1_2 : Kd.C (Kd.int .i64) w A1_2 l1_2.length l1_2) (hc1_2 : l1_2.length ≤ c1_2) (hr1_5 : Kd.C (Kd.slice 2 (Kd.int .i64)) w A1_5 l1_5.length l1_5) (hc1_5 : l1_5.length ≤ c1_5) (h : spec_R8Pitches.f k l0 a1_0 l1_1 l1_2 a1_3 a1_4 l1_5 = some r) :
 Calls Try.prog 82 #[.slice A0 l0.length c0, .agg #[.string a1_0, .slice A1_1 l1_1.length c1_1, .slice A1_2 l1_2.length c1_2, .int .i64 a1_3, .int .i64 a1_4, .slice A1_5 l1_5.length c1_5]] w fun e w' => ∃ v0_ : Value, e = .returned (v0_) ∧ Kd.R (Kd.int .i64) 2 w' w.heap.size (fun _ => True) v0_ r ∧ Below w.heap.size w w' := by
 have hu27 := Try.underlying27
 have HR0 := Aside0.mk hr0
 have HC0 := Aside0.mk hc0
 clear hr0 hc0
 have HR1_1 := Aside0.mk hr1_1
 have HC1_1 := Aside0.mk hc1_1
 clear hr1_1 hc1_1
 have HR1_2 := Aside0.mk hr1_2
 have HC1_2 := Aside0.mk hc1_2
 clear hr1_2 hc1_2
 have HR1_5 := Aside0.mk hr1_5
 have HC1_5 := Aside0.mk hc1_5
 clear hr1_5 hc1_5
 have HB := Aside0.mk (Below.refl w.heap.size w)
 have H : ((spec_l00From.f l0).bind fun bt339 => ((spec_l00Src_pick.f bt339.1 bt339.2.1 bt339.2.2 10).bind fun bt346 => (spec_R8Pitches.l0 k (([] : List Int)) bt346.1 a1_0 l1_1 l1_2 a1_3 a1_4 l1_5 bt339.1 bt346.2.1 bt346.2.2))) = some r := h
 clear h
 replace H := Option.bind_eq_some_iff.mp H
 obtain ⟨⟨t339, t340, t341⟩, A30, H⟩ := H
 replace H : ((spec_l00Src_pick.f t339 t340 t341 10).bind fun bt346 => (spec_R8Pitches.l0 k (([] : List Int)) bt346.1 a1_0 l1_1 l1_2 a1_3 a1_4 l1_5 t339 bt346.2.1 bt346.2.2)) = some r := H
 have A3 := Aside0.mk A30
 clear A30
 obtain ⟨y343, hy343⟩ : ∃ y_ : List Int, y_ = (([] : List Int)) := ⟨_, rfl⟩
 replace H : ((spec_l00Src_pick.f t339 t340 t341 10).bind fun bt346 => (spec_R8Pitches.l0 k y343 bt346.1 a1_0 l1_1 l1_2 a1_3 a1_4 l1_5 t339 bt346.2.1 bt346.2.2)) = some r := by first | (rw [hy343]; with_reducible exact H) | (have H2_ := (Option.bind_some _ _).symm.trans H; rw [hy343]; with_reducible exact H2_) | (have H2_ := (Option.bind_some _ _).symm.trans H; with_reducible exact H2_) | with_reducible exact H | (rw [hy343]; exact H) | exact H
 have Ny343 := Aside0.mk hy343
 clear hy343
 replace H := Option.bind_eq_some_iff.mp H
 obtain ⟨⟨t346, t347, t348⟩, A40, H⟩ := H
 replace H : (spec_R8Pitches.l0 k y343 t346 a1_0 l1_1 l1_2 a1_3 a1_4 l1_5 t339 t347 t348) = some r := H
 have A4 := Aside0.mk A40
 clear A40
 have H' := Aside0.mk H
 clear H
 go_enter Try.func82, Try.ntmps82
 go_wp2_with (first | ((with_reducible refine gate_dst (N := 3) rfl ?_); refine box_event ?hg (N := 3) ?hd (cs := #[.string a1_0, .slice A1_1 l1_1.length c1_1, .slice A1_2 l1_2.length c1_2, .int .i64 a1_3, .int .i64 a1_4, .slice A1_5 l1_5.length c1_5]) (t := 27) ?hr ?_; (case hd => rfl); (case hg => rfl); (case hr => first | (go_simp; done) | (go_simp; rfl)); intro gb338 hg w5 hbox hb; have BK338 := Aside0.mk (hbox); have GW338 := Aside0.mk ((by rw [hg]; exact (below_size (tH HB)) : w.heap.size ≤ gb338)); have GE338 := Aside0.mk ((by rw [hg]; exact (below_size (tH HB)) : w.heap.size ≤ gb338)); replace HB := Aside0.mk (below_step (tH HB) hb); clear hb hbox hg) | ((with_reducible refine gate_callee (f := 101) rfl ?_); refine gL_ (some 11) rfl rfl Try.func101 #[.slice A0 l0.length c0] rfl ?_; (with_reducible refine (spec_l00From.calls _ _ l0 t339 t340 t341 w _ ?side1 ?side2 ?side3 A3.out).mono ?_); (case side1 => exact tH1 HB GE338.out); (case side2 => exact HR0.out); (case side3 => exact HC0.out); rintro e w6 ⟨g342, rfl, hi, hb, hb2⟩; refine ⟨_, rfl, ?_⟩; replace HB := Aside0.mk (hb); have HI342 := Aside0.mk (hi); have NB342_338 := Aside0.mk (IsS209.ne_blk hi (blk_below (g := gb338) (o := .cells #[.string a1_0, .slice A1_1 l1_1.length c1_1, .slice A1_2 l1_2.length c1_2, .int .i64 a1_3, .int .i64 a1_4, .slice A1_5 l1_5.length c1_5] 27 (0, 0)) (tB BK338) hb2) (by decide)); have NB338_342 := Aside0.mk (Ne.symm (IsS209.ne_blk hi (blk_below (g := gb338) (o := .cells #[.string a1_0, .slice A1_1 l1_1.length c1_1, .slice A1_2 l1_2.length c1_2, .int .i64 a1_3, .int .i64 a1_4, .slice A1_5 l1_5.length c1_5] 27 (0, 0)) (tB BK338) hb2) (by decide))); replace BK338 := Aside0.mk (blk_below (g := gb338) (o := .cells #[.string a1_0, .slice A1_1 l1_1.length c1_1, .slice A1_2 l1_2.length c1_2, .int .i64 a1_3, .int .i64 a1_4, .slice A1_5 l1_5.length c1_5] 27 (0, 0)) (tB BK338) hb2); (try clear hb); (try clear hb2); (try clear hk); (try clear hi)) | ((with_reducible refine gate_dst (N := 12) rfl ?_); refine Kd.R_lit (Kd.int .i64) _ 2 ?hg (N := 12) ?hd (xs := ([] : List Int)) (inner := []) (ok := fun _ => True) (okp := fun _ => True) ?hr ?hp (fun _ hk => hk) trivial (Below.refl _ _) (Nat.le_refl _) (by simp) ?_; (case hd => rfl); (case hg => rfl); (case hr => first | (go_simp; done) | (go_simp; rfl)); (case hp => exact (Reps.none _ _)); intro v344 w7 ho8 hb hg_ hnew_; clear hg_ hnew_; (first | rw [← Ny343.out] at ho8 | (simp only [Int.reduceToNat] at ho8; rw [← Ny343.out] at ho8)); have HO345 := Aside0.mk (Kd.R_lower ho8 (below_size (tH2 HB (IsS209.ge HI342.out) GE338.out))); replace BK338 := tbB BK338 hb; replace HB := Aside0.mk (below_step (tH2 HB (IsS209.ge HI342.out) GE338.out) hb); replace HI342 := Aside0.mk (IsS209.below (IsS209.t1 HI342 NB342_338) hb); clear hb ho8) | ((with_reducible refine gate_callee (f := 173) rfl ?_); refine gL_ (some 14) rfl rfl Try.func173 #[.pointer (some ⟨g342, 0, none⟩), .int .i64 10] rfl ?_; (with_reducible refine (spec_l00Src_pick.calls g342 t339 t340 t341 10 t346 t347 t348 w _ ?side1 ?side2 A4.out).mono ?_); (case side1 => exact IsS209.t1 HI342 NB342_338); (case side2 => exact tH2 HB (IsS209.ge HI342.out) GE338.out); rintro e w9 ⟨rfl, hi, hb, hk⟩; refine ⟨_, rfl, ?_⟩; replace BK338 := tKB hk BK338 NB338_342.out; replace HO345 := Aside0.mk (Kd.R_mono (Kd.R_keep (IsS209.apart (show IsS209 w _ g342 t339 t340 t341 from IsS209.t1 HI342 NB342_338) (tR HO345) (by decide)) hk (fun _ h => h.2)) (fun _ h => h.1)); replace HB := Aside0.mk (hb); replace HI342 := Aside0.mk (hi); (try clear hb); (try clear hb2); (try clear hk); (try clear hi)))
 go_loopg [6, 7] k (fun kq v6 v7 w' => ∃ (x6_1 : List Int) (x7_1 : Int) (x343001_1 : Int) (x343002_1 : Int), v7 = .int .i64 x7_1 ∧ Aside0 (spec_R8Pitches.l0 kq x6_1 x7_1 a1_0 l1_1 l1_2 a1_3 a1_4 l1_5 t339 x343001_1 x343002_1 = some r) ∧ Aside0 (kq ≤ k) ∧ Aside0 (Kd.R (Kd.int .i64) 2 w' w.heap.size (fun _ => True) v6 x6_1) ∧ Aside0 (w'.heap[gb338]? = some (.cells #[.string a1_0, (.slice A1_1 l1_1.length c1_1), (.slice A1_2 l1_2.length c1_2), .int .i64 a1_3, .int .i64 a1_4, (.slice A1_5 l1_5.length c1_5)] 27 (0, 0))) ∧ Aside0 (IsS209 w w' g342 t339 x343001_1 x343002_1) ∧ Aside0 (Below w.heap.size w w'))
 case atStart => exact ⟨(y343), (t346), (t347), (t348), tq, H', ⟨Nat.le_refl _⟩, ⟨tR HO345⟩, ⟨tB BK338⟩, ⟨IsS209.t1 HI342 NB342_338⟩, ⟨tH2 HB (IsS209.ge HI342.out) GE338.out⟩⟩
 case round =>
 clear H'
 try clear c1
 try clear p2
 try clear c8
 obtain ⟨x6_1, x7_1, x343001_1, x343002_1, rfl, HA, HK1, HO_6, BK338, HI342, HB⟩ := hrel
 cases gk with
 | zero => exact absurd HA.out (by simp [spec_R8Pitches.l0])
 | succ k1 =>
 have H := HA.out
 clear HA
 simp only [spec_R8Pitches.l0] at H
 by_cases c10 : x7_1 > 0
 · rw [if_pos c10] at H
   have c10b0 : decide (0 < x7_1) = true := decide_eq_true c10
   clear c10
   replace H := Option.bind_eq_some_iff.mp H
   obtain ⟨⟨t349, t350, t351⟩, A110, H⟩ := H
   replace H : (if (x6_1.length : Int) > 0 then ((spec_l00Src_pick.f t339 t350 t351 8).bind fun bt352 => (spec_R8Pitches.j1 k1 x6_1 x7_1 (wrap64 (t349 - 4)) (decide (bt352.1 > 0)) a1_0 l1_1 l1_2 a1_3 a1_4 l1_5 t339 bt352.2.1 bt352.2.2)) else (spec_R8Pitches.j1 k1 x6_1 x7_1 (wrap64 (t349 - 4)) false a1_0 l1_1 l1_2 a1_3 a1_4 l1_5 t339 t350 t351)) = some r := H
   have A11 := Aside0.mk A110
   clear A110
   have HC12 := Aside0.mk H
   clear H
   go_upto_region 7 with (first | ((with_reducible refine gate_callee (f := 173) rfl ?_); refine gL_ (some 20) rfl rfl Try.func173 #[.pointer (some ⟨g342, 0, none⟩), .int .i64 20] rfl ?_; (with_reducible refine (spec_l00Src_pick.calls g342 t339 x343001_1 x343002_1 20 t349 t350 t351 w _ ?side1 ?side2 A11.out).mono ?_); (case side1 => exact IsS209.t1 HI342 NB342_338); (case side2 => exact tH2 HB (IsS209.ge HI342.out) GE338.out); rintro e w13 ⟨rfl, hi, hb, hk⟩; refine ⟨_, rfl, ?_⟩; replace HO_6 := Aside0.mk (Kd.R_mono (Kd.R_keep (IsS209.apart (show IsS209 w _ g342 t339 x343001_1 x343002_1 from IsS209.t1 HI342 NB342_338) (tR HO_6) (by decide)) hk (fun _ h => h.2)) (fun _ h => h.1)); replace BK338 := tKB hk BK338 NB338_342.out; replace HB := Aside0.mk (hb); replace HI342 := Aside0.mk (hi); (try clear hb); (try clear hb2); (try clear hk); (try clear hi)))
   (try simp only [Act.put, sx0, sx1, sx2])
   go_cut [29] (fun v29 wc => ∃ (kq : Nat) (x29_11 : Bool) (x343001_11 : Int) (x343002_11 : Int), v29 = .bool x29_11 ∧ Aside0 (spec_R8Pitches.j1 kq x6_1 x7_1 (wrap64 (t349 - 4)) x29_11 a1_0 l1_1 l1_2 a1_3 a1_4 l1_5 t339 x343001_11 x343002_11 = some r) ∧ Aside0 (kq ≤ k1) ∧ Aside0 (Kd.R (Kd.int .i64) 2 wc w.heap.size (fun _ => True) u6 x6_1) ∧ Aside0 (wc.heap[gb338]? = some (.cells #[.string a1_0, (.slice A1_1 l1_1.length c1_1), (.slice A1_2 l1_2.length c1_2), .int .i64 a1_3, .int .i64 a1_4, (.slice A1_5 l1_5.length c1_5)] 27 (0, 0))) ∧ Aside0 (IsS209 w wc g342 t339 x343001_11 x343002_11) ∧ Aside0 (Below w.heap.size w wc))
   case first =>
    have H := HC12.out
    clear HC12
    by_cases c14 : (x6_1.length : Int) > 0
    · rw [if_pos c14] at H
      have c14b0 : decide (0 < (x6_1.length : Int)) = true := decide_eq_true c14
      have c14b1 : decide (0 < x6_1.length) = true := decide_eq_true (by omega)
      clear c14
      (first | rw [c14b0] | (simp only [i64_w, i32_w]; rw [c14b0]) | skip)
      replace H := Option.bind_eq_some_iff.mp H
      obtain ⟨⟨t352, t353, t354⟩, A150, H⟩ := H
      replace H : (spec_R8Pitches.j1 k1 x6_1 x7_1 (wrap64 (t349 - 4)) (decide (t352 > 0)) a1_0 l1_1 l1_2 a1_3 a1_4 l1_5 t339 t353 t354) = some r := H
      have A15 := Aside0.mk A150
      clear A150
      have H' := Aside0.mk H
      clear H
      obtain ⟨Ao16, co16, eo16⟩ := Kd.R_slice HO_6.out
      subst eo16
      go_wp2_with (first | (go_at_call 173; (with_reducible refine (spec_l00Src_pick.calls g342 t339 t350 t351 8 t352 t353 t354 w _ ?side1 ?side2 A15.out).mono ?_); (case side1 => exact IsS209.t1 HI342 NB342_338); (case side2 => exact tH2 HB (IsS209.ge HI342.out) GE338.out); rintro e w17 ⟨rfl, hi, hb, hk⟩; replace HO_6 := Aside0.mk (Kd.R_mono (Kd.R_keep (IsS209.apart (show IsS209 w _ g342 t339 t350 t351 from IsS209.t1 HI342 NB342_338) (tR HO_6) (by decide)) hk (fun _ h => h.2)) (fun _ h => h.1)); replace BK338 := tKB hk BK338 NB338_342.out; replace HB := Aside0.mk (hb); replace HI342 := Aside0.mk (hi); (try clear hb); (try clear hb2); (try clear hk); (try clear hi)))
      go_meet
      case rel => exact ⟨_, (decide (t352 > 0)), (t353), (t354), tq, H', ⟨by have := HK1.out; first | omega | exact Nat.le_refl _⟩, ⟨tR HO_6⟩, ⟨tB BK338⟩, ⟨IsS209.t1 HI342 NB342_338⟩, ⟨tH2 HB (IsS209.ge HI342.out) GE338.out⟩⟩
    rw [if_neg c14] at H
    have c14b0 : decide (0 < (x6_1.length : Int)) = false := decide_eq_false c14
    have c14b1 : decide (0 < x6_1.length) = false := decide_eq_false (by omega)
    clear c14
    (first | rw [c14b0] | (simp only [i64_w, i32_w]; rw [c14b0]) | skip)
    have H' := Aside0.mk H
    clear H
    obtain ⟨Ao18, co18, eo18⟩ := Kd.R_slice HO_6.out
    subst eo18
    go_wp2
    go_meet
    case rel => exact ⟨_, (false), (t350), (t351), tq, H', ⟨by have := HK1.out; first | omega | exact Nat.le_refl _⟩, ⟨tR HO_6⟩, ⟨tB BK338⟩, ⟨IsS209.t1 HI342 NB342_338⟩, ⟨tH2 HB (IsS209.ge HI342.out) GE338.out⟩⟩
   case rest =>
   clear HC12
   try clear c1
   try clear p2
   try clear p6
   try clear c8
   try clear c10
   try clear c10b0
   try clear c14
   try clear c14b0
   try clear c14b1
   try clear c17
   try clear p2
   obtain ⟨kq, x29_11, x343001_11, x343002_11, rfl, HA, HJ11, HO_6, BK338, HI342, HB⟩ := hcut
   cases kq with
   | zero => exact absurd HA.out (by simp [spec_R8Pitches.j1])
   | succ kj11 =>
   have H := HA.out
   clear HA
   simp only [spec_R8Pitches.j1] at H
   by_cases c19 : x29_11 = true
   · subst c19
     have H1 : (if 0 ≤ (wrap64 ((x6_1.length : Int) - 1)) then (if (wrap64 ((x6_1.length : Int) - 1)) < (x6_1.length : Int) then ((spec_l05Next.f kj11 [(⟨a1_0, l1_1, l1_2, a1_3, a1_4, l1_5⟩ : S27)] (rd x6_1 (wrap64 ((x6_1.length : Int) - 1)))).bind fun t356 => (if (t356.length : Int) > 0 then ((spec_l00Src_pick.f t339 x343001_11 x343002_11 (t356.length : Int)).bind fun bt359 => (if 0 ≤ bt359.1 then (if bt359.1 < (t356.length : Int) then (if x6_1.length < 17592186044416 then (spec_R8Pitches.l0 kj11 (x6_1 ++ [rd t356 bt359.1]) (wrap64 (x7_1 - 1)) a1_0 l1_1 l1_2 a1_3 a1_4 l1_5 t339 bt359.2.1 bt359.2.2) else (none)) else (none)) else (none))) else (if x6_1.length < 17592186044416 then (spec_R8Pitches.l0 kj11 (x6_1 ++ [(wrap64 (t349 - 4))]) (wrap64 (x7_1 - 1)) a1_0 l1_1 l1_2 a1_3 a1_4 l1_5 t339 x343001_11 x343002_11) else (none)))) else (none)) else (none)) = some r := by rw [if_pos rfl] at H; exact H
     clear H
     have H := H1
     clear H1
     obtain ⟨ji20, hji20⟩ : ∃ j_ : Int, (wrap64 ((x6_1.length : Int) - 1)) = j_ := ⟨_, rfl⟩
     replace H : (if 0 ≤ (ji20) then (if (ji20) < (x6_1.length : Int) then ((spec_l05Next.f kj11 [(⟨a1_0, l1_1, l1_2, a1_3, a1_4, l1_5⟩ : S27)] (rd x6_1 (ji20))).bind fun t356 => (if (t356.length : Int) > 0 then ((spec_l00Src_pick.f t339 x343001_11 x343002_11 (t356.length : Int)).bind fun bt359 => (if 0 ≤ bt359.1 then (if bt359.1 < (t356.length : Int) then (if x6_1.length < 17592186044416 then (spec_R8Pitches.l0 kj11 (x6_1 ++ [rd t356 bt359.1]) (wrap64 (x7_1 - 1)) a1_0 l1_1 l1_2 a1_3 a1_4 l1_5 t339 bt359.2.1 bt359.2.2) else (none)) else (none)) else (none))) else (if x6_1.length < 17592186044416 then (spec_R8Pitches.l0 kj11 (x6_1 ++ [(wrap64 (t349 - 4))]) (wrap64 (x7_1 - 1)) a1_0 l1_1 l1_2 a1_3 a1_4 l1_5 t339 x343001_11 x343002_11) else (none)))) else (none)) else (none)) = some r := by first | (rw [hji20] at H; exact H) | (simp only [hji20] at H ⊢; exact H)
     have hji20w : (IntKind.i64.wrap ((x6_1.length : Int) - 1)) = ji20 := (i64_w _).trans hji20
     by_cases c21 : 0 ≤ (ji20)
     · rw [if_pos c21] at H
       have c21b0 : decide (0 ≤ (ji20)) = true := decide_eq_true c21
       clear c21
       by_cases c22 : (ji20) < (x6_1.length : Int)
       · rw [if_pos c22] at H
         have c22b0 : decide ((ji20) < (x6_1.length : Int)) = true := decide_eq_true c22
         clear c22
         replace H := Option.bind_eq_some_iff.mp H
         obtain ⟨t356, A230, H⟩ := H
         replace H : (if (t356.length : Int) > 0 then ((spec_l00Src_pick.f t339 x343001_11 x343002_11 (t356.length : Int)).bind fun bt359 => (if 0 ≤ bt359.1 then (if bt359.1 < (t356.length : Int) then (if x6_1.length < 17592186044416 then (spec_R8Pitches.l0 kj11 (x6_1 ++ [rd t356 bt359.1]) (wrap64 (x7_1 - 1)) a1_0 l1_1 l1_2 a1_3 a1_4 l1_5 t339 bt359.2.1 bt359.2.2) else (none)) else (none)) else (none))) else (if x6_1.length < 17592186044416 then (spec_R8Pitches.l0 kj11 (x6_1 ++ [(wrap64 (t349 - 4))]) (wrap64 (x7_1 - 1)) a1_0 l1_1 l1_2 a1_3 a1_4 l1_5 t339 x343001_11 x343002_11) else (none))) = some r := H
         have A23 := Aside0.mk A230
         clear A230
         by_cases c24 : (t356.length : Int) > 0
         · rw [if_pos c24] at H
           have c24b0 : decide (0 < (t356.length : Int)) = true := decide_eq_true c24
           have c24b1 : decide (0 < t356.length) = true := decide_eq_true (by omega)
           clear c24
           replace H := Option.bind_eq_some_iff.mp H
           obtain ⟨⟨t359, t360, t361⟩, A250, H⟩ := H
           replace H : (if 0 ≤ t359 then (if t359 < (t356.length : Int) then (if x6_1.length < 17592186044416 then (spec_R8Pitches.l0 kj11 (x6_1 ++ [rd t356 t359]) (wrap64 (x7_1 - 1)) a1_0 l1_1 l1_2 a1_3 a1_4 l1_5 t339 t360 t361) else (none)) else (none)) else (none)) = some r := H
           have A25 := Aside0.mk A250
           clear A250
           by_cases c26 : 0 ≤ t359
           · rw [if_pos c26] at H
             have c26b0 : decide (0 ≤ t359) = true := decide_eq_true c26
             clear c26
             by_cases c27 : t359 < (t356.length : Int)
             · rw [if_pos c27] at H
               have c27b0 : decide (t359 < (t356.length : Int)) = true := decide_eq_true c27
               clear c27
               by_cases c28 : x6_1.length < 17592186044416
               · rw [if_pos c28] at H
                 have LMc28 := Aside0.mk c28
                 clear c28
                 obtain ⟨y363, hy363⟩ : ∃ y_ : List Int, y_ = (x6_1 ++ [rd t356 t359]) := ⟨_, rfl⟩
                 replace H : (spec_R8Pitches.l0 kj11 y363 (wrap64 (x7_1 - 1)) a1_0 l1_1 l1_2 a1_3 a1_4 l1_5 t339 t360 t361) = some r := by first | (rw [hy363]; with_reducible exact H) | (have H2_ := (Option.bind_some _ _).symm.trans H; rw [hy363]; with_reducible exact H2_) | (have H2_ := (Option.bind_some _ _).symm.trans H; with_reducible exact H2_) | with_reducible exact H | (rw [hy363]; exact H) | exact H
                 have Ny363 := Aside0.mk hy363
                 clear hy363
                 have H' := Aside0.mk H
                 clear H
                 obtain ⟨Ao29, co29, eo29⟩ := Kd.R_slice HO_6.out
                 subst eo29
                 have p355 : 0 ≤ ((ji20) : Int) := of_decide_eq_true tA
                 have q355 : (ji20) < (x6_1.length : Int) := of_decide_eq_true tA
                 obtain ⟨ad355, e355, hx355_0⟩ := Kd.at_int (Kd.R_reads' HO_6.out).2.2 (ji20) p355 q355
                 cases e355
                 replace p355 := eq_true p355
                 replace q355 := eq_true q355
                 go_wp2_with (first | ((with_reducible refine gate_callee (f := 188) rfl ?_); refine goesL_ (some 36) rfl rfl Try.func188 (by kernel_rfl) rfl #[.pointer (some ⟨gb338, 0, none⟩), .int .i64 (rd x6_1 (ji20))] rfl (by (try simp only [List.map_toArray, List.map_cons, List.map_nil]); first | done | (simp only [hji20]; rfl) | rfl | (simp only [List.length_drop, List.length_take]; rfl)) ?_; (with_reducible refine (spec_l05Next.calls kj11 _ [(⟨a1_0, l1_1, l1_2, a1_3, a1_4, l1_5⟩ : S27)] (rd x6_1 (ji20)) t356 _ ?side1 ?side2 A23.out).mono ?_); (case side1 => exact Kd.C_box (k27_mk _ _ (by exact HC1_1.out) (tC (Kd.C_below HR1_1.out HB.out)) (by exact HC1_2.out) (tC (Kd.C_below HR1_2.out HB.out)) (by exact HC1_5.out) (tC (Kd.C_below HR1_5.out HB.out))) (tB BK338)); (case side2 => exact Nat.one_pos); rintro e w30 ⟨v357, rfl, ho0, hb⟩; refine ⟨_, rfl, ?_⟩; have HO358 := Aside0.mk (Kd.R_lower (Kd.R_new' ho0 (Kd.R_lt (tR HO_6))) (below_size (tH2 HB (IsS209.ge HI342.out) GE338.out))); replace HO_6 := Aside0.mk (Kd.R_elder' (tR HO_6) (Kd.R_base ho0) hb); replace BK338 := tbB BK338 hb; replace HB := Aside0.mk (below_step (tH2 HB (IsS209.ge HI342.out) GE338.out) hb); replace HI342 := Aside0.mk (IsS209.below (IsS209.t1 HI342 NB342_338) hb); (try clear hb); (try clear hb2); (try clear hk); (try clear hi); (try clear ho0); obtain ⟨Ao31, co31, eo31⟩ := Kd.R_slice HO358.out; subst eo31) | ((with_reducible refine gate_callee (f := 173) rfl ?_); refine gL_ (some 44) rfl rfl Try.func173 #[.pointer (some ⟨g342, 0, none⟩), .int .i64 (t356.length : Int)] rfl ?_; (with_reducible refine (spec_l00Src_pick.calls g342 t339 x343001_11 x343002_11 (t356.length : Int) t359 t360 t361 w _ ?side1 ?side2 A25.out).mono ?_); (case side1 => exact IsS209.t1 HI342 NB342_338); (case side2 => exact tH2 HB (IsS209.ge HI342.out) GE338.out); rintro e w32 ⟨rfl, hi, hb, hk⟩; refine ⟨_, rfl, ?_⟩; replace HO_6 := Aside0.mk (Kd.R_mono (Kd.R_keep (IsS209.apart (show IsS209 w _ g342 t339 x343001_11 x343002_11 from IsS209.t1 HI342 NB342_338) (tR HO_6) (by decide)) hk (fun _ h => h.2)) (fun _ h => h.1)); replace BK338 := tKB hk BK338 NB338_342.out; replace HO358 := Aside0.mk (Kd.R_mono (Kd.R_keep (IsS209.apart (show IsS209 w _ g342 t339 x343001_11 x343002_11 from IsS209.t1 HI342 NB342_338) (tR HO358) (by decide)) hk (fun _ h => h.2)) (fun _ h => h.1)); replace HB := Aside0.mk (hb); replace HI342 := Aside0.mk (hi); (try clear hb); (try clear hb2); (try clear hk); (try clear hi); have p362 : 0 ≤ (t359 : Int) := of_decide_eq_true tA; have q362 : t359 < (t356.length : Int) := of_decide_eq_true tA; obtain ⟨ad362, e362, hx362_0⟩ := Kd.at_int (Kd.R_reads' HO358.out).2.2 t359 p362 q362; cases e362; replace p362 := eq_true p362; replace q362 := eq_true q362) | ((with_reducible refine gate_builtin (b := .append) (xs := #[.tmp 47, .tmp 49]) rfl ?_); at_builtin; refine Kd.R_append (Kd.int .i64) (w0 := w) w.heap.size rfl (.tmp 47) (.tmp 49) 24 2 (.int .i64 0) 8 rfl Try.underlying24 info2 rfl (by decide) (by omega) (.slice (some ad355) x6_1.length co29) x6_1 (rd t356 t359) [.int .i64 (rd t356 t359)] (fun k_ => some k_ ≠ (.slice (some ad362) t356.length co31 : Value).ownBlock) (fun _ => False) rfl rfl ?aP (fun _ hk => hk.elim) ?aF ?aO ?aB ?aS ?aL ?_; (case aP => exact rfl); (case aB => exact (tH2 HB (IsS209.ge HI342.out) GE338.out)); (case aF => exact (fun k_ hk => Kd.fresh' (Kd.R_lt (tR HO358)) k_ hk)); (case aO => exact (by (with_reducible repeat (first | apply qra | apply qrn | apply qrd)); exact Kd.R_mono HO_6.out (fun _ hk => hk.2))); (case aS => exact (below_size (tH2 HB (IsS209.ge HI342.out) GE338.out))); (case aL => have := LMc28.out; omega); intro v364 w33 ho hb hg hat; rw [← Ny363.out] at ho; replace BK338 := Aside0.mk (blk_grown (g := gb338) (o := .cells #[.string a1_0, .slice A1_1 l1_1.length c1_1, .slice A1_2 l1_2.length c1_2, .int .i64 a1_3, .int .i64 a1_4, .slice A1_5 l1_5.length c1_5] 27 (0, 0)) (tB BK338) hg (Kd.R_ne HO_6.out BK338.out (by decide))); replace HI342 := Aside0.mk (IsS209.grown (IsS209.t1 HI342 NB342_338) hg (IsS209.own_ne HI342.out HO_6.out (by decide))); replace HO358 := Aside0.mk (Kd.R_after (ok := (fun _ => True)) (tR HO358) hg hat); replace HB := Aside0.mk (hb); have HO365 := Aside0.mk (ho); clear HO_6; clear ho hb hg hat))
                 go_roundg kj11
                 case measure => have := HK1.out; have := HJ11.out; omega
                 case rel => exact ⟨(y363), (wrap64 (x7_1 - 1)), (t360), (t361), tq, H', ⟨by have := HK1.out; have := HJ11.out; omega⟩, ⟨by (with_reducible repeat (first | apply qra | apply qrn | apply qrd)); exact Kd.R_mono HO365.out (fun _ hk => trivial)⟩, ⟨tB BK338⟩, ⟨IsS209.t1 HI342 NB342_338⟩, ⟨tH2 HB (IsS209.ge HI342.out) GE338.out⟩⟩
               rw [if_neg c28] at H
               exact absurd H (by simp)
             rw [if_neg c27] at H
             exact absurd H (by simp)
           rw [if_neg c26] at H
           exact absurd H (by simp)
         rw [if_neg c24] at H
         have c24b0 : decide (0 < (t356.length : Int)) = false := decide_eq_false c24
         have c24b1 : decide (0 < t356.length) = false := decide_eq_false (by omega)
         clear c24
         by_cases c34 : x6_1.length < 17592186044416
         · rw [if_pos c34] at H
           have LMc34 := Aside0.mk c34
           clear c34
           obtain ⟨y366, hy366⟩ : ∃ y_ : List Int, y_ = (x6_1 ++ [(wrap64 (t349 - 4))]) := ⟨_, rfl⟩
           replace H : (spec_R8Pitches.l0 kj11 y366 (wrap64 (x7_1 - 1)) a1_0 l1_1 l1_2 a1_3 a1_4 l1_5 t339 x343001_11 x343002_11) = some r := by first | (rw [hy366]; with_reducible exact H) | (have H2_ := (Option.bind_some _ _).symm.trans H; rw [hy366]; with_reducible exact H2_) | (have H2_ := (Option.bind_some _ _).symm.trans H; with_reducible exact H2_) | with_reducible exact H | (rw [hy366]; exact H) | exact H
           have Ny366 := Aside0.mk hy366
           clear hy366
           have H' := Aside0.mk H
           clear H
           obtain ⟨Ao35, co35, eo35⟩ := Kd.R_slice HO_6.out
           subst eo35
           have p355 : 0 ≤ ((ji20) : Int) := of_decide_eq_true tA
           have q355 : (ji20) < (x6_1.length : Int) := of_decide_eq_true tA
           obtain ⟨ad355, e355, hx355_0⟩ := Kd.at_int (Kd.R_reads' HO_6.out).2.2 (ji20) p355 q355
           cases e355
           replace p355 := eq_true p355
           replace q355 := eq_true q355
           go_wp2_with (first | ((with_reducible refine gate_callee (f := 188) rfl ?_); refine goesL_ (some 36) rfl rfl Try.func188 (by kernel_rfl) rfl #[.pointer (some ⟨gb338, 0, none⟩), .int .i64 (rd x6_1 (ji20))] rfl (by (try simp only [List.map_toArray, List.map_cons, List.map_nil]); first | done | (simp only [hji20]; rfl) | rfl | (simp only [List.length_drop, List.length_take]; rfl)) ?_; (with_reducible refine (spec_l05Next.calls kj11 _ [(⟨a1_0, l1_1, l1_2, a1_3, a1_4, l1_5⟩ : S27)] (rd x6_1 (ji20)) t356 _ ?side1 ?side2 A23.out).mono ?_); (case side1 => exact Kd.C_box (k27_mk _ _ (by exact HC1_1.out) (tC (Kd.C_below HR1_1.out HB.out)) (by exact HC1_2.out) (tC (Kd.C_below HR1_2.out HB.out)) (by exact HC1_5.out) (tC (Kd.C_below HR1_5.out HB.out))) (tB BK338)); (case side2 => exact Nat.one_pos); rintro e w36 ⟨v357, rfl, ho0, hb⟩; refine ⟨_, rfl, ?_⟩; have HO358 := Aside0.mk (Kd.R_lower (Kd.R_new' ho0 (Kd.R_lt (tR HO_6))) (below_size (tH2 HB (IsS209.ge HI342.out) GE338.out))); replace HO_6 := Aside0.mk (Kd.R_elder' (tR HO_6) (Kd.R_base ho0) hb); replace BK338 := tbB BK338 hb; replace HB := Aside0.mk (below_step (tH2 HB (IsS209.ge HI342.out) GE338.out) hb); replace HI342 := Aside0.mk (IsS209.below (IsS209.t1 HI342 NB342_338) hb); (try clear hb); (try clear hb2); (try clear hk); (try clear hi); (try clear ho0); obtain ⟨Ao37, co37, eo37⟩ := Kd.R_slice HO358.out; subst eo37) | ((with_reducible refine gate_builtin (b := .append) (xs := #[.tmp 47, .tmp 49]) rfl ?_); at_builtin; refine Kd.R_append (Kd.int .i64) (w0 := w) w.heap.size rfl (.tmp 47) (.tmp 49) 24 2 (.int .i64 0) 8 rfl Try.underlying24 info2 rfl (by decide) (by omega) (.slice (some ad355) x6_1.length co35) x6_1 (wrap64 (t349 - 4)) [.int .i64 (wrap64 (t349 - 4))] (fun k_ => some k_ ≠ (.slice Ao37 t356.length co37 : Value).ownBlock) (fun _ => False) rfl rfl ?aP (fun _ hk => hk.elim) ?aF ?aO ?aB ?aS ?aL ?_; (case aP => exact rfl); (case aB => exact (tH2 HB (IsS209.ge HI342.out) GE338.out)); (case aF => exact (fun k_ hk => Kd.fresh' (Kd.R_lt (tR HO358)) k_ hk)); (case aO => exact (by (with_reducible repeat (first | apply qra | apply qrn | apply qrd)); exact Kd.R_mono HO_6.out (fun _ hk => hk.2))); (case aS => exact (below_size (tH2 HB (IsS209.ge HI342.out) GE338.out))); (case aL => have := LMc34.out; omega); intro v367 w38 ho hb hg hat; rw [← Ny366.out] at ho; replace BK338 := Aside0.mk (blk_grown (g := gb338) (o := .cells #[.string a1_0, .slice A1_1 l1_1.length c1_1, .slice A1_2 l1_2.length c1_2, .int .i64 a1_3, .int .i64 a1_4, .slice A1_5 l1_5.length c1_5] 27 (0, 0)) (tB BK338) hg (Kd.R_ne HO_6.out BK338.out (by decide))); replace HI342 := Aside0.mk (IsS209.grown (IsS209.t1 HI342 NB342_338) hg (IsS209.own_ne HI342.out HO_6.out (by decide))); replace HO358 := Aside0.mk (Kd.R_after (ok := (fun _ => True)) (tR HO358) hg hat); replace HB := Aside0.mk (hb); have HO368 := Aside0.mk (ho); clear HO_6; clear ho hb hg hat))
           go_roundg kj11
           case measure => have := HK1.out; have := HJ11.out; omega
           case rel => exact ⟨(y366), (wrap64 (x7_1 - 1)), (x343001_11), (x343002_11), tq, H', ⟨by have := HK1.out; have := HJ11.out; omega⟩, ⟨by (with_reducible repeat (first | apply qra | apply qrn | apply qrd)); exact Kd.R_mono HO368.out (fun _ hk => trivial)⟩, ⟨tB BK338⟩, ⟨IsS209.t1 HI342 NB342_338⟩, ⟨tH2 HB (IsS209.ge HI342.out) GE338.out⟩⟩
         rw [if_neg c34] at H
         exact absurd H (by simp)
       rw [if_neg c22] at H
       exact absurd H (by simp)
     rw [if_neg c21] at H
     exact absurd H (by simp)
   replace c19 := Bool.eq_false_iff.mpr c19
   subst c19
   have H1 : (if x6_1.length < 17592186044416 then (spec_R8Pitches.l0 kj11 (x6_1 ++ [(wrap64 (t349 - 4))]) (wrap64 (x7_1 - 1)) a1_0 l1_1 l1_2 a1_3 a1_4 l1_5 t339 x343001_11 x343002_11) else (none)) = some r := by rw [if_neg (show ¬ (false = true) by decide)] at H; exact H
   clear H
   have H := H1
   clear H1
   by_cases c39 : x6_1.length < 17592186044416
   · rw [if_pos c39] at H
     have LMc39 := Aside0.mk c39
     clear c39
     obtain ⟨y369, hy369⟩ : ∃ y_ : List Int, y_ = (x6_1 ++ [(wrap64 (t349 - 4))]) := ⟨_, rfl⟩
     replace H : (spec_R8Pitches.l0 kj11 y369 (wrap64 (x7_1 - 1)) a1_0 l1_1 l1_2 a1_3 a1_4 l1_5 t339 x343001_11 x343002_11) = some r := by first | (rw [hy369]; with_reducible exact H) | (have H2_ := (Option.bind_some _ _).symm.trans H; rw [hy369]; with_reducible exact H2_) | (have H2_ := (Option.bind_some _ _).symm.trans H; with_reducible exact H2_) | with_reducible exact H | (rw [hy369]; exact H) | exact H
     have Ny369 := Aside0.mk hy369
     clear hy369
     have H' := Aside0.mk H
     clear H
     go_wp2_with (first | ((with_reducible refine gate_builtin (b := .append) (xs := #[.tmp 47, .tmp 49]) rfl ?_); at_builtin; refine Kd.R_append (Kd.int .i64) (w0 := w) w.heap.size rfl (.tmp 47) (.tmp 49) 24 2 (.int .i64 0) 8 rfl Try.underlying24 info2 rfl (by decide) (by omega) u6 x6_1 (wrap64 (t349 - 4)) [.int .i64 (wrap64 (t349 - 4))] (fun _ => True) (fun _ => False) rfl rfl ?aP (fun _ hk => hk.elim) ?aF ?aO ?aB ?aS ?aL ?_; (case aP => exact rfl); (case aB => exact (tH2 HB (IsS209.ge HI342.out) GE338.out)); (case aF => exact (fun _ _ => trivial)); (case aO => exact (tR HO_6)); (case aS => exact (below_size (tH2 HB (IsS209.ge HI342.out) GE338.out))); (case aL => have := LMc39.out; omega); intro v370 w40 ho hb hg hat; rw [← Ny369.out] at ho; replace BK338 := Aside0.mk (blk_grown (g := gb338) (o := .cells #[.string a1_0, .slice A1_1 l1_1.length c1_1, .slice A1_2 l1_2.length c1_2, .int .i64 a1_3, .int .i64 a1_4, .slice A1_5 l1_5.length c1_5] 27 (0, 0)) (tB BK338) hg (Kd.R_ne HO_6.out BK338.out (by decide))); replace HI342 := Aside0.mk (IsS209.grown (IsS209.t1 HI342 NB342_338) hg (IsS209.own_ne HI342.out HO_6.out (by decide))); replace HB := Aside0.mk (hb); have HO371 := Aside0.mk (ho); clear HO_6; clear ho hb hg hat))
     go_roundg kj11
     case measure => have := HK1.out; have := HJ11.out; omega
     case rel => exact ⟨(y369), (wrap64 (x7_1 - 1)), (x343001_11), (x343002_11), tq, H', ⟨by have := HK1.out; have := HJ11.out; omega⟩, ⟨tR HO371⟩, ⟨tB BK338⟩, ⟨IsS209.t1 HI342 NB342_338⟩, ⟨tH2 HB (IsS209.ge HI342.out) GE338.out⟩⟩
   rw [if_neg c39] at H
   exact absurd H (by simp)
 rw [if_neg c10] at H
 have c10b0 : decide (0 < x7_1) = false := decide_eq_false c10
 clear c10
 obtain rfl := Option.some.inj H
 go_wp2
 go_ret
 exact ⟨_, tE, tR HO_6, tH2 HB (IsS209.ge HI342.out) GE338.out⟩

/-! ### impl_within: function 117 -/
def impl_within.f (a0 : Int) (a1 : Int) (a2 : Int) : Option (Bool) := if a0 ≥ a1 then (some (decide (a0 ≤ a2))) else (some false)
set_option maxHeartbeats 8000000 in
set_option maxRecDepth 100000 in
theorem impl_within.calls (a0 : Int) (a1 : Int) (a2 : Int) (r : Bool) (w : World) (h : impl_within.f a0 a1 a2 = some r) :
 Calls Try.prog 117 #[.int .i64 a0, .int .i64 a1, .int .i64 a2] w fun e w' => e = .returned (.bool r) ∧ Drawn0 w w' := by
 have H : (if a0 ≥ a1 then (some (decide (a0 ≤ a2))) else (some false)) = some r := h
 clear h
 by_cases c4 : a0 ≥ a1
 · rw [if_pos c4] at H
   have c4b0 : decide (a1 ≤ a0) = true := decide_eq_true c4
   clear c4
   obtain rfl := Option.some.inj H
   go_enter Try.func117, Try.ntmps117
   go_wp2
   go_ret
   exact ⟨by first | rfl | (simp; done) | (simp [*]; done), tZ⟩
 rw [if_neg c4] at H
 have c4b0 : decide (a1 ≤ a0) = false := decide_eq_false c4
 clear c4
 obtain rfl := Option.some.inj H
 go_enter Try.func117, Try.ntmps117
 go_wp2
 go_ret
 exact ⟨by first | rfl | (simp; done) | (simp [*]; done), tZ⟩

end Go.Proofs.Ytbedlmlofnphkaa.PZ
