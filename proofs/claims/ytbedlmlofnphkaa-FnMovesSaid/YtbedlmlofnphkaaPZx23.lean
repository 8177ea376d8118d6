-- WRITTEN BY wip/gprint.py, a program of this session's over the kit's print, with contracts given by hand
import Derived.Test.YtbedlmlofnphkaaPZx0
import Derived.Test.YtbedlmlofnphkaaPZx20
import Derived.Test.YtbedlmlofnphkaaPZx22
namespace Go.Proofs.Ytbedlmlofnphkaa.PZ
open Go.RowKit Go.Proofs.YtbedlmlofnphkaaW.PrintWords Go.Proofs.YtbedlmlofnphkaaW.PrintLast Go.Proofs.YtbedlmlofnphkaaW.PrintMore
attribute [local go_sem] max2_int min2_int max_two min_two max_three min_three max_four min_four   -- for this text's walks alone
set_option linter.unusedVariables false
set_option linter.unusedSimpArgs false

attribute [local go_sem] isSome_setCell
/-! ### impl_Raga_reason: function 256 -/
mutual
def impl_Raga_reason.j0 : Nat → Int → Int → Bool → ByteArray → List Int → List Int → Int → Int → List (List Int) → Int → Int → Option (Int)
 | 0, _, _, _, _, _, _, _, _, _, _, _ => none
 | k + 1, x1, x2, x13, x410000, x410001, x410002, x410003, x410004, x410005, x413000, x414000 => if x13 = true then (some 1) else ((impl_abs.f (wrap64 (x1 - x2))).bind fun t416 => (if t416 > 12 then (some 2) else (if x2 > x1 then ((slices_Contains_int64_int64.f k x410001 x414000).bind fun t417 => (impl_Raga_reason.j1 k x1 x2 (!t417) x410000 x410001 x410002 x410003 x410004 x410005 x413000 x414000)) else (impl_Raga_reason.j1 k x1 x2 false x410000 x410001 x410002 x410003 x410004 x410005 x413000 x414000))))
def impl_Raga_reason.j1 : Nat → Int → Int → Bool → ByteArray → List Int → List Int → Int → Int → List (List Int) → Int → Int → Option (Int)
 | 0, _, _, _, _, _, _, _, _, _, _, _ => none
 | k + 1, x1, x2, x30, x410000, x410001, x410002, x410003, x410004, x410005, x413000, x414000 => if x30 = true then (some 3) else (if x2 < x1 then ((slices_Contains_int64_int64.f k x410002 x414000).bind fun t418 => (impl_Raga_reason.j2 k (!t418) x410000 x410001 x410002 x410003 x410004 x410005 x413000 x414000)) else (impl_Raga_reason.j2 k false x410000 x410001 x410002 x410003 x410004 x410005 x413000 x414000))
def impl_Raga_reason.j2 : Nat → Bool → ByteArray → List Int → List Int → Int → Int → List (List Int) → Int → Int → Option (Int)
 | 0, _, _, _, _, _, _, _, _, _ => none
 | k + 1, x41, x410000, x410001, x410002, x410003, x410004, x410005, x413000, x414000 => if x41 = true then (some 4) else ((slices_ContainsFunc_at_impl_Raga_reason_1.f x410005 [x413000] [x414000]).bind fun t419 => (if t419 = true then (some 5) else (some 0)))
end
def impl_Raga_reason.f (k : Nat) (a0_0 : ByteArray) (l0_1 : List Int) (l0_2 : List Int) (a0_3 : Int) (a0_4 : Int) (l0_5 : List (List Int)) (a1 : Int) (a2 : Int) : Option (Int) := (impl_ToneOf.f a1).bind fun t410 => ((impl_ToneOf.f a2).bind fun t411 => ((impl_Raga_hasTone.f k a0_0 l0_1 l0_2 a0_3 a0_4 l0_5 t410).bind fun t414 => (if t414 = true then ((impl_Raga_hasTone.f k a0_0 l0_1 l0_2 a0_3 a0_4 l0_5 t411).bind fun t415 => (impl_Raga_reason.j0 k a1 a2 (!t415) a0_0 l0_1 l0_2 a0_3 a0_4 l0_5 t410 t411)) else (impl_Raga_reason.j0 k a1 a2 true a0_0 l0_1 l0_2 a0_3 a0_4 l0_5 t410 t411))))
theorem impl_Raga_reason.mono_l : ∀ k, (∀ y0 y1 y2 y3 y4 y5 y6 y7 y8 y9 y10, LeO (impl_Raga_reason.j0 k y0 y1 y2 y3 y4 y5 y6 y7 y8 y9 y10) (impl_Raga_reason.j0 (k + 1) y0 y1 y2 y3 y4 y5 y6 y7 y8 y9 y10)) ∧ (∀ y0 y1 y2 y3 y4 y5 y6 y7 y8 y9 y10, LeO (impl_Raga_reason.j1 k y0 y1 y2 y3 y4 y5 y6 y7 y8 y9 y10) (impl_Raga_reason.j1 (k + 1) y0 y1 y2 y3 y4 y5 y6 y7 y8 y9 y10)) ∧ (∀ y0 y1 y2 y3 y4 y5 y6 y7 y8, LeO (impl_Raga_reason.j2 k y0 y1 y2 y3 y4 y5 y6 y7 y8) (impl_Raga_reason.j2 (k + 1) y0 y1 y2 y3 y4 y5 y6 y7 y8))
 | 0 => ⟨fun _ _ _ _ _ _ _ _ _ _ _ r h => by simp [impl_Raga_reason.j0] at h, fun _ _ _ _ _ _ _ _ _ _ _ r h => by simp [impl_Raga_reason.j1] at h, fun _ _ _ _ _ _ _ _ _ r h => by simp [impl_Raga_reason.j2] at h⟩
 | k + 1 => by
  obtain ⟨ih0, ih1, ih2⟩ := impl_Raga_reason.mono_l k
  refine ⟨?_, ?_, ?_⟩
  all_goals (intros; (first | unfold impl_Raga_reason.j0 | unfold impl_Raga_reason.j1 | unfold impl_Raga_reason.j2); repeat' first
   | (with_reducible exact ih0 _ _ _ _ _ _ _ _ _ _ _)
   | (with_reducible exact ih1 _ _ _ _ _ _ _ _ _ _ _)
   | (with_reducible exact ih2 _ _ _ _ _ _ _ _ _)
   | (with_reducible exact impl_Raga_hasTone.mono _ _ _ _ _ _ _ _)
   | (with_reducible exact slices_Contains_int64_int64.mono _ _ _)
   | (with_reducible exact LeO.refl _)
   | (with_reducible exact LeO.none _)
   | (with_reducible refine LeO.ite ?_ ?_)
   | (with_reducible refine LeO.bind ?_ (fun _ => ?_))
   | exact ih0 _ _ _ _ _ _ _ _ _ _ _
   | exact ih1 _ _ _ _ _ _ _ _ _ _ _
   | exact ih2 _ _ _ _ _ _ _ _ _
   | exact impl_Raga_hasTone.mono _ _ _ _ _ _ _ _
   | exact slices_Contains_int64_int64.mono _ _ _
   | exact LeO.none _
   | refine LeO.ite ?_ ?_
   | refine LeO.bind ?_ (fun _ => ?_))
theorem impl_Raga_reason.mono : ∀ a0 a1 a2 a3 a4 a5 a6 a7 k, LeO (impl_Raga_reason.f k a0 a1 a2 a3 a4 a5 a6 a7) (impl_Raga_reason.f (k + 1) a0 a1 a2 a3 a4 a5 a6 a7) := by
 intro a0 a1 a2 a3 a4 a5 a6 a7 k
 obtain ⟨ih0, ih1, ih2⟩ := impl_Raga_reason.mono_l k
 unfold impl_Raga_reason.f
 repeat' first
  | (with_reducible exact ih0 _ _ _ _ _ _ _ _ _ _ _)
  | (with_reducible exact ih1 _ _ _ _ _ _ _ _ _ _ _)
  | (with_reducible exact ih2 _ _ _ _ _ _ _ _ _)
  | (with_reducible exact impl_Raga_hasTone.mono _ _ _ _ _ _ _ _)
  | (with_reducible exact slices_Contains_int64_int64.mono _ _ _)
  | (with_reducible exact LeO.refl _)
  | (with_reducible exact LeO.none _)
  | (with_reducible refine LeO.ite ?_ ?_)
  | (with_reducible refine LeO.bind ?_ (fun _ => ?_))
  | exact ih0 _ _ _ _ _ _ _ _ _ _ _
  | exact ih1 _ _ _ _ _ _ _ _ _ _ _
  | exact ih2 _ _ _ _ _ _ _ _ _
  | exact impl_Raga_hasTone.mono _ _ _ _ _ _ _ _
  | exact slices_Contains_int64_int64.mono _ _ _
  | exact LeO.none _
  | refine LeO.ite ?_ ?_
  | refine LeO.bind ?_ (fun _ => ?_)
set_option maxHeartbeats 8000000 in
set_option maxRecDepth 100000 in
theorem impl_Raga_reason.calls (k : Nat) (a0_0 : ByteArray) (A0_1 : Option Addr) (c0_1 : Nat) (l0_1 : List Int) (A0_2 : Option Addr) (c0_2 : Nat) (l0_2 : List Int) (a0_3 : Int) (a0_4 : Int) (A0_5 : Option Addr) (c0_5 : Nat) (l0_5 : List (List Int)) (a1 : Int) (a2 : Int) (r : Int) (w : World) (hr0_1 : Kd.C (Kd.int .i64) w A0_1 l0_1.length l0_1) (hc0_1 : l0_1.length ≤ c0_1) (hr0_2 : Kd.C (Kd.int .i64) w A0_2 l0_2.length l0_2) (hc0_2 : l0_2.length ≤ c0_2) (hr0_5 : Kd.C (Kd.slice 2 (Kd.int .i64)) w A0_5 l0_5.length l0_5) (hc0_5 : l0_5.length ≤ c0_5) (h : impl_Raga_reason.f k a0_0 l0_1 l0_2 a0_3 a0_4 l0_5 a1 a2 = some r) :
 Calls Try.prog 256 #[.agg #[.string a0_0, .slice A0_1 l0_1.length c0_1, .slice A0_2 l0_2.length c0_2, .int .i64 a0_3, .int .i64 a0_4, .slice A0_5 l0_5.length c0_5], .int .i64 a1, .int .i64 a2] w fun e w' => e = .returned (.int .i64 r) ∧ Below w.heap.size w w' := by
 have hu27 := Try.underlying27
 have HR0_1 := Aside0.mk hr0_1
 have HC0_1 := Aside0.mk hc0_1
 clear hr0_1 hc0_1
 have HR0_2 := Aside0.mk hr0_2
 have HC0_2 := Aside0.mk hc0_2
 clear hr0_2 hc0_2
 have HR0_5 := Aside0.mk hr0_5
 have HC0_5 := Aside0.mk hc0_5
 clear hr0_5 hc0_5
 have HB := Aside0.mk (Below.refl w.heap.size w)
 have H : ((impl_ToneOf.f a1).bind fun t410 => ((impl_ToneOf.f a2).bind fun t411 => ((impl_Raga_hasTone.f k a0_0 l0_1 l0_2 a0_3 a0_4 l0_5 t410).bind fun t414 => (if t414 = true then ((impl_Raga_hasTone.f k a0_0 l0_1 l0_2 a0_3 a0_4 l0_5 t411).bind fun t415 => (impl_Raga_reason.j0 k a1 a2 (!t415) a0_0 l0_1 l0_2 a0_3 a0_4 l0_5 t410 t411)) else (impl_Raga_reason.j0 k a1 a2 true a0_0 l0_1 l0_2 a0_3 a0_4 l0_5 t410 t411))))) = some r := h
 clear h
 replace H := Option.bind_eq_some_iff.mp H
 obtain ⟨t410, A40, H⟩ := H
 replace H : ((impl_ToneOf.f a2).bind fun t411 => ((impl_Raga_hasTone.f k a0_0 l0_1 l0_2 a0_3 a0_4 l0_5 t410).bind fun t414 => (if t414 = true then ((impl_Raga_hasTone.f k a0_0 l0_1 l0_2 a0_3 a0_4 l0_5 t411).bind fun t415 => (impl_Raga_reason.j0 k a1 a2 (!t415) a0_0 l0_1 l0_2 a0_3 a0_4 l0_5 t410 t411)) else (impl_Raga_reason.j0 k a1 a2 true a0_0 l0_1 l0_2 a0_3 a0_4 l0_5 t410 t411)))) = some r := H
 have A4 := Aside0.mk A40
 clear A40
 replace H := Option.bind_eq_some_iff.mp H
 obtain ⟨t411, A50, H⟩ := H
 replace H : ((impl_Raga_hasTone.f k a0_0 l0_1 l0_2 a0_3 a0_4 l0_5 t410).bind fun t414 => (if t414 = true then ((impl_Raga_hasTone.f k a0_0 l0_1 l0_2 a0_3 a0_4 l0_5 t411).bind fun t415 => (impl_Raga_reason.j0 k a1 a2 (!t415) a0_0 l0_1 l0_2 a0_3 a0_4 l0_5 t410 t411)) else (impl_Raga_reason.j0 k a1 a2 true a0_0 l0_1 l0_2 a0_3 a0_4 l0_5 t410 t411))) = some r := H
 have A5 := Aside0.mk A50
 clear A50
 have HC6 := Aside0.mk H
 clear H
 go_enter Try.func256, Try.ntmps256
 go_upto_region 2 with (first | ((with_reducible refine gate_dst (N := 3) rfl ?_); refine box_event ?hg (N := 3) ?hd (cs := #[.string a0_0, .slice A0_1 l0_1.length c0_1, .slice A0_2 l0_2.length c0_2, .int .i64 a0_3, .int .i64 a0_4, .slice A0_5 l0_5.length c0_5]) (t := 27) ?hr ?_; (case hd => rfl); (case hg => rfl); (case hr => first | (go_simp; done) | (go_simp; rfl)); intro gb409 hg w7 hbox hb; have BK409 := Aside0.mk (hbox); have GW409 := Aside0.mk ((by rw [hg]; exact (below_size (tH HB)) : w.heap.size ≤ gb409)); have GE409 := Aside0.mk ((by rw [hg]; exact (below_size (tH HB)) : w.heap.size ≤ gb409)); replace HB := Aside0.mk (below_step (tH HB) hb); clear hb hbox hg) | ((with_reducible refine gate_callee (f := 57) rfl ?_); refine gL_ (some 10) rfl rfl Try.func57 #[.int .i64 a1] rfl ?_; (with_reducible refine (impl_ToneOf.calls a1 t410 _ A4.out).mono ?_); rintro e w' ⟨rfl, ⟨nd, rfl⟩⟩; refine ⟨_, rfl, ?_⟩; (try (rw [drewN_self w7]; generalize hq_ : World.drewN w7 _ = w7; have n0_ : Aside0 (w7.heap[gb409]? = some (.cells #[.string a0_0, .slice A0_1 l0_1.length c0_1, .slice A0_2 l0_2.length c0_2, .int .i64 a0_3, .int .i64 a0_4, .slice A0_5 l0_5.length c0_5] 27 (0, 0))) := ⟨by rw [← hq_]; exact (tB BK409)⟩; have n1_ : Aside0 (Below w.heap.size w w7) := ⟨by rw [← hq_]; exact (tH1 HB GE409.out)⟩; clear BK409 HB hq_; have BK409 := n0_; have HB := n1_; clear n0_ n1_))) | ((with_reducible refine gate_callee (f := 57) rfl ?_); refine gL_ (some 12) rfl rfl Try.func57 #[.int .i64 a2] rfl ?_; (with_reducible refine (impl_ToneOf.calls a2 t411 _ A5.out).mono ?_); rintro e w' ⟨rfl, ⟨nd, rfl⟩⟩; refine ⟨_, rfl, ?_⟩; (try (rw [drewN_self w7]; generalize hq_ : World.drewN w7 _ = w7; have n0_ : Aside0 (w7.heap[gb409]? = some (.cells #[.string a0_0, .slice A0_1 l0_1.length c0_1, .slice A0_2 l0_2.length c0_2, .int .i64 a0_3, .int .i64 a0_4, .slice A0_5 l0_5.length c0_5] 27 (0, 0))) := ⟨by rw [← hq_]; exact (tB BK409)⟩; have n1_ : Aside0 (Below w.heap.size w w7) := ⟨by rw [← hq_]; exact (tH1 HB GE409.out)⟩; clear BK409 HB hq_; have BK409 := n0_; have HB := n1_; clear n0_ n1_))) | ((with_reducible refine gate_dst (N := 7) rfl ?_); refine box_event ?hg (N := 7) ?hd (cs := #[.int .i64 0]) (t := 2) ?hr ?_; (case hd => rfl); (case hg => rfl); (case hr => first | (go_simp; done) | (go_simp; rfl)); intro gb412 hg w8 hbox hb; have BK412 := Aside0.mk (hbox); have GW412 := Aside0.mk ((by rw [hg]; exact (below_size (tH1 HB GE409.out)) : w.heap.size ≤ gb412)); have GE412 := Aside0.mk ((by rw [hg]; exact (below_size (tH1 HB GE409.out)) : w.heap.size ≤ gb412)); replace HB := Aside0.mk (below_step (tH1 HB GE409.out) hb); have NB409_412 := Aside0.mk ((by rw [hg]; exact Nat.ne_of_lt (blk_lt (g := gb409) (o := .cells #[.string a0_0, .slice A0_1 l0_1.length c0_1, .slice A0_2 l0_2.length c0_2, .int .i64 a0_3, .int .i64 a0_4, .slice A0_5 l0_5.length c0_5] 27 (0, 0)) (tB BK409)) : gb409 ≠ gb412)); have NB412_409 := Aside0.mk ((by rw [hg]; exact Nat.ne_of_gt (blk_lt (g := gb409) (o := .cells #[.string a0_0, .slice A0_1 l0_1.length c0_1, .slice A0_2 l0_2.length c0_2, .int .i64 a0_3, .int .i64 a0_4, .slice A0_5 l0_5.length c0_5] 27 (0, 0)) (tB BK409)) : gb412 ≠ gb409)); replace BK409 := tbB BK409 hb; clear hb hbox hg) | ((with_reducible refine gate_dst (N := 8) rfl ?_); refine box_event ?hg (N := 8) ?hd (cs := #[.int .i64 0]) (t := 2) ?hr ?_; (case hd => rfl); (case hg => rfl); (case hr => first | (go_simp; done) | (go_simp; rfl)); intro gb413 hg w9 hbox hb; have BK413 := Aside0.mk (hbox); have GW413 := Aside0.mk ((by rw [hg]; exact (below_size (tH2 HB GE409.out GE412.out)) : w.heap.size ≤ gb413)); have GE413 := Aside0.mk ((by rw [hg]; exact (below_size (tH2 HB GE409.out GE412.out)) : w.heap.size ≤ gb413)); replace HB := Aside0.mk (below_step (tH2 HB GE409.out GE412.out) hb); have NB409_413 := Aside0.mk ((by rw [hg]; exact Nat.ne_of_lt (blk_lt (g := gb409) (o := .cells #[.string a0_0, .slice A0_1 l0_1.length c0_1, .slice A0_2 l0_2.length c0_2, .int .i64 a0_3, .int .i64 a0_4, .slice A0_5 l0_5.length c0_5] 27 (0, 0)) (tB BK409)) : gb409 ≠ gb413)); have NB413_409 := Aside0.mk ((by rw [hg]; exact Nat.ne_of_gt (blk_lt (g := gb409) (o := .cells #[.string a0_0, .slice A0_1 l0_1.length c0_1, .slice A0_2 l0_2.length c0_2, .int .i64 a0_3, .int .i64 a0_4, .slice A0_5 l0_5.length c0_5] 27 (0, 0)) (tB BK409)) : gb413 ≠ gb409)); replace BK409 := tbB BK409 hb; have NB412_413 := Aside0.mk ((by rw [hg]; exact Nat.ne_of_lt (blk_lt (g := gb412) (o := .cells #[.int .i64 0] 2 (0, 0)) (tB BK412)) : gb412 ≠ gb413)); have NB413_412 := Aside0.mk ((by rw [hg]; exact Nat.ne_of_gt (blk_lt (g := gb412) (o := .cells #[.int .i64 0] 2 (0, 0)) (tB BK412)) : gb413 ≠ gb412)); replace BK412 := tbB BK412 hb; clear hb hbox hg; have hnb10 := NB412_409.out; have hnc10 := NB409_412.out; have hnb11 := NB412_413.out; have hnc11 := NB413_412.out; have hcz12_0 : w9.cell? ⟨gb412, 0, none⟩ = some (.int .i64 0) := (blk_cell BK412.out 0).trans rfl; have hfz12_0 := blk_frozen BK412.out 0; have hnb13 := NB413_409.out; have hnc13 := NB409_413.out; have hcz14_0 : w9.cell? ⟨gb413, 0, none⟩ = some (.int .i64 0) := (blk_cell BK413.out 0).trans rfl; have hfz14_0 := blk_frozen BK413.out 0))
 (try simp only [Act.put, sx0, sx1, sx2])
 go_cut [13] (fun v13 wc => ∃ (kq : Nat) (x13_5 : Bool), v13 = .bool x13_5 ∧ Aside0 (impl_Raga_reason.j0 kq a1 a2 x13_5 a0_0 l0_1 l0_2 a0_3 a0_4 l0_5 t410 t411 = some r) ∧ Aside0 (kq ≤ k) ∧ Aside0 (wc.heap[gb409]? = some (.cells #[.string a0_0, (.slice A0_1 l0_1.length c0_1), (.slice A0_2 l0_2.length c0_2), .int .i64 a0_3, .int .i64 a0_4, (.slice A0_5 l0_5.length c0_5)] 27 (0, 0))) ∧ Aside0 (wc.heap[gb412]? = some (.cells #[.int .i64 t410] 2 (0, 0))) ∧ Aside0 (wc.heap[gb413]? = some (.cells #[.int .i64 t411] 2 (0, 0))) ∧ Aside0 (Below w.heap.size w wc))
 case first =>
  have H := HC6.out
  clear HC6
  replace H := Option.bind_eq_some_iff.mp H
  obtain ⟨t414, A150, H⟩ := H
  replace H : (if t414 = true then ((impl_Raga_hasTone.f k a0_0 l0_1 l0_2 a0_3 a0_4 l0_5 t411).bind fun t415 => (impl_Raga_reason.j0 k a1 a2 (!t415) a0_0 l0_1 l0_2 a0_3 a0_4 l0_5 t410 t411)) else (impl_Raga_reason.j0 k a1 a2 true a0_0 l0_1 l0_2 a0_3 a0_4 l0_5 t410 t411)) = some r := H
  have A15 := Aside0.mk A150
  clear A150
  by_cases c16 : t414 = true
  · subst c16
    have H1 : ((impl_Raga_hasTone.f k a0_0 l0_1 l0_2 a0_3 a0_4 l0_5 t411).bind fun t415 => (impl_Raga_reason.j0 k a1 a2 (!t415) a0_0 l0_1 l0_2 a0_3 a0_4 l0_5 t410 t411)) = some r := by rw [if_pos rfl] at H; exact H
    clear H
    have H := H1
    clear H1
    replace H := Option.bind_eq_some_iff.mp H
    obtain ⟨t415, A170, H⟩ := H
    replace H : (impl_Raga_reason.j0 k a1 a2 (!t415) a0_0 l0_1 l0_2 a0_3 a0_4 l0_5 t410 t411) = some r := H
    have A17 := Aside0.mk A170
    clear A170
    have H' := Aside0.mk H
    clear H
    have hnb18 := NB409_412.out
    have hnc18 := NB412_409.out
    have hnb19 := NB409_413.out
    have hnc19 := NB413_409.out
    have hcz20_0 : w9.cell? ⟨gb409, 0, none⟩ = some (.string a0_0) := (blk_cell BK409.out 0).trans rfl
    have hcz20_1 : w9.cell? ⟨gb409, 1, none⟩ = some (.slice A0_1 l0_1.length c0_1) := (blk_cell BK409.out 1).trans rfl
    have hcz20_2 : w9.cell? ⟨gb409, 2, none⟩ = some (.slice A0_2 l0_2.length c0_2) := (blk_cell BK409.out 2).trans rfl
    have hcz20_3 : w9.cell? ⟨gb409, 3, none⟩ = some (.int .i64 a0_3) := (blk_cell BK409.out 3).trans rfl
    have hcz20_4 : w9.cell? ⟨gb409, 4, none⟩ = some (.int .i64 a0_4) := (blk_cell BK409.out 4).trans rfl
    have hcz20_5 : w9.cell? ⟨gb409, 5, none⟩ = some (.slice A0_5 l0_5.length c0_5) := (blk_cell BK409.out 5).trans rfl
    have hfz20_0 := blk_frozen BK409.out 0
    have hfz20_1 := blk_frozen BK409.out 1
    have hfz20_2 := blk_frozen BK409.out 2
    have hfz20_3 := blk_frozen BK409.out 3
    have hfz20_4 := blk_frozen BK409.out 4
    have hfz20_5 := blk_frozen BK409.out 5
    have hnb21 := NB412_413.out
    have hnc21 := NB413_412.out
    have hcz22_0 : w9.cell? ⟨gb412, 0, none⟩ = some (.int .i64 0) := (blk_cell BK412.out 0).trans rfl
    have hfz22_0 := blk_frozen BK412.out 0
    go_wp2_with (first | ((with_reducible refine gate_callee (f := 255) rfl ?_); refine gL_ (some 16) rfl rfl Try.func255 #[.agg #[.string a0_0, .slice A0_1 l0_1.length c0_1, .slice A0_2 l0_2.length c0_2, .int .i64 a0_3, .int .i64 a0_4, .slice A0_5 l0_5.length c0_5], .int .i64 t410] rfl ?_; (with_reducible refine (impl_Raga_hasTone.calls k a0_0 _ _ l0_1 _ _ l0_2 a0_3 a0_4 _ _ l0_5 t410 true _ ?side1 ?side2 ?side3 ?side4 ?side5 ?side6 A15.out).mono ?_); (case side1 => exact Kd.C_below HR0_1.out (tH3 HB GE409.out GE412.out GE413.out)); (case side2 => exact HC0_1.out); (case side3 => exact Kd.C_below HR0_2.out (tH3 HB GE409.out GE412.out GE413.out)); (case side4 => exact HC0_2.out); (case side5 => exact Kd.C_below HR0_5.out (tH3 HB GE409.out GE412.out GE413.out)); (case side6 => exact HC0_5.out); rintro e w23 ⟨rfl, hb⟩; refine ⟨_, rfl, ?_⟩; replace BK409 := Aside0.mk (blk_below (g := gb409) (o := .cells #[.string a0_0, .slice A0_1 l0_1.length c0_1, .slice A0_2 l0_2.length c0_2, .int .i64 a0_3, .int .i64 a0_4, .slice A0_5 l0_5.length c0_5] 27 (0, 0)) (by (with_reducible repeat (first | refine blk_drewN ?_ _ | refine blk_drew ?_ | refine blk_alloc ?_ _)); refine blk_far ?_ NB409_413.out _; (with_reducible repeat (first | refine blk_drewN ?_ _ | refine blk_drew ?_ | refine blk_alloc ?_ _)); refine blk_far ?_ NB409_412.out _; (with_reducible repeat (first | refine blk_drewN ?_ _ | refine blk_drew ?_ | refine blk_alloc ?_ _)); exact BK409.out) hb); replace BK412 := Aside0.mk (blk_below (g := gb412) (o := .cells #[.int .i64 t410] 2 (0, 0)) (by (with_reducible repeat (first | refine blk_drewN ?_ _ | refine blk_drew ?_ | refine blk_alloc ?_ _)); refine blk_far ?_ NB412_413.out _; (with_reducible repeat (first | refine blk_drewN ?_ _ | refine blk_drew ?_ | refine blk_alloc ?_ _)); refine blk_put (cs := #[.int .i64 0]) ?_ 0 _ rfl; (with_reducible repeat (first | refine blk_drewN ?_ _ | refine blk_drew ?_ | refine blk_alloc ?_ _)); exact BK412.out) hb); replace BK413 := Aside0.mk (blk_below (g := gb413) (o := .cells #[.int .i64 t411] 2 (0, 0)) (by (with_reducible repeat (first | refine blk_drewN ?_ _ | refine blk_drew ?_ | refine blk_alloc ?_ _)); refine blk_put (cs := #[.int .i64 0]) ?_ 0 _ rfl; (with_reducible repeat (first | refine blk_drewN ?_ _ | refine blk_drew ?_ | refine blk_alloc ?_ _)); refine blk_far ?_ NB413_412.out _; (with_reducible repeat (first | refine blk_drewN ?_ _ | refine blk_drew ?_ | refine blk_alloc ?_ _)); exact BK413.out) hb); replace HB := Aside0.mk (below_step (tH3 HB GE409.out GE412.out GE413.out) hb); (try clear hb); (try clear hb2); (try clear hk); (try clear hi); have hcz24_0 : w23.cell? ⟨gb409, 0, none⟩ = some (.string a0_0) := (blk_cell BK409.out 0).trans rfl; have hcz24_1 : w23.cell? ⟨gb409, 1, none⟩ = some (.slice A0_1 l0_1.length c0_1) := (blk_cell BK409.out 1).trans rfl; have hcz24_2 : w23.cell? ⟨gb409, 2, none⟩ = some (.slice A0_2 l0_2.length c0_2) := (blk_cell BK409.out 2).trans rfl; have hcz24_3 : w23.cell? ⟨gb409, 3, none⟩ = some (.int .i64 a0_3) := (blk_cell BK409.out 3).trans rfl; have hcz24_4 : w23.cell? ⟨gb409, 4, none⟩ = some (.int .i64 a0_4) := (blk_cell BK409.out 4).trans rfl; have hcz24_5 : w23.cell? ⟨gb409, 5, none⟩ = some (.slice A0_5 l0_5.length c0_5) := (blk_cell BK409.out 5).trans rfl; have hfz24_0 := blk_frozen BK409.out 0; have hfz24_1 := blk_frozen BK409.out 1; have hfz24_2 := blk_frozen BK409.out 2; have hfz24_3 := blk_frozen BK409.out 3; have hfz24_4 := blk_frozen BK409.out 4; have hfz24_5 := blk_frozen BK409.out 5; have hcz25_0 : w23.cell? ⟨gb413, 0, none⟩ = some (.int .i64 t411) := (blk_cell BK413.out 0).trans rfl; have hfz25_0 := blk_frozen BK413.out 0) | (go_at_call 255; (with_reducible refine (impl_Raga_hasTone.calls k a0_0 _ _ l0_1 _ _ l0_2 a0_3 a0_4 _ _ l0_5 t411 t415 _ ?side1 ?side2 ?side3 ?side4 ?side5 ?side6 A17.out).mono ?_); (case side1 => exact tC (Kd.C_below HR0_1.out HB.out)); (case side2 => exact HC0_1.out); (case side3 => exact tC (Kd.C_below HR0_2.out HB.out)); (case side4 => exact HC0_2.out); (case side5 => exact tC (Kd.C_below HR0_5.out HB.out)); (case side6 => exact HC0_5.out); rintro e w26 ⟨rfl, hb⟩; replace BK409 := tbB BK409 hb; replace BK412 := tbB BK412 hb; replace BK413 := tbB BK413 hb; replace HB := Aside0.mk (below_step (tH3 HB GE409.out GE412.out GE413.out) hb); (try clear hb); (try clear hb2); (try clear hk); (try clear hi)))
    go_meet
    case rel => exact ⟨_, (!t415), tq, H', ⟨by first | omega | exact Nat.le_refl _⟩, ⟨tB BK409⟩, ⟨tB BK412⟩, ⟨tB BK413⟩, ⟨tH3 HB GE409.out GE412.out GE413.out⟩⟩
  replace c16 := Bool.eq_false_iff.mpr c16
  subst c16
  have H1 : (impl_Raga_reason.j0 k a1 a2 true a0_0 l0_1 l0_2 a0_3 a0_4 l0_5 t410 t411) = some r := by rw [if_neg (show ¬ (false = true) by decide)] at H; exact H
  clear H
  have H := H1
  clear H1
  have H' := Aside0.mk H
  clear H
  have hnb27 := NB409_412.out
  have hnc27 := NB412_409.out
  have hnb28 := NB409_413.out
  have hnc28 := NB413_409.out
  have hcz29_0 : w9.cell? ⟨gb409, 0, none⟩ = some (.string a0_0) := (blk_cell BK409.out 0).trans rfl
  have hcz29_1 : w9.cell? ⟨gb409, 1, none⟩ = some (.slice A0_1 l0_1.length c0_1) := (blk_cell BK409.out 1).trans rfl
  have hcz29_2 : w9.cell? ⟨gb409, 2, none⟩ = some (.slice A0_2 l0_2.length c0_2) := (blk_cell BK409.out 2).trans rfl
  have hcz29_3 : w9.cell? ⟨gb409, 3, none⟩ = some (.int .i64 a0_3) := (blk_cell BK409.out 3).trans rfl
  have hcz29_4 : w9.cell? ⟨gb409, 4, none⟩ = some (.int .i64 a0_4) := (blk_cell BK409.out 4).trans rfl
  have hcz29_5 : w9.cell? ⟨gb409, 5, none⟩ = some (.slice A0_5 l0_5.length c0_5) := (blk_cell BK409.out 5).trans rfl
  have hfz29_0 := blk_frozen BK409.out 0
  have hfz29_1 := blk_frozen BK409.out 1
  have hfz29_2 := blk_frozen BK409.out 2
  have hfz29_3 := blk_frozen BK409.out 3
  have hfz29_4 := blk_frozen BK409.out 4
  have hfz29_5 := blk_frozen BK409.out 5
  have hnb30 := NB412_413.out
  have hnc30 := NB413_412.out
  have hcz31_0 : w9.cell? ⟨gb412, 0, none⟩ = some (.int .i64 0) := (blk_cell BK412.out 0).trans rfl
  have hfz31_0 := blk_frozen BK412.out 0
  go_wp2_with (first | ((with_reducible refine gate_callee (f := 255) rfl ?_); refine gL_ (some 16) rfl rfl Try.func255 #[.agg #[.string a0_0, .slice A0_1 l0_1.length c0_1, .slice A0_2 l0_2.length c0_2, .int .i64 a0_3, .int .i64 a0_4, .slice A0_5 l0_5.length c0_5], .int .i64 t410] rfl ?_; (with_reducible refine (impl_Raga_hasTone.calls k a0_0 _ _ l0_1 _ _ l0_2 a0_3 a0_4 _ _ l0_5 t410 false _ ?side1 ?side2 ?side3 ?side4 ?side5 ?side6 A15.out).mono ?_); (case side1 => exact Kd.C_below HR0_1.out (tH3 HB GE409.out GE412.out GE413.out)); (case side2 => exact HC0_1.out); (case side3 => exact Kd.C_below HR0_2.out (tH3 HB GE409.out GE412.out GE413.out)); (case side4 => exact HC0_2.out); (case side5 => exact Kd.C_below HR0_5.out (tH3 HB GE409.out GE412.out GE413.out)); (case side6 => exact HC0_5.out); rintro e w32 ⟨rfl, hb⟩; refine ⟨_, rfl, ?_⟩; replace BK409 := Aside0.mk (blk_below (g := gb409) (o := .cells #[.string a0_0, .slice A0_1 l0_1.length c0_1, .slice A0_2 l0_2.length c0_2, .int .i64 a0_3, .int .i64 a0_4, .slice A0_5 l0_5.length c0_5] 27 (0, 0)) (by (with_reducible repeat (first | refine blk_drewN ?_ _ | refine blk_drew ?_ | refine blk_alloc ?_ _)); refine blk_far ?_ NB409_413.out _; (with_reducible repeat (first | refine blk_drewN ?_ _ | refine blk_drew ?_ | refine blk_alloc ?_ _)); refine blk_far ?_ NB409_412.out _; (with_reducible repeat (first | refine blk_drewN ?_ _ | refine blk_drew ?_ | refine blk_alloc ?_ _)); exact BK409.out) hb); replace BK412 := Aside0.mk (blk_below (g := gb412) (o := .cells #[.int .i64 t410] 2 (0, 0)) (by (with_reducible repeat (first | refine blk_drewN ?_ _ | refine blk_drew ?_ | refine blk_alloc ?_ _)); refine blk_far ?_ NB412_413.out _; (with_reducible repeat (first | refine blk_drewN ?_ _ | refine blk_drew ?_ | refine blk_alloc ?_ _)); refine blk_put (cs := #[.int .i64 0]) ?_ 0 _ rfl; (with_reducible repeat (first | refine blk_drewN ?_ _ | refine blk_drew ?_ | refine blk_alloc ?_ _)); exact BK412.out) hb); replace BK413 := Aside0.mk (blk_below (g := gb413) (o := .cells #[.int .i64 t411] 2 (0, 0)) (by (with_reducible repeat (first | refine blk_drewN ?_ _ | refine blk_drew ?_ | refine blk_alloc ?_ _)); refine blk_put (cs := #[.int .i64 0]) ?_ 0 _ rfl; (with_reducible repeat (first | refine blk_drewN ?_ _ | refine blk_drew ?_ | refine blk_alloc ?_ _)); refine blk_far ?_ NB413_412.out _; (with_reducible repeat (first | refine blk_drewN ?_ _ | refine blk_drew ?_ | refine blk_alloc ?_ _)); exact BK413.out) hb); replace HB := Aside0.mk (below_step (tH3 HB GE409.out GE412.out GE413.out) hb); (try clear hb); (try clear hb2); (try clear hk); (try clear hi)))
  go_meet
  case rel => exact ⟨_, (true), tq, H', ⟨by first | omega | exact Nat.le_refl _⟩, ⟨tB BK409⟩, ⟨tB BK412⟩, ⟨tB BK413⟩, ⟨tH3 HB GE409.out GE412.out GE413.out⟩⟩
 case rest =>
 clear HC6
 try clear c1
 try clear c2
 try clear p2
 try clear c3
 try clear c5
 try clear c10
 try clear c11
 try clear c13
 try clear c16
 try clear c18
 try clear c19
 try clear c21
 try clear c25
 try clear c27
 try clear c28
 try clear c30
 try clear hcz12_0
 try clear hcz14_0
 try clear hcz20_0 hcz20_1 hcz20_2 hcz20_3 hcz20_4 hcz20_5
 try clear hcz22_0
 try clear hcz24_0 hcz24_1 hcz24_2 hcz24_3 hcz24_4 hcz24_5
 try clear hcz25_0
 try clear hcz29_0 hcz29_1 hcz29_2 hcz29_3 hcz29_4 hcz29_5
 try clear hcz31_0
 try clear hfz12_0
 try clear hfz14_0
 try clear hfz20_0 hfz20_1 hfz20_2 hfz20_3 hfz20_4 hfz20_5
 try clear hfz22_0
 try clear hfz24_0 hfz24_1 hfz24_2 hfz24_3 hfz24_4 hfz24_5
 try clear hfz25_0
 try clear hfz29_0 hfz29_1 hfz29_2 hfz29_3 hfz29_4 hfz29_5
 try clear hfz31_0
 obtain ⟨kq, x13_5, rfl, HA, HJ5, BK409, BK412, BK413, HB⟩ := hcut
 cases kq with
 | zero => exact absurd HA.out (by simp [impl_Raga_reason.j0])
 | succ kj5 =>
 have H := HA.out
 clear HA
 simp only [impl_Raga_reason.j0] at H
 by_cases c33 : x13_5 = true
 · subst c33
   have H1 : (some 1) = some r := by rw [if_pos rfl] at H; exact H
   clear H
   have H := H1
   clear H1
   obtain rfl := Option.some.inj H
   go_wp2
   go_ret
   exact ⟨tE, tH3 HB GE409.out GE412.out GE413.out⟩
 replace c33 := Bool.eq_false_iff.mpr c33
 subst c33
 have H1 : ((impl_abs.f (wrap64 (a1 - a2))).bind fun t416 => (if t416 > 12 then (some 2) else (if a2 > a1 then ((slices_Contains_int64_int64.f kj5 l0_1 t411).bind fun t417 => (impl_Raga_reason.j1 kj5 a1 a2 (!t417) a0_0 l0_1 l0_2 a0_3 a0_4 l0_5 t410 t411)) else (impl_Raga_reason.j1 kj5 a1 a2 false a0_0 l0_1 l0_2 a0_3 a0_4 l0_5 t410 t411)))) = some r := by rw [if_neg (show ¬ (false = true) by decide)] at H; exact H
 clear H
 have H := H1
 clear H1
 replace H := Option.bind_eq_some_iff.mp H
 obtain ⟨t416, A340, H⟩ := H
 replace H : (if t416 > 12 then (some 2) else (if a2 > a1 then ((slices_Contains_int64_int64.f kj5 l0_1 t411).bind fun t417 => (impl_Raga_reason.j1 kj5 a1 a2 (!t417) a0_0 l0_1 l0_2 a0_3 a0_4 l0_5 t410 t411)) else (impl_Raga_reason.j1 kj5 a1 a2 false a0_0 l0_1 l0_2 a0_3 a0_4 l0_5 t410 t411))) = some r := H
 have A34 := Aside0.mk A340
 clear A340
 by_cases c35 : t416 > 12
 · rw [if_pos c35] at H
   have c35b0 : decide (12 < t416) = true := decide_eq_true c35
   clear c35
   obtain rfl := Option.some.inj H
   go_wp2_with (first | ((with_reducible refine gate_callee (f := 205) rfl ?_); refine gL_ (some 28) rfl rfl Try.func205 #[.int .i64 (wrap64 (a1 - a2))] rfl ?_; (with_reducible refine (impl_abs.calls (wrap64 (a1 - a2)) t416 _ A34.out).mono ?_); rintro e w36 ⟨rfl, hb⟩; refine ⟨_, rfl, ?_⟩; replace BK409 := tbB BK409 hb; replace BK412 := tbB BK412 hb; replace BK413 := tbB BK413 hb; replace HB := Aside0.mk (below_step (tH3 HB GE409.out GE412.out GE413.out) hb); (try clear hb); (try clear hb2); (try clear hk); (try clear hi)))
   go_ret
   exact ⟨tE, tH3 HB GE409.out GE412.out GE413.out⟩
 rw [if_neg c35] at H
 have c35b0 : decide (12 < t416) = false := decide_eq_false c35
 clear c35
 have HC37 := Aside0.mk H
 clear H
 go_upto_region 6 with (first | ((with_reducible refine gate_callee (f := 205) rfl ?_); refine gL_ (some 28) rfl rfl Try.func205 #[.int .i64 (wrap64 (a1 - a2))] rfl ?_; (with_reducible refine (impl_abs.calls (wrap64 (a1 - a2)) t416 _ A34.out).mono ?_); rintro e w38 ⟨rfl, hb⟩; refine ⟨_, rfl, ?_⟩; replace BK409 := tbB BK409 hb; replace BK412 := tbB BK412 hb; replace BK413 := tbB BK413 hb; replace HB := Aside0.mk (below_step (tH3 HB GE409.out GE412.out GE413.out) hb); (try clear hb); (try clear hb2); (try clear hk); (try clear hi)))
 (try simp only [Act.put, sx0, sx1, sx2])
 go_cut [30] (fun v30 wc => ∃ (kq : Nat) (x30_36 : Bool), v30 = .bool x30_36 ∧ Aside0 (impl_Raga_reason.j1 kq a1 a2 x30_36 a0_0 l0_1 l0_2 a0_3 a0_4 l0_5 t410 t411 = some r) ∧ Aside0 (kq ≤ kj5) ∧ Aside0 (wc.heap[gb409]? = some (.cells #[.string a0_0, (.slice A0_1 l0_1.length c0_1), (.slice A0_2 l0_2.length c0_2), .int .i64 a0_3, .int .i64 a0_4, (.slice A0_5 l0_5.length c0_5)] 27 (0, 0))) ∧ Aside0 (wc.heap[gb412]? = some (.cells #[.int .i64 t410] 2 (0, 0))) ∧ Aside0 (wc.heap[gb413]? = some (.cells #[.int .i64 t411] 2 (0, 0))) ∧ Aside0 (Below w.heap.size w wc))
 case first =>
  have H := HC37.out
  clear HC37
  by_cases c39 : a2 > a1
  · rw [if_pos c39] at H
    have c39b0 : decide (a1 < a2) = true := decide_eq_true c39
    clear c39
    (first | rw [c39b0] | (simp only [i64_w, i32_w]; rw [c39b0]) | skip)
    replace H := Option.bind_eq_some_iff.mp H
    obtain ⟨t417, A400, H⟩ := H
    replace H : (impl_Raga_reason.j1 kj5 a1 a2 (!t417) a0_0 l0_1 l0_2 a0_3 a0_4 l0_5 t410 t411) = some r := H
    have A40 := Aside0.mk A400
    clear A400
    have H' := Aside0.mk H
    clear H
    have hnb41 := NB409_412.out
    have hnc41 := NB412_409.out
    have hnb42 := NB409_413.out
    have hnc42 := NB413_409.out
    have hcz43_0 : w38.cell? ⟨gb409, 0, none⟩ = some (.string a0_0) := (blk_cell BK409.out 0).trans rfl
    have hcz43_1 : w38.cell? ⟨gb409, 1, none⟩ = some (.slice A0_1 l0_1.length c0_1) := (blk_cell BK409.out 1).trans rfl
    have hcz43_2 : w38.cell? ⟨gb409, 2, none⟩ = some (.slice A0_2 l0_2.length c0_2) := (blk_cell BK409.out 2).trans rfl
    have hcz43_3 : w38.cell? ⟨gb409, 3, none⟩ = some (.int .i64 a0_3) := (blk_cell BK409.out 3).trans rfl
    have hcz43_4 : w38.cell? ⟨gb409, 4, none⟩ = some (.int .i64 a0_4) := (blk_cell BK409.out 4).trans rfl
    have hcz43_5 : w38.cell? ⟨gb409, 5, none⟩ = some (.slice A0_5 l0_5.length c0_5) := (blk_cell BK409.out 5).trans rfl
    have hfz43_0 := blk_frozen BK409.out 0
    have hfz43_1 := blk_frozen BK409.out 1
    have hfz43_2 := blk_frozen BK409.out 2
    have hfz43_3 := blk_frozen BK409.out 3
    have hfz43_4 := blk_frozen BK409.out 4
    have hfz43_5 := blk_frozen BK409.out 5
    have hnb44 := NB413_412.out
    have hnc44 := NB412_413.out
    have hcz45_0 : w38.cell? ⟨gb413, 0, none⟩ = some (.int .i64 t411) := (blk_cell BK413.out 0).trans rfl
    have hfz45_0 := blk_frozen BK413.out 0
    go_wp2_with (first | (go_at_call 238; (with_reducible refine (slices_Contains_int64_int64.calls kj5 _ _ l0_1 t411 t417 _ ?side1 ?side2 A40.out).mono ?_); (case side1 => exact tC (Kd.C_below HR0_1.out HB.out)); (case side2 => exact HC0_1.out); rintro e w' ⟨rfl, ⟨nd, rfl⟩⟩))
    go_meet
    case rel => exact ⟨_, (!t417), tq, H', ⟨by have := HJ5.out; first | omega | exact Nat.le_refl _⟩, ⟨tB BK409⟩, ⟨tB BK412⟩, ⟨tB BK413⟩, ⟨tH3 HB GE409.out GE412.out GE413.out⟩⟩
  rw [if_neg c39] at H
  have c39b0 : decide (a1 < a2) = false := decide_eq_false c39
  clear c39
  (first | rw [c39b0] | (simp only [i64_w, i32_w]; rw [c39b0]) | skip)
  have H' := Aside0.mk H
  clear H
  go_wp2
  go_meet
  case rel => exact ⟨_, (false), tq, H', ⟨by have := HJ5.out; first | omega | exact Nat.le_refl _⟩, ⟨tB BK409⟩, ⟨tB BK412⟩, ⟨tB BK413⟩, ⟨tH3 HB GE409.out GE412.out GE413.out⟩⟩
 case rest =>
 clear HC37
 try clear c1
 try clear c2
 try clear p2
 try clear c3
 try clear c4
 try clear c5
 try clear p6
 try clear c10
 try clear c11
 try clear c13
 try clear c16
 try clear c18
 try clear c19
 try clear c20
 try clear c21
 try clear c25
 try clear c27
 try clear c28
 try clear c30
 try clear c33
 try clear c35
 try clear c35b0
 try clear c39
 try clear c39b0
 try clear c41
 try clear c42
 try clear c44
 try clear hcz12_0
 try clear hcz14_0
 try clear hcz20_0 hcz20_1 hcz20_2 hcz20_3 hcz20_4 hcz20_5
 try clear hcz22_0
 try clear hcz24_0 hcz24_1 hcz24_2 hcz24_3 hcz24_4 hcz24_5
 try clear hcz25_0
 try clear hcz29_0 hcz29_1 hcz29_2 hcz29_3 hcz29_4 hcz29_5
 try clear hcz31_0
 try clear hcz43_0 hcz43_1 hcz43_2 hcz43_3 hcz43_4 hcz43_5
 try clear hcz45_0
 try clear hfz12_0
 try clear hfz14_0
 try clear hfz20_0 hfz20_1 hfz20_2 hfz20_3 hfz20_4 hfz20_5
 try clear hfz22_0
 try clear hfz24_0 hfz24_1 hfz24_2 hfz24_3 hfz24_4 hfz24_5
 try clear hfz25_0
 try clear hfz29_0 hfz29_1 hfz29_2 hfz29_3 hfz29_4 hfz29_5
 try clear hfz31_0
 try clear hfz43_0 hfz43_1 hfz43_2 hfz43_3 hfz43_4 hfz43_5
 try clear hfz45_0
 try clear p2
 obtain ⟨kq, x30_36, rfl, HA, HJ36, BK409, BK412, BK413, HB⟩ := hcut
 cases kq with
 | zero => exact absurd HA.out (by simp [impl_Raga_reason.j1])
 | succ kj36 =>
 have H := HA.out
 clear HA
 simp only [impl_Raga_reason.j1] at H
 by_cases c46 : x30_36 = true
 · subst c46
   have H1 : (some 3) = some r := by rw [if_pos rfl] at H; exact H
   clear H
   have H := H1
   clear H1
   obtain rfl := Option.some.inj H
   go_wp2
   go_ret
   exact ⟨tE, tH3 HB GE409.out GE412.out GE413.out⟩
 replace c46 := Bool.eq_false_iff.mpr c46
 subst c46
 have H1 : (if a2 < a1 then ((slices_Contains_int64_int64.f kj36 l0_2 t411).bind fun t418 => (impl_Raga_reason.j2 kj36 (!t418) a0_0 l0_1 l0_2 a0_3 a0_4 l0_5 t410 t411)) else (impl_Raga_reason.j2 kj36 false a0_0 l0_1 l0_2 a0_3 a0_4 l0_5 t410 t411)) = some r := by rw [if_neg (show ¬ (false = true) by decide)] at H; exact H
 clear H
 have H := H1
 clear H1
 have HC47 := Aside0.mk H
 clear H
 go_upto_region 8 with (fail)
 go_cut [41] (fun v41 wc => ∃ (kq : Nat) (x41_46 : Bool), v41 = .bool x41_46 ∧ Aside0 (impl_Raga_reason.j2 kq x41_46 a0_0 l0_1 l0_2 a0_3 a0_4 l0_5 t410 t411 = some r) ∧ Aside0 (kq ≤ kj36) ∧ Aside0 (wc.heap[gb409]? = some (.cells #[.string a0_0, (.slice A0_1 l0_1.length c0_1), (.slice A0_2 l0_2.length c0_2), .int .i64 a0_3, .int .i64 a0_4, (.slice A0_5 l0_5.length c0_5)] 27 (0, 0))) ∧ Aside0 (wc.heap[gb412]? = some (.cells #[.int .i64 t410] 2 (0, 0))) ∧ Aside0 (wc.heap[gb413]? = some (.cells #[.int .i64 t411] 2 (0, 0))) ∧ Aside0 (Below w.heap.size w wc))
 case first =>
  have H := HC47.out
  clear HC47
  by_cases c48 : a2 < a1
  · rw [if_pos c48] at H
    have c48b0 : decide (a2 < a1) = true := decide_eq_true c48
    clear c48
    (first | rw [c48b0] | (simp only [i64_w, i32_w]; rw [c48b0]) | skip)
    replace H := Option.bind_eq_some_iff.mp H
    obtain ⟨t418, A490, H⟩ := H
    replace H : (impl_Raga_reason.j2 kj36 (!t418) a0_0 l0_1 l0_2 a0_3 a0_4 l0_5 t410 t411) = some r := H
    have A49 := Aside0.mk A490
    clear A490
    have H' := Aside0.mk H
    clear H
    have hnb50 := NB409_412.out
    have hnc50 := NB412_409.out
    have hnb51 := NB409_413.out
    have hnc51 := NB413_409.out
    have hcz52_0 : wc.cell? ⟨gb409, 0, none⟩ = some (.string a0_0) := (blk_cell BK409.out 0).trans rfl
    have hcz52_1 : wc.cell? ⟨gb409, 1, none⟩ = some (.slice A0_1 l0_1.length c0_1) := (blk_cell BK409.out 1).trans rfl
    have hcz52_2 : wc.cell? ⟨gb409, 2, none⟩ = some (.slice A0_2 l0_2.length c0_2) := (blk_cell BK409.out 2).trans rfl
    have hcz52_3 : wc.cell? ⟨gb409, 3, none⟩ = some (.int .i64 a0_3) := (blk_cell BK409.out 3).trans rfl
    have hcz52_4 : wc.cell? ⟨gb409, 4, none⟩ = some (.int .i64 a0_4) := (blk_cell BK409.out 4).trans rfl
    have hcz52_5 : wc.cell? ⟨gb409, 5, none⟩ = some (.slice A0_5 l0_5.length c0_5) := (blk_cell BK409.out 5).trans rfl
    have hfz52_0 := blk_frozen BK409.out 0
    have hfz52_1 := blk_frozen BK409.out 1
    have hfz52_2 := blk_frozen BK409.out 2
    have hfz52_3 := blk_frozen BK409.out 3
    have hfz52_4 := blk_frozen BK409.out 4
    have hfz52_5 := blk_frozen BK409.out 5
    have hnb53 := NB413_412.out
    have hnc53 := NB412_413.out
    have hcz54_0 : wc.cell? ⟨gb413, 0, none⟩ = some (.int .i64 t411) := (blk_cell BK413.out 0).trans rfl
    have hfz54_0 := blk_frozen BK413.out 0
    go_wp2_with (first | (go_at_call 238; (with_reducible refine (slices_Contains_int64_int64.calls kj36 _ _ l0_2 t411 t418 _ ?side1 ?side2 A49.out).mono ?_); (case side1 => exact tC (Kd.C_below HR0_2.out HB.out)); (case side2 => exact HC0_2.out); rintro e w' ⟨rfl, ⟨nd, rfl⟩⟩))
    go_meet
    case rel => exact ⟨_, (!t418), tq, H', ⟨by have := HJ5.out; have := HJ36.out; first | omega | exact Nat.le_refl _⟩, ⟨tB BK409⟩, ⟨tB BK412⟩, ⟨tB BK413⟩, ⟨tH3 HB GE409.out GE412.out GE413.out⟩⟩
  rw [if_neg c48] at H
  have c48b0 : decide (a2 < a1) = false := decide_eq_false c48
  clear c48
  (first | rw [c48b0] | (simp only [i64_w, i32_w]; rw [c48b0]) | skip)
  have H' := Aside0.mk H
  clear H
  go_wp2
  go_meet
  case rel => exact ⟨_, (false), tq, H', ⟨by have := HJ5.out; have := HJ36.out; first | omega | exact Nat.le_refl _⟩, ⟨tB BK409⟩, ⟨tB BK412⟩, ⟨tB BK413⟩, ⟨tH3 HB GE409.out GE412.out GE413.out⟩⟩
 case rest =>
 clear HC47
 try clear c1
 try clear c2
 try clear p2
 try clear c3
 try clear c4
 try clear c5
 try clear p6
 try clear c10
 try clear c11
 try clear c13
 try clear c16
 try clear c18
 try clear c19
 try clear c20
 try clear c21
 try clear c25
 try clear c27
 try clear c28
 try clear c30
 try clear c33
 try clear c35
 try clear c35b0
 try clear c39
 try clear c39b0
 try clear c41
 try clear c42
 try clear c44
 try clear c46
 try clear c48
 try clear c48b0
 try clear c50
 try clear c51
 try clear c53
 try clear hcz12_0
 try clear hcz14_0
 try clear hcz20_0 hcz20_1 hcz20_2 hcz20_3 hcz20_4 hcz20_5
 try clear hcz22_0
 try clear hcz24_0 hcz24_1 hcz24_2 hcz24_3 hcz24_4 hcz24_5
 try clear hcz25_0
 try clear hcz29_0 hcz29_1 hcz29_2 hcz29_3 hcz29_4 hcz29_5
 try clear hcz31_0
 try clear hcz43_0 hcz43_1 hcz43_2 hcz43_3 hcz43_4 hcz43_5
 try clear hcz45_0
 try clear hcz52_0 hcz52_1 hcz52_2 hcz52_3 hcz52_4 hcz52_5
 try clear hcz54_0
 try clear hfz12_0
 try clear hfz14_0
 try clear hfz20_0 hfz20_1 hfz20_2 hfz20_3 hfz20_4 hfz20_5
 try clear hfz22_0
 try clear hfz24_0 hfz24_1 hfz24_2 hfz24_3 hfz24_4 hfz24_5
 try clear hfz25_0
 try clear hfz29_0 hfz29_1 hfz29_2 hfz29_3 hfz29_4 hfz29_5
 try clear hfz31_0
 try clear hfz43_0 hfz43_1 hfz43_2 hfz43_3 hfz43_4 hfz43_5
 try clear hfz45_0
 try clear hfz52_0 hfz52_1 hfz52_2 hfz52_3 hfz52_4 hfz52_5
 try clear hfz54_0
 try clear p2
 try clear p6
 obtain ⟨kq, x41_46, rfl, HA, HJ46, BK409, BK412, BK413, HB⟩ := hcut
 cases kq with
 | zero => exact absurd HA.out (by simp [impl_Raga_reason.j2])
 | succ kj46 =>
 have H := HA.out
 clear HA
 simp only [impl_Raga_reason.j2] at H
 by_cases c55 : x41_46 = true
 · subst c55
   have H1 : (some 4) = some r := by rw [if_pos rfl] at H; exact H
   clear H
   have H := H1
   clear H1
   obtain rfl := Option.some.inj H
   go_wp2
   go_ret
   exact ⟨tE, tH3 HB GE409.out GE412.out GE413.out⟩
 replace c55 := Bool.eq_false_iff.mpr c55
 subst c55
 have H1 : ((slices_ContainsFunc_at_impl_Raga_reason_1.f l0_5 [t410] [t411]).bind fun t419 => (if t419 = true then (some 5) else (some 0))) = some r := by rw [if_neg (show ¬ (false = true) by decide)] at H; exact H
 clear H
 have H := H1
 clear H1
 replace H := Option.bind_eq_some_iff.mp H
 obtain ⟨t419, A560, H⟩ := H
 replace H : (if t419 = true then (some 5) else (some 0)) = some r := H
 have A56 := Aside0.mk A560
 clear A560
 by_cases c57 : t419 = true
 · subst c57
   have H1 : (some 5) = some r := by rw [if_pos rfl] at H; exact H
   clear H
   have H := H1
   clear H1
   obtain rfl := Option.some.inj H
   have hnb58 := NB409_412.out
   have hnc58 := NB412_409.out
   have hnb59 := NB409_413.out
   have hnc59 := NB413_409.out
   have hcz60_0 : wc.cell? ⟨gb409, 0, none⟩ = some (.string a0_0) := (blk_cell BK409.out 0).trans rfl
   have hcz60_1 : wc.cell? ⟨gb409, 1, none⟩ = some (.slice A0_1 l0_1.length c0_1) := (blk_cell BK409.out 1).trans rfl
   have hcz60_2 : wc.cell? ⟨gb409, 2, none⟩ = some (.slice A0_2 l0_2.length c0_2) := (blk_cell BK409.out 2).trans rfl
   have hcz60_3 : wc.cell? ⟨gb409, 3, none⟩ = some (.int .i64 a0_3) := (blk_cell BK409.out 3).trans rfl
   have hcz60_4 : wc.cell? ⟨gb409, 4, none⟩ = some (.int .i64 a0_4) := (blk_cell BK409.out 4).trans rfl
   have hcz60_5 : wc.cell? ⟨gb409, 5, none⟩ = some (.slice A0_5 l0_5.length c0_5) := (blk_cell BK409.out 5).trans rfl
   have hfz60_0 := blk_frozen BK409.out 0
   have hfz60_1 := blk_frozen BK409.out 1
   have hfz60_2 := blk_frozen BK409.out 2
   have hfz60_3 := blk_frozen BK409.out 3
   have hfz60_4 := blk_frozen BK409.out 4
   have hfz60_5 := blk_frozen BK409.out 5
   go_wp2_with (first | ((with_reducible refine gate_callee (f := 296) rfl ?_); refine gL_ (some 56) rfl rfl Try.func296 #[.slice A0_5 l0_5.length c0_5, .func (.func 297) #[] #[.pointer (some ⟨gb412, 0, none⟩), .pointer (some ⟨gb413, 0, none⟩)]] rfl ?_; (with_reducible refine (slices_ContainsFunc_at_impl_Raga_reason_1.calls _ _ l0_5 _ [t410] _ [t411] true _ ?side1 ?side2 ?side3 ?side4 ?side5 ?side6 A56.out).mono ?_); (case side1 => exact tC (Kd.C_below HR0_5.out HB.out)); (case side2 => exact HC0_5.out); (case side3 => exact Kd.C_box rfl (tB BK412)); (case side4 => exact Nat.one_pos); (case side5 => exact Kd.C_box rfl (tB BK413)); (case side6 => exact Nat.one_pos); rintro e w61 ⟨rfl, hb⟩; refine ⟨_, rfl, ?_⟩; replace BK409 := tbB BK409 hb; replace BK412 := tbB BK412 hb; replace BK413 := tbB BK413 hb; replace HB := Aside0.mk (below_step (tH3 HB GE409.out GE412.out GE413.out) hb); (try clear hb); (try clear hb2); (try clear hk); (try clear hi)))
   go_ret
   exact ⟨tE, tH3 HB GE409.out GE412.out GE413.out⟩
 replace c57 := Bool.eq_false_iff.mpr c57
 subst c57
 have H1 : (some 0) = some r := by rw [if_neg (show ¬ (false = true) by decide)] at H; exact H
 clear H
 have H := H1
 clear H1
 obtain rfl := Option.some.inj H
 have hnb62 := NB409_412.out
 have hnc62 := NB412_409.out
 have hnb63 := NB409_413.out
 have hnc63 := NB413_409.out
 have hcz64_0 : wc.cell? ⟨gb409, 0, none⟩ = some (.string a0_0) := (blk_cell BK409.out 0).trans rfl
 have hcz64_1 : wc.cell? ⟨gb409, 1, none⟩ = some (.slice A0_1 l0_1.length c0_1) := (blk_cell BK409.out 1).trans rfl
 have hcz64_2 : wc.cell? ⟨gb409, 2, none⟩ = some (.slice A0_2 l0_2.length c0_2) := (blk_cell BK409.out 2).trans rfl
 have hcz64_3 : wc.cell? ⟨gb409, 3, none⟩ = some (.int .i64 a0_3) := (blk_cell BK409.out 3).trans rfl
 have hcz64_4 : wc.cell? ⟨gb409, 4, none⟩ = some (.int .i64 a0_4) := (blk_cell BK409.out 4).trans rfl
 have hcz64_5 : wc.cell? ⟨gb409, 5, none⟩ = some (.slice A0_5 l0_5.length c0_5) := (blk_cell BK409.out 5).trans rfl
 have hfz64_0 := blk_frozen BK409.out 0
 have hfz64_1 := blk_frozen BK409.out 1
 have hfz64_2 := blk_frozen BK409.out 2
 have hfz64_3 := blk_frozen BK409.out 3
 have hfz64_4 := blk_frozen BK409.out 4
 have hfz64_5 := blk_frozen BK409.out 5
 go_wp2_with (first | ((with_reducible refine gate_callee (f := 296) rfl ?_); refine gL_ (some 56) rfl rfl Try.func296 #[.slice A0_5 l0_5.length c0_5, .func (.func 297) #[] #[.pointer (some ⟨gb412, 0, none⟩), .pointer (some ⟨gb413, 0, none⟩)]] rfl ?_; (with_reducible refine (slices_ContainsFunc_at_impl_Raga_reason_1.calls _ _ l0_5 _ [t410] _ [t411] false _ ?side1 ?side2 ?side3 ?side4 ?side5 ?side6 A56.out).mono ?_); (case side1 => exact tC (Kd.C_below HR0_5.out HB.out)); (case side2 => exact HC0_5.out); (case side3 => exact Kd.C_box rfl (tB BK412)); (case side4 => exact Nat.one_pos); (case side5 => exact Kd.C_box rfl (tB BK413)); (case side6 => exact Nat.one_pos); rintro e w65 ⟨rfl, hb⟩; refine ⟨_, rfl, ?_⟩; replace BK409 := tbB BK409 hb; replace BK412 := tbB BK412 hb; replace BK413 := tbB BK413 hb; replace HB := Aside0.mk (below_step (tH3 HB GE409.out GE412.out GE413.out) hb); (try clear hb); (try clear hb2); (try clear hk); (try clear hi)))
 go_ret
 exact ⟨tE, tH3 HB GE409.out GE412.out GE413.out⟩

end Go.Proofs.Ytbedlmlofnphkaa.PZ
