-- WRITTEN BY wip/gprint.py, a program of this session's over the kit's print, with contracts given by hand
import Derived.Test.YtomeeimjlagbbaaPDx0
import Derived.Test.YtomeeimjlagbbaaPDx2
import Derived.Test.YtomeeimjlagbbaaPDx3
import Derived.Test.YtomeeimjlagbbaaPDx4
import Derived.Test.YtomeeimjlagbbaaPDx5
namespace Go.Proofs.Ytomeeimjlagbbaa.PD
open Go.RowKit Go.Proofs.YtomeeimjlagbbaaW.PrintWords Go.Proofs.YtomeeimjlagbbaaW.PrintLast Go.Proofs.YtomeeimjlagbbaaW.PrintMore
attribute [local go_sem] max2_int min2_int max_two min_two max_three min_three max_four min_four   -- for this text's walks alone
set_option linter.unusedVariables false
set_option linter.unusedSimpArgs false

/-! ### spec_DrawBestDrone: function 50 -/
mutual
def spec_DrawBestDrone.j0 : Nat → List (S40) → List (List (S40)) → Int → List Int → Int → Int → Option ((List (S40)) × (List (List (S40))))
  | 0, _, _, _, _, _, _ => none
  | k + 1, x5, x6, x7, x294000, x294001, x294002 => spec_DrawBestDrone.l0 k x5 x6 x7 0 x294000 x294001 x294002
def spec_DrawBestDrone.l0 : Nat → List (S40) → List (List (S40)) → Int → Int → List Int → Int → Int → Option ((List (S40)) × (List (List (S40))))
  | 0, _, _, _, _, _, _, _ => none
  | k + 1, x5, x6, x7, x8, x294000, x294001, x294002 => if x8 < x7 then ((spec_l16DrawDrone.f k x294000 x294001 x294002).bind fun bt314 => (if x6.length < 5864062014805 then (spec_DrawBestDrone.l0 k x5 (x6 ++ [bt314.1]) x7 (wrap64 (x8 + 1)) x294000 bt314.2.1 bt314.2.2) else (none))) else (some (x5, x6))
end
def spec_DrawBestDrone.f (k : Nat) (l0 : List Int) : Option ((List (S40)) × (List (List (S40)))) := (spec_l00From.f l0).bind fun bt290 => ((spec_l09Bent.f k bt290.1 bt290.2.1 bt290.2.2).bind fun bt294 => ((some (([] : List (List (S40))) : List (List (S40)))).bind fun y299 => ((spec_l00Src_pick.f bt290.1 bt294.2.1 bt294.2.2 5).bind fun bt302 => ((spec_l00Src_one.f bt290.1 bt302.2.1 bt302.2.2 14).bind fun bt305 => (if bt305.1 = true then ((spec_l00Src_among.f bt290.1 bt305.2.1 bt305.2.2 (([8, 9] : List Int))).bind fun bt311 => (spec_DrawBestDrone.j0 k bt294.1 y299 bt311.1 bt290.1 bt311.2.1 bt311.2.2)) else (spec_DrawBestDrone.j0 k bt294.1 y299 bt302.1 bt290.1 bt305.2.1 bt305.2.2))))))
theorem spec_DrawBestDrone.mono_l : ∀ k, (∀ y0 y1 y2 y3 y4 y5, LeO (spec_DrawBestDrone.j0 k y0 y1 y2 y3 y4 y5) (spec_DrawBestDrone.j0 (k + 1) y0 y1 y2 y3 y4 y5)) ∧ (∀ y0 y1 y2 y3 y4 y5 y6, LeO (spec_DrawBestDrone.l0 k y0 y1 y2 y3 y4 y5 y6) (spec_DrawBestDrone.l0 (k + 1) y0 y1 y2 y3 y4 y5 y6))
  | 0 => ⟨fun _ _ _ _ _ _ r h => by simp [spec_DrawBestDrone.j0] at h, fun _ _ _ _ _ _ _ r h => by simp [spec_DrawBestDrone.l0] at h⟩
  | k + 1 => by
    obtain ⟨ih0, ih1⟩ := spec_DrawBestDrone.mono_l k
    refine ⟨?_, ?_⟩
    · intro y0 y1 y2 y3 y4 y5
      unfold spec_DrawBestDrone.j0
      repeat' first
      | (with_reducible exact ih0 _ _ _ _ _ _)
      | (with_reducible exact ih1 _ _ _ _ _ _ _)
      | (with_reducible exact spec_l09Bent.mono _ _ _ _)
      | (with_reducible exact spec_l16DrawDrone.mono _ _ _ _)
      | (with_reducible exact LeO.refl _)
      | (with_reducible exact LeO.none _)
      | (with_reducible refine LeO.ite ?_ ?_)
      | (with_reducible refine LeO.bind ?_ (fun _ => ?_))
      | exact ih0 _ _ _ _ _ _
      | exact ih1 _ _ _ _ _ _ _
      | exact spec_l09Bent.mono _ _ _ _
      | exact spec_l16DrawDrone.mono _ _ _ _
      | exact LeO.none _
      | refine LeO.ite ?_ ?_
      | refine LeO.bind ?_ (fun _ => ?_)
    · intro y0 y1 y2 y3 y4 y5 y6
      unfold spec_DrawBestDrone.l0
      repeat' first
      | (with_reducible exact ih0 _ _ _ _ _ _)
      | (with_reducible exact ih1 _ _ _ _ _ _ _)
      | (with_reducible exact spec_l09Bent.mono _ _ _ _)
      | (with_reducible exact spec_l16DrawDrone.mono _ _ _ _)
      | (with_reducible exact LeO.refl _)
      | (with_reducible exact LeO.none _)
      | (with_reducible refine LeO.ite ?_ ?_)
      | (with_reducible refine LeO.bind ?_ (fun _ => ?_))
      | exact ih0 _ _ _ _ _ _
      | exact ih1 _ _ _ _ _ _ _
      | exact spec_l09Bent.mono _ _ _ _
      | exact spec_l16DrawDrone.mono _ _ _ _
      | exact LeO.none _
      | refine LeO.ite ?_ ?_
      | refine LeO.bind ?_ (fun _ => ?_)
theorem spec_DrawBestDrone.mono : ∀ a0 k, LeO (spec_DrawBestDrone.f k a0) (spec_DrawBestDrone.f (k + 1) a0) := by
  intro a0 k
  obtain ⟨ih0, ih1⟩ := spec_DrawBestDrone.mono_l k
  unfold spec_DrawBestDrone.f
  repeat' first
      | (with_reducible exact ih0 _ _ _ _ _ _)
      | (with_reducible exact ih1 _ _ _ _ _ _ _)
      | (with_reducible exact spec_l09Bent.mono _ _ _ _)
      | (with_reducible exact spec_l16DrawDrone.mono _ _ _ _)
      | (with_reducible exact LeO.refl _)
      | (with_reducible exact LeO.none _)
      | (with_reducible refine LeO.ite ?_ ?_)
      | (with_reducible refine LeO.bind ?_ (fun _ => ?_))
      | exact ih0 _ _ _ _ _ _
      | exact ih1 _ _ _ _ _ _ _
      | exact spec_l09Bent.mono _ _ _ _
      | exact spec_l16DrawDrone.mono _ _ _ _
      | exact LeO.none _
      | refine LeO.ite ?_ ?_
      | refine LeO.bind ?_ (fun _ => ?_)
set_option maxHeartbeats 8000000 in
set_option maxRecDepth 100000 in
theorem spec_DrawBestDrone.calls (k : Nat) (A0 : Option Addr) (c0 : Nat) (l0 : List Int) (r1 : List (S40)) (r2 : List (List (S40))) (w : World) (hr0 : Kd.C (Kd.int .u8) w A0 l0.length l0) (hc0 : l0.length ≤ c0) (h : spec_DrawBestDrone.f k l0 = some (r1, r2)) :
    Calls Try.prog 50 #[.slice A0 l0.length c0] w fun e w' => ∃ v0_ v1_ : Value, e = .returned (.tuple #[v0_, v1_]) ∧ Kd.R k40 40 w' w.heap.size (fun _ => True) v0_ r1 ∧ Kd.S (Kd.slice 40 k40) 31 w' w.heap.size (fun k_ => some k_ ≠ (v0_ : Value).ownBlock) v1_ r2 ∧ Below w.heap.size w w' := by
  have HR0 := Aside0.mk hr0
  have HC0 := Aside0.mk hc0
  clear hr0 hc0
  have HB := Aside0.mk (Below.refl w.heap.size w)
  have H : ((spec_l00From.f l0).bind fun bt290 => ((spec_l09Bent.f k bt290.1 bt290.2.1 bt290.2.2).bind fun bt294 => ((some (([] : List (List (S40))) : List (List (S40)))).bind fun y299 => ((spec_l00Src_pick.f bt290.1 bt294.2.1 bt294.2.2 5).bind fun bt302 => ((spec_l00Src_one.f bt290.1 bt302.2.1 bt302.2.2 14).bind fun bt305 => (if bt305.1 = true then ((spec_l00Src_among.f bt290.1 bt305.2.1 bt305.2.2 (([8, 9] : List Int))).bind fun bt311 => (spec_DrawBestDrone.j0 k bt294.1 y299 bt311.1 bt290.1 bt311.2.1 bt311.2.2)) else (spec_DrawBestDrone.j0 k bt294.1 y299 bt302.1 bt290.1 bt305.2.1 bt305.2.2))))))) = some (r1, r2) := h
  clear h
  replace H := Option.bind_eq_some_iff.mp H
  obtain ⟨⟨t290, t291, t292⟩, A20, H⟩ := H
  replace H : ((spec_l09Bent.f k t290 t291 t292).bind fun bt294 => ((some (([] : List (List (S40))) : List (List (S40)))).bind fun y299 => ((spec_l00Src_pick.f t290 bt294.2.1 bt294.2.2 5).bind fun bt302 => ((spec_l00Src_one.f t290 bt302.2.1 bt302.2.2 14).bind fun bt305 => (if bt305.1 = true then ((spec_l00Src_among.f t290 bt305.2.1 bt305.2.2 (([8, 9] : List Int))).bind fun bt311 => (spec_DrawBestDrone.j0 k bt294.1 y299 bt311.1 t290 bt311.2.1 bt311.2.2)) else (spec_DrawBestDrone.j0 k bt294.1 y299 bt302.1 t290 bt305.2.1 bt305.2.2)))))) = some (r1, r2) := H
  have A2 := Aside0.mk A20
  clear A20
  replace H := Option.bind_eq_some_iff.mp H
  obtain ⟨⟨t294, t297, t298⟩, A30, H⟩ := H
  replace H : ((some (([] : List (List (S40))) : List (List (S40)))).bind fun y299 => ((spec_l00Src_pick.f t290 t297 t298 5).bind fun bt302 => ((spec_l00Src_one.f t290 bt302.2.1 bt302.2.2 14).bind fun bt305 => (if bt305.1 = true then ((spec_l00Src_among.f t290 bt305.2.1 bt305.2.2 (([8, 9] : List Int))).bind fun bt311 => (spec_DrawBestDrone.j0 k t294 y299 bt311.1 t290 bt311.2.1 bt311.2.2)) else (spec_DrawBestDrone.j0 k t294 y299 bt302.1 t290 bt305.2.1 bt305.2.2))))) = some (r1, r2) := H
  have A3 := Aside0.mk A30
  clear A30
  obtain ⟨y299, hy299⟩ : ∃ y_ : List (List (S40)), y_ = (([] : List (List (S40)))) := ⟨_, rfl⟩
  replace H : ((spec_l00Src_pick.f t290 t297 t298 5).bind fun bt302 => ((spec_l00Src_one.f t290 bt302.2.1 bt302.2.2 14).bind fun bt305 => (if bt305.1 = true then ((spec_l00Src_among.f t290 bt305.2.1 bt305.2.2 (([8, 9] : List Int))).bind fun bt311 => (spec_DrawBestDrone.j0 k t294 y299 bt311.1 t290 bt311.2.1 bt311.2.2)) else (spec_DrawBestDrone.j0 k t294 y299 bt302.1 t290 bt305.2.1 bt305.2.2)))) = some (r1, r2) := by first | (rw [hy299]; with_reducible exact H) | (have H2_ := (Option.bind_some _ _).symm.trans H; rw [hy299]; with_reducible exact H2_) | (have H2_ := (Option.bind_some _ _).symm.trans H; with_reducible exact H2_) | with_reducible exact H | (rw [hy299]; exact H) | exact H
  have Ny299 := Aside0.mk hy299
  clear hy299
  replace H := Option.bind_eq_some_iff.mp H
  obtain ⟨⟨t302, t303, t304⟩, A40, H⟩ := H
  replace H : ((spec_l00Src_one.f t290 t303 t304 14).bind fun bt305 => (if bt305.1 = true then ((spec_l00Src_among.f t290 bt305.2.1 bt305.2.2 (([8, 9] : List Int))).bind fun bt311 => (spec_DrawBestDrone.j0 k t294 y299 bt311.1 t290 bt311.2.1 bt311.2.2)) else (spec_DrawBestDrone.j0 k t294 y299 t302 t290 bt305.2.1 bt305.2.2))) = some (r1, r2) := H
  have A4 := Aside0.mk A40
  clear A40
  replace H := Option.bind_eq_some_iff.mp H
  obtain ⟨⟨t305, t306, t307⟩, A50, H⟩ := H
  replace H : (if t305 = true then ((spec_l00Src_among.f t290 t306 t307 (([8, 9] : List Int))).bind fun bt311 => (spec_DrawBestDrone.j0 k t294 y299 bt311.1 t290 bt311.2.1 bt311.2.2)) else (spec_DrawBestDrone.j0 k t294 y299 t302 t290 t306 t307)) = some (r1, r2) := H
  have A5 := Aside0.mk A50
  clear A50
  have HC6 := Aside0.mk H
  clear H
  go_enter Try.func50, Try.ntmps50
  go_upto_if 17 with (first | ((with_reducible refine gate_callee (f := 74) rfl ?_); refine goesL_ (some 10) rfl rfl Try.func74 (by kernel_rfl) rfl #[.slice A0 l0.length c0] rfl (by (try simp only [List.map_toArray, List.map_cons, List.map_nil]); first | done | rfl | (simp only [List.length_drop, List.length_take]; rfl)) ?_; (with_reducible refine (spec_l00From.calls _ _ l0 t290 t291 t292 w _ ?side1 ?side2 ?side3 A2.out).mono ?_); (case side1 => repeat (first | (with_reducible first | exact HB.out | apply below_alloc | apply pw_below_drewN | apply below_drew1) | exact HB.out)); (case side2 => exact HR0.out); (case side3 => exact HC0.out); rintro e w7 ⟨g293, rfl, hi, hb, hb2⟩; refine ⟨_, rfl, ?_⟩; have n0_ := Aside0.mk (hb); have n1_ := Aside0.mk (hi); clear HB; have HB := n0_; have HI293 := n1_; clear n0_ n1_; (try clear hb); (try clear hb2); (try clear hk); (try clear hi)) | ((with_reducible refine gate_callee (f := 116) rfl ?_); refine goesL_ (some 12) rfl rfl Try.func116 (by kernel_rfl) rfl #[.pointer (some ⟨g293, 0, none⟩)] rfl (by (try simp only [List.map_toArray, List.map_cons, List.map_nil]); first | done | rfl | (simp only [List.length_drop, List.length_take]; rfl)) ?_; (with_reducible refine (spec_l09Bent.calls k g293 t290 t291 t292 t294 t297 t298 w _ ?side1 ?side2 A3.out).mono ?_); (case side1 => repeat (first | (with_reducible first | exact HI293.out | apply IsS128.alloc | apply IsS128.drewN | apply IsS128.drew | apply IsS128.set_1 | apply IsS128.set_2) | exact HI293.out)); (case side2 => repeat (first | (with_reducible first | exact HB.out | apply below_alloc | apply pw_below_drewN | apply below_drew1 | refine below_set ?_ (IsS128.ge HI293.out)) | exact HB.out)); rintro e w8 ⟨v295, rfl, ho0, hi, hb, hk⟩; refine ⟨_, rfl, ?_⟩; have n0_ := Aside0.mk (Kd.R_lower ho0 (below_size (by repeat (first | (with_reducible first | exact HB.out | apply below_alloc | apply pw_below_drewN | apply below_drew1 | refine below_set ?_ (IsS128.ge HI293.out)) | exact HB.out)))); have n1_ := Aside0.mk (hb); have n2_ := Aside0.mk (hi); clear HB; clear HI293; have HO296 := n0_; have HB := n1_; have HI293 := n2_; clear n0_ n1_ n2_; (try clear hb); (try clear hb2); (try clear hk); (try clear hi); (try clear ho0)) | ((with_reducible refine gate_dst (N := 13) rfl ?_); refine Kd.S_lit (Kd.slice 40 k40) _ 31 ?hg (N := 13) ?hd (xs := ([] : List (List (S40)))) (inner := []) (ok := fun _ => True) (okp := fun _ => True) ?hr ?hp (fun _ hk => hk) trivial (Below.refl _ _) (Nat.le_refl _) (by simp) ?_; (case hd => rfl); (case hg => rfl); (case hr => first | (go_simp; done) | (go_simp; rfl)); (case hp => exact (Reps.none _ _)); intro v300 w9 ho10 hb hg_ hnew_; clear hg_ hnew_; (first | rw [← Ny299.out] at ho10 | (simp only [Int.reduceToNat] at ho10; rw [← Ny299.out] at ho10)); have n0_ := Aside0.mk (Kd.R_below (by (with_reducible repeat (first | apply Kd.R_alloc | apply Kd.R_drewN | apply Kd.R_drew)); exact HO296.out) hb); have n1_ := Aside0.mk (Kd.S_lower (Kd.S_new' ho10 (Kd.R_lt (by (with_reducible repeat (first | apply Kd.R_alloc | apply Kd.R_drewN | apply Kd.R_drew)); exact HO296.out))) (below_size (by repeat (first | (with_reducible first | exact HB.out | apply below_alloc | apply pw_below_drewN | apply below_drew1 | refine below_set ?_ (IsS128.ge HI293.out)) | exact HB.out)))); have n2_ := Aside0.mk (IsS128.below (by repeat (first | (with_reducible first | exact HI293.out | apply IsS128.alloc | apply IsS128.drewN | apply IsS128.drew | apply IsS128.set_1 | apply IsS128.set_2) | exact HI293.out)) hb); have n3_ := Aside0.mk (below_step (by repeat (first | (with_reducible first | exact HB.out | apply below_alloc | apply pw_below_drewN | apply below_drew1 | refine below_set ?_ (IsS128.ge HI293.out)) | exact HB.out)) hb); clear HO296; clear HI293; clear HB; have HO296 := n0_; have HO301 := n1_; have HI293 := n2_; have HB := n3_; clear n0_ n1_ n2_ n3_; clear hb ho10) | ((with_reducible refine gate_callee (f := 122) rfl ?_); refine goesL_ (some 15) rfl rfl Try.func122 (by kernel_rfl) rfl #[.pointer (some ⟨g293, 0, none⟩), .int .i64 5] rfl (by (try simp only [List.map_toArray, List.map_cons, List.map_nil]); first | done | rfl | (simp only [List.length_drop, List.length_take]; rfl)) ?_; (with_reducible refine (spec_l00Src_pick.calls g293 t290 t297 t298 5 t302 t303 t304 w _ ?side1 ?side2 A4.out).mono ?_); (case side1 => repeat (first | (with_reducible first | exact HI293.out | apply IsS128.alloc | apply IsS128.drewN | apply IsS128.drew | apply IsS128.set_1 | apply IsS128.set_2) | exact HI293.out)); (case side2 => repeat (first | (with_reducible first | exact HB.out | apply below_alloc | apply pw_below_drewN | apply below_drew1 | refine below_set ?_ (IsS128.ge HI293.out)) | exact HB.out)); rintro e w11 ⟨rfl, hi, hb, hk⟩; refine ⟨_, rfl, ?_⟩; have n0_ := Aside0.mk (Kd.R_mono (Kd.R_keep (IsS128.apart (show IsS128 w _ g293 t290 t297 t298 from by repeat (first | (with_reducible first | exact HI293.out | apply IsS128.alloc | apply IsS128.drewN | apply IsS128.drew | apply IsS128.set_1 | apply IsS128.set_2) | exact HI293.out)) (by (with_reducible repeat (first | apply Kd.R_alloc | apply Kd.R_drewN | apply Kd.R_drew)); exact HO296.out) (by decide)) hk (fun _ h => h.2)) (fun _ h => h.1)); have n1_ := Aside0.mk (Kd.S_mono (Kd.S_keep (IsS128.apartS (show IsS128 w _ g293 t290 t297 t298 from by repeat (first | (with_reducible first | exact HI293.out | apply IsS128.alloc | apply IsS128.drewN | apply IsS128.drew | apply IsS128.set_1 | apply IsS128.set_2) | exact HI293.out)) (by (with_reducible repeat (first | apply Kd.S_alloc | apply Kd.S_drewN | apply Kd.S_drew)); exact HO301.out) (by decide)) hk (fun _ h => h.2)) (fun _ h => h.1)); have n2_ := Aside0.mk (hb); have n3_ := Aside0.mk (hi); clear HO296; clear HO301; clear HB; clear HI293; have HO296 := n0_; have HO301 := n1_; have HB := n2_; have HI293 := n3_; clear n0_ n1_ n2_ n3_; (try clear hb); (try clear hb2); (try clear hk); (try clear hi)) | ((with_reducible refine gate_callee (f := 123) rfl ?_); refine goesL_ (some 17) rfl rfl Try.func123 (by kernel_rfl) rfl #[.pointer (some ⟨g293, 0, none⟩), .int .i64 14] rfl (by (try simp only [List.map_toArray, List.map_cons, List.map_nil]); first | done | rfl | (simp only [List.length_drop, List.length_take]; rfl)) ?_; (with_reducible refine (spec_l00Src_one.calls g293 t290 t303 t304 14 t305 t306 t307 w _ ?side1 ?side2 A5.out).mono ?_); (case side1 => repeat (first | (with_reducible first | exact HI293.out | apply IsS128.alloc | apply IsS128.drewN | apply IsS128.drew | apply IsS128.set_1 | apply IsS128.set_2) | exact HI293.out)); (case side2 => repeat (first | (with_reducible first | exact HB.out | apply below_alloc | apply pw_below_drewN | apply below_drew1 | refine below_set ?_ (IsS128.ge HI293.out)) | exact HB.out)); rintro e w12 ⟨rfl, hi, hb, hk⟩; refine ⟨_, rfl, ?_⟩; have n0_ := Aside0.mk (Kd.R_mono (Kd.R_keep (IsS128.apart (show IsS128 w _ g293 t290 t303 t304 from by repeat (first | (with_reducible first | exact HI293.out | apply IsS128.alloc | apply IsS128.drewN | apply IsS128.drew | apply IsS128.set_1 | apply IsS128.set_2) | exact HI293.out)) (by (with_reducible repeat (first | apply Kd.R_alloc | apply Kd.R_drewN | apply Kd.R_drew)); exact HO296.out) (by decide)) hk (fun _ h => h.2)) (fun _ h => h.1)); have n1_ := Aside0.mk (Kd.S_mono (Kd.S_keep (IsS128.apartS (show IsS128 w _ g293 t290 t303 t304 from by repeat (first | (with_reducible first | exact HI293.out | apply IsS128.alloc | apply IsS128.drewN | apply IsS128.drew | apply IsS128.set_1 | apply IsS128.set_2) | exact HI293.out)) (by (with_reducible repeat (first | apply Kd.S_alloc | apply Kd.S_drewN | apply Kd.S_drew)); exact HO301.out) (by decide)) hk (fun _ h => h.2)) (fun _ h => h.1)); have n2_ := Aside0.mk (hb); have n3_ := Aside0.mk (hi); clear HO296; clear HO301; clear HB; clear HI293; have HO296 := n0_; have HO301 := n1_; have HB := n2_; have HI293 := n3_; clear n0_ n1_ n2_ n3_; (try clear hb); (try clear hb2); (try clear hk); (try clear hi)))
  (try simp only [Act.put, List.setIfInBounds_toArray, List.set_cons_zero, List.set_cons_succ])
  go_cut [7] (fun v7 wc => ∃ (kq : Nat) (x7_5 : Int) (x294001_5 : Int) (x294002_5 : Int), v7 = .int .i64 x7_5 ∧ Aside0 (spec_DrawBestDrone.j0 kq t294 y299 x7_5 t290 x294001_5 x294002_5 = some (r1, r2)) ∧ Aside0 (kq ≤ k) ∧ Aside0 (Kd.R k40 40 wc w.heap.size (fun _ => True) v295 t294) ∧ Aside0 (Kd.S (Kd.slice 40 k40) 31 wc w.heap.size (fun k_ => some k_ ≠ (v295 : Value).ownBlock) v300 y299) ∧ Aside0 (IsS128 w wc g293 t290 x294001_5 x294002_5) ∧ Aside0 (Below w.heap.size w wc))
  case first =>
    have H := HC6.out
    clear HC6
    by_cases c13 : t305 = true
    · subst c13
      have H1 : ((spec_l00Src_among.f t290 t306 t307 (([8, 9] : List Int))).bind fun bt311 => (spec_DrawBestDrone.j0 k t294 y299 bt311.1 t290 bt311.2.1 bt311.2.2)) = some (r1, r2) := by rw [if_pos rfl] at H; exact H
      clear H
      have H := H1
      clear H1
      obtain ⟨y308, hy308⟩ : ∃ y_ : List Int, y_ = (([8, 9] : List Int)) := ⟨_, rfl⟩
      replace H : ((spec_l00Src_among.f t290 t306 t307 y308).bind fun bt311 => (spec_DrawBestDrone.j0 k t294 y299 bt311.1 t290 bt311.2.1 bt311.2.2)) = some (r1, r2) := by first | (rw [hy308]; with_reducible exact H) | (have H2_ := (Option.bind_some _ _).symm.trans H; rw [hy308]; with_reducible exact H2_) | (have H2_ := (Option.bind_some _ _).symm.trans H; with_reducible exact H2_) | with_reducible exact H | (rw [hy308]; exact H) | exact H
      have Ny308 := Aside0.mk hy308
      clear hy308
      replace H := Option.bind_eq_some_iff.mp H
      obtain ⟨⟨t311, t312, t313⟩, A140, H⟩ := H
      replace H : (spec_DrawBestDrone.j0 k t294 y299 t311 t290 t312 t313) = some (r1, r2) := H
      have A14 := Aside0.mk A140
      clear A140
      have H' := Aside0.mk H
      clear H
      go_wp2_with (first | ((with_reducible refine gate_dst (N := 19) rfl ?_); refine Kd.R_lit (Kd.int .i64) _ 2 ?hg (N := 19) ?hd (xs := ([8, 9] : List Int)) (inner := [.int .i64 8, .int .i64 9]) (ok := fun _ => True) (okp := fun _ => True) ?hr ?hp (fun _ hk => hk) trivial (Below.refl _ _) (Nat.le_refl _) (by simp) ?_; (case hd => rfl); (case hg => rfl); (case hr => first | (go_simp; done) | (go_simp; rfl)); (case hp => exact (Reps.one (show Kd.M (Kd.int .i64) _ _ _ 8 [.int .i64 8] from rfl) (Reps.one (show Kd.M (Kd.int .i64) _ _ _ 9 [.int .i64 9] from rfl) (Reps.none _ _)))); intro v309 w15 ho16 hb hg_ hnew_; clear hg_ hnew_; (first | rw [← Ny308.out] at ho16 | (simp only [Int.reduceToNat] at ho16; rw [← Ny308.out] at ho16)); have n0_ := Aside0.mk (Kd.R_below (by (with_reducible repeat (first | apply Kd.R_alloc | apply Kd.R_drewN | apply Kd.R_drew)); exact HO296.out) hb); have n1_ := Aside0.mk (Kd.S_below (by (with_reducible repeat (first | apply Kd.S_alloc | apply Kd.S_drewN | apply Kd.S_drew)); exact HO301.out) hb); have n2_ := Aside0.mk (Kd.R_lower ho16 (below_size (by repeat (first | (with_reducible first | exact HB.out | apply below_alloc | apply pw_below_drewN | apply below_drew1 | refine below_set ?_ (IsS128.ge HI293.out)) | exact HB.out)))); have n3_ := Aside0.mk (IsS128.below (by repeat (first | (with_reducible first | exact HI293.out | apply IsS128.alloc | apply IsS128.drewN | apply IsS128.drew | apply IsS128.set_1 | apply IsS128.set_2) | exact HI293.out)) hb); have n4_ := Aside0.mk (below_step (by repeat (first | (with_reducible first | exact HB.out | apply below_alloc | apply pw_below_drewN | apply below_drew1 | refine below_set ?_ (IsS128.ge HI293.out)) | exact HB.out)) hb); clear HO296; clear HO301; clear HI293; clear HB; have HO296 := n0_; have HO301 := n1_; have HO310 := n2_; have HI293 := n3_; have HB := n4_; clear n0_ n1_ n2_ n3_ n4_; clear hb ho16; obtain ⟨Ao17, co17, eo17⟩ := Kd.R_slice HO310.out; subst eo17) | ((with_reducible refine gate_callee (f := 124) rfl ?_); refine goesL_ (some 20) rfl rfl Try.func124 (by kernel_rfl) rfl #[.pointer (some ⟨g293, 0, none⟩), .slice Ao17 y308.length co17] rfl (by (try simp only [List.map_toArray, List.map_cons, List.map_nil]); first | done | rfl | (simp only [List.length_drop, List.length_take]; rfl)) ?_; (with_reducible refine (spec_l00Src_among.calls g293 t290 t306 t307 _ _ y308 t311 t312 t313 w _ ?side1 ?side2 ?side3 ?side4 ?side5 A14.out).mono ?_); (case side1 => repeat (first | (with_reducible first | exact HI293.out | apply IsS128.alloc | apply IsS128.drewN | apply IsS128.drew | apply IsS128.set_1 | apply IsS128.set_2) | exact HI293.out)); (case side2 => repeat (first | (with_reducible first | exact HB.out | apply below_alloc | apply pw_below_drewN | apply below_drew1 | refine below_set ?_ (IsS128.ge HI293.out)) | exact HB.out)); (case side3 => repeat (first | exact (Kd.R_reads' HO310.out).2.2 | (with_reducible refine Kd.C_alloc ?_ _) | (with_reducible refine Kd.C_drewN ?_ _) | (with_reducible refine Kd.C_drew ?_))); (case side4 => exact (Kd.R_reads' HO310.out).2.1); (case side5 => exact far_slice (IsS128.own_ne HI293.out HO310.out (by decide))); rintro e w18 ⟨rfl, hi, hb, hk⟩; refine ⟨_, rfl, ?_⟩; have n0_ := Aside0.mk (Kd.R_mono (Kd.R_keep (IsS128.apart (show IsS128 w _ g293 t290 t306 t307 from by repeat (first | (with_reducible first | exact HI293.out | apply IsS128.alloc | apply IsS128.drewN | apply IsS128.drew | apply IsS128.set_1 | apply IsS128.set_2) | exact HI293.out)) (by (with_reducible repeat (first | apply Kd.R_alloc | apply Kd.R_drewN | apply Kd.R_drew)); exact HO296.out) (by decide)) hk (fun _ h => h.2)) (fun _ h => h.1)); have n1_ := Aside0.mk (Kd.S_mono (Kd.S_keep (IsS128.apartS (show IsS128 w _ g293 t290 t306 t307 from by repeat (first | (with_reducible first | exact HI293.out | apply IsS128.alloc | apply IsS128.drewN | apply IsS128.drew | apply IsS128.set_1 | apply IsS128.set_2) | exact HI293.out)) (by (with_reducible repeat (first | apply Kd.S_alloc | apply Kd.S_drewN | apply Kd.S_drew)); exact HO301.out) (by decide)) hk (fun _ h => h.2)) (fun _ h => h.1)); have n2_ := Aside0.mk (Kd.R_mono (Kd.R_keep (IsS128.apart (show IsS128 w _ g293 t290 t306 t307 from by repeat (first | (with_reducible first | exact HI293.out | apply IsS128.alloc | apply IsS128.drewN | apply IsS128.drew | apply IsS128.set_1 | apply IsS128.set_2) | exact HI293.out)) (by (with_reducible repeat (first | apply Kd.R_alloc | apply Kd.R_drewN | apply Kd.R_drew)); exact HO310.out) (by decide)) hk (fun _ h => h.2)) (fun _ h => h.1)); have n3_ := Aside0.mk (hb); have n4_ := Aside0.mk (hi); clear HO296; clear HO301; clear HO310; clear HB; clear HI293; have HO296 := n0_; have HO301 := n1_; have HO310 := n2_; have HB := n3_; have HI293 := n4_; clear n0_ n1_ n2_ n3_ n4_; (try clear hb); (try clear hb2); (try clear hk); (try clear hi)))
      go_meet
      case rel => exact ⟨_, (t311), (t312), (t313), (by first | rfl | (simp; done) | (simp [*]; done)), H', ⟨by first | omega | exact Nat.le_refl _⟩, ⟨by (with_reducible repeat (first | apply Kd.R_alloc | apply Kd.R_drewN | apply Kd.R_drew)); exact HO296.out⟩, ⟨by (with_reducible repeat (first | apply Kd.S_alloc | apply Kd.S_drewN | apply Kd.S_drew)); exact Kd.S_mono HO301.out (fun _ hk => hk.2)⟩, ⟨by repeat (first | (with_reducible first | exact HI293.out | apply IsS128.alloc | apply IsS128.drewN | apply IsS128.drew | apply IsS128.set_1 | apply IsS128.set_2) | exact HI293.out)⟩, ⟨by repeat (first | (with_reducible first | exact HB.out | apply below_alloc | apply pw_below_drewN | apply below_drew1 | refine below_set ?_ (IsS128.ge HI293.out)) | exact HB.out)⟩⟩
    · replace c13 := Bool.eq_false_iff.mpr c13
      subst c13
      have H1 : (spec_DrawBestDrone.j0 k t294 y299 t302 t290 t306 t307) = some (r1, r2) := by rw [if_neg (show ¬ (false = true) by decide)] at H; exact H
      clear H
      have H := H1
      clear H1
      have H' := Aside0.mk H
      clear H
      go_wp2
      go_meet
      case rel => exact ⟨_, (t302), (t306), (t307), (by first | rfl | (simp; done) | (simp [*]; done)), H', ⟨by first | omega | exact Nat.le_refl _⟩, ⟨by (with_reducible repeat (first | apply Kd.R_alloc | apply Kd.R_drewN | apply Kd.R_drew)); exact HO296.out⟩, ⟨by (with_reducible repeat (first | apply Kd.S_alloc | apply Kd.S_drewN | apply Kd.S_drew)); exact Kd.S_mono HO301.out (fun _ hk => hk.2)⟩, ⟨by repeat (first | (with_reducible first | exact HI293.out | apply IsS128.alloc | apply IsS128.drewN | apply IsS128.drew | apply IsS128.set_1 | apply IsS128.set_2) | exact HI293.out)⟩, ⟨by repeat (first | (with_reducible first | exact HB.out | apply below_alloc | apply pw_below_drewN | apply below_drew1 | refine below_set ?_ (IsS128.ge HI293.out)) | exact HB.out)⟩⟩
  case rest =>
    clear HC6
    try clear c1
    try clear p2
    try clear c5
    try clear c7
    try clear c11
    try clear c12
    try clear c13
    obtain ⟨kq, x7_5, x294001_5, x294002_5, rfl, HA, HJ5, HO_5, HO_6, HI293, HB⟩ := hcut
    cases kq with
    | zero => exact absurd HA.out (by simp [spec_DrawBestDrone.j0])
    | succ kj5 =>
      have H := HA.out
      clear HA
      simp only [spec_DrawBestDrone.j0] at H
      have H' := Aside0.mk H
      clear H
      go_wp2
      go_loopg [6, 8] kj5 (fun kq v6 v8 w' => ∃ (x6_2 : List (List (S40))) (x8_2 : Int) (x294001_2 : Int) (x294002_2 : Int), v8 = .int .i64 x8_2 ∧ Aside0 (spec_DrawBestDrone.l0 kq t294 x6_2 x7_5 x8_2 t290 x294001_2 x294002_2 = some (r1, r2)) ∧ Aside0 (kq ≤ kj5) ∧ Aside0 (Kd.R k40 40 w' w.heap.size (fun _ => True) v295 t294) ∧ Aside0 (Kd.S (Kd.slice 40 k40) 31 w' w.heap.size (fun k_ => some k_ ≠ (v295 : Value).ownBlock) v6 x6_2) ∧ Aside0 (IsS128 w w' g293 t290 x294001_2 x294002_2) ∧ Aside0 (Below w.heap.size w w'))
      case atStart => exact ⟨(y299), (0), (x294001_5), (x294002_5), (by first | rfl | (simp; done) | (simp [*]; done)), H', ⟨Nat.le_refl _⟩, ⟨by (with_reducible repeat (first | apply Kd.R_alloc | apply Kd.R_drewN | apply Kd.R_drew)); exact HO_5.out⟩, ⟨by (with_reducible repeat (first | apply Kd.S_alloc | apply Kd.S_drewN | apply Kd.S_drew)); exact HO_6.out⟩, ⟨by repeat (first | (with_reducible first | exact HI293.out | apply IsS128.alloc | apply IsS128.drewN | apply IsS128.drew | apply IsS128.set_1 | apply IsS128.set_2) | exact HI293.out)⟩, ⟨by repeat (first | (with_reducible first | exact HB.out | apply below_alloc | apply pw_below_drewN | apply below_drew1 | refine below_set ?_ (IsS128.ge HI293.out)) | exact HB.out)⟩⟩
      case round =>
        clear H'
        try clear c1
        try clear p2
        try clear c5
        try clear c7
        try clear c11
        try clear c12
        try clear c13
        try clear p2
        obtain ⟨x6_2, x8_2, x294001_2, x294002_2, rfl, HA, HK2, HO_5, HO_6, HI293, HB⟩ := hrel
        cases gk with
        | zero => exact absurd HA.out (by simp [spec_DrawBestDrone.l0])
        | succ k2 =>
          have H := HA.out
          clear HA
          simp only [spec_DrawBestDrone.l0] at H
          by_cases c19 : x8_2 < x7_5
          · rw [if_pos c19] at H
            have c19b0 : decide (x8_2 < x7_5) = true := decide_eq_true c19
            clear c19
            replace H := Option.bind_eq_some_iff.mp H
            obtain ⟨⟨t314, t317, t318⟩, A200, H⟩ := H
            replace H : (if x6_2.length < 5864062014805 then (spec_DrawBestDrone.l0 k2 t294 (x6_2 ++ [t314]) x7_5 (wrap64 (x8_2 + 1)) t290 t317 t318) else (none)) = some (r1, r2) := H
            have A20 := Aside0.mk A200
            clear A200
            by_cases c21 : x6_2.length < 5864062014805
            · rw [if_pos c21] at H
              have LMc21 := Aside0.mk c21
              clear c21
              obtain ⟨y319, hy319⟩ : ∃ y_ : List (List (S40)), y_ = (x6_2 ++ [t314]) := ⟨_, rfl⟩
              replace H : (spec_DrawBestDrone.l0 k2 t294 y319 x7_5 (wrap64 (x8_2 + 1)) t290 t317 t318) = some (r1, r2) := by first | (rw [hy319]; with_reducible exact H) | (have H2_ := (Option.bind_some _ _).symm.trans H; rw [hy319]; with_reducible exact H2_) | (have H2_ := (Option.bind_some _ _).symm.trans H; with_reducible exact H2_) | with_reducible exact H | (rw [hy319]; exact H) | exact H
              have Ny319 := Aside0.mk hy319
              clear hy319
              have H' := Aside0.mk H
              clear H
              go_wp2_with (first | ((with_reducible refine gate_callee (f := 117) rfl ?_); refine goesL_ (some 28) rfl rfl Try.func117 (by kernel_rfl) rfl #[.pointer (some ⟨g293, 0, none⟩)] rfl (by (try simp only [List.map_toArray, List.map_cons, List.map_nil]); first | done | rfl | (simp only [List.length_drop, List.length_take]; rfl)) ?_; (with_reducible refine (spec_l16DrawDrone.calls k2 g293 t290 x294001_2 x294002_2 t314 t317 t318 w _ ?side1 ?side2 A20.out).mono ?_); (case side1 => repeat (first | (with_reducible first | exact HI293.out | apply IsS128.alloc | apply IsS128.drewN | apply IsS128.drew | apply IsS128.set_1 | apply IsS128.set_2) | exact HI293.out)); (case side2 => repeat (first | (with_reducible first | exact HB.out | apply below_alloc | apply pw_below_drewN | apply below_drew1 | refine below_set ?_ (IsS128.ge HI293.out)) | exact HB.out)); rintro e w22 ⟨v315, rfl, ho0, hi, hb, hk⟩; refine ⟨_, rfl, ?_⟩; have n0_ := Aside0.mk (Kd.R_mono (Kd.R_told (Kd.R_oldK (IsS128.apart (show IsS128 w _ g293 t290 x294001_2 x294002_2 from by repeat (first | (with_reducible first | exact HI293.out | apply IsS128.alloc | apply IsS128.drewN | apply IsS128.drew | apply IsS128.set_1 | apply IsS128.set_2) | exact HI293.out)) (by (with_reducible repeat (first | apply Kd.R_alloc | apply Kd.R_drewN | apply Kd.R_drew)); exact HO_5.out) (by decide)) hk) (Kd.R_base ho0)) (fun _ h_ => h_.1)); have n1_ := Aside0.mk (Kd.S_mono (Kd.S_told (Kd.S_oldK (IsS128.apartS (show IsS128 w _ g293 t290 x294001_2 x294002_2 from by repeat (first | (with_reducible first | exact HI293.out | apply IsS128.alloc | apply IsS128.drewN | apply IsS128.drew | apply IsS128.set_1 | apply IsS128.set_2) | exact HI293.out)) (by (with_reducible repeat (first | apply Kd.S_alloc | apply Kd.S_drewN | apply Kd.S_drew)); exact HO_6.out) (by decide)) hk) (Kd.R_base ho0)) (fun _ h_ => h_.1)); have n2_ := Aside0.mk (Kd.R_lower (Kd.R_new' ho0 (Kd.R_lt (by (with_reducible repeat (first | apply Kd.R_alloc | apply Kd.R_drewN | apply Kd.R_drew)); exact HO_5.out))) (below_size (by repeat (first | (with_reducible first | exact HB.out | apply below_alloc | apply pw_below_drewN | apply below_drew1 | refine below_set ?_ (IsS128.ge HI293.out)) | exact HB.out)))); have n3_ := Aside0.mk (hb); have n4_ := Aside0.mk (hi); clear HO_5; clear HO_6; clear HB; clear HI293; have HO_5 := n0_; have HO_6 := n1_; have HO316 := n2_; have HB := n3_; have HI293 := n4_; clear n0_ n1_ n2_ n3_ n4_; (try clear hb); (try clear hb2); (try clear hk); (try clear hi); (try clear ho0); obtain ⟨Ao24, co24, eo24⟩ := Kd.R_slice HO316.out; subst eo24) | ((with_reducible refine gate_builtin (b := .append) (xs := #[.tmp 26, .tmp 29]) rfl ?_); at_builtin; refine Kd.S_append (Kd.slice 40 k40) (w0 := w) w.heap.size rfl (.tmp 26) (.tmp 29) 73 31 (.slice none 0 0) 24 rfl Try.underlying73 info31 rfl (by decide) (by omega) u6 x6_2 t314 [.slice Ao24 t314.length co24] (fun k_ => some k_ ≠ (v295 : Value).ownBlock) (fun k_ => some k_ = (.slice Ao24 t314.length co24 : Value).ownBlock) rfl rfl ?aP (fun k_ hk_ => ((Kd.R_mono (ok' := fun k_ => ((fun k_ => some k_ ≠ (v295 : Value).ownBlock)) k_ ∧ some k_ ≠ (u6 : Value).ownBlock) (Kd.R_apart' (HO316.out) (Kd.S_typed HO_6.out) (by decide)) (fun k_ hk => ⟨hk.1.2, hk.2⟩))).1 k_ hk_.symm) ?aF ?aO ?aB ?aS ?aL ?_; (case aP => exact Kd.M_row (Kd.R_mono (Kd.R_tight rfl (Kd.R_mono (ok' := fun k_ => ((fun k_ => some k_ ≠ (v295 : Value).ownBlock)) k_ ∧ some k_ ≠ (u6 : Value).ownBlock) (Kd.R_apart' (HO316.out) (Kd.S_typed HO_6.out) (by decide)) (fun k_ hk => ⟨hk.1.2, hk.2⟩))) (fun _ h_ => h_))); (case aB => exact (by repeat (first | (with_reducible first | exact HB.out | apply below_alloc | apply pw_below_drewN | apply below_drew1 | refine below_set ?_ (IsS128.ge HI293.out)) | exact HB.out))); (case aF => exact (fun k_ hk => Kd.fresh' (Kd.R_lt (by (with_reducible repeat (first | apply Kd.R_alloc | apply Kd.R_drewN | apply Kd.R_drew)); exact HO_5.out)) k_ hk)); (case aO => exact (by (with_reducible repeat (first | apply Kd.S_alloc | apply Kd.S_drewN | apply Kd.S_drew)); exact Kd.S_mono HO_6.out (fun k_ hk => ⟨hk.1, fun e_ => hk.2 e_⟩))); (case aS => exact (below_size (by repeat (first | (with_reducible first | exact HB.out | apply below_alloc | apply pw_below_drewN | apply below_drew1 | refine below_set ?_ (IsS128.ge HI293.out)) | exact HB.out)))); (case aL => have := LMc21.out; omega); intro v320 w23 ho hb hg hat; rw [← Ny319.out] at ho; have n0_ := Aside0.mk (Kd.R_over' (by (with_reducible repeat (first | apply Kd.R_alloc | apply Kd.R_drewN | apply Kd.R_drew)); exact HO_5.out) (Kd.S_typed (by (with_reducible repeat (first | apply Kd.S_alloc | apply Kd.S_drewN | apply Kd.S_drew)); exact HO_6.out)) (by decide) hg); have n1_ := Aside0.mk (IsS128.grown (by repeat (first | (with_reducible first | exact HI293.out | apply IsS128.alloc | apply IsS128.drewN | apply IsS128.drew | apply IsS128.set_1 | apply IsS128.set_2) | exact HI293.out)) hg (IsS128.own_neS HI293.out HO_6.out (by decide))); have n2_ := Aside0.mk (hb); have n3_ := Aside0.mk (ho); clear HO_5; clear HI293; clear HB; clear HO_6; clear HO316; have HO_5 := n0_; have HI293 := n1_; have HB := n2_; have HO321 := n3_; clear n0_ n1_ n2_ n3_; clear ho hb hg hat))
              go_roundg k2
              case measure => have := HJ5.out; have := HK2.out; omega
              case rel => exact ⟨(y319), (wrap64 (x8_2 + 1)), (t317), (t318), (by first | rfl | (simp; done) | (simp [*]; done)), H', ⟨by have := HJ5.out; have := HK2.out; omega⟩, ⟨by (with_reducible repeat (first | apply Kd.R_alloc | apply Kd.R_drewN | apply Kd.R_drew)); exact Kd.R_mono HO_5.out (fun _ hk => trivial)⟩, ⟨by (with_reducible repeat (first | apply Kd.S_alloc | apply Kd.S_drewN | apply Kd.S_drew)); exact HO321.out⟩, ⟨by repeat (first | (with_reducible first | exact HI293.out | apply IsS128.alloc | apply IsS128.drewN | apply IsS128.drew | apply IsS128.set_1 | apply IsS128.set_2) | exact HI293.out)⟩, ⟨by repeat (first | (with_reducible first | exact HB.out | apply below_alloc | apply pw_below_drewN | apply below_drew1 | refine below_set ?_ (IsS128.ge HI293.out)) | exact HB.out)⟩⟩
            · rw [if_neg c21] at H
              exact absurd H (by simp)
          · rw [if_neg c19] at H
            have c19b0 : decide (x8_2 < x7_5) = false := decide_eq_false c19
            clear c19
            simp only [Option.some.injEq, Prod.mk.injEq] at H
            obtain ⟨rfl, rfl⟩ := H
            go_wp2
            go_ret2
            exact ⟨_, _, by first | rfl | (simp [errW_none, errW_some] <;> rfl) | (simp [*, errW_none, errW_some] <;> rfl), by (with_reducible repeat (first | apply Kd.R_alloc | apply Kd.R_drewN | apply Kd.R_drew)); exact HO_5.out, by (with_reducible repeat (first | apply Kd.S_alloc | apply Kd.S_drewN | apply Kd.S_drew)); exact HO_6.out, by repeat (first | (with_reducible first | exact HB.out | apply below_alloc | apply pw_below_drewN | apply below_drew1 | refine below_set ?_ (IsS128.ge HI293.out)) | exact HB.out)⟩

-- NOT PRINTED: function 167 (impl_Note_167)

-- NOT PRINTED: function 125 (impl_Note_125)

/-! ### impl_BestDrone_1: function 126 -/
def impl_BestDrone_1.f (k : Nat) (l0 : List (S40)) : Option (Bool) := (impl_droneOk.f k l0).bind fun t322 => (some (!t322))
theorem impl_BestDrone_1.mono : ∀ a0 k, LeO (impl_BestDrone_1.f k a0) (impl_BestDrone_1.f (k + 1) a0) := by
  intro a0 k
  unfold impl_BestDrone_1.f
  repeat' first
      | (with_reducible exact impl_droneOk.mono _ _)
      | (with_reducible exact LeO.refl _)
      | (with_reducible exact LeO.none _)
      | (with_reducible refine LeO.ite ?_ ?_)
      | (with_reducible refine LeO.bind ?_ (fun _ => ?_))
      | exact impl_droneOk.mono _ _
      | exact LeO.none _
      | refine LeO.ite ?_ ?_
      | refine LeO.bind ?_ (fun _ => ?_)
set_option maxHeartbeats 8000000 in
set_option maxRecDepth 100000 in
theorem impl_BestDrone_1.calls (k : Nat) (A0 : Option Addr) (c0 : Nat) (l0 : List (S40)) (r : Bool) (w : World) (hr0 : Kd.C k40 w A0 l0.length l0) (hc0 : l0.length ≤ c0) (h : impl_BestDrone_1.f k l0 = some r) :
    Calls Try.prog 126 #[.slice A0 l0.length c0] w fun e w' => e = .returned (.bool r) ∧ Below w.heap.size w w' := by
  have HR0 := Aside0.mk hr0
  have HC0 := Aside0.mk hc0
  clear hr0 hc0
  have HB := Aside0.mk (Below.refl w.heap.size w)
  have H : ((impl_droneOk.f k l0).bind fun t322 => (some (!t322))) = some r := h
  clear h
  replace H := Option.bind_eq_some_iff.mp H
  obtain ⟨t322, A20, H⟩ := H
  replace H : (some (!t322)) = some r := H
  have A2 := Aside0.mk A20
  clear A20
  obtain rfl := Option.some.inj H
  go_enter Try.func126, Try.ntmps126
  go_wp2_with (first | ((with_reducible refine gate_callee (f := 118) rfl ?_); refine goesL_ (some 4) rfl rfl Try.func118 (by kernel_rfl) rfl #[.slice A0 l0.length c0] rfl (by (try simp only [List.map_toArray, List.map_cons, List.map_nil]); first | done | rfl | (simp only [List.length_drop, List.length_take]; rfl)) ?_; (with_reducible refine (impl_droneOk.calls k _ _ l0 t322 _ ?side1 ?side2 A2.out).mono ?_); (case side1 => repeat (first | exact HR0.out | (with_reducible refine Kd.C_alloc ?_ _) | (with_reducible refine Kd.C_drewN ?_ _) | (with_reducible refine Kd.C_drew ?_))); (case side2 => exact HC0.out); rintro e w3 ⟨rfl, hb⟩; refine ⟨_, rfl, ?_⟩; have n0_ := Aside0.mk (below_step (by repeat (first | (with_reducible first | exact HB.out | apply below_alloc | apply pw_below_drewN | apply below_drew1) | exact HB.out)) hb); clear HB; have HB := n0_; clear n0_; (try clear hb); (try clear hb2); (try clear hk); (try clear hi)))
  go_ret
  exact ⟨by first | rfl | (simp [errW_none, errW_some] <;> rfl) | (simp [*, errW_none, errW_some] <;> rfl), by repeat (first | (with_reducible first | exact HB.out | apply below_alloc | apply pw_below_drewN | apply below_drew1) | exact HB.out)⟩

/-! ### slices_ContainsFunc_at_impl_BestDrone_1: function 125 at closure 126 -/
def idxO {α : Type} (p : α → Option Bool) : List α → Int → Option Int
  | [], _ => some (-1)
  | x :: xs, i => (p x).bind fun b => if b = true then some i else idxO p xs (i + 1)
def anyO {α : Type} (p : α → Option Bool) : List α → Option Bool
  | [] => some false
  | x :: xs => (p x).bind fun b => if b = true then some true else anyO p xs
theorem idxO_at {α : Type} (p : α → Option Bool) (l : List α) (k : Nat) (hk : k < l.length) {r : Int} (h : idxO p (l.drop k) k = some r) :
    ((p l[k]).bind fun b => if b = true then some (k : Int) else idxO p (l.drop (k + 1)) ((k + 1 : Nat) : Int)) = some r := by
  rw [List.drop_eq_getElem_cons hk] at h
  exact h
theorem idxO_end {α : Type} (p : α → Option Bool) (l : List α) (k : Nat) (hk : l.length ≤ k) {r : Int} (h : idxO p (l.drop k) k = some r) : (-1 : Int) = r := by
  rw [List.drop_eq_nil_of_le hk] at h
  exact Option.some.inj h
theorem idxO_any' {α : Type} (p : α → Option Bool) : ∀ (l : List α) (j : Nat) (r : Bool), anyO p l = some r → ∃ i : Int, idxO p l j = some i ∧ decide (0 ≤ i) = r
  | [], _, r, h => ⟨-1, rfl, by simp [anyO] at h; subst h; rfl⟩
  | x :: xs, j, r, h => by
    simp only [anyO] at h
    obtain ⟨b, hb, h⟩ := Option.bind_eq_some_iff.mp h
    cases b with
    | true => exact ⟨j, by simp [idxO, hb], by simp at h; subst h; simp⟩
    | false =>
      obtain ⟨i, h1, h2⟩ := idxO_any' p xs (j + 1) r (by simpa using h)
      exact ⟨i, by simp only [idxO, hb, Option.bind_some]; rw [if_neg (by decide)]; exact h1, h2⟩
theorem idxO_any {α : Type} (p : α → Option Bool) (l : List α) (r : Bool) (h : anyO p l = some r) : ∃ i : Int, idxO p l 0 = some i ∧ decide (0 ≤ i) = r := idxO_any' p l 0 r h
theorem rdm_at {α : Type} (l : List α) (d : α) (k : Nat) (h : k < l.length) : l[k] = l.getD ((k : Int)).toNat d := by
  simp [List.getD_eq_getElem?_getD, List.getElem?_eq_getElem h]
theorem rdm_mem {α : Type} (l : List α) (d : α) (k : Nat) (h : k < l.length) : l.getD ((k : Int)).toNat d ∈ l := by
  rw [← rdm_at l d k h]; exact List.getElem_mem h
theorem anyO_some {α : Type} (p : α → Bool) : ∀ l : List α, anyO (fun x => some (p x)) l = some (l.any p)
  | [] => rfl
  | x :: xs => by simp only [anyO, Option.bind_some, List.any_cons]; cases p x <;> simp [anyO_some p xs]
theorem anyO_mono {α : Type} {p q : α → Option Bool} (h : ∀ x, LeO (p x) (q x)) : ∀ l : List α, LeO (anyO p l) (anyO q l)
  | [] => LeO.refl _
  | x :: xs => LeO.bind (h x) (fun b => LeO.ite (LeO.refl _) (anyO_mono h xs))
theorem idxO_mono {α : Type} {p q : α → Option Bool} (h : ∀ x, LeO (p x) (q x)) : ∀ (l : List α) (i : Int), LeO (idxO p l i) (idxO q l i)
  | [], _ => LeO.refl _
  | x :: xs, i => LeO.bind (h x) (fun b => LeO.ite (LeO.refl _) (idxO_mono h xs (i + 1)))
set_option maxHeartbeats 4000000 in
set_option maxRecDepth 100000 in
theorem idxf_167 (g : Nat) (lb : Array Value) (p : List (S40) → Option Bool) (A0 : Option Addr) (c0 : Nat) (l0 : List (List (S40))) (r : Int) (w : World) (hr0 : Kd.C (Kd.slice 40 k40) w A0 l0.length l0)
    (eg : ∀ args w, (callFunc g args).run Try.prog w = .ok (.enter g args) w)
    (hp : ∀ W x b Ax cx, x ∈ l0 → p x = some b → Below w.heap.size w W → Kd.C k40 W Ax x.length x → x.length ≤ cx → Calls Try.prog g (#[.slice Ax x.length cx] ++ lb) W fun e w' => e = .returned (.bool b) ∧ Below w.heap.size w w') (h : idxO p l0 0 = some r) :
    Calls Try.prog 167 #[.slice A0 l0.length c0, .func (.func g) #[] lb] w fun e w' => e = .returned (.int .i64 r) ∧ Below w.heap.size w w' := by
  have hbig := hr0.2.1
  have HR0 := Aside0.mk hr0
  clear hr0
  have h' := Aside0.mk h
  clear h
  go_enter Try.func167, Try.ntmps167
  go_wp2
  go_loopg [5, 8] l0.length (fun gg _ s8 wr => ∃ kk : Nat, kk ≤ l0.length ∧ l0.length - kk ≤ gg ∧ s8 = .int .i64 kk ∧ Aside0 (Below w.heap.size w wr) ∧ Aside0 (idxO p (l0.drop kk) kk = some r))
  case atStart => exact ⟨0, Nat.zero_le _, by omega, rfl, ⟨Below.refl _ w⟩, h'⟩
  case round =>
    obtain ⟨kk, hkk, hg, rfl, BW, H⟩ := hrel
    clear h'
    by_cases hlt : kk < l0.length
    · have hltz : (kk : Int) < (l0.length : Int) := by omega
      have l1 := at_L3 HR0.out (kk : Int) (by omega) hltz
      have hmem : rd_L3 l0 kk ∈ l0 := rdm_mem l0 _ kk hlt
      obtain ⟨ad, Ax_, cx_, rfl, l2_0, hl_, hi_⟩ := l1
      replace l2_0 := (BW.out.cell (World.block_lt_of_cell? w _ l2_0)).trans l2_0
      have H2 := idxO_at p l0 kk hlt H.out
      have hdef : l0[kk] = rd_L3 l0 kk := rdm_at l0 _ kk hlt
      rw [hdef] at H2
      clear H hdef
      obtain ⟨b, hb, H2⟩ := Option.bind_eq_some_iff.mp H2
      have hcall := hp wr (rd_L3 l0 kk) b Ax_ cx_ hmem hb BW.out (Kd.C_below hi_ BW.out) hl_
      clear hp hmem hb
      try simp only [Int.toNat_natCast] at l2_0
      cases b with
      | true =>
        have HZ := Aside0.mk (Option.some.inj ((if_pos rfl).symm.trans H2))
        clear H2
        go_wp2_with (go_at_fn g; refine hcall.mono ?_; rintro e w' ⟨rfl, hb'⟩)
        go_ret
        exact ⟨(by rw [← HZ.out]; rfl), hb'⟩
      | false =>
        have HZ := Aside0.mk ((if_neg (by decide)).symm.trans H2)
        clear H2
        go_wp2_with (go_at_fn g; refine hcall.mono ?_; rintro e w' ⟨rfl, hb'⟩)
        go_roundg (l0.length - (kk + 1))
        case measure => omega
        case rel => exact ⟨kk + 1, by omega, by omega, by go_num, ⟨hb'⟩, HZ⟩
    · have hltz : ¬ (kk : Int) < (l0.length : Int) := by omega
      have HZ := Aside0.mk (idxO_end p l0 kk (by omega) H.out)
      clear H
      go_wp2
      go_ret
      exact ⟨(by rw [← HZ.out]; rfl), BW.out⟩
set_option maxHeartbeats 4000000 in
set_option maxRecDepth 100000 in
theorem conf_125 (g : Nat) (lb : Array Value) (p : List (S40) → Option Bool) (A0 : Option Addr) (c0 : Nat) (l0 : List (List (S40))) (r : Bool) (w : World) (hr0 : Kd.C (Kd.slice 40 k40) w A0 l0.length l0)
    (eg : ∀ args w, (callFunc g args).run Try.prog w = .ok (.enter g args) w)
    (hp : ∀ W x b Ax cx, x ∈ l0 → p x = some b → Below w.heap.size w W → Kd.C k40 W Ax x.length x → x.length ≤ cx → Calls Try.prog g (#[.slice Ax x.length cx] ++ lb) W fun e w' => e = .returned (.bool b) ∧ Below w.heap.size w w') (h : anyO p l0 = some r) :
    Calls Try.prog 125 #[.slice A0 l0.length c0, .func (.func g) #[] lb] w fun e w' => e = .returned (.bool r) ∧ Below w.heap.size w w' := by
  obtain ⟨i, hi, rfl⟩ := idxO_any p l0 r h
  have hcall := idxf_167 g lb p A0 c0 l0 i w hr0 eg hp hi
  clear hp hr0 h hi
  go_enter Try.func125, Try.ntmps125
  go_wp2_with (go_at_call 167; refine hcall.mono ?_; rintro e w' ⟨rfl, hb'⟩)
  go_ret
  exact ⟨rfl, hb'⟩
def slices_ContainsFunc_at_impl_BestDrone_1.f (k : Nat) (l0 : List (List (S40))) : Option Bool := anyO (fun x => impl_BestDrone_1.f k x ) l0
theorem slices_ContainsFunc_at_impl_BestDrone_1.mono : ∀ a0 k, LeO (slices_ContainsFunc_at_impl_BestDrone_1.f k a0) (slices_ContainsFunc_at_impl_BestDrone_1.f (k + 1) a0) := fun a0 k => anyO_mono (fun x => impl_BestDrone_1.mono _ k) _
set_option maxHeartbeats 8000000 in
set_option maxRecDepth 100000 in
theorem slices_ContainsFunc_at_impl_BestDrone_1.calls (k : Nat) (A0 : Option Addr) (c0 : Nat) (l0 : List (List (S40))) (r : Bool) (w : World) (hr0 : Kd.C (Kd.slice 40 k40) w A0 l0.length l0) (hc0 : l0.length ≤ c0) (h : slices_ContainsFunc_at_impl_BestDrone_1.f k l0 = some r) :
    Calls Try.prog 125 #[.slice A0 l0.length c0, .func (.func 126) #[] #[]] w fun e w' => e = .returned (.bool r) ∧ Below w.heap.size w w' := by
  refine conf_125 126 #[] (fun x => impl_BestDrone_1.f k x ) A0 c0 l0 r w hr0 (enters_of Try.func126 (by kernel_rfl) rfl) (fun W x b Ax cx _ hb hW hC_ hL_ => ?_) h
  exact (impl_BestDrone_1.calls k Ax cx x  b W hC_ hL_  hb).mono (fun e w' h => ⟨h.1, hW.trans ((h.2).mono hW.size)⟩)

end Go.Proofs.Ytomeeimjlagbbaa.PD
