-- WRITTEN BY wip/gprint.py, a program of this session's over the kit's print, with contracts given by hand
import Derived.Test.YthimhjghepdccaaPNx0
import Derived.Test.YthimhjghepdccaaPNx4
import Derived.Test.YthimhjghepdccaaPNx8
import Derived.Test.YthimhjghepdccaaPNx9
import Derived.Test.YthimhjghepdccaaPNx16
namespace Go.Proofs.Ythimhjghepdccaa.PN
open Go.RowKit Go.Proofs.YthimhjghepdccaaW.PrintWords Go.Proofs.YthimhjghepdccaaW.PrintLast Go.Proofs.YthimhjghepdccaaW.PrintMore
attribute [local go_sem] max2_int min2_int max_two min_two max_three min_three max_four min_four   -- for this text's walks alone
set_option linter.unusedVariables false
set_option linter.unusedSimpArgs false

attribute [local go_sem] isSome_setCell
/-! ### laws_FnNested: function 13 -/
mutual
def laws_FnNested.j0 : Nat → Int → Int → Bool → ByteArray → List Int → List Int → Option (Bool)
  | 0, _, _, _, _, _, _ => none
  | k + 1, x8, x9, x76, x280000, x280001, x280002 => if x76 = true then (some false) else (laws_FnNested.l0 k x8 x9 0 0 x280000 x280001 x280002)
def laws_FnNested.l0 : Nat → Int → Int → Int → Int → ByteArray → List Int → List Int → Option (Bool)
  | 0, _, _, _, _, _, _, _ => none
  | k + 1, x8, x9, x15, x16, x280000, x280001, x280002 => if x16 < x9 then ((impl_CountNested.f k x280000 x280001 x280002 x8 x16 4 2 3).bind fun bt289 => (if bt289.2 = 0 then (if bt289.1 < 0 then (some false) else (laws_FnNested.l0 k x8 x9 (wrap64 (x15 + bt289.1)) (wrap64 (x16 + 1)) x280000 x280001 x280002)) else (some false))) else (some (x15 == 48))
end
def laws_FnNested.f (k : Nat) (l0 : List Int) (l1 : List Int) : Option (Bool) := (laws_r8Long.f l0 l1).bind fun t271 => (if t271 = true then (some true) else ((spec_R8Tala.f k l0).bind fun bt272 => ((spec_BeatCount.f k bt272.1 bt272.2.1 bt272.2.2).bind fun bt280 => ((laws_r8At.f l1 0 3).bind fun t282 => ((laws_r8At.f l1 1 30).bind fun t283 => ((laws_r8At.f l1 2 12).bind fun t284 => ((laws_r8At.f l1 3 20).bind fun t285 => ((impl_NestedStart.f k bt272.1 bt272.2.1 bt272.2.2 (wrap64 (1 + t282)) (wrap64 (1 + t283)) t284 t285).bind fun bt286 => (if bt286.2 = 0 then (if bt286.1 < 0 then (laws_FnNested.j0 k (wrap64 (1 + t282)) (wrap64 (bt280.1 * (wrap64 (1 + t282)))) true bt272.1 bt272.2.1 bt272.2.2) else (if bt286.1 ≥ (wrap64 (bt280.1 * (wrap64 (1 + t282)))) then (laws_FnNested.j0 k (wrap64 (1 + t282)) (wrap64 (bt280.1 * (wrap64 (1 + t282)))) true bt272.1 bt272.2.1 bt272.2.2) else ((spec_EndsOnSam.f k bt272.1 bt272.2.1 bt272.2.2 (wrap64 (1 + t282)) bt286.1 (wrap64 ((wrap64 ((wrap64 (9 * (wrap64 (1 + t283)))) + (wrap64 (6 * t284)))) + (wrap64 (2 * t285))))).bind fun t288 => (laws_FnNested.j0 k (wrap64 (1 + t282)) (wrap64 (bt280.1 * (wrap64 (1 + t282)))) (!t288) bt272.1 bt272.2.1 bt272.2.2)))) else (laws_FnNested.j0 k (wrap64 (1 + t282)) (wrap64 (bt280.1 * (wrap64 (1 + t282)))) true bt272.1 bt272.2.1 bt272.2.2))))))))))
theorem laws_FnNested.mono_l : ∀ k, (∀ y0 y1 y2 y3 y4 y5, LeO (laws_FnNested.j0 k y0 y1 y2 y3 y4 y5) (laws_FnNested.j0 (k + 1) y0 y1 y2 y3 y4 y5)) ∧ (∀ y0 y1 y2 y3 y4 y5 y6, LeO (laws_FnNested.l0 k y0 y1 y2 y3 y4 y5 y6) (laws_FnNested.l0 (k + 1) y0 y1 y2 y3 y4 y5 y6))
  | 0 => ⟨fun _ _ _ _ _ _ r h => by simp [laws_FnNested.j0] at h, fun _ _ _ _ _ _ _ r h => by simp [laws_FnNested.l0] at h⟩
  | k + 1 => by
    obtain ⟨ih0, ih1⟩ := laws_FnNested.mono_l k
    refine ⟨?_, ?_⟩
    · intro y0 y1 y2 y3 y4 y5
      unfold laws_FnNested.j0
      repeat' first
      | (with_reducible exact ih0 _ _ _ _ _ _)
      | (with_reducible exact ih1 _ _ _ _ _ _ _)
      | (with_reducible exact impl_CountNested.mono _ _ _ _ _ _ _ _ _)
      | (with_reducible exact impl_NestedStart.mono _ _ _ _ _ _ _ _)
      | (with_reducible exact spec_BeatCount.mono _ _ _ _)
      | (with_reducible exact spec_EndsOnSam.mono _ _ _ _ _ _ _)
      | (with_reducible exact spec_R8Tala.mono _ _)
      | (with_reducible exact LeO.refl _)
      | (with_reducible exact LeO.none _)
      | (with_reducible refine LeO.ite ?_ ?_)
      | (with_reducible refine LeO.bind ?_ (fun _ => ?_))
      | exact ih0 _ _ _ _ _ _
      | exact ih1 _ _ _ _ _ _ _
      | exact impl_CountNested.mono _ _ _ _ _ _ _ _ _
      | exact impl_NestedStart.mono _ _ _ _ _ _ _ _
      | exact spec_BeatCount.mono _ _ _ _
      | exact spec_EndsOnSam.mono _ _ _ _ _ _ _
      | exact spec_R8Tala.mono _ _
      | exact LeO.none _
      | refine LeO.ite ?_ ?_
      | refine LeO.bind ?_ (fun _ => ?_)
    · intro y0 y1 y2 y3 y4 y5 y6
      unfold laws_FnNested.l0
      repeat' first
      | (with_reducible exact ih0 _ _ _ _ _ _)
      | (with_reducible exact ih1 _ _ _ _ _ _ _)
      | (with_reducible exact impl_CountNested.mono _ _ _ _ _ _ _ _ _)
      | (with_reducible exact impl_NestedStart.mono _ _ _ _ _ _ _ _)
      | (with_reducible exact spec_BeatCount.mono _ _ _ _)
      | (with_reducible exact spec_EndsOnSam.mono _ _ _ _ _ _ _)
      | (with_reducible exact spec_R8Tala.mono _ _)
      | (with_reducible exact LeO.refl _)
      | (with_reducible exact LeO.none _)
      | (with_reducible refine LeO.ite ?_ ?_)
      | (with_reducible refine LeO.bind ?_ (fun _ => ?_))
      | exact ih0 _ _ _ _ _ _
      | exact ih1 _ _ _ _ _ _ _
      | exact impl_CountNested.mono _ _ _ _ _ _ _ _ _
      | exact impl_NestedStart.mono _ _ _ _ _ _ _ _
      | exact spec_BeatCount.mono _ _ _ _
      | exact spec_EndsOnSam.mono _ _ _ _ _ _ _
      | exact spec_R8Tala.mono _ _
      | exact LeO.none _
      | refine LeO.ite ?_ ?_
      | refine LeO.bind ?_ (fun _ => ?_)
theorem laws_FnNested.mono : ∀ a0 a1 k, LeO (laws_FnNested.f k a0 a1) (laws_FnNested.f (k + 1) a0 a1) := by
  intro a0 a1 k
  obtain ⟨ih0, ih1⟩ := laws_FnNested.mono_l k
  unfold laws_FnNested.f
  repeat' first
      | (with_reducible exact ih0 _ _ _ _ _ _)
      | (with_reducible exact ih1 _ _ _ _ _ _ _)
      | (with_reducible exact impl_CountNested.mono _ _ _ _ _ _ _ _ _)
      | (with_reducible exact impl_NestedStart.mono _ _ _ _ _ _ _ _)
      | (with_reducible exact spec_BeatCount.mono _ _ _ _)
      | (with_reducible exact spec_EndsOnSam.mono _ _ _ _ _ _ _)
      | (with_reducible exact spec_R8Tala.mono _ _)
      | (with_reducible exact LeO.refl _)
      | (with_reducible exact LeO.none _)
      | (with_reducible refine LeO.ite ?_ ?_)
      | (with_reducible refine LeO.bind ?_ (fun _ => ?_))
      | exact ih0 _ _ _ _ _ _
      | exact ih1 _ _ _ _ _ _ _
      | exact impl_CountNested.mono _ _ _ _ _ _ _ _ _
      | exact impl_NestedStart.mono _ _ _ _ _ _ _ _
      | exact spec_BeatCount.mono _ _ _ _
      | exact spec_EndsOnSam.mono _ _ _ _ _ _ _
      | exact spec_R8Tala.mono _ _
      | exact LeO.none _
      | refine LeO.ite ?_ ?_
      | refine LeO.bind ?_ (fun _ => ?_)
set_option maxHeartbeats 8000000 in
set_option maxRecDepth 100000 in
theorem laws_FnNested.calls (k : Nat) (A0 : Option Addr) (c0 : Nat) (l0 : List Int) (A1 : Option Addr) (c1 : Nat) (l1 : List Int) (r : Bool) (w : World) (hr0 : Kd.C (Kd.int .u8) w A0 l0.length l0) (hc0 : l0.length ≤ c0) (hr1 : Kd.C (Kd.int .u8) w A1 l1.length l1) (hc1 : l1.length ≤ c1) (h : laws_FnNested.f k l0 l1 = some r) :
    Calls Try.prog 13 #[.slice A0 l0.length c0, .slice A1 l1.length c1] w fun e w' => e = .returned (.bool r) ∧ Below w.heap.size w w' := by
  have hu27 := Try.underlying27
  have HR0 := Aside0.mk hr0
  have HC0 := Aside0.mk hc0
  clear hr0 hc0
  have HR1 := Aside0.mk hr1
  have HC1 := Aside0.mk hc1
  clear hr1 hc1
  have HB := Aside0.mk (Below.refl w.heap.size w)
  have H : ((laws_r8Long.f l0 l1).bind fun t271 => (if t271 = true then (some true) else ((spec_R8Tala.f k l0).bind fun bt272 => ((spec_BeatCount.f k bt272.1 bt272.2.1 bt272.2.2).bind fun bt280 => ((laws_r8At.f l1 0 3).bind fun t282 => ((laws_r8At.f l1 1 30).bind fun t283 => ((laws_r8At.f l1 2 12).bind fun t284 => ((laws_r8At.f l1 3 20).bind fun t285 => ((impl_NestedStart.f k bt272.1 bt272.2.1 bt272.2.2 (wrap64 (1 + t282)) (wrap64 (1 + t283)) t284 t285).bind fun bt286 => (if bt286.2 = 0 then (if bt286.1 < 0 then (laws_FnNested.j0 k (wrap64 (1 + t282)) (wrap64 (bt280.1 * (wrap64 (1 + t282)))) true bt272.1 bt272.2.1 bt272.2.2) else (if bt286.1 ≥ (wrap64 (bt280.1 * (wrap64 (1 + t282)))) then (laws_FnNested.j0 k (wrap64 (1 + t282)) (wrap64 (bt280.1 * (wrap64 (1 + t282)))) true bt272.1 bt272.2.1 bt272.2.2) else ((spec_EndsOnSam.f k bt272.1 bt272.2.1 bt272.2.2 (wrap64 (1 + t282)) bt286.1 (wrap64 ((wrap64 ((wrap64 (9 * (wrap64 (1 + t283)))) + (wrap64 (6 * t284)))) + (wrap64 (2 * t285))))).bind fun t288 => (laws_FnNested.j0 k (wrap64 (1 + t282)) (wrap64 (bt280.1 * (wrap64 (1 + t282)))) (!t288) bt272.1 bt272.2.1 bt272.2.2)))) else (laws_FnNested.j0 k (wrap64 (1 + t282)) (wrap64 (bt280.1 * (wrap64 (1 + t282)))) true bt272.1 bt272.2.1 bt272.2.2))))))))))) = some r := h
  clear h
  replace H := Option.bind_eq_some_iff.mp H
  obtain ⟨t271, A30, H⟩ := H
  replace H : (if t271 = true then (some true) else ((spec_R8Tala.f k l0).bind fun bt272 => ((spec_BeatCount.f k bt272.1 bt272.2.1 bt272.2.2).bind fun bt280 => ((laws_r8At.f l1 0 3).bind fun t282 => ((laws_r8At.f l1 1 30).bind fun t283 => ((laws_r8At.f l1 2 12).bind fun t284 => ((laws_r8At.f l1 3 20).bind fun t285 => ((impl_NestedStart.f k bt272.1 bt272.2.1 bt272.2.2 (wrap64 (1 + t282)) (wrap64 (1 + t283)) t284 t285).bind fun bt286 => (if bt286.2 = 0 then (if bt286.1 < 0 then (laws_FnNested.j0 k (wrap64 (1 + t282)) (wrap64 (bt280.1 * (wrap64 (1 + t282)))) true bt272.1 bt272.2.1 bt272.2.2) else (if bt286.1 ≥ (wrap64 (bt280.1 * (wrap64 (1 + t282)))) then (laws_FnNested.j0 k (wrap64 (1 + t282)) (wrap64 (bt280.1 * (wrap64 (1 + t282)))) true bt272.1 bt272.2.1 bt272.2.2) else ((spec_EndsOnSam.f k bt272.1 bt272.2.1 bt272.2.2 (wrap64 (1 + t282)) bt286.1 (wrap64 ((wrap64 ((wrap64 (9 * (wrap64 (1 + t283)))) + (wrap64 (6 * t284)))) + (wrap64 (2 * t285))))).bind fun t288 => (laws_FnNested.j0 k (wrap64 (1 + t282)) (wrap64 (bt280.1 * (wrap64 (1 + t282)))) (!t288) bt272.1 bt272.2.1 bt272.2.2)))) else (laws_FnNested.j0 k (wrap64 (1 + t282)) (wrap64 (bt280.1 * (wrap64 (1 + t282)))) true bt272.1 bt272.2.1 bt272.2.2)))))))))) = some r := H
  have A3 := Aside0.mk A30
  clear A30
  by_cases c4 : t271 = true
  · subst c4
    have H1 : (some true) = some r := by rw [if_pos rfl] at H; exact H
    clear H
    have H := H1
    clear H1
    obtain rfl := Option.some.inj H
    go_enter Try.func13, Try.ntmps13
    go_wp2_with (first | ((with_reducible refine gate_callee (f := 42) rfl ?_); refine goesL_ (some 21) rfl rfl Try.func42 (by kernel_rfl) rfl #[.slice A0 l0.length c0, .slice A1 l1.length c1] rfl (by (try simp only [List.map_toArray, List.map_cons, List.map_nil]); first | done | rfl | (simp only [List.length_drop, List.length_take]; rfl)) ?_; (with_reducible refine (laws_r8Long.calls _ _ l0 _ _ l1 true _ ?side1 ?side2 ?side3 ?side4 A3.out).mono ?_); (case side1 => repeat (first | exact HR0.out | (with_reducible refine Kd.C_alloc ?_ _) | (with_reducible refine Kd.C_drewN ?_ _) | (with_reducible refine Kd.C_drew ?_))); (case side2 => exact HC0.out); (case side3 => repeat (first | exact HR1.out | (with_reducible refine Kd.C_alloc ?_ _) | (with_reducible refine Kd.C_drewN ?_ _) | (with_reducible refine Kd.C_drew ?_))); (case side4 => exact HC1.out); rintro e w' ⟨rfl, ⟨nd, rfl⟩⟩; refine ⟨_, rfl, ?_⟩))
    go_ret
    exact ⟨by first | rfl | (simp [errW_none, errW_some] <;> rfl) | (simp [*, errW_none, errW_some] <;> rfl), by repeat (first | (with_reducible first | exact HB.out | apply below_alloc | apply pw_below_drewN | apply below_drew1) | exact HB.out)⟩
  · replace c4 := Bool.eq_false_iff.mpr c4
    subst c4
    have H1 : ((spec_R8Tala.f k l0).bind fun bt272 => ((spec_BeatCount.f k bt272.1 bt272.2.1 bt272.2.2).bind fun bt280 => ((laws_r8At.f l1 0 3).bind fun t282 => ((laws_r8At.f l1 1 30).bind fun t283 => ((laws_r8At.f l1 2 12).bind fun t284 => ((laws_r8At.f l1 3 20).bind fun t285 => ((impl_NestedStart.f k bt272.1 bt272.2.1 bt272.2.2 (wrap64 (1 + t282)) (wrap64 (1 + t283)) t284 t285).bind fun bt286 => (if bt286.2 = 0 then (if bt286.1 < 0 then (laws_FnNested.j0 k (wrap64 (1 + t282)) (wrap64 (bt280.1 * (wrap64 (1 + t282)))) true bt272.1 bt272.2.1 bt272.2.2) else (if bt286.1 ≥ (wrap64 (bt280.1 * (wrap64 (1 + t282)))) then (laws_FnNested.j0 k (wrap64 (1 + t282)) (wrap64 (bt280.1 * (wrap64 (1 + t282)))) true bt272.1 bt272.2.1 bt272.2.2) else ((spec_EndsOnSam.f k bt272.1 bt272.2.1 bt272.2.2 (wrap64 (1 + t282)) bt286.1 (wrap64 ((wrap64 ((wrap64 (9 * (wrap64 (1 + t283)))) + (wrap64 (6 * t284)))) + (wrap64 (2 * t285))))).bind fun t288 => (laws_FnNested.j0 k (wrap64 (1 + t282)) (wrap64 (bt280.1 * (wrap64 (1 + t282)))) (!t288) bt272.1 bt272.2.1 bt272.2.2)))) else (laws_FnNested.j0 k (wrap64 (1 + t282)) (wrap64 (bt280.1 * (wrap64 (1 + t282)))) true bt272.1 bt272.2.1 bt272.2.2))))))))) = some r := by rw [if_neg (show ¬ (false = true) by decide)] at H; exact H
    clear H
    have H := H1
    clear H1
    replace H := Option.bind_eq_some_iff.mp H
    obtain ⟨⟨t272, t273, t276⟩, A50, H⟩ := H
    replace H : ((spec_BeatCount.f k t272 t273 t276).bind fun bt280 => ((laws_r8At.f l1 0 3).bind fun t282 => ((laws_r8At.f l1 1 30).bind fun t283 => ((laws_r8At.f l1 2 12).bind fun t284 => ((laws_r8At.f l1 3 20).bind fun t285 => ((impl_NestedStart.f k t272 t273 t276 (wrap64 (1 + t282)) (wrap64 (1 + t283)) t284 t285).bind fun bt286 => (if bt286.2 = 0 then (if bt286.1 < 0 then (laws_FnNested.j0 k (wrap64 (1 + t282)) (wrap64 (bt280.1 * (wrap64 (1 + t282)))) true t272 t273 t276) else (if bt286.1 ≥ (wrap64 (bt280.1 * (wrap64 (1 + t282)))) then (laws_FnNested.j0 k (wrap64 (1 + t282)) (wrap64 (bt280.1 * (wrap64 (1 + t282)))) true t272 t273 t276) else ((spec_EndsOnSam.f k t272 t273 t276 (wrap64 (1 + t282)) bt286.1 (wrap64 ((wrap64 ((wrap64 (9 * (wrap64 (1 + t283)))) + (wrap64 (6 * t284)))) + (wrap64 (2 * t285))))).bind fun t288 => (laws_FnNested.j0 k (wrap64 (1 + t282)) (wrap64 (bt280.1 * (wrap64 (1 + t282)))) (!t288) t272 t273 t276)))) else (laws_FnNested.j0 k (wrap64 (1 + t282)) (wrap64 (bt280.1 * (wrap64 (1 + t282)))) true t272 t273 t276)))))))) = some r := H
    have A5 := Aside0.mk A50
    clear A50
    replace H := Option.bind_eq_some_iff.mp H
    obtain ⟨⟨t280, t281⟩, A60, H⟩ := H
    replace H : ((laws_r8At.f l1 0 3).bind fun t282 => ((laws_r8At.f l1 1 30).bind fun t283 => ((laws_r8At.f l1 2 12).bind fun t284 => ((laws_r8At.f l1 3 20).bind fun t285 => ((impl_NestedStart.f k t272 t273 t276 (wrap64 (1 + t282)) (wrap64 (1 + t283)) t284 t285).bind fun bt286 => (if bt286.2 = 0 then (if bt286.1 < 0 then (laws_FnNested.j0 k (wrap64 (1 + t282)) (wrap64 (t280 * (wrap64 (1 + t282)))) true t272 t273 t276) else (if bt286.1 ≥ (wrap64 (t280 * (wrap64 (1 + t282)))) then (laws_FnNested.j0 k (wrap64 (1 + t282)) (wrap64 (t280 * (wrap64 (1 + t282)))) true t272 t273 t276) else ((spec_EndsOnSam.f k t272 t273 t276 (wrap64 (1 + t282)) bt286.1 (wrap64 ((wrap64 ((wrap64 (9 * (wrap64 (1 + t283)))) + (wrap64 (6 * t284)))) + (wrap64 (2 * t285))))).bind fun t288 => (laws_FnNested.j0 k (wrap64 (1 + t282)) (wrap64 (t280 * (wrap64 (1 + t282)))) (!t288) t272 t273 t276)))) else (laws_FnNested.j0 k (wrap64 (1 + t282)) (wrap64 (t280 * (wrap64 (1 + t282)))) true t272 t273 t276))))))) = some r := H
    have A6 := Aside0.mk A60
    clear A60
    replace H := Option.bind_eq_some_iff.mp H
    obtain ⟨t282, A70, H⟩ := H
    replace H : ((laws_r8At.f l1 1 30).bind fun t283 => ((laws_r8At.f l1 2 12).bind fun t284 => ((laws_r8At.f l1 3 20).bind fun t285 => ((impl_NestedStart.f k t272 t273 t276 (wrap64 (1 + t282)) (wrap64 (1 + t283)) t284 t285).bind fun bt286 => (if bt286.2 = 0 then (if bt286.1 < 0 then (laws_FnNested.j0 k (wrap64 (1 + t282)) (wrap64 (t280 * (wrap64 (1 + t282)))) true t272 t273 t276) else (if bt286.1 ≥ (wrap64 (t280 * (wrap64 (1 + t282)))) then (laws_FnNested.j0 k (wrap64 (1 + t282)) (wrap64 (t280 * (wrap64 (1 + t282)))) true t272 t273 t276) else ((spec_EndsOnSam.f k t272 t273 t276 (wrap64 (1 + t282)) bt286.1 (wrap64 ((wrap64 ((wrap64 (9 * (wrap64 (1 + t283)))) + (wrap64 (6 * t284)))) + (wrap64 (2 * t285))))).bind fun t288 => (laws_FnNested.j0 k (wrap64 (1 + t282)) (wrap64 (t280 * (wrap64 (1 + t282)))) (!t288) t272 t273 t276)))) else (laws_FnNested.j0 k (wrap64 (1 + t282)) (wrap64 (t280 * (wrap64 (1 + t282)))) true t272 t273 t276)))))) = some r := H
    have A7 := Aside0.mk A70
    clear A70
    replace H := Option.bind_eq_some_iff.mp H
    obtain ⟨t283, A80, H⟩ := H
    replace H : ((laws_r8At.f l1 2 12).bind fun t284 => ((laws_r8At.f l1 3 20).bind fun t285 => ((impl_NestedStart.f k t272 t273 t276 (wrap64 (1 + t282)) (wrap64 (1 + t283)) t284 t285).bind fun bt286 => (if bt286.2 = 0 then (if bt286.1 < 0 then (laws_FnNested.j0 k (wrap64 (1 + t282)) (wrap64 (t280 * (wrap64 (1 + t282)))) true t272 t273 t276) else (if bt286.1 ≥ (wrap64 (t280 * (wrap64 (1 + t282)))) then (laws_FnNested.j0 k (wrap64 (1 + t282)) (wrap64 (t280 * (wrap64 (1 + t282)))) true t272 t273 t276) else ((spec_EndsOnSam.f k t272 t273 t276 (wrap64 (1 + t282)) bt286.1 (wrap64 ((wrap64 ((wrap64 (9 * (wrap64 (1 + t283)))) + (wrap64 (6 * t284)))) + (wrap64 (2 * t285))))).bind fun t288 => (laws_FnNested.j0 k (wrap64 (1 + t282)) (wrap64 (t280 * (wrap64 (1 + t282)))) (!t288) t272 t273 t276)))) else (laws_FnNested.j0 k (wrap64 (1 + t282)) (wrap64 (t280 * (wrap64 (1 + t282)))) true t272 t273 t276))))) = some r := H
    have A8 := Aside0.mk A80
    clear A80
    replace H := Option.bind_eq_some_iff.mp H
    obtain ⟨t284, A90, H⟩ := H
    replace H : ((laws_r8At.f l1 3 20).bind fun t285 => ((impl_NestedStart.f k t272 t273 t276 (wrap64 (1 + t282)) (wrap64 (1 + t283)) t284 t285).bind fun bt286 => (if bt286.2 = 0 then (if bt286.1 < 0 then (laws_FnNested.j0 k (wrap64 (1 + t282)) (wrap64 (t280 * (wrap64 (1 + t282)))) true t272 t273 t276) else (if bt286.1 ≥ (wrap64 (t280 * (wrap64 (1 + t282)))) then (laws_FnNested.j0 k (wrap64 (1 + t282)) (wrap64 (t280 * (wrap64 (1 + t282)))) true t272 t273 t276) else ((spec_EndsOnSam.f k t272 t273 t276 (wrap64 (1 + t282)) bt286.1 (wrap64 ((wrap64 ((wrap64 (9 * (wrap64 (1 + t283)))) + (wrap64 (6 * t284)))) + (wrap64 (2 * t285))))).bind fun t288 => (laws_FnNested.j0 k (wrap64 (1 + t282)) (wrap64 (t280 * (wrap64 (1 + t282)))) (!t288) t272 t273 t276)))) else (laws_FnNested.j0 k (wrap64 (1 + t282)) (wrap64 (t280 * (wrap64 (1 + t282)))) true t272 t273 t276)))) = some r := H
    have A9 := Aside0.mk A90
    clear A90
    replace H := Option.bind_eq_some_iff.mp H
    obtain ⟨t285, A100, H⟩ := H
    replace H : ((impl_NestedStart.f k t272 t273 t276 (wrap64 (1 + t282)) (wrap64 (1 + t283)) t284 t285).bind fun bt286 => (if bt286.2 = 0 then (if bt286.1 < 0 then (laws_FnNested.j0 k (wrap64 (1 + t282)) (wrap64 (t280 * (wrap64 (1 + t282)))) true t272 t273 t276) else (if bt286.1 ≥ (wrap64 (t280 * (wrap64 (1 + t282)))) then (laws_FnNested.j0 k (wrap64 (1 + t282)) (wrap64 (t280 * (wrap64 (1 + t282)))) true t272 t273 t276) else ((spec_EndsOnSam.f k t272 t273 t276 (wrap64 (1 + t282)) bt286.1 (wrap64 ((wrap64 ((wrap64 (9 * (wrap64 (1 + t283)))) + (wrap64 (6 * t284)))) + (wrap64 (2 * t285))))).bind fun t288 => (laws_FnNested.j0 k (wrap64 (1 + t282)) (wrap64 (t280 * (wrap64 (1 + t282)))) (!t288) t272 t273 t276)))) else (laws_FnNested.j0 k (wrap64 (1 + t282)) (wrap64 (t280 * (wrap64 (1 + t282)))) true t272 t273 t276))) = some r := H
    have A10 := Aside0.mk A100
    clear A100
    replace H := Option.bind_eq_some_iff.mp H
    obtain ⟨⟨t286, t287⟩, A110, H⟩ := H
    replace H : (if t287 = 0 then (if t286 < 0 then (laws_FnNested.j0 k (wrap64 (1 + t282)) (wrap64 (t280 * (wrap64 (1 + t282)))) true t272 t273 t276) else (if t286 ≥ (wrap64 (t280 * (wrap64 (1 + t282)))) then (laws_FnNested.j0 k (wrap64 (1 + t282)) (wrap64 (t280 * (wrap64 (1 + t282)))) true t272 t273 t276) else ((spec_EndsOnSam.f k t272 t273 t276 (wrap64 (1 + t282)) t286 (wrap64 ((wrap64 ((wrap64 (9 * (wrap64 (1 + t283)))) + (wrap64 (6 * t284)))) + (wrap64 (2 * t285))))).bind fun t288 => (laws_FnNested.j0 k (wrap64 (1 + t282)) (wrap64 (t280 * (wrap64 (1 + t282)))) (!t288) t272 t273 t276)))) else (laws_FnNested.j0 k (wrap64 (1 + t282)) (wrap64 (t280 * (wrap64 (1 + t282)))) true t272 t273 t276)) = some r := H
    have A11 := Aside0.mk A110
    clear A110
    have HC12 := Aside0.mk H
    clear H
    go_enter Try.func13, Try.ntmps13
    go_upto_region 11 with (first | ((with_reducible refine gate_callee (f := 42) rfl ?_); refine goesL_ (some 21) rfl rfl Try.func42 (by kernel_rfl) rfl #[.slice A0 l0.length c0, .slice A1 l1.length c1] rfl (by (try simp only [List.map_toArray, List.map_cons, List.map_nil]); first | done | rfl | (simp only [List.length_drop, List.length_take]; rfl)) ?_; (with_reducible refine (laws_r8Long.calls _ _ l0 _ _ l1 false _ ?side1 ?side2 ?side3 ?side4 A3.out).mono ?_); (case side1 => repeat (first | exact HR0.out | (with_reducible refine Kd.C_alloc ?_ _) | (with_reducible refine Kd.C_drewN ?_ _) | (with_reducible refine Kd.C_drew ?_))); (case side2 => exact HC0.out); (case side3 => repeat (first | exact HR1.out | (with_reducible refine Kd.C_alloc ?_ _) | (with_reducible refine Kd.C_drewN ?_ _) | (with_reducible refine Kd.C_drew ?_))); (case side4 => exact HC1.out); rintro e w' ⟨rfl, ⟨nd, rfl⟩⟩; refine ⟨_, rfl, ?_⟩) | ((with_reducible refine gate_callee (f := 43) rfl ?_); refine goesL_ (some 23) rfl rfl Try.func43 (by kernel_rfl) rfl #[.slice A0 l0.length c0] rfl (by (try simp only [List.map_toArray, List.map_cons, List.map_nil]); first | done | rfl | (simp only [List.length_drop, List.length_take]; rfl)) ?_; (with_reducible refine (spec_R8Tala.calls k _ _ l0 t272 t273 t276 _ ?side1 ?side2 A5.out).mono ?_); (case side1 => repeat (first | exact HR0.out | (with_reducible refine Kd.C_alloc ?_ _) | (with_reducible refine Kd.C_drewN ?_ _) | (with_reducible refine Kd.C_drew ?_))); (case side2 => exact HC0.out); rintro e w13 ⟨v274, v277, rfl, ho0, ho1, hb⟩; refine ⟨_, rfl, ?_⟩; have n0_ := Aside0.mk (Kd.R_lower ho0 (below_size (by repeat (first | (with_reducible first | exact HB.out | apply below_alloc | apply pw_below_drewN | apply below_drew1) | exact HB.out)))); have n1_ := Aside0.mk (Kd.R_lower ho1 (below_size (by repeat (first | (with_reducible first | exact HB.out | apply below_alloc | apply pw_below_drewN | apply below_drew1) | exact HB.out)))); have n2_ := Aside0.mk (below_step (by repeat (first | (with_reducible first | exact HB.out | apply below_alloc | apply pw_below_drewN | apply below_drew1) | exact HB.out)) hb); clear HB; have HO275 := n0_; have HO278 := n1_; have HB := n2_; clear n0_ n1_ n2_; (try clear hb); (try clear hb2); (try clear hk); (try clear hi); (try clear ho0); (try clear ho1)) | ((with_reducible refine gate_dst (N := 5) rfl ?_); refine box_event ?hg (N := 5) ?hd (cs := #[.string (⟨#[]⟩ : ByteArray), .slice none 0 0, .slice none 0 0]) (t := 27) ?hr ?_; (case hd => rfl); (case hg => rfl); (case hr => first | (go_simp; done) | (go_simp; rfl)); intro gb279 hg w14 hbox hb; have n0_ := Aside0.mk (Kd.R_below (by (with_reducible repeat (first | apply Kd.R_alloc | apply Kd.R_drewN | apply Kd.R_drew)); exact HO275.out) hb); have n1_ := Aside0.mk (Kd.R_below (by (with_reducible repeat (first | apply Kd.R_alloc | apply Kd.R_drewN | apply Kd.R_drew)); exact HO278.out) hb); have n2_ := Aside0.mk (below_step (by repeat (first | (with_reducible first | exact HB.out | apply below_alloc | apply pw_below_drewN | apply below_drew1) | exact HB.out)) hb); have n3_ := Aside0.mk (hbox); have n4_ := Aside0.mk ((by rw [hg]; exact (below_size (by repeat (first | (with_reducible first | exact HB.out | apply below_alloc | apply pw_below_drewN | apply below_drew1) | exact HB.out))) : w.heap.size ≤ gb279)); have n5_ := Aside0.mk ((by rw [hg]; exact (below_size (by repeat (first | (with_reducible first | exact HB.out | apply below_alloc | apply pw_below_drewN | apply below_drew1) | exact HB.out))) : w.heap.size ≤ gb279)); clear HO275; clear HO278; clear HB; have HO275 := n0_; have HO278 := n1_; have HB := n2_; have BK279 := n3_; have GW279 := n4_; have GE279 := n5_; clear n0_ n1_ n2_ n3_ n4_ n5_; clear hb hbox hg; have hcz15_0 : w14.cell? ⟨gb279, 0, none⟩ = some (.string (⟨#[]⟩ : ByteArray)) := (blk_cell BK279.out 0).trans rfl; have hcz15_1 : w14.cell? ⟨gb279, 1, none⟩ = some (.slice none 0 0) := (blk_cell BK279.out 1).trans rfl; have hcz15_2 : w14.cell? ⟨gb279, 2, none⟩ = some (.slice none 0 0) := (blk_cell BK279.out 2).trans rfl; have hfz15_0 := blk_frozen BK279.out 0; have hfz15_1 := blk_frozen BK279.out 1; have hfz15_2 := blk_frozen BK279.out 2; obtain ⟨Ao16, co16, eo16⟩ := Kd.R_slice HO275.out; subst eo16; obtain ⟨Ao17, co17, eo17⟩ := Kd.R_slice HO278.out; subst eo17) | ((with_reducible refine gate_callee (f := 44) rfl ?_); refine goesL_ (some 26) rfl rfl Try.func44 (by kernel_rfl) rfl #[.agg #[.string t272, .slice Ao16 t273.length co16, .slice Ao17 t276.length co17]] rfl (by (try simp only [List.map_toArray, List.map_cons, List.map_nil]); first | done | rfl | (simp only [List.length_drop, List.length_take]; rfl)) ?_; (with_reducible refine (spec_BeatCount.calls k t272 _ _ t273 _ _ t276 t280 t281 _ ?side1 ?side2 ?side3 ?side4 A6.out).mono ?_); (case side1 => refine (Kd.R_reads' (e := 2) (base := w.heap.size) (ok := fun k_ => some k_ ≠ (.slice Ao17 t276.length co17 : Value).ownBlock) (n := t273.length) (c := co16) ?_).2.2; exact (by (with_reducible repeat (first | apply Kd.R_alloc | apply Kd.R_drewN | apply Kd.R_drew)); exact (Kd.R_mono (Kd.R_far (p := ⟨gb279, 2, none⟩) (Kd.R_far (p := ⟨gb279, 1, none⟩) (Kd.R_far (p := ⟨gb279, 0, none⟩) (Kd.R_types HO275.out BK279.out (by decide)) (fun _ hk => hk.2) (.string t272)) (fun _ hk => hk.2) (.slice Ao16 t273.length co16)) (fun _ hk => hk.2) (.slice Ao17 t276.length co17)) (fun _ h_ => h_.1)))); (case side2 => exact (Kd.R_reads' HO275.out).2.1); (case side3 => refine (Kd.R_reads' (e := 2) (base := w.heap.size) (ok := fun k_ => some k_ ≠ (.slice Ao16 t273.length co16 : Value).ownBlock) (n := t276.length) (c := co17) ?_).2.2; exact (by (with_reducible repeat (first | apply Kd.R_alloc | apply Kd.R_drewN | apply Kd.R_drew)); exact (Kd.R_mono (Kd.R_far (p := ⟨gb279, 2, none⟩) (Kd.R_far (p := ⟨gb279, 1, none⟩) (Kd.R_far (p := ⟨gb279, 0, none⟩) (Kd.R_types HO278.out BK279.out (by decide)) (fun _ hk => hk.2) (.string t272)) (fun _ hk => hk.2) (.slice Ao16 t273.length co16)) (fun _ hk => hk.2) (.slice Ao17 t276.length co17)) (fun _ h_ => h_.1)))); (case side4 => exact (Kd.R_reads' HO278.out).2.1); rintro e w18 ⟨rfl, hb⟩; refine ⟨_, rfl, ?_⟩; have n0_ := Aside0.mk (Kd.R_below (by (with_reducible repeat (first | apply Kd.R_alloc | apply Kd.R_drewN | apply Kd.R_drew)); exact (Kd.R_mono (Kd.R_far (p := ⟨gb279, 2, none⟩) (Kd.R_far (p := ⟨gb279, 1, none⟩) (Kd.R_far (p := ⟨gb279, 0, none⟩) (Kd.R_types HO275.out BK279.out (by decide)) (fun _ hk => hk.2) (.string t272)) (fun _ hk => hk.2) (.slice Ao16 t273.length co16)) (fun _ hk => hk.2) (.slice Ao17 t276.length co17)) (fun _ h_ => h_.1))) hb); have n1_ := Aside0.mk (Kd.R_below (by (with_reducible repeat (first | apply Kd.R_alloc | apply Kd.R_drewN | apply Kd.R_drew)); exact (Kd.R_mono (Kd.R_far (p := ⟨gb279, 2, none⟩) (Kd.R_far (p := ⟨gb279, 1, none⟩) (Kd.R_far (p := ⟨gb279, 0, none⟩) (Kd.R_types HO278.out BK279.out (by decide)) (fun _ hk => hk.2) (.string t272)) (fun _ hk => hk.2) (.slice Ao16 t273.length co16)) (fun _ hk => hk.2) (.slice Ao17 t276.length co17)) (fun _ h_ => h_.1))) hb); have n2_ := Aside0.mk (blk_below (g := gb279) (o := .cells #[.string t272, .slice Ao16 t273.length co16, .slice Ao17 t276.length co17] 27 (0, 0)) (by (with_reducible repeat (first | refine blk_drewN ?_ _ | refine blk_drew ?_ | refine blk_alloc ?_ _)); refine blk_put (cs := #[.string t272, .slice Ao16 t273.length co16, .slice none 0 0]) ?_ 2 _ rfl; (with_reducible repeat (first | refine blk_drewN ?_ _ | refine blk_drew ?_ | refine blk_alloc ?_ _)); refine blk_put (cs := #[.string t272, .slice none 0 0, .slice none 0 0]) ?_ 1 _ rfl; (with_reducible repeat (first | refine blk_drewN ?_ _ | refine blk_drew ?_ | refine blk_alloc ?_ _)); refine blk_put (cs := #[.string (⟨#[]⟩ : ByteArray), .slice none 0 0, .slice none 0 0]) ?_ 0 _ rfl; (with_reducible repeat (first | refine blk_drewN ?_ _ | refine blk_drew ?_ | refine blk_alloc ?_ _)); exact BK279.out) hb); have n3_ := Aside0.mk (below_step (by repeat (first | (with_reducible first | exact HB.out | apply below_alloc | apply pw_below_drewN | apply below_drew1 | refine below_set ?_ GE279.out) | exact HB.out)) hb); clear HO275; clear HO278; clear BK279; clear HB; have HO275 := n0_; have HO278 := n1_; have BK279 := n2_; have HB := n3_; clear n0_ n1_ n2_ n3_; (try clear hb); (try clear hb2); (try clear hk); (try clear hi)) | ((with_reducible refine gate_callee (f := 45) rfl ?_); refine goesL_ (some 30) rfl rfl Try.func45 (by kernel_rfl) rfl #[.slice A1 l1.length c1, .int .i64 0, .int .i64 3] rfl (by (try simp only [List.map_toArray, List.map_cons, List.map_nil]); first | done | rfl | (simp only [List.length_drop, List.length_take]; rfl)) ?_; (with_reducible refine (laws_r8At.calls _ _ l1 0 3 t282 _ ?side1 ?side2 A7.out).mono ?_); (case side1 => repeat (first | exact (Kd.C_below HR1.out HB.out) | (with_reducible refine Kd.C_alloc ?_ _) | (with_reducible refine Kd.C_drewN ?_ _) | (with_reducible refine Kd.C_drew ?_))); (case side2 => exact HC1.out); rintro e w' ⟨rfl, ⟨nd, rfl⟩⟩; refine ⟨_, rfl, ?_⟩) | ((with_reducible refine gate_callee (f := 45) rfl ?_); refine goesL_ (some 36) rfl rfl Try.func45 (by kernel_rfl) rfl #[.slice A1 l1.length c1, .int .i64 1, .int .i64 30] rfl (by (try simp only [List.map_toArray, List.map_cons, List.map_nil]); first | done | rfl | (simp only [List.length_drop, List.length_take]; rfl)) ?_; (with_reducible refine (laws_r8At.calls _ _ l1 1 30 t283 _ ?side1 ?side2 A8.out).mono ?_); (case side1 => repeat (first | exact (Kd.C_below HR1.out (by repeat (first | (with_reducible first | exact HB.out | apply below_alloc | apply pw_below_drewN | apply below_drew1 | refine below_set ?_ GE279.out) | exact HB.out))) | (with_reducible refine Kd.C_alloc ?_ _) | (with_reducible refine Kd.C_drewN ?_ _) | (with_reducible refine Kd.C_drew ?_))); (case side2 => exact HC1.out); rintro e w' ⟨rfl, ⟨nd, rfl⟩⟩; refine ⟨_, rfl, ?_⟩) | ((with_reducible refine gate_callee (f := 45) rfl ?_); refine goesL_ (some 39) rfl rfl Try.func45 (by kernel_rfl) rfl #[.slice A1 l1.length c1, .int .i64 2, .int .i64 12] rfl (by (try simp only [List.map_toArray, List.map_cons, List.map_nil]); first | done | rfl | (simp only [List.length_drop, List.length_take]; rfl)) ?_; (with_reducible refine (laws_r8At.calls _ _ l1 2 12 t284 _ ?side1 ?side2 A9.out).mono ?_); (case side1 => repeat (first | exact (Kd.C_below HR1.out (by repeat (first | (with_reducible first | exact HB.out | apply below_alloc | apply pw_below_drewN | apply below_drew1 | refine below_set ?_ GE279.out) | exact HB.out))) | (with_reducible refine Kd.C_alloc ?_ _) | (with_reducible refine Kd.C_drewN ?_ _) | (with_reducible refine Kd.C_drew ?_))); (case side2 => exact HC1.out); rintro e w' ⟨rfl, ⟨nd, rfl⟩⟩; refine ⟨_, rfl, ?_⟩) | ((with_reducible refine gate_callee (f := 45) rfl ?_); refine goesL_ (some 41) rfl rfl Try.func45 (by kernel_rfl) rfl #[.slice A1 l1.length c1, .int .i64 3, .int .i64 20] rfl (by (try simp only [List.map_toArray, List.map_cons, List.map_nil]); first | done | rfl | (simp only [List.length_drop, List.length_take]; rfl)) ?_; (with_reducible refine (laws_r8At.calls _ _ l1 3 20 t285 _ ?side1 ?side2 A10.out).mono ?_); (case side1 => repeat (first | exact (Kd.C_below HR1.out (by repeat (first | (with_reducible first | exact HB.out | apply below_alloc | apply pw_below_drewN | apply below_drew1 | refine below_set ?_ GE279.out) | exact HB.out))) | (with_reducible refine Kd.C_alloc ?_ _) | (with_reducible refine Kd.C_drewN ?_ _) | (with_reducible refine Kd.C_drew ?_))); (case side2 => exact HC1.out); rintro e w' ⟨rfl, ⟨nd, rfl⟩⟩; refine ⟨_, rfl, ?_⟩; have hcz19_0 : w18.cell? ⟨gb279, 0, none⟩ = some (.string t272) := (blk_cell BK279.out 0).trans rfl; have hcz19_1 : w18.cell? ⟨gb279, 1, none⟩ = some (.slice Ao16 t273.length co16) := (blk_cell BK279.out 1).trans rfl; have hcz19_2 : w18.cell? ⟨gb279, 2, none⟩ = some (.slice Ao17 t276.length co17) := (blk_cell BK279.out 2).trans rfl; have hfz19_0 := blk_frozen BK279.out 0; have hfz19_1 := blk_frozen BK279.out 1; have hfz19_2 := blk_frozen BK279.out 2) | ((with_reducible refine gate_callee (f := 25) rfl ?_); refine goesL_ (some 48) rfl rfl Try.func25 (by kernel_rfl) rfl #[.agg #[.string t272, .slice Ao16 t273.length co16, .slice Ao17 t276.length co17], .int .i64 (wrap64 (1 + t282)), .int .i64 (wrap64 (1 + t283)), .int .i64 t284, .int .i64 t285] rfl (by (try simp only [List.map_toArray, List.map_cons, List.map_nil]); first | done | rfl | (simp only [List.length_drop, List.length_take]; rfl)) ?_; (with_reducible refine (impl_NestedStart.calls k t272 _ _ t273 _ _ t276 (wrap64 (1 + t282)) (wrap64 (1 + t283)) t284 t285 t286 t287 _ ?side1 ?side2 ?side3 ?side4 A11.out).mono ?_); (case side1 => repeat (first | exact (Kd.R_reads' HO275.out).2.2 | (with_reducible refine Kd.C_alloc ?_ _) | (with_reducible refine Kd.C_drewN ?_ _) | (with_reducible refine Kd.C_drew ?_))); (case side2 => exact (Kd.R_reads' HO275.out).2.1); (case side3 => repeat (first | exact (Kd.R_reads' HO278.out).2.2 | (with_reducible refine Kd.C_alloc ?_ _) | (with_reducible refine Kd.C_drewN ?_ _) | (with_reducible refine Kd.C_drew ?_))); (case side4 => exact (Kd.R_reads' HO278.out).2.1); rintro e w20 ⟨rfl, hb⟩; refine ⟨_, rfl, ?_⟩; have n0_ := Aside0.mk (Kd.R_below (by (with_reducible repeat (first | apply Kd.R_alloc | apply Kd.R_drewN | apply Kd.R_drew)); exact HO275.out) hb); have n1_ := Aside0.mk (Kd.R_below (by (with_reducible repeat (first | apply Kd.R_alloc | apply Kd.R_drewN | apply Kd.R_drew)); exact HO278.out) hb); have n2_ := Aside0.mk (blk_below (g := gb279) (o := .cells #[.string t272, .slice Ao16 t273.length co16, .slice Ao17 t276.length co17] 27 (0, 0)) (by (with_reducible repeat (first | refine blk_drewN ?_ _ | refine blk_drew ?_ | refine blk_alloc ?_ _)); exact BK279.out) hb); have n3_ := Aside0.mk (below_step (by repeat (first | (with_reducible first | exact HB.out | apply below_alloc | apply pw_below_drewN | apply below_drew1 | refine below_set ?_ GE279.out) | exact HB.out)) hb); clear HO275; clear HO278; clear BK279; clear HB; have HO275 := n0_; have HO278 := n1_; have BK279 := n2_; have HB := n3_; clear n0_ n1_ n2_ n3_; (try clear hb); (try clear hb2); (try clear hk); (try clear hi)))
    (try simp only [Act.put, List.setIfInBounds_toArray, List.set_cons_zero, List.set_cons_succ])
    go_cut [76] (fun v76 wc => ∃ (kq : Nat) (x76_11 : Bool), v76 = .bool x76_11 ∧ Aside0 (laws_FnNested.j0 kq (wrap64 (1 + t282)) (wrap64 (t280 * (wrap64 (1 + t282)))) x76_11 t272 t273 t276 = some r) ∧ Aside0 (kq ≤ k) ∧ Aside0 (Kd.R (Kd.int .i64) 2 wc w.heap.size (fun k_ => some k_ ≠ ((.slice Ao17 t276.length co17) : Value).ownBlock) (.slice Ao16 t273.length co16) t273) ∧ Aside0 (Kd.R (Kd.int .i64) 2 wc w.heap.size (fun k_ => some k_ ≠ ((.slice Ao16 t273.length co16) : Value).ownBlock) (.slice Ao17 t276.length co17) t276) ∧ Aside0 (wc.heap[gb279]? = some (.cells #[.string t272, (.slice Ao16 t273.length co16), (.slice Ao17 t276.length co17)] 27 (0, 0))) ∧ Aside0 (Below w.heap.size w wc))
    case first =>
      have H := HC12.out
      clear HC12
      by_cases c21 : t287 = 0
      · rw [if_pos c21] at H
        have c21b0 : (t287 == 0) = true := beq_iff_eq.mpr c21
        have c21b1 : (t287 != 0) = false := bne_eq_false_iff_eq.mpr c21
        clear c21
        (first | rw [c21b0] | (simp only [i64_w, i32_w]; rw [c21b0]) | skip)
        by_cases c22 : t286 < 0
        · rw [if_pos c22] at H
          have c22b0 : decide (t286 < 0) = true := decide_eq_true c22
          clear c22
          have H' := Aside0.mk H
          clear H
          go_wp2
          go_meet
          case rel => exact ⟨_, (true), (by first | rfl | (simp; done) | (simp [*]; done)), H', ⟨by first | omega | exact Nat.le_refl _⟩, ⟨by (with_reducible repeat (first | apply Kd.R_alloc | apply Kd.R_drewN | apply Kd.R_drew)); exact HO275.out⟩, ⟨by (with_reducible repeat (first | apply Kd.R_alloc | apply Kd.R_drewN | apply Kd.R_drew)); exact HO278.out⟩, ⟨by (with_reducible repeat (first | refine blk_drewN ?_ _ | refine blk_drew ?_ | refine blk_alloc ?_ _)); exact BK279.out⟩, ⟨by repeat (first | (with_reducible first | exact HB.out | apply below_alloc | apply pw_below_drewN | apply below_drew1 | refine below_set ?_ GE279.out) | exact HB.out)⟩⟩
        · rw [if_neg c22] at H
          have c22b0 : decide (t286 < 0) = false := decide_eq_false c22
          clear c22
          by_cases c23 : t286 ≥ (wrap64 (t280 * (wrap64 (1 + t282))))
          · rw [if_pos c23] at H
            have c23b0 : decide ((wrap64 (t280 * (wrap64 (1 + t282)))) ≤ t286) = true := decide_eq_true c23
            clear c23
            have H' := Aside0.mk H
            clear H
            go_wp2
            go_meet
            case rel => exact ⟨_, (true), (by first | rfl | (simp; done) | (simp [*]; done)), H', ⟨by first | omega | exact Nat.le_refl _⟩, ⟨by (with_reducible repeat (first | apply Kd.R_alloc | apply Kd.R_drewN | apply Kd.R_drew)); exact HO275.out⟩, ⟨by (with_reducible repeat (first | apply Kd.R_alloc | apply Kd.R_drewN | apply Kd.R_drew)); exact HO278.out⟩, ⟨by (with_reducible repeat (first | refine blk_drewN ?_ _ | refine blk_drew ?_ | refine blk_alloc ?_ _)); exact BK279.out⟩, ⟨by repeat (first | (with_reducible first | exact HB.out | apply below_alloc | apply pw_below_drewN | apply below_drew1 | refine below_set ?_ GE279.out) | exact HB.out)⟩⟩
          · rw [if_neg c23] at H
            have c23b0 : decide ((wrap64 (t280 * (wrap64 (1 + t282)))) ≤ t286) = false := decide_eq_false c23
            clear c23
            replace H := Option.bind_eq_some_iff.mp H
            obtain ⟨t288, A240, H⟩ := H
            replace H : (laws_FnNested.j0 k (wrap64 (1 + t282)) (wrap64 (t280 * (wrap64 (1 + t282)))) (!t288) t272 t273 t276) = some r := H
            have A24 := Aside0.mk A240
            clear A240
            have H' := Aside0.mk H
            clear H
            have hcz25_0 : w20.cell? ⟨gb279, 0, none⟩ = some (.string t272) := (blk_cell BK279.out 0).trans rfl
            have hcz25_1 : w20.cell? ⟨gb279, 1, none⟩ = some (.slice Ao16 t273.length co16) := (blk_cell BK279.out 1).trans rfl
            have hcz25_2 : w20.cell? ⟨gb279, 2, none⟩ = some (.slice Ao17 t276.length co17) := (blk_cell BK279.out 2).trans rfl
            have hfz25_0 := blk_frozen BK279.out 0
            have hfz25_1 := blk_frozen BK279.out 1
            have hfz25_2 := blk_frozen BK279.out 2
            go_wp2_with (first | (go_at_call 16; (with_reducible refine (spec_EndsOnSam.calls k t272 _ _ t273 _ _ t276 (wrap64 (1 + t282)) t286 (wrap64 ((wrap64 ((wrap64 (9 * (wrap64 (1 + t283)))) + (wrap64 (6 * t284)))) + (wrap64 (2 * t285)))) t288 _ ?side1 ?side2 ?side3 ?side4 A24.out).mono ?_); (case side1 => repeat (first | exact (Kd.R_reads' HO275.out).2.2 | (with_reducible refine Kd.C_alloc ?_ _) | (with_reducible refine Kd.C_drewN ?_ _) | (with_reducible refine Kd.C_drew ?_))); (case side2 => exact (Kd.R_reads' HO275.out).2.1); (case side3 => repeat (first | exact (Kd.R_reads' HO278.out).2.2 | (with_reducible refine Kd.C_alloc ?_ _) | (with_reducible refine Kd.C_drewN ?_ _) | (with_reducible refine Kd.C_drew ?_))); (case side4 => exact (Kd.R_reads' HO278.out).2.1); rintro e w26 ⟨rfl, hb⟩; have n0_ := Aside0.mk (Kd.R_below (by (with_reducible repeat (first | apply Kd.R_alloc | apply Kd.R_drewN | apply Kd.R_drew)); exact HO275.out) hb); have n1_ := Aside0.mk (Kd.R_below (by (with_reducible repeat (first | apply Kd.R_alloc | apply Kd.R_drewN | apply Kd.R_drew)); exact HO278.out) hb); have n2_ := Aside0.mk (blk_below (g := gb279) (o := .cells #[.string t272, .slice Ao16 t273.length co16, .slice Ao17 t276.length co17] 27 (0, 0)) (by (with_reducible repeat (first | refine blk_drewN ?_ _ | refine blk_drew ?_ | refine blk_alloc ?_ _)); exact BK279.out) hb); have n3_ := Aside0.mk (below_step (by repeat (first | (with_reducible first | exact HB.out | apply below_alloc | apply pw_below_drewN | apply below_drew1 | refine below_set ?_ GE279.out) | exact HB.out)) hb); clear HO275; clear HO278; clear BK279; clear HB; have HO275 := n0_; have HO278 := n1_; have BK279 := n2_; have HB := n3_; clear n0_ n1_ n2_ n3_; (try clear hb); (try clear hb2); (try clear hk); (try clear hi)))
            go_meet
            case rel => exact ⟨_, (!t288), (by first | rfl | (simp; done) | (simp [*]; done)), H', ⟨by first | omega | exact Nat.le_refl _⟩, ⟨by (with_reducible repeat (first | apply Kd.R_alloc | apply Kd.R_drewN | apply Kd.R_drew)); exact HO275.out⟩, ⟨by (with_reducible repeat (first | apply Kd.R_alloc | apply Kd.R_drewN | apply Kd.R_drew)); exact HO278.out⟩, ⟨by (with_reducible repeat (first | refine blk_drewN ?_ _ | refine blk_drew ?_ | refine blk_alloc ?_ _)); exact BK279.out⟩, ⟨by repeat (first | (with_reducible first | exact HB.out | apply below_alloc | apply pw_below_drewN | apply below_drew1 | refine below_set ?_ GE279.out) | exact HB.out)⟩⟩
      · rw [if_neg c21] at H
        have c21b0 : (t287 == 0) = false := beq_eq_false_iff_ne.mpr c21
        have c21b1 : (t287 != 0) = true := bne_iff_ne.mpr c21
        (first | rw [c21b0] | (simp only [i64_w, i32_w]; rw [c21b0]) | skip)
        have H' := Aside0.mk H
        clear H
        go_wp2
        go_meet
        case rel => exact ⟨_, (true), (by first | rfl | (simp; done) | (simp [*]; done)), H', ⟨by first | omega | exact Nat.le_refl _⟩, ⟨by (with_reducible repeat (first | apply Kd.R_alloc | apply Kd.R_drewN | apply Kd.R_drew)); exact HO275.out⟩, ⟨by (with_reducible repeat (first | apply Kd.R_alloc | apply Kd.R_drewN | apply Kd.R_drew)); exact HO278.out⟩, ⟨by (with_reducible repeat (first | refine blk_drewN ?_ _ | refine blk_drew ?_ | refine blk_alloc ?_ _)); exact BK279.out⟩, ⟨by repeat (first | (with_reducible first | exact HB.out | apply below_alloc | apply pw_below_drewN | apply below_drew1 | refine below_set ?_ GE279.out) | exact HB.out)⟩⟩
    case rest =>
      clear HC12
      try clear c1
      try clear c2
      try clear p2
      try clear c4
      try clear p6
      try clear c13
      try clear c21
      try clear c21b0
      try clear c21b1
      try clear c22
      try clear c22b0
      try clear c23
      try clear c23b0
      try clear c25
      try clear hcz15_0
      try clear hcz15_1
      try clear hcz15_2
      try clear hcz19_0
      try clear hcz19_1
      try clear hcz19_2
      try clear hcz25_0
      try clear hcz25_1
      try clear hcz25_2
      try clear hfz15_0
      try clear hfz15_1
      try clear hfz15_2
      try clear hfz19_0
      try clear hfz19_1
      try clear hfz19_2
      try clear hfz25_0
      try clear hfz25_1
      try clear hfz25_2
      obtain ⟨kq, x76_11, rfl, HA, HJ11, HO_280001, HO_280002, BK279, HB⟩ := hcut
      cases kq with
      | zero => exact absurd HA.out (by simp [laws_FnNested.j0])
      | succ kj11 =>
        have H := HA.out
        clear HA
        simp only [laws_FnNested.j0] at H
        by_cases c27 : x76_11 = true
        · subst c27
          have H1 : (some false) = some r := by rw [if_pos rfl] at H; exact H
          clear H
          have H := H1
          clear H1
          obtain rfl := Option.some.inj H
          go_wp2
          go_ret
          exact ⟨by first | rfl | (simp [errW_none, errW_some] <;> rfl) | (simp [*, errW_none, errW_some] <;> rfl), by repeat (first | (with_reducible first | exact HB.out | apply below_alloc | apply pw_below_drewN | apply below_drew1 | refine below_set ?_ GE279.out) | exact HB.out)⟩
        · replace c27 := Bool.eq_false_iff.mpr c27
          subst c27
          have H1 : (laws_FnNested.l0 kj11 (wrap64 (1 + t282)) (wrap64 (t280 * (wrap64 (1 + t282)))) 0 0 t272 t273 t276) = some r := by rw [if_neg (show ¬ (false = true) by decide)] at H; exact H
          clear H
          have H := H1
          clear H1
          have H' := Aside0.mk H
          clear H
          go_wp2
          go_loopg [15, 16] kj11 (fun kq v15 v16 w' => ∃ (x15_2 : Int) (x16_2 : Int), v15 = .int .i64 x15_2 ∧ v16 = .int .i64 x16_2 ∧ Aside0 (laws_FnNested.l0 kq (wrap64 (1 + t282)) (wrap64 (t280 * (wrap64 (1 + t282)))) x15_2 x16_2 t272 t273 t276 = some r) ∧ Aside0 (kq ≤ kj11) ∧ Aside0 (Kd.R (Kd.int .i64) 2 w' w.heap.size (fun k_ => some k_ ≠ ((.slice Ao17 t276.length co17) : Value).ownBlock) (.slice Ao16 t273.length co16) t273) ∧ Aside0 (Kd.R (Kd.int .i64) 2 w' w.heap.size (fun k_ => some k_ ≠ ((.slice Ao16 t273.length co16) : Value).ownBlock) (.slice Ao17 t276.length co17) t276) ∧ Aside0 (w'.heap[gb279]? = some (.cells #[.string t272, (.slice Ao16 t273.length co16), (.slice Ao17 t276.length co17)] 27 (0, 0))) ∧ Aside0 (Below w.heap.size w w'))
          case atStart => exact ⟨(0), (0), (by first | rfl | (simp; done) | (simp [*]; done)), (by first | rfl | (simp; done) | (simp [*]; done)), H', ⟨Nat.le_refl _⟩, ⟨by (with_reducible repeat (first | apply Kd.R_alloc | apply Kd.R_drewN | apply Kd.R_drew)); exact HO_280001.out⟩, ⟨by (with_reducible repeat (first | apply Kd.R_alloc | apply Kd.R_drewN | apply Kd.R_drew)); exact HO_280002.out⟩, ⟨by (with_reducible repeat (first | refine blk_drewN ?_ _ | refine blk_drew ?_ | refine blk_alloc ?_ _)); exact BK279.out⟩, ⟨by repeat (first | (with_reducible first | exact HB.out | apply below_alloc | apply pw_below_drewN | apply below_drew1 | refine below_set ?_ GE279.out) | exact HB.out)⟩⟩
          case round =>
            clear H'
            try clear c1
            try clear c2
            try clear p2
            try clear c4
            try clear p6
            try clear c13
            try clear c21
            try clear c21b0
            try clear c21b1
            try clear c22
            try clear c22b0
            try clear c23
            try clear c23b0
            try clear c25
            try clear c27
            try clear hcz15_0
            try clear hcz15_1
            try clear hcz15_2
            try clear hcz19_0
            try clear hcz19_1
            try clear hcz19_2
            try clear hcz25_0
            try clear hcz25_1
            try clear hcz25_2
            try clear hfz15_0
            try clear hfz15_1
            try clear hfz15_2
            try clear hfz19_0
            try clear hfz19_1
            try clear hfz19_2
            try clear hfz25_0
            try clear hfz25_1
            try clear hfz25_2
            try clear p2
            try clear p6
            obtain ⟨x15_2, x16_2, rfl, rfl, HA, HK2, HO_280001, HO_280002, BK279, HB⟩ := hrel
            cases gk with
            | zero => exact absurd HA.out (by simp [laws_FnNested.l0])
            | succ k2 =>
              have H := HA.out
              clear HA
              simp only [laws_FnNested.l0] at H
              by_cases c28 : x16_2 < (wrap64 (t280 * (wrap64 (1 + t282))))
              · rw [if_pos c28] at H
                have c28b0 : decide (x16_2 < (wrap64 (t280 * (wrap64 (1 + t282))))) = true := decide_eq_true c28
                clear c28
                replace H := Option.bind_eq_some_iff.mp H
                obtain ⟨⟨t289, t290⟩, A290, H⟩ := H
                replace H : (if t290 = 0 then (if t289 < 0 then (some false) else (laws_FnNested.l0 k2 (wrap64 (1 + t282)) (wrap64 (t280 * (wrap64 (1 + t282)))) (wrap64 (x15_2 + t289)) (wrap64 (x16_2 + 1)) t272 t273 t276)) else (some false)) = some r := H
                have A29 := Aside0.mk A290
                clear A290
                by_cases c30 : t290 = 0
                · rw [if_pos c30] at H
                  have c30b0 : (t290 == 0) = true := beq_iff_eq.mpr c30
                  have c30b1 : (t290 != 0) = false := bne_eq_false_iff_eq.mpr c30
                  clear c30
                  by_cases c31 : t289 < 0
                  · rw [if_pos c31] at H
                    have c31b0 : decide (t289 < 0) = true := decide_eq_true c31
                    clear c31
                    obtain rfl := Option.some.inj H
                    have hcz32_0 : wr.cell? ⟨gb279, 0, none⟩ = some (.string t272) := (blk_cell BK279.out 0).trans rfl
                    have hcz32_1 : wr.cell? ⟨gb279, 1, none⟩ = some (.slice Ao16 t273.length co16) := (blk_cell BK279.out 1).trans rfl
                    have hcz32_2 : wr.cell? ⟨gb279, 2, none⟩ = some (.slice Ao17 t276.length co17) := (blk_cell BK279.out 2).trans rfl
                    have hfz32_0 := blk_frozen BK279.out 0
                    have hfz32_1 := blk_frozen BK279.out 1
                    have hfz32_2 := blk_frozen BK279.out 2
                    go_wp2_with (first | ((with_reducible refine gate_callee (f := 35) rfl ?_); refine goesL_ (some 86) rfl rfl Try.func35 (by kernel_rfl) rfl #[.agg #[.string t272, .slice Ao16 t273.length co16, .slice Ao17 t276.length co17], .int .i64 (wrap64 (1 + t282)), .int .i64 x16_2, .int .i64 4, .int .i64 2, .int .i64 3] rfl (by (try simp only [List.map_toArray, List.map_cons, List.map_nil]); first | done | rfl | (simp only [List.length_drop, List.length_take]; rfl)) ?_; (with_reducible refine (impl_CountNested.calls k2 t272 _ _ t273 _ _ t276 (wrap64 (1 + t282)) x16_2 4 2 3 t289 t290 _ ?side1 ?side2 ?side3 ?side4 A29.out).mono ?_); (case side1 => repeat (first | exact (Kd.R_reads' HO_280001.out).2.2 | (with_reducible refine Kd.C_alloc ?_ _) | (with_reducible refine Kd.C_drewN ?_ _) | (with_reducible refine Kd.C_drew ?_))); (case side2 => exact (Kd.R_reads' HO_280001.out).2.1); (case side3 => repeat (first | exact (Kd.R_reads' HO_280002.out).2.2 | (with_reducible refine Kd.C_alloc ?_ _) | (with_reducible refine Kd.C_drewN ?_ _) | (with_reducible refine Kd.C_drew ?_))); (case side4 => exact (Kd.R_reads' HO_280002.out).2.1); rintro e w33 ⟨rfl, hb⟩; refine ⟨_, rfl, ?_⟩; have n0_ := Aside0.mk (Kd.R_below (by (with_reducible repeat (first | apply Kd.R_alloc | apply Kd.R_drewN | apply Kd.R_drew)); exact HO_280001.out) hb); have n1_ := Aside0.mk (Kd.R_below (by (with_reducible repeat (first | apply Kd.R_alloc | apply Kd.R_drewN | apply Kd.R_drew)); exact HO_280002.out) hb); have n2_ := Aside0.mk (blk_below (g := gb279) (o := .cells #[.string t272, .slice Ao16 t273.length co16, .slice Ao17 t276.length co17] 27 (0, 0)) (by (with_reducible repeat (first | refine blk_drewN ?_ _ | refine blk_drew ?_ | refine blk_alloc ?_ _)); exact BK279.out) hb); have n3_ := Aside0.mk (below_step (by repeat (first | (with_reducible first | exact HB.out | apply below_alloc | apply pw_below_drewN | apply below_drew1 | refine below_set ?_ GE279.out) | exact HB.out)) hb); clear HO_280001; clear HO_280002; clear BK279; clear HB; have HO_280001 := n0_; have HO_280002 := n1_; have BK279 := n2_; have HB := n3_; clear n0_ n1_ n2_ n3_; (try clear hb); (try clear hb2); (try clear hk); (try clear hi)))
                    go_ret
                    exact ⟨by first | rfl | (simp [errW_none, errW_some] <;> rfl) | (simp [*, errW_none, errW_some] <;> rfl), by repeat (first | (with_reducible first | exact HB.out | apply below_alloc | apply pw_below_drewN | apply below_drew1 | refine below_set ?_ GE279.out) | exact HB.out)⟩
                  · rw [if_neg c31] at H
                    have c31b0 : decide (t289 < 0) = false := decide_eq_false c31
                    clear c31
                    have H' := Aside0.mk H
                    clear H
                    have hcz34_0 : wr.cell? ⟨gb279, 0, none⟩ = some (.string t272) := (blk_cell BK279.out 0).trans rfl
                    have hcz34_1 : wr.cell? ⟨gb279, 1, none⟩ = some (.slice Ao16 t273.length co16) := (blk_cell BK279.out 1).trans rfl
                    have hcz34_2 : wr.cell? ⟨gb279, 2, none⟩ = some (.slice Ao17 t276.length co17) := (blk_cell BK279.out 2).trans rfl
                    have hfz34_0 := blk_frozen BK279.out 0
                    have hfz34_1 := blk_frozen BK279.out 1
                    have hfz34_2 := blk_frozen BK279.out 2
                    go_wp2_with (first | ((with_reducible refine gate_callee (f := 35) rfl ?_); refine goesL_ (some 86) rfl rfl Try.func35 (by kernel_rfl) rfl #[.agg #[.string t272, .slice Ao16 t273.length co16, .slice Ao17 t276.length co17], .int .i64 (wrap64 (1 + t282)), .int .i64 x16_2, .int .i64 4, .int .i64 2, .int .i64 3] rfl (by (try simp only [List.map_toArray, List.map_cons, List.map_nil]); first | done | rfl | (simp only [List.length_drop, List.length_take]; rfl)) ?_; (with_reducible refine (impl_CountNested.calls k2 t272 _ _ t273 _ _ t276 (wrap64 (1 + t282)) x16_2 4 2 3 t289 t290 _ ?side1 ?side2 ?side3 ?side4 A29.out).mono ?_); (case side1 => repeat (first | exact (Kd.R_reads' HO_280001.out).2.2 | (with_reducible refine Kd.C_alloc ?_ _) | (with_reducible refine Kd.C_drewN ?_ _) | (with_reducible refine Kd.C_drew ?_))); (case side2 => exact (Kd.R_reads' HO_280001.out).2.1); (case side3 => repeat (first | exact (Kd.R_reads' HO_280002.out).2.2 | (with_reducible refine Kd.C_alloc ?_ _) | (with_reducible refine Kd.C_drewN ?_ _) | (with_reducible refine Kd.C_drew ?_))); (case side4 => exact (Kd.R_reads' HO_280002.out).2.1); rintro e w35 ⟨rfl, hb⟩; refine ⟨_, rfl, ?_⟩; have n0_ := Aside0.mk (Kd.R_below (by (with_reducible repeat (first | apply Kd.R_alloc | apply Kd.R_drewN | apply Kd.R_drew)); exact HO_280001.out) hb); have n1_ := Aside0.mk (Kd.R_below (by (with_reducible repeat (first | apply Kd.R_alloc | apply Kd.R_drewN | apply Kd.R_drew)); exact HO_280002.out) hb); have n2_ := Aside0.mk (blk_below (g := gb279) (o := .cells #[.string t272, .slice Ao16 t273.length co16, .slice Ao17 t276.length co17] 27 (0, 0)) (by (with_reducible repeat (first | refine blk_drewN ?_ _ | refine blk_drew ?_ | refine blk_alloc ?_ _)); exact BK279.out) hb); have n3_ := Aside0.mk (below_step (by repeat (first | (with_reducible first | exact HB.out | apply below_alloc | apply pw_below_drewN | apply below_drew1 | refine below_set ?_ GE279.out) | exact HB.out)) hb); clear HO_280001; clear HO_280002; clear BK279; clear HB; have HO_280001 := n0_; have HO_280002 := n1_; have BK279 := n2_; have HB := n3_; clear n0_ n1_ n2_ n3_; (try clear hb); (try clear hb2); (try clear hk); (try clear hi)))
                    go_roundg k2
                    case measure => have := HJ11.out; have := HK2.out; omega
                    case rel => exact ⟨(wrap64 (x15_2 + t289)), (wrap64 (x16_2 + 1)), (by first | rfl | (simp; done) | (simp [*]; done)), (by first | rfl | (simp; done) | (simp [*]; done)), H', ⟨by have := HJ11.out; have := HK2.out; omega⟩, ⟨by (with_reducible repeat (first | apply Kd.R_alloc | apply Kd.R_drewN | apply Kd.R_drew)); exact HO_280001.out⟩, ⟨by (with_reducible repeat (first | apply Kd.R_alloc | apply Kd.R_drewN | apply Kd.R_drew)); exact HO_280002.out⟩, ⟨by (with_reducible repeat (first | refine blk_drewN ?_ _ | refine blk_drew ?_ | refine blk_alloc ?_ _)); exact BK279.out⟩, ⟨by repeat (first | (with_reducible first | exact HB.out | apply below_alloc | apply pw_below_drewN | apply below_drew1 | refine below_set ?_ GE279.out) | exact HB.out)⟩⟩
                · rw [if_neg c30] at H
                  have c30b0 : (t290 == 0) = false := beq_eq_false_iff_ne.mpr c30
                  have c30b1 : (t290 != 0) = true := bne_iff_ne.mpr c30
                  obtain rfl := Option.some.inj H
                  have hcz36_0 : wr.cell? ⟨gb279, 0, none⟩ = some (.string t272) := (blk_cell BK279.out 0).trans rfl
                  have hcz36_1 : wr.cell? ⟨gb279, 1, none⟩ = some (.slice Ao16 t273.length co16) := (blk_cell BK279.out 1).trans rfl
                  have hcz36_2 : wr.cell? ⟨gb279, 2, none⟩ = some (.slice Ao17 t276.length co17) := (blk_cell BK279.out 2).trans rfl
                  have hfz36_0 := blk_frozen BK279.out 0
                  have hfz36_1 := blk_frozen BK279.out 1
                  have hfz36_2 := blk_frozen BK279.out 2
                  go_wp2_with (first | ((with_reducible refine gate_callee (f := 35) rfl ?_); refine goesL_ (some 86) rfl rfl Try.func35 (by kernel_rfl) rfl #[.agg #[.string t272, .slice Ao16 t273.length co16, .slice Ao17 t276.length co17], .int .i64 (wrap64 (1 + t282)), .int .i64 x16_2, .int .i64 4, .int .i64 2, .int .i64 3] rfl (by (try simp only [List.map_toArray, List.map_cons, List.map_nil]); first | done | rfl | (simp only [List.length_drop, List.length_take]; rfl)) ?_; (with_reducible refine (impl_CountNested.calls k2 t272 _ _ t273 _ _ t276 (wrap64 (1 + t282)) x16_2 4 2 3 t289 t290 _ ?side1 ?side2 ?side3 ?side4 A29.out).mono ?_); (case side1 => repeat (first | exact (Kd.R_reads' HO_280001.out).2.2 | (with_reducible refine Kd.C_alloc ?_ _) | (with_reducible refine Kd.C_drewN ?_ _) | (with_reducible refine Kd.C_drew ?_))); (case side2 => exact (Kd.R_reads' HO_280001.out).2.1); (case side3 => repeat (first | exact (Kd.R_reads' HO_280002.out).2.2 | (with_reducible refine Kd.C_alloc ?_ _) | (with_reducible refine Kd.C_drewN ?_ _) | (with_reducible refine Kd.C_drew ?_))); (case side4 => exact (Kd.R_reads' HO_280002.out).2.1); rintro e w37 ⟨rfl, hb⟩; refine ⟨_, rfl, ?_⟩; have n0_ := Aside0.mk (Kd.R_below (by (with_reducible repeat (first | apply Kd.R_alloc | apply Kd.R_drewN | apply Kd.R_drew)); exact HO_280001.out) hb); have n1_ := Aside0.mk (Kd.R_below (by (with_reducible repeat (first | apply Kd.R_alloc | apply Kd.R_drewN | apply Kd.R_drew)); exact HO_280002.out) hb); have n2_ := Aside0.mk (blk_below (g := gb279) (o := .cells #[.string t272, .slice Ao16 t273.length co16, .slice Ao17 t276.length co17] 27 (0, 0)) (by (with_reducible repeat (first | refine blk_drewN ?_ _ | refine blk_drew ?_ | refine blk_alloc ?_ _)); exact BK279.out) hb); have n3_ := Aside0.mk (below_step (by repeat (first | (with_reducible first | exact HB.out | apply below_alloc | apply pw_below_drewN | apply below_drew1 | refine below_set ?_ GE279.out) | exact HB.out)) hb); clear HO_280001; clear HO_280002; clear BK279; clear HB; have HO_280001 := n0_; have HO_280002 := n1_; have BK279 := n2_; have HB := n3_; clear n0_ n1_ n2_ n3_; (try clear hb); (try clear hb2); (try clear hk); (try clear hi)))
                  go_ret
                  exact ⟨by first | rfl | (simp [errW_none, errW_some] <;> rfl) | (simp [*, errW_none, errW_some] <;> rfl), by repeat (first | (with_reducible first | exact HB.out | apply below_alloc | apply pw_below_drewN | apply below_drew1 | refine below_set ?_ GE279.out) | exact HB.out)⟩
              · rw [if_neg c28] at H
                have c28b0 : decide (x16_2 < (wrap64 (t280 * (wrap64 (1 + t282))))) = false := decide_eq_false c28
                clear c28
                obtain rfl := Option.some.inj H
                go_wp2
                go_ret
                exact ⟨by first | rfl | (simp [errW_none, errW_some] <;> rfl) | (simp [*, errW_none, errW_some] <;> rfl), by repeat (first | (with_reducible first | exact HB.out | apply below_alloc | apply pw_below_drewN | apply below_drew1 | refine below_set ?_ GE279.out) | exact HB.out)⟩

/-- THE ONE PURE STATEMENT of laws_FnNested: yours. -/
def laws_FnNested.Pure : Prop := ∀ (l0 : List Int) (l1 : List Int), (l0.length ≤ maxLen ∧ ∀ y0 ∈ l0, (Lit.int .u8 y0).wf = true) → (l1.length ≤ maxLen ∧ ∀ y0 ∈ l1, (Lit.int .u8 y0).wf = true) → ∃ k, laws_FnNested.f k l0 l1 = some true
theorem laws_FnNested.walk (P : laws_FnNested.Pure) (A0 : Option Addr) (c0 : Nat) (l0 : List Int) (A1 : Option Addr) (c1 : Nat) (l1 : List Int) (w : World) (hr0 : Kd.C (Kd.int .u8) w A0 l0.length l0) (hc0 : l0.length ≤ c0) (hr1 : Kd.C (Kd.int .u8) w A1 l1.length l1) (hc1 : l1.length ≤ c1) (hk0 : (l0.length ≤ maxLen ∧ ∀ y0 ∈ l0, (Lit.int .u8 y0).wf = true)) (hk1 : (l1.length ≤ maxLen ∧ ∀ y0 ∈ l1, (Lit.int .u8 y0).wf = true)) :
    Calls Try.prog 13 #[.slice A0 l0.length c0, .slice A1 l1.length c1] w fun e w' => e = .returned (.bool true) ∧ Below w.heap.size w w' := by
  obtain ⟨k, h⟩ := P l0 l1 hk0 hk1
  refine (laws_FnNested.calls k _ _ l0 _ _ l1 true w hr0 hc0 hr1 hc1 h).mono ?_
  rintro e w' ⟨rfl, hd⟩
  exact ⟨rfl, hd⟩

end Go.Proofs.Ythimhjghepdccaa.PN
