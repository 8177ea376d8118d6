-- WRITTEN BY wip/gprint.py, a program of this session's over the kit's print, with contracts given by hand
import Derived.Test.YtomeeimjlagbbaaPCx0
import Derived.Test.YtomeeimjlagbbaaPCx2
import Derived.Test.YtomeeimjlagbbaaPCx3
import Derived.Test.YtomeeimjlagbbaaPCx4
import Derived.Test.YtomeeimjlagbbaaPCx6
import Derived.Test.YtomeeimjlagbbaaPCx8
import Derived.Test.YtomeeimjlagbbaaPCx10
namespace Go.Proofs.Ytomeeimjlagbbaa.PC
open Go.RowKit Go.Proofs.YtomeeimjlagbbaaW.PrintWords Go.Proofs.YtomeeimjlagbbaaW.PrintLast Go.Proofs.YtomeeimjlagbbaaW.PrintMore
attribute [local go_sem] max2_int min2_int max_two min_two max_three min_three max_four min_four   -- for this text's walks alone
set_option linter.unusedVariables false
set_option linter.unusedSimpArgs false

/-! ### laws_FnCuts: function 5 -/
mutual
def laws_FnCuts.j0 : Nat → List (S40) → Int → List (S40) → Bool → Option (Bool)
 | 0, _, _, _, _ => none
 | k + 1, x5, x6, x15, x126 => if x126 = true then (some false) else ((impl_TieMelody.f k x15).bind fun bt260 => ((impl_TieMelody.f k x5).bind fun bt264 => (if bt260.2 = 0 then (laws_FnCuts.j1 k x6 bt260.1 bt264.1 (bt264.2 != 0)) else (laws_FnCuts.j1 k x6 bt260.1 bt264.1 true))))
def laws_FnCuts.j1 : Nat → Int → List (S40) → List (S40) → Bool → Option (Bool)
 | 0, _, _, _, _ => none
 | k + 1, x6, x21, x23, x142 => if x142 = true then (some false) else (laws_FnCuts.l0 k x6 x21 x23 0)
def laws_FnCuts.l0 : Nat → Int → List (S40) → List (S40) → Int → Option (Bool)
 | 0, _, _, _, _ => none
 | k + 1, x6, x21, x23, x25 => if x25 < x6 then ((spec_PitchAt.f k x21 x25).bind fun bt268 => ((spec_PitchAt.f k x23 x25).bind fun bt270 => (if bt268.2 = 0 then (if bt270.2 = 0 then (if bt268.1 = bt270.1 then (laws_FnCuts.l0 k x6 x21 x23 (wrap64 (x25 + 1))) else (some false)) else (some false)) else (some false)))) else (some true)
end
def laws_FnCuts.f (k : Nat) (l0 : List Int) (l1 : List Int) : Option (Bool) := (laws_r8Long.f l0 l1).bind fun t232 => (if t232 = true then (some true) else ((spec_R8Melody.f k l0).bind fun t233 => ((spec_DurationOf.f k t233).bind fun bt236 => ((laws_r8At.f l1 0 (wrap64 (bt236.1 + 1))).bind fun t238 => ((impl_CutMelody.f k t233 0 t238).bind fun bt239 => ((impl_CutMelody.f k t233 t238 bt236.1).bind fun bt243 => ((impl_CutMelody.f k t233 0 bt236.1).bind fun bt247 => ((impl_JoinMelodies.f k bt239.1 bt243.1).bind fun bt251 => ((spec_DurationOf.f k bt239.1).bind fun bt255 => ((spec_DurationOf.f k bt243.1).bind fun bt257 => (if bt239.2 = 0 then (if bt243.2 = 0 then (if bt247.2 = 0 then ((spec_SameMelody.f k bt247.1 t233).bind fun t259 => (if t259 = true then (if bt251.2 = 0 then (if bt255.2 = 0 then (if bt255.1 = t238 then (if bt257.2 = 0 then (if bt257.1 = (wrap64 (bt236.1 - t238)) then (laws_FnCuts.j0 k t233 bt236.1 bt251.1 (decide ((bt251.1.length : Int) > (wrap64 ((t233.length : Int) + 1))))) else (laws_FnCuts.j0 k t233 bt236.1 bt251.1 true)) else (laws_FnCuts.j0 k t233 bt236.1 bt251.1 true)) else (laws_FnCuts.j0 k t233 bt236.1 bt251.1 true)) else (laws_FnCuts.j0 k t233 bt236.1 bt251.1 true)) else (laws_FnCuts.j0 k t233 bt236.1 bt251.1 true)) else (laws_FnCuts.j0 k t233 bt236.1 bt251.1 true))) else (laws_FnCuts.j0 k t233 bt236.1 bt251.1 true)) else (laws_FnCuts.j0 k t233 bt236.1 bt251.1 true)) else (laws_FnCuts.j0 k t233 bt236.1 bt251.1 true))))))))))))
theorem laws_FnCuts.mono_l : ∀ k, (∀ y0 y1 y2 y3, LeO (laws_FnCuts.j0 k y0 y1 y2 y3) (laws_FnCuts.j0 (k + 1) y0 y1 y2 y3)) ∧ (∀ y0 y1 y2 y3, LeO (laws_FnCuts.j1 k y0 y1 y2 y3) (laws_FnCuts.j1 (k + 1) y0 y1 y2 y3)) ∧ (∀ y0 y1 y2 y3, LeO (laws_FnCuts.l0 k y0 y1 y2 y3) (laws_FnCuts.l0 (k + 1) y0 y1 y2 y3))
 | 0 => ⟨fun _ _ _ _ r h => by simp [laws_FnCuts.j0] at h, fun _ _ _ _ r h => by simp [laws_FnCuts.j1] at h, fun _ _ _ _ r h => by simp [laws_FnCuts.l0] at h⟩
 | k + 1 => by
  obtain ⟨ih0, ih1, ih2⟩ := laws_FnCuts.mono_l k
  refine ⟨?_, ?_, ?_⟩
  · intro y0 y1 y2 y3
    unfold laws_FnCuts.j0
    repeat' first
    | (with_reducible exact ih0 _ _ _ _)
    | (with_reducible exact ih1 _ _ _ _)
    | (with_reducible exact ih2 _ _ _ _)
    | (with_reducible exact impl_CutMelody.mono _ _ _ _)
    | (with_reducible exact impl_JoinMelodies.mono _ _ _)
    | (with_reducible exact impl_TieMelody.mono _ _)
    | (with_reducible exact spec_DurationOf.mono _ _)
    | (with_reducible exact spec_PitchAt.mono _ _ _)
    | (with_reducible exact spec_R8Melody.mono _ _)
    | (with_reducible exact spec_SameMelody.mono _ _ _)
    | (with_reducible exact LeO.refl _)
    | (with_reducible exact LeO.none _)
    | (with_reducible refine LeO.ite ?_ ?_)
    | (with_reducible refine LeO.bind ?_ (fun _ => ?_))
    | exact ih0 _ _ _ _
    | exact ih1 _ _ _ _
    | exact ih2 _ _ _ _
    | exact impl_CutMelody.mono _ _ _ _
    | exact impl_JoinMelodies.mono _ _ _
    | exact impl_TieMelody.mono _ _
    | exact spec_DurationOf.mono _ _
    | exact spec_PitchAt.mono _ _ _
    | exact spec_R8Melody.mono _ _
    | exact spec_SameMelody.mono _ _ _
    | exact LeO.none _
    | refine LeO.ite ?_ ?_
    | refine LeO.bind ?_ (fun _ => ?_)
  · intro y0 y1 y2 y3
    unfold laws_FnCuts.j1
    repeat' first
    | (with_reducible exact ih0 _ _ _ _)
    | (with_reducible exact ih1 _ _ _ _)
    | (with_reducible exact ih2 _ _ _ _)
    | (with_reducible exact impl_CutMelody.mono _ _ _ _)
    | (with_reducible exact impl_JoinMelodies.mono _ _ _)
    | (with_reducible exact impl_TieMelody.mono _ _)
    | (with_reducible exact spec_DurationOf.mono _ _)
    | (with_reducible exact spec_PitchAt.mono _ _ _)
    | (with_reducible exact spec_R8Melody.mono _ _)
    | (with_reducible exact spec_SameMelody.mono _ _ _)
    | (with_reducible exact LeO.refl _)
    | (with_reducible exact LeO.none _)
    | (with_reducible refine LeO.ite ?_ ?_)
    | (with_reducible refine LeO.bind ?_ (fun _ => ?_))
    | exact ih0 _ _ _ _
    | exact ih1 _ _ _ _
    | exact ih2 _ _ _ _
    | exact impl_CutMelody.mono _ _ _ _
    | exact impl_JoinMelodies.mono _ _ _
    | exact impl_TieMelody.mono _ _
    | exact spec_DurationOf.mono _ _
    | exact spec_PitchAt.mono _ _ _
    | exact spec_R8Melody.mono _ _
    | exact spec_SameMelody.mono _ _ _
    | exact LeO.none _
    | refine LeO.ite ?_ ?_
    | refine LeO.bind ?_ (fun _ => ?_)
  · intro y0 y1 y2 y3
    unfold laws_FnCuts.l0
    repeat' first
    | (with_reducible exact ih0 _ _ _ _)
    | (with_reducible exact ih1 _ _ _ _)
    | (with_reducible exact ih2 _ _ _ _)
    | (with_reducible exact impl_CutMelody.mono _ _ _ _)
    | (with_reducible exact impl_JoinMelodies.mono _ _ _)
    | (with_reducible exact impl_TieMelody.mono _ _)
    | (with_reducible exact spec_DurationOf.mono _ _)
    | (with_reducible exact spec_PitchAt.mono _ _ _)
    | (with_reducible exact spec_R8Melody.mono _ _)
    | (with_reducible exact spec_SameMelody.mono _ _ _)
    | (with_reducible exact LeO.refl _)
    | (with_reducible exact LeO.none _)
    | (with_reducible refine LeO.ite ?_ ?_)
    | (with_reducible refine LeO.bind ?_ (fun _ => ?_))
    | exact ih0 _ _ _ _
    | exact ih1 _ _ _ _
    | exact ih2 _ _ _ _
    | exact impl_CutMelody.mono _ _ _ _
    | exact impl_JoinMelodies.mono _ _ _
    | exact impl_TieMelody.mono _ _
    | exact spec_DurationOf.mono _ _
    | exact spec_PitchAt.mono _ _ _
    | exact spec_R8Melody.mono _ _
    | exact spec_SameMelody.mono _ _ _
    | exact LeO.none _
    | refine LeO.ite ?_ ?_
    | refine LeO.bind ?_ (fun _ => ?_)
theorem laws_FnCuts.mono : ∀ a0 a1 k, LeO (laws_FnCuts.f k a0 a1) (laws_FnCuts.f (k + 1) a0 a1) := by
 intro a0 a1 k
 obtain ⟨ih0, ih1, ih2⟩ := laws_FnCuts.mono_l k
 unfold laws_FnCuts.f
 repeat' first
  | (with_reducible exact ih0 _ _ _ _)
  | (with_reducible exact ih1 _ _ _ _)
  | (with_reducible exact ih2 _ _ _ _)
  | (with_reducible exact impl_CutMelody.mono _ _ _ _)
  | (with_reducible exact impl_JoinMelodies.mono _ _ _)
  | (with_reducible exact impl_TieMelody.mono _ _)
  | (with_reducible exact spec_DurationOf.mono _ _)
  | (with_reducible exact spec_PitchAt.mono _ _ _)
  | (with_reducible exact spec_R8Melody.mono _ _)
  | (with_reducible exact spec_SameMelody.mono _ _ _)
  | (with_reducible exact LeO.refl _)
  | (with_reducible exact LeO.none _)
  | (with_reducible refine LeO.ite ?_ ?_)
  | (with_reducible refine LeO.bind ?_ (fun _ => ?_))
  | exact ih0 _ _ _ _
  | exact ih1 _ _ _ _
  | exact ih2 _ _ _ _
  | exact impl_CutMelody.mono _ _ _ _
  | exact impl_JoinMelodies.mono _ _ _
  | exact impl_TieMelody.mono _ _
  | exact spec_DurationOf.mono _ _
  | exact spec_PitchAt.mono _ _ _
  | exact spec_R8Melody.mono _ _
  | exact spec_SameMelody.mono _ _ _
  | exact LeO.none _
  | refine LeO.ite ?_ ?_
  | refine LeO.bind ?_ (fun _ => ?_)
set_option maxHeartbeats 8000000 in
set_option maxRecDepth 100000 in
theorem laws_FnCuts.calls (k : Nat) (A0 : Option Addr) (c0 : Nat) (l0 : List Int) (A1 : Option Addr) (c1 : Nat) (l1 : List Int) (r : Bool) (w : World) (hr0 : Kd.C (Kd.int .u8) w A0 l0.length l0) (hc0 : l0.length ≤ c0) (hr1 : Kd.C (Kd.int .u8) w A1 l1.length l1) (hc1 : l1.length ≤ c1) (h : laws_FnCuts.f k l0 l1 = some r) :
 Calls Try.prog 5 #[.slice A0 l0.length c0, .slice A1 l1.length c1] w fun e w' => e = .returned (.bool r) ∧ Below w.heap.size w w' := by
 have HR0 := Aside0.mk hr0
 have HC0 := Aside0.mk hc0
 clear hr0 hc0
 have HR1 := Aside0.mk hr1
 have HC1 := Aside0.mk hc1
 clear hr1 hc1
 have HB := Aside0.mk (Below.refl w.heap.size w)
 have H : ((laws_r8Long.f l0 l1).bind fun t232 => (if t232 = true then (some true) else ((spec_R8Melody.f k l0).bind fun t233 => ((spec_DurationOf.f k t233).bind fun bt236 => ((laws_r8At.f l1 0 (wrap64 (bt236.1 + 1))).bind fun t238 => ((impl_CutMelody.f k t233 0 t238).bind fun bt239 => ((impl_CutMelody.f k t233 t238 bt236.1).bind fun bt243 => ((impl_CutMelody.f k t233 0 bt236.1).bind fun bt247 => ((impl_JoinMelodies.f k bt239.1 bt243.1).bind fun bt251 => ((spec_DurationOf.f k bt239.1).bind fun bt255 => ((spec_DurationOf.f k bt243.1).bind fun bt257 => (if bt239.2 = 0 then (if bt243.2 = 0 then (if bt247.2 = 0 then ((spec_SameMelody.f k bt247.1 t233).bind fun t259 => (if t259 = true then (if bt251.2 = 0 then (if bt255.2 = 0 then (if bt255.1 = t238 then (if bt257.2 = 0 then (if bt257.1 = (wrap64 (bt236.1 - t238)) then (laws_FnCuts.j0 k t233 bt236.1 bt251.1 (decide ((bt251.1.length : Int) > (wrap64 ((t233.length : Int) + 1))))) else (laws_FnCuts.j0 k t233 bt236.1 bt251.1 true)) else (laws_FnCuts.j0 k t233 bt236.1 bt251.1 true)) else (laws_FnCuts.j0 k t233 bt236.1 bt251.1 true)) else (laws_FnCuts.j0 k t233 bt236.1 bt251.1 true)) else (laws_FnCuts.j0 k t233 bt236.1 bt251.1 true)) else (laws_FnCuts.j0 k t233 bt236.1 bt251.1 true))) else (laws_FnCuts.j0 k t233 bt236.1 bt251.1 true)) else (laws_FnCuts.j0 k t233 bt236.1 bt251.1 true)) else (laws_FnCuts.j0 k t233 bt236.1 bt251.1 true))))))))))))) = some r := h
 clear h
 replace H := Option.bind_eq_some_iff.mp H
 obtain ⟨t232, A30, H⟩ := H
 replace H : (if t232 = true then (some true) else ((spec_R8Melody.f k l0).bind fun t233 => ((spec_DurationOf.f k t233).bind fun bt236 => ((laws_r8At.f l1 0 (wrap64 (bt236.1 + 1))).bind fun t238 => ((impl_CutMelody.f k t233 0 t238).bind fun bt239 => ((impl_CutMelody.f k t233 t238 bt236.1).bind fun bt243 => ((impl_CutMelody.f k t233 0 bt236.1).bind fun bt247 => ((impl_JoinMelodies.f k bt239.1 bt243.1).bind fun bt251 => ((spec_DurationOf.f k bt239.1).bind fun bt255 => ((spec_DurationOf.f k bt243.1).bind fun bt257 => (if bt239.2 = 0 then (if bt243.2 = 0 then (if bt247.2 = 0 then ((spec_SameMelody.f k bt247.1 t233).bind fun t259 => (if t259 = true then (if bt251.2 = 0 then (if bt255.2 = 0 then (if bt255.1 = t238 then (if bt257.2 = 0 then (if bt257.1 = (wrap64 (bt236.1 - t238)) then (laws_FnCuts.j0 k t233 bt236.1 bt251.1 (decide ((bt251.1.length : Int) > (wrap64 ((t233.length : Int) + 1))))) else (laws_FnCuts.j0 k t233 bt236.1 bt251.1 true)) else (laws_FnCuts.j0 k t233 bt236.1 bt251.1 true)) else (laws_FnCuts.j0 k t233 bt236.1 bt251.1 true)) else (laws_FnCuts.j0 k t233 bt236.1 bt251.1 true)) else (laws_FnCuts.j0 k t233 bt236.1 bt251.1 true)) else (laws_FnCuts.j0 k t233 bt236.1 bt251.1 true))) else (laws_FnCuts.j0 k t233 bt236.1 bt251.1 true)) else (laws_FnCuts.j0 k t233 bt236.1 bt251.1 true)) else (laws_FnCuts.j0 k t233 bt236.1 bt251.1 true)))))))))))) = some r := H
 have A3 := Aside0.mk A30
 clear A30
 by_cases c4 : t232 = true
 · subst c4
   have H1 : (some true) = some r := by rw [if_pos rfl] at H; exact H
   clear H
   have H := H1
   clear H1
   obtain rfl := Option.some.inj H
   go_enter Try.func5, Try.ntmps5
   go_wp2_with (first | ((with_reducible refine gate_callee (f := 10) rfl ?_); refine goesL_ (some 32) rfl rfl Try.func10 (by kernel_rfl) rfl #[.slice A0 l0.length c0, .slice A1 l1.length c1] rfl (by (try simp only [List.map_toArray, List.map_cons, List.map_nil]); first | done | rfl | (simp only [List.length_drop, List.length_take]; rfl)) ?_; (with_reducible refine (laws_r8Long.calls _ _ l0 _ _ l1 true _ ?side1 ?side2 ?side3 ?side4 A3.out).mono ?_); (case side1 => repeat (first | exact HR0.out | (with_reducible refine Kd.C_alloc ?_ _) | (with_reducible refine Kd.C_drewN ?_ _) | (with_reducible refine Kd.C_drew ?_))); (case side2 => exact HC0.out); (case side3 => repeat (first | exact HR1.out | (with_reducible refine Kd.C_alloc ?_ _) | (with_reducible refine Kd.C_drewN ?_ _) | (with_reducible refine Kd.C_drew ?_))); (case side4 => exact HC1.out); rintro e w' ⟨rfl, ⟨nd, rfl⟩⟩; refine ⟨_, rfl, ?_⟩))
   go_ret
   exact ⟨by first | rfl | (simp [errW_none, errW_some] <;> rfl) | (simp [*, errW_none, errW_some] <;> rfl), by repeat (first | (with_reducible first | exact HB.out | apply below_alloc | apply pw_below_drewN | apply below_drew1) | exact HB.out)⟩
 · replace c4 := Bool.eq_false_iff.mpr c4
   subst c4
   have H1 : ((spec_R8Melody.f k l0).bind fun t233 => ((spec_DurationOf.f k t233).bind fun bt236 => ((laws_r8At.f l1 0 (wrap64 (bt236.1 + 1))).bind fun t238 => ((impl_CutMelody.f k t233 0 t238).bind fun bt239 => ((impl_CutMelody.f k t233 t238 bt236.1).bind fun bt243 => ((impl_CutMelody.f k t233 0 bt236.1).bind fun bt247 => ((impl_JoinMelodies.f k bt239.1 bt243.1).bind fun bt251 => ((spec_DurationOf.f k bt239.1).bind fun bt255 => ((spec_DurationOf.f k bt243.1).bind fun bt257 => (if bt239.2 = 0 then (if bt243.2 = 0 then (if bt247.2 = 0 then ((spec_SameMelody.f k bt247.1 t233).bind fun t259 => (if t259 = true then (if bt251.2 = 0 then (if bt255.2 = 0 then (if bt255.1 = t238 then (if bt257.2 = 0 then (if bt257.1 = (wrap64 (bt236.1 - t238)) then (laws_FnCuts.j0 k t233 bt236.1 bt251.1 (decide ((bt251.1.length : Int) > (wrap64 ((t233.length : Int) + 1))))) else (laws_FnCuts.j0 k t233 bt236.1 bt251.1 true)) else (laws_FnCuts.j0 k t233 bt236.1 bt251.1 true)) else (laws_FnCuts.j0 k t233 bt236.1 bt251.1 true)) else (laws_FnCuts.j0 k t233 bt236.1 bt251.1 true)) else (laws_FnCuts.j0 k t233 bt236.1 bt251.1 true)) else (laws_FnCuts.j0 k t233 bt236.1 bt251.1 true))) else (laws_FnCuts.j0 k t233 bt236.1 bt251.1 true)) else (laws_FnCuts.j0 k t233 bt236.1 bt251.1 true)) else (laws_FnCuts.j0 k t233 bt236.1 bt251.1 true))))))))))) = some r := by rw [if_neg (show ¬ (false = true) by decide)] at H; exact H
   clear H
   have H := H1
   clear H1
   replace H := Option.bind_eq_some_iff.mp H
   obtain ⟨t233, A50, H⟩ := H
   replace H : ((spec_DurationOf.f k t233).bind fun bt236 => ((laws_r8At.f l1 0 (wrap64 (bt236.1 + 1))).bind fun t238 => ((impl_CutMelody.f k t233 0 t238).bind fun bt239 => ((impl_CutMelody.f k t233 t238 bt236.1).bind fun bt243 => ((impl_CutMelody.f k t233 0 bt236.1).bind fun bt247 => ((impl_JoinMelodies.f k bt239.1 bt243.1).bind fun bt251 => ((spec_DurationOf.f k bt239.1).bind fun bt255 => ((spec_DurationOf.f k bt243.1).bind fun bt257 => (if bt239.2 = 0 then (if bt243.2 = 0 then (if bt247.2 = 0 then ((spec_SameMelody.f k bt247.1 t233).bind fun t259 => (if t259 = true then (if bt251.2 = 0 then (if bt255.2 = 0 then (if bt255.1 = t238 then (if bt257.2 = 0 then (if bt257.1 = (wrap64 (bt236.1 - t238)) then (laws_FnCuts.j0 k t233 bt236.1 bt251.1 (decide ((bt251.1.length : Int) > (wrap64 ((t233.length : Int) + 1))))) else (laws_FnCuts.j0 k t233 bt236.1 bt251.1 true)) else (laws_FnCuts.j0 k t233 bt236.1 bt251.1 true)) else (laws_FnCuts.j0 k t233 bt236.1 bt251.1 true)) else (laws_FnCuts.j0 k t233 bt236.1 bt251.1 true)) else (laws_FnCuts.j0 k t233 bt236.1 bt251.1 true)) else (laws_FnCuts.j0 k t233 bt236.1 bt251.1 true))) else (laws_FnCuts.j0 k t233 bt236.1 bt251.1 true)) else (laws_FnCuts.j0 k t233 bt236.1 bt251.1 true)) else (laws_FnCuts.j0 k t233 bt236.1 bt251.1 true)))))))))) = some r := H
   have A5 := Aside0.mk A50
   clear A50
   replace H := Option.bind_eq_some_iff.mp H
   obtain ⟨⟨t236, t237⟩, A60, H⟩ := H
   replace H : ((laws_r8At.f l1 0 (wrap64 (t236 + 1))).bind fun t238 => ((impl_CutMelody.f k t233 0 t238).bind fun bt239 => ((impl_CutMelody.f k t233 t238 t236).bind fun bt243 => ((impl_CutMelody.f k t233 0 t236).bind fun bt247 => ((impl_JoinMelodies.f k bt239.1 bt243.1).bind fun bt251 => ((spec_DurationOf.f k bt239.1).bind fun bt255 => ((spec_DurationOf.f k bt243.1).bind fun bt257 => (if bt239.2 = 0 then (if bt243.2 = 0 then (if bt247.2 = 0 then ((spec_SameMelody.f k bt247.1 t233).bind fun t259 => (if t259 = true then (if bt251.2 = 0 then (if bt255.2 = 0 then (if bt255.1 = t238 then (if bt257.2 = 0 then (if bt257.1 = (wrap64 (t236 - t238)) then (laws_FnCuts.j0 k t233 t236 bt251.1 (decide ((bt251.1.length : Int) > (wrap64 ((t233.length : Int) + 1))))) else (laws_FnCuts.j0 k t233 t236 bt251.1 true)) else (laws_FnCuts.j0 k t233 t236 bt251.1 true)) else (laws_FnCuts.j0 k t233 t236 bt251.1 true)) else (laws_FnCuts.j0 k t233 t236 bt251.1 true)) else (laws_FnCuts.j0 k t233 t236 bt251.1 true)) else (laws_FnCuts.j0 k t233 t236 bt251.1 true))) else (laws_FnCuts.j0 k t233 t236 bt251.1 true)) else (laws_FnCuts.j0 k t233 t236 bt251.1 true)) else (laws_FnCuts.j0 k t233 t236 bt251.1 true))))))))) = some r := H
   have A6 := Aside0.mk A60
   clear A60
   replace H := Option.bind_eq_some_iff.mp H
   obtain ⟨t238, A70, H⟩ := H
   replace H : ((impl_CutMelody.f k t233 0 t238).bind fun bt239 => ((impl_CutMelody.f k t233 t238 t236).bind fun bt243 => ((impl_CutMelody.f k t233 0 t236).bind fun bt247 => ((impl_JoinMelodies.f k bt239.1 bt243.1).bind fun bt251 => ((spec_DurationOf.f k bt239.1).bind fun bt255 => ((spec_DurationOf.f k bt243.1).bind fun bt257 => (if bt239.2 = 0 then (if bt243.2 = 0 then (if bt247.2 = 0 then ((spec_SameMelody.f k bt247.1 t233).bind fun t259 => (if t259 = true then (if bt251.2 = 0 then (if bt255.2 = 0 then (if bt255.1 = t238 then (if bt257.2 = 0 then (if bt257.1 = (wrap64 (t236 - t238)) then (laws_FnCuts.j0 k t233 t236 bt251.1 (decide ((bt251.1.length : Int) > (wrap64 ((t233.length : Int) + 1))))) else (laws_FnCuts.j0 k t233 t236 bt251.1 true)) else (laws_FnCuts.j0 k t233 t236 bt251.1 true)) else (laws_FnCuts.j0 k t233 t236 bt251.1 true)) else (laws_FnCuts.j0 k t233 t236 bt251.1 true)) else (laws_FnCuts.j0 k t233 t236 bt251.1 true)) else (laws_FnCuts.j0 k t233 t236 bt251.1 true))) else (laws_FnCuts.j0 k t233 t236 bt251.1 true)) else (laws_FnCuts.j0 k t233 t236 bt251.1 true)) else (laws_FnCuts.j0 k t233 t236 bt251.1 true)))))))) = some r := H
   have A7 := Aside0.mk A70
   clear A70
   replace H := Option.bind_eq_some_iff.mp H
   obtain ⟨⟨t239, t240⟩, A80, H⟩ := H
   replace H : ((impl_CutMelody.f k t233 t238 t236).bind fun bt243 => ((impl_CutMelody.f k t233 0 t236).bind fun bt247 => ((impl_JoinMelodies.f k t239 bt243.1).bind fun bt251 => ((spec_DurationOf.f k t239).bind fun bt255 => ((spec_DurationOf.f k bt243.1).bind fun bt257 => (if t240 = 0 then (if bt243.2 = 0 then (if bt247.2 = 0 then ((spec_SameMelody.f k bt247.1 t233).bind fun t259 => (if t259 = true then (if bt251.2 = 0 then (if bt255.2 = 0 then (if bt255.1 = t238 then (if bt257.2 = 0 then (if bt257.1 = (wrap64 (t236 - t238)) then (laws_FnCuts.j0 k t233 t236 bt251.1 (decide ((bt251.1.length : Int) > (wrap64 ((t233.length : Int) + 1))))) else (laws_FnCuts.j0 k t233 t236 bt251.1 true)) else (laws_FnCuts.j0 k t233 t236 bt251.1 true)) else (laws_FnCuts.j0 k t233 t236 bt251.1 true)) else (laws_FnCuts.j0 k t233 t236 bt251.1 true)) else (laws_FnCuts.j0 k t233 t236 bt251.1 true)) else (laws_FnCuts.j0 k t233 t236 bt251.1 true))) else (laws_FnCuts.j0 k t233 t236 bt251.1 true)) else (laws_FnCuts.j0 k t233 t236 bt251.1 true)) else (laws_FnCuts.j0 k t233 t236 bt251.1 true))))))) = some r := H
   have A8 := Aside0.mk A80
   clear A80
   replace H := Option.bind_eq_some_iff.mp H
   obtain ⟨⟨t243, t244⟩, A90, H⟩ := H
   replace H : ((impl_CutMelody.f k t233 0 t236).bind fun bt247 => ((impl_JoinMelodies.f k t239 t243).bind fun bt251 => ((spec_DurationOf.f k t239).bind fun bt255 => ((spec_DurationOf.f k t243).bind fun bt257 => (if t240 = 0 then (if t244 = 0 then (if bt247.2 = 0 then ((spec_SameMelody.f k bt247.1 t233).bind fun t259 => (if t259 = true then (if bt251.2 = 0 then (if bt255.2 = 0 then (if bt255.1 = t238 then (if bt257.2 = 0 then (if bt257.1 = (wrap64 (t236 - t238)) then (laws_FnCuts.j0 k t233 t236 bt251.1 (decide ((bt251.1.length : Int) > (wrap64 ((t233.length : Int) + 1))))) else (laws_FnCuts.j0 k t233 t236 bt251.1 true)) else (laws_FnCuts.j0 k t233 t236 bt251.1 true)) else (laws_FnCuts.j0 k t233 t236 bt251.1 true)) else (laws_FnCuts.j0 k t233 t236 bt251.1 true)) else (laws_FnCuts.j0 k t233 t236 bt251.1 true)) else (laws_FnCuts.j0 k t233 t236 bt251.1 true))) else (laws_FnCuts.j0 k t233 t236 bt251.1 true)) else (laws_FnCuts.j0 k t233 t236 bt251.1 true)) else (laws_FnCuts.j0 k t233 t236 bt251.1 true)))))) = some r := H
   have A9 := Aside0.mk A90
   clear A90
   replace H := Option.bind_eq_some_iff.mp H
   obtain ⟨⟨t247, t248⟩, A100, H⟩ := H
   replace H : ((impl_JoinMelodies.f k t239 t243).bind fun bt251 => ((spec_DurationOf.f k t239).bind fun bt255 => ((spec_DurationOf.f k t243).bind fun bt257 => (if t240 = 0 then (if t244 = 0 then (if t248 = 0 then ((spec_SameMelody.f k t247 t233).bind fun t259 => (if t259 = true then (if bt251.2 = 0 then (if bt255.2 = 0 then (if bt255.1 = t238 then (if bt257.2 = 0 then (if bt257.1 = (wrap64 (t236 - t238)) then (laws_FnCuts.j0 k t233 t236 bt251.1 (decide ((bt251.1.length : Int) > (wrap64 ((t233.length : Int) + 1))))) else (laws_FnCuts.j0 k t233 t236 bt251.1 true)) else (laws_FnCuts.j0 k t233 t236 bt251.1 true)) else (laws_FnCuts.j0 k t233 t236 bt251.1 true)) else (laws_FnCuts.j0 k t233 t236 bt251.1 true)) else (laws_FnCuts.j0 k t233 t236 bt251.1 true)) else (laws_FnCuts.j0 k t233 t236 bt251.1 true))) else (laws_FnCuts.j0 k t233 t236 bt251.1 true)) else (laws_FnCuts.j0 k t233 t236 bt251.1 true)) else (laws_FnCuts.j0 k t233 t236 bt251.1 true))))) = some r := H
   have A10 := Aside0.mk A100
   clear A100
   replace H := Option.bind_eq_some_iff.mp H
   obtain ⟨⟨t251, t254⟩, A110, H⟩ := H
   replace H : ((spec_DurationOf.f k t239).bind fun bt255 => ((spec_DurationOf.f k t243).bind fun bt257 => (if t240 = 0 then (if t244 = 0 then (if t248 = 0 then ((spec_SameMelody.f k t247 t233).bind fun t259 => (if t259 = true then (if t254 = 0 then (if bt255.2 = 0 then (if bt255.1 = t238 then (if bt257.2 = 0 then (if bt257.1 = (wrap64 (t236 - t238)) then (laws_FnCuts.j0 k t233 t236 t251 (decide ((t251.length : Int) > (wrap64 ((t233.length : Int) + 1))))) else (laws_FnCuts.j0 k t233 t236 t251 true)) else (laws_FnCuts.j0 k t233 t236 t251 true)) else (laws_FnCuts.j0 k t233 t236 t251 true)) else (laws_FnCuts.j0 k t233 t236 t251 true)) else (laws_FnCuts.j0 k t233 t236 t251 true)) else (laws_FnCuts.j0 k t233 t236 t251 true))) else (laws_FnCuts.j0 k t233 t236 t251 true)) else (laws_FnCuts.j0 k t233 t236 t251 true)) else (laws_FnCuts.j0 k t233 t236 t251 true)))) = some r := H
   have A11 := Aside0.mk A110
   clear A110
   replace H := Option.bind_eq_some_iff.mp H
   obtain ⟨⟨t255, t256⟩, A120, H⟩ := H
   replace H : ((spec_DurationOf.f k t243).bind fun bt257 => (if t240 = 0 then (if t244 = 0 then (if t248 = 0 then ((spec_SameMelody.f k t247 t233).bind fun t259 => (if t259 = true then (if t254 = 0 then (if t256 = 0 then (if t255 = t238 then (if bt257.2 = 0 then (if bt257.1 = (wrap64 (t236 - t238)) then (laws_FnCuts.j0 k t233 t236 t251 (decide ((t251.length : Int) > (wrap64 ((t233.length : Int) + 1))))) else (laws_FnCuts.j0 k t233 t236 t251 true)) else (laws_FnCuts.j0 k t233 t236 t251 true)) else (laws_FnCuts.j0 k t233 t236 t251 true)) else (laws_FnCuts.j0 k t233 t236 t251 true)) else (laws_FnCuts.j0 k t233 t236 t251 true)) else (laws_FnCuts.j0 k t233 t236 t251 true))) else (laws_FnCuts.j0 k t233 t236 t251 true)) else (laws_FnCuts.j0 k t233 t236 t251 true)) else (laws_FnCuts.j0 k t233 t236 t251 true))) = some r := H
   have A12 := Aside0.mk A120
   clear A120
   replace H := Option.bind_eq_some_iff.mp H
   obtain ⟨⟨t257, t258⟩, A130, H⟩ := H
   replace H : (if t240 = 0 then (if t244 = 0 then (if t248 = 0 then ((spec_SameMelody.f k t247 t233).bind fun t259 => (if t259 = true then (if t254 = 0 then (if t256 = 0 then (if t255 = t238 then (if t258 = 0 then (if t257 = (wrap64 (t236 - t238)) then (laws_FnCuts.j0 k t233 t236 t251 (decide ((t251.length : Int) > (wrap64 ((t233.length : Int) + 1))))) else (laws_FnCuts.j0 k t233 t236 t251 true)) else (laws_FnCuts.j0 k t233 t236 t251 true)) else (laws_FnCuts.j0 k t233 t236 t251 true)) else (laws_FnCuts.j0 k t233 t236 t251 true)) else (laws_FnCuts.j0 k t233 t236 t251 true)) else (laws_FnCuts.j0 k t233 t236 t251 true))) else (laws_FnCuts.j0 k t233 t236 t251 true)) else (laws_FnCuts.j0 k t233 t236 t251 true)) else (laws_FnCuts.j0 k t233 t236 t251 true)) = some r := H
   have A13 := Aside0.mk A130
   clear A130
   have HC14 := Aside0.mk H
   clear H
   go_enter Try.func5, Try.ntmps5
   go_upto_region 12 with (first | ((with_reducible refine gate_callee (f := 10) rfl ?_); refine goesL_ (some 32) rfl rfl Try.func10 (by kernel_rfl) rfl #[.slice A0 l0.length c0, .slice A1 l1.length c1] rfl (by (try simp only [List.map_toArray, List.map_cons, List.map_nil]); first | done | rfl | (simp only [List.length_drop, List.length_take]; rfl)) ?_; (with_reducible refine (laws_r8Long.calls _ _ l0 _ _ l1 false _ ?side1 ?side2 ?side3 ?side4 A3.out).mono ?_); (case side1 => repeat (first | exact HR0.out | (with_reducible refine Kd.C_alloc ?_ _) | (with_reducible refine Kd.C_drewN ?_ _) | (with_reducible refine Kd.C_drew ?_))); (case side2 => exact HC0.out); (case side3 => repeat (first | exact HR1.out | (with_reducible refine Kd.C_alloc ?_ _) | (with_reducible refine Kd.C_drewN ?_ _) | (with_reducible refine Kd.C_drew ?_))); (case side4 => exact HC1.out); rintro e w' ⟨rfl, ⟨nd, rfl⟩⟩; refine ⟨_, rfl, ?_⟩) | ((with_reducible refine gate_callee (f := 14) rfl ?_); refine goesL_ (some 34) rfl rfl Try.func14 (by kernel_rfl) rfl #[.slice A0 l0.length c0] rfl (by (try simp only [List.map_toArray, List.map_cons, List.map_nil]); first | done | rfl | (simp only [List.length_drop, List.length_take]; rfl)) ?_; (with_reducible refine (spec_R8Melody.calls k _ _ l0 t233 _ ?side1 ?side2 A5.out).mono ?_); (case side1 => repeat (first | exact HR0.out | (with_reducible refine Kd.C_alloc ?_ _) | (with_reducible refine Kd.C_drewN ?_ _) | (with_reducible refine Kd.C_drew ?_))); (case side2 => exact HC0.out); rintro e w15 ⟨v234, rfl, ho0, hb⟩; refine ⟨_, rfl, ?_⟩; have n0_ := Aside0.mk (Kd.R_lower ho0 (below_size (by repeat (first | (with_reducible first | exact HB.out | apply below_alloc | apply pw_below_drewN | apply below_drew1) | exact HB.out)))); have n1_ := Aside0.mk (below_step (by repeat (first | (with_reducible first | exact HB.out | apply below_alloc | apply pw_below_drewN | apply below_drew1) | exact HB.out)) hb); clear HB; have HO235 := n0_; have HB := n1_; clear n0_ n1_; (try clear hb); (try clear hb2); (try clear hk); (try clear hi); (try clear ho0); obtain ⟨Ao16, co16, eo16⟩ := Kd.R_slice HO235.out; subst eo16) | ((with_reducible refine gate_callee (f := 29) rfl ?_); refine goesL_ (some 37) rfl rfl Try.func29 (by kernel_rfl) rfl #[.slice Ao16 t233.length co16] rfl (by (try simp only [List.map_toArray, List.map_cons, List.map_nil]); first | done | rfl | (simp only [List.length_drop, List.length_take]; rfl)) ?_; (with_reducible refine (spec_DurationOf.calls k _ _ t233 t236 t237 _ ?side1 ?side2 A6.out).mono ?_); (case side1 => repeat (first | exact (Kd.R_reads' HO235.out).2.2 | (with_reducible refine Kd.C_alloc ?_ _) | (with_reducible refine Kd.C_drewN ?_ _) | (with_reducible refine Kd.C_drew ?_))); (case side2 => exact (Kd.R_reads' HO235.out).2.1); rintro e w' ⟨rfl, ⟨nd, rfl⟩⟩; refine ⟨_, rfl, ?_⟩) | ((with_reducible refine gate_callee (f := 11) rfl ?_); refine goesL_ (some 43) rfl rfl Try.func11 (by kernel_rfl) rfl #[.slice A1 l1.length c1, .int .i64 0, .int .i64 (wrap64 (t236 + 1))] rfl (by (try simp only [List.map_toArray, List.map_cons, List.map_nil]); first | done | rfl | (simp only [List.length_drop, List.length_take]; rfl)) ?_; (with_reducible refine (laws_r8At.calls _ _ l1 0 (wrap64 (t236 + 1)) t238 _ ?side1 ?side2 A7.out).mono ?_); (case side1 => repeat (first | exact (Kd.C_below HR1.out (by repeat (first | (with_reducible first | exact HB.out | apply below_alloc | apply pw_below_drewN | apply below_drew1) | exact HB.out))) | (with_reducible refine Kd.C_alloc ?_ _) | (with_reducible refine Kd.C_drewN ?_ _) | (with_reducible refine Kd.C_drew ?_))); (case side2 => exact HC1.out); rintro e w' ⟨rfl, ⟨nd, rfl⟩⟩; refine ⟨_, rfl, ?_⟩) | ((with_reducible refine gate_callee (f := 30) rfl ?_); refine goesL_ (some 47) rfl rfl Try.func30 (by kernel_rfl) rfl #[.slice Ao16 t233.length co16, .int .i64 0, .int .i64 t238] rfl (by (try simp only [List.map_toArray, List.map_cons, List.map_nil]); first | done | rfl | (simp only [List.length_drop, List.length_take]; rfl)) ?_; (with_reducible refine (impl_CutMelody.calls k _ _ t233 0 t238 t239 t240 _ ?side1 ?side2 A8.out).mono ?_); (case side1 => repeat (first | exact (Kd.R_reads' HO235.out).2.2 | (with_reducible refine Kd.C_alloc ?_ _) | (with_reducible refine Kd.C_drewN ?_ _) | (with_reducible refine Kd.C_drew ?_))); (case side2 => exact (Kd.R_reads' HO235.out).2.1); rintro e w17 ⟨v241, rfl, ho0, hb⟩; refine ⟨_, rfl, ?_⟩; have n0_ := Aside0.mk (Kd.R_elder' (by (with_reducible repeat (first | apply Kd.R_alloc | apply Kd.R_drewN | apply Kd.R_drew)); exact HO235.out) (Kd.R_base ho0) hb); have n1_ := Aside0.mk (Kd.R_lower (Kd.R_new' ho0 (Kd.R_lt (by (with_reducible repeat (first | apply Kd.R_alloc | apply Kd.R_drewN | apply Kd.R_drew)); exact HO235.out))) (below_size (by repeat (first | (with_reducible first | exact HB.out | apply below_alloc | apply pw_below_drewN | apply below_drew1) | exact HB.out)))); have n2_ := Aside0.mk (below_step (by repeat (first | (with_reducible first | exact HB.out | apply below_alloc | apply pw_below_drewN | apply below_drew1) | exact HB.out)) hb); clear HO235; clear HB; have HO235 := n0_; have HO242 := n1_; have HB := n2_; clear n0_ n1_ n2_; (try clear hb); (try clear hb2); (try clear hk); (try clear hi); (try clear ho0)) | ((with_reducible refine gate_callee (f := 30) rfl ?_); refine goesL_ (some 54) rfl rfl Try.func30 (by kernel_rfl) rfl #[.slice Ao16 t233.length co16, .int .i64 t238, .int .i64 t236] rfl (by (try simp only [List.map_toArray, List.map_cons, List.map_nil]); first | done | rfl | (simp only [List.length_drop, List.length_take]; rfl)) ?_; (with_reducible refine (impl_CutMelody.calls k _ _ t233 t238 t236 t243 t244 _ ?side1 ?side2 A9.out).mono ?_); (case side1 => repeat (first | exact (Kd.R_reads' HO235.out).2.2 | (with_reducible refine Kd.C_alloc ?_ _) | (with_reducible refine Kd.C_drewN ?_ _) | (with_reducible refine Kd.C_drew ?_))); (case side2 => exact (Kd.R_reads' HO235.out).2.1); rintro e w18 ⟨v245, rfl, ho0, hb⟩; refine ⟨_, rfl, ?_⟩; have n0_ := Aside0.mk (Kd.R_elder' (by (with_reducible repeat (first | apply Kd.R_alloc | apply Kd.R_drewN | apply Kd.R_drew)); exact HO235.out) (Kd.R_base ho0) hb); have n1_ := Aside0.mk (Kd.R_elder' (by (with_reducible repeat (first | apply Kd.R_alloc | apply Kd.R_drewN | apply Kd.R_drew)); exact HO242.out) (Kd.R_base ho0) hb); have n2_ := Aside0.mk (Kd.R_lower (Kd.R_new' (Kd.R_new' ho0 (Kd.R_lt (by (with_reducible repeat (first | apply Kd.R_alloc | apply Kd.R_drewN | apply Kd.R_drew)); exact HO235.out))) (Kd.R_lt (by (with_reducible repeat (first | apply Kd.R_alloc | apply Kd.R_drewN | apply Kd.R_drew)); exact HO242.out))) (below_size (by repeat (first | (with_reducible first | exact HB.out | apply below_alloc | apply pw_below_drewN | apply below_drew1) | exact HB.out)))); have n3_ := Aside0.mk (below_step (by repeat (first | (with_reducible first | exact HB.out | apply below_alloc | apply pw_below_drewN | apply below_drew1) | exact HB.out)) hb); clear HO235; clear HO242; clear HB; have HO235 := n0_; have HO242 := n1_; have HO246 := n2_; have HB := n3_; clear n0_ n1_ n2_ n3_; (try clear hb); (try clear hb2); (try clear hk); (try clear hi); (try clear ho0)) | ((with_reducible refine gate_callee (f := 30) rfl ?_); refine goesL_ (some 60) rfl rfl Try.func30 (by kernel_rfl) rfl #[.slice Ao16 t233.length co16, .int .i64 0, .int .i64 t236] rfl (by (try simp only [List.map_toArray, List.map_cons, List.map_nil]); first | done | rfl | (simp only [List.length_drop, List.length_take]; rfl)) ?_; (with_reducible refine (impl_CutMelody.calls k _ _ t233 0 t236 t247 t248 _ ?side1 ?side2 A10.out).mono ?_); (case side1 => repeat (first | exact (Kd.R_reads' HO235.out).2.2 | (with_reducible refine Kd.C_alloc ?_ _) | (with_reducible refine Kd.C_drewN ?_ _) | (with_reducible refine Kd.C_drew ?_))); (case side2 => exact (Kd.R_reads' HO235.out).2.1); rintro e w19 ⟨v249, rfl, ho0, hb⟩; refine ⟨_, rfl, ?_⟩; have n0_ := Aside0.mk (Kd.R_elder' (by (with_reducible repeat (first | apply Kd.R_alloc | apply Kd.R_drewN | apply Kd.R_drew)); exact HO235.out) (Kd.R_base ho0) hb); have n1_ := Aside0.mk (Kd.R_elder' (by (with_reducible repeat (first | apply Kd.R_alloc | apply Kd.R_drewN | apply Kd.R_drew)); exact HO242.out) (Kd.R_base ho0) hb); have n2_ := Aside0.mk (Kd.R_elder' (by (with_reducible repeat (first | apply Kd.R_alloc | apply Kd.R_drewN | apply Kd.R_drew)); exact HO246.out) (Kd.R_base ho0) hb); have n3_ := Aside0.mk (Kd.R_lower (Kd.R_new' (Kd.R_new' (Kd.R_new' ho0 (Kd.R_lt (by (with_reducible repeat (first | apply Kd.R_alloc | apply Kd.R_drewN | apply Kd.R_drew)); exact HO235.out))) (Kd.R_lt (by (with_reducible repeat (first | apply Kd.R_alloc | apply Kd.R_drewN | apply Kd.R_drew)); exact HO242.out))) (Kd.R_lt (by (with_reducible repeat (first | apply Kd.R_alloc | apply Kd.R_drewN | apply Kd.R_drew)); exact HO246.out))) (below_size (by repeat (first | (with_reducible first | exact HB.out | apply below_alloc | apply pw_below_drewN | apply below_drew1) | exact HB.out)))); have n4_ := Aside0.mk (below_step (by repeat (first | (with_reducible first | exact HB.out | apply below_alloc | apply pw_below_drewN | apply below_drew1) | exact HB.out)) hb); clear HO235; clear HO242; clear HO246; clear HB; have HO235 := n0_; have HO242 := n1_; have HO246 := n2_; have HO250 := n3_; have HB := n4_; clear n0_ n1_ n2_ n3_ n4_; (try clear hb); (try clear hb2); (try clear hk); (try clear hi); (try clear ho0); obtain ⟨Ao20, co20, eo20⟩ := Kd.R_slice HO242.out; subst eo20; obtain ⟨Ao21, co21, eo21⟩ := Kd.R_slice HO246.out; subst eo21) | ((with_reducible refine gate_callee (f := 31) rfl ?_); refine goesL_ (some 66) rfl rfl Try.func31 (by kernel_rfl) rfl #[.slice Ao20 t239.length co20, .slice Ao21 t243.length co21] rfl (by (try simp only [List.map_toArray, List.map_cons, List.map_nil]); first | done | rfl | (simp only [List.length_drop, List.length_take]; rfl)) ?_; (with_reducible refine (impl_JoinMelodies.calls k (fun k_ => some k_ = (.slice Ao20 t239.length co20 : Value).ownBlock) _ _ t239 (fun k_ => some k_ = (.slice Ao21 t243.length co21 : Value).ownBlock) _ _ t243 t251 t254 _ ?side1 ?side2 A11.out).mono ?_); (case side1 => exact Kd.R_V (Kd.R_tight rfl (HO242.out))); (case side2 => exact Kd.R_V (Kd.R_tight rfl (HO246.out))); rintro e w22 ⟨v252, rfl, ho0, hb⟩; refine ⟨_, rfl, ?_⟩; have n0_ := Aside0.mk (Kd.R_elder' (by (with_reducible repeat (first | apply Kd.R_alloc | apply Kd.R_drewN | apply Kd.R_drew)); exact HO235.out) (Kd.R_base ho0) hb); have n1_ := Aside0.mk (Kd.R_elder' (by (with_reducible repeat (first | apply Kd.R_alloc | apply Kd.R_drewN | apply Kd.R_drew)); exact HO242.out) (Kd.R_base ho0) hb); have n2_ := Aside0.mk (Kd.R_elder' (by (with_reducible repeat (first | apply Kd.R_alloc | apply Kd.R_drewN | apply Kd.R_drew)); exact HO246.out) (Kd.R_base ho0) hb); have n3_ := Aside0.mk (Kd.R_elder' (by (with_reducible repeat (first | apply Kd.R_alloc | apply Kd.R_drewN | apply Kd.R_drew)); exact HO250.out) (Kd.R_base ho0) hb); have n4_ := Aside0.mk (Kd.R_lower (Kd.R_new' (Kd.R_new' (Kd.R_new' (Kd.R_new' (Kd.R_mono (ok' := fun k_ => True) ho0 (fun _ hk_ => trivial)) (Kd.R_lt (by (with_reducible repeat (first | apply Kd.R_alloc | apply Kd.R_drewN | apply Kd.R_drew)); exact HO235.out))) (Kd.R_lt (by (with_reducible repeat (first | apply Kd.R_alloc | apply Kd.R_drewN | apply Kd.R_drew)); exact HO242.out))) (Kd.R_lt (by (with_reducible repeat (first | apply Kd.R_alloc | apply Kd.R_drewN | apply Kd.R_drew)); exact HO246.out))) (Kd.R_lt (by (with_reducible repeat (first | apply Kd.R_alloc | apply Kd.R_drewN | apply Kd.R_drew)); exact HO250.out))) (below_size (by repeat (first | (with_reducible first | exact HB.out | apply below_alloc | apply pw_below_drewN | apply below_drew1) | exact HB.out)))); have n5_ := Aside0.mk (below_step (by repeat (first | (with_reducible first | exact HB.out | apply below_alloc | apply pw_below_drewN | apply below_drew1) | exact HB.out)) hb); clear HO235; clear HO242; clear HO246; clear HO250; clear HB; have HO235 := n0_; have HO242 := n1_; have HO246 := n2_; have HO250 := n3_; have HO253 := n4_; have HB := n5_; clear n0_ n1_ n2_ n3_ n4_ n5_; (try clear hb); (try clear hb2); (try clear hk); (try clear hi); (try clear ho0)) | ((with_reducible refine gate_callee (f := 29) rfl ?_); refine goesL_ (some 71) rfl rfl Try.func29 (by kernel_rfl) rfl #[.slice Ao20 t239.length co20] rfl (by (try simp only [List.map_toArray, List.map_cons, List.map_nil]); first | done | rfl | (simp only [List.length_drop, List.length_take]; rfl)) ?_; (with_reducible refine (spec_DurationOf.calls k _ _ t239 t255 t256 _ ?side1 ?side2 A12.out).mono ?_); (case side1 => repeat (first | exact (Kd.R_reads' HO242.out).2.2 | (with_reducible refine Kd.C_alloc ?_ _) | (with_reducible refine Kd.C_drewN ?_ _) | (with_reducible refine Kd.C_drew ?_))); (case side2 => exact (Kd.R_reads' HO242.out).2.1); rintro e w' ⟨rfl, ⟨nd, rfl⟩⟩; refine ⟨_, rfl, ?_⟩) | ((with_reducible refine gate_callee (f := 29) rfl ?_); refine goesL_ (some 76) rfl rfl Try.func29 (by kernel_rfl) rfl #[.slice Ao21 t243.length co21] rfl (by (try simp only [List.map_toArray, List.map_cons, List.map_nil]); first | done | rfl | (simp only [List.length_drop, List.length_take]; rfl)) ?_; (with_reducible refine (spec_DurationOf.calls k _ _ t243 t257 t258 _ ?side1 ?side2 A13.out).mono ?_); (case side1 => repeat (first | exact (Kd.R_reads' HO246.out).2.2 | (with_reducible refine Kd.C_alloc ?_ _) | (with_reducible refine Kd.C_drewN ?_ _) | (with_reducible refine Kd.C_drew ?_))); (case side2 => exact (Kd.R_reads' HO246.out).2.1); rintro e w' ⟨rfl, ⟨nd, rfl⟩⟩; refine ⟨_, rfl, ?_⟩))
   (try simp only [Act.put, sx0, sx1, sx2])
   go_cut [126] (fun v126 wc => ∃ (kq : Nat) (x126_13 : Bool), v126 = .bool x126_13 ∧ Aside0 (laws_FnCuts.j0 kq t233 t236 t251 x126_13 = some r) ∧ Aside0 (kq ≤ k) ∧ Aside0 (Kd.R k40 40 wc w.heap.size (fun k_ => some k_ ≠ (v252 : Value).ownBlock) (.slice Ao16 t233.length co16) t233) ∧ Aside0 (Kd.R k40 40 wc w.heap.size (fun k_ => some k_ ≠ ((.slice Ao16 t233.length co16) : Value).ownBlock) v252 t251) ∧ Aside0 (Below w.heap.size w wc))
   case first =>
    have H := HC14.out
    clear HC14
    by_cases c23 : t240 = 0
    · rw [if_pos c23] at H
      have c23b0 : (t240 == 0) = true := beq_iff_eq.mpr c23
      have c23b1 : (t240 != 0) = false := bne_eq_false_iff_eq.mpr c23
      clear c23
      (first | rw [c23b0] | (simp only [i64_w, i32_w]; rw [c23b0]) | skip)
      by_cases c24 : t244 = 0
      · rw [if_pos c24] at H
        have c24b0 : (t244 == 0) = true := beq_iff_eq.mpr c24
        have c24b1 : (t244 != 0) = false := bne_eq_false_iff_eq.mpr c24
        clear c24
        by_cases c25 : t248 = 0
        · rw [if_pos c25] at H
          have c25b0 : (t248 == 0) = true := beq_iff_eq.mpr c25
          have c25b1 : (t248 != 0) = false := bne_eq_false_iff_eq.mpr c25
          clear c25
          replace H := Option.bind_eq_some_iff.mp H
          obtain ⟨t259, A260, H⟩ := H
          replace H : (if t259 = true then (if t254 = 0 then (if t256 = 0 then (if t255 = t238 then (if t258 = 0 then (if t257 = (wrap64 (t236 - t238)) then (laws_FnCuts.j0 k t233 t236 t251 (decide ((t251.length : Int) > (wrap64 ((t233.length : Int) + 1))))) else (laws_FnCuts.j0 k t233 t236 t251 true)) else (laws_FnCuts.j0 k t233 t236 t251 true)) else (laws_FnCuts.j0 k t233 t236 t251 true)) else (laws_FnCuts.j0 k t233 t236 t251 true)) else (laws_FnCuts.j0 k t233 t236 t251 true)) else (laws_FnCuts.j0 k t233 t236 t251 true)) = some r := H
          have A26 := Aside0.mk A260
          clear A260
          by_cases c27 : t259 = true
          · subst c27
            have H1 : (if t254 = 0 then (if t256 = 0 then (if t255 = t238 then (if t258 = 0 then (if t257 = (wrap64 (t236 - t238)) then (laws_FnCuts.j0 k t233 t236 t251 (decide ((t251.length : Int) > (wrap64 ((t233.length : Int) + 1))))) else (laws_FnCuts.j0 k t233 t236 t251 true)) else (laws_FnCuts.j0 k t233 t236 t251 true)) else (laws_FnCuts.j0 k t233 t236 t251 true)) else (laws_FnCuts.j0 k t233 t236 t251 true)) else (laws_FnCuts.j0 k t233 t236 t251 true)) = some r := by rw [if_pos rfl] at H; exact H
            clear H
            have H := H1
            clear H1
            by_cases c28 : t254 = 0
            · rw [if_pos c28] at H
              have c28b0 : (t254 == 0) = true := beq_iff_eq.mpr c28
              have c28b1 : (t254 != 0) = false := bne_eq_false_iff_eq.mpr c28
              clear c28
              by_cases c29 : t256 = 0
              · rw [if_pos c29] at H
                have c29b0 : (t256 == 0) = true := beq_iff_eq.mpr c29
                have c29b1 : (t256 != 0) = false := bne_eq_false_iff_eq.mpr c29
                clear c29
                by_cases c30 : t255 = t238
                · rw [if_pos c30] at H
                  have c30b0 : (t255 == t238) = true := beq_iff_eq.mpr c30
                  have c30b1 : (t255 != t238) = false := bne_eq_false_iff_eq.mpr c30
                  clear c30
                  by_cases c31 : t258 = 0
                  · rw [if_pos c31] at H
                    have c31b0 : (t258 == 0) = true := beq_iff_eq.mpr c31
                    have c31b1 : (t258 != 0) = false := bne_eq_false_iff_eq.mpr c31
                    clear c31
                    by_cases c32 : t257 = (wrap64 (t236 - t238))
                    · rw [if_pos c32] at H
                      have c32b0 : (t257 == (wrap64 (t236 - t238))) = true := beq_iff_eq.mpr c32
                      have c32b1 : (t257 != (wrap64 (t236 - t238))) = false := bne_eq_false_iff_eq.mpr c32
                      clear c32
                      have H' := Aside0.mk H
                      clear H
                      obtain ⟨Ao33, co33, eo33⟩ := Kd.R_slice HO250.out
                      subst eo33
                      go_wp2_with (first | (go_at_call 32; (with_reducible refine (spec_SameMelody.calls k _ _ t247 _ _ t233 true _ ?side1 ?side2 ?side3 ?side4 A26.out).mono ?_); (case side1 => repeat (first | exact (Kd.R_reads' HO250.out).2.2 | (with_reducible refine Kd.C_alloc ?_ _) | (with_reducible refine Kd.C_drewN ?_ _) | (with_reducible refine Kd.C_drew ?_))); (case side2 => exact (Kd.R_reads' HO250.out).2.1); (case side3 => repeat (first | exact (Kd.R_reads' HO235.out).2.2 | (with_reducible refine Kd.C_alloc ?_ _) | (with_reducible refine Kd.C_drewN ?_ _) | (with_reducible refine Kd.C_drew ?_))); (case side4 => exact (Kd.R_reads' HO235.out).2.1); rintro e w' ⟨rfl, ⟨nd, rfl⟩⟩; obtain ⟨Ao34, co34, eo34⟩ := Kd.R_slice HO253.out; subst eo34))
                      go_meet
                      case rel => exact ⟨_, (decide ((t251.length : Int) > (wrap64 ((t233.length : Int) + 1)))), (by first | rfl | (simp; done) | (simp [*]; done)), H', ⟨by first | omega | exact Nat.le_refl _⟩, ⟨by (with_reducible repeat (first | apply Kd.R_alloc | apply Kd.R_drewN | apply Kd.R_drew)); exact Kd.R_mono HO235.out (fun _ hk => hk.2)⟩, ⟨by (with_reducible repeat (first | apply Kd.R_alloc | apply Kd.R_drewN | apply Kd.R_drew)); exact Kd.R_mono HO253.out (fun _ hk => hk.1.1.1.2)⟩, ⟨by repeat (first | (with_reducible first | exact HB.out | apply below_alloc | apply pw_below_drewN | apply below_drew1) | exact HB.out)⟩⟩
                    · rw [if_neg c32] at H
                      have c32b0 : (t257 == (wrap64 (t236 - t238))) = false := beq_eq_false_iff_ne.mpr c32
                      have c32b1 : (t257 != (wrap64 (t236 - t238))) = true := bne_iff_ne.mpr c32
                      have H' := Aside0.mk H
                      clear H
                      obtain ⟨Ao35, co35, eo35⟩ := Kd.R_slice HO250.out
                      subst eo35
                      go_wp2_with (first | (go_at_call 32; (with_reducible refine (spec_SameMelody.calls k _ _ t247 _ _ t233 true _ ?side1 ?side2 ?side3 ?side4 A26.out).mono ?_); (case side1 => repeat (first | exact (Kd.R_reads' HO250.out).2.2 | (with_reducible refine Kd.C_alloc ?_ _) | (with_reducible refine Kd.C_drewN ?_ _) | (with_reducible refine Kd.C_drew ?_))); (case side2 => exact (Kd.R_reads' HO250.out).2.1); (case side3 => repeat (first | exact (Kd.R_reads' HO235.out).2.2 | (with_reducible refine Kd.C_alloc ?_ _) | (with_reducible refine Kd.C_drewN ?_ _) | (with_reducible refine Kd.C_drew ?_))); (case side4 => exact (Kd.R_reads' HO235.out).2.1); rintro e w' ⟨rfl, ⟨nd, rfl⟩⟩))
                      go_meet
                      case rel => exact ⟨_, (true), (by first | rfl | (simp; done) | (simp [*]; done)), H', ⟨by first | omega | exact Nat.le_refl _⟩, ⟨by (with_reducible repeat (first | apply Kd.R_alloc | apply Kd.R_drewN | apply Kd.R_drew)); exact Kd.R_mono HO235.out (fun _ hk => hk.2)⟩, ⟨by (with_reducible repeat (first | apply Kd.R_alloc | apply Kd.R_drewN | apply Kd.R_drew)); exact Kd.R_mono HO253.out (fun _ hk => hk.1.1.1.2)⟩, ⟨by repeat (first | (with_reducible first | exact HB.out | apply below_alloc | apply pw_below_drewN | apply below_drew1) | exact HB.out)⟩⟩
                  · rw [if_neg c31] at H
                    have c31b0 : (t258 == 0) = false := beq_eq_false_iff_ne.mpr c31
                    have c31b1 : (t258 != 0) = true := bne_iff_ne.mpr c31
                    have H' := Aside0.mk H
                    clear H
                    obtain ⟨Ao36, co36, eo36⟩ := Kd.R_slice HO250.out
                    subst eo36
                    go_wp2_with (first | (go_at_call 32; (with_reducible refine (spec_SameMelody.calls k _ _ t247 _ _ t233 true _ ?side1 ?side2 ?side3 ?side4 A26.out).mono ?_); (case side1 => repeat (first | exact (Kd.R_reads' HO250.out).2.2 | (with_reducible refine Kd.C_alloc ?_ _) | (with_reducible refine Kd.C_drewN ?_ _) | (with_reducible refine Kd.C_drew ?_))); (case side2 => exact (Kd.R_reads' HO250.out).2.1); (case side3 => repeat (first | exact (Kd.R_reads' HO235.out).2.2 | (with_reducible refine Kd.C_alloc ?_ _) | (with_reducible refine Kd.C_drewN ?_ _) | (with_reducible refine Kd.C_drew ?_))); (case side4 => exact (Kd.R_reads' HO235.out).2.1); rintro e w' ⟨rfl, ⟨nd, rfl⟩⟩))
                    go_meet
                    case rel => exact ⟨_, (true), (by first | rfl | (simp; done) | (simp [*]; done)), H', ⟨by first | omega | exact Nat.le_refl _⟩, ⟨by (with_reducible repeat (first | apply Kd.R_alloc | apply Kd.R_drewN | apply Kd.R_drew)); exact Kd.R_mono HO235.out (fun _ hk => hk.2)⟩, ⟨by (with_reducible repeat (first | apply Kd.R_alloc | apply Kd.R_drewN | apply Kd.R_drew)); exact Kd.R_mono HO253.out (fun _ hk => hk.1.1.1.2)⟩, ⟨by repeat (first | (with_reducible first | exact HB.out | apply below_alloc | apply pw_below_drewN | apply below_drew1) | exact HB.out)⟩⟩
                · rw [if_neg c30] at H
                  have c30b0 : (t255 == t238) = false := beq_eq_false_iff_ne.mpr c30
                  have c30b1 : (t255 != t238) = true := bne_iff_ne.mpr c30
                  have H' := Aside0.mk H
                  clear H
                  obtain ⟨Ao37, co37, eo37⟩ := Kd.R_slice HO250.out
                  subst eo37
                  go_wp2_with (first | (go_at_call 32; (with_reducible refine (spec_SameMelody.calls k _ _ t247 _ _ t233 true _ ?side1 ?side2 ?side3 ?side4 A26.out).mono ?_); (case side1 => repeat (first | exact (Kd.R_reads' HO250.out).2.2 | (with_reducible refine Kd.C_alloc ?_ _) | (with_reducible refine Kd.C_drewN ?_ _) | (with_reducible refine Kd.C_drew ?_))); (case side2 => exact (Kd.R_reads' HO250.out).2.1); (case side3 => repeat (first | exact (Kd.R_reads' HO235.out).2.2 | (with_reducible refine Kd.C_alloc ?_ _) | (with_reducible refine Kd.C_drewN ?_ _) | (with_reducible refine Kd.C_drew ?_))); (case side4 => exact (Kd.R_reads' HO235.out).2.1); rintro e w' ⟨rfl, ⟨nd, rfl⟩⟩))
                  go_meet
                  case rel => exact ⟨_, (true), (by first | rfl | (simp; done) | (simp [*]; done)), H', ⟨by first | omega | exact Nat.le_refl _⟩, ⟨by (with_reducible repeat (first | apply Kd.R_alloc | apply Kd.R_drewN | apply Kd.R_drew)); exact Kd.R_mono HO235.out (fun _ hk => hk.2)⟩, ⟨by (with_reducible repeat (first | apply Kd.R_alloc | apply Kd.R_drewN | apply Kd.R_drew)); exact Kd.R_mono HO253.out (fun _ hk => hk.1.1.1.2)⟩, ⟨by repeat (first | (with_reducible first | exact HB.out | apply below_alloc | apply pw_below_drewN | apply below_drew1) | exact HB.out)⟩⟩
              · rw [if_neg c29] at H
                have c29b0 : (t256 == 0) = false := beq_eq_false_iff_ne.mpr c29
                have c29b1 : (t256 != 0) = true := bne_iff_ne.mpr c29
                have H' := Aside0.mk H
                clear H
                obtain ⟨Ao38, co38, eo38⟩ := Kd.R_slice HO250.out
                subst eo38
                go_wp2_with (first | (go_at_call 32; (with_reducible refine (spec_SameMelody.calls k _ _ t247 _ _ t233 true _ ?side1 ?side2 ?side3 ?side4 A26.out).mono ?_); (case side1 => repeat (first | exact (Kd.R_reads' HO250.out).2.2 | (with_reducible refine Kd.C_alloc ?_ _) | (with_reducible refine Kd.C_drewN ?_ _) | (with_reducible refine Kd.C_drew ?_))); (case side2 => exact (Kd.R_reads' HO250.out).2.1); (case side3 => repeat (first | exact (Kd.R_reads' HO235.out).2.2 | (with_reducible refine Kd.C_alloc ?_ _) | (with_reducible refine Kd.C_drewN ?_ _) | (with_reducible refine Kd.C_drew ?_))); (case side4 => exact (Kd.R_reads' HO235.out).2.1); rintro e w' ⟨rfl, ⟨nd, rfl⟩⟩))
                go_meet
                case rel => exact ⟨_, (true), (by first | rfl | (simp; done) | (simp [*]; done)), H', ⟨by first | omega | exact Nat.le_refl _⟩, ⟨by (with_reducible repeat (first | apply Kd.R_alloc | apply Kd.R_drewN | apply Kd.R_drew)); exact Kd.R_mono HO235.out (fun _ hk => hk.2)⟩, ⟨by (with_reducible repeat (first | apply Kd.R_alloc | apply Kd.R_drewN | apply Kd.R_drew)); exact Kd.R_mono HO253.out (fun _ hk => hk.1.1.1.2)⟩, ⟨by repeat (first | (with_reducible first | exact HB.out | apply below_alloc | apply pw_below_drewN | apply below_drew1) | exact HB.out)⟩⟩
            · rw [if_neg c28] at H
              have c28b0 : (t254 == 0) = false := beq_eq_false_iff_ne.mpr c28
              have c28b1 : (t254 != 0) = true := bne_iff_ne.mpr c28
              have H' := Aside0.mk H
              clear H
              obtain ⟨Ao39, co39, eo39⟩ := Kd.R_slice HO250.out
              subst eo39
              go_wp2_with (first | (go_at_call 32; (with_reducible refine (spec_SameMelody.calls k _ _ t247 _ _ t233 true _ ?side1 ?side2 ?side3 ?side4 A26.out).mono ?_); (case side1 => repeat (first | exact (Kd.R_reads' HO250.out).2.2 | (with_reducible refine Kd.C_alloc ?_ _) | (with_reducible refine Kd.C_drewN ?_ _) | (with_reducible refine Kd.C_drew ?_))); (case side2 => exact (Kd.R_reads' HO250.out).2.1); (case side3 => repeat (first | exact (Kd.R_reads' HO235.out).2.2 | (with_reducible refine Kd.C_alloc ?_ _) | (with_reducible refine Kd.C_drewN ?_ _) | (with_reducible refine Kd.C_drew ?_))); (case side4 => exact (Kd.R_reads' HO235.out).2.1); rintro e w' ⟨rfl, ⟨nd, rfl⟩⟩))
              go_meet
              case rel => exact ⟨_, (true), (by first | rfl | (simp; done) | (simp [*]; done)), H', ⟨by first | omega | exact Nat.le_refl _⟩, ⟨by (with_reducible repeat (first | apply Kd.R_alloc | apply Kd.R_drewN | apply Kd.R_drew)); exact Kd.R_mono HO235.out (fun _ hk => hk.2)⟩, ⟨by (with_reducible repeat (first | apply Kd.R_alloc | apply Kd.R_drewN | apply Kd.R_drew)); exact Kd.R_mono HO253.out (fun _ hk => hk.1.1.1.2)⟩, ⟨by repeat (first | (with_reducible first | exact HB.out | apply below_alloc | apply pw_below_drewN | apply below_drew1) | exact HB.out)⟩⟩
          · replace c27 := Bool.eq_false_iff.mpr c27
            subst c27
            have H1 : (laws_FnCuts.j0 k t233 t236 t251 true) = some r := by rw [if_neg (show ¬ (false = true) by decide)] at H; exact H
            clear H
            have H := H1
            clear H1
            have H' := Aside0.mk H
            clear H
            obtain ⟨Ao40, co40, eo40⟩ := Kd.R_slice HO250.out
            subst eo40
            go_wp2_with (first | (go_at_call 32; (with_reducible refine (spec_SameMelody.calls k _ _ t247 _ _ t233 false _ ?side1 ?side2 ?side3 ?side4 A26.out).mono ?_); (case side1 => repeat (first | exact (Kd.R_reads' HO250.out).2.2 | (with_reducible refine Kd.C_alloc ?_ _) | (with_reducible refine Kd.C_drewN ?_ _) | (with_reducible refine Kd.C_drew ?_))); (case side2 => exact (Kd.R_reads' HO250.out).2.1); (case side3 => repeat (first | exact (Kd.R_reads' HO235.out).2.2 | (with_reducible refine Kd.C_alloc ?_ _) | (with_reducible refine Kd.C_drewN ?_ _) | (with_reducible refine Kd.C_drew ?_))); (case side4 => exact (Kd.R_reads' HO235.out).2.1); rintro e w' ⟨rfl, ⟨nd, rfl⟩⟩))
            go_meet
            case rel => exact ⟨_, (true), (by first | rfl | (simp; done) | (simp [*]; done)), H', ⟨by first | omega | exact Nat.le_refl _⟩, ⟨by (with_reducible repeat (first | apply Kd.R_alloc | apply Kd.R_drewN | apply Kd.R_drew)); exact Kd.R_mono HO235.out (fun _ hk => hk.2)⟩, ⟨by (with_reducible repeat (first | apply Kd.R_alloc | apply Kd.R_drewN | apply Kd.R_drew)); exact Kd.R_mono HO253.out (fun _ hk => hk.1.1.1.2)⟩, ⟨by repeat (first | (with_reducible first | exact HB.out | apply below_alloc | apply pw_below_drewN | apply below_drew1) | exact HB.out)⟩⟩
        · rw [if_neg c25] at H
          have c25b0 : (t248 == 0) = false := beq_eq_false_iff_ne.mpr c25
          have c25b1 : (t248 != 0) = true := bne_iff_ne.mpr c25
          have H' := Aside0.mk H
          clear H
          go_wp2
          go_meet
          case rel => exact ⟨_, (true), (by first | rfl | (simp; done) | (simp [*]; done)), H', ⟨by first | omega | exact Nat.le_refl _⟩, ⟨by (with_reducible repeat (first | apply Kd.R_alloc | apply Kd.R_drewN | apply Kd.R_drew)); exact Kd.R_mono HO235.out (fun _ hk => hk.2)⟩, ⟨by (with_reducible repeat (first | apply Kd.R_alloc | apply Kd.R_drewN | apply Kd.R_drew)); exact Kd.R_mono HO253.out (fun _ hk => hk.1.1.1.2)⟩, ⟨by repeat (first | (with_reducible first | exact HB.out | apply below_alloc | apply pw_below_drewN | apply below_drew1) | exact HB.out)⟩⟩
      · rw [if_neg c24] at H
        have c24b0 : (t244 == 0) = false := beq_eq_false_iff_ne.mpr c24
        have c24b1 : (t244 != 0) = true := bne_iff_ne.mpr c24
        have H' := Aside0.mk H
        clear H
        go_wp2
        go_meet
        case rel => exact ⟨_, (true), (by first | rfl | (simp; done) | (simp [*]; done)), H', ⟨by first | omega | exact Nat.le_refl _⟩, ⟨by (with_reducible repeat (first | apply Kd.R_alloc | apply Kd.R_drewN | apply Kd.R_drew)); exact Kd.R_mono HO235.out (fun _ hk => hk.2)⟩, ⟨by (with_reducible repeat (first | apply Kd.R_alloc | apply Kd.R_drewN | apply Kd.R_drew)); exact Kd.R_mono HO253.out (fun _ hk => hk.1.1.1.2)⟩, ⟨by repeat (first | (with_reducible first | exact HB.out | apply below_alloc | apply pw_below_drewN | apply below_drew1) | exact HB.out)⟩⟩
    · rw [if_neg c23] at H
      have c23b0 : (t240 == 0) = false := beq_eq_false_iff_ne.mpr c23
      have c23b1 : (t240 != 0) = true := bne_iff_ne.mpr c23
      (first | rw [c23b0] | (simp only [i64_w, i32_w]; rw [c23b0]) | skip)
      have H' := Aside0.mk H
      clear H
      go_wp2
      go_meet
      case rel => exact ⟨_, (true), (by first | rfl | (simp; done) | (simp [*]; done)), H', ⟨by first | omega | exact Nat.le_refl _⟩, ⟨by (with_reducible repeat (first | apply Kd.R_alloc | apply Kd.R_drewN | apply Kd.R_drew)); exact Kd.R_mono HO235.out (fun _ hk => hk.2)⟩, ⟨by (with_reducible repeat (first | apply Kd.R_alloc | apply Kd.R_drewN | apply Kd.R_drew)); exact Kd.R_mono HO253.out (fun _ hk => hk.1.1.1.2)⟩, ⟨by repeat (first | (with_reducible first | exact HB.out | apply below_alloc | apply pw_below_drewN | apply below_drew1) | exact HB.out)⟩⟩
   case rest =>
    clear HC14
    try clear c1
    try clear c2
    try clear p2
    try clear c3
    try clear c4
    try clear c5
    try clear p6
    try clear c10
    try clear c11
    try clear c14
    try clear c23
    try clear c23b0
    try clear c23b1
    try clear c24
    try clear c24b0
    try clear c24b1
    try clear c25
    try clear c25b0
    try clear c25b1
    try clear c27
    try clear c28
    try clear c28b0
    try clear c28b1
    try clear c29
    try clear c29b0
    try clear c29b1
    try clear c30
    try clear c30b0
    try clear c30b1
    try clear c31
    try clear c31b0
    try clear c31b1
    try clear c32
    try clear c32b0
    try clear c32b1
    obtain ⟨kq, x126_13, rfl, HA, HJ13, HO_5, HO_15, HB⟩ := hcut
    cases kq with
    | zero => exact absurd HA.out (by simp [laws_FnCuts.j0])
    | succ kj13 =>
     have H := HA.out
     clear HA
     simp only [laws_FnCuts.j0] at H
     by_cases c41 : x126_13 = true
     · subst c41
       have H1 : (some false) = some r := by rw [if_pos rfl] at H; exact H
       clear H
       have H := H1
       clear H1
       obtain rfl := Option.some.inj H
       go_wp2
       go_ret
       exact ⟨by first | rfl | (simp [errW_none, errW_some] <;> rfl) | (simp [*, errW_none, errW_some] <;> rfl), by repeat (first | (with_reducible first | exact HB.out | apply below_alloc | apply pw_below_drewN | apply below_drew1) | exact HB.out)⟩
     · replace c41 := Bool.eq_false_iff.mpr c41
       subst c41
       have H1 : ((impl_TieMelody.f kj13 t251).bind fun bt260 => ((impl_TieMelody.f kj13 t233).bind fun bt264 => (if bt260.2 = 0 then (laws_FnCuts.j1 kj13 t236 bt260.1 bt264.1 (bt264.2 != 0)) else (laws_FnCuts.j1 kj13 t236 bt260.1 bt264.1 true)))) = some r := by rw [if_neg (show ¬ (false = true) by decide)] at H; exact H
       clear H
       have H := H1
       clear H1
       replace H := Option.bind_eq_some_iff.mp H
       obtain ⟨⟨t260, t261⟩, A420, H⟩ := H
       replace H : ((impl_TieMelody.f kj13 t233).bind fun bt264 => (if t261 = 0 then (laws_FnCuts.j1 kj13 t236 t260 bt264.1 (bt264.2 != 0)) else (laws_FnCuts.j1 kj13 t236 t260 bt264.1 true))) = some r := H
       have A42 := Aside0.mk A420
       clear A420
       replace H := Option.bind_eq_some_iff.mp H
       obtain ⟨⟨t264, t265⟩, A430, H⟩ := H
       replace H : (if t261 = 0 then (laws_FnCuts.j1 kj13 t236 t260 t264 (t265 != 0)) else (laws_FnCuts.j1 kj13 t236 t260 t264 true)) = some r := H
       have A43 := Aside0.mk A430
       clear A430
       have HC44 := Aside0.mk H
       clear H
       obtain ⟨Ao45, co45, eo45⟩ := Kd.R_slice HO_15.out
       subst eo45
       go_upto_region 16 with (first | ((with_reducible refine gate_callee (f := 33) rfl ?_); refine goesL_ (some 129) rfl rfl Try.func33 (by kernel_rfl) rfl #[.slice Ao45 t251.length co45] rfl (by (try simp only [List.map_toArray, List.map_cons, List.map_nil]); first | done | rfl | (simp only [List.length_drop, List.length_take]; rfl)) ?_; (with_reducible refine (impl_TieMelody.calls kj13 _ _ t251 t260 t261 _ ?side1 ?side2 A42.out).mono ?_); (case side1 => repeat (first | exact (Kd.R_reads' HO_15.out).2.2 | (with_reducible refine Kd.C_alloc ?_ _) | (with_reducible refine Kd.C_drewN ?_ _) | (with_reducible refine Kd.C_drew ?_))); (case side2 => exact (Kd.R_reads' HO_15.out).2.1); rintro e w46 ⟨v262, rfl, ho0, hb⟩; refine ⟨_, rfl, ?_⟩; have n0_ := Aside0.mk (Kd.R_elder' (by (with_reducible repeat (first | apply Kd.R_alloc | apply Kd.R_drewN | apply Kd.R_drew)); exact HO_5.out) (Kd.R_base ho0) hb); have n1_ := Aside0.mk (Kd.R_elder' (by (with_reducible repeat (first | apply Kd.R_alloc | apply Kd.R_drewN | apply Kd.R_drew)); exact HO_15.out) (Kd.R_base ho0) hb); have n2_ := Aside0.mk (Kd.R_lower (Kd.R_new' (Kd.R_new' ho0 (Kd.R_lt (by (with_reducible repeat (first | apply Kd.R_alloc | apply Kd.R_drewN | apply Kd.R_drew)); exact HO_5.out))) (Kd.R_lt (by (with_reducible repeat (first | apply Kd.R_alloc | apply Kd.R_drewN | apply Kd.R_drew)); exact HO_15.out))) (below_size (by repeat (first | (with_reducible first | exact HB.out | apply below_alloc | apply pw_below_drewN | apply below_drew1) | exact HB.out)))); have n3_ := Aside0.mk (below_step (by repeat (first | (with_reducible first | exact HB.out | apply below_alloc | apply pw_below_drewN | apply below_drew1) | exact HB.out)) hb); clear HO_5; clear HO_15; clear HB; have HO_5 := n0_; have HO_15 := n1_; have HO263 := n2_; have HB := n3_; clear n0_ n1_ n2_ n3_; (try clear hb); (try clear hb2); (try clear hk); (try clear hi); (try clear ho0)) | ((with_reducible refine gate_callee (f := 33) rfl ?_); refine goesL_ (some 134) rfl rfl Try.func33 (by kernel_rfl) rfl #[.slice Ao16 t233.length co16] rfl (by (try simp only [List.map_toArray, List.map_cons, List.map_nil]); first | done | rfl | (simp only [List.length_drop, List.length_take]; rfl)) ?_; (with_reducible refine (impl_TieMelody.calls kj13 _ _ t233 t264 t265 _ ?side1 ?side2 A43.out).mono ?_); (case side1 => repeat (first | exact (Kd.R_reads' HO_5.out).2.2 | (with_reducible refine Kd.C_alloc ?_ _) | (with_reducible refine Kd.C_drewN ?_ _) | (with_reducible refine Kd.C_drew ?_))); (case side2 => exact (Kd.R_reads' HO_5.out).2.1); rintro e w47 ⟨v266, rfl, ho0, hb⟩; refine ⟨_, rfl, ?_⟩; have n0_ := Aside0.mk (Kd.R_elder' (by (with_reducible repeat (first | apply Kd.R_alloc | apply Kd.R_drewN | apply Kd.R_drew)); exact HO_5.out) (Kd.R_base ho0) hb); have n1_ := Aside0.mk (Kd.R_elder' (by (with_reducible repeat (first | apply Kd.R_alloc | apply Kd.R_drewN | apply Kd.R_drew)); exact HO_15.out) (Kd.R_base ho0) hb); have n2_ := Aside0.mk (Kd.R_elder' (by (with_reducible repeat (first | apply Kd.R_alloc | apply Kd.R_drewN | apply Kd.R_drew)); exact HO263.out) (Kd.R_base ho0) hb); have n3_ := Aside0.mk (Kd.R_lower (Kd.R_new' (Kd.R_new' (Kd.R_new' ho0 (Kd.R_lt (by (with_reducible repeat (first | apply Kd.R_alloc | apply Kd.R_drewN | apply Kd.R_drew)); exact HO_5.out))) (Kd.R_lt (by (with_reducible repeat (first | apply Kd.R_alloc | apply Kd.R_drewN | apply Kd.R_drew)); exact HO_15.out))) (Kd.R_lt (by (with_reducible repeat (first | apply Kd.R_alloc | apply Kd.R_drewN | apply Kd.R_drew)); exact HO263.out))) (below_size (by repeat (first | (with_reducible first | exact HB.out | apply below_alloc | apply pw_below_drewN | apply below_drew1) | exact HB.out)))); have n4_ := Aside0.mk (below_step (by repeat (first | (with_reducible first | exact HB.out | apply below_alloc | apply pw_below_drewN | apply below_drew1) | exact HB.out)) hb); clear HO_5; clear HO_15; clear HO263; clear HB; have HO_5 := n0_; have HO_15 := n1_; have HO263 := n2_; have HO267 := n3_; have HB := n4_; clear n0_ n1_ n2_ n3_ n4_; (try clear hb); (try clear hb2); (try clear hk); (try clear hi); (try clear ho0)))
       (try simp only [Act.put, sx0, sx1, sx2])
       go_cut [142] (fun v142 wc => ∃ (kq : Nat) (x142_43 : Bool), v142 = .bool x142_43 ∧ Aside0 (laws_FnCuts.j1 kq t236 t260 t264 x142_43 = some r) ∧ Aside0 (kq ≤ kj13) ∧ Aside0 (Kd.R k40 40 wc w.heap.size (fun k_ => some k_ ≠ (v266 : Value).ownBlock) v262 t260) ∧ Aside0 (Kd.R k40 40 wc w.heap.size (fun k_ => some k_ ≠ (v262 : Value).ownBlock) v266 t264) ∧ Aside0 (Below w.heap.size w wc))
       case first =>
        have H := HC44.out
        clear HC44
        by_cases c48 : t261 = 0
        · rw [if_pos c48] at H
          have c48b0 : (t261 == 0) = true := beq_iff_eq.mpr c48
          have c48b1 : (t261 != 0) = false := bne_eq_false_iff_eq.mpr c48
          clear c48
          (first | rw [c48b0] | (simp only [i64_w, i32_w]; rw [c48b0]) | skip)
          have H' := Aside0.mk H
          clear H
          go_wp2
          go_meet
          case rel => exact ⟨_, ((t265 != 0)), (by first | rfl | (simp; done) | (simp [*]; done)), H', ⟨by have := HJ13.out; first | omega | exact Nat.le_refl _⟩, ⟨by (with_reducible repeat (first | apply Kd.R_alloc | apply Kd.R_drewN | apply Kd.R_drew)); exact Kd.R_mono HO263.out (fun _ hk => hk.2)⟩, ⟨by (with_reducible repeat (first | apply Kd.R_alloc | apply Kd.R_drewN | apply Kd.R_drew)); exact Kd.R_mono HO267.out (fun _ hk => hk.2)⟩, ⟨by repeat (first | (with_reducible first | exact HB.out | apply below_alloc | apply pw_below_drewN | apply below_drew1) | exact HB.out)⟩⟩
        · rw [if_neg c48] at H
          have c48b0 : (t261 == 0) = false := beq_eq_false_iff_ne.mpr c48
          have c48b1 : (t261 != 0) = true := bne_iff_ne.mpr c48
          (first | rw [c48b0] | (simp only [i64_w, i32_w]; rw [c48b0]) | skip)
          have H' := Aside0.mk H
          clear H
          go_wp2
          go_meet
          case rel => exact ⟨_, (true), (by first | rfl | (simp; done) | (simp [*]; done)), H', ⟨by have := HJ13.out; first | omega | exact Nat.le_refl _⟩, ⟨by (with_reducible repeat (first | apply Kd.R_alloc | apply Kd.R_drewN | apply Kd.R_drew)); exact Kd.R_mono HO263.out (fun _ hk => hk.2)⟩, ⟨by (with_reducible repeat (first | apply Kd.R_alloc | apply Kd.R_drewN | apply Kd.R_drew)); exact Kd.R_mono HO267.out (fun _ hk => hk.2)⟩, ⟨by repeat (first | (with_reducible first | exact HB.out | apply below_alloc | apply pw_below_drewN | apply below_drew1) | exact HB.out)⟩⟩
       case rest =>
        clear HC44
        try clear c1
        try clear c2
        try clear p2
        try clear c3
        try clear c4
        try clear c5
        try clear p6
        try clear c10
        try clear c11
        try clear c14
        try clear c23
        try clear c23b0
        try clear c23b1
        try clear c24
        try clear c24b0
        try clear c24b1
        try clear c25
        try clear c25b0
        try clear c25b1
        try clear c27
        try clear c28
        try clear c28b0
        try clear c28b1
        try clear c29
        try clear c29b0
        try clear c29b1
        try clear c30
        try clear c30b0
        try clear c30b1
        try clear c31
        try clear c31b0
        try clear c31b1
        try clear c32
        try clear c32b0
        try clear c32b1
        try clear c33
        try clear c41
        try clear c48
        try clear c48b0
        try clear c48b1
        try clear p2
        try clear p6
        obtain ⟨kq, x142_43, rfl, HA, HJ43, HO_21, HO_23, HB⟩ := hcut
        cases kq with
        | zero => exact absurd HA.out (by simp [laws_FnCuts.j1])
        | succ kj43 =>
         have H := HA.out
         clear HA
         simp only [laws_FnCuts.j1] at H
         by_cases c49 : x142_43 = true
         · subst c49
           have H1 : (some false) = some r := by rw [if_pos rfl] at H; exact H
           clear H
           have H := H1
           clear H1
           obtain rfl := Option.some.inj H
           go_wp2
           go_ret
           exact ⟨by first | rfl | (simp [errW_none, errW_some] <;> rfl) | (simp [*, errW_none, errW_some] <;> rfl), by repeat (first | (with_reducible first | exact HB.out | apply below_alloc | apply pw_below_drewN | apply below_drew1) | exact HB.out)⟩
         · replace c49 := Bool.eq_false_iff.mpr c49
           subst c49
           have H1 : (laws_FnCuts.l0 kj43 t236 t260 t264 0) = some r := by rw [if_neg (show ¬ (false = true) by decide)] at H; exact H
           clear H
           have H := H1
           clear H1
           have H' := Aside0.mk H
           clear H
           go_wp2
           go_loopg [25] kj43 (fun kq v25 w' => ∃ (x25_3 : Int), v25 = .int .i64 x25_3 ∧ Aside0 (laws_FnCuts.l0 kq t236 t260 t264 x25_3 = some r) ∧ Aside0 (kq ≤ kj43) ∧ Aside0 (Kd.R k40 40 w' w.heap.size (fun k_ => some k_ ≠ (v266 : Value).ownBlock) v262 t260) ∧ Aside0 (Kd.R k40 40 w' w.heap.size (fun k_ => some k_ ≠ (v262 : Value).ownBlock) v266 t264) ∧ Aside0 (Below w.heap.size w w'))
           case atStart => exact ⟨(0), (by first | rfl | (simp; done) | (simp [*]; done)), H', ⟨Nat.le_refl _⟩, ⟨by (with_reducible repeat (first | apply Kd.R_alloc | apply Kd.R_drewN | apply Kd.R_drew)); exact HO_21.out⟩, ⟨by (with_reducible repeat (first | apply Kd.R_alloc | apply Kd.R_drewN | apply Kd.R_drew)); exact HO_23.out⟩, ⟨by repeat (first | (with_reducible first | exact HB.out | apply below_alloc | apply pw_below_drewN | apply below_drew1) | exact HB.out)⟩⟩
           case round =>
            clear H'
            try clear c1
            try clear c2
            try clear p2
            try clear c3
            try clear c4
            try clear c5
            try clear p6
            try clear c10
            try clear c11
            try clear c14
            try clear c23
            try clear c23b0
            try clear c23b1
            try clear c24
            try clear c24b0
            try clear c24b1
            try clear c25
            try clear c25b0
            try clear c25b1
            try clear c27
            try clear c28
            try clear c28b0
            try clear c28b1
            try clear c29
            try clear c29b0
            try clear c29b1
            try clear c30
            try clear c30b0
            try clear c30b1
            try clear c31
            try clear c31b0
            try clear c31b1
            try clear c32
            try clear c32b0
            try clear c32b1
            try clear c33
            try clear c41
            try clear c48
            try clear c48b0
            try clear c48b1
            try clear c49
            try clear p2
            try clear p6
            obtain ⟨x25_3, rfl, HA, HK3, HO_21, HO_23, HB⟩ := hrel
            cases gk with
            | zero => exact absurd HA.out (by simp [laws_FnCuts.l0])
            | succ k3 =>
             have H := HA.out
             clear HA
             simp only [laws_FnCuts.l0] at H
             by_cases c50 : x25_3 < t236
             · rw [if_pos c50] at H
               have c50b0 : decide (x25_3 < t236) = true := decide_eq_true c50
               clear c50
               replace H := Option.bind_eq_some_iff.mp H
               obtain ⟨⟨t268, t269⟩, A510, H⟩ := H
               replace H : ((spec_PitchAt.f k3 t264 x25_3).bind fun bt270 => (if t269 = 0 then (if bt270.2 = 0 then (if t268 = bt270.1 then (laws_FnCuts.l0 k3 t236 t260 t264 (wrap64 (x25_3 + 1))) else (some false)) else (some false)) else (some false))) = some r := H
               have A51 := Aside0.mk A510
               clear A510
               replace H := Option.bind_eq_some_iff.mp H
               obtain ⟨⟨t270, t271⟩, A520, H⟩ := H
               replace H : (if t269 = 0 then (if t271 = 0 then (if t268 = t270 then (laws_FnCuts.l0 k3 t236 t260 t264 (wrap64 (x25_3 + 1))) else (some false)) else (some false)) else (some false)) = some r := H
               have A52 := Aside0.mk A520
               clear A520
               by_cases c53 : t269 = 0
               · rw [if_pos c53] at H
                 have c53b0 : (t269 == 0) = true := beq_iff_eq.mpr c53
                 have c53b1 : (t269 != 0) = false := bne_eq_false_iff_eq.mpr c53
                 clear c53
                 by_cases c54 : t271 = 0
                 · rw [if_pos c54] at H
                   have c54b0 : (t271 == 0) = true := beq_iff_eq.mpr c54
                   have c54b1 : (t271 != 0) = false := bne_eq_false_iff_eq.mpr c54
                   clear c54
                   by_cases c55 : t268 = t270
                   · rw [if_pos c55] at H
                     have c55b0 : (t268 == t270) = true := beq_iff_eq.mpr c55
                     have c55b1 : (t268 != t270) = false := bne_eq_false_iff_eq.mpr c55
                     clear c55
                     have H' := Aside0.mk H
                     clear H
                     obtain ⟨Ao56, co56, eo56⟩ := Kd.R_slice HO_21.out
                     subst eo56
                     go_wp2_with (first | ((with_reducible refine gate_callee (f := 34) rfl ?_); refine goesL_ (some 151) rfl rfl Try.func34 (by kernel_rfl) rfl #[.slice Ao56 t260.length co56, .int .i64 x25_3] rfl (by (try simp only [List.map_toArray, List.map_cons, List.map_nil]); first | done | rfl | (simp only [List.length_drop, List.length_take]; rfl)) ?_; (with_reducible refine (spec_PitchAt.calls k3 _ _ t260 x25_3 t268 t269 _ ?side1 ?side2 A51.out).mono ?_); (case side1 => repeat (first | exact (Kd.R_reads' HO_21.out).2.2 | (with_reducible refine Kd.C_alloc ?_ _) | (with_reducible refine Kd.C_drewN ?_ _) | (with_reducible refine Kd.C_drew ?_))); (case side2 => exact (Kd.R_reads' HO_21.out).2.1); rintro e w' ⟨rfl, ⟨nd, rfl⟩⟩; refine ⟨_, rfl, ?_⟩; obtain ⟨Ao57, co57, eo57⟩ := Kd.R_slice HO_23.out; subst eo57) | ((with_reducible refine gate_callee (f := 34) rfl ?_); refine goesL_ (some 157) rfl rfl Try.func34 (by kernel_rfl) rfl #[.slice Ao57 t264.length co57, .int .i64 x25_3] rfl (by (try simp only [List.map_toArray, List.map_cons, List.map_nil]); first | done | rfl | (simp only [List.length_drop, List.length_take]; rfl)) ?_; (with_reducible refine (spec_PitchAt.calls k3 _ _ t264 x25_3 t270 t271 _ ?side1 ?side2 A52.out).mono ?_); (case side1 => repeat (first | exact (Kd.R_reads' HO_23.out).2.2 | (with_reducible refine Kd.C_alloc ?_ _) | (with_reducible refine Kd.C_drewN ?_ _) | (with_reducible refine Kd.C_drew ?_))); (case side2 => exact (Kd.R_reads' HO_23.out).2.1); rintro e w' ⟨rfl, ⟨nd, rfl⟩⟩; refine ⟨_, rfl, ?_⟩))
                     go_roundg k3
                     case measure => have := HJ13.out; have := HJ43.out; have := HK3.out; omega
                     case rel => exact ⟨(wrap64 (x25_3 + 1)), (by first | rfl | (simp; done) | (simp [*]; done)), H', ⟨by have := HJ13.out; have := HJ43.out; have := HK3.out; omega⟩, ⟨by (with_reducible repeat (first | apply Kd.R_alloc | apply Kd.R_drewN | apply Kd.R_drew)); exact HO_21.out⟩, ⟨by (with_reducible repeat (first | apply Kd.R_alloc | apply Kd.R_drewN | apply Kd.R_drew)); exact HO_23.out⟩, ⟨by repeat (first | (with_reducible first | exact HB.out | apply below_alloc | apply pw_below_drewN | apply below_drew1) | exact HB.out)⟩⟩
                   · rw [if_neg c55] at H
                     have c55b0 : (t268 == t270) = false := beq_eq_false_iff_ne.mpr c55
                     have c55b1 : (t268 != t270) = true := bne_iff_ne.mpr c55
                     obtain rfl := Option.some.inj H
                     obtain ⟨Ao58, co58, eo58⟩ := Kd.R_slice HO_21.out
                     subst eo58
                     go_wp2_with (first | ((with_reducible refine gate_callee (f := 34) rfl ?_); refine goesL_ (some 151) rfl rfl Try.func34 (by kernel_rfl) rfl #[.slice Ao58 t260.length co58, .int .i64 x25_3] rfl (by (try simp only [List.map_toArray, List.map_cons, List.map_nil]); first | done | rfl | (simp only [List.length_drop, List.length_take]; rfl)) ?_; (with_reducible refine (spec_PitchAt.calls k3 _ _ t260 x25_3 t268 t269 _ ?side1 ?side2 A51.out).mono ?_); (case side1 => repeat (first | exact (Kd.R_reads' HO_21.out).2.2 | (with_reducible refine Kd.C_alloc ?_ _) | (with_reducible refine Kd.C_drewN ?_ _) | (with_reducible refine Kd.C_drew ?_))); (case side2 => exact (Kd.R_reads' HO_21.out).2.1); rintro e w' ⟨rfl, ⟨nd, rfl⟩⟩; refine ⟨_, rfl, ?_⟩; obtain ⟨Ao59, co59, eo59⟩ := Kd.R_slice HO_23.out; subst eo59) | ((with_reducible refine gate_callee (f := 34) rfl ?_); refine goesL_ (some 157) rfl rfl Try.func34 (by kernel_rfl) rfl #[.slice Ao59 t264.length co59, .int .i64 x25_3] rfl (by (try simp only [List.map_toArray, List.map_cons, List.map_nil]); first | done | rfl | (simp only [List.length_drop, List.length_take]; rfl)) ?_; (with_reducible refine (spec_PitchAt.calls k3 _ _ t264 x25_3 t270 t271 _ ?side1 ?side2 A52.out).mono ?_); (case side1 => repeat (first | exact (Kd.R_reads' HO_23.out).2.2 | (with_reducible refine Kd.C_alloc ?_ _) | (with_reducible refine Kd.C_drewN ?_ _) | (with_reducible refine Kd.C_drew ?_))); (case side2 => exact (Kd.R_reads' HO_23.out).2.1); rintro e w' ⟨rfl, ⟨nd, rfl⟩⟩; refine ⟨_, rfl, ?_⟩))
                     go_ret
                     exact ⟨by first | rfl | (simp [errW_none, errW_some] <;> rfl) | (simp [*, errW_none, errW_some] <;> rfl), by repeat (first | (with_reducible first | exact HB.out | apply below_alloc | apply pw_below_drewN | apply below_drew1) | exact HB.out)⟩
                 · rw [if_neg c54] at H
                   have c54b0 : (t271 == 0) = false := beq_eq_false_iff_ne.mpr c54
                   have c54b1 : (t271 != 0) = true := bne_iff_ne.mpr c54
                   obtain rfl := Option.some.inj H
                   obtain ⟨Ao60, co60, eo60⟩ := Kd.R_slice HO_21.out
                   subst eo60
                   go_wp2_with (first | ((with_reducible refine gate_callee (f := 34) rfl ?_); refine goesL_ (some 151) rfl rfl Try.func34 (by kernel_rfl) rfl #[.slice Ao60 t260.length co60, .int .i64 x25_3] rfl (by (try simp only [List.map_toArray, List.map_cons, List.map_nil]); first | done | rfl | (simp only [List.length_drop, List.length_take]; rfl)) ?_; (with_reducible refine (spec_PitchAt.calls k3 _ _ t260 x25_3 t268 t269 _ ?side1 ?side2 A51.out).mono ?_); (case side1 => repeat (first | exact (Kd.R_reads' HO_21.out).2.2 | (with_reducible refine Kd.C_alloc ?_ _) | (with_reducible refine Kd.C_drewN ?_ _) | (with_reducible refine Kd.C_drew ?_))); (case side2 => exact (Kd.R_reads' HO_21.out).2.1); rintro e w' ⟨rfl, ⟨nd, rfl⟩⟩; refine ⟨_, rfl, ?_⟩; obtain ⟨Ao61, co61, eo61⟩ := Kd.R_slice HO_23.out; subst eo61) | ((with_reducible refine gate_callee (f := 34) rfl ?_); refine goesL_ (some 157) rfl rfl Try.func34 (by kernel_rfl) rfl #[.slice Ao61 t264.length co61, .int .i64 x25_3] rfl (by (try simp only [List.map_toArray, List.map_cons, List.map_nil]); first | done | rfl | (simp only [List.length_drop, List.length_take]; rfl)) ?_; (with_reducible refine (spec_PitchAt.calls k3 _ _ t264 x25_3 t270 t271 _ ?side1 ?side2 A52.out).mono ?_); (case side1 => repeat (first | exact (Kd.R_reads' HO_23.out).2.2 | (with_reducible refine Kd.C_alloc ?_ _) | (with_reducible refine Kd.C_drewN ?_ _) | (with_reducible refine Kd.C_drew ?_))); (case side2 => exact (Kd.R_reads' HO_23.out).2.1); rintro e w' ⟨rfl, ⟨nd, rfl⟩⟩; refine ⟨_, rfl, ?_⟩))
                   go_ret
                   exact ⟨by first | rfl | (simp [errW_none, errW_some] <;> rfl) | (simp [*, errW_none, errW_some] <;> rfl), by repeat (first | (with_reducible first | exact HB.out | apply below_alloc | apply pw_below_drewN | apply below_drew1) | exact HB.out)⟩
               · rw [if_neg c53] at H
                 have c53b0 : (t269 == 0) = false := beq_eq_false_iff_ne.mpr c53
                 have c53b1 : (t269 != 0) = true := bne_iff_ne.mpr c53
                 obtain rfl := Option.some.inj H
                 obtain ⟨Ao62, co62, eo62⟩ := Kd.R_slice HO_21.out
                 subst eo62
                 go_wp2_with (first | ((with_reducible refine gate_callee (f := 34) rfl ?_); refine goesL_ (some 151) rfl rfl Try.func34 (by kernel_rfl) rfl #[.slice Ao62 t260.length co62, .int .i64 x25_3] rfl (by (try simp only [List.map_toArray, List.map_cons, List.map_nil]); first | done | rfl | (simp only [List.length_drop, List.length_take]; rfl)) ?_; (with_reducible refine (spec_PitchAt.calls k3 _ _ t260 x25_3 t268 t269 _ ?side1 ?side2 A51.out).mono ?_); (case side1 => repeat (first | exact (Kd.R_reads' HO_21.out).2.2 | (with_reducible refine Kd.C_alloc ?_ _) | (with_reducible refine Kd.C_drewN ?_ _) | (with_reducible refine Kd.C_drew ?_))); (case side2 => exact (Kd.R_reads' HO_21.out).2.1); rintro e w' ⟨rfl, ⟨nd, rfl⟩⟩; refine ⟨_, rfl, ?_⟩; obtain ⟨Ao63, co63, eo63⟩ := Kd.R_slice HO_23.out; subst eo63) | ((with_reducible refine gate_callee (f := 34) rfl ?_); refine goesL_ (some 157) rfl rfl Try.func34 (by kernel_rfl) rfl #[.slice Ao63 t264.length co63, .int .i64 x25_3] rfl (by (try simp only [List.map_toArray, List.map_cons, List.map_nil]); first | done | rfl | (simp only [List.length_drop, List.length_take]; rfl)) ?_; (with_reducible refine (spec_PitchAt.calls k3 _ _ t264 x25_3 t270 t271 _ ?side1 ?side2 A52.out).mono ?_); (case side1 => repeat (first | exact (Kd.R_reads' HO_23.out).2.2 | (with_reducible refine Kd.C_alloc ?_ _) | (with_reducible refine Kd.C_drewN ?_ _) | (with_reducible refine Kd.C_drew ?_))); (case side2 => exact (Kd.R_reads' HO_23.out).2.1); rintro e w' ⟨rfl, ⟨nd, rfl⟩⟩; refine ⟨_, rfl, ?_⟩))
                 go_ret
                 exact ⟨by first | rfl | (simp [errW_none, errW_some] <;> rfl) | (simp [*, errW_none, errW_some] <;> rfl), by repeat (first | (with_reducible first | exact HB.out | apply below_alloc | apply pw_below_drewN | apply below_drew1) | exact HB.out)⟩
             · rw [if_neg c50] at H
               have c50b0 : decide (x25_3 < t236) = false := decide_eq_false c50
               clear c50
               obtain rfl := Option.some.inj H
               go_wp2
               go_ret
               exact ⟨by first | rfl | (simp [errW_none, errW_some] <;> rfl) | (simp [*, errW_none, errW_some] <;> rfl), by repeat (first | (with_reducible first | exact HB.out | apply below_alloc | apply pw_below_drewN | apply below_drew1) | exact HB.out)⟩

/-- THE ONE PURE STATEMENT of laws_FnCuts: yours. -/
def laws_FnCuts.Pure : Prop := ∀ (l0 : List Int) (l1 : List Int), (l0.length ≤ maxLen ∧ ∀ y0 ∈ l0, (Lit.int .u8 y0).wf = true) → (l1.length ≤ maxLen ∧ ∀ y0 ∈ l1, (Lit.int .u8 y0).wf = true) → ∃ k, laws_FnCuts.f k l0 l1 = some true
theorem laws_FnCuts.walk (P : laws_FnCuts.Pure) (A0 : Option Addr) (c0 : Nat) (l0 : List Int) (A1 : Option Addr) (c1 : Nat) (l1 : List Int) (w : World) (hr0 : Kd.C (Kd.int .u8) w A0 l0.length l0) (hc0 : l0.length ≤ c0) (hr1 : Kd.C (Kd.int .u8) w A1 l1.length l1) (hc1 : l1.length ≤ c1) (hk0 : (l0.length ≤ maxLen ∧ ∀ y0 ∈ l0, (Lit.int .u8 y0).wf = true)) (hk1 : (l1.length ≤ maxLen ∧ ∀ y0 ∈ l1, (Lit.int .u8 y0).wf = true)) :
 Calls Try.prog 5 #[.slice A0 l0.length c0, .slice A1 l1.length c1] w fun e w' => e = .returned (.bool true) ∧ Below w.heap.size w w' := by
 obtain ⟨k, h⟩ := P l0 l1 hk0 hk1
 refine (laws_FnCuts.calls k _ _ l0 _ _ l1 true w hr0 hc0 hr1 hc1 h).mono ?_
 rintro e w' ⟨rfl, hd⟩
 exact ⟨rfl, hd⟩

end Go.Proofs.Ytomeeimjlagbbaa.PC
