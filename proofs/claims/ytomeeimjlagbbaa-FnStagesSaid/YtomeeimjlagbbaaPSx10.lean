-- WRITTEN BY wip/gprint.py, a program of this session's over the kit's print, with contracts given by hand
import Derived.Test.YtomeeimjlagbbaaPSx0
import Derived.Test.YtomeeimjlagbbaaPSx1
import Derived.Test.YtomeeimjlagbbaaPSx2
import Derived.Test.YtomeeimjlagbbaaPSx3
import Derived.Test.YtomeeimjlagbbaaPSx4
import Derived.Test.YtomeeimjlagbbaaPSx6
import Derived.Test.YtomeeimjlagbbaaPSx8
import Derived.Test.YtomeeimjlagbbaaPSx9
namespace Go.Proofs.Ytomeeimjlagbbaa.PS
open Go.RowKit Go.Proofs.YtomeeimjlagbbaaW.PrintWords Go.Proofs.YtomeeimjlagbbaaW.PrintLast Go.Proofs.YtomeeimjlagbbaaW.PrintMore
attribute [local go_sem] max2_int min2_int max_two min_two max_three min_three max_four min_four   -- for this text's walks alone
set_option linter.unusedVariables false
set_option linter.unusedSimpArgs false

attribute [local go_sem high] eqA40
/-! ### laws_FnStages: function 3 -/
mutual
def laws_FnStages.j0 : Nat → List Int → List Int → Int → Int → Int → Int → List (List Int) → Bool → Option (Bool)
  | 0, _, _, _, _, _, _, _, _ => none
  | k + 1, x0, x1, x5, x6, x7, x8, x9, x68 => if x68 = true then (some false) else (laws_FnStages.l0 k x0 x1 x5 x6 x7 x8 x9 0)
def laws_FnStages.l0 : Nat → List Int → List Int → Int → Int → Int → Int → List (List Int) → Int → Option (Bool)
  | 0, _, _, _, _, _, _, _, _ => none
  | k + 1, x0, x1, x5, x6, x7, x8, x9, x11 => if x11 < (x9.length : Int) then (if 0 ≤ x11 then (if ((rd_L2 x9 x11).length : Int) = 2 then (if 0 < ((rd_L2 x9 x11).length : Int) then (if (rd (rd_L2 x9 x11) 0) > x7 then (some false) else (if 1 < ((rd_L2 x9 x11).length : Int) then (if (rd (rd_L2 x9 x11) 1) < x7 then (some false) else (if (rd (rd_L2 x9 x11) 0) < x5 then (some false) else (if (rd (rd_L2 x9 x11) 1) > x6 then (some false) else (if x11 > 0 then (if 0 ≤ (wrap64 (x11 - 1)) then (if (wrap64 (x11 - 1)) < (x9.length : Int) then (if 0 < ((rd_L2 x9 (wrap64 (x11 - 1))).length : Int) then (if (rd (rd_L2 x9 x11) 0) > (rd (rd_L2 x9 (wrap64 (x11 - 1))) 0) then (some false) else (if 1 < ((rd_L2 x9 (wrap64 (x11 - 1))).length : Int) then (if (rd (rd_L2 x9 x11) 1) < (rd (rd_L2 x9 (wrap64 (x11 - 1))) 1) then (some false) else (laws_FnStages.l0 k x0 x1 x5 x6 x7 x8 x9 (wrap64 (x11 + 1)))) else (none))) else (none)) else (none)) else (none)) else (laws_FnStages.l0 k x0 x1 x5 x6 x7 x8 x9 (wrap64 (x11 + 1))))))) else (none))) else (none)) else (some false)) else (none)) else (if 0 ≤ (wrap64 (x8 - 1)) then (if (wrap64 (x8 - 1)) < (x9.length : Int) then (if 0 < ((rd_L2 x9 (wrap64 (x8 - 1))).length : Int) then (if (rd (rd_L2 x9 (wrap64 (x8 - 1))) 0) = x5 then (if 1 < ((rd_L2 x9 (wrap64 (x8 - 1))).length : Int) then (laws_FnStages.j2 k x0 x1 ((rd (rd_L2 x9 (wrap64 (x8 - 1))) 1) != x6)) else (none)) else (laws_FnStages.j2 k x0 x1 true)) else (none)) else (none)) else (none))
def laws_FnStages.j2 : Nat → List Int → List Int → Bool → Option (Bool)
  | 0, _, _, _ => none
  | k + 1, x0, x1, x159 => if x159 = true then (some false) else ((laws_r8At.f x1 4 12).bind fun t224 => ((laws_r8At.f x1 5 4).bind fun t225 => ((impl_DenseLengths.f k (wrap64 (1 + t224)) (wrap64 (1 + t225))).bind fun bt226 => (laws_FnStages.l1 k x0 x1 (wrap64 (1 + t224)) (wrap64 (1 + t225)) bt226.1 bt226.2 0 0))))
def laws_FnStages.l1 : Nat → List Int → List Int → Int → Int → List Int → Int → Int → Int → Option (Bool)
  | 0, _, _, _, _, _, _, _, _ => none
  | k + 1, x0, x1, x13, x14, x15, x16, x17, x18 => if x18 < (x15.length : Int) then (if 0 ≤ x18 then (if (rd x15 x18) < 1 then (some false) else (if (rd x15 x18) > x14 then (some false) else (laws_FnStages.l1 k x0 x1 x13 x14 x15 x16 (wrap64 (x17 + (rd x15 x18))) (wrap64 (x18 + 1))))) else (none)) else (if x16 = 0 then (laws_FnStages.j4 k x0 x1 (x17 != (wrap64 (x13 * x14)))) else (laws_FnStages.j4 k x0 x1 true))
def laws_FnStages.j4 : Nat → List Int → List Int → Bool → Option (Bool)
  | 0, _, _, _ => none
  | k + 1, x0, x1, x205 => if x205 = true then (some false) else ((spec_R8Melody.f k x0).bind fun t233 => ((laws_r8Wide.f x1 6 60000).bind fun t236 => ((impl_ShuffleNotes.f k t233 t236).bind fun bt237 => ((impl_NextSeed.f t236).bind fun bt241 => ((laws_r8At.f x1 8 30).bind fun t243 => ((impl_PickFrom.f t236 (wrap64 (1 + t243))).bind fun bt244 => (if bt237.2 = 0 then (if (bt237.1.length : Int) = (t233.length : Int) then (if bt241.2 = 0 then (if bt244.2.2 = 0 then (if bt244.2.1 = bt241.1 then (if bt244.1 < 0 then (laws_FnStages.j5 k t233 bt237.1 true) else ((laws_r8At.f x1 8 30).bind fun t247 => (if bt244.1 > t247 then (laws_FnStages.j5 k t233 bt237.1 true) else (if bt241.1 < 0 then (laws_FnStages.j5 k t233 bt237.1 true) else (laws_FnStages.j5 k t233 bt237.1 (decide (bt241.1 ≥ 1000000))))))) else (laws_FnStages.j5 k t233 bt237.1 true)) else (laws_FnStages.j5 k t233 bt237.1 true)) else (laws_FnStages.j5 k t233 bt237.1 true)) else (laws_FnStages.j5 k t233 bt237.1 true)) else (laws_FnStages.j5 k t233 bt237.1 true))))))))
def laws_FnStages.j5 : Nat → List (S40) → List (S40) → Bool → Option (Bool)
  | 0, _, _, _ => none
  | k + 1, x19, x21, x269 => if x269 = true then (some false) else (laws_FnStages.l2 k x19 x21 0)
def laws_FnStages.l2 : Nat → List (S40) → List (S40) → Int → Option (Bool)
  | 0, _, _, _ => none
  | k + 1, x19, x21, x28 => if x28 < (x19.length : Int) then (laws_FnStages.l3 k x19 x21 x28 0 0 0) else (some true)
def laws_FnStages.l3 : Nat → List (S40) → List (S40) → Int → Int → Int → Int → Option (Bool)
  | 0, _, _, _, _, _, _ => none
  | k + 1, x19, x21, x28, x29, x30, x31 => if x31 < (x19.length : Int) then (if 0 ≤ x31 then (if 0 ≤ x28 then (if x28 < (x19.length : Int) then (if (((rd_T40 x19 x31).f0) == ((rd_T40 x19 x28).f0) && (((rd_T40 x19 x31).f1) == ((rd_T40 x19 x28).f1))) = true then (if x31 < (x21.length : Int) then (if (((rd_T40 x21 x31).f0) == ((rd_T40 x19 x28).f0) && (((rd_T40 x21 x31).f1) == ((rd_T40 x19 x28).f1))) = true then (laws_FnStages.l3 k x19 x21 x28 (wrap64 (x29 + 1)) (wrap64 (x30 + 1)) (wrap64 (x31 + 1))) else (laws_FnStages.l3 k x19 x21 x28 (wrap64 (x29 + 1)) x30 (wrap64 (x31 + 1)))) else (none)) else (if x31 < (x21.length : Int) then (if (((rd_T40 x21 x31).f0) == ((rd_T40 x19 x28).f0) && (((rd_T40 x21 x31).f1) == ((rd_T40 x19 x28).f1))) = true then (laws_FnStages.l3 k x19 x21 x28 x29 (wrap64 (x30 + 1)) (wrap64 (x31 + 1))) else (laws_FnStages.l3 k x19 x21 x28 x29 x30 (wrap64 (x31 + 1)))) else (none))) else (none)) else (none)) else (none)) else (if x29 = x30 then (laws_FnStages.l2 k x19 x21 (wrap64 (x28 + 1))) else (some false))
end
def laws_FnStages.f (k : Nat) (l0 : List Int) (l1 : List Int) : Option (Bool) := (laws_r8Long.f l0 l1).bind fun t200 => (if t200 = true then (some true) else ((laws_r8At.f l1 0 10).bind fun t201 => ((laws_r8At.f l1 1 20).bind fun t202 => ((laws_r8At.f l1 2 (wrap64 ((wrap64 ((wrap64 ((wrap64 (t201 - 10)) + t202)) - (wrap64 (t201 - 10)))) + 1))).bind fun t203 => ((laws_r8At.f l1 3 8).bind fun t204 => ((impl_RangesOf.f k (wrap64 (t201 - 10)) (wrap64 ((wrap64 (t201 - 10)) + t202)) (wrap64 ((wrap64 (t201 - 10)) + t203)) (wrap64 (1 + t204))).bind fun bt205 => (if bt205.2 = 0 then (laws_FnStages.j0 k l0 l1 (wrap64 (t201 - 10)) (wrap64 ((wrap64 (t201 - 10)) + t202)) (wrap64 ((wrap64 (t201 - 10)) + t203)) (wrap64 (1 + t204)) bt205.1 ((bt205.1.length : Int) != (wrap64 (1 + t204)))) else (laws_FnStages.j0 k l0 l1 (wrap64 (t201 - 10)) (wrap64 ((wrap64 (t201 - 10)) + t202)) (wrap64 ((wrap64 (t201 - 10)) + t203)) (wrap64 (1 + t204)) bt205.1 true))))))))
theorem laws_FnStages.mono_l : ∀ k, (∀ y0 y1 y2 y3 y4 y5 y6 y7, LeO (laws_FnStages.j0 k y0 y1 y2 y3 y4 y5 y6 y7) (laws_FnStages.j0 (k + 1) y0 y1 y2 y3 y4 y5 y6 y7)) ∧ (∀ y0 y1 y2 y3 y4 y5 y6 y7, LeO (laws_FnStages.l0 k y0 y1 y2 y3 y4 y5 y6 y7) (laws_FnStages.l0 (k + 1) y0 y1 y2 y3 y4 y5 y6 y7)) ∧ (∀ y0 y1 y2, LeO (laws_FnStages.j2 k y0 y1 y2) (laws_FnStages.j2 (k + 1) y0 y1 y2)) ∧ (∀ y0 y1 y2 y3 y4 y5 y6 y7, LeO (laws_FnStages.l1 k y0 y1 y2 y3 y4 y5 y6 y7) (laws_FnStages.l1 (k + 1) y0 y1 y2 y3 y4 y5 y6 y7)) ∧ (∀ y0 y1 y2, LeO (laws_FnStages.j4 k y0 y1 y2) (laws_FnStages.j4 (k + 1) y0 y1 y2)) ∧ (∀ y0 y1 y2, LeO (laws_FnStages.j5 k y0 y1 y2) (laws_FnStages.j5 (k + 1) y0 y1 y2)) ∧ (∀ y0 y1 y2, LeO (laws_FnStages.l2 k y0 y1 y2) (laws_FnStages.l2 (k + 1) y0 y1 y2)) ∧ (∀ y0 y1 y2 y3 y4 y5, LeO (laws_FnStages.l3 k y0 y1 y2 y3 y4 y5) (laws_FnStages.l3 (k + 1) y0 y1 y2 y3 y4 y5))
  | 0 => ⟨fun _ _ _ _ _ _ _ _ r h => by simp [laws_FnStages.j0] at h, fun _ _ _ _ _ _ _ _ r h => by simp [laws_FnStages.l0] at h, fun _ _ _ r h => by simp [laws_FnStages.j2] at h, fun _ _ _ _ _ _ _ _ r h => by simp [laws_FnStages.l1] at h, fun _ _ _ r h => by simp [laws_FnStages.j4] at h, fun _ _ _ r h => by simp [laws_FnStages.j5] at h, fun _ _ _ r h => by simp [laws_FnStages.l2] at h, fun _ _ _ _ _ _ r h => by simp [laws_FnStages.l3] at h⟩
  | k + 1 => by
    obtain ⟨ih0, ih1, ih2, ih3, ih4, ih5, ih6, ih7⟩ := laws_FnStages.mono_l k
    refine ⟨?_, ?_, ?_, ?_, ?_, ?_, ?_, ?_⟩
    · intro y0 y1 y2 y3 y4 y5 y6 y7
      unfold laws_FnStages.j0
      repeat' first
      | (with_reducible exact ih0 _ _ _ _ _ _ _ _)
      | (with_reducible exact ih1 _ _ _ _ _ _ _ _)
      | (with_reducible exact ih2 _ _ _)
      | (with_reducible exact ih3 _ _ _ _ _ _ _ _)
      | (with_reducible exact ih4 _ _ _)
      | (with_reducible exact ih5 _ _ _)
      | (with_reducible exact ih6 _ _ _)
      | (with_reducible exact ih7 _ _ _ _ _ _)
      | (with_reducible exact impl_DenseLengths.mono _ _ _)
      | (with_reducible exact impl_RangesOf.mono _ _ _ _ _)
      | (with_reducible exact impl_ShuffleNotes.mono _ _ _)
      | (with_reducible exact spec_R8Melody.mono _ _)
      | (with_reducible exact LeO.refl _)
      | (with_reducible exact LeO.none _)
      | (with_reducible refine LeO.ite ?_ ?_)
      | (with_reducible refine LeO.bind ?_ (fun _ => ?_))
      | exact ih0 _ _ _ _ _ _ _ _
      | exact ih1 _ _ _ _ _ _ _ _
      | exact ih2 _ _ _
      | exact ih3 _ _ _ _ _ _ _ _
      | exact ih4 _ _ _
      | exact ih5 _ _ _
      | exact ih6 _ _ _
      | exact ih7 _ _ _ _ _ _
      | exact impl_DenseLengths.mono _ _ _
      | exact impl_RangesOf.mono _ _ _ _ _
      | exact impl_ShuffleNotes.mono _ _ _
      | exact spec_R8Melody.mono _ _
      | exact LeO.none _
      | refine LeO.ite ?_ ?_
      | refine LeO.bind ?_ (fun _ => ?_)
    · intro y0 y1 y2 y3 y4 y5 y6 y7
      unfold laws_FnStages.l0
      repeat' first
      | (with_reducible exact ih0 _ _ _ _ _ _ _ _)
      | (with_reducible exact ih1 _ _ _ _ _ _ _ _)
      | (with_reducible exact ih2 _ _ _)
      | (with_reducible exact ih3 _ _ _ _ _ _ _ _)
      | (with_reducible exact ih4 _ _ _)
      | (with_reducible exact ih5 _ _ _)
      | (with_reducible exact ih6 _ _ _)
      | (with_reducible exact ih7 _ _ _ _ _ _)
      | (with_reducible exact impl_DenseLengths.mono _ _ _)
      | (with_reducible exact impl_RangesOf.mono _ _ _ _ _)
      | (with_reducible exact impl_ShuffleNotes.mono _ _ _)
      | (with_reducible exact spec_R8Melody.mono _ _)
      | (with_reducible exact LeO.refl _)
      | (with_reducible exact LeO.none _)
      | (with_reducible refine LeO.ite ?_ ?_)
      | (with_reducible refine LeO.bind ?_ (fun _ => ?_))
      | exact ih0 _ _ _ _ _ _ _ _
      | exact ih1 _ _ _ _ _ _ _ _
      | exact ih2 _ _ _
      | exact ih3 _ _ _ _ _ _ _ _
      | exact ih4 _ _ _
      | exact ih5 _ _ _
      | exact ih6 _ _ _
      | exact ih7 _ _ _ _ _ _
      | exact impl_DenseLengths.mono _ _ _
      | exact impl_RangesOf.mono _ _ _ _ _
      | exact impl_ShuffleNotes.mono _ _ _
      | exact spec_R8Melody.mono _ _
      | exact LeO.none _
      | refine LeO.ite ?_ ?_
      | refine LeO.bind ?_ (fun _ => ?_)
    · intro y0 y1 y2
      unfold laws_FnStages.j2
      repeat' first
      | (with_reducible exact ih0 _ _ _ _ _ _ _ _)
      | (with_reducible exact ih1 _ _ _ _ _ _ _ _)
      | (with_reducible exact ih2 _ _ _)
      | (with_reducible exact ih3 _ _ _ _ _ _ _ _)
      | (with_reducible exact ih4 _ _ _)
      | (with_reducible exact ih5 _ _ _)
      | (with_reducible exact ih6 _ _ _)
      | (with_reducible exact ih7 _ _ _ _ _ _)
      | (with_reducible exact impl_DenseLengths.mono _ _ _)
      | (with_reducible exact impl_RangesOf.mono _ _ _ _ _)
      | (with_reducible exact impl_ShuffleNotes.mono _ _ _)
      | (with_reducible exact spec_R8Melody.mono _ _)
      | (with_reducible exact LeO.refl _)
      | (with_reducible exact LeO.none _)
      | (with_reducible refine LeO.ite ?_ ?_)
      | (with_reducible refine LeO.bind ?_ (fun _ => ?_))
      | exact ih0 _ _ _ _ _ _ _ _
      | exact ih1 _ _ _ _ _ _ _ _
      | exact ih2 _ _ _
      | exact ih3 _ _ _ _ _ _ _ _
      | exact ih4 _ _ _
      | exact ih5 _ _ _
      | exact ih6 _ _ _
      | exact ih7 _ _ _ _ _ _
      | exact impl_DenseLengths.mono _ _ _
      | exact impl_RangesOf.mono _ _ _ _ _
      | exact impl_ShuffleNotes.mono _ _ _
      | exact spec_R8Melody.mono _ _
      | exact LeO.none _
      | refine LeO.ite ?_ ?_
      | refine LeO.bind ?_ (fun _ => ?_)
    · intro y0 y1 y2 y3 y4 y5 y6 y7
      unfold laws_FnStages.l1
      repeat' first
      | (with_reducible exact ih0 _ _ _ _ _ _ _ _)
      | (with_reducible exact ih1 _ _ _ _ _ _ _ _)
      | (with_reducible exact ih2 _ _ _)
      | (with_reducible exact ih3 _ _ _ _ _ _ _ _)
      | (with_reducible exact ih4 _ _ _)
      | (with_reducible exact ih5 _ _ _)
      | (with_reducible exact ih6 _ _ _)
      | (with_reducible exact ih7 _ _ _ _ _ _)
      | (with_reducible exact impl_DenseLengths.mono _ _ _)
      | (with_reducible exact impl_RangesOf.mono _ _ _ _ _)
      | (with_reducible exact impl_ShuffleNotes.mono _ _ _)
      | (with_reducible exact spec_R8Melody.mono _ _)
      | (with_reducible exact LeO.refl _)
      | (with_reducible exact LeO.none _)
      | (with_reducible refine LeO.ite ?_ ?_)
      | (with_reducible refine LeO.bind ?_ (fun _ => ?_))
      | exact ih0 _ _ _ _ _ _ _ _
      | exact ih1 _ _ _ _ _ _ _ _
      | exact ih2 _ _ _
      | exact ih3 _ _ _ _ _ _ _ _
      | exact ih4 _ _ _
      | exact ih5 _ _ _
      | exact ih6 _ _ _
      | exact ih7 _ _ _ _ _ _
      | exact impl_DenseLengths.mono _ _ _
      | exact impl_RangesOf.mono _ _ _ _ _
      | exact impl_ShuffleNotes.mono _ _ _
      | exact spec_R8Melody.mono _ _
      | exact LeO.none _
      | refine LeO.ite ?_ ?_
      | refine LeO.bind ?_ (fun _ => ?_)
    · intro y0 y1 y2
      unfold laws_FnStages.j4
      repeat' first
      | (with_reducible exact ih0 _ _ _ _ _ _ _ _)
      | (with_reducible exact ih1 _ _ _ _ _ _ _ _)
      | (with_reducible exact ih2 _ _ _)
      | (with_reducible exact ih3 _ _ _ _ _ _ _ _)
      | (with_reducible exact ih4 _ _ _)
      | (with_reducible exact ih5 _ _ _)
      | (with_reducible exact ih6 _ _ _)
      | (with_reducible exact ih7 _ _ _ _ _ _)
      | (with_reducible exact impl_DenseLengths.mono _ _ _)
      | (with_reducible exact impl_RangesOf.mono _ _ _ _ _)
      | (with_reducible exact impl_ShuffleNotes.mono _ _ _)
      | (with_reducible exact spec_R8Melody.mono _ _)
      | (with_reducible exact LeO.refl _)
      | (with_reducible exact LeO.none _)
      | (with_reducible refine LeO.ite ?_ ?_)
      | (with_reducible refine LeO.bind ?_ (fun _ => ?_))
      | exact ih0 _ _ _ _ _ _ _ _
      | exact ih1 _ _ _ _ _ _ _ _
      | exact ih2 _ _ _
      | exact ih3 _ _ _ _ _ _ _ _
      | exact ih4 _ _ _
      | exact ih5 _ _ _
      | exact ih6 _ _ _
      | exact ih7 _ _ _ _ _ _
      | exact impl_DenseLengths.mono _ _ _
      | exact impl_RangesOf.mono _ _ _ _ _
      | exact impl_ShuffleNotes.mono _ _ _
      | exact spec_R8Melody.mono _ _
      | exact LeO.none _
      | refine LeO.ite ?_ ?_
      | refine LeO.bind ?_ (fun _ => ?_)
    · intro y0 y1 y2
      unfold laws_FnStages.j5
      repeat' first
      | (with_reducible exact ih0 _ _ _ _ _ _ _ _)
      | (with_reducible exact ih1 _ _ _ _ _ _ _ _)
      | (with_reducible exact ih2 _ _ _)
      | (with_reducible exact ih3 _ _ _ _ _ _ _ _)
      | (with_reducible exact ih4 _ _ _)
      | (with_reducible exact ih5 _ _ _)
      | (with_reducible exact ih6 _ _ _)
      | (with_reducible exact ih7 _ _ _ _ _ _)
      | (with_reducible exact impl_DenseLengths.mono _ _ _)
      | (with_reducible exact impl_RangesOf.mono _ _ _ _ _)
      | (with_reducible exact impl_ShuffleNotes.mono _ _ _)
      | (with_reducible exact spec_R8Melody.mono _ _)
      | (with_reducible exact LeO.refl _)
      | (with_reducible exact LeO.none _)
      | (with_reducible refine LeO.ite ?_ ?_)
      | (with_reducible refine LeO.bind ?_ (fun _ => ?_))
      | exact ih0 _ _ _ _ _ _ _ _
      | exact ih1 _ _ _ _ _ _ _ _
      | exact ih2 _ _ _
      | exact ih3 _ _ _ _ _ _ _ _
      | exact ih4 _ _ _
      | exact ih5 _ _ _
      | exact ih6 _ _ _
      | exact ih7 _ _ _ _ _ _
      | exact impl_DenseLengths.mono _ _ _
      | exact impl_RangesOf.mono _ _ _ _ _
      | exact impl_ShuffleNotes.mono _ _ _
      | exact spec_R8Melody.mono _ _
      | exact LeO.none _
      | refine LeO.ite ?_ ?_
      | refine LeO.bind ?_ (fun _ => ?_)
    · intro y0 y1 y2
      unfold laws_FnStages.l2
      repeat' first
      | (with_reducible exact ih0 _ _ _ _ _ _ _ _)
      | (with_reducible exact ih1 _ _ _ _ _ _ _ _)
      | (with_reducible exact ih2 _ _ _)
      | (with_reducible exact ih3 _ _ _ _ _ _ _ _)
      | (with_reducible exact ih4 _ _ _)
      | (with_reducible exact ih5 _ _ _)
      | (with_reducible exact ih6 _ _ _)
      | (with_reducible exact ih7 _ _ _ _ _ _)
      | (with_reducible exact impl_DenseLengths.mono _ _ _)
      | (with_reducible exact impl_RangesOf.mono _ _ _ _ _)
      | (with_reducible exact impl_ShuffleNotes.mono _ _ _)
      | (with_reducible exact spec_R8Melody.mono _ _)
      | (with_reducible exact LeO.refl _)
      | (with_reducible exact LeO.none _)
      | (with_reducible refine LeO.ite ?_ ?_)
      | (with_reducible refine LeO.bind ?_ (fun _ => ?_))
      | exact ih0 _ _ _ _ _ _ _ _
      | exact ih1 _ _ _ _ _ _ _ _
      | exact ih2 _ _ _
      | exact ih3 _ _ _ _ _ _ _ _
      | exact ih4 _ _ _
      | exact ih5 _ _ _
      | exact ih6 _ _ _
      | exact ih7 _ _ _ _ _ _
      | exact impl_DenseLengths.mono _ _ _
      | exact impl_RangesOf.mono _ _ _ _ _
      | exact impl_ShuffleNotes.mono _ _ _
      | exact spec_R8Melody.mono _ _
      | exact LeO.none _
      | refine LeO.ite ?_ ?_
      | refine LeO.bind ?_ (fun _ => ?_)
    · intro y0 y1 y2 y3 y4 y5
      unfold laws_FnStages.l3
      repeat' first
      | (with_reducible exact ih0 _ _ _ _ _ _ _ _)
      | (with_reducible exact ih1 _ _ _ _ _ _ _ _)
      | (with_reducible exact ih2 _ _ _)
      | (with_reducible exact ih3 _ _ _ _ _ _ _ _)
      | (with_reducible exact ih4 _ _ _)
      | (with_reducible exact ih5 _ _ _)
      | (with_reducible exact ih6 _ _ _)
      | (with_reducible exact ih7 _ _ _ _ _ _)
      | (with_reducible exact impl_DenseLengths.mono _ _ _)
      | (with_reducible exact impl_RangesOf.mono _ _ _ _ _)
      | (with_reducible exact impl_ShuffleNotes.mono _ _ _)
      | (with_reducible exact spec_R8Melody.mono _ _)
      | (with_reducible exact LeO.refl _)
      | (with_reducible exact LeO.none _)
      | (with_reducible refine LeO.ite ?_ ?_)
      | (with_reducible refine LeO.bind ?_ (fun _ => ?_))
      | exact ih0 _ _ _ _ _ _ _ _
      | exact ih1 _ _ _ _ _ _ _ _
      | exact ih2 _ _ _
      | exact ih3 _ _ _ _ _ _ _ _
      | exact ih4 _ _ _
      | exact ih5 _ _ _
      | exact ih6 _ _ _
      | exact ih7 _ _ _ _ _ _
      | exact impl_DenseLengths.mono _ _ _
      | exact impl_RangesOf.mono _ _ _ _ _
      | exact impl_ShuffleNotes.mono _ _ _
      | exact spec_R8Melody.mono _ _
      | exact LeO.none _
      | refine LeO.ite ?_ ?_
      | refine LeO.bind ?_ (fun _ => ?_)
theorem laws_FnStages.mono : ∀ a0 a1 k, LeO (laws_FnStages.f k a0 a1) (laws_FnStages.f (k + 1) a0 a1) := by
  intro a0 a1 k
  obtain ⟨ih0, ih1, ih2, ih3, ih4, ih5, ih6, ih7⟩ := laws_FnStages.mono_l k
  unfold laws_FnStages.f
  repeat' first
      | (with_reducible exact ih0 _ _ _ _ _ _ _ _)
      | (with_reducible exact ih1 _ _ _ _ _ _ _ _)
      | (with_reducible exact ih2 _ _ _)
      | (with_reducible exact ih3 _ _ _ _ _ _ _ _)
      | (with_reducible exact ih4 _ _ _)
      | (with_reducible exact ih5 _ _ _)
      | (with_reducible exact ih6 _ _ _)
      | (with_reducible exact ih7 _ _ _ _ _ _)
      | (with_reducible exact impl_DenseLengths.mono _ _ _)
      | (with_reducible exact impl_RangesOf.mono _ _ _ _ _)
      | (with_reducible exact impl_ShuffleNotes.mono _ _ _)
      | (with_reducible exact spec_R8Melody.mono _ _)
      | (with_reducible exact LeO.refl _)
      | (with_reducible exact LeO.none _)
      | (with_reducible refine LeO.ite ?_ ?_)
      | (with_reducible refine LeO.bind ?_ (fun _ => ?_))
      | exact ih0 _ _ _ _ _ _ _ _
      | exact ih1 _ _ _ _ _ _ _ _
      | exact ih2 _ _ _
      | exact ih3 _ _ _ _ _ _ _ _
      | exact ih4 _ _ _
      | exact ih5 _ _ _
      | exact ih6 _ _ _
      | exact ih7 _ _ _ _ _ _
      | exact impl_DenseLengths.mono _ _ _
      | exact impl_RangesOf.mono _ _ _ _ _
      | exact impl_ShuffleNotes.mono _ _ _
      | exact spec_R8Melody.mono _ _
      | exact LeO.none _
      | refine LeO.ite ?_ ?_
      | refine LeO.bind ?_ (fun _ => ?_)

end Go.Proofs.Ytomeeimjlagbbaa.PS
