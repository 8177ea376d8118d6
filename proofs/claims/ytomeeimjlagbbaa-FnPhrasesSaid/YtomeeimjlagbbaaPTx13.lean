-- WRITTEN BY wip/gprint.py, a program of this session's over the kit's print, with contracts given by hand
import Derived.Test.YtomeeimjlagbbaaPTx0
import Derived.Test.YtomeeimjlagbbaaPTx1
import Derived.Test.YtomeeimjlagbbaaPTx4
import Derived.Test.YtomeeimjlagbbaaPTx6
import Derived.Test.YtomeeimjlagbbaaPTx7
import Derived.Test.YtomeeimjlagbbaaPTx8
import Derived.Test.YtomeeimjlagbbaaPTx10
import Derived.Test.YtomeeimjlagbbaaPTx12
namespace Go.Proofs.Ytomeeimjlagbbaa.PT
open Go.RowKit Go.Proofs.YtomeeimjlagbbaaW.PrintWords Go.Proofs.YtomeeimjlagbbaaW.PrintLast Go.Proofs.YtomeeimjlagbbaaW.PrintMore
attribute [local go_sem] max2_int min2_int max_two min_two max_three min_three max_four min_four   -- for this text's walks alone
set_option linter.unusedVariables false
set_option linter.unusedSimpArgs false

/-! ### laws_FnPhrases: function 8 -/
mutual
def laws_FnPhrases.j0 : Nat → List Int → List Int → Bool → Option (Bool)
  | 0, _, _, _ => none
  | k + 1, x0, x1, x30 => if x30 = true then (some true) else ((spec_DrawFindPhrase.f k x0).bind fun bt317 => ((impl_FindPhrase.f k bt317.1 bt317.2).bind fun bt323 => ((impl_CountApart.f k bt317.1 bt317.2).bind fun bt327 => (if bt323.2 = bt327.2 then (if bt323.2 = 0 then (if bt327.1 > (bt323.1.length : Int) then (laws_FnPhrases.j1 k x1 bt317.1 bt317.2 bt323.1 true) else (if ((bt327.1 == 0) != ((bt323.1.length : Int) == 0)) = true then (laws_FnPhrases.j1 k x1 bt317.1 bt317.2 bt323.1 true) else ((laws_b10Rises.f k bt323.1 (bt317.1.length : Int)).bind fun t329 => (laws_FnPhrases.j1 k x1 bt317.1 bt317.2 bt323.1 (!t329))))) else (laws_FnPhrases.j3 k x1)) else (some false)))))
def laws_FnPhrases.j3 : Nat → List Int → Option (Bool)
  | 0, _ => none
  | k + 1, x1 => (spec_DrawBorderOf.f k x1).bind fun t336 => ((impl_BorderOf.f k t336).bind fun bt339 => (if bt339.2 = 0 then (if bt339.1 < 0 then (laws_FnPhrases.j4 k x1 true) else (if bt339.1 ≥ (t336.length : Int) then (laws_FnPhrases.j4 k x1 true) else (if 0 ≤ bt339.1 then (if bt339.1 ≤ (t336.length : Int) then (if 0 ≤ (wrap64 ((t336.length : Int) - bt339.1)) then (if (wrap64 ((t336.length : Int) - bt339.1)) ≤ (t336.length : Int) then ((laws_b10Nums.f k (t336.take (bt339.1 : Int).toNat) (t336.drop ((wrap64 ((t336.length : Int) - bt339.1)) : Int).toNat)).bind fun t349 => (laws_FnPhrases.j4 k x1 (!t349))) else (none)) else (none)) else (none)) else (none)))) else (laws_FnPhrases.j4 k x1 false)))
def laws_FnPhrases.j4 : Nat → List Int → Bool → Option (Bool)
  | 0, _, _ => none
  | k + 1, x1, x125 => if x125 = true then (some false) else ((spec_DrawCommonPhrase.f k x1).bind fun bt350 => ((impl_CommonPhrase.f k bt350.1 bt350.2).bind fun bt356 => ((impl_CommonPhrase.f k bt350.2 bt350.1).bind fun bt360 => (if bt356.2 = bt360.2 then ((laws_b10Nums.f k bt356.1 bt360.1).bind fun t364 => (laws_FnPhrases.j5 k bt350.1 bt350.2 bt356.1 bt356.2 (!t364))) else (laws_FnPhrases.j5 k bt350.1 bt350.2 bt356.1 bt356.2 true)))))
def laws_FnPhrases.j5 : Nat → List Int → List Int → List Int → Int → Bool → Option (Bool)
  | 0, _, _, _, _, _ => none
  | k + 1, x15, x16, x17, x18, x151 => if x151 = true then (some false) else (if x18 = 0 then (laws_FnPhrases.j6 k x15 x16 x17 (decide ((x17.length : Int) < 2))) else (laws_FnPhrases.j6 k x15 x16 x17 true))
def laws_FnPhrases.j6 : Nat → List Int → List Int → List Int → Bool → Option (Bool)
  | 0, _, _, _, _ => none
  | k + 1, x15, x16, x17, x158 => if x158 = true then (some true) else ((spec_FindPhrase.f k x15 x17).bind fun bt365 => ((spec_FindPhrase.f k x16 x17).bind fun bt369 => (if bt365.2 = 0 then (if bt369.2 = 0 then (if (bt365.1.length : Int) > 0 then (some (decide ((bt369.1.length : Int) > 0))) else (some false)) else (some false)) else (some false))))
def laws_FnPhrases.j1 : Nat → List Int → List Int → List Int → List Int → Bool → Option (Bool)
  | 0, _, _, _, _, _ => none
  | k + 1, x1, x5, x6, x7, x71 => if x71 = true then (some false) else (laws_FnPhrases.l0 k x1 x5 x6 x7 0)
def laws_FnPhrases.l0 : Nat → List Int → List Int → List Int → List Int → Int → Option (Bool)
  | 0, _, _, _, _, _ => none
  | k + 1, x1, x5, x6, x7, x11 => if (wrap64 (x11 + (x6.length : Int))) ≤ (x5.length : Int) then (if 0 ≤ x11 then (if x11 ≤ (wrap64 (x11 + (x6.length : Int))) then ((laws_b10Nums.f k ((x5.take ((wrap64 (x11 + (x6.length : Int))) : Int).toNat).drop (x11 : Int).toNat) x6).bind fun t334 => ((laws_b10Has.f k x7 x11).bind fun t335 => (if (t334 != t335) = true then (some false) else (laws_FnPhrases.l0 k x1 x5 x6 x7 (wrap64 (x11 + 1)))))) else (none)) else (none)) else (laws_FnPhrases.j3 k x1)
end
def laws_FnPhrases.f (k : Nat) (l0 : List Int) (l1 : List Int) : Option (Bool) := (laws_b10Long.f l0).bind fun t315 => (if t315 = true then (laws_FnPhrases.j0 k l0 l1 true) else ((laws_b10Long.f l1).bind fun t316 => (laws_FnPhrases.j0 k l0 l1 t316)))
theorem laws_FnPhrases.mono_l : ∀ k, (∀ y0 y1 y2, LeO (laws_FnPhrases.j0 k y0 y1 y2) (laws_FnPhrases.j0 (k + 1) y0 y1 y2)) ∧ (∀ y0, LeO (laws_FnPhrases.j3 k y0) (laws_FnPhrases.j3 (k + 1) y0)) ∧ (∀ y0 y1, LeO (laws_FnPhrases.j4 k y0 y1) (laws_FnPhrases.j4 (k + 1) y0 y1)) ∧ (∀ y0 y1 y2 y3 y4, LeO (laws_FnPhrases.j5 k y0 y1 y2 y3 y4) (laws_FnPhrases.j5 (k + 1) y0 y1 y2 y3 y4)) ∧ (∀ y0 y1 y2 y3, LeO (laws_FnPhrases.j6 k y0 y1 y2 y3) (laws_FnPhrases.j6 (k + 1) y0 y1 y2 y3)) ∧ (∀ y0 y1 y2 y3 y4, LeO (laws_FnPhrases.j1 k y0 y1 y2 y3 y4) (laws_FnPhrases.j1 (k + 1) y0 y1 y2 y3 y4)) ∧ (∀ y0 y1 y2 y3 y4, LeO (laws_FnPhrases.l0 k y0 y1 y2 y3 y4) (laws_FnPhrases.l0 (k + 1) y0 y1 y2 y3 y4))
  | 0 => ⟨fun _ _ _ r h => by simp [laws_FnPhrases.j0] at h, fun _ r h => by simp [laws_FnPhrases.j3] at h, fun _ _ r h => by simp [laws_FnPhrases.j4] at h, fun _ _ _ _ _ r h => by simp [laws_FnPhrases.j5] at h, fun _ _ _ _ r h => by simp [laws_FnPhrases.j6] at h, fun _ _ _ _ _ r h => by simp [laws_FnPhrases.j1] at h, fun _ _ _ _ _ r h => by simp [laws_FnPhrases.l0] at h⟩
  | k + 1 => by
    obtain ⟨ih0, ih1, ih2, ih3, ih4, ih5, ih6⟩ := laws_FnPhrases.mono_l k
    refine ⟨?_, ?_, ?_, ?_, ?_, ?_, ?_⟩
    · intro y0 y1 y2
      unfold laws_FnPhrases.j0
      repeat' first
      | (with_reducible exact ih0 _ _ _)
      | (with_reducible exact ih1 _)
      | (with_reducible exact ih2 _ _)
      | (with_reducible exact ih3 _ _ _ _ _)
      | (with_reducible exact ih4 _ _ _ _)
      | (with_reducible exact ih5 _ _ _ _ _)
      | (with_reducible exact ih6 _ _ _ _ _)
      | (with_reducible exact impl_BorderOf.mono _ _)
      | (with_reducible exact impl_CommonPhrase.mono _ _ _)
      | (with_reducible exact impl_CountApart.mono _ _ _)
      | (with_reducible exact impl_FindPhrase.mono _ _ _)
      | (with_reducible exact laws_b10Has.mono _ _ _)
      | (with_reducible exact laws_b10Nums.mono _ _ _)
      | (with_reducible exact laws_b10Rises.mono _ _ _)
      | (with_reducible exact spec_DrawBorderOf.mono _ _)
      | (with_reducible exact spec_DrawCommonPhrase.mono _ _)
      | (with_reducible exact spec_DrawFindPhrase.mono _ _)
      | (with_reducible exact spec_FindPhrase.mono _ _ _)
      | (with_reducible exact LeO.refl _)
      | (with_reducible exact LeO.none _)
      | (with_reducible refine LeO.ite ?_ ?_)
      | (with_reducible refine LeO.bind ?_ (fun _ => ?_))
      | exact ih0 _ _ _
      | exact ih1 _
      | exact ih2 _ _
      | exact ih3 _ _ _ _ _
      | exact ih4 _ _ _ _
      | exact ih5 _ _ _ _ _
      | exact ih6 _ _ _ _ _
      | exact impl_BorderOf.mono _ _
      | exact impl_CommonPhrase.mono _ _ _
      | exact impl_CountApart.mono _ _ _
      | exact impl_FindPhrase.mono _ _ _
      | exact laws_b10Has.mono _ _ _
      | exact laws_b10Nums.mono _ _ _
      | exact laws_b10Rises.mono _ _ _
      | exact spec_DrawBorderOf.mono _ _
      | exact spec_DrawCommonPhrase.mono _ _
      | exact spec_DrawFindPhrase.mono _ _
      | exact spec_FindPhrase.mono _ _ _
      | exact LeO.none _
      | refine LeO.ite ?_ ?_
      | refine LeO.bind ?_ (fun _ => ?_)
    · intro y0
      unfold laws_FnPhrases.j3
      repeat' first
      | (with_reducible exact ih0 _ _ _)
      | (with_reducible exact ih1 _)
      | (with_reducible exact ih2 _ _)
      | (with_reducible exact ih3 _ _ _ _ _)
      | (with_reducible exact ih4 _ _ _ _)
      | (with_reducible exact ih5 _ _ _ _ _)
      | (with_reducible exact ih6 _ _ _ _ _)
      | (with_reducible exact impl_BorderOf.mono _ _)
      | (with_reducible exact impl_CommonPhrase.mono _ _ _)
      | (with_reducible exact impl_CountApart.mono _ _ _)
      | (with_reducible exact impl_FindPhrase.mono _ _ _)
      | (with_reducible exact laws_b10Has.mono _ _ _)
      | (with_reducible exact laws_b10Nums.mono _ _ _)
      | (with_reducible exact laws_b10Rises.mono _ _ _)
      | (with_reducible exact spec_DrawBorderOf.mono _ _)
      | (with_reducible exact spec_DrawCommonPhrase.mono _ _)
      | (with_reducible exact spec_DrawFindPhrase.mono _ _)
      | (with_reducible exact spec_FindPhrase.mono _ _ _)
      | (with_reducible exact LeO.refl _)
      | (with_reducible exact LeO.none _)
      | (with_reducible refine LeO.ite ?_ ?_)
      | (with_reducible refine LeO.bind ?_ (fun _ => ?_))
      | exact ih0 _ _ _
      | exact ih1 _
      | exact ih2 _ _
      | exact ih3 _ _ _ _ _
      | exact ih4 _ _ _ _
      | exact ih5 _ _ _ _ _
      | exact ih6 _ _ _ _ _
      | exact impl_BorderOf.mono _ _
      | exact impl_CommonPhrase.mono _ _ _
      | exact impl_CountApart.mono _ _ _
      | exact impl_FindPhrase.mono _ _ _
      | exact laws_b10Has.mono _ _ _
      | exact laws_b10Nums.mono _ _ _
      | exact laws_b10Rises.mono _ _ _
      | exact spec_DrawBorderOf.mono _ _
      | exact spec_DrawCommonPhrase.mono _ _
      | exact spec_DrawFindPhrase.mono _ _
      | exact spec_FindPhrase.mono _ _ _
      | exact LeO.none _
      | refine LeO.ite ?_ ?_
      | refine LeO.bind ?_ (fun _ => ?_)
    · intro y0 y1
      unfold laws_FnPhrases.j4
      repeat' first
      | (with_reducible exact ih0 _ _ _)
      | (with_reducible exact ih1 _)
      | (with_reducible exact ih2 _ _)
      | (with_reducible exact ih3 _ _ _ _ _)
      | (with_reducible exact ih4 _ _ _ _)
      | (with_reducible exact ih5 _ _ _ _ _)
      | (with_reducible exact ih6 _ _ _ _ _)
      | (with_reducible exact impl_BorderOf.mono _ _)
      | (with_reducible exact impl_CommonPhrase.mono _ _ _)
      | (with_reducible exact impl_CountApart.mono _ _ _)
      | (with_reducible exact impl_FindPhrase.mono _ _ _)
      | (with_reducible exact laws_b10Has.mono _ _ _)
      | (with_reducible exact laws_b10Nums.mono _ _ _)
      | (with_reducible exact laws_b10Rises.mono _ _ _)
      | (with_reducible exact spec_DrawBorderOf.mono _ _)
      | (with_reducible exact spec_DrawCommonPhrase.mono _ _)
      | (with_reducible exact spec_DrawFindPhrase.mono _ _)
      | (with_reducible exact spec_FindPhrase.mono _ _ _)
      | (with_reducible exact LeO.refl _)
      | (with_reducible exact LeO.none _)
      | (with_reducible refine LeO.ite ?_ ?_)
      | (with_reducible refine LeO.bind ?_ (fun _ => ?_))
      | exact ih0 _ _ _
      | exact ih1 _
      | exact ih2 _ _
      | exact ih3 _ _ _ _ _
      | exact ih4 _ _ _ _
      | exact ih5 _ _ _ _ _
      | exact ih6 _ _ _ _ _
      | exact impl_BorderOf.mono _ _
      | exact impl_CommonPhrase.mono _ _ _
      | exact impl_CountApart.mono _ _ _
      | exact impl_FindPhrase.mono _ _ _
      | exact laws_b10Has.mono _ _ _
      | exact laws_b10Nums.mono _ _ _
      | exact laws_b10Rises.mono _ _ _
      | exact spec_DrawBorderOf.mono _ _
      | exact spec_DrawCommonPhrase.mono _ _
      | exact spec_DrawFindPhrase.mono _ _
      | exact spec_FindPhrase.mono _ _ _
      | exact LeO.none _
      | refine LeO.ite ?_ ?_
      | refine LeO.bind ?_ (fun _ => ?_)
    · intro y0 y1 y2 y3 y4
      unfold laws_FnPhrases.j5
      repeat' first
      | (with_reducible exact ih0 _ _ _)
      | (with_reducible exact ih1 _)
      | (with_reducible exact ih2 _ _)
      | (with_reducible exact ih3 _ _ _ _ _)
      | (with_reducible exact ih4 _ _ _ _)
      | (with_reducible exact ih5 _ _ _ _ _)
      | (with_reducible exact ih6 _ _ _ _ _)
      | (with_reducible exact impl_BorderOf.mono _ _)
      | (with_reducible exact impl_CommonPhrase.mono _ _ _)
      | (with_reducible exact impl_CountApart.mono _ _ _)
      | (with_reducible exact impl_FindPhrase.mono _ _ _)
      | (with_reducible exact laws_b10Has.mono _ _ _)
      | (with_reducible exact laws_b10Nums.mono _ _ _)
      | (with_reducible exact laws_b10Rises.mono _ _ _)
      | (with_reducible exact spec_DrawBorderOf.mono _ _)
      | (with_reducible exact spec_DrawCommonPhrase.mono _ _)
      | (with_reducible exact spec_DrawFindPhrase.mono _ _)
      | (with_reducible exact spec_FindPhrase.mono _ _ _)
      | (with_reducible exact LeO.refl _)
      | (with_reducible exact LeO.none _)
      | (with_reducible refine LeO.ite ?_ ?_)
      | (with_reducible refine LeO.bind ?_ (fun _ => ?_))
      | exact ih0 _ _ _
      | exact ih1 _
      | exact ih2 _ _
      | exact ih3 _ _ _ _ _
      | exact ih4 _ _ _ _
      | exact ih5 _ _ _ _ _
      | exact ih6 _ _ _ _ _
      | exact impl_BorderOf.mono _ _
      | exact impl_CommonPhrase.mono _ _ _
      | exact impl_CountApart.mono _ _ _
      | exact impl_FindPhrase.mono _ _ _
      | exact laws_b10Has.mono _ _ _
      | exact laws_b10Nums.mono _ _ _
      | exact laws_b10Rises.mono _ _ _
      | exact spec_DrawBorderOf.mono _ _
      | exact spec_DrawCommonPhrase.mono _ _
      | exact spec_DrawFindPhrase.mono _ _
      | exact spec_FindPhrase.mono _ _ _
      | exact LeO.none _
      | refine LeO.ite ?_ ?_
      | refine LeO.bind ?_ (fun _ => ?_)
    · intro y0 y1 y2 y3
      unfold laws_FnPhrases.j6
      repeat' first
      | (with_reducible exact ih0 _ _ _)
      | (with_reducible exact ih1 _)
      | (with_reducible exact ih2 _ _)
      | (with_reducible exact ih3 _ _ _ _ _)
      | (with_reducible exact ih4 _ _ _ _)
      | (with_reducible exact ih5 _ _ _ _ _)
      | (with_reducible exact ih6 _ _ _ _ _)
      | (with_reducible exact impl_BorderOf.mono _ _)
      | (with_reducible exact impl_CommonPhrase.mono _ _ _)
      | (with_reducible exact impl_CountApart.mono _ _ _)
      | (with_reducible exact impl_FindPhrase.mono _ _ _)
      | (with_reducible exact laws_b10Has.mono _ _ _)
      | (with_reducible exact laws_b10Nums.mono _ _ _)
      | (with_reducible exact laws_b10Rises.mono _ _ _)
      | (with_reducible exact spec_DrawBorderOf.mono _ _)
      | (with_reducible exact spec_DrawCommonPhrase.mono _ _)
      | (with_reducible exact spec_DrawFindPhrase.mono _ _)
      | (with_reducible exact spec_FindPhrase.mono _ _ _)
      | (with_reducible exact LeO.refl _)
      | (with_reducible exact LeO.none _)
      | (with_reducible refine LeO.ite ?_ ?_)
      | (with_reducible refine LeO.bind ?_ (fun _ => ?_))
      | exact ih0 _ _ _
      | exact ih1 _
      | exact ih2 _ _
      | exact ih3 _ _ _ _ _
      | exact ih4 _ _ _ _
      | exact ih5 _ _ _ _ _
      | exact ih6 _ _ _ _ _
      | exact impl_BorderOf.mono _ _
      | exact impl_CommonPhrase.mono _ _ _
      | exact impl_CountApart.mono _ _ _
      | exact impl_FindPhrase.mono _ _ _
      | exact laws_b10Has.mono _ _ _
      | exact laws_b10Nums.mono _ _ _
      | exact laws_b10Rises.mono _ _ _
      | exact spec_DrawBorderOf.mono _ _
      | exact spec_DrawCommonPhrase.mono _ _
      | exact spec_DrawFindPhrase.mono _ _
      | exact spec_FindPhrase.mono _ _ _
      | exact LeO.none _
      | refine LeO.ite ?_ ?_
      | refine LeO.bind ?_ (fun _ => ?_)
    · intro y0 y1 y2 y3 y4
      unfold laws_FnPhrases.j1
      repeat' first
      | (with_reducible exact ih0 _ _ _)
      | (with_reducible exact ih1 _)
      | (with_reducible exact ih2 _ _)
      | (with_reducible exact ih3 _ _ _ _ _)
      | (with_reducible exact ih4 _ _ _ _)
      | (with_reducible exact ih5 _ _ _ _ _)
      | (with_reducible exact ih6 _ _ _ _ _)
      | (with_reducible exact impl_BorderOf.mono _ _)
      | (with_reducible exact impl_CommonPhrase.mono _ _ _)
      | (with_reducible exact impl_CountApart.mono _ _ _)
      | (with_reducible exact impl_FindPhrase.mono _ _ _)
      | (with_reducible exact laws_b10Has.mono _ _ _)
      | (with_reducible exact laws_b10Nums.mono _ _ _)
      | (with_reducible exact laws_b10Rises.mono _ _ _)
      | (with_reducible exact spec_DrawBorderOf.mono _ _)
      | (with_reducible exact spec_DrawCommonPhrase.mono _ _)
      | (with_reducible exact spec_DrawFindPhrase.mono _ _)
      | (with_reducible exact spec_FindPhrase.mono _ _ _)
      | (with_reducible exact LeO.refl _)
      | (with_reducible exact LeO.none _)
      | (with_reducible refine LeO.ite ?_ ?_)
      | (with_reducible refine LeO.bind ?_ (fun _ => ?_))
      | exact ih0 _ _ _
      | exact ih1 _
      | exact ih2 _ _
      | exact ih3 _ _ _ _ _
      | exact ih4 _ _ _ _
      | exact ih5 _ _ _ _ _
      | exact ih6 _ _ _ _ _
      | exact impl_BorderOf.mono _ _
      | exact impl_CommonPhrase.mono _ _ _
      | exact impl_CountApart.mono _ _ _
      | exact impl_FindPhrase.mono _ _ _
      | exact laws_b10Has.mono _ _ _
      | exact laws_b10Nums.mono _ _ _
      | exact laws_b10Rises.mono _ _ _
      | exact spec_DrawBorderOf.mono _ _
      | exact spec_DrawCommonPhrase.mono _ _
      | exact spec_DrawFindPhrase.mono _ _
      | exact spec_FindPhrase.mono _ _ _
      | exact LeO.none _
      | refine LeO.ite ?_ ?_
      | refine LeO.bind ?_ (fun _ => ?_)
    · intro y0 y1 y2 y3 y4
      unfold laws_FnPhrases.l0
      repeat' first
      | (with_reducible exact ih0 _ _ _)
      | (with_reducible exact ih1 _)
      | (with_reducible exact ih2 _ _)
      | (with_reducible exact ih3 _ _ _ _ _)
      | (with_reducible exact ih4 _ _ _ _)
      | (with_reducible exact ih5 _ _ _ _ _)
      | (with_reducible exact ih6 _ _ _ _ _)
      | (with_reducible exact impl_BorderOf.mono _ _)
      | (with_reducible exact impl_CommonPhrase.mono _ _ _)
      | (with_reducible exact impl_CountApart.mono _ _ _)
      | (with_reducible exact impl_FindPhrase.mono _ _ _)
      | (with_reducible exact laws_b10Has.mono _ _ _)
      | (with_reducible exact laws_b10Nums.mono _ _ _)
      | (with_reducible exact laws_b10Rises.mono _ _ _)
      | (with_reducible exact spec_DrawBorderOf.mono _ _)
      | (with_reducible exact spec_DrawCommonPhrase.mono _ _)
      | (with_reducible exact spec_DrawFindPhrase.mono _ _)
      | (with_reducible exact spec_FindPhrase.mono _ _ _)
      | (with_reducible exact LeO.refl _)
      | (with_reducible exact LeO.none _)
      | (with_reducible refine LeO.ite ?_ ?_)
      | (with_reducible refine LeO.bind ?_ (fun _ => ?_))
      | exact ih0 _ _ _
      | exact ih1 _
      | exact ih2 _ _
      | exact ih3 _ _ _ _ _
      | exact ih4 _ _ _ _
      | exact ih5 _ _ _ _ _
      | exact ih6 _ _ _ _ _
      | exact impl_BorderOf.mono _ _
      | exact impl_CommonPhrase.mono _ _ _
      | exact impl_CountApart.mono _ _ _
      | exact impl_FindPhrase.mono _ _ _
      | exact laws_b10Has.mono _ _ _
      | exact laws_b10Nums.mono _ _ _
      | exact laws_b10Rises.mono _ _ _
      | exact spec_DrawBorderOf.mono _ _
      | exact spec_DrawCommonPhrase.mono _ _
      | exact spec_DrawFindPhrase.mono _ _
      | exact spec_FindPhrase.mono _ _ _
      | exact LeO.none _
      | refine LeO.ite ?_ ?_
      | refine LeO.bind ?_ (fun _ => ?_)
theorem laws_FnPhrases.mono : ∀ a0 a1 k, LeO (laws_FnPhrases.f k a0 a1) (laws_FnPhrases.f (k + 1) a0 a1) := by
  intro a0 a1 k
  obtain ⟨ih0, ih1, ih2, ih3, ih4, ih5, ih6⟩ := laws_FnPhrases.mono_l k
  unfold laws_FnPhrases.f
  repeat' first
      | (with_reducible exact ih0 _ _ _)
      | (with_reducible exact ih1 _)
      | (with_reducible exact ih2 _ _)
      | (with_reducible exact ih3 _ _ _ _ _)
      | (with_reducible exact ih4 _ _ _ _)
      | (with_reducible exact ih5 _ _ _ _ _)
      | (with_reducible exact ih6 _ _ _ _ _)
      | (with_reducible exact impl_BorderOf.mono _ _)
      | (with_reducible exact impl_CommonPhrase.mono _ _ _)
      | (with_reducible exact impl_CountApart.mono _ _ _)
      | (with_reducible exact impl_FindPhrase.mono _ _ _)
      | (with_reducible exact laws_b10Has.mono _ _ _)
      | (with_reducible exact laws_b10Nums.mono _ _ _)
      | (with_reducible exact laws_b10Rises.mono _ _ _)
      | (with_reducible exact spec_DrawBorderOf.mono _ _)
      | (with_reducible exact spec_DrawCommonPhrase.mono _ _)
      | (with_reducible exact spec_DrawFindPhrase.mono _ _)
      | (with_reducible exact spec_FindPhrase.mono _ _ _)
      | (with_reducible exact LeO.refl _)
      | (with_reducible exact LeO.none _)
      | (with_reducible refine LeO.ite ?_ ?_)
      | (with_reducible refine LeO.bind ?_ (fun _ => ?_))
      | exact ih0 _ _ _
      | exact ih1 _
      | exact ih2 _ _
      | exact ih3 _ _ _ _ _
      | exact ih4 _ _ _ _
      | exact ih5 _ _ _ _ _
      | exact ih6 _ _ _ _ _
      | exact impl_BorderOf.mono _ _
      | exact impl_CommonPhrase.mono _ _ _
      | exact impl_CountApart.mono _ _ _
      | exact impl_FindPhrase.mono _ _ _
      | exact laws_b10Has.mono _ _ _
      | exact laws_b10Nums.mono _ _ _
      | exact laws_b10Rises.mono _ _ _
      | exact spec_DrawBorderOf.mono _ _
      | exact spec_DrawCommonPhrase.mono _ _
      | exact spec_DrawFindPhrase.mono _ _
      | exact spec_FindPhrase.mono _ _ _
      | exact LeO.none _
      | refine LeO.ite ?_ ?_
      | refine LeO.bind ?_ (fun _ => ?_)

end Go.Proofs.Ytomeeimjlagbbaa.PT
