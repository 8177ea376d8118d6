-- WRITTEN BY wip/gprint.py, a program of this session's over the kit's print, with contracts given by hand
import Derived.Test.YtomeeimjlagbbaaPUx0
import Derived.Test.YtomeeimjlagbbaaPUx1
import Derived.Test.YtomeeimjlagbbaaPUx5
import Derived.Test.YtomeeimjlagbbaaPUx8
import Derived.Test.YtomeeimjlagbbaaPUx9
import Derived.Test.YtomeeimjlagbbaaPUx10
import Derived.Test.YtomeeimjlagbbaaPUx14
import Derived.Test.YtomeeimjlagbbaaPUx15
import Derived.Test.YtomeeimjlagbbaaPUx16
namespace Go.Proofs.Ytomeeimjlagbbaa.PU
open Go.RowKit Go.Proofs.YtomeeimjlagbbaaW.PrintWords Go.Proofs.YtomeeimjlagbbaaW.PrintLast Go.Proofs.YtomeeimjlagbbaaW.PrintMore
attribute [local go_sem] max2_int min2_int max_two min_two max_three min_three max_four min_four   -- for this text's walks alone
set_option linter.unusedVariables false
set_option linter.unusedSimpArgs false

/-! ### laws_FnCurves: function 9 -/
mutual
def laws_FnCurves.j0 : Nat → List Int → List Int → Bool → Option (Bool)
 | 0, _, _, _ => none
 | k + 1, x0, x1, x44 => if x44 = true then (some true) else ((spec_DrawSmoothCurve.f k x0).bind fun bt478 => ((impl_SmoothCurve.f k bt478.1 bt478.2).bind fun bt482 => (if bt482.2 = 0 then (laws_FnCurves.j1 k x0 x1 bt478.1 bt482.1 (decide ((bt478.1.length : Int) > 0))) else (laws_FnCurves.j1 k x0 x1 bt478.1 bt482.1 false))))
def laws_FnCurves.j1 : Nat → List Int → List Int → List Int → List Int → Bool → Option (Bool)
 | 0, _, _, _, _, _ => none
 | k + 1, x0, x1, x5, x7, x62 => if x62 = true then (if (x7.length : Int) = (x5.length : Int) then (if 0 < (x7.length : Int) then (if 0 < (x5.length : Int) then (if (rd x7 0) = (rd x5 0) then (if 0 ≤ (wrap64 ((x5.length : Int) - 1)) then (if (wrap64 ((x5.length : Int) - 1)) < (x7.length : Int) then (if (wrap64 ((x5.length : Int) - 1)) < (x5.length : Int) then (laws_FnCurves.j2 k x0 x1 x5 x7 ((rd x7 (wrap64 ((x5.length : Int) - 1))) != (rd x5 (wrap64 ((x5.length : Int) - 1))))) else (none)) else (none)) else (none)) else (laws_FnCurves.j2 k x0 x1 x5 x7 true)) else (none)) else (none)) else (laws_FnCurves.j2 k x0 x1 x5 x7 true)) else (laws_FnCurves.j5 k x0 x1)
def laws_FnCurves.j5 : Nat → List Int → List Int → Option (Bool)
 | 0, _, _ => none
 | k + 1, x0, x1 => (spec_DrawGlideCurve.f x1).bind fun bt496 => ((impl_GlideCurve.f k bt496.1 bt496.2.1 bt496.2.2).bind fun bt499 => (if bt499.2 = 0 then (if (bt499.1.length : Int) = bt496.2.2 then (if (bt499.1.length : Int) = 0 then (laws_FnCurves.j6 k x0 x1 bt496.1 bt496.2.1 bt499.1 true) else (if 0 < (bt499.1.length : Int) then (laws_FnCurves.j6 k x0 x1 bt496.1 bt496.2.1 bt499.1 ((rd bt499.1 0) != bt496.1)) else (none))) else (laws_FnCurves.j6 k x0 x1 bt496.1 bt496.2.1 bt499.1 true)) else (laws_FnCurves.j8 k x0 x1)))
def laws_FnCurves.j8 : Nat → List Int → List Int → Option (Bool)
 | 0, _, _ => none
 | k + 1, x0, x1 => (spec_DrawGraceNotes.f k x1).bind fun bt510 => ((impl_GraceNotes.f k bt510.1 bt510.2.1 bt510.2.2.1 bt510.2.2.2).bind fun bt516 => (if bt516.2 = 0 then ((spec_DurationOf.f k bt510.1).bind fun bt520 => ((spec_DurationOf.f k bt516.1).bind fun bt522 => (if bt520.2 = 0 then (if bt522.2 = 0 then (if bt520.1 = bt522.1 then ((spec_ValidMelody.f k bt516.1).bind fun t524 => (if t524 = true then (if (bt516.1.length : Int) = (wrap64 ((bt510.1.length : Int) + 1)) then (laws_FnCurves.j9 k x0) else (some false)) else (some false))) else (some false)) else (some false)) else (some false)))) else (laws_FnCurves.j9 k x0)))
def laws_FnCurves.j9 : Nat → List Int → Option (Bool)
 | 0, _ => none
 | k + 1, x0 => (spec_DrawTrillNote.f k x0).bind fun bt525 => ((impl_TrillNote.f k bt525.1 bt525.2.1 bt525.2.2.1 bt525.2.2.2).bind fun bt531 => (if bt531.2 = 0 then ((spec_DurationOf.f k bt525.1).bind fun bt535 => ((spec_DurationOf.f k bt531.1).bind fun bt537 => (if bt535.2 = 0 then (if bt537.2 = 0 then (if bt535.1 = bt537.1 then ((spec_ValidMelody.f k bt531.1).bind fun t539 => (some t539)) else (some false)) else (some false)) else (some false)))) else (some ((bt531.1.length : Int) == 0))))
def laws_FnCurves.j6 : Nat → List Int → List Int → Int → Int → List Int → Bool → Option (Bool)
 | 0, _, _, _, _, _, _ => none
 | k + 1, x0, x1, x13, x14, x16, x166 => if x166 = true then (some false) else (laws_FnCurves.l2 k x0 x1 x13 x14 x16 1)
def laws_FnCurves.l2 : Nat → List Int → List Int → Int → Int → List Int → Int → Option (Bool)
 | 0, _, _, _, _, _, _ => none
 | k + 1, x0, x1, x13, x14, x16, x18 => if x18 < (x16.length : Int) then (if x13 ≤ x14 then (if 0 ≤ x18 then (if 0 ≤ (wrap64 (x18 - 1)) then (if (wrap64 (x18 - 1)) < (x16.length : Int) then (if (rd x16 x18) < (rd x16 (wrap64 (x18 - 1))) then (some false) else (if x13 ≥ x14 then (if (rd x16 x18) > (rd x16 (wrap64 (x18 - 1))) then (some false) else (laws_FnCurves.l2 k x0 x1 x13 x14 x16 (wrap64 (x18 + 1)))) else (laws_FnCurves.l2 k x0 x1 x13 x14 x16 (wrap64 (x18 + 1))))) else (none)) else (none)) else (none)) else (if x13 ≥ x14 then (if 0 ≤ x18 then (if 0 ≤ (wrap64 (x18 - 1)) then (if (wrap64 (x18 - 1)) < (x16.length : Int) then (if (rd x16 x18) > (rd x16 (wrap64 (x18 - 1))) then (some false) else (laws_FnCurves.l2 k x0 x1 x13 x14 x16 (wrap64 (x18 + 1)))) else (none)) else (none)) else (none)) else (laws_FnCurves.l2 k x0 x1 x13 x14 x16 (wrap64 (x18 + 1))))) else (laws_FnCurves.j8 k x0 x1)
def laws_FnCurves.j2 : Nat → List Int → List Int → List Int → List Int → Bool → Option (Bool)
 | 0, _, _, _, _, _ => none
 | k + 1, x0, x1, x5, x7, x91 => if x91 = true then (some false) else (if 0 < (x5.length : Int) then (laws_FnCurves.l0 k x0 x1 x5 x7 (rd x5 0) (rd x5 0) 0) else (none))
def laws_FnCurves.l0 : Nat → List Int → List Int → List Int → List Int → Int → Int → Int → Option (Bool)
 | 0, _, _, _, _, _, _, _ => none
 | k + 1, x0, x1, x5, x7, x9, x10, x11 => if x11 < (x5.length : Int) then (if 0 ≤ x11 then (laws_FnCurves.l0 k x0 x1 x5 x7 (mn x9 (rd x5 x11)) (mx x10 (rd x5 x11)) (wrap64 (x11 + 1))) else (none)) else (laws_FnCurves.l1 k x0 x1 x7 x9 x10 0)
def laws_FnCurves.l1 : Nat → List Int → List Int → List Int → Int → Int → Int → Option (Bool)
 | 0, _, _, _, _, _, _ => none
 | k + 1, x0, x1, x7, x9, x10, x12 => if x12 < (x7.length : Int) then (if 0 ≤ x12 then (if (rd x7 x12) < x9 then (some false) else (if (rd x7 x12) > x10 then (some false) else (laws_FnCurves.l1 k x0 x1 x7 x9 x10 (wrap64 (x12 + 1))))) else (none)) else (laws_FnCurves.j5 k x0 x1)
end
def laws_FnCurves.f (k : Nat) (l0 : List Int) (l1 : List Int) : Option (Bool) := (laws_b10Long.f l0).bind fun t476 => (if t476 = true then (laws_FnCurves.j0 k l0 l1 true) else ((laws_b10Long.f l1).bind fun t477 => (laws_FnCurves.j0 k l0 l1 t477)))
theorem laws_FnCurves.mono_l : ∀ k, (∀ y0 y1 y2, LeO (laws_FnCurves.j0 k y0 y1 y2) (laws_FnCurves.j0 (k + 1) y0 y1 y2)) ∧ (∀ y0 y1 y2 y3 y4, LeO (laws_FnCurves.j1 k y0 y1 y2 y3 y4) (laws_FnCurves.j1 (k + 1) y0 y1 y2 y3 y4)) ∧ (∀ y0 y1, LeO (laws_FnCurves.j5 k y0 y1) (laws_FnCurves.j5 (k + 1) y0 y1)) ∧ (∀ y0 y1, LeO (laws_FnCurves.j8 k y0 y1) (laws_FnCurves.j8 (k + 1) y0 y1)) ∧ (∀ y0, LeO (laws_FnCurves.j9 k y0) (laws_FnCurves.j9 (k + 1) y0)) ∧ (∀ y0 y1 y2 y3 y4 y5, LeO (laws_FnCurves.j6 k y0 y1 y2 y3 y4 y5) (laws_FnCurves.j6 (k + 1) y0 y1 y2 y3 y4 y5)) ∧ (∀ y0 y1 y2 y3 y4 y5, LeO (laws_FnCurves.l2 k y0 y1 y2 y3 y4 y5) (laws_FnCurves.l2 (k + 1) y0 y1 y2 y3 y4 y5)) ∧ (∀ y0 y1 y2 y3 y4, LeO (laws_FnCurves.j2 k y0 y1 y2 y3 y4) (laws_FnCurves.j2 (k + 1) y0 y1 y2 y3 y4)) ∧ (∀ y0 y1 y2 y3 y4 y5 y6, LeO (laws_FnCurves.l0 k y0 y1 y2 y3 y4 y5 y6) (laws_FnCurves.l0 (k + 1) y0 y1 y2 y3 y4 y5 y6)) ∧ (∀ y0 y1 y2 y3 y4 y5, LeO (laws_FnCurves.l1 k y0 y1 y2 y3 y4 y5) (laws_FnCurves.l1 (k + 1) y0 y1 y2 y3 y4 y5))
 | 0 => ⟨fun _ _ _ r h => by simp [laws_FnCurves.j0] at h, fun _ _ _ _ _ r h => by simp [laws_FnCurves.j1] at h, fun _ _ r h => by simp [laws_FnCurves.j5] at h, fun _ _ r h => by simp [laws_FnCurves.j8] at h, fun _ r h => by simp [laws_FnCurves.j9] at h, fun _ _ _ _ _ _ r h => by simp [laws_FnCurves.j6] at h, fun _ _ _ _ _ _ r h => by simp [laws_FnCurves.l2] at h, fun _ _ _ _ _ r h => by simp [laws_FnCurves.j2] at h, fun _ _ _ _ _ _ _ r h => by simp [laws_FnCurves.l0] at h, fun _ _ _ _ _ _ r h => by simp [laws_FnCurves.l1] at h⟩
 | k + 1 => by
  obtain ⟨ih0, ih1, ih2, ih3, ih4, ih5, ih6, ih7, ih8, ih9⟩ := laws_FnCurves.mono_l k
  refine ⟨?_, ?_, ?_, ?_, ?_, ?_, ?_, ?_, ?_, ?_⟩
  · intro y0 y1 y2
    unfold laws_FnCurves.j0
    repeat' first
    | (with_reducible exact ih0 _ _ _)
    | (with_reducible exact ih1 _ _ _ _ _)
    | (with_reducible exact ih2 _ _)
    | (with_reducible exact ih3 _ _)
    | (with_reducible exact ih4 _)
    | (with_reducible exact ih5 _ _ _ _ _ _)
    | (with_reducible exact ih6 _ _ _ _ _ _)
    | (with_reducible exact ih7 _ _ _ _ _)
    | (with_reducible exact ih8 _ _ _ _ _ _ _)
    | (with_reducible exact ih9 _ _ _ _ _ _)
    | (with_reducible exact impl_GlideCurve.mono _ _ _ _)
    | (with_reducible exact impl_GraceNotes.mono _ _ _ _ _)
    | (with_reducible exact impl_SmoothCurve.mono _ _ _)
    | (with_reducible exact impl_TrillNote.mono _ _ _ _ _)
    | (with_reducible exact spec_DrawGraceNotes.mono _ _)
    | (with_reducible exact spec_DrawSmoothCurve.mono _ _)
    | (with_reducible exact spec_DrawTrillNote.mono _ _)
    | (with_reducible exact spec_DurationOf.mono _ _)
    | (with_reducible exact spec_ValidMelody.mono _ _)
    | (with_reducible exact LeO.refl _)
    | (with_reducible exact LeO.none _)
    | (with_reducible refine LeO.ite ?_ ?_)
    | (with_reducible refine LeO.bind ?_ (fun _ => ?_))
    | exact ih0 _ _ _
    | exact ih1 _ _ _ _ _
    | exact ih2 _ _
    | exact ih3 _ _
    | exact ih4 _
    | exact ih5 _ _ _ _ _ _
    | exact ih6 _ _ _ _ _ _
    | exact ih7 _ _ _ _ _
    | exact ih8 _ _ _ _ _ _ _
    | exact ih9 _ _ _ _ _ _
    | exact impl_GlideCurve.mono _ _ _ _
    | exact impl_GraceNotes.mono _ _ _ _ _
    | exact impl_SmoothCurve.mono _ _ _
    | exact impl_TrillNote.mono _ _ _ _ _
    | exact spec_DrawGraceNotes.mono _ _
    | exact spec_DrawSmoothCurve.mono _ _
    | exact spec_DrawTrillNote.mono _ _
    | exact spec_DurationOf.mono _ _
    | exact spec_ValidMelody.mono _ _
    | exact LeO.none _
    | refine LeO.ite ?_ ?_
    | refine LeO.bind ?_ (fun _ => ?_)
  · intro y0 y1 y2 y3 y4
    unfold laws_FnCurves.j1
    repeat' first
    | (with_reducible exact ih0 _ _ _)
    | (with_reducible exact ih1 _ _ _ _ _)
    | (with_reducible exact ih2 _ _)
    | (with_reducible exact ih3 _ _)
    | (with_reducible exact ih4 _)
    | (with_reducible exact ih5 _ _ _ _ _ _)
    | (with_reducible exact ih6 _ _ _ _ _ _)
    | (with_reducible exact ih7 _ _ _ _ _)
    | (with_reducible exact ih8 _ _ _ _ _ _ _)
    | (with_reducible exact ih9 _ _ _ _ _ _)
    | (with_reducible exact impl_GlideCurve.mono _ _ _ _)
    | (with_reducible exact impl_GraceNotes.mono _ _ _ _ _)
    | (with_reducible exact impl_SmoothCurve.mono _ _ _)
    | (with_reducible exact impl_TrillNote.mono _ _ _ _ _)
    | (with_reducible exact spec_DrawGraceNotes.mono _ _)
    | (with_reducible exact spec_DrawSmoothCurve.mono _ _)
    | (with_reducible exact spec_DrawTrillNote.mono _ _)
    | (with_reducible exact spec_DurationOf.mono _ _)
    | (with_reducible exact spec_ValidMelody.mono _ _)
    | (with_reducible exact LeO.refl _)
    | (with_reducible exact LeO.none _)
    | (with_reducible refine LeO.ite ?_ ?_)
    | (with_reducible refine LeO.bind ?_ (fun _ => ?_))
    | exact ih0 _ _ _
    | exact ih1 _ _ _ _ _
    | exact ih2 _ _
    | exact ih3 _ _
    | exact ih4 _
    | exact ih5 _ _ _ _ _ _
    | exact ih6 _ _ _ _ _ _
    | exact ih7 _ _ _ _ _
    | exact ih8 _ _ _ _ _ _ _
    | exact ih9 _ _ _ _ _ _
    | exact impl_GlideCurve.mono _ _ _ _
    | exact impl_GraceNotes.mono _ _ _ _ _
    | exact impl_SmoothCurve.mono _ _ _
    | exact impl_TrillNote.mono _ _ _ _ _
    | exact spec_DrawGraceNotes.mono _ _
    | exact spec_DrawSmoothCurve.mono _ _
    | exact spec_DrawTrillNote.mono _ _
    | exact spec_DurationOf.mono _ _
    | exact spec_ValidMelody.mono _ _
    | exact LeO.none _
    | refine LeO.ite ?_ ?_
    | refine LeO.bind ?_ (fun _ => ?_)
  · intro y0 y1
    unfold laws_FnCurves.j5
    repeat' first
    | (with_reducible exact ih0 _ _ _)
    | (with_reducible exact ih1 _ _ _ _ _)
    | (with_reducible exact ih2 _ _)
    | (with_reducible exact ih3 _ _)
    | (with_reducible exact ih4 _)
    | (with_reducible exact ih5 _ _ _ _ _ _)
    | (with_reducible exact ih6 _ _ _ _ _ _)
    | (with_reducible exact ih7 _ _ _ _ _)
    | (with_reducible exact ih8 _ _ _ _ _ _ _)
    | (with_reducible exact ih9 _ _ _ _ _ _)
    | (with_reducible exact impl_GlideCurve.mono _ _ _ _)
    | (with_reducible exact impl_GraceNotes.mono _ _ _ _ _)
    | (with_reducible exact impl_SmoothCurve.mono _ _ _)
    | (with_reducible exact impl_TrillNote.mono _ _ _ _ _)
    | (with_reducible exact spec_DrawGraceNotes.mono _ _)
    | (with_reducible exact spec_DrawSmoothCurve.mono _ _)
    | (with_reducible exact spec_DrawTrillNote.mono _ _)
    | (with_reducible exact spec_DurationOf.mono _ _)
    | (with_reducible exact spec_ValidMelody.mono _ _)
    | (with_reducible exact LeO.refl _)
    | (with_reducible exact LeO.none _)
    | (with_reducible refine LeO.ite ?_ ?_)
    | (with_reducible refine LeO.bind ?_ (fun _ => ?_))
    | exact ih0 _ _ _
    | exact ih1 _ _ _ _ _
    | exact ih2 _ _
    | exact ih3 _ _
    | exact ih4 _
    | exact ih5 _ _ _ _ _ _
    | exact ih6 _ _ _ _ _ _
    | exact ih7 _ _ _ _ _
    | exact ih8 _ _ _ _ _ _ _
    | exact ih9 _ _ _ _ _ _
    | exact impl_GlideCurve.mono _ _ _ _
    | exact impl_GraceNotes.mono _ _ _ _ _
    | exact impl_SmoothCurve.mono _ _ _
    | exact impl_TrillNote.mono _ _ _ _ _
    | exact spec_DrawGraceNotes.mono _ _
    | exact spec_DrawSmoothCurve.mono _ _
    | exact spec_DrawTrillNote.mono _ _
    | exact spec_DurationOf.mono _ _
    | exact spec_ValidMelody.mono _ _
    | exact LeO.none _
    | refine LeO.ite ?_ ?_
    | refine LeO.bind ?_ (fun _ => ?_)
  · intro y0 y1
    unfold laws_FnCurves.j8
    repeat' first
    | (with_reducible exact ih0 _ _ _)
    | (with_reducible exact ih1 _ _ _ _ _)
    | (with_reducible exact ih2 _ _)
    | (with_reducible exact ih3 _ _)
    | (with_reducible exact ih4 _)
    | (with_reducible exact ih5 _ _ _ _ _ _)
    | (with_reducible exact ih6 _ _ _ _ _ _)
    | (with_reducible exact ih7 _ _ _ _ _)
    | (with_reducible exact ih8 _ _ _ _ _ _ _)
    | (with_reducible exact ih9 _ _ _ _ _ _)
    | (with_reducible exact impl_GlideCurve.mono _ _ _ _)
    | (with_reducible exact impl_GraceNotes.mono _ _ _ _ _)
    | (with_reducible exact impl_SmoothCurve.mono _ _ _)
    | (with_reducible exact impl_TrillNote.mono _ _ _ _ _)
    | (with_reducible exact spec_DrawGraceNotes.mono _ _)
    | (with_reducible exact spec_DrawSmoothCurve.mono _ _)
    | (with_reducible exact spec_DrawTrillNote.mono _ _)
    | (with_reducible exact spec_DurationOf.mono _ _)
    | (with_reducible exact spec_ValidMelody.mono _ _)
    | (with_reducible exact LeO.refl _)
    | (with_reducible exact LeO.none _)
    | (with_reducible refine LeO.ite ?_ ?_)
    | (with_reducible refine LeO.bind ?_ (fun _ => ?_))
    | exact ih0 _ _ _
    | exact ih1 _ _ _ _ _
    | exact ih2 _ _
    | exact ih3 _ _
    | exact ih4 _
    | exact ih5 _ _ _ _ _ _
    | exact ih6 _ _ _ _ _ _
    | exact ih7 _ _ _ _ _
    | exact ih8 _ _ _ _ _ _ _
    | exact ih9 _ _ _ _ _ _
    | exact impl_GlideCurve.mono _ _ _ _
    | exact impl_GraceNotes.mono _ _ _ _ _
    | exact impl_SmoothCurve.mono _ _ _
    | exact impl_TrillNote.mono _ _ _ _ _
    | exact spec_DrawGraceNotes.mono _ _
    | exact spec_DrawSmoothCurve.mono _ _
    | exact spec_DrawTrillNote.mono _ _
    | exact spec_DurationOf.mono _ _
    | exact spec_ValidMelody.mono _ _
    | exact LeO.none _
    | refine LeO.ite ?_ ?_
    | refine LeO.bind ?_ (fun _ => ?_)
  · intro y0
    unfold laws_FnCurves.j9
    repeat' first
    | (with_reducible exact ih0 _ _ _)
    | (with_reducible exact ih1 _ _ _ _ _)
    | (with_reducible exact ih2 _ _)
    | (with_reducible exact ih3 _ _)
    | (with_reducible exact ih4 _)
    | (with_reducible exact ih5 _ _ _ _ _ _)
    | (with_reducible exact ih6 _ _ _ _ _ _)
    | (with_reducible exact ih7 _ _ _ _ _)
    | (with_reducible exact ih8 _ _ _ _ _ _ _)
    | (with_reducible exact ih9 _ _ _ _ _ _)
    | (with_reducible exact impl_GlideCurve.mono _ _ _ _)
    | (with_reducible exact impl_GraceNotes.mono _ _ _ _ _)
    | (with_reducible exact impl_SmoothCurve.mono _ _ _)
    | (with_reducible exact impl_TrillNote.mono _ _ _ _ _)
    | (with_reducible exact spec_DrawGraceNotes.mono _ _)
    | (with_reducible exact spec_DrawSmoothCurve.mono _ _)
    | (with_reducible exact spec_DrawTrillNote.mono _ _)
    | (with_reducible exact spec_DurationOf.mono _ _)
    | (with_reducible exact spec_ValidMelody.mono _ _)
    | (with_reducible exact LeO.refl _)
    | (with_reducible exact LeO.none _)
    | (with_reducible refine LeO.ite ?_ ?_)
    | (with_reducible refine LeO.bind ?_ (fun _ => ?_))
    | exact ih0 _ _ _
    | exact ih1 _ _ _ _ _
    | exact ih2 _ _
    | exact ih3 _ _
    | exact ih4 _
    | exact ih5 _ _ _ _ _ _
    | exact ih6 _ _ _ _ _ _
    | exact ih7 _ _ _ _ _
    | exact ih8 _ _ _ _ _ _ _
    | exact ih9 _ _ _ _ _ _
    | exact impl_GlideCurve.mono _ _ _ _
    | exact impl_GraceNotes.mono _ _ _ _ _
    | exact impl_SmoothCurve.mono _ _ _
    | exact impl_TrillNote.mono _ _ _ _ _
    | exact spec_DrawGraceNotes.mono _ _
    | exact spec_DrawSmoothCurve.mono _ _
    | exact spec_DrawTrillNote.mono _ _
    | exact spec_DurationOf.mono _ _
    | exact spec_ValidMelody.mono _ _
    | exact LeO.none _
    | refine LeO.ite ?_ ?_
    | refine LeO.bind ?_ (fun _ => ?_)
  · intro y0 y1 y2 y3 y4 y5
    unfold laws_FnCurves.j6
    repeat' first
    | (with_reducible exact ih0 _ _ _)
    | (with_reducible exact ih1 _ _ _ _ _)
    | (with_reducible exact ih2 _ _)
    | (with_reducible exact ih3 _ _)
    | (with_reducible exact ih4 _)
    | (with_reducible exact ih5 _ _ _ _ _ _)
    | (with_reducible exact ih6 _ _ _ _ _ _)
    | (with_reducible exact ih7 _ _ _ _ _)
    | (with_reducible exact ih8 _ _ _ _ _ _ _)
    | (with_reducible exact ih9 _ _ _ _ _ _)
    | (with_reducible exact impl_GlideCurve.mono _ _ _ _)
    | (with_reducible exact impl_GraceNotes.mono _ _ _ _ _)
    | (with_reducible exact impl_SmoothCurve.mono _ _ _)
    | (with_reducible exact impl_TrillNote.mono _ _ _ _ _)
    | (with_reducible exact spec_DrawGraceNotes.mono _ _)
    | (with_reducible exact spec_DrawSmoothCurve.mono _ _)
    | (with_reducible exact spec_DrawTrillNote.mono _ _)
    | (with_reducible exact spec_DurationOf.mono _ _)
    | (with_reducible exact spec_ValidMelody.mono _ _)
    | (with_reducible exact LeO.refl _)
    | (with_reducible exact LeO.none _)
    | (with_reducible refine LeO.ite ?_ ?_)
    | (with_reducible refine LeO.bind ?_ (fun _ => ?_))
    | exact ih0 _ _ _
    | exact ih1 _ _ _ _ _
    | exact ih2 _ _
    | exact ih3 _ _
    | exact ih4 _
    | exact ih5 _ _ _ _ _ _
    | exact ih6 _ _ _ _ _ _
    | exact ih7 _ _ _ _ _
    | exact ih8 _ _ _ _ _ _ _
    | exact ih9 _ _ _ _ _ _
    | exact impl_GlideCurve.mono _ _ _ _
    | exact impl_GraceNotes.mono _ _ _ _ _
    | exact impl_SmoothCurve.mono _ _ _
    | exact impl_TrillNote.mono _ _ _ _ _
    | exact spec_DrawGraceNotes.mono _ _
    | exact spec_DrawSmoothCurve.mono _ _
    | exact spec_DrawTrillNote.mono _ _
    | exact spec_DurationOf.mono _ _
    | exact spec_ValidMelody.mono _ _
    | exact LeO.none _
    | refine LeO.ite ?_ ?_
    | refine LeO.bind ?_ (fun _ => ?_)
  · intro y0 y1 y2 y3 y4 y5
    unfold laws_FnCurves.l2
    repeat' first
    | (with_reducible exact ih0 _ _ _)
    | (with_reducible exact ih1 _ _ _ _ _)
    | (with_reducible exact ih2 _ _)
    | (with_reducible exact ih3 _ _)
    | (with_reducible exact ih4 _)
    | (with_reducible exact ih5 _ _ _ _ _ _)
    | (with_reducible exact ih6 _ _ _ _ _ _)
    | (with_reducible exact ih7 _ _ _ _ _)
    | (with_reducible exact ih8 _ _ _ _ _ _ _)
    | (with_reducible exact ih9 _ _ _ _ _ _)
    | (with_reducible exact impl_GlideCurve.mono _ _ _ _)
    | (with_reducible exact impl_GraceNotes.mono _ _ _ _ _)
    | (with_reducible exact impl_SmoothCurve.mono _ _ _)
    | (with_reducible exact impl_TrillNote.mono _ _ _ _ _)
    | (with_reducible exact spec_DrawGraceNotes.mono _ _)
    | (with_reducible exact spec_DrawSmoothCurve.mono _ _)
    | (with_reducible exact spec_DrawTrillNote.mono _ _)
    | (with_reducible exact spec_DurationOf.mono _ _)
    | (with_reducible exact spec_ValidMelody.mono _ _)
    | (with_reducible exact LeO.refl _)
    | (with_reducible exact LeO.none _)
    | (with_reducible refine LeO.ite ?_ ?_)
    | (with_reducible refine LeO.bind ?_ (fun _ => ?_))
    | exact ih0 _ _ _
    | exact ih1 _ _ _ _ _
    | exact ih2 _ _
    | exact ih3 _ _
    | exact ih4 _
    | exact ih5 _ _ _ _ _ _
    | exact ih6 _ _ _ _ _ _
    | exact ih7 _ _ _ _ _
    | exact ih8 _ _ _ _ _ _ _
    | exact ih9 _ _ _ _ _ _
    | exact impl_GlideCurve.mono _ _ _ _
    | exact impl_GraceNotes.mono _ _ _ _ _
    | exact impl_SmoothCurve.mono _ _ _
    | exact impl_TrillNote.mono _ _ _ _ _
    | exact spec_DrawGraceNotes.mono _ _
    | exact spec_DrawSmoothCurve.mono _ _
    | exact spec_DrawTrillNote.mono _ _
    | exact spec_DurationOf.mono _ _
    | exact spec_ValidMelody.mono _ _
    | exact LeO.none _
    | refine LeO.ite ?_ ?_
    | refine LeO.bind ?_ (fun _ => ?_)
  · intro y0 y1 y2 y3 y4
    unfold laws_FnCurves.j2
    repeat' first
    | (with_reducible exact ih0 _ _ _)
    | (with_reducible exact ih1 _ _ _ _ _)
    | (with_reducible exact ih2 _ _)
    | (with_reducible exact ih3 _ _)
    | (with_reducible exact ih4 _)
    | (with_reducible exact ih5 _ _ _ _ _ _)
    | (with_reducible exact ih6 _ _ _ _ _ _)
    | (with_reducible exact ih7 _ _ _ _ _)
    | (with_reducible exact ih8 _ _ _ _ _ _ _)
    | (with_reducible exact ih9 _ _ _ _ _ _)
    | (with_reducible exact impl_GlideCurve.mono _ _ _ _)
    | (with_reducible exact impl_GraceNotes.mono _ _ _ _ _)
    | (with_reducible exact impl_SmoothCurve.mono _ _ _)
    | (with_reducible exact impl_TrillNote.mono _ _ _ _ _)
    | (with_reducible exact spec_DrawGraceNotes.mono _ _)
    | (with_reducible exact spec_DrawSmoothCurve.mono _ _)
    | (with_reducible exact spec_DrawTrillNote.mono _ _)
    | (with_reducible exact spec_DurationOf.mono _ _)
    | (with_reducible exact spec_ValidMelody.mono _ _)
    | (with_reducible exact LeO.refl _)
    | (with_reducible exact LeO.none _)
    | (with_reducible refine LeO.ite ?_ ?_)
    | (with_reducible refine LeO.bind ?_ (fun _ => ?_))
    | exact ih0 _ _ _
    | exact ih1 _ _ _ _ _
    | exact ih2 _ _
    | exact ih3 _ _
    | exact ih4 _
    | exact ih5 _ _ _ _ _ _
    | exact ih6 _ _ _ _ _ _
    | exact ih7 _ _ _ _ _
    | exact ih8 _ _ _ _ _ _ _
    | exact ih9 _ _ _ _ _ _
    | exact impl_GlideCurve.mono _ _ _ _
    | exact impl_GraceNotes.mono _ _ _ _ _
    | exact impl_SmoothCurve.mono _ _ _
    | exact impl_TrillNote.mono _ _ _ _ _
    | exact spec_DrawGraceNotes.mono _ _
    | exact spec_DrawSmoothCurve.mono _ _
    | exact spec_DrawTrillNote.mono _ _
    | exact spec_DurationOf.mono _ _
    | exact spec_ValidMelody.mono _ _
    | exact LeO.none _
    | refine LeO.ite ?_ ?_
    | refine LeO.bind ?_ (fun _ => ?_)
  · intro y0 y1 y2 y3 y4 y5 y6
    unfold laws_FnCurves.l0
    repeat' first
    | (with_reducible exact ih0 _ _ _)
    | (with_reducible exact ih1 _ _ _ _ _)
    | (with_reducible exact ih2 _ _)
    | (with_reducible exact ih3 _ _)
    | (with_reducible exact ih4 _)
    | (with_reducible exact ih5 _ _ _ _ _ _)
    | (with_reducible exact ih6 _ _ _ _ _ _)
    | (with_reducible exact ih7 _ _ _ _ _)
    | (with_reducible exact ih8 _ _ _ _ _ _ _)
    | (with_reducible exact ih9 _ _ _ _ _ _)
    | (with_reducible exact impl_GlideCurve.mono _ _ _ _)
    | (with_reducible exact impl_GraceNotes.mono _ _ _ _ _)
    | (with_reducible exact impl_SmoothCurve.mono _ _ _)
    | (with_reducible exact impl_TrillNote.mono _ _ _ _ _)
    | (with_reducible exact spec_DrawGraceNotes.mono _ _)
    | (with_reducible exact spec_DrawSmoothCurve.mono _ _)
    | (with_reducible exact spec_DrawTrillNote.mono _ _)
    | (with_reducible exact spec_DurationOf.mono _ _)
    | (with_reducible exact spec_ValidMelody.mono _ _)
    | (with_reducible exact LeO.refl _)
    | (with_reducible exact LeO.none _)
    | (with_reducible refine LeO.ite ?_ ?_)
    | (with_reducible refine LeO.bind ?_ (fun _ => ?_))
    | exact ih0 _ _ _
    | exact ih1 _ _ _ _ _
    | exact ih2 _ _
    | exact ih3 _ _
    | exact ih4 _
    | exact ih5 _ _ _ _ _ _
    | exact ih6 _ _ _ _ _ _
    | exact ih7 _ _ _ _ _
    | exact ih8 _ _ _ _ _ _ _
    | exact ih9 _ _ _ _ _ _
    | exact impl_GlideCurve.mono _ _ _ _
    | exact impl_GraceNotes.mono _ _ _ _ _
    | exact impl_SmoothCurve.mono _ _ _
    | exact impl_TrillNote.mono _ _ _ _ _
    | exact spec_DrawGraceNotes.mono _ _
    | exact spec_DrawSmoothCurve.mono _ _
    | exact spec_DrawTrillNote.mono _ _
    | exact spec_DurationOf.mono _ _
    | exact spec_ValidMelody.mono _ _
    | exact LeO.none _
    | refine LeO.ite ?_ ?_
    | refine LeO.bind ?_ (fun _ => ?_)
  · intro y0 y1 y2 y3 y4 y5
    unfold laws_FnCurves.l1
    repeat' first
    | (with_reducible exact ih0 _ _ _)
    | (with_reducible exact ih1 _ _ _ _ _)
    | (with_reducible exact ih2 _ _)
    | (with_reducible exact ih3 _ _)
    | (with_reducible exact ih4 _)
    | (with_reducible exact ih5 _ _ _ _ _ _)
    | (with_reducible exact ih6 _ _ _ _ _ _)
    | (with_reducible exact ih7 _ _ _ _ _)
    | (with_reducible exact ih8 _ _ _ _ _ _ _)
    | (with_reducible exact ih9 _ _ _ _ _ _)
    | (with_reducible exact impl_GlideCurve.mono _ _ _ _)
    | (with_reducible exact impl_GraceNotes.mono _ _ _ _ _)
    | (with_reducible exact impl_SmoothCurve.mono _ _ _)
    | (with_reducible exact impl_TrillNote.mono _ _ _ _ _)
    | (with_reducible exact spec_DrawGraceNotes.mono _ _)
    | (with_reducible exact spec_DrawSmoothCurve.mono _ _)
    | (with_reducible exact spec_DrawTrillNote.mono _ _)
    | (with_reducible exact spec_DurationOf.mono _ _)
    | (with_reducible exact spec_ValidMelody.mono _ _)
    | (with_reducible exact LeO.refl _)
    | (with_reducible exact LeO.none _)
    | (with_reducible refine LeO.ite ?_ ?_)
    | (with_reducible refine LeO.bind ?_ (fun _ => ?_))
    | exact ih0 _ _ _
    | exact ih1 _ _ _ _ _
    | exact ih2 _ _
    | exact ih3 _ _
    | exact ih4 _
    | exact ih5 _ _ _ _ _ _
    | exact ih6 _ _ _ _ _ _
    | exact ih7 _ _ _ _ _
    | exact ih8 _ _ _ _ _ _ _
    | exact ih9 _ _ _ _ _ _
    | exact impl_GlideCurve.mono _ _ _ _
    | exact impl_GraceNotes.mono _ _ _ _ _
    | exact impl_SmoothCurve.mono _ _ _
    | exact impl_TrillNote.mono _ _ _ _ _
    | exact spec_DrawGraceNotes.mono _ _
    | exact spec_DrawSmoothCurve.mono _ _
    | exact spec_DrawTrillNote.mono _ _
    | exact spec_DurationOf.mono _ _
    | exact spec_ValidMelody.mono _ _
    | exact LeO.none _
    | refine LeO.ite ?_ ?_
    | refine LeO.bind ?_ (fun _ => ?_)
theorem laws_FnCurves.mono : ∀ a0 a1 k, LeO (laws_FnCurves.f k a0 a1) (laws_FnCurves.f (k + 1) a0 a1) := by
 intro a0 a1 k
 obtain ⟨ih0, ih1, ih2, ih3, ih4, ih5, ih6, ih7, ih8, ih9⟩ := laws_FnCurves.mono_l k
 unfold laws_FnCurves.f
 repeat' first
  | (with_reducible exact ih0 _ _ _)
  | (with_reducible exact ih1 _ _ _ _ _)
  | (with_reducible exact ih2 _ _)
  | (with_reducible exact ih3 _ _)
  | (with_reducible exact ih4 _)
  | (with_reducible exact ih5 _ _ _ _ _ _)
  | (with_reducible exact ih6 _ _ _ _ _ _)
  | (with_reducible exact ih7 _ _ _ _ _)
  | (with_reducible exact ih8 _ _ _ _ _ _ _)
  | (with_reducible exact ih9 _ _ _ _ _ _)
  | (with_reducible exact impl_GlideCurve.mono _ _ _ _)
  | (with_reducible exact impl_GraceNotes.mono _ _ _ _ _)
  | (with_reducible exact impl_SmoothCurve.mono _ _ _)
  | (with_reducible exact impl_TrillNote.mono _ _ _ _ _)
  | (with_reducible exact spec_DrawGraceNotes.mono _ _)
  | (with_reducible exact spec_DrawSmoothCurve.mono _ _)
  | (with_reducible exact spec_DrawTrillNote.mono _ _)
  | (with_reducible exact spec_DurationOf.mono _ _)
  | (with_reducible exact spec_ValidMelody.mono _ _)
  | (with_reducible exact LeO.refl _)
  | (with_reducible exact LeO.none _)
  | (with_reducible refine LeO.ite ?_ ?_)
  | (with_reducible refine LeO.bind ?_ (fun _ => ?_))
  | exact ih0 _ _ _
  | exact ih1 _ _ _ _ _
  | exact ih2 _ _
  | exact ih3 _ _
  | exact ih4 _
  | exact ih5 _ _ _ _ _ _
  | exact ih6 _ _ _ _ _ _
  | exact ih7 _ _ _ _ _
  | exact ih8 _ _ _ _ _ _ _
  | exact ih9 _ _ _ _ _ _
  | exact impl_GlideCurve.mono _ _ _ _
  | exact impl_GraceNotes.mono _ _ _ _ _
  | exact impl_SmoothCurve.mono _ _ _
  | exact impl_TrillNote.mono _ _ _ _ _
  | exact spec_DrawGraceNotes.mono _ _
  | exact spec_DrawSmoothCurve.mono _ _
  | exact spec_DrawTrillNote.mono _ _
  | exact spec_DurationOf.mono _ _
  | exact spec_ValidMelody.mono _ _
  | exact LeO.none _
  | refine LeO.ite ?_ ?_
  | refine LeO.bind ?_ (fun _ => ?_)

end Go.Proofs.Ytomeeimjlagbbaa.PU
