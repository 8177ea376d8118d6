-- WRITTEN BY wip/gprint.py, a program of this session's over the kit's print, with contracts given by hand
import Derived.Test.YtmeflmlejcmckaaDoorPBx0
import Derived.Test.YtmeflmlejcmckaaDoorPBx2
import Derived.Test.YtmeflmlejcmckaaDoorPBx12
import Derived.Test.YtmeflmlejcmckaaDoorPBx19
import Derived.Test.YtmeflmlejcmckaaDoorPBx20
import Derived.Test.YtmeflmlejcmckaaDoorPBx21
import Derived.Test.YtmeflmlejcmckaaDoorPBx23
namespace Go.Proofs.YtmeflmlejcmckaaDoor.PB
open Go.RowKit Go.Proofs.YtmeflmlejcmckaaDoorW.PrintWords Go.Proofs.YtmeflmlejcmckaaDoorW.PrintLast Go.Proofs.YtmeflmlejcmckaaDoorW.PrintMore
attribute [local go_sem] max2_int min2_int max_two min_two max_three min_three max_four min_four   -- for this text's walks alone
set_option linter.unusedVariables false
set_option linter.unusedSimpArgs false

attribute [local go_sem] isSome_setCell
/-! ### laws_FnBeats: function 8 -/
mutual
def laws_FnBeats.j0 : Nat → List Int → List Int → Bool → Option (Bool)
 | 0, _, _, _ => none
 | k + 1, x0, x1, x38 => if x38 = true then (some true) else ((spec_DrawPureBeats.f k x0).bind fun bt396 => ((impl_PureBeats.f k bt396.1 bt396.2.1 bt396.2.2.1 bt396.2.2.2.1 bt396.2.2.2.2).bind fun bt404 => (if bt404.2.2.2 = 0 then ((impl_BeatingOf.f k bt396.1 bt396.2.1 bt396.2.2.1 bt396.2.2.2.1 bt404.1 bt396.2.2.2.2 bt404.2.1).bind fun bt408 => ((impl_BeatingOf.f k bt396.1 bt396.2.1 bt396.2.2.1 bt396.2.2.2.2 bt404.2.1 bt396.2.2.2.1 bt404.1).bind fun bt410 => ((laws_b10At.f x1 0 16).bind fun t412 => ((laws_b10At.f x1 1 16).bind fun t413 => ((impl_BeatingOf.f k bt396.1 bt396.2.1 bt396.2.2.1 bt396.2.2.2.1 (wrap64 (1 + t412)) bt396.2.2.2.2 (wrap64 (1 + t413))).bind fun bt414 => ((impl_BeatingOf.f k bt396.1 bt396.2.1 bt396.2.2.1 bt396.2.2.2.1 (wrap64 (1 + t412)) bt396.2.2.2.1 (wrap64 (1 + t412))).bind fun bt416 => (if bt408.2 = 0 then (if bt408.1 = bt404.2.2.1 then (if bt410.2 = 0 then (if bt410.1 = bt408.1 then (if bt414.2 = 0 then (if bt414.1 < bt404.2.2.1 then (some false) else (if bt416.2 = 0 then (if bt416.1 = 0 then (laws_FnBeats.j1 k x1) else (some false)) else (some false))) else (some false)) else (some false)) else (some false)) else (some false)) else (some false)))))))) else (laws_FnBeats.j1 k x1))))
def laws_FnBeats.j1 : Nat → List Int → Option (Bool)
 | 0, _ => none
 | k + 1, x1 => (spec_DrawFrequencyOf.f k x1).bind fun bt418 => ((impl_FrequencyOf.f k bt418.1 bt418.2.1 bt418.2.2.1 bt418.2.2.2).bind fun bt425 => (if bt425.2 = 0 then ((impl_FrequencyOf.f k bt418.1 bt418.2.1 bt418.2.2.1 (wrap64 (bt418.2.2.2 + 12))).bind fun bt427 => ((impl_WorstFifth.f k bt418.1 bt418.2.1).bind fun bt429 => (if bt425.1 > 0 then (if bt427.2 = 0 then ((laws_b10Abs.f (wrap64 (bt427.1 - (wrap64 (2 * bt425.1))))).bind fun t432 => (if t432 ≤ 1 then (if bt429.2.2 = 0 then (if bt429.1 ≥ 0 then (if bt429.1 < 12 then ((laws_b10Abs.f bt429.2.1).bind fun t433 => (some (decide (t433 < 120000)))) else (some false)) else (some false)) else (some false)) else (some false))) else (if bt429.2.2 = 0 then (if bt429.1 ≥ 0 then (if bt429.1 < 12 then ((laws_b10Abs.f bt429.2.1).bind fun t434 => (some (decide (t434 < 120000)))) else (some false)) else (some false)) else (some false))) else (some false)))) else (some (bt425.1 == 0))))
end
def laws_FnBeats.f (k : Nat) (l0 : List Int) (l1 : List Int) : Option (Bool) := (laws_b10Long.f l0).bind fun t394 => (if t394 = true then (laws_FnBeats.j0 k l0 l1 true) else ((laws_b10Long.f l1).bind fun t395 => (laws_FnBeats.j0 k l0 l1 t395)))
theorem laws_FnBeats.mono_l : ∀ k, (∀ y0 y1 y2, LeO (laws_FnBeats.j0 k y0 y1 y2) (laws_FnBeats.j0 (k + 1) y0 y1 y2)) ∧ (∀ y0, LeO (laws_FnBeats.j1 k y0) (laws_FnBeats.j1 (k + 1) y0))
 | 0 => ⟨fun _ _ _ r h => by simp [laws_FnBeats.j0] at h, fun _ r h => by simp [laws_FnBeats.j1] at h⟩
 | k + 1 => by
  obtain ⟨ih0, ih1⟩ := laws_FnBeats.mono_l k
  refine ⟨?_, ?_⟩
  all_goals (intros; (first | unfold laws_FnBeats.j0 | unfold laws_FnBeats.j1); repeat' first
   | (with_reducible exact ih0 _ _ _)
   | (with_reducible exact ih1 _)
   | (with_reducible exact impl_BeatingOf.mono _ _ _ _ _ _ _ _)
   | (with_reducible exact impl_FrequencyOf.mono _ _ _ _ _)
   | (with_reducible exact impl_PureBeats.mono _ _ _ _ _ _)
   | (with_reducible exact impl_WorstFifth.mono _ _ _)
   | (with_reducible exact spec_DrawFrequencyOf.mono _ _)
   | (with_reducible exact spec_DrawPureBeats.mono _ _)
   | (with_reducible exact LeO.refl _)
   | (with_reducible exact LeO.none _)
   | (with_reducible refine LeO.ite ?_ ?_)
   | (with_reducible refine LeO.bind ?_ (fun _ => ?_))
   | exact ih0 _ _ _
   | exact ih1 _
   | exact impl_BeatingOf.mono _ _ _ _ _ _ _ _
   | exact impl_FrequencyOf.mono _ _ _ _ _
   | exact impl_PureBeats.mono _ _ _ _ _ _
   | exact impl_WorstFifth.mono _ _ _
   | exact spec_DrawFrequencyOf.mono _ _
   | exact spec_DrawPureBeats.mono _ _
   | exact LeO.none _
   | refine LeO.ite ?_ ?_
   | refine LeO.bind ?_ (fun _ => ?_))
theorem laws_FnBeats.mono : ∀ a0 a1 k, LeO (laws_FnBeats.f k a0 a1) (laws_FnBeats.f (k + 1) a0 a1) := by
 intro a0 a1 k
 obtain ⟨ih0, ih1⟩ := laws_FnBeats.mono_l k
 unfold laws_FnBeats.f
 repeat' first
  | (with_reducible exact ih0 _ _ _)
  | (with_reducible exact ih1 _)
  | (with_reducible exact impl_BeatingOf.mono _ _ _ _ _ _ _ _)
  | (with_reducible exact impl_FrequencyOf.mono _ _ _ _ _)
  | (with_reducible exact impl_PureBeats.mono _ _ _ _ _ _)
  | (with_reducible exact impl_WorstFifth.mono _ _ _)
  | (with_reducible exact spec_DrawFrequencyOf.mono _ _)
  | (with_reducible exact spec_DrawPureBeats.mono _ _)
  | (with_reducible exact LeO.refl _)
  | (with_reducible exact LeO.none _)
  | (with_reducible refine LeO.ite ?_ ?_)
  | (with_reducible refine LeO.bind ?_ (fun _ => ?_))
  | exact ih0 _ _ _
  | exact ih1 _
  | exact impl_BeatingOf.mono _ _ _ _ _ _ _ _
  | exact impl_FrequencyOf.mono _ _ _ _ _
  | exact impl_PureBeats.mono _ _ _ _ _ _
  | exact impl_WorstFifth.mono _ _ _
  | exact spec_DrawFrequencyOf.mono _ _
  | exact spec_DrawPureBeats.mono _ _
  | exact LeO.none _
  | refine LeO.ite ?_ ?_
  | refine LeO.bind ?_ (fun _ => ?_)

end Go.Proofs.YtmeflmlejcmckaaDoor.PB
