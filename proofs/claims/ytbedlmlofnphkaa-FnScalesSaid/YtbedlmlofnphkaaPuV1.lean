/- Each scale has a number below the count, and is restored from it: all scales are gone through. -/
import Derived.Test.YtbedlmlofnphkaaPuV0
import Derived.Test.YtbedlmlofnphkaaPOx8
import Derived.Test.YtbedlmlofnphkaaPOx9
namespace Go.Proofs.Ytbedlmlofnphkaa.Pure
open Go.RowKit Go.Proofs.Ytbedlmlofnphkaa.PO Go.Proofs.YtbedlmlofnphkaaW.PrintWords Go.Proofs.YtbedlmlofnphkaaW.PrintLast
set_option linter.unusedSimpArgs false
set_option linter.unusedVariables false
set_option maxRecDepth 100000
def ck1 (s : List Int) : Bool := match impl_ScaleNumber.f 100 s, impl_CountScales.f 100 s.length with
  | some (x, e), some (m, e') => decide (e = 0 ∧ e' = 0 ∧ 0 ≤ x ∧ x < m ∧ m ≤ 462) && (match impl_NumberedScale.f 100 s.length x with | some (t, e) => decide (t = s ∧ e = 0) | none => false)
  | _, _ => false
theorem all1 : SC.all ck1 = true := by decide +kernel
theorem number_wp {s : List Int} (h : scaleP s) : ∃ x m : Int, Wp (fun k => impl_ScaleNumber.f k s) (fun r => r = (x, 0)) ∧ Wp (fun k => impl_CountScales.f k s.length) (fun r => r = (m, 0)) ∧ 0 ≤ x ∧ x < m ∧ m ≤ 462 ∧ Wp (fun k => impl_NumberedScale.f k s.length x) (fun r => r = (s, 0)) := by
  have hk := List.all_eq_true.1 all1 s (scale_SC h)
  unfold ck1 at hk
  match e1 : impl_ScaleNumber.f 100 s, e2 : impl_CountScales.f 100 s.length with
  | some (x, e), some (m, e') =>
    rw [e1, e2] at hk
    dsimp only at hk
    rw [Bool.and_eq_true, decide_eq_true_eq] at hk
    obtain ⟨⟨rfl, rfl, h3, h4, h5⟩, hk⟩ := hk
    match e3 : impl_NumberedScale.f 100 s.length x with
    | some (t, e) =>
      rw [e3] at hk
      dsimp only at hk
      rw [decide_eq_true_eq] at hk
      obtain ⟨rfl, rfl⟩ := hk
      exact ⟨x, m, ⟨_, rfl, 100, up_fuel (impl_ScaleNumber.mono _) e1⟩, ⟨_, rfl, 100, up_fuel (impl_CountScales.mono _) e2⟩, h3, h4, h5, ⟨_, rfl, 100, up_fuel (impl_NumberedScale.mono _ _) e3⟩⟩
    | none => rw [e3] at hk; cases hk
  | none, _ => rw [e1] at hk; cases hk
  | some a, none => rw [e1, e2] at hk; cases hk
end Go.Proofs.Ytbedlmlofnphkaa.Pure
