/- Each number below the count is that of a scale: all numbers are gone through. -/
import Derived.Test.YtbedlmlofnphkaaPuV0
import Derived.Test.YtbedlmlofnphkaaPOx8
import Derived.Test.YtbedlmlofnphkaaPOx9
namespace Go.Proofs.Ytbedlmlofnphkaa.Pure
open Go.RowKit Go.Proofs.Ytbedlmlofnphkaa.PO Go.Proofs.YtbedlmlofnphkaaW.PrintWords Go.Proofs.YtbedlmlofnphkaaW.PrintLast
set_option linter.unusedSimpArgs false
set_option linter.unusedVariables false
set_option maxRecDepth 100000
def ck2 (n : Nat) : Bool := match impl_CountScales.f 100 n with
  | some (m, _) => (List.range m.toNat).all fun k => match impl_NumberedScale.f 100 n k with
    | some (t, e) => decide (e = 0 ∧ scaleP t ∧ t.length = n) && (match impl_ScaleNumber.f 100 t with | some (x, e) => decide (x = k ∧ e = 0) | none => false)
    | none => false
  | none => false
theorem all2 : [5, 6, 7, 8, 9, 10, 11, 12].all ck2 = true := by decide +kernel
theorem numbered_wp {n : Nat} (h : 5 ≤ n ∧ n ≤ 12) {m : Int} (hm : Wp (fun k => impl_CountScales.f k n) (fun r => r = (m, 0))) {k : Int} (k0 : 0 ≤ k) (k1 : k < m) : ∃ t, Wp (fun j => impl_NumberedScale.f j n k) (fun r => r = (t, 0)) ∧ scaleP t ∧ t.length = n ∧ Wp (fun j => impl_ScaleNumber.f j t) (fun r => r = (k, 0)) := by
  have hk := List.all_eq_true.1 all2 n (by simp; omega)
  unfold ck2 at hk
  match e1 : impl_CountScales.f 100 n with
  | none => rw [e1] at hk; cases hk
  | some (m', e) =>
    rw [e1] at hk
    dsimp only at hk
    obtain ⟨_, rfl, K, hK⟩ := hm
    have e4 := up_fuel (impl_CountScales.mono _) e1 (max K 100) (by omega)
    have e5 := hK (max K 100) (by omega)
    dsimp only at e5
    rw [e4] at e5
    injection e5 with e5
    injection e5 with e5 e6
    subst e5
    have hk := List.all_eq_true.1 hk k.toNat (List.mem_range.2 (by omega))
    rw [show ((k.toNat : Nat) : Int) = k by omega] at hk
    match e2 : impl_NumberedScale.f 100 n k with
    | none => rw [e2] at hk; cases hk
    | some (t, e') =>
      rw [e2] at hk
      dsimp only at hk
      rw [Bool.and_eq_true, decide_eq_true_eq] at hk
      obtain ⟨⟨rfl, h2, h3⟩, hk⟩ := hk
      match e3 : impl_ScaleNumber.f 100 t with
      | none => rw [e3] at hk; cases hk
      | some (x, e'') =>
        rw [e3] at hk
        dsimp only at hk
        rw [decide_eq_true_eq] at hk
        obtain ⟨rfl, rfl⟩ := hk
        exact ⟨t, ⟨_, rfl, 100, up_fuel (impl_NumberedScale.mono _ _) e2⟩, h2, h3, ⟨_, rfl, 100, up_fuel (impl_ScaleNumber.mono _) e3⟩⟩
end Go.Proofs.Ytbedlmlofnphkaa.Pure
