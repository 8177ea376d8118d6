/- FnCovers as a function on plain values is true. -/
import Derived.Test.YticifedehhnjhaaV5
namespace Go.Proofs.Yticifedehhnjhaa.F
open Go Go.Proofs.Yticifedehhnjhaa.Eng
theorem pure (l0 l1 : List Int) (ok0 : l0.length ≤ maxLen ∧ ∀ x ∈ l0, (Lit.int .u8 x).wf = true) (ok1 : l1.length ≤ maxLen ∧ ∀ x ∈ l1, (Lit.int .u8 x).wf = true) : ∃ n, laws_FnCovers n l0 l1 = some true := by
  obtain ⟨_, rfl, K, hK⟩ := law_wp (c0 := l0) (c1 := l1) ok0.2 ok1.2
  exact ⟨K, hK K (Nat.le_refl _)⟩
end Go.Proofs.Yticifedehhnjhaa.F
