/- FnProgrammes as a function on plain values is true. -/
import Derived.Test.YticifedehhnjhaaQ5
namespace Go.Proofs.Yticifedehhnjhaa.F
open Go Go.Proofs.Yticifedehhnjhaa.Eng
theorem pure (l0 : List Int) (ok0 : l0.length ≤ maxLen ∧ ∀ x ∈ l0, (Lit.int .u8 x).wf = true) : ∃ n, laws_FnProgrammes n l0 = some true := by
  obtain ⟨_, rfl, K, hK⟩ := law_wp (c := l0) ok0.2
  exact ⟨K, hK K (Nat.le_refl _)⟩
end Go.Proofs.Yticifedehhnjhaa.F
