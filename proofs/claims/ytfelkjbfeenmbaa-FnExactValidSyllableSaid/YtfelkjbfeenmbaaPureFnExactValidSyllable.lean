/- ValidSyllable of the program returns what the reference's returns, for all arguments. -/
import Derived.Test.YtfelkjbfeenmbaaPu0
import Derived.Test.YtfelkjbfeenmbaaPx3
namespace Go.Proofs.Ytfelkjbfeenmbaa.Pure
open Go.RowKit Go.Proofs.Ytfelkjbfeenmbaa.P Go.Proofs.YtfelkjbfeenmbaaW.PrintWords Go.Proofs.YtfelkjbfeenmbaaW.PrintLast
set_option linter.unusedSimpArgs false
theorem FnExactValidSyllable : laws_FnExactValidSyllable.Pure := by
  intro a h u ha _ _
  obtain ⟨K1, h1⟩ := l18One_ev ⟨a, h, u⟩ ha
  obtain ⟨K2, h2⟩ := validSyllable_ev ⟨a, h, u⟩ ha
  have hs := szSyllable_f ⟨a, h, u⟩ 1048576 ha (by omega) (by omega)
  refine ⟨K1 + K2, ?_⟩
  simp only [laws_FnExactValidSyllable.f, laws_toSyllable.f, spec_ValidSyllable.f]
  rw [hs]
  simp only [Option.bind_some]
  by_cases e : (1048576 : Int) < a.size
  · rw [if_pos e]; rfl
  · rw [if_neg e, if_neg (by show ¬ (1048576 : Int) - a.size < 0; omega), h1 _ (by omega)]
    simp only [Option.bind_some]
    rw [h2 _ (by omega)]
    simp
end Go.Proofs.Ytfelkjbfeenmbaa.Pure
