/- ValidSyllables of the program returns what the reference's returns, for all arguments. -/
import Derived.Test.YtfelkjbfeenmbaaPu0
import Derived.Test.YtfelkjbfeenmbaaPx9
namespace Go.Proofs.Ytfelkjbfeenmbaa.Pure
open Go.RowKit Go.Proofs.Ytfelkjbfeenmbaa.P Go.Proofs.YtfelkjbfeenmbaaW.PrintWords Go.Proofs.YtfelkjbfeenmbaaW.PrintLast
set_option linter.unusedSimpArgs false
theorem FnExactValidSyllables : laws_FnExactValidSyllables.Pure := by
  intro l hl
  have hs : ∀ x ∈ l, x.f0.size ≤ maxLen := fun x hx => (hl.2 x hx).1
  obtain ⟨r, K0, hb, h0⟩ := szSyllableS_ev l hl.1 hs
  by_cases h : r < 0
  · refine ⟨K0, ?_⟩
    simp only [laws_FnExactValidSyllables.f]
    rw [h0 K0 (by omega)]
    simp only [Option.bind_some]
    rw [if_pos h]
  · have hb1 := hb (by omega)
    have hm : (l.map conv).length ≤ maxLen := by rw [List.length_map]; exact hl.1
    obtain ⟨K1, h1⟩ := toSyllableS_ev l hb1
    obtain ⟨K2, h2⟩ := l18Ok_ev (l.map conv) hm (conv_size hs)
    obtain ⟨K3, h3⟩ := validSyllables_ev (l.map conv) hm (conv_size hs)
    obtain ⟨K4, h4⟩ := eqSyllableS_ev (l.map conv) hm
    refine ⟨K0 + K1 + K2 + K3 + K4, ?_⟩
    simp only [laws_FnExactValidSyllables.f, spec_ValidSyllables.f]
    rw [h0 _ (by omega)]
    simp only [Option.bind_some]
    rw [if_neg h, h1 _ (by omega)]
    simp only [Option.bind_some]
    rw [h2 _ (by omega), h3 _ (by omega)]
    simp only [Option.bind_some]
    rw [h4 _ (by omega)]
    simp
end Go.Proofs.Ytfelkjbfeenmbaa.Pure
