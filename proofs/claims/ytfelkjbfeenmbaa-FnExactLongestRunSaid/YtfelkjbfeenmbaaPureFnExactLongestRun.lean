/- LongestRun of the program returns what the reference's returns, for all arguments. -/
import Derived.Test.YtfelkjbfeenmbaaPu1
import Derived.Test.YtfelkjbfeenmbaaPx23
namespace Go.Proofs.Ytfelkjbfeenmbaa.Pure
open Go.RowKit Go.Proofs.Ytfelkjbfeenmbaa.P Go.Proofs.YtfelkjbfeenmbaaW.PrintWords Go.Proofs.YtfelkjbfeenmbaaW.PrintLast
set_option linter.unusedSimpArgs false
theorem both (l : List S26) (c : List Int) (hl : l.length ≤ maxLen) (h : ∀ x ∈ l, x.f0.size ≤ maxLen) (hc : c.length ≤ maxLen) : ∃ v : Int × Int × Int, (∃ K, ∀ k, K ≤ k → spec_LongestRun.f k l c = some v) ∧ ∃ K, ∀ k, K ≤ k → impl_LongestRun.f k l c = some v := by
  obtain ⟨K1, h1⟩ := l18Ask_ev l c hl h hc
  obtain ⟨K2, h2⟩ := composedCode_ev l c hl h
  by_cases e : askN l c = 0
  · obtain ⟨⟨K3, h3⟩, K4, h4⟩ := run_ev e
    refine ⟨((runV l c c.length 0 0 0 0 0).1, (runV l c c.length 0 0 0 0 0).2, 0), ⟨K1 + K3, fun k hk => ?_⟩, K2 + K4, fun k hk => ?_⟩
    · simp only [spec_LongestRun.f]
      rw [h1 k (by omega)]
      simp only [Option.bind_some]
      rw [if_pos e, h3 k (by omega)]
      rfl
    · simp only [impl_LongestRun.f]
      rw [h2 k (by omega)]
      simp only [Option.bind_some]
      rw [if_pos e, h4 k (by omega)]
      rfl
  · refine ⟨(0, 0, askN l c), ⟨K1, fun k hk => ?_⟩, K2, fun k hk => ?_⟩
    · simp only [spec_LongestRun.f]
      rw [h1 k (by omega)]
      simp only [Option.bind_some]
      rw [if_neg e]
    · simp only [impl_LongestRun.f]
      rw [h2 k (by omega)]
      simp only [Option.bind_some]
      rw [if_neg e]

theorem FnExactLongestRun : laws_FnExactLongestRun.Pure := by
  intro l c hl hc
  have hs : ∀ x ∈ l, x.f0.size ≤ maxLen := fun x hx => (hl.2 x hx).1
  obtain ⟨r, K0, hb, h0⟩ := szSyllableS_ev l hl.1 hs
  by_cases hcz : (c.length : Int) > 1048576
  · refine ⟨0, ?_⟩
    simp only [laws_FnExactLongestRun.f]
    rw [if_pos hcz]
  by_cases h : r < 0
  · refine ⟨K0, ?_⟩
    simp only [laws_FnExactLongestRun.f]
    rw [if_neg hcz, h0 K0 (by omega)]
    simp only [Option.bind_some]
    rw [if_pos h]
  · have hb1 := hb (by omega)
    have hm : (l.map conv).length ≤ maxLen := by rw [List.length_map]; exact hl.1
    obtain ⟨K1, h1⟩ := toSyllableS_ev l hb1
    obtain ⟨K2, h2⟩ := eqSyllableS_ev (l.map conv) hm
    obtain ⟨K5, h5⟩ := toInt64S_ev c (by omega)
    obtain ⟨K6, h6⟩ := eqInt64S_ev c hc.1
    obtain ⟨v, ⟨K3, h3⟩, K4, h4⟩ := both (l.map conv) c hm (conv_size hs) hc.1
    refine ⟨K0 + K1 + K2 + K3 + K4 + K5 + K6 + 1, ?_⟩
    simp only [laws_FnExactLongestRun.f, laws_FnExactLongestRun.j0]
    rw [if_neg hcz, h0 _ (by omega)]
    simp only [Option.bind_some]
    rw [if_neg h, h1 (K0 + K1 + K2 + K3 + K4 + K5 + K6 + 1) (by omega)]
    simp only [Option.bind_some]
    rw [h5 (K0 + K1 + K2 + K3 + K4 + K5 + K6 + 1) (by omega)]
    simp only [Option.bind_some]
    rw [h3 _ (by omega), h4 _ (by omega)]
    simp only [Option.bind_some]
    simp only [if_true, bne_self_eq_false, Bool.false_eq_true, if_false]
    rw [h1 (K0 + K1 + K2 + K3 + K4 + K5 + K6) (by omega)]
    simp only [Option.bind_some]
    rw [h2 _ (by omega), h5 (K0 + K1 + K2 + K3 + K4 + K5 + K6) (by omega)]
    simp only [Option.bind_some, if_true]
    rw [h6 _ (by omega)]
    simp
end Go.Proofs.Ytfelkjbfeenmbaa.Pure
