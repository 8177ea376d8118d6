/- IsPlayable of the program returns what the reference's returns, for all arguments. -/
import Derived.Test.YtfelkjbfeenmbaaPu1
import Derived.Test.YtfelkjbfeenmbaaPx24
namespace Go.Proofs.Ytfelkjbfeenmbaa.Pure
open Go.RowKit Go.Proofs.Ytfelkjbfeenmbaa.P Go.Proofs.YtfelkjbfeenmbaaW.PrintWords Go.Proofs.YtfelkjbfeenmbaaW.PrintLast
set_option linter.unusedSimpArgs false
theorem both (l : List S26) (c : List Int) (m : Int) (hl : l.length ≤ maxLen) (h : ∀ x ∈ l, x.f0.size ≤ maxLen) (hc : c.length ≤ maxLen) : ∃ v : Bool, (∃ K, ∀ k, K ≤ k → spec_IsPlayable.f k l c m = some v) ∧ ∃ K, ∀ k, K ≤ k → impl_IsPlayable.f k l c m = some v := by
  obtain ⟨K1, h1⟩ := l18Ask_ev l c hl h hc
  obtain ⟨K2, h2⟩ := composedCode_ev l c hl h
  by_cases e : askN l c = 0
  · obtain ⟨⟨K3, h3⟩, K4, h4⟩ := run_ev e
    refine ⟨within_ m 1 64 && decide ((runV l c c.length 0 0 0 0 0).2 ≤ m), ⟨K1 + K3, fun k hk => ?_⟩, K2 + K4, fun k hk => ?_⟩
    · simp only [spec_IsPlayable.f, spec_l18Most.f, l00In_f]
      rw [h1 k (by omega)]
      simp only [Option.bind_some]
      rw [if_pos e, h3 k (by omega)]
      cases within_ m 1 64 <;> simp
    · simp only [impl_IsPlayable.f, within_f]
      rw [h2 k (by omega)]
      simp only [Option.bind_some]
      rw [if_pos e, h4 k (by omega)]
      cases within_ m 1 64 <;> simp
  · refine ⟨false, ⟨K1, fun k hk => ?_⟩, K2, fun k hk => ?_⟩
    · simp only [spec_IsPlayable.f]
      rw [h1 k (by omega)]
      simp only [Option.bind_some]
      rw [if_neg e]
    · simp only [impl_IsPlayable.f]
      rw [h2 k (by omega)]
      simp only [Option.bind_some]
      rw [if_neg e]

theorem FnExactIsPlayable : laws_FnExactIsPlayable.Pure := by
  intro l c m hl hc _
  have hs : ∀ x ∈ l, x.f0.size ≤ maxLen := fun x hx => (hl.2 x hx).1
  obtain ⟨r, K0, hb, h0⟩ := szSyllableS_ev l hl.1 hs
  by_cases hcz : (c.length : Int) > 1048576
  · refine ⟨0, ?_⟩
    simp only [laws_FnExactIsPlayable.f]
    rw [if_pos hcz]
  by_cases h : r < 0
  · refine ⟨K0, ?_⟩
    simp only [laws_FnExactIsPlayable.f]
    rw [if_neg hcz, h0 K0 (by omega)]
    simp only [Option.bind_some]
    rw [if_pos h]
  · have hb1 := hb (by omega)
    have hm : (l.map conv).length ≤ maxLen := by rw [List.length_map]; exact hl.1
    obtain ⟨K1, h1⟩ := toSyllableS_ev l hb1
    obtain ⟨K2, h2⟩ := eqSyllableS_ev (l.map conv) hm
    obtain ⟨K5, h5⟩ := toInt64S_ev c (by omega)
    obtain ⟨K6, h6⟩ := eqInt64S_ev c hc.1
    obtain ⟨v, ⟨K3, h3⟩, K4, h4⟩ := both (l.map conv) c m hm (conv_size hs) hc.1
    refine ⟨K0 + K1 + K2 + K3 + K4 + K5 + K6, ?_⟩
    simp only [laws_FnExactIsPlayable.f]
    rw [if_neg hcz, h0 _ (by omega)]
    simp only [Option.bind_some]
    rw [if_neg h, h1 _ (by omega)]
    simp only [Option.bind_some]
    rw [h5 _ (by omega)]
    simp only [Option.bind_some]
    rw [h3 _ (by omega), h4 _ (by omega)]
    simp only [Option.bind_some]
    simp only [bne_self_eq_false, Bool.false_eq_true, if_false]
    rw [h2 _ (by omega)]
    simp only [Option.bind_some, if_true]
    rw [h6 _ (by omega)]
    simp
end Go.Proofs.Ytfelkjbfeenmbaa.Pure
