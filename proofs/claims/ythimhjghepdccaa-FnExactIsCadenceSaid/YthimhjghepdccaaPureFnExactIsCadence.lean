/- IsCadence of the program returns what the reference's returns, for all arguments. -/
import Derived.Test.YthimhjghepdccaaPu1
import Derived.Test.YthimhjghepdccaaPx12
namespace Go.Proofs.Ythimhjghepdccaa.Pure
open Go.RowKit Go.Proofs.Ythimhjghepdccaa.P Go.Proofs.YthimhjghepdccaaW.PrintWords Go.Proofs.YthimhjghepdccaaW.PrintLast
namespace IsCadence
theorem both (a : ByteArray) (l m : List Int) (speed start p g : Int) (ha : a.size ≤ maxLen) (hl : l.length ≤ maxLen) :
    ∃ v : Bool, (∃ K, ∀ k, K ≤ k → spec_IsCadence.f k a l m speed start p g = some v) ∧ ∃ K, ∀ k, K ≤ k → impl_IsCadence.f k a l m speed start p g = some v := by
  obtain ⟨K1, h1⟩ := l19Start_ev a l m speed start ha hl
  obtain ⟨K2, h2⟩ := cadenceCode_ev a l m speed start p g 0 ha hl
  rw [codeB_start] at h2
  by_cases h : startB a l m speed start = 0
  · obtain ⟨z1, z2, _⟩ := startB_zero h
    obtain ⟨K3, h3⟩ := l19Ends_ev start (totalB p g) hl z1 z2
    obtain ⟨K4, h4⟩ := endsOnSam_ev start (totalB p g) hl z1 z2
    refine ⟨within_ p 1 64 && within_ g 0 32 && endsB l speed start (totalB p g), ⟨K1 + K3, fun k hk => ?_⟩, K2 + K4, fun k hk => ?_⟩
    · simp only [spec_IsCadence.f, l19Phrase_f, l19Gap_f, l19Total_f]
      rw [h1 k (by omega)]
      simp only [Option.bind_some]
      rw [if_pos h, h3 k (by omega)]
      cases within_ p 1 64 <;> cases within_ g 0 32 <;> simp
    · simp only [impl_IsCadence.f]
      rw [h2 k (by omega), if_pos h]
      have h4' := h4 k (by omega)
      unfold totalB at h4' ⊢
      simp only [Option.bind_some]
      rw [h4']
      cases within_ p 1 64 <;> cases within_ g 0 32 <;> simp
  · refine ⟨false, ⟨K1, fun k hk => ?_⟩, K2, fun k hk => ?_⟩
    · simp only [spec_IsCadence.f]
      rw [h1 k (by omega)]
      simp only [Option.bind_some]
      rw [if_neg h]
    · simp only [impl_IsCadence.f]
      rw [h2 k (by omega), if_neg h]
      simp only [Option.bind_some]
      rw [if_neg h]
end IsCadence
open IsCadence
theorem FnExactIsCadence : laws_FnExactIsCadence.Pure := by
  intro a l m speed start p g ha hl hm _ _ _ _
  obtain ⟨r, hr, hb⟩ := szTala_f a l m ha hl.1 hm.1
  by_cases h : r < 0
  · refine ⟨0, ?_⟩
    simp only [laws_FnExactIsCadence.f]
    rw [hr]
    simp only [Option.bind_some]
    rw [if_pos h]
  · obtain ⟨b1, b2⟩ := hb (by omega)
    obtain ⟨K1, h1⟩ := toTala_ev a l m b1 b2
    obtain ⟨v, ⟨K2, h2⟩, K3, h3⟩ := both a l m speed start p g ha hl.1
    obtain ⟨K4, h4⟩ := eqTala_ev a l m hl.1 hm.1
    refine ⟨K1 + K2 + K3 + K4 + 1, ?_⟩
    simp only [laws_FnExactIsCadence.f]
    rw [hr]
    simp only [Option.bind_some]
    rw [if_neg h, h1 (K1 + K2 + K3 + K4 + 1) (by omega)]
    simp only [Option.bind_some]
    rw [h2 _ (by omega), h3 _ (by omega)]
    simp only [Option.bind_some]
    rw [h4 (K1 + K2 + K3 + K4 + 1) (by omega)]
    simp
end Go.Proofs.Ythimhjghepdccaa.Pure
