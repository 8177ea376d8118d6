/- SamsPassed of the program returns what the reference's returns, for all arguments. -/
import Derived.Test.YthimhjghepdccaaPu1
import Derived.Test.YthimhjghepdccaaPx20
namespace Go.Proofs.Ythimhjghepdccaa.Pure
open Go.RowKit Go.Proofs.Ythimhjghepdccaa.P Go.Proofs.YthimhjghepdccaaW.PrintWords Go.Proofs.YthimhjghepdccaaW.PrintLast
namespace SamsPassed
theorem both (a : ByteArray) (l m : List Int) (speed start p g : Int) (ha : a.size ≤ maxLen) (hl : l.length ≤ maxLen) :
    ∃ v : Int × Int, (∃ K, ∀ k, K ≤ k → spec_SamsPassed.f k a l m speed start p g = some v) ∧ ∃ K, ∀ k, K ≤ k → impl_SamsPassed.f k a l m speed start p g = some v := by
  obtain ⟨K1, h1⟩ := l19Start_ev a l m speed start ha hl
  obtain ⟨K2, h2⟩ := cadenceCode_ev a l m speed start p g 0 ha hl
  rw [codeB_start] at h2
  by_cases h : startB a l m speed start = 0
  · obtain ⟨z1, z2, _⟩ := startB_zero h
    have hp := units_pos z1 z2
    obtain ⟨K3, h3⟩ := l19Ends_ev start (totalB p g) hl z1 z2
    obtain ⟨K4, h4⟩ := endsOnSam_ev start (totalB p g) hl z1 z2
    obtain ⟨K5, h5⟩ := units_ev a l m speed hl
    obtain ⟨K6, h6⟩ := beats_ev a l m hl
    refine ⟨if (within_ p 1 64 && within_ g 0 32) = true then (if endsB l speed start (totalB p g) = true then (wrap64 (Int.tdiv (wrap64 (wrap64 (start + totalB p g) - 1)) (unitsB l speed)), 0) else (0, 6)) else (0, 2), ⟨K1 + K3 + K5 + 1, fun k hk => ?_⟩, K2 + K4 + K6, fun k hk => ?_⟩
    · obtain ⟨k, rfl⟩ : ∃ m, k = m + 1 := ⟨k - 1, by omega⟩
      simp only [spec_SamsPassed.f, spec_l19Is.f, spec_l19Is.j0, l19Phrase_f, l19Gap_f, l19Total_f]
      rw [h1 (k + 1) (by omega)]
      simp only [Option.bind_some]
      rw [if_pos h, h3 k (by omega), h5 (k + 1) (by omega)]
      cases within_ p 1 64 <;> cases within_ g 0 32 <;> cases endsB l speed start (totalB p g) <;> simp
      omega
    · simp only [impl_SamsPassed.f, impl_PlacesOf.f]
      have h4' := h4 k (by omega)
      have e : wrap64 (sumB l * speed) = unitsB l speed := rfl
      unfold totalB at h4' ⊢
      rw [h2 k (by omega), if_pos h]
      simp only [Option.bind_some]
      rw [h4', h6 k (by omega)]
      cases within_ p 1 64 <;> cases within_ g 0 32 <;> cases endsB l speed start (wrap64 (wrap64 (3 * p) + wrap64 (2 * g))) <;> simp [rd, e]
      omega
  · refine ⟨(0, startB a l m speed start), ⟨K1, fun k hk => ?_⟩, K2, fun k hk => ?_⟩
    · simp only [spec_SamsPassed.f, spec_l19Is.f]
      rw [h1 k (by omega)]
      simp only [Option.bind_some]
      rw [if_neg h]
      simp [h]
    · simp only [impl_SamsPassed.f, impl_PlacesOf.f]
      rw [h2 k (by omega), if_neg h]
      simp [h]
end SamsPassed
open SamsPassed
theorem FnExactSamsPassed : laws_FnExactSamsPassed.Pure := by
  intro a l m speed start p g ha hl hm _ _ _ _
  obtain ⟨r, hr, hb⟩ := szTala_f a l m ha hl.1 hm.1
  by_cases h : r < 0
  · refine ⟨0, ?_⟩
    simp only [laws_FnExactSamsPassed.f]
    rw [hr]
    simp only [Option.bind_some]
    rw [if_pos h]
  · obtain ⟨b1, b2⟩ := hb (by omega)
    obtain ⟨K1, h1⟩ := toTala_ev a l m b1 b2
    obtain ⟨v, ⟨K2, h2⟩, K3, h3⟩ := both a l m speed start p g ha hl.1
    obtain ⟨K4, h4⟩ := eqTala_ev a l m hl.1 hm.1
    refine ⟨K1 + K2 + K3 + K4 + 1, ?_⟩
    simp only [laws_FnExactSamsPassed.f, laws_FnExactSamsPassed.j0]
    rw [hr]
    simp only [Option.bind_some]
    rw [if_neg h, h1 (K1 + K2 + K3 + K4 + 1) (by omega)]
    simp only [Option.bind_some]
    rw [h2 _ (by omega), h3 _ (by omega)]
    simp only [Option.bind_some]
    rw [if_pos trivial, if_neg (by simp), h1 (K1 + K2 + K3 + K4) (by omega)]
    simp only [Option.bind_some]
    rw [h4 (K1 + K2 + K3 + K4) (by omega)]
    simp
end Go.Proofs.Ythimhjghepdccaa.Pure
