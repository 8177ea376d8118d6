/- EndsOnSam of the program returns what the reference's returns, for all arguments. -/
import Derived.Test.YthimhjghepdccaaPu0
import Derived.Test.YthimhjghepdccaaPx10
namespace Go.Proofs.Ythimhjghepdccaa.Pure
open Go.RowKit Go.Proofs.Ythimhjghepdccaa.P Go.Proofs.YthimhjghepdccaaW.PrintWords Go.Proofs.YthimhjghepdccaaW.PrintLast

def endsOnSamB (a : ByteArray) (l m : List Int) (speed start total : Int) : Bool :=
  if startB a l m speed start = 0 then within_ total 1 1000000000000 && endsB l speed start total else false
theorem startB_zero {a : ByteArray} {l m : List Int} {speed start : Int} (h : startB a l m speed start = 0) : talaB a l m = true ∧ within_ speed 1 8 = true := by
  unfold startB at h
  split at h
  · split at h
    · exact ⟨‹_›, ‹_›⟩
    · omega
  · omega
theorem specEndsOnSam_ev (a : ByteArray) (l m : List Int) (speed start total : Int) (ha : a.size ≤ maxLen) (hl : l.length ≤ maxLen) : ∃ K, ∀ k, K ≤ k → spec_EndsOnSam.f k a l m speed start total = some (endsOnSamB a l m speed start total) := by
  obtain ⟨K1, h1⟩ := l19Start_ev a l m speed start ha hl
  unfold endsOnSamB
  by_cases h : startB a l m speed start = 0
  · have hz := startB_zero h
    obtain ⟨K2, h2⟩ := l19Ends_ev start total hl hz.1 hz.2
    refine ⟨K1 + K2, fun k hk => ?_⟩
    simp only [spec_EndsOnSam.f]
    rw [h1 k (by omega), h2 k (by omega)]
    simp only [Option.bind_some, l00In_f]
    rw [if_pos h, if_pos h]
    cases within_ total 1 1000000000000 <;> simp
  · refine ⟨K1, fun k hk => ?_⟩
    simp only [spec_EndsOnSam.f]
    rw [h1 k (by omega)]
    simp only [Option.bind_some]
    rw [if_neg h, if_neg h]
theorem implEndsOnSam_ev (a : ByteArray) (l m : List Int) (speed start total : Int) (ha : a.size ≤ maxLen) (hl : l.length ≤ maxLen) : ∃ K, ∀ k, K ≤ k → impl_EndsOnSam.f k a l m speed start total = some (endsOnSamB a l m speed start total) := by
  obtain ⟨K1, h1⟩ := cadenceCode_ev a l m speed start 1 0 0 ha hl
  have hc : codeB a l m speed start 1 0 0 = startB a l m speed start := by
    unfold codeB startB
    simp only [show within_ 1 1 64 = true from rfl, show within_ 0 0 32 = true from rfl, show within_ 0 0 64 = true from rfl, Bool.and_true]
    cases talaB a l m <;> cases within_ speed 1 8 <;> cases within_ start 0 (wrap64 (unitsB l speed - 1)) <;> simp
  rw [hc] at h1
  unfold endsOnSamB
  by_cases h : startB a l m speed start = 0
  · have hz := startB_zero h
    obtain ⟨K2, h2⟩ := endsOnSam_ev start total hl hz.1 hz.2
    refine ⟨K1 + K2, fun k hk => ?_⟩
    simp only [impl_EndsOnSam.f]
    rw [h1 k (by omega), h2 k (by omega)]
    simp only [Option.bind_some, within_f]
    rw [if_pos h, if_pos h]
    cases within_ total 1 1000000000000 <;> simp
  · refine ⟨K1, fun k hk => ?_⟩
    simp only [impl_EndsOnSam.f]
    rw [h1 k (by omega)]
    simp only [Option.bind_some]
    rw [if_neg h, if_neg h]
theorem FnExactEndsOnSam : laws_FnExactEndsOnSam.Pure := by
  intro a l m speed start total ha hl hm _ _ _
  obtain ⟨r, hr, hb⟩ := szTala_f a l m ha hl.1 hm.1
  by_cases h : r < 0
  · refine ⟨0, ?_⟩
    simp only [laws_FnExactEndsOnSam.f]
    rw [hr]
    simp only [Option.bind_some]
    rw [if_pos h]
  · obtain ⟨b1, b2⟩ := hb (by omega)
    obtain ⟨K1, h1⟩ := toTala_ev a l m b1 b2
    obtain ⟨K2, h2⟩ := specEndsOnSam_ev a l m speed start total ha hl.1
    obtain ⟨K3, h3⟩ := implEndsOnSam_ev a l m speed start total ha hl.1
    obtain ⟨K4, h4⟩ := eqTala_ev a l m hl.1 hm.1
    refine ⟨K1 + K2 + K3 + K4, ?_⟩
    simp only [laws_FnExactEndsOnSam.f]
    rw [hr]
    simp only [Option.bind_some]
    rw [if_neg h, h1 _ (by omega)]
    simp only [Option.bind_some]
    rw [h2 _ (by omega), h3 _ (by omega), h4 _ (by omega)]
    simp
end Go.Proofs.Ythimhjghepdccaa.Pure
