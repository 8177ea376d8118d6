/- The program's ListCadences returns what the reference's returns, for all arguments. -/
import Derived.Test.YtepodajmfcjjkaaPuL1
import Derived.Test.YtepodajmfcjjkaaPLx5
import Derived.Test.YtepodajmfcjjkaaPLx10
import Derived.Test.YtepodajmfcjjkaaPLx14
namespace Go.Proofs.Ytepodajmfcjjkaa.Pure
open Go.RowKit Go.Proofs.Ytepodajmfcjjkaa.PL Go.Proofs.YtepodajmfcjjkaaW.PrintWords Go.Proofs.YtepodajmfcjjkaaW.PrintLast
set_option linter.unusedSimpArgs false
set_option linter.unusedVariables false
theorem both (a : ByteArray) (l m : List Int) (speed start p g : Int) (ha : a.size ≤ maxLen) (hl : l.length ≤ maxLen) :
    ∃ v : List (List Int) × Int, (v.1.length ≤ 64 ∧ ∀ x ∈ v.1, x.length ≤ 2) ∧ (∃ K, ∀ k, K ≤ k → spec_ListCadences.f k a l m speed start p g = some v) ∧ ∃ K, ∀ k, K ≤ k → impl_ListCadences.f k a l m speed start p g = some v := by
  obtain ⟨K1, h1⟩ := l19Start_ev a l m speed start ha hl
  obtain ⟨K2, h2⟩ := cadenceCode_ev a l m speed start p g 0 ha hl
  rw [codeB_start] at h2
  by_cases h : startB a l m speed start = 0
  · obtain ⟨z1, z2, _⟩ := startB_zero h
    by_cases ok : within_ p 1 64 = true ∧ within_ g 0 32 = true
    · have hp := within_iff.1 ok.1
      have hg := within_iff.1 ok.2
      have L := list_ev z1 z2 start hl hp hg
      have hrow := outL_rows (fun p g => endsB l speed start (totalB p g)) (g + 1).toNat p.toNat 1 [] (fun x hx => by cases hx)
      obtain ⟨⟨K3, h3⟩, K4, h4⟩ := L
      generalize outL (fun p g => endsB l speed start (totalB p g)) (g + 1).toNat p.toNat 1 [] = o at h3 h4 hrow
      refine ⟨if (o.length : Int) > 64 then ([], 5) else (o, 0), ?_, ⟨K1 + K3, fun k hk => ?_⟩, K2 + K4, fun k hk => ?_⟩
      · split
        · exact ⟨Nat.zero_le _, fun x hx => by cases hx⟩
        · exact ⟨by show o.length ≤ 64; omega, hrow⟩
      · simp only [spec_ListCadences.f, spec_l19Many.f, l19Phrase_f, l19Gap_f]
        rw [h1 k (by omega)]
        simp only [Option.bind_some]
        rw [if_pos h]
        simp only [ok.1, ok.2, if_true]
        simp only [Option.bind_some]
        rw [if_pos h, h3 k (by omega)]
        simp only [Option.bind_some]
        split <;> rfl
      · simp only [impl_ListCadences.f]
        rw [h2 k (by omega), if_pos h]
        simp only [ok.1, ok.2, Bool.and_self, if_true, Option.bind_some]
        rw [h4 k (by omega)]
        simp only [Option.bind_some]
        split <;> rfl
    · refine ⟨([], 2), ⟨Nat.zero_le _, fun x hx => by cases hx⟩, ⟨K1, fun k hk => ?_⟩, K2, fun k hk => ?_⟩
      · simp only [spec_ListCadences.f, spec_l19Many.f, l19Phrase_f, l19Gap_f]
        rw [h1 k (by omega)]
        simp only [Option.bind_some]
        rw [if_pos h]
        revert ok
        cases within_ p 1 64 <;> cases within_ g 0 32 <;> simp
      · simp only [impl_ListCadences.f]
        rw [h2 k (by omega), if_pos h]
        revert ok
        cases within_ p 1 64 <;> cases within_ g 0 32 <;> simp
  · refine ⟨([], startB a l m speed start), ⟨Nat.zero_le _, fun x hx => by cases hx⟩, ⟨K1, fun k hk => ?_⟩, K2, fun k hk => ?_⟩
    · simp only [spec_ListCadences.f, spec_l19Many.f]
      rw [h1 k (by omega)]
      simp only [Option.bind_some]
      rw [if_neg h]
      simp [h]
    · simp only [impl_ListCadences.f]
      rw [h2 k (by omega), if_neg h]
      simp [h]
theorem FnExactListCadences : laws_FnExactListCadences.Pure := by
  intro a l m speed start p g ha hl hm _ _ _ _
  obtain ⟨r, hr, hb⟩ := szTala_f a l m ha hl.1 hm.1
  by_cases h : r < 0
  · refine ⟨0, ?_⟩
    simp only [laws_FnExactListCadences.f]
    rw [hr]
    simp only [Option.bind_some]
    rw [if_pos h]
  · obtain ⟨b1, b2⟩ := hb (by omega)
    obtain ⟨K1, h1⟩ := toTala_ev a l m b1 b2
    obtain ⟨v, ⟨v1, v2⟩, ⟨K2, h2⟩, K3, h3⟩ := both a l m speed start p g ha hl.1
    obtain ⟨K4, h4⟩ := eqTala_ev a l m hl.1 hm.1
    obtain ⟨K6, h6⟩ := markTala_ev a l m b1 b2
    have vl := lenLL_le v.1 v2
    have v3 : ∀ x ∈ v.1, x.length ≤ 1000 := fun x hx => by have := v2 x hx; omega
    have h5 : ∀ k, 1100 ≤ k → laws_eqInt64SS.f k v.1 v.1 = some true := fun k hk => eqSS_k v.1 (by omega) v3 k (by omega)
    have h7 : ∀ k, 1100 ≤ k → laws_markInt64SS.f k v.1 1 = some (1 + (lenLL v.1 : Int), upLL v.1 1) := fun k hk => markSS_l0 v.1 [] 1 k (by omega) (by omega) (by simp; omega) v3 (by omega)
    have h8 : ∀ k, 1100 ≤ k → laws_heldInt64SS.f k (upLL v.1 1) 1 = some (1 + (lenLL v.1 : Int)) := fun k hk => heldSS_l0 v.1 [] 1 k (by omega) (by omega) (by simp; omega) v3 (by omega)
    generalize hN : K1 + K2 + K3 + K4 + K6 + 1100 = N
    refine ⟨N + 3, ?_⟩
    simp only [laws_FnExactListCadences.f, laws_FnExactListCadences.j0, laws_FnExactListCadences.j1, laws_FnExactListCadences.j2]
    rw [hr]
    simp only [Option.bind_some]
    rw [if_neg h, h1 (N + 3) (by omega)]
    simp only [Option.bind_some]
    rw [h2 (N + 3) (by omega), h3 (N + 3) (by omega)]
    simp only [Option.bind_some]
    rw [h5 (N + 3) (by omega)]
    simp only [Option.bind_some, if_true]
    rw [if_neg (by simp), h1 (N + 2) (by omega)]
    simp only [Option.bind_some]
    rw [h4 (N + 2) (by omega), h6 (N + 2) (by omega)]
    simp only [Option.bind_some, if_true]
    rw [if_neg (by omega), h5 (N + 2) (by omega)]
    simp only [Option.bind_some, if_true]
    rw [if_neg (by simp), h7 (N + 1) (by omega)]
    simp only [Option.bind_some]
    rw [h8 (N + 1) (by omega), h1 (N + 1) (by omega)]
    simp only [Option.bind_some]
    rw [if_neg (by omega), if_pos trivial, h3 (N + 1) (by omega)]
    simp only [Option.bind_some]
    rw [h5 (N + 1) (by omega)]
    simp only [Option.bind_some, if_true]
    rw [if_neg (by simp), h8 N (by omega)]
    simp only [Option.bind_some]
    rw [if_neg (by omega), if_pos trivial]
end Go.Proofs.Ytepodajmfcjjkaa.Pure
