/- SyllableNamed of the program returns what the reference's returns, for all arguments. -/
import Derived.Test.YtfelkjbfeenmbaaPu0
import Derived.Test.YtfelkjbfeenmbaaPx11
namespace Go.Proofs.Ytfelkjbfeenmbaa.Pure
open Go.RowKit Go.Proofs.Ytfelkjbfeenmbaa.P Go.Proofs.YtfelkjbfeenmbaaW.PrintWords Go.Proofs.YtfelkjbfeenmbaaW.PrintLast
set_option linter.unusedSimpArgs false
theorem find_ev (l : List S26) (s : ByteArray) (hl : l.length ≤ maxLen) : ∃ r : Int, -1 ≤ r ∧ (∃ K, ∀ k, K ≤ k → spec_l18Find.f k l s = some r) ∧ impl_syllableNamed.f l s = some r := by
  unfold maxLen at hl
  have L : ∀ (d : Nat) (i : Int), 0 ≤ i → i + d = l.length → ∃ r : Int, -1 ≤ r ∧ (∀ k, d < k → spec_l18Find.l0 k l s i = some r) ∧ idxO (fun x => impl_syllableNamed_1.f x.f0 x.f1 x.f2 [s]) (l.drop i.toNat) i = some r := by
    intro d
    induction d with
    | zero =>
      intro i h0 h1
      refine ⟨-1, by omega, fun k hk => ?_, ?_⟩
      · obtain ⟨k, rfl⟩ : ∃ m, k = m + 1 := ⟨k - 1, by omega⟩
        simp only [spec_l18Find.l0]
        rw [if_neg (by omega)]
      · rw [List.drop_eq_nil_of_le (by omega)]; rfl
    | succ d ih =>
      intro i h0 h1
      have hi : i.toNat < l.length := by omega
      have hg : l[i.toNat] = rd_T26 l i := by unfold rd_T26; rw [List.getD_eq_getElem?_getD, List.getElem?_eq_getElem hi]; rfl
      by_cases e : (rd_T26 l i).f0.toList = s.toList
      · refine ⟨i, by omega, fun k hk => ?_, ?_⟩
        · obtain ⟨k, rfl⟩ : ∃ m, k = m + 1 := ⟨k - 1, by omega⟩
          simp only [spec_l18Find.l0]
          rw [if_pos (by omega), if_pos h0, if_pos e]
        · rw [List.drop_eq_getElem_cons hi, hg]
          simp only [idxO, impl_syllableNamed_1.f, Option.bind_some]
          rw [if_pos (by show ((rd_T26 l i).f0.toList == s.toList) = true; simp [e])]
      · obtain ⟨r, hr, h2, h3⟩ := ih (i + 1) (by omega) (by omega)
        refine ⟨r, hr, fun k hk => ?_, ?_⟩
        · obtain ⟨k, rfl⟩ : ∃ m, k = m + 1 := ⟨k - 1, by omega⟩
          simp only [spec_l18Find.l0]
          rw [if_pos (by omega), if_pos h0, if_neg e, w64 (n := i + 1) (by omega) (by omega)]
          exact h2 k (by omega)
        · rw [List.drop_eq_getElem_cons hi, hg]
          simp only [idxO, impl_syllableNamed_1.f, Option.bind_some]
          rw [if_neg (by show ¬ ((rd_T26 l i).f0.toList == s.toList) = true; simp [e])]
          rw [show (i + 1).toNat = i.toNat + 1 by omega] at h3
          exact h3
  obtain ⟨r, hr, h1, h2⟩ := L l.length 0 (by omega) (by omega)
  refine ⟨r, hr, ⟨l.length + 1, fun k hk => h1 k (by omega)⟩, ?_⟩
  simp only [impl_syllableNamed.f, slices_IndexFunc_at_impl_syllableNamed_1.f]
  have h2' : idxO (fun x => impl_syllableNamed_1.f x.f0 x.f1 x.f2 [s]) l 0 = some r := by simpa using h2
  rw [h2']; rfl
theorem FnExactSyllableNamed : laws_FnExactSyllableNamed.Pure := by
  intro l s hl _
  have hs : ∀ x ∈ l, x.f0.size ≤ maxLen := fun x hx => (hl.2 x hx).1
  obtain ⟨r, K0, hb, h0⟩ := szSyllableS_ev l hl.1 hs
  by_cases hsz : (s.size : Int) > 1048576
  · refine ⟨0, ?_⟩
    simp only [laws_FnExactSyllableNamed.f]
    rw [if_pos hsz]
  by_cases h : r < 0
  · refine ⟨K0, ?_⟩
    simp only [laws_FnExactSyllableNamed.f]
    rw [if_neg hsz, h0 K0 (by omega)]
    simp only [Option.bind_some]
    rw [if_pos h]
  · have hb1 := hb (by omega)
    have hm : (l.map conv).length ≤ maxLen := by rw [List.length_map]; exact hl.1
    obtain ⟨K1, h1⟩ := toSyllableS_ev l hb1
    obtain ⟨K2, h2⟩ := l18Ok_ev (l.map conv) hm (conv_size hs)
    obtain ⟨K3, h3⟩ := validSyllables_ev (l.map conv) hm (conv_size hs)
    obtain ⟨K4, h4⟩ := eqSyllableS_ev (l.map conv) hm
    obtain ⟨q, hq, ⟨K5, h5⟩, h6⟩ := find_ev (l.map conv) s hm
    obtain ⟨v, hv1, hv2⟩ : ∃ v : Int × Int, (∀ k, K2 + K5 ≤ k → spec_SyllableNamed.f k (l.map conv) s = some v) ∧ ∀ k, K3 ≤ k → impl_SyllableNamed.f k (l.map conv) s = some v := by
      refine ⟨if validB (l.map conv) = true then (if q < 0 then (0, 3) else (q, 0)) else (0, 1), fun k hk => ?_, fun k hk => ?_⟩
      · simp only [spec_SyllableNamed.f]
        rw [h2 k (by omega), h5 k (by omega)]
        cases validB (l.map conv) <;> by_cases e : q < 0 <;> simp [e]
      · simp only [impl_SyllableNamed.f, impl_orNotFound.f]
        rw [h3 k (by omega), h6]
        cases validB (l.map conv) <;> by_cases e : q < 0
        · simp
        · simp
        · simp [e, show ¬ 0 ≤ q by omega]
        · simp [e, show 0 ≤ q by omega]
    refine ⟨K0 + K1 + K2 + K3 + K4 + K5 + 1, ?_⟩
    simp only [laws_FnExactSyllableNamed.f, laws_FnExactSyllableNamed.j0]
    rw [if_neg hsz, h0 _ (by omega)]
    simp only [Option.bind_some]
    rw [if_neg h, h1 (K0 + K1 + K2 + K3 + K4 + K5 + 1) (by omega)]
    simp only [Option.bind_some]
    rw [hv1 _ (by omega), hv2 _ (by omega)]
    simp only [Option.bind_some]
    rw [if_pos trivial, if_neg (by simp), h1 (K0 + K1 + K2 + K3 + K4 + K5) (by omega)]
    simp only [Option.bind_some]
    rw [h4 _ (by omega)]
    simp
end Go.Proofs.Ytfelkjbfeenmbaa.Pure
