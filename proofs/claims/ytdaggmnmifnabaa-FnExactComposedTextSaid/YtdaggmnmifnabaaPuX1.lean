/- Plain facts: composed syllables. -/
import Derived.Test.YtdaggmnmifnabaaPuX0
import Derived.Test.YtdaggmnmifnabaaPXx4
import Derived.Test.YtdaggmnmifnabaaPXx5
import Derived.Test.YtdaggmnmifnabaaPXx9
import Derived.Test.YtdaggmnmifnabaaPXx12
namespace Go.Proofs.Ytdaggmnmifnabaa.Pure
open Go.RowKit Go.Proofs.Ytdaggmnmifnabaa.PX Go.Proofs.YtdaggmnmifnabaaW.PrintWords Go.Proofs.YtdaggmnmifnabaaW.PrintLast
set_option linter.unusedSimpArgs false
set_option linter.unusedVariables false
theorem toInt64S_l0 (l : List Int) (hl : l.length ≤ maxLen) : ∀ (d : Nat) (i : Int), 0 ≤ i → i + d = l.length → ∀ k, d < k → laws_toInt64S.l0 k l (l.take i.toNat ++ List.replicate d 0) i = some l := by
  unfold maxLen at hl
  intro d
  induction d with
  | zero =>
    intro i h0 h1 k hk
    obtain ⟨k, rfl⟩ : ∃ m, k = m + 1 := ⟨k - 1, by omega⟩
    simp only [laws_toInt64S.l0]
    rw [if_neg (by omega), List.take_of_length_le (by omega)]
    simp
  | succ d ih =>
    intro i h0 h1 k hk
    obtain ⟨k, rfl⟩ : ∃ m, k = m + 1 := ⟨k - 1, by omega⟩
    simp only [laws_toInt64S.l0]
    have hlen : (l.take i.toNat).length = i.toNat := by rw [List.length_take]; omega
    rw [if_pos (by omega), if_pos h0, if_pos (by rw [List.length_append, hlen, List.length_replicate]; omega), w64 (n := i + 1) (by omega) (by omega)]
    have e : (l.take i.toNat ++ List.replicate (d + 1) 0).set i.toNat (rd l i) = l.take (i + 1).toNat ++ List.replicate d 0 := by
      rw [List.set_append_right _ _ (by omega), hlen, Nat.sub_self, List.replicate_succ, List.set_cons_zero, show (i + 1).toNat = i.toNat + 1 by omega, List.take_succ_eq_append_getElem (show i.toNat < l.length by omega), List.append_assoc]
      simp [rd, List.getD_eq_getElem?_getD, List.getElem?_eq_getElem (show i.toNat < l.length by omega)]
    rw [e]
    exact ih (i + 1) (by omega) (by omega) k (by omega)
theorem toInt64S_ev (l : List Int) (hl : l.length ≤ 1048576) : ∃ K, ∀ k, K ≤ k → laws_toInt64S.f k l = some l := by
  refine ⟨l.length + 1, fun k hk => ?_⟩
  simp only [laws_toInt64S.f]
  rw [if_pos (by omega), if_pos (by omega)]
  have := toInt64S_l0 l (by unfold maxLen; omega) l.length 0 (by omega) (by omega) k (by omega)
  simpa using this
theorem eqInt64S_l0 (l : List Int) (hl : l.length ≤ maxLen) : ∀ (d : Nat) (i : Int), 0 ≤ i → i + d = l.length → ∀ k, d < k → laws_eqInt64S.l0 k l l i = some true := by
  unfold maxLen at hl
  intro d
  induction d with
  | zero =>
    intro i h0 h1 k hk
    obtain ⟨k, rfl⟩ : ∃ m, k = m + 1 := ⟨k - 1, by omega⟩
    simp only [laws_eqInt64S.l0]
    rw [if_neg (by omega)]
  | succ d ih =>
    intro i h0 h1 k hk
    obtain ⟨k, rfl⟩ : ∃ m, k = m + 1 := ⟨k - 1, by omega⟩
    simp only [laws_eqInt64S.l0]
    rw [if_pos (by omega), if_pos h0, if_pos (by omega), if_pos trivial, w64 (n := i + 1) (by omega) (by omega)]
    exact ih (i + 1) (by omega) (by omega) k (by omega)
theorem eqInt64S_ev (l : List Int) (hl : l.length ≤ maxLen) : ∃ K, ∀ k, K ≤ k → laws_eqInt64S.f k l l = some true :=
  ⟨l.length + 1, fun k hk => by simp only [laws_eqInt64S.f]; rw [if_pos trivial]; exact eqInt64S_l0 l hl l.length 0 (by omega) (by omega) k (by omega)⟩

theorem within_iff {n a b : Int} : within_ n a b = true ↔ a ≤ n ∧ n ≤ b := by
  unfold within_; simp
def compB (l : List S38) (c : List Int) : Bool := (c.all fun n => within_ n 0 (wrap64 ((l.length : Int) - 1))) && decide ((c.length : Int) ≤ 64)
def askN (l : List S38) (c : List Int) : Int := if validB l = true then (if compB l c = true then 0 else 7) else 1
theorem within_f (n a b : Int) : impl_within.f n a b = some (within_ n a b) := by
  unfold impl_within.f within_
  by_cases h : n ≥ a
  · rw [if_pos h]; simp [show a ≤ n from h]
  · rw [if_neg h]; simp [show ¬ a ≤ n from h]
theorem rd_getI {c : List Int} {i : Int} (h1 : i.toNat < c.length) : c[i.toNat] = rd c i := by
  unfold rd; rw [List.getD_eq_getElem?_getD, List.getElem?_eq_getElem h1]; rfl
theorem l18Composed_ev (l : List S38) (c : List Int) (hc : c.length ≤ maxLen) : ∃ K, ∀ k, K ≤ k → spec_l18Composed.f k l c = some (compB l c) := by
  unfold maxLen at hc
  have L : ∀ (d : Nat) (i : Int), 0 ≤ i → i + d = c.length → ∀ k, d < k → spec_l18Composed.l0 k l c i = some (((c.drop i.toNat).all fun n => within_ n 0 (wrap64 ((l.length : Int) - 1))) && decide ((c.length : Int) ≤ 64)) := by
    intro d
    induction d with
    | zero =>
      intro i h0 h1 k hk
      obtain ⟨k, rfl⟩ : ∃ m, k = m + 1 := ⟨k - 1, by omega⟩
      simp only [spec_l18Composed.l0]
      rw [if_neg (by omega), List.drop_eq_nil_of_le (by omega)]
      simp
    | succ d ih =>
      intro i h0 h1 k hk
      obtain ⟨k, rfl⟩ : ∃ m, k = m + 1 := ⟨k - 1, by omega⟩
      have hi : i.toNat < c.length := by omega
      simp only [spec_l18Composed.l0]
      rw [if_pos (by omega), if_pos h0, l00In_f, w64 (n := i + 1) (by omega) (by omega), ih (i + 1) (by omega) (by omega) k (by omega), List.drop_eq_getElem_cons hi, rd_getI hi, show (i + 1).toNat = i.toNat + 1 by omega]
      simp only [Option.bind_some, List.all_cons]
      cases within_ (rd c i) 0 (wrap64 ((l.length : Int) - 1)) <;> simp
  exact ⟨c.length + 1, fun k hk => by simp only [spec_l18Composed.f]; rw [L c.length 0 (by omega) (by omega) k (by omega)]; rfl⟩
theorem l18Ask_ev (l : List S38) (c : List Int) (hl : l.length ≤ maxLen) (h : ∀ x ∈ l, x.f0.size ≤ maxLen) (hc : c.length ≤ maxLen) : ∃ K, ∀ k, K ≤ k → spec_l18Ask.f k l c = some (askN l c) := by
  obtain ⟨K1, h1⟩ := l18Ok_ev l hl h
  obtain ⟨K2, h2⟩ := l18Composed_ev l c hc
  refine ⟨K1 + K2, fun k hk => ?_⟩
  simp only [spec_l18Ask.f]
  rw [h1 k (by omega), h2 k (by omega)]
  unfold askN
  cases validB l <;> cases compB l c <;> simp
theorem composedCode_ev (l : List S38) (c : List Int) (hl : l.length ≤ maxLen) (h : ∀ x ∈ l, x.f0.size ≤ maxLen) : ∃ K, ∀ k, K ≤ k → impl_composedCode.f k l c = some (askN l c) := by
  obtain ⟨K1, h1⟩ := validSyllables_ev l hl h
  refine ⟨K1, fun k hk => ?_⟩
  simp only [impl_composedCode.f, impl_composedOk.f, impl_allWithin.f]
  rw [h1 k (by omega)]
  unfold askN compB
  cases validB l with
  | false => simp
  | true =>
    generalize (c.all fun n => within_ n 0 (wrap64 ((l.length : Int) - 1))) = A
    by_cases e : (c.length : Int) ≤ 64
    · cases A <;> simp [e]
    · cases A <;> simp [e]
theorem askN_zero {l : List S38} {c : List Int} (h : askN l c = 0) : c.length ≤ 64 ∧ l.length ≤ 16 ∧ ∀ i : Int, 0 ≤ i → i < c.length → 0 ≤ rd c i ∧ rd c i < l.length := by
  unfold askN at h
  by_cases h1 : validB l = true
  · by_cases h2 : compB l c = true
    · unfold compB at h2
      unfold validB at h1
      simp only [Bool.and_eq_true, decide_eq_true_eq, List.all_eq_true] at h1 h2
      refine ⟨by omega, by omega, fun i h0 hi => ?_⟩
      have := h2.1 (rd c i) (by rw [← rd_getI (show i.toNat < c.length by omega)]; exact List.getElem_mem _)
      rw [within_iff, w64 (by omega) (by omega)] at this
      omega
    · rw [if_pos h1, if_neg h2] at h; omega
  · rw [if_neg h1] at h; omega
end Go.Proofs.Ytdaggmnmifnabaa.Pure
