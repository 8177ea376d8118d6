/- Plain facts: lists of numbers that the laws copy and compare. -/
import Derived.Test.YtmeflmlejcmckaaDoorPuSn
import Derived.Test.YtmeflmlejcmckaaDoorPSx21
import Derived.Test.YtmeflmlejcmckaaDoorPSx23
namespace Go.Proofs.YtmeflmlejcmckaaDoor.Pure
open Go.RowKit Go.Proofs.YtmeflmlejcmckaaDoor.PS Go.Proofs.YtmeflmlejcmckaaDoorW.PrintWords Go.Proofs.YtmeflmlejcmckaaDoorW.PrintLast
set_option linter.unusedSimpArgs false
set_option linter.unusedVariables false
theorem toInt64S_l0 (l : List Int) (hl : l.length ≤ maxLen) : ∀ (d : Nat) (i : Int), 0 ≤ i → i + d = l.length → ∀ k, d < k → laws_toInt64S.l0 k l (l.take i.toNat ++ List.replicate d 0) i = some l := by
  unfold maxLen at hl
  intro d
  induction d with
  | zero =>
    intro i h0 h1 k hk
    obtain ⟨k, rfl⟩ : ∃ m, k = m + 1 := ⟨k - 1, by omega⟩
    simp only [laws_toInt64S.l0]
    rw [if_neg (by omega), List.take_of_length_le (by omega)]
    simp
  | succ d ih =>
    intro i h0 h1 k hk
    obtain ⟨k, rfl⟩ : ∃ m, k = m + 1 := ⟨k - 1, by omega⟩
    simp only [laws_toInt64S.l0]
    have hlen : (l.take i.toNat).length = i.toNat := by rw [List.length_take]; omega
    rw [if_pos (by omega), if_pos h0, if_pos (by rw [List.length_append, hlen, List.length_replicate]; omega), w64 (n := i + 1) (by omega) (by omega)]
    have e : (l.take i.toNat ++ List.replicate (d + 1) 0).set i.toNat (rd l i) = l.take (i + 1).toNat ++ List.replicate d 0 := by
      rw [List.set_append_right _ _ (by omega), hlen, Nat.sub_self, List.replicate_succ, List.set_cons_zero, show (i + 1).toNat = i.toNat + 1 by omega, List.take_succ_eq_append_getElem (show i.toNat < l.length by omega), List.append_assoc]
      simp [rd, List.getD_eq_getElem?_getD, List.getElem?_eq_getElem (show i.toNat < l.length by omega)]
    rw [e]
    exact ih (i + 1) (by omega) (by omega) k (by omega)
theorem toInt64S_ev (l : List Int) (hl : l.length ≤ 1048576) : ∃ K, ∀ k, K ≤ k → laws_toInt64S.f k l = some l := by
  refine ⟨l.length + 1, fun k hk => ?_⟩
  simp only [laws_toInt64S.f]
  rw [if_pos (by omega), if_pos (by omega)]
  have := toInt64S_l0 l (by unfold maxLen; omega) l.length 0 (by omega) (by omega) k (by omega)
  simpa using this
theorem eqInt64S_l0 (l : List Int) (hl : l.length ≤ maxLen) : ∀ (d : Nat) (i : Int), 0 ≤ i → i + d = l.length → ∀ k, d < k → laws_eqInt64S.l0 k l l i = some true := by
  unfold maxLen at hl
  intro d
  induction d with
  | zero =>
    intro i h0 h1 k hk
    obtain ⟨k, rfl⟩ : ∃ m, k = m + 1 := ⟨k - 1, by omega⟩
    simp only [laws_eqInt64S.l0]
    rw [if_neg (by omega)]
  | succ d ih =>
    intro i h0 h1 k hk
    obtain ⟨k, rfl⟩ : ∃ m, k = m + 1 := ⟨k - 1, by omega⟩
    simp only [laws_eqInt64S.l0]
    rw [if_pos (by omega), if_pos h0, if_pos (by omega), if_pos trivial, w64 (n := i + 1) (by omega) (by omega)]
    exact ih (i + 1) (by omega) (by omega) k (by omega)
theorem eqInt64S_ev (l : List Int) (hl : l.length ≤ maxLen) : ∃ K, ∀ k, K ≤ k → laws_eqInt64S.f k l l = some true :=
  ⟨l.length + 1, fun k hk => by simp only [laws_eqInt64S.f]; rw [if_pos trivial]; exact eqInt64S_l0 l hl l.length 0 (by omega) (by omega) k (by omega)⟩

end Go.Proofs.YtmeflmlejcmckaaDoor.Pure
