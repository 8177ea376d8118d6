/- Plain facts: names. -/
import Derived.Test.YtmeflmlejcmckaaDoorPuB0
import Derived.Test.YtmeflmlejcmckaaDoorPBx3
import Derived.Test.YtmeflmlejcmckaaDoorPBx7
import Derived.Test.YtmeflmlejcmckaaDoorPBx12
import Derived.Test.YtmeflmlejcmckaaDoorPBx14
import Derived.Test.YtmeflmlejcmckaaDoorPBx16
namespace Go.Proofs.YtmeflmlejcmckaaDoor.Pure
open Go.RowKit Go.Proofs.YtmeflmlejcmckaaDoor.PB Go.Proofs.YtmeflmlejcmckaaDoorW.PrintWords Go.Proofs.YtmeflmlejcmckaaDoorW.PrintLast
set_option linter.unusedSimpArgs false
set_option linter.unusedVariables false
def allI (p : Int → Bool) : Nat → Int → Bool
  | 0, _ => true
  | d + 1, i => p i && allI p d (i + 1)
theorem allI_true {p : Int → Bool} : ∀ {d : Nat} {i : Int}, allI p d i = true ↔ ∀ j, i ≤ j → j < i + d → p j = true
  | 0, i => ⟨fun _ j h1 h2 => by omega, fun _ => rfl⟩
  | d + 1, i => by
    simp only [allI, Bool.and_eq_true, allI_true (d := d)]
    refine ⟨fun ⟨h1, h2⟩ j a b => ?_, fun h => ⟨h i (by omega) (by omega), fun j a b => h j (by omega) (by omega)⟩⟩
    by_cases e : j = i
    · rw [e]; exact h1
    · exact h2 j (by omega) (by omega)
theorem allI_congr {p q : Int → Bool} : ∀ {d : Nat} {i : Int}, (∀ j, i ≤ j → j < i + d → p j = q j) → allI p d i = allI q d i
  | 0, _, _ => rfl
  | d + 1, i, h => by
    simp only [allI]
    rw [h i (by omega) (by omega), allI_congr (fun j a b => h j (by omega) (by omega))]

/-! ### names -/
theorem l00In_f (n a b : Int) : spec_l00In.f n a b = some (within_ n a b) := by
  unfold spec_l00In.f within_
  by_cases h : n ≥ a
  · rw [if_pos h]; simp [show a ≤ n from h]
  · rw [if_neg h]; simp [show ¬ a ≤ n from h]
def okb (c : Int) : Bool := (decide (97 ≤ c) && decide (c ≤ 122)) || (decide (48 ≤ c) && decide (c ≤ 57))
theorem onlyName_l0 (s : ByteArray) (hs : s.size ≤ maxLen) : ∀ (d : Nat) (i : Int), 0 ≤ i → i + d = s.size → ∀ k, d < k → impl_onlyNameBytes.l0 k s (s.size : Int) i = some (allI (fun j => okb (bt s j)) d i) := by
  unfold maxLen at hs
  intro d
  induction d with
  | zero =>
    intro i h0 h1 k hk
    obtain ⟨k, rfl⟩ : ∃ m, k = m + 1 := ⟨k - 1, by omega⟩
    simp only [impl_onlyNameBytes.l0]
    rw [if_neg (by omega)]; rfl
  | succ d ih =>
    intro i h0 h1 k hk
    obtain ⟨k, rfl⟩ : ∃ m, k = m + 1 := ⟨k - 1, by omega⟩
    simp only [impl_onlyNameBytes.l0, allI]
    rw [if_pos (by omega), if_pos h0, if_pos (by omega), w64 (by omega) (by omega), ih (i + 1) (by omega) (by omega) k (by omega)]
    generalize bt s i = c
    generalize allI (fun j => okb (bt s j)) d (i + 1) = A
    unfold okb
    by_cases a : c < 97 <;> by_cases b : c < 48 <;> by_cases e : c > 57 <;> by_cases f : c > 122 <;> first | (exfalso; omega) | (simp [a, b, e, f] <;> (try (intros; omega)) <;> done) | (rw [show decide (97 ≤ c) = !decide (c < 97) from by simp, show decide (48 ≤ c) = !decide (c < 48) from by simp, show decide (c ≤ 122) = !decide (c > 122) from by simp, show decide (c ≤ 57) = !decide (c > 57) from by simp]; simp [a, b, e, f])
def nameB (s : ByteArray) : Bool :=
  if (s.size : Int) < 1 then false else if (s.size : Int) > 10 then false else if bt s 0 < 97 then false else if bt s 0 > 122 then false else allI (fun j => okb (bt s j)) s.size 0
theorem isName_ev (s : ByteArray) (hs : s.size ≤ maxLen) : ∃ K, ∀ k, K ≤ k → impl_IsName.f k s = some (nameB s) := by
  refine ⟨s.size + 1, fun k hk => ?_⟩
  simp only [impl_IsName.f, impl_onlyNameBytes.f]
  rw [onlyName_l0 s hs s.size 0 (by omega) (by omega) k (by omega)]
  unfold nameB
  by_cases h1 : (s.size : Int) < 1
  · rw [if_pos h1, if_pos h1]
  · rw [if_neg h1, if_neg h1]
    by_cases h2 : (s.size : Int) > 10
    · rw [if_pos h2, if_pos h2]
    · rw [if_neg h2, if_neg h2, if_pos (by omega)]
      by_cases h3 : bt s 0 < 97
      · rw [if_pos h3, if_pos h3]
      · rw [if_neg h3, if_neg h3]
        by_cases h4 : bt s 0 > 122
        · rw [if_pos h4, if_pos h4]
        · rw [if_neg h4, if_neg h4]; rfl
theorem l01Small_f (c : Int) : spec_l01Small.f c = some (decide (97 ≤ c) && decide (c ≤ 122)) := by
  unfold spec_l01Small.f
  by_cases h : c ≥ 97
  · rw [if_pos h]; simp [show 97 ≤ c from h]
  · rw [if_neg h]; simp [show ¬ 97 ≤ c from h]
theorem l01Digit_f (c : Int) : spec_l01Digit.f c = some (decide (48 ≤ c) && decide (c ≤ 57)) := by
  unfold spec_l01Digit.f
  by_cases h : c ≥ 48
  · rw [if_pos h]; simp [show 48 ≤ c from h]
  · rw [if_neg h]; simp [show ¬ 48 ≤ c from h]
theorem l01Name_l0 (s : ByteArray) (hs : s.size ≤ maxLen) : ∀ (d : Nat) (i : Int), 0 ≤ i → i + d = s.size → ∀ k, d < k → spec_l01Name.l0 k s i = some (allI (fun j => okb (bt s j)) d i) := by
  unfold maxLen at hs
  intro d
  induction d with
  | zero =>
    intro i h0 h1 k hk
    obtain ⟨k, rfl⟩ : ∃ m, k = m + 1 := ⟨k - 1, by omega⟩
    simp only [spec_l01Name.l0]
    rw [if_neg (by omega)]; rfl
  | succ d ih =>
    intro i h0 h1 k hk
    obtain ⟨k, rfl⟩ : ∃ m, k = m + 1 := ⟨k - 1, by omega⟩
    simp only [spec_l01Name.l0, allI, l01Small_f, l01Digit_f, Option.bind_some]
    rw [if_pos (by omega), if_pos h0, w64 (by omega) (by omega), ih (i + 1) (by omega) (by omega) k (by omega)]
    generalize bt s i = c
    unfold okb
    cases (decide (97 ≤ c) && decide (c ≤ 122)) <;> cases (decide (48 ≤ c) && decide (c ≤ 57)) <;> simp
theorem l01Name_ev (s : ByteArray) (hs : s.size ≤ maxLen) : ∃ K, ∀ k, K ≤ k → spec_l01Name.f k s = some (nameB s) := by
  refine ⟨s.size + 2, fun k hk => ?_⟩
  obtain ⟨k, rfl⟩ : ∃ m, k = m + 1 := ⟨k - 1, by omega⟩
  have h0 := l01Name_l0 s hs s.size 0 (by omega) (by omega) k (by omega)
  unfold nameB
  by_cases h1 : (s.size : Int) < 1
  · have e : s.toList = [] := (toList_nil_iff_emptyBytes s).2 (by
      have h : s.size = 0 := by omega
      cases s with | mk d => have hd : d.size = 0 := h; cases d with | mk l => have : l = [] := List.eq_nil_of_length_eq_zero hd; subst this; rfl)
    simp only [spec_l01Name.f, spec_l01Name.j0]
    rw [if_pos e, if_pos h1]; rfl
  · have e : ¬ s.toList = [] := fun e => h1 (by rw [(toList_nil_iff_emptyBytes s).1 e]; decide)
    simp only [spec_l01Name.f, spec_l01Name.j0, l01Small_f, Option.bind_some]
    rw [if_neg e, if_neg h1]
    by_cases h2 : (s.size : Int) > 10
    · rw [if_pos h2, if_pos h2]; rfl
    · rw [if_neg h2, if_neg h2, if_pos (by omega), h0]
      by_cases h3 : bt s 0 < 97
      · rw [if_pos h3]; simp [show ¬ 97 ≤ bt s 0 by omega]
      · rw [if_neg h3]
        by_cases h4 : bt s 0 > 122
        · rw [if_pos h4]; simp [show ¬ bt s 0 ≤ 122 by omega]
        · rw [if_neg h4]; simp [show 97 ≤ bt s 0 by omega, show bt s 0 ≤ 122 by omega]


end Go.Proofs.YtmeflmlejcmckaaDoor.Pure
