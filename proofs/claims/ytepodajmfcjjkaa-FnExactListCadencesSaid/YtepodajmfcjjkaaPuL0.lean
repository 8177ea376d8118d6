/- Plain facts: talas, cadences and lists of them, rows that are marked. -/
import Derived.Laws.Closers25b
import Derived.Test.YtepodajmfcjjkaaPLx1
import Derived.Test.YtepodajmfcjjkaaPLx2
import Derived.Test.YtepodajmfcjjkaaPLx3
import Derived.Test.YtepodajmfcjjkaaPLx4
import Derived.Test.YtepodajmfcjjkaaPLx5
import Derived.Test.YtepodajmfcjjkaaPLx6
import Derived.Test.YtepodajmfcjjkaaPLx7
import Derived.Test.YtepodajmfcjjkaaPLx8
import Derived.Test.YtepodajmfcjjkaaPLx9
import Derived.Test.YtepodajmfcjjkaaPLx10
import Derived.Test.YtepodajmfcjjkaaPLx11
import Derived.Test.YtepodajmfcjjkaaPLx12
import Derived.Test.YtepodajmfcjjkaaPLx13
namespace Go.Proofs.Ytepodajmfcjjkaa.Pure
open Go.RowKit Go.Proofs.Ytepodajmfcjjkaa.PL Go.Proofs.YtepodajmfcjjkaaW.PrintWords Go.Proofs.YtepodajmfcjjkaaW.PrintLast
set_option linter.unusedSimpArgs false
set_option linter.unusedVariables false


theorem w64 {n : Int} (h0 : -9223372036854775808 ≤ n) (h1 : n ≤ 9223372036854775807) : wrap64 n = n := by unfold wrap64; omega
def allI (p : Int → Bool) : Nat → Int → Bool
  | 0, _ => true
  | d + 1, i => p i && allI p d (i + 1)
theorem allI_true {p : Int → Bool} : ∀ {d : Nat} {i : Int}, allI p d i = true ↔ ∀ j, i ≤ j → j < i + d → p j = true
  | 0, i => ⟨fun _ j h1 h2 => by omega, fun _ => rfl⟩
  | d + 1, i => by
    simp only [allI, Bool.and_eq_true, allI_true (d := d)]
    refine ⟨fun ⟨h1, h2⟩ j a b => ?_, fun h => ⟨h i (by omega) (by omega), fun j a b => h j (by omega) (by omega)⟩⟩
    by_cases e : j = i
    · rw [e]; exact h1
    · exact h2 j (by omega) (by omega)
theorem allI_congr {p q : Int → Bool} : ∀ {d : Nat} {i : Int}, (∀ j, i ≤ j → j < i + d → p j = q j) → allI p d i = allI q d i
  | 0, _, _ => rfl
  | d + 1, i, h => by
    simp only [allI]
    rw [h i (by omega) (by omega), allI_congr (fun j a b => h j (by omega) (by omega))]

/-! ### names -/
theorem l00In_f (n a b : Int) : spec_l00In.f n a b = some (within_ n a b) := by
  unfold spec_l00In.f within_
  by_cases h : n ≥ a
  · rw [if_pos h]; simp [show a ≤ n from h]
  · rw [if_neg h]; simp [show ¬ a ≤ n from h]
def okb (c : Int) : Bool := (decide (97 ≤ c) && decide (c ≤ 122)) || (decide (48 ≤ c) && decide (c ≤ 57))
theorem onlyName_l0 (s : ByteArray) (hs : s.size ≤ maxLen) : ∀ (d : Nat) (i : Int), 0 ≤ i → i + d = s.size → ∀ k, d < k → impl_onlyNameBytes.l0 k s (s.size : Int) i = some (allI (fun j => okb (bt s j)) d i) := by
  unfold maxLen at hs
  intro d
  induction d with
  | zero =>
    intro i h0 h1 k hk
    obtain ⟨k, rfl⟩ : ∃ m, k = m + 1 := ⟨k - 1, by omega⟩
    simp only [impl_onlyNameBytes.l0]
    rw [if_neg (by omega)]; rfl
  | succ d ih =>
    intro i h0 h1 k hk
    obtain ⟨k, rfl⟩ : ∃ m, k = m + 1 := ⟨k - 1, by omega⟩
    simp only [impl_onlyNameBytes.l0, allI]
    rw [if_pos (by omega), if_pos h0, if_pos (by omega), w64 (by omega) (by omega), ih (i + 1) (by omega) (by omega) k (by omega)]
    generalize bt s i = c
    generalize allI (fun j => okb (bt s j)) d (i + 1) = A
    unfold okb
    by_cases a : c < 97 <;> by_cases b : c < 48 <;> by_cases e : c > 57 <;> by_cases f : c > 122 <;> first | (exfalso; omega) | (simp [a, b, e, f] <;> (try (intros; omega)) <;> done) | (rw [show decide (97 ≤ c) = !decide (c < 97) from by simp, show decide (48 ≤ c) = !decide (c < 48) from by simp, show decide (c ≤ 122) = !decide (c > 122) from by simp, show decide (c ≤ 57) = !decide (c > 57) from by simp]; simp [a, b, e, f])
def nameB (s : ByteArray) : Bool :=
  if (s.size : Int) < 1 then false else if (s.size : Int) > 10 then false else if bt s 0 < 97 then false else if bt s 0 > 122 then false else allI (fun j => okb (bt s j)) s.size 0
theorem isName_ev (s : ByteArray) (hs : s.size ≤ maxLen) : ∃ K, ∀ k, K ≤ k → impl_IsName.f k s = some (nameB s) := by
  refine ⟨s.size + 1, fun k hk => ?_⟩
  simp only [impl_IsName.f, impl_onlyNameBytes.f]
  rw [onlyName_l0 s hs s.size 0 (by omega) (by omega) k (by omega)]
  unfold nameB
  by_cases h1 : (s.size : Int) < 1
  · rw [if_pos h1, if_pos h1]
  · rw [if_neg h1, if_neg h1]
    by_cases h2 : (s.size : Int) > 10
    · rw [if_pos h2, if_pos h2]
    · rw [if_neg h2, if_neg h2, if_pos (by omega)]
      by_cases h3 : bt s 0 < 97
      · rw [if_pos h3, if_pos h3]
      · rw [if_neg h3, if_neg h3]
        by_cases h4 : bt s 0 > 122
        · rw [if_pos h4, if_pos h4]
        · rw [if_neg h4, if_neg h4]; rfl
theorem l01Small_f (c : Int) : spec_l01Small.f c = some (decide (97 ≤ c) && decide (c ≤ 122)) := by
  unfold spec_l01Small.f
  by_cases h : c ≥ 97
  · rw [if_pos h]; simp [show 97 ≤ c from h]
  · rw [if_neg h]; simp [show ¬ 97 ≤ c from h]
theorem l01Digit_f (c : Int) : spec_l01Digit.f c = some (decide (48 ≤ c) && decide (c ≤ 57)) := by
  unfold spec_l01Digit.f
  by_cases h : c ≥ 48
  · rw [if_pos h]; simp [show 48 ≤ c from h]
  · rw [if_neg h]; simp [show ¬ 48 ≤ c from h]
theorem l01Name_l0 (s : ByteArray) (hs : s.size ≤ maxLen) : ∀ (d : Nat) (i : Int), 0 ≤ i → i + d = s.size → ∀ k, d < k → spec_l01Name.l0 k s i = some (allI (fun j => okb (bt s j)) d i) := by
  unfold maxLen at hs
  intro d
  induction d with
  | zero =>
    intro i h0 h1 k hk
    obtain ⟨k, rfl⟩ : ∃ m, k = m + 1 := ⟨k - 1, by omega⟩
    simp only [spec_l01Name.l0]
    rw [if_neg (by omega)]; rfl
  | succ d ih =>
    intro i h0 h1 k hk
    obtain ⟨k, rfl⟩ : ∃ m, k = m + 1 := ⟨k - 1, by omega⟩
    simp only [spec_l01Name.l0, allI, l01Small_f, l01Digit_f, Option.bind_some]
    rw [if_pos (by omega), if_pos h0, w64 (by omega) (by omega), ih (i + 1) (by omega) (by omega) k (by omega)]
    generalize bt s i = c
    unfold okb
    cases (decide (97 ≤ c) && decide (c ≤ 122)) <;> cases (decide (48 ≤ c) && decide (c ≤ 57)) <;> simp
theorem l01Name_ev (s : ByteArray) (hs : s.size ≤ maxLen) : ∃ K, ∀ k, K ≤ k → spec_l01Name.f k s = some (nameB s) := by
  refine ⟨s.size + 2, fun k hk => ?_⟩
  obtain ⟨k, rfl⟩ : ∃ m, k = m + 1 := ⟨k - 1, by omega⟩
  have h0 := l01Name_l0 s hs s.size 0 (by omega) (by omega) k (by omega)
  unfold nameB
  by_cases h1 : (s.size : Int) < 1
  · have e : s.toList = [] := (toList_nil_iff_emptyBytes s).2 (by
      have h : s.size = 0 := by omega
      cases s with | mk d => have hd : d.size = 0 := h; cases d with | mk l => have : l = [] := List.eq_nil_of_length_eq_zero hd; subst this; rfl)
    simp only [spec_l01Name.f, spec_l01Name.j0]
    rw [if_pos e, if_pos h1]; rfl
  · have e : ¬ s.toList = [] := fun e => h1 (by rw [(toList_nil_iff_emptyBytes s).1 e]; decide)
    simp only [spec_l01Name.f, spec_l01Name.j0, l01Small_f, Option.bind_some]
    rw [if_neg e, if_neg h1]
    by_cases h2 : (s.size : Int) > 10
    · rw [if_pos h2, if_pos h2]; rfl
    · rw [if_neg h2, if_neg h2, if_pos (by omega), h0]
      by_cases h3 : bt s 0 < 97
      · rw [if_pos h3]; simp [show ¬ 97 ≤ bt s 0 by omega]
      · rw [if_neg h3]
        by_cases h4 : bt s 0 > 122
        · rw [if_pos h4]; simp [show ¬ bt s 0 ≤ 122 by omega]
        · rw [if_neg h4]; simp [show 97 ≤ bt s 0 by omega, show bt s 0 ≤ 122 by omega]

/-! ### sums -/
def sumW (l : List Int) : Nat → Int → Int → Int
  | 0, _, a => a
  | d + 1, i, a => sumW l d (i + 1) (wrap64 (a + rd l i))
theorem sumOf_l0 (l : List Int) (hl : l.length ≤ maxLen) : ∀ (d : Nat) (i a : Int), 0 ≤ i → i + d = l.length → ∀ k, d < k → impl_sumOf.l0 k a l (l.length : Int) i = some (sumW l d i a) := by
  unfold maxLen at hl
  intro d
  induction d with
  | zero =>
    intro i a h0 h1 k hk
    obtain ⟨k, rfl⟩ : ∃ m, k = m + 1 := ⟨k - 1, by omega⟩
    simp only [impl_sumOf.l0]
    rw [if_neg (by omega)]; rfl
  | succ d ih =>
    intro i a h0 h1 k hk
    obtain ⟨k, rfl⟩ : ∃ m, k = m + 1 := ⟨k - 1, by omega⟩
    simp only [impl_sumOf.l0, sumW]
    rw [if_pos (by omega), if_pos h0, if_pos (by omega), w64 (n := i + 1) (by omega) (by omega), ih (i + 1) _ (by omega) (by omega) k (by omega)]
theorem l17Sum_l0 (l : List Int) (hl : l.length ≤ maxLen) : ∀ (d : Nat) (i a : Int), 0 ≤ i → i + d = l.length → ∀ k, d < k → spec_l17Sum.l0 k l a i = some (sumW l d i a) := by
  unfold maxLen at hl
  intro d
  induction d with
  | zero =>
    intro i a h0 h1 k hk
    obtain ⟨k, rfl⟩ : ∃ m, k = m + 1 := ⟨k - 1, by omega⟩
    simp only [spec_l17Sum.l0]
    rw [if_neg (by omega)]; rfl
  | succ d ih =>
    intro i a h0 h1 k hk
    obtain ⟨k, rfl⟩ : ∃ m, k = m + 1 := ⟨k - 1, by omega⟩
    simp only [spec_l17Sum.l0, sumW]
    rw [if_pos (by omega), if_pos h0, w64 (n := i + 1) (by omega) (by omega), ih (i + 1) _ (by omega) (by omega) k (by omega)]
def sumB (l : List Int) : Int := sumW l l.length 0 0
theorem sumOf_ev (l : List Int) (hl : l.length ≤ maxLen) : ∃ K, ∀ k, K ≤ k → impl_sumOf.f k l = some (sumB l) := ⟨l.length + 1, fun k hk => sumOf_l0 l hl l.length 0 0 (by omega) (by omega) k (by omega)⟩
theorem l17Sum_ev (l : List Int) (hl : l.length ≤ maxLen) : ∃ K, ∀ k, K ≤ k → spec_l17Sum.f k l = some (sumB l) := ⟨l.length + 1, fun k hk => l17Sum_l0 l hl l.length 0 0 (by omega) (by omega) k (by omega)⟩
theorem beats_ev (a : ByteArray) (l m : List Int) (hl : l.length ≤ maxLen) : ∃ K, ∀ k, K ≤ k → impl_Tala_beats.f k a l m = some (sumB l) := by
  obtain ⟨K, h⟩ := sumOf_ev l hl
  exact ⟨K, fun k hk => by simp only [impl_Tala_beats.f]; rw [h k hk]; rfl⟩
theorem l17Beats_ev (a : ByteArray) (l m : List Int) (hl : l.length ≤ maxLen) : ∃ K, ∀ k, K ≤ k → spec_l17Beats.f k [(⟨a, l, m⟩ : S29)] = some (sumB l) := by
  obtain ⟨K, h⟩ := l17Sum_ev l hl
  exact ⟨K, fun k hk => by simp only [spec_l17Beats.f]; rw [show (rd_T29 [(⟨a, l, m⟩ : S29)] 0).f1 = l from rfl, h k hk]; rfl⟩
theorem sumW_bounds (l : List Int) (lo hi : Int) : ∀ (d : Nat) (i a : Int), (∀ j, i ≤ j → j < i + d → lo ≤ rd l j ∧ rd l j ≤ hi) → 0 ≤ lo → 0 ≤ a → a + d * hi ≤ 9223372036854775807 → a + d * lo ≤ sumW l d i a ∧ sumW l d i a ≤ a + d * hi
  | 0, i, a, _, _, _, _ => by simp [sumW]
  | d + 1, i, a, h, hlo, ha, hm => by
    have h0 := h i (by omega) (by omega)
    have hhi : 0 ≤ hi := by omega
    have e : ((d + 1 : Nat) : Int) * hi = d * hi + hi := by rw [Int.natCast_add]; simp [Int.add_mul]
    have e2 : ((d + 1 : Nat) : Int) * lo = d * lo + lo := by rw [Int.natCast_add]; simp [Int.add_mul]
    have hd : 0 ≤ (d : Int) * hi := Int.mul_nonneg (by omega) hhi
    simp only [sumW]
    rw [w64 (n := a + rd l i) (by omega) (by omega)]
    have := sumW_bounds l lo hi d (i + 1) (a + rd l i) (fun j x y => h j (by omega) (by omega)) hlo (by omega) (by omega)
    omega

/-! ### talas -/
theorem all_allI (p : Int → Bool) (l : List Int) : l.all p = allI (fun i => p (rd l i)) l.length 0 := by
  rw [Bool.eq_iff_iff, List.all_eq_true, allI_true]
  constructor
  · intro h j h0 h1
    refine h _ ?_
    rw [show rd l j = l[j.toNat]'(by omega) from by simp [rd, List.getD_eq_getElem?_getD, List.getElem?_eq_getElem (show j.toNat < l.length by omega)]]
    exact List.getElem_mem _
  · intro h x hx
    obtain ⟨n, hn, rfl⟩ := List.getElem_of_mem hx
    have := h n (by omega) (by omega)
    rwa [show rd l n = l[n] from by simp [rd, List.getD_eq_getElem?_getD, List.getElem?_eq_getElem hn]] at this
def talaB (a : ByteArray) (l m : List Int) : Bool :=
  nameB a && within_ l.length 1 8 && decide ((m.length : Int) = l.length) && l.all (fun n => within_ n 1 16) && decide (rd m 0 = 1) && (m.drop 1).all (fun n => within_ n 2 3) && decide (sumB l ≤ 32)
theorem validTala_ev (a : ByteArray) (l m : List Int) (ha : a.size ≤ maxLen) (hl : l.length ≤ maxLen) : ∃ K, ∀ k, K ≤ k → impl_ValidTala.f k a l m = some (talaB a l m) := by
  obtain ⟨K1, h1⟩ := isName_ev a ha
  obtain ⟨K2, h2⟩ := beats_ev a l m hl
  refine ⟨K1 + K2, fun k hk => ?_⟩
  simp only [impl_ValidTala.f, impl_allWithin.f]
  rw [h1 k (by omega), h2 k (by omega)]
  simp only [Option.bind_some]
  unfold talaB within_
  cases nameB a with
  | false => simp
  | true =>
    by_cases e1 : (l.length : Int) < 1
    · simp [e1, show ¬ (1 : Int) ≤ l.length by omega]
    · by_cases e2 : (l.length : Int) > 8
      · simp [e1, e2, show ¬ (l.length : Int) ≤ 8 by omega]
      · simp only [if_true, if_neg e1, if_neg e2]
        rw [show decide ((1 : Int) ≤ (l.length : Int)) = true from decide_eq_true (by omega), show decide ((l.length : Int) ≤ 8) = true from decide_eq_true (by omega)]
        simp only [Bool.true_and, Bool.and_true]
        cases (l.all fun n => decide (1 ≤ n) && decide (n ≤ 16)) with
        | false => simp
        | true =>
          simp only [if_true, Bool.and_true]
          by_cases e3 : sumB l > 32
          · rw [if_pos e3]; simp [show ¬ sumB l ≤ 32 by omega]
          · rw [if_neg e3]
            by_cases e4 : (m.length : Int) = l.length
            · rw [if_pos e4, if_pos (by omega)]
              by_cases e5 : rd m 0 = 1
              · rw [if_pos e5, if_pos (by omega)]; simp [e4, e5, show sumB l ≤ 32 by omega]
              · rw [if_neg e5]; simp [e5]
            · rw [if_neg e4]; simp [e4]
def markB (m : List Int) (i : Int) : Bool := if i = 0 then decide (rd m i = 1) else within_ (rd m i) 2 3
theorem l17Ok_l0 (a : ByteArray) (l m : List Int) (hl : l.length ≤ maxLen) (hm : m.length = l.length) (K : Nat) (hK : ∀ k, K ≤ k → spec_l17Sum.f k l = some (sumB l)) :
    ∀ (d : Nat) (i : Int), 0 ≤ i → i + d = l.length → ∀ k, K + d < k → spec_l17Ok.l0 k [(⟨a, l, m⟩ : S29)] (l.length : Int) i = some (allI (fun j => within_ (rd l j) 1 16 && markB m j) d i && decide (sumB l ≤ 32)) := by
  unfold maxLen at hl
  intro d
  induction d with
  | zero =>
    intro i h0 h1 k hk
    obtain ⟨k, rfl⟩ : ∃ m, k = m + 1 := ⟨k - 1, by omega⟩
    simp only [spec_l17Ok.l0]
    rw [if_neg (by omega), show (rd_T29 [(⟨a, l, m⟩ : S29)] 0).f1 = l from rfl, hK k (by omega)]
    simp [allI]
  | succ d ih =>
    intro i h0 h1 k hk
    obtain ⟨k, rfl⟩ : ∃ m, k = m + 1 := ⟨k - 1, by omega⟩
    simp only [spec_l17Ok.l0, allI, show (rd_T29 [(⟨a, l, m⟩ : S29)] 0).f1 = l from rfl, show (rd_T29 [(⟨a, l, m⟩ : S29)] 0).f2 = m from rfl, l00In_f, Option.bind_some]
    rw [if_pos (by omega), if_pos h0, if_pos (by omega), w64 (n := i + 1) (by omega) (by omega), ih (i + 1) (by omega) (by omega) k (by omega)]
    rw [Bool.and_assoc]
    generalize (allI (fun j => within_ (rd l j) 1 16 && markB m j) d (i + 1) && decide (sumB l ≤ 32)) = A
    cases within_ (rd l i) 1 16 with
    | false => simp
    | true =>
      unfold markB
      by_cases e : i = 0
      · subst e
        simp only [if_true]
        rw [if_pos (by omega)]
        by_cases e2 : rd m 0 = 1
        · rw [if_pos e2, if_neg (by omega)]; simp [e2]
        · rw [if_neg e2]; simp [e2]
      · simp only [if_true, if_neg e]
        rw [if_pos (by omega), if_pos (by omega)]
        cases within_ (rd m i) 2 3 <;> simp
theorem marks_allI (m : List Int) (h : 0 < m.length) : (decide (rd m 0 = 1) && (m.drop 1).all (fun n => within_ n 2 3)) = allI (markB m) m.length 0 := by
  rw [Bool.eq_iff_iff, Bool.and_eq_true, all_allI, allI_true, allI_true, decide_eq_true_eq, List.length_drop]
  have hr : ∀ j : Int, 0 ≤ j → rd (m.drop 1) j = rd m (j + 1) := fun j hj => by
    simp only [rd, List.getD_eq_getElem?_getD, List.getElem?_drop]
    congr 3; omega
  constructor
  · rintro ⟨h1, h2⟩ j a b
    unfold markB
    by_cases e : j = 0
    · subst e; simp [h1]
    · rw [if_neg e]
      have := h2 (j - 1) (by omega) (by omega)
      rwa [hr _ (by omega), show j - 1 + 1 = j by omega] at this
  · intro h1
    refine ⟨by simpa [markB] using h1 0 (by omega) (by omega), fun j a b => ?_⟩
    have := h1 (j + 1) (by omega) (by omega)
    unfold markB at this
    rw [if_neg (by omega)] at this
    rwa [hr _ a]
theorem allI_and (p q : Int → Bool) : ∀ (d : Nat) (i : Int), allI (fun j => p j && q j) d i = (allI p d i && allI q d i)
  | 0, _ => rfl
  | d + 1, i => by simp only [allI, allI_and p q d]; cases p i <;> cases q i <;> simp
theorem l17Ok_ev (a : ByteArray) (l m : List Int) (ha : a.size ≤ maxLen) (hl : l.length ≤ maxLen) : ∃ K, ∀ k, K ≤ k → spec_l17Ok.f k [(⟨a, l, m⟩ : S29)] = some (talaB a l m) := by
  obtain ⟨K1, h1⟩ := l01Name_ev a ha
  obtain ⟨K2, h2⟩ := l17Sum_ev l hl
  refine ⟨K1 + K2 + l.length + 3, fun k hk => ?_⟩
  obtain ⟨k, rfl⟩ : ∃ m, k = m + 1 := ⟨k - 1, by omega⟩
  simp only [spec_l17Ok.f, show (rd_T29 [(⟨a, l, m⟩ : S29)] 0).f0 = a from rfl, show (rd_T29 [(⟨a, l, m⟩ : S29)] 0).f1 = l from rfl, show (rd_T29 [(⟨a, l, m⟩ : S29)] 0).f2 = m from rfl, l00In_f, spec_l17Ok.j0]
  rw [h1 (k + 1) (by omega)]
  simp only [Option.bind_some]
  unfold talaB
  cases nameB a with
  | false => simp
  | true =>
    cases hw : within_ (l.length : Int) 1 8 with
    | false => simp
    | true =>
      have hb : 1 ≤ (l.length : Int) := by unfold within_ at hw; simp at hw; omega
      by_cases e : (m.length : Int) = l.length
      · rw [l17Ok_l0 a l m hl (by omega) K2 h2 l.length 0 (by omega) (by omega) k (by omega), allI_and, ← all_allI (fun n => within_ n 1 16) l, show l.length = m.length by omega, ← marks_allI m (by omega)]
        simp [e, Bool.and_assoc]
      · simp [e]
theorem talaB_beats {a : ByteArray} {l m : List Int} (h : talaB a l m = true) : 1 ≤ sumB l ∧ sumB l ≤ 32 := by
  unfold talaB at h
  simp only [Bool.and_eq_true, decide_eq_true_eq] at h
  obtain ⟨⟨⟨⟨⟨⟨_, h1⟩, _⟩, h2⟩, _⟩, _⟩, h3⟩ := h
  unfold within_ at h1
  simp only [Bool.and_eq_true, decide_eq_true_eq] at h1
  rw [all_allI, allI_true] at h2
  have := (sumW_bounds l 1 16 l.length 0 0 (fun j x y => by have := h2 j x y; simpa [within_] using this) (by omega) (by omega) (by omega)).1
  unfold sumB at h3 ⊢
  exact ⟨by omega, h3⟩

/-! ### what the laws do with their arguments -/
theorem toInt64S_l0 (l : List Int) (hl : l.length ≤ maxLen) : ∀ (d : Nat) (i : Int), 0 ≤ i → i + d = l.length → ∀ k, d < k → laws_toInt64S.l0 k l (l.take i.toNat ++ List.replicate d 0) i = some l := by
  unfold maxLen at hl
  intro d
  induction d with
  | zero =>
    intro i h0 h1 k hk
    obtain ⟨k, rfl⟩ : ∃ m, k = m + 1 := ⟨k - 1, by omega⟩
    simp only [laws_toInt64S.l0]
    rw [if_neg (by omega), List.take_of_length_le (by omega)]
    simp
  | succ d ih =>
    intro i h0 h1 k hk
    obtain ⟨k, rfl⟩ : ∃ m, k = m + 1 := ⟨k - 1, by omega⟩
    simp only [laws_toInt64S.l0]
    have hlen : (l.take i.toNat).length = i.toNat := by rw [List.length_take]; omega
    rw [if_pos (by omega), if_pos h0, if_pos (by rw [List.length_append, hlen, List.length_replicate]; omega), w64 (n := i + 1) (by omega) (by omega)]
    have e : (l.take i.toNat ++ List.replicate (d + 1) 0).set i.toNat (rd l i) = l.take (i + 1).toNat ++ List.replicate d 0 := by
      rw [List.set_append_right _ _ (by omega), hlen, Nat.sub_self, List.replicate_succ, List.set_cons_zero, show (i + 1).toNat = i.toNat + 1 by omega, List.take_succ_eq_append_getElem (show i.toNat < l.length by omega), List.append_assoc]
      simp [rd, List.getD_eq_getElem?_getD, List.getElem?_eq_getElem (show i.toNat < l.length by omega)]
    rw [e]
    exact ih (i + 1) (by omega) (by omega) k (by omega)
theorem toInt64S_ev (l : List Int) (hl : l.length ≤ 1048576) : ∃ K, ∀ k, K ≤ k → laws_toInt64S.f k l = some l := by
  refine ⟨l.length + 1, fun k hk => ?_⟩
  simp only [laws_toInt64S.f]
  rw [if_pos (by omega), if_pos (by omega)]
  have := toInt64S_l0 l (by unfold maxLen; omega) l.length 0 (by omega) (by omega) k (by omega)
  simpa using this
theorem toTala_ev (a : ByteArray) (l m : List Int) (hl : l.length ≤ 1048576) (hm : m.length ≤ 1048576) : ∃ K, ∀ k, K ≤ k → laws_toTala.f k a l m = some (a, l, m) := by
  obtain ⟨K1, h1⟩ := toInt64S_ev l hl
  obtain ⟨K2, h2⟩ := toInt64S_ev m hm
  exact ⟨K1 + K2, fun k hk => by simp only [laws_toTala.f]; rw [h1 k (by omega), h2 k (by omega)]; rfl⟩
theorem eqInt64S_l0 (l : List Int) (hl : l.length ≤ maxLen) : ∀ (d : Nat) (i : Int), 0 ≤ i → i + d = l.length → ∀ k, d < k → laws_eqInt64S.l0 k l l i = some true := by
  unfold maxLen at hl
  intro d
  induction d with
  | zero =>
    intro i h0 h1 k hk
    obtain ⟨k, rfl⟩ : ∃ m, k = m + 1 := ⟨k - 1, by omega⟩
    simp only [laws_eqInt64S.l0]
    rw [if_neg (by omega)]
  | succ d ih =>
    intro i h0 h1 k hk
    obtain ⟨k, rfl⟩ : ∃ m, k = m + 1 := ⟨k - 1, by omega⟩
    simp only [laws_eqInt64S.l0]
    rw [if_pos (by omega), if_pos h0, if_pos (by omega), if_pos trivial, w64 (n := i + 1) (by omega) (by omega)]
    exact ih (i + 1) (by omega) (by omega) k (by omega)
theorem eqInt64S_ev (l : List Int) (hl : l.length ≤ maxLen) : ∃ K, ∀ k, K ≤ k → laws_eqInt64S.f k l l = some true :=
  ⟨l.length + 1, fun k hk => by simp only [laws_eqInt64S.f]; rw [if_pos trivial]; exact eqInt64S_l0 l hl l.length 0 (by omega) (by omega) k (by omega)⟩
theorem eqTala_ev (a : ByteArray) (l m : List Int) (hl : l.length ≤ maxLen) (hm : m.length ≤ maxLen) : ∃ K, ∀ k, K ≤ k → laws_eqTala.f k a l m a l m = some true := by
  obtain ⟨K1, h1⟩ := eqInt64S_ev l hl
  obtain ⟨K2, h2⟩ := eqInt64S_ev m hm
  exact ⟨K1 + K2, fun k hk => by simp only [laws_eqTala.f]; rw [if_pos trivial, h1 k (by omega), h2 k (by omega)]; rfl⟩
theorem szInt64S_f (l : List Int) (n : Int) (hl : l.length ≤ maxLen) (h0 : 0 ≤ n) (h1 : n ≤ 1048576) : laws_szInt64S.f l n = some (if n < l.length then -1 else n - l.length) := by
  unfold maxLen at hl
  unfold laws_szInt64S.f
  rw [w64 (by omega) (by omega)]
  by_cases h : n < l.length
  · rw [if_pos (by omega), if_pos h]
  · rw [if_neg (by omega), if_neg h]
/-- What the laws' bound lets by. -/
theorem szTala_f (a : ByteArray) (l m : List Int) (ha : a.size ≤ maxLen) (hl : l.length ≤ maxLen) (hm : m.length ≤ maxLen) : ∃ r, laws_szTala.f a l m 1048576 = some r ∧ (0 ≤ r → l.length ≤ 1048576 ∧ m.length ≤ 1048576) := by
  have ha' := ha; have hl' := hl; have hm' := hm
  unfold maxLen at ha' hl' hm'
  unfold laws_szTala.f
  rw [w64 (by omega) (by omega)]
  by_cases h : (1048576 : Int) - a.size < 0
  · rw [if_pos h]; exact ⟨-1, rfl, fun h => by omega⟩
  · rw [if_neg h, szInt64S_f l _ hl (by omega) (by omega)]
    simp only [Option.bind_some]
    by_cases h2 : (1048576 : Int) - a.size < l.length
    · rw [if_pos h2, if_pos (by omega)]; exact ⟨-1, rfl, fun h => by omega⟩
    · rw [if_neg h2, if_neg (by omega), szInt64S_f m _ hm (by omega) (by omega)]
      simp only [Option.bind_some]
      by_cases h3 : (1048576 : Int) - a.size - l.length < m.length
      · rw [if_pos h3, if_pos (by omega)]; exact ⟨-1, rfl, fun h => by omega⟩
      · rw [if_neg h3, if_neg (by omega)]; exact ⟨_, rfl, fun h => by omega⟩

/-! ### cycles -/
def unitsB (l : List Int) (speed : Int) : Int := wrap64 (sumB l * speed)
theorem units_ev (a : ByteArray) (l m : List Int) (speed : Int) (hl : l.length ≤ maxLen) : ∃ K, ∀ k, K ≤ k → spec_l19Units.f k [(⟨a, l, m⟩ : S29)] speed = some (unitsB l speed) := by
  obtain ⟨K, h⟩ := l17Beats_ev a l m hl
  exact ⟨K, fun k hk => by simp only [spec_l19Units.f]; rw [h k hk]; rfl⟩
/-- The code of a tala, a speed and a start. -/
def startB (a : ByteArray) (l m : List Int) (speed start : Int) : Int :=
  if talaB a l m = true then (if within_ speed 1 8 = true then (if within_ start 0 (wrap64 (unitsB l speed - 1)) = true then 0 else 2) else 2) else 1
theorem l19Ask_ev (a : ByteArray) (l m : List Int) (speed : Int) (ha : a.size ≤ maxLen) (hl : l.length ≤ maxLen) : ∃ K, ∀ k, K ≤ k → spec_l19Ask.f k [(⟨a, l, m⟩ : S29)] speed = some (if talaB a l m = true then (if within_ speed 1 8 = true then 0 else 2) else 1) := by
  obtain ⟨K1, h1⟩ := l17Ok_ev a l m ha hl
  refine ⟨K1, fun k hk => ?_⟩
  simp only [spec_l19Ask.f]
  rw [h1 k hk]
  simp only [Option.bind_some, l00In_f]
  cases talaB a l m <;> cases within_ speed 1 8 <;> simp
theorem l19Start_ev (a : ByteArray) (l m : List Int) (speed start : Int) (ha : a.size ≤ maxLen) (hl : l.length ≤ maxLen) : ∃ K, ∀ k, K ≤ k → spec_l19Start.f k [(⟨a, l, m⟩ : S29)] speed start = some (startB a l m speed start) := by
  obtain ⟨K1, h1⟩ := l19Ask_ev a l m speed ha hl
  obtain ⟨K2, h2⟩ := units_ev a l m speed hl
  refine ⟨K1 + K2, fun k hk => ?_⟩
  simp only [spec_l19Start.f]
  rw [h1 k (by omega), h2 k (by omega)]
  simp only [Option.bind_some, l00In_f]
  unfold startB
  cases talaB a l m <;> cases within_ speed 1 8 <;> cases within_ start 0 (wrap64 (unitsB l speed - 1)) <;> simp
def codeB (a : ByteArray) (l m : List Int) (speed start phrase gap between : Int) : Int :=
  if talaB a l m = true then (if (within_ speed 1 8 && within_ start 0 (wrap64 (unitsB l speed - 1)) && within_ phrase 1 64 && within_ gap 0 32 && within_ between 0 64) = true then 0 else 2) else 1
theorem cadenceCode_ev (a : ByteArray) (l m : List Int) (speed start phrase gap between : Int) (ha : a.size ≤ maxLen) (hl : l.length ≤ maxLen) : ∃ K, ∀ k, K ≤ k → impl_cadenceCode.f k a l m speed start phrase gap between = some (codeB a l m speed start phrase gap between) := by
  obtain ⟨K1, h1⟩ := validTala_ev a l m ha hl
  obtain ⟨K2, h2⟩ := beats_ev a l m hl
  refine ⟨K1 + K2, fun k hk => ?_⟩
  simp only [impl_cadenceCode.f]
  rw [h1 k (by omega), h2 k (by omega)]
  simp only [Option.bind_some, within_f]
  unfold codeB unitsB
  cases talaB a l m <;> cases within_ speed 1 8 <;> cases within_ start 0 (wrap64 (wrap64 (sumB l * speed) - 1)) <;> cases within_ phrase 1 64 <;> cases within_ gap 0 32 <;> cases within_ between 0 64 <;> simp
theorem units_pos {a : ByteArray} {l m : List Int} {speed : Int} (h : talaB a l m = true) (hs : within_ speed 1 8 = true) : 1 ≤ unitsB l speed ∧ unitsB l speed ≤ 256 := by
  have hb := talaB_beats h
  unfold within_ at hs
  simp only [Bool.and_eq_true, decide_eq_true_eq] at hs
  unfold unitsB
  have e1 : 1 * 1 ≤ sumB l * speed := Int.mul_le_mul hb.1 hs.1 (by omega) (by omega)
  have e2 : sumB l * speed ≤ 32 * 8 := Int.mul_le_mul hb.2 hs.2 (by omega) (by omega)
  rw [w64 (by omega) (by omega)]
  omega
def endsB (l : List Int) (speed start total : Int) : Bool := Int.tmod (wrap64 (wrap64 (start + total) - 1)) (unitsB l speed) == 0
theorem l19Ends_ev {a : ByteArray} {l m : List Int} {speed : Int} (start total : Int) (hl : l.length ≤ maxLen) (h : talaB a l m = true) (hs : within_ speed 1 8 = true) : ∃ K, ∀ k, K ≤ k → spec_l19Ends.f k [(⟨a, l, m⟩ : S29)] speed start total = some (endsB l speed start total) := by
  obtain ⟨K, hK⟩ := units_ev a l m speed hl
  have hp := units_pos h hs
  exact ⟨K, fun k hk => by simp only [spec_l19Ends.f]; rw [hK k hk]; simp only [Option.bind_some]; rw [if_neg (by omega)]; rfl⟩
theorem endsOnSam_ev {a : ByteArray} {l m : List Int} {speed : Int} (start total : Int) (hl : l.length ≤ maxLen) (h : talaB a l m = true) (hs : within_ speed 1 8 = true) : ∃ K, ∀ k, K ≤ k → impl_Tala_endsOnSam.f k a l m speed start total = some (endsB l speed start total) := by
  obtain ⟨K, hK⟩ := beats_ev a l m hl
  have hp := units_pos h hs
  unfold unitsB at hp
  exact ⟨K, fun k hk => by simp only [impl_Tala_endsOnSam.f]; rw [hK k hk]; simp only [Option.bind_some]; rw [if_neg (by omega)]; rfl⟩
theorem within_iff {n a b : Int} : within_ n a b = true ↔ a ≤ n ∧ n ≤ b := by unfold within_; simp
theorem startB_zero {a : ByteArray} {l m : List Int} {speed start : Int} (h : startB a l m speed start = 0) : talaB a l m = true ∧ within_ speed 1 8 = true ∧ within_ start 0 (wrap64 (unitsB l speed - 1)) = true := by
  unfold startB at h
  split at h
  · split at h
    · split at h
      · exact ⟨‹_›, ‹_›, ‹_›⟩
      · omega
    · omega
  · omega
def totalB (p g : Int) : Int := wrap64 (wrap64 (3 * p) + wrap64 (2 * g))
theorem l19Phrase_f (n : Int) : spec_l19Phrase.f n = some (within_ n 1 64) := by simp only [spec_l19Phrase.f, l00In_f, Option.bind_some]
theorem l19Gap_f (n : Int) : spec_l19Gap.f n = some (within_ n 0 32) := by simp only [spec_l19Gap.f, l00In_f, Option.bind_some]
theorem l19Total_f (p g : Int) : spec_l19Total.f p g = some (totalB p g) := rfl
theorem codeB_start (a : ByteArray) (l m : List Int) (speed start p g : Int) :
    codeB a l m speed start p g 0 = if startB a l m speed start = 0 then (if (within_ p 1 64 && within_ g 0 32) = true then 0 else 2) else startB a l m speed start := by
  unfold codeB startB
  simp only [show within_ 0 0 64 = true from rfl, Bool.and_true]
  cases talaB a l m <;> cases within_ speed 1 8 <;> cases within_ start 0 (wrap64 (unitsB l speed - 1)) <;> cases within_ p 1 64 <;> cases within_ g 0 32 <;> simp
/-! ### where some units must begin -/
section
variable (e : Int → Int → Bool) (G : Nat)
def inL (p : Int) : Nat → Int → List (List Int) → List (List Int)
  | 0, _, acc => acc
  | d + 1, g, acc => inL p d (g + 1) (if e p g = true then acc ++ [[p, g]] else acc)
def outL : Nat → Int → List (List Int) → List (List Int)
  | 0, _, acc => acc
  | d + 1, p, acc => outL d (p + 1) (inL e p G 0 acc)
end
theorem inL_length (e : Int → Int → Bool) (p : Int) : ∀ (d : Nat) (g : Int) (acc : List (List Int)), (inL e p d g acc).length ≤ acc.length + d
  | 0, _, _ => Nat.le_refl _
  | d + 1, g, acc => by
    simp only [inL]
    have := inL_length e p d (g + 1) (if e p g = true then acc ++ [[p, g]] else acc)
    have h2 : (if e p g = true then acc ++ [[p, g]] else acc).length ≤ acc.length + 1 := by split <;> simp
    omega
theorem list_loops {f0 : Nat → List (List Int) → Int → Option (List (List Int))} {f1 : Nat → List (List Int) → Int → Int → Option (List (List Int))} (e : Int → Int → Bool) (P G : Int) (K : Nat)
    (h0 : ∀ k acc p, f0 (k + 1) acc p = if p ≤ P then f1 k acc p 0 else some acc)
    (h1 : ∀ k acc p g, K ≤ k → f1 (k + 1) acc p g = if g ≤ G then (if e p g = true then (if acc.length < 5864062014805 then f1 k (acc ++ [[p, g]]) p (wrap64 (g + 1)) else none) else f1 k acc p (wrap64 (g + 1))) else f0 k acc (wrap64 (p + 1)))
    (hP : P ≤ 64) (hG : -1 ≤ G) (hG2 : G ≤ 32) :
    ∀ (D : Nat) (p : Int) (acc : List (List Int)) (k : Nat), 0 ≤ p → p + D = P + 1 → K ≤ k → acc.length + D * 33 ≤ 10000 → f0 (k + D * ((G + 1).toNat + 2) + 1) acc p = some (outL e (G + 1).toNat D p acc) := by
  have L1 : ∀ (d : Nat) (g p : Int) (acc : List (List Int)) (k : Nat), 0 ≤ g → g + d = G + 1 → 0 ≤ p → p ≤ 64 → K ≤ k → acc.length + d ≤ 20000 → f1 (k + d + 1) acc p g = f0 k (inL e p d g acc) (p + 1) := by
    intro d
    induction d with
    | zero =>
      intro g p acc k hg hd hp hp2 hk _
      rw [Nat.add_zero, h1 k acc p g hk, if_neg (by omega), w64 (by omega) (by omega)]; rfl
    | succ d ih =>
      intro g p acc k hg hd hp hp2 hk hl
      rw [show k + (d + 1) + 1 = (k + d + 1) + 1 by omega, h1 (k + d + 1) acc p g (by omega), if_pos (by omega), w64 (n := g + 1) (by omega) (by omega)]
      simp only [inL]
      cases h : e p g with
      | true =>
        rw [if_pos rfl, if_pos rfl, if_pos (by omega)]
        exact ih (g + 1) p _ k (by omega) (by omega) hp hp2 hk (by simp; omega)
      | false =>
        rw [if_neg (by decide), if_neg (by decide)]
        exact ih (g + 1) p _ k (by omega) (by omega) hp hp2 hk (by omega)
  intro D
  induction D with
  | zero =>
    intro p acc k hp hd hk hl
    rw [Nat.zero_mul, Nat.add_zero, h0, if_neg (by omega)]; rfl
  | succ D ih =>
    intro p acc k hp hd hk hl
    have hn : ((G + 1).toNat : Int) = G + 1 := by omega
    rw [show k + (D + 1) * ((G + 1).toNat + 2) + 1 = ((k + D * ((G + 1).toNat + 2) + 1) + (G + 1).toNat + 1) + 1 by rw [Nat.add_mul]; omega, h0, if_pos (by omega),
      L1 (G + 1).toNat 0 p acc _ (by omega) (by omega) (by omega) (by omega) (by omega) (by omega)]
    simp only [outL]
    have := inL_length e p (G + 1).toNat 0 acc
    exact ih (p + 1) _ k (by omega) (by omega) hk (by omega)
def upL : Nat → Int → List Int
  | 0, _ => []
  | n + 1, c => c :: upL n (c + 1)
theorem upL_length : ∀ (n : Nat) (c : Int), (upL n c).length = n
  | 0, _ => rfl
  | n + 1, c => by simp [upL, upL_length n]
theorem upL_get : ∀ (n : Nat) (c : Int) (i : Nat), i < n → (upL n c)[i]? = some (c + i)
  | 0, _, i, h => by omega
  | n + 1, c, 0, _ => by simp [upL]
  | n + 1, c, i + 1, h => by
    simp only [upL, List.getElem?_cons_succ]
    rw [upL_get n (c + 1) i (by omega)]
    congr 1; omega
theorem mark_l0 (N : Nat) (c0 : Int) (h1 : 0 ≤ c0) (h2 : c0 ≤ 10000000) (hN : N ≤ 2000000) : ∀ (d : Nat) (l : List Int) (i : Int), 0 ≤ i → i + d = N → l.length = N → (∀ j : Nat, j < i.toNat → l[j]? = some (c0 + j)) → ∀ k, d < k → laws_markInt64S.l0 k l (c0 + i) i = some (c0 + N, upL N c0) := by
  intro d
  induction d with
  | zero =>
    intro l i h0 hi hl hp k hk
    obtain ⟨k, rfl⟩ : ∃ m, k = m + 1 := ⟨k - 1, by omega⟩
    simp only [laws_markInt64S.l0]
    rw [if_neg (by omega)]
    congr 1
    refine Prod.ext (by show c0 + i = c0 + N; omega) (List.ext_getElem? fun j => ?_)
    show l[j]? = (upL N c0)[j]?
    by_cases hj : j < N
    · rw [upL_get N c0 j hj]; exact hp j (by omega)
    · rw [List.getElem?_eq_none (by omega), List.getElem?_eq_none (by rw [upL_length]; omega)]
  | succ d ih =>
    intro l i h0 hi hl hp k hk
    obtain ⟨k, rfl⟩ : ∃ m, k = m + 1 := ⟨k - 1, by omega⟩
    simp only [laws_markInt64S.l0]
    rw [if_pos (by omega), if_pos h0, w64 (n := c0 + i + 1) (by omega) (by omega), w64 (n := i + 1) (by omega) (by omega), show c0 + i + 1 = c0 + (i + 1) by omega]
    refine ih _ (i + 1) (by omega) (by omega) (by simpa using hl) (fun j hj => ?_) k (by omega)
    by_cases e : j = i.toNat
    · subst e; rw [List.getElem?_set_self (by omega)]; congr 1; omega
    · rw [List.getElem?_set_ne (Ne.symm e)]; exact hp j (by omega)
theorem mark_ev (l : List Int) (c : Int) (h1 : 0 ≤ c) (h2 : c ≤ 10000000) (hN : l.length ≤ 2000000) : ∃ K, ∀ k, K ≤ k → laws_markInt64S.f k l c = some (c + l.length, upL l.length c) :=
  ⟨l.length + 1, fun k hk => by
    have := mark_l0 l.length c h1 h2 hN l.length l 0 (by omega) (by omega) rfl (fun j hj => by simp at hj) k (by omega)
    simpa [laws_markInt64S.f] using this⟩
theorem held_l0 (N : Nat) (c0 : Int) (h1 : 0 ≤ c0) (h2 : c0 ≤ 10000000) (hN : N ≤ 2000000) : ∀ (d : Nat) (i : Int), 0 ≤ i → i + d = N → ∀ k, d < k → laws_heldInt64S.l0 k (upL N c0) (c0 + i) i = some (c0 + N) := by
  intro d
  induction d with
  | zero =>
    intro i h0 hi k hk
    obtain ⟨k, rfl⟩ : ∃ m, k = m + 1 := ⟨k - 1, by omega⟩
    simp only [laws_heldInt64S.l0]
    rw [if_neg (by rw [upL_length]; omega)]
    congr 1; omega
  | succ d ih =>
    intro i h0 hi k hk
    obtain ⟨k, rfl⟩ : ∃ m, k = m + 1 := ⟨k - 1, by omega⟩
    simp only [laws_heldInt64S.l0]
    rw [if_pos (by rw [upL_length]; omega), if_pos h0, if_pos (by simp only [rd, List.getD_eq_getElem?_getD]; rw [upL_get N c0 i.toNat (by omega)]; simp; omega), w64 (n := c0 + i + 1) (by omega) (by omega), w64 (n := i + 1) (by omega) (by omega), show c0 + i + 1 = c0 + (i + 1) by omega]
    exact ih (i + 1) (by omega) (by omega) k (by omega)
theorem held_ev (N : Nat) (c : Int) (h1 : 0 ≤ c) (h2 : c ≤ 10000000) (hN : N ≤ 2000000) : ∃ K, ∀ k, K ≤ k → laws_heldInt64S.f k (upL N c) c = some (c + N) :=
  ⟨N + 1, fun k hk => by
    have := held_l0 N c h1 h2 hN N 0 (by omega) (by omega) k (by omega)
    simpa [laws_heldInt64S.f] using this⟩
theorem markTala_ev (a : ByteArray) (l m : List Int) (hl : l.length ≤ 1048576) (hm : m.length ≤ 1048576) : ∃ K, ∀ k, K ≤ k → laws_markTala.f k a l m 1 = some ((1 + l.length + m.length : Int), upL l.length 1, upL m.length (1 + l.length)) := by
  obtain ⟨K1, h1⟩ := mark_ev l 1 (by omega) (by omega) (by omega)
  obtain ⟨K2, h2⟩ := mark_ev m (1 + l.length) (by omega) (by omega) (by omega)
  exact ⟨K1 + K2, fun k hk => by simp only [laws_markTala.f]; rw [h1 k (by omega)]; simp only [Option.bind_some]; rw [h2 k (by omega)]; rfl⟩
theorem list_ev {a : ByteArray} {l m : List Int} {speed : Int} (h : talaB a l m = true) (hs : within_ speed 1 8 = true) (start : Int) {p g : Int} (hl : l.length ≤ maxLen) (hp : 1 ≤ p ∧ p ≤ 64) (hg : 0 ≤ g ∧ g ≤ 32) :
    (∃ K, ∀ k, K ≤ k → spec_l19List.f k [(⟨a, l, m⟩ : S29)] speed start p g = some (outL (fun p g => endsB l speed start (totalB p g)) (g + 1).toNat p.toNat 1 [])) ∧
    ∃ K, ∀ k, K ≤ k → impl_Tala_cadences.f k a l m speed start p g = some (outL (fun p g => endsB l speed start (totalB p g)) (g + 1).toNat p.toNat 1 []) := by
  obtain ⟨K1, h1⟩ := units_ev a l m speed hl
  obtain ⟨K2, h2⟩ := beats_ev a l m hl
  have hu := units_pos h hs
  have e1 : ∀ k, K1 ≤ k → ∀ t, spec_l19Ends.f k [(⟨a, l, m⟩ : S29)] speed start t = some (endsB l speed start t) := fun k hk t => by
    simp only [spec_l19Ends.f]; rw [h1 k hk]; simp only [Option.bind_some]; rw [if_neg (by omega)]; rfl
  have e2 : ∀ k, K2 ≤ k → ∀ t, impl_Tala_endsOnSam.f k a l m speed start t = some (endsB l speed start t) := fun k hk t => by
    have hu' := hu
    unfold unitsB at hu'
    simp only [impl_Tala_endsOnSam.f]; rw [h2 k hk]; simp only [Option.bind_some]; rw [if_neg (by omega)]; rfl
  constructor
  · refine ⟨K1 + p.toNat * ((g + 1).toNat + 2) + 1, fun k hk => ?_⟩
    have L := list_loops (f0 := fun k acc q => spec_l19List.l0 k [(⟨a, l, m⟩ : S29)] speed start p g acc q) (f1 := fun k acc q r => spec_l19List.l1 k [(⟨a, l, m⟩ : S29)] speed start p g acc q r)
      (fun p g => endsB l speed start (totalB p g)) p g K1 (fun k acc q => by simp only [spec_l19List.l0])
      (fun k acc q r hk => by simp only [spec_l19List.l1, l19Total_f, Option.bind_some, e1 k hk])
      hp.2 (by omega) hg.2 p.toNat 1 [] (k - (p.toNat * ((g + 1).toNat + 2) + 1)) (by omega) (by omega) (by omega) (by simp; omega)
    rw [show k - (p.toNat * ((g + 1).toNat + 2) + 1) + p.toNat * ((g + 1).toNat + 2) + 1 = k by omega] at L
    exact L
  · refine ⟨K2 + p.toNat * ((g + 1).toNat + 2) + 1, fun k hk => ?_⟩
    have L := list_loops (f0 := fun k acc q => impl_Tala_cadences.l0 k speed start p g acc q a l m) (f1 := fun k acc q r => impl_Tala_cadences.l1 k speed start p g acc q r a l m)
      (fun p g => endsB l speed start (totalB p g)) p g K2 (fun k acc q => by simp only [impl_Tala_cadences.l0])
      (fun k acc q r hk => by
        have := e2 k hk (totalB q r)
        unfold totalB at this ⊢
        simp only [impl_Tala_cadences.l1]
        rw [this]
        simp only [Option.bind_some])
      hp.2 (by omega) hg.2 p.toNat 1 [] (k - (p.toNat * ((g + 1).toNat + 2) + 1)) (by omega) (by omega) (by omega) (by simp; omega)
    rw [show k - (p.toNat * ((g + 1).toNat + 2) + 1) + p.toNat * ((g + 1).toNat + 2) + 1 = k by omega] at L
    exact L
end Go.Proofs.Ytepodajmfcjjkaa.Pure
