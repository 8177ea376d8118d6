/- Plain facts of the functions that the laws on talas and cadences share. -/
import Derived.Laws.Closers25b
import Derived.Test.YthimhjghepdccaaPNx4
import Derived.Test.YthimhjghepdccaaPNx7
import Derived.Test.YthimhjghepdccaaPNx8
namespace Go.Proofs.Ythimhjghepdccaa.Pure
open Go.RowKit Go.Proofs.Ythimhjghepdccaa.PN Go.Proofs.YthimhjghepdccaaW.PrintWords Go.Proofs.YthimhjghepdccaaW.PrintLast

theorem w64 {n : Int} (h0 : -9223372036854775808 ≤ n) (h1 : n ≤ 9223372036854775807) : wrap64 n = n := by unfold wrap64; omega
def allI (p : Int → Bool) : Nat → Int → Bool
  | 0, _ => true
  | d + 1, i => p i && allI p d (i + 1)
theorem allI_true {p : Int → Bool} : ∀ {d : Nat} {i : Int}, allI p d i = true ↔ ∀ j, i ≤ j → j < i + d → p j = true
  | 0, i => ⟨fun _ j h1 h2 => by omega, fun _ => rfl⟩
  | d + 1, i => by
    simp only [allI, Bool.and_eq_true, allI_true (d := d)]
    refine ⟨fun ⟨h1, h2⟩ j a b => ?_, fun h => ⟨h i (by omega) (by omega), fun j a b => h j (by omega) (by omega)⟩⟩
    by_cases e : j = i
    · rw [e]; exact h1
    · exact h2 j (by omega) (by omega)
theorem allI_congr {p q : Int → Bool} : ∀ {d : Nat} {i : Int}, (∀ j, i ≤ j → j < i + d → p j = q j) → allI p d i = allI q d i
  | 0, _, _ => rfl
  | d + 1, i, h => by
    simp only [allI]
    rw [h i (by omega) (by omega), allI_congr (fun j a b => h j (by omega) (by omega))]

/-! ### names -/
theorem l00In_f (n a b : Int) : spec_l00In.f n a b = some (within_ n a b) := by
  unfold spec_l00In.f within_
  by_cases h : n ≥ a
  · rw [if_pos h]; simp [show a ≤ n from h]
  · rw [if_neg h]; simp [show ¬ a ≤ n from h]
def okb (c : Int) : Bool := (decide (97 ≤ c) && decide (c ≤ 122)) || (decide (48 ≤ c) && decide (c ≤ 57))
theorem onlyName_l0 (s : ByteArray) (hs : s.size ≤ maxLen) : ∀ (d : Nat) (i : Int), 0 ≤ i → i + d = s.size → ∀ k, d < k → impl_onlyNameBytes.l0 k s (s.size : Int) i = some (allI (fun j => okb (bt s j)) d i) := by
  unfold maxLen at hs
  intro d
  induction d with
  | zero =>
    intro i h0 h1 k hk
    obtain ⟨k, rfl⟩ : ∃ m, k = m + 1 := ⟨k - 1, by omega⟩
    simp only [impl_onlyNameBytes.l0]
    rw [if_neg (by omega)]; rfl
  | succ d ih =>
    intro i h0 h1 k hk
    obtain ⟨k, rfl⟩ : ∃ m, k = m + 1 := ⟨k - 1, by omega⟩
    simp only [impl_onlyNameBytes.l0, allI]
    rw [if_pos (by omega), if_pos h0, if_pos (by omega), w64 (by omega) (by omega), ih (i + 1) (by omega) (by omega) k (by omega)]
    generalize bt s i = c
    generalize allI (fun j => okb (bt s j)) d (i + 1) = A
    unfold okb
    by_cases a : c < 97 <;> by_cases b : c < 48 <;> by_cases e : c > 57 <;> by_cases f : c > 122 <;> first | (exfalso; omega) | (simp [a, b, e, f] <;> (try (intros; omega)) <;> done) | (rw [show decide (97 ≤ c) = !decide (c < 97) from by simp, show decide (48 ≤ c) = !decide (c < 48) from by simp, show decide (c ≤ 122) = !decide (c > 122) from by simp, show decide (c ≤ 57) = !decide (c > 57) from by simp]; simp [a, b, e, f])
def nameB (s : ByteArray) : Bool :=
  if (s.size : Int) < 1 then false else if (s.size : Int) > 10 then false else if bt s 0 < 97 then false else if bt s 0 > 122 then false else allI (fun j => okb (bt s j)) s.size 0
theorem isName_ev (s : ByteArray) (hs : s.size ≤ maxLen) : ∃ K, ∀ k, K ≤ k → impl_IsName.f k s = some (nameB s) := by
  refine ⟨s.size + 1, fun k hk => ?_⟩
  simp only [impl_IsName.f, impl_onlyNameBytes.f]
  rw [onlyName_l0 s hs s.size 0 (by omega) (by omega) k (by omega)]
  unfold nameB
  by_cases h1 : (s.size : Int) < 1
  · rw [if_pos h1, if_pos h1]
  · rw [if_neg h1, if_neg h1]
    by_cases h2 : (s.size : Int) > 10
    · rw [if_pos h2, if_pos h2]
    · rw [if_neg h2, if_neg h2, if_pos (by omega)]
      by_cases h3 : bt s 0 < 97
      · rw [if_pos h3, if_pos h3]
      · rw [if_neg h3, if_neg h3]
        by_cases h4 : bt s 0 > 122
        · rw [if_pos h4, if_pos h4]
        · rw [if_neg h4, if_neg h4]; rfl
theorem l01Small_f (c : Int) : spec_l01Small.f c = some (decide (97 ≤ c) && decide (c ≤ 122)) := by
  unfold spec_l01Small.f
  by_cases h : c ≥ 97
  · rw [if_pos h]; simp [show 97 ≤ c from h]
  · rw [if_neg h]; simp [show ¬ 97 ≤ c from h]
theorem l01Digit_f (c : Int) : spec_l01Digit.f c = some (decide (48 ≤ c) && decide (c ≤ 57)) := by
  unfold spec_l01Digit.f
  by_cases h : c ≥ 48
  · rw [if_pos h]; simp [show 48 ≤ c from h]
  · rw [if_neg h]; simp [show ¬ 48 ≤ c from h]
theorem l01Name_l0 (s : ByteArray) (hs : s.size ≤ maxLen) : ∀ (d : Nat) (i : Int), 0 ≤ i → i + d = s.size → ∀ k, d < k → spec_l01Name.l0 k s i = some (allI (fun j => okb (bt s j)) d i) := by
  unfold maxLen at hs
  intro d
  induction d with
  | zero =>
    intro i h0 h1 k hk
    obtain ⟨k, rfl⟩ : ∃ m, k = m + 1 := ⟨k - 1, by omega⟩
    simp only [spec_l01Name.l0]
    rw [if_neg (by omega)]; rfl
  | succ d ih =>
    intro i h0 h1 k hk
    obtain ⟨k, rfl⟩ : ∃ m, k = m + 1 := ⟨k - 1, by omega⟩
    simp only [spec_l01Name.l0, allI, l01Small_f, l01Digit_f, Option.bind_some]
    rw [if_pos (by omega), if_pos h0, w64 (by omega) (by omega), ih (i + 1) (by omega) (by omega) k (by omega)]
    generalize bt s i = c
    unfold okb
    cases (decide (97 ≤ c) && decide (c ≤ 122)) <;> cases (decide (48 ≤ c) && decide (c ≤ 57)) <;> simp
theorem l01Name_ev (s : ByteArray) (hs : s.size ≤ maxLen) : ∃ K, ∀ k, K ≤ k → spec_l01Name.f k s = some (nameB s) := by
  refine ⟨s.size + 2, fun k hk => ?_⟩
  obtain ⟨k, rfl⟩ : ∃ m, k = m + 1 := ⟨k - 1, by omega⟩
  have h0 := l01Name_l0 s hs s.size 0 (by omega) (by omega) k (by omega)
  unfold nameB
  by_cases h1 : (s.size : Int) < 1
  · have e : s.toList = [] := (toList_nil_iff_emptyBytes s).2 (by
      have h : s.size = 0 := by omega
      cases s with | mk d => have hd : d.size = 0 := h; cases d with | mk l => have : l = [] := List.eq_nil_of_length_eq_zero hd; subst this; rfl)
    simp only [spec_l01Name.f, spec_l01Name.j0]
    rw [if_pos e, if_pos h1]; rfl
  · have e : ¬ s.toList = [] := fun e => h1 (by rw [(toList_nil_iff_emptyBytes s).1 e]; decide)
    simp only [spec_l01Name.f, spec_l01Name.j0, l01Small_f, Option.bind_some]
    rw [if_neg e, if_neg h1]
    by_cases h2 : (s.size : Int) > 10
    · rw [if_pos h2, if_pos h2]; rfl
    · rw [if_neg h2, if_neg h2, if_pos (by omega), h0]
      by_cases h3 : bt s 0 < 97
      · rw [if_pos h3]; simp [show ¬ 97 ≤ bt s 0 by omega]
      · rw [if_neg h3]
        by_cases h4 : bt s 0 > 122
        · rw [if_pos h4]; simp [show ¬ bt s 0 ≤ 122 by omega]
        · rw [if_neg h4]; simp [show 97 ≤ bt s 0 by omega, show bt s 0 ≤ 122 by omega]

/-! ### sums -/
def sumW (l : List Int) : Nat → Int → Int → Int
  | 0, _, a => a
  | d + 1, i, a => sumW l d (i + 1) (wrap64 (a + rd l i))
theorem sumOf_l0 (l : List Int) (hl : l.length ≤ maxLen) : ∀ (d : Nat) (i a : Int), 0 ≤ i → i + d = l.length → ∀ k, d < k → impl_sumOf.l0 k a l (l.length : Int) i = some (sumW l d i a) := by
  unfold maxLen at hl
  intro d
  induction d with
  | zero =>
    intro i a h0 h1 k hk
    obtain ⟨k, rfl⟩ : ∃ m, k = m + 1 := ⟨k - 1, by omega⟩
    simp only [impl_sumOf.l0]
    rw [if_neg (by omega)]; rfl
  | succ d ih =>
    intro i a h0 h1 k hk
    obtain ⟨k, rfl⟩ : ∃ m, k = m + 1 := ⟨k - 1, by omega⟩
    simp only [impl_sumOf.l0, sumW]
    rw [if_pos (by omega), if_pos h0, if_pos (by omega), w64 (n := i + 1) (by omega) (by omega), ih (i + 1) _ (by omega) (by omega) k (by omega)]
theorem l17Sum_l0 (l : List Int) (hl : l.length ≤ maxLen) : ∀ (d : Nat) (i a : Int), 0 ≤ i → i + d = l.length → ∀ k, d < k → spec_l17Sum.l0 k l a i = some (sumW l d i a) := by
  unfold maxLen at hl
  intro d
  induction d with
  | zero =>
    intro i a h0 h1 k hk
    obtain ⟨k, rfl⟩ : ∃ m, k = m + 1 := ⟨k - 1, by omega⟩
    simp only [spec_l17Sum.l0]
    rw [if_neg (by omega)]; rfl
  | succ d ih =>
    intro i a h0 h1 k hk
    obtain ⟨k, rfl⟩ : ∃ m, k = m + 1 := ⟨k - 1, by omega⟩
    simp only [spec_l17Sum.l0, sumW]
    rw [if_pos (by omega), if_pos h0, w64 (n := i + 1) (by omega) (by omega), ih (i + 1) _ (by omega) (by omega) k (by omega)]
def sumB (l : List Int) : Int := sumW l l.length 0 0
theorem sumOf_ev (l : List Int) (hl : l.length ≤ maxLen) : ∃ K, ∀ k, K ≤ k → impl_sumOf.f k l = some (sumB l) := ⟨l.length + 1, fun k hk => sumOf_l0 l hl l.length 0 0 (by omega) (by omega) k (by omega)⟩
theorem l17Sum_ev (l : List Int) (hl : l.length ≤ maxLen) : ∃ K, ∀ k, K ≤ k → spec_l17Sum.f k l = some (sumB l) := ⟨l.length + 1, fun k hk => l17Sum_l0 l hl l.length 0 0 (by omega) (by omega) k (by omega)⟩
theorem beats_ev (a : ByteArray) (l m : List Int) (hl : l.length ≤ maxLen) : ∃ K, ∀ k, K ≤ k → impl_Tala_beats.f k a l m = some (sumB l) := by
  obtain ⟨K, h⟩ := sumOf_ev l hl
  exact ⟨K, fun k hk => by simp only [impl_Tala_beats.f]; rw [h k hk]; rfl⟩
theorem l17Beats_ev (a : ByteArray) (l m : List Int) (hl : l.length ≤ maxLen) : ∃ K, ∀ k, K ≤ k → spec_l17Beats.f k [(⟨a, l, m⟩ : S27)] = some (sumB l) := by
  obtain ⟨K, h⟩ := l17Sum_ev l hl
  exact ⟨K, fun k hk => by simp only [spec_l17Beats.f]; rw [show (rd_T27 [(⟨a, l, m⟩ : S27)] 0).f1 = l from rfl, h k hk]; rfl⟩
theorem sumW_bounds (l : List Int) (lo hi : Int) : ∀ (d : Nat) (i a : Int), (∀ j, i ≤ j → j < i + d → lo ≤ rd l j ∧ rd l j ≤ hi) → 0 ≤ lo → 0 ≤ a → a + d * hi ≤ 9223372036854775807 → a + d * lo ≤ sumW l d i a ∧ sumW l d i a ≤ a + d * hi
  | 0, i, a, _, _, _, _ => by simp [sumW]
  | d + 1, i, a, h, hlo, ha, hm => by
    have h0 := h i (by omega) (by omega)
    have hhi : 0 ≤ hi := by omega
    have e : ((d + 1 : Nat) : Int) * hi = d * hi + hi := by rw [Int.natCast_add]; simp [Int.add_mul]
    have e2 : ((d + 1 : Nat) : Int) * lo = d * lo + lo := by rw [Int.natCast_add]; simp [Int.add_mul]
    have hd : 0 ≤ (d : Int) * hi := Int.mul_nonneg (by omega) hhi
    simp only [sumW]
    rw [w64 (n := a + rd l i) (by omega) (by omega)]
    have := sumW_bounds l lo hi d (i + 1) (a + rd l i) (fun j x y => h j (by omega) (by omega)) hlo (by omega) (by omega)
    omega

/-! ### talas -/
theorem all_allI (p : Int → Bool) (l : List Int) : l.all p = allI (fun i => p (rd l i)) l.length 0 := by
  rw [Bool.eq_iff_iff, List.all_eq_true, allI_true]
  constructor
  · intro h j h0 h1
    refine h _ ?_
    rw [show rd l j = l[j.toNat]'(by omega) from by simp [rd, List.getD_eq_getElem?_getD, List.getElem?_eq_getElem (show j.toNat < l.length by omega)]]
    exact List.getElem_mem _
  · intro h x hx
    obtain ⟨n, hn, rfl⟩ := List.getElem_of_mem hx
    have := h n (by omega) (by omega)
    rwa [show rd l n = l[n] from by simp [rd, List.getD_eq_getElem?_getD, List.getElem?_eq_getElem hn]] at this
def talaB (a : ByteArray) (l m : List Int) : Bool :=
  nameB a && within_ l.length 1 8 && decide ((m.length : Int) = l.length) && l.all (fun n => within_ n 1 16) && decide (rd m 0 = 1) && (m.drop 1).all (fun n => within_ n 2 3) && decide (sumB l ≤ 32)
theorem validTala_ev (a : ByteArray) (l m : List Int) (ha : a.size ≤ maxLen) (hl : l.length ≤ maxLen) : ∃ K, ∀ k, K ≤ k → impl_ValidTala.f k a l m = some (talaB a l m) := by
  obtain ⟨K1, h1⟩ := isName_ev a ha
  obtain ⟨K2, h2⟩ := beats_ev a l m hl
  refine ⟨K1 + K2, fun k hk => ?_⟩
  simp only [impl_ValidTala.f, impl_allWithin.f]
  rw [h1 k (by omega), h2 k (by omega)]
  simp only [Option.bind_some]
  unfold talaB within_
  cases nameB a with
  | false => simp
  | true =>
    by_cases e1 : (l.length : Int) < 1
    · simp [e1, show ¬ (1 : Int) ≤ l.length by omega]
    · by_cases e2 : (l.length : Int) > 8
      · simp [e1, e2, show ¬ (l.length : Int) ≤ 8 by omega]
      · simp only [if_true, if_neg e1, if_neg e2]
        rw [show decide ((1 : Int) ≤ (l.length : Int)) = true from decide_eq_true (by omega), show decide ((l.length : Int) ≤ 8) = true from decide_eq_true (by omega)]
        simp only [Bool.true_and, Bool.and_true]
        cases (l.all fun n => decide (1 ≤ n) && decide (n ≤ 16)) with
        | false => simp
        | true =>
          simp only [if_true, Bool.and_true]
          by_cases e3 : sumB l > 32
          · rw [if_pos e3]; simp [show ¬ sumB l ≤ 32 by omega]
          · rw [if_neg e3]
            by_cases e4 : (m.length : Int) = l.length
            · rw [if_pos e4, if_pos (by omega)]
              by_cases e5 : rd m 0 = 1
              · rw [if_pos e5, if_pos (by omega)]; simp [e4, e5, show sumB l ≤ 32 by omega]
              · rw [if_neg e5]; simp [e5]
            · rw [if_neg e4]; simp [e4]
def markB (m : List Int) (i : Int) : Bool := if i = 0 then decide (rd m i = 1) else within_ (rd m i) 2 3
theorem l17Ok_l0 (a : ByteArray) (l m : List Int) (hl : l.length ≤ maxLen) (hm : m.length = l.length) (K : Nat) (hK : ∀ k, K ≤ k → spec_l17Sum.f k l = some (sumB l)) :
    ∀ (d : Nat) (i : Int), 0 ≤ i → i + d = l.length → ∀ k, K + d < k → spec_l17Ok.l0 k [(⟨a, l, m⟩ : S27)] (l.length : Int) i = some (allI (fun j => within_ (rd l j) 1 16 && markB m j) d i && decide (sumB l ≤ 32)) := by
  unfold maxLen at hl
  intro d
  induction d with
  | zero =>
    intro i h0 h1 k hk
    obtain ⟨k, rfl⟩ : ∃ m, k = m + 1 := ⟨k - 1, by omega⟩
    simp only [spec_l17Ok.l0]
    rw [if_neg (by omega), show (rd_T27 [(⟨a, l, m⟩ : S27)] 0).f1 = l from rfl, hK k (by omega)]
    simp [allI]
  | succ d ih =>
    intro i h0 h1 k hk
    obtain ⟨k, rfl⟩ : ∃ m, k = m + 1 := ⟨k - 1, by omega⟩
    simp only [spec_l17Ok.l0, allI, show (rd_T27 [(⟨a, l, m⟩ : S27)] 0).f1 = l from rfl, show (rd_T27 [(⟨a, l, m⟩ : S27)] 0).f2 = m from rfl, l00In_f, Option.bind_some]
    rw [if_pos (by omega), if_pos h0, if_pos (by omega), w64 (n := i + 1) (by omega) (by omega), ih (i + 1) (by omega) (by omega) k (by omega)]
    rw [Bool.and_assoc]
    generalize (allI (fun j => within_ (rd l j) 1 16 && markB m j) d (i + 1) && decide (sumB l ≤ 32)) = A
    cases within_ (rd l i) 1 16 with
    | false => simp
    | true =>
      unfold markB
      by_cases e : i = 0
      · subst e
        simp only [if_true]
        rw [if_pos (by omega)]
        by_cases e2 : rd m 0 = 1
        · rw [if_pos e2, if_neg (by omega)]; simp [e2]
        · rw [if_neg e2]; simp [e2]
      · simp only [if_true, if_neg e]
        rw [if_pos (by omega), if_pos (by omega)]
        cases within_ (rd m i) 2 3 <;> simp
theorem marks_allI (m : List Int) (h : 0 < m.length) : (decide (rd m 0 = 1) && (m.drop 1).all (fun n => within_ n 2 3)) = allI (markB m) m.length 0 := by
  rw [Bool.eq_iff_iff, Bool.and_eq_true, all_allI, allI_true, allI_true, decide_eq_true_eq, List.length_drop]
  have hr : ∀ j : Int, 0 ≤ j → rd (m.drop 1) j = rd m (j + 1) := fun j hj => by
    simp only [rd, List.getD_eq_getElem?_getD, List.getElem?_drop]
    congr 3; omega
  constructor
  · rintro ⟨h1, h2⟩ j a b
    unfold markB
    by_cases e : j = 0
    · subst e; simp [h1]
    · rw [if_neg e]
      have := h2 (j - 1) (by omega) (by omega)
      rwa [hr _ (by omega), show j - 1 + 1 = j by omega] at this
  · intro h1
    refine ⟨by simpa [markB] using h1 0 (by omega) (by omega), fun j a b => ?_⟩
    have := h1 (j + 1) (by omega) (by omega)
    unfold markB at this
    rw [if_neg (by omega)] at this
    rwa [hr _ a]
theorem allI_and (p q : Int → Bool) : ∀ (d : Nat) (i : Int), allI (fun j => p j && q j) d i = (allI p d i && allI q d i)
  | 0, _ => rfl
  | d + 1, i => by simp only [allI, allI_and p q d]; cases p i <;> cases q i <;> simp
theorem l17Ok_ev (a : ByteArray) (l m : List Int) (ha : a.size ≤ maxLen) (hl : l.length ≤ maxLen) : ∃ K, ∀ k, K ≤ k → spec_l17Ok.f k [(⟨a, l, m⟩ : S27)] = some (talaB a l m) := by
  obtain ⟨K1, h1⟩ := l01Name_ev a ha
  obtain ⟨K2, h2⟩ := l17Sum_ev l hl
  refine ⟨K1 + K2 + l.length + 3, fun k hk => ?_⟩
  obtain ⟨k, rfl⟩ : ∃ m, k = m + 1 := ⟨k - 1, by omega⟩
  simp only [spec_l17Ok.f, show (rd_T27 [(⟨a, l, m⟩ : S27)] 0).f0 = a from rfl, show (rd_T27 [(⟨a, l, m⟩ : S27)] 0).f1 = l from rfl, show (rd_T27 [(⟨a, l, m⟩ : S27)] 0).f2 = m from rfl, l00In_f, spec_l17Ok.j0]
  rw [h1 (k + 1) (by omega)]
  simp only [Option.bind_some]
  unfold talaB
  cases nameB a with
  | false => simp
  | true =>
    cases hw : within_ (l.length : Int) 1 8 with
    | false => simp
    | true =>
      have hb : 1 ≤ (l.length : Int) := by unfold within_ at hw; simp at hw; omega
      by_cases e : (m.length : Int) = l.length
      · rw [l17Ok_l0 a l m hl (by omega) K2 h2 l.length 0 (by omega) (by omega) k (by omega), allI_and, ← all_allI (fun n => within_ n 1 16) l, show l.length = m.length by omega, ← marks_allI m (by omega)]
        simp [e, Bool.and_assoc]
      · simp [e]
theorem talaB_beats {a : ByteArray} {l m : List Int} (h : talaB a l m = true) : 1 ≤ sumB l ∧ sumB l ≤ 32 := by
  unfold talaB at h
  simp only [Bool.and_eq_true, decide_eq_true_eq] at h
  obtain ⟨⟨⟨⟨⟨⟨_, h1⟩, _⟩, h2⟩, _⟩, _⟩, h3⟩ := h
  unfold within_ at h1
  simp only [Bool.and_eq_true, decide_eq_true_eq] at h1
  rw [all_allI, allI_true] at h2
  have := (sumW_bounds l 1 16 l.length 0 0 (fun j x y => by have := h2 j x y; simpa [within_] using this) (by omega) (by omega) (by omega)).1
  unfold sumB at h3 ⊢
  exact ⟨by omega, h3⟩

/-! ### cycles -/
def unitsB (l : List Int) (speed : Int) : Int := wrap64 (sumB l * speed)
theorem units_ev (a : ByteArray) (l m : List Int) (speed : Int) (hl : l.length ≤ maxLen) : ∃ K, ∀ k, K ≤ k → spec_l19Units.f k [(⟨a, l, m⟩ : S27)] speed = some (unitsB l speed) := by
  obtain ⟨K, h⟩ := l17Beats_ev a l m hl
  exact ⟨K, fun k hk => by simp only [spec_l19Units.f]; rw [h k hk]; rfl⟩
/-- The code of a tala, a speed and a start. -/
def startB (a : ByteArray) (l m : List Int) (speed start : Int) : Int :=
  if talaB a l m = true then (if within_ speed 1 8 = true then (if within_ start 0 (wrap64 (unitsB l speed - 1)) = true then 0 else 2) else 2) else 1
theorem l19Ask_ev (a : ByteArray) (l m : List Int) (speed : Int) (ha : a.size ≤ maxLen) (hl : l.length ≤ maxLen) : ∃ K, ∀ k, K ≤ k → spec_l19Ask.f k [(⟨a, l, m⟩ : S27)] speed = some (if talaB a l m = true then (if within_ speed 1 8 = true then 0 else 2) else 1) := by
  obtain ⟨K1, h1⟩ := l17Ok_ev a l m ha hl
  refine ⟨K1, fun k hk => ?_⟩
  simp only [spec_l19Ask.f]
  rw [h1 k hk]
  simp only [Option.bind_some, l00In_f]
  cases talaB a l m <;> cases within_ speed 1 8 <;> simp
theorem l19Start_ev (a : ByteArray) (l m : List Int) (speed start : Int) (ha : a.size ≤ maxLen) (hl : l.length ≤ maxLen) : ∃ K, ∀ k, K ≤ k → spec_l19Start.f k [(⟨a, l, m⟩ : S27)] speed start = some (startB a l m speed start) := by
  obtain ⟨K1, h1⟩ := l19Ask_ev a l m speed ha hl
  obtain ⟨K2, h2⟩ := units_ev a l m speed hl
  refine ⟨K1 + K2, fun k hk => ?_⟩
  simp only [spec_l19Start.f]
  rw [h1 k (by omega), h2 k (by omega)]
  simp only [Option.bind_some, l00In_f]
  unfold startB
  cases talaB a l m <;> cases within_ speed 1 8 <;> cases within_ start 0 (wrap64 (unitsB l speed - 1)) <;> simp
def codeB (a : ByteArray) (l m : List Int) (speed start phrase gap between : Int) : Int :=
  if talaB a l m = true then (if (within_ speed 1 8 && within_ start 0 (wrap64 (unitsB l speed - 1)) && within_ phrase 1 64 && within_ gap 0 32 && within_ between 0 64) = true then 0 else 2) else 1
theorem cadenceCode_ev (a : ByteArray) (l m : List Int) (speed start phrase gap between : Int) (ha : a.size ≤ maxLen) (hl : l.length ≤ maxLen) : ∃ K, ∀ k, K ≤ k → impl_cadenceCode.f k a l m speed start phrase gap between = some (codeB a l m speed start phrase gap between) := by
  obtain ⟨K1, h1⟩ := validTala_ev a l m ha hl
  obtain ⟨K2, h2⟩ := beats_ev a l m hl
  refine ⟨K1 + K2, fun k hk => ?_⟩
  simp only [impl_cadenceCode.f]
  rw [h1 k (by omega), h2 k (by omega)]
  simp only [Option.bind_some, within_f]
  unfold codeB unitsB
  cases talaB a l m <;> cases within_ speed 1 8 <;> cases within_ start 0 (wrap64 (wrap64 (sumB l * speed) - 1)) <;> cases within_ phrase 1 64 <;> cases within_ gap 0 32 <;> cases within_ between 0 64 <;> simp
theorem units_pos {a : ByteArray} {l m : List Int} {speed : Int} (h : talaB a l m = true) (hs : within_ speed 1 8 = true) : 1 ≤ unitsB l speed ∧ unitsB l speed ≤ 256 := by
  have hb := talaB_beats h
  unfold within_ at hs
  simp only [Bool.and_eq_true, decide_eq_true_eq] at hs
  unfold unitsB
  have e1 : 1 * 1 ≤ sumB l * speed := Int.mul_le_mul hb.1 hs.1 (by omega) (by omega)
  have e2 : sumB l * speed ≤ 32 * 8 := Int.mul_le_mul hb.2 hs.2 (by omega) (by omega)
  rw [w64 (by omega) (by omega)]
  omega
def endsB (l : List Int) (speed start total : Int) : Bool := Int.tmod (wrap64 (wrap64 (start + total) - 1)) (unitsB l speed) == 0
theorem l19Ends_ev {a : ByteArray} {l m : List Int} {speed : Int} (start total : Int) (hl : l.length ≤ maxLen) (h : talaB a l m = true) (hs : within_ speed 1 8 = true) : ∃ K, ∀ k, K ≤ k → spec_l19Ends.f k [(⟨a, l, m⟩ : S27)] speed start total = some (endsB l speed start total) := by
  obtain ⟨K, hK⟩ := units_ev a l m speed hl
  have hp := units_pos h hs
  exact ⟨K, fun k hk => by simp only [spec_l19Ends.f]; rw [hK k hk]; simp only [Option.bind_some]; rw [if_neg (by omega)]; rfl⟩
theorem endsOnSam_ev {a : ByteArray} {l m : List Int} {speed : Int} (start total : Int) (hl : l.length ≤ maxLen) (h : talaB a l m = true) (hs : within_ speed 1 8 = true) : ∃ K, ∀ k, K ≤ k → impl_Tala_endsOnSam.f k a l m speed start total = some (endsB l speed start total) := by
  obtain ⟨K, hK⟩ := beats_ev a l m hl
  have hp := units_pos h hs
  unfold unitsB at hp
  exact ⟨K, fun k hk => by simp only [impl_Tala_endsOnSam.f]; rw [hK k hk]; simp only [Option.bind_some]; rw [if_neg (by omega)]; rfl⟩
end Go.Proofs.Ythimhjghepdccaa.Pure
