/- Plain facts: valid syllables, as the program and the reference say it. -/
import Derived.Test.YtdaggmnmifnabaaPXx1
import Derived.Test.YtdaggmnmifnabaaPXx2
import Derived.Test.YtdaggmnmifnabaaPXx3
import Derived.Test.YtdaggmnmifnabaaPXx5
import Derived.Test.YtdaggmnmifnabaaPXx6
import Derived.Test.YtdaggmnmifnabaaPXx7
import Derived.Test.YtdaggmnmifnabaaPXx8
import Derived.Test.YtdaggmnmifnabaaPXx11
namespace Go.Proofs.Ytdaggmnmifnabaa.Pure
open Go.RowKit Go.Proofs.Ytdaggmnmifnabaa.PX Go.Proofs.YtdaggmnmifnabaaW.PrintWords Go.Proofs.YtdaggmnmifnabaaW.PrintLast
set_option linter.unusedSimpArgs false
set_option linter.unusedVariables false
theorem w64 {n : Int} (h0 : -9223372036854775808 ≤ n) (h1 : n ≤ 9223372036854775807) : wrap64 n = n := by unfold wrap64; omega
def allI (p : Int → Bool) : Nat → Int → Bool
  | 0, _ => true
  | d + 1, i => p i && allI p d (i + 1)
theorem allI_true {p : Int → Bool} : ∀ {d : Nat} {i : Int}, allI p d i = true ↔ ∀ j, i ≤ j → j < i + d → p j = true
  | 0, i => ⟨fun _ j h1 h2 => by omega, fun _ => rfl⟩
  | d + 1, i => by
    simp only [allI, Bool.and_eq_true, allI_true (d := d)]
    refine ⟨fun ⟨h1, h2⟩ j a b => ?_, fun h => ⟨h i (by omega) (by omega), fun j a b => h j (by omega) (by omega)⟩⟩
    by_cases e : j = i
    · rw [e]; exact h1
    · exact h2 j (by omega) (by omega)
theorem allI_congr {p q : Int → Bool} : ∀ {d : Nat} {i : Int}, (∀ j, i ≤ j → j < i + d → p j = q j) → allI p d i = allI q d i
  | 0, _, _ => rfl
  | d + 1, i, h => by
    simp only [allI]
    rw [h i (by omega) (by omega), allI_congr (fun j a b => h j (by omega) (by omega))]

/-! ### names -/
theorem l00In_f (n a b : Int) : spec_l00In.f n a b = some (within_ n a b) := by
  unfold spec_l00In.f within_
  by_cases h : n ≥ a
  · rw [if_pos h]; simp [show a ≤ n from h]
  · rw [if_neg h]; simp [show ¬ a ≤ n from h]
def okb (c : Int) : Bool := (decide (97 ≤ c) && decide (c ≤ 122)) || (decide (48 ≤ c) && decide (c ≤ 57))
theorem onlyName_l0 (s : ByteArray) (hs : s.size ≤ maxLen) : ∀ (d : Nat) (i : Int), 0 ≤ i → i + d = s.size → ∀ k, d < k → impl_onlyNameBytes.l0 k s (s.size : Int) i = some (allI (fun j => okb (bt s j)) d i) := by
  unfold maxLen at hs
  intro d
  induction d with
  | zero =>
    intro i h0 h1 k hk
    obtain ⟨k, rfl⟩ : ∃ m, k = m + 1 := ⟨k - 1, by omega⟩
    simp only [impl_onlyNameBytes.l0]
    rw [if_neg (by omega)]; rfl
  | succ d ih =>
    intro i h0 h1 k hk
    obtain ⟨k, rfl⟩ : ∃ m, k = m + 1 := ⟨k - 1, by omega⟩
    simp only [impl_onlyNameBytes.l0, allI]
    rw [if_pos (by omega), if_pos h0, if_pos (by omega), w64 (by omega) (by omega), ih (i + 1) (by omega) (by omega) k (by omega)]
    generalize bt s i = c
    generalize allI (fun j => okb (bt s j)) d (i + 1) = A
    unfold okb
    by_cases a : c < 97 <;> by_cases b : c < 48 <;> by_cases e : c > 57 <;> by_cases f : c > 122 <;> first | (exfalso; omega) | (simp [a, b, e, f] <;> (try (intros; omega)) <;> done) | (rw [show decide (97 ≤ c) = !decide (c < 97) from by simp, show decide (48 ≤ c) = !decide (c < 48) from by simp, show decide (c ≤ 122) = !decide (c > 122) from by simp, show decide (c ≤ 57) = !decide (c > 57) from by simp]; simp [a, b, e, f])
def nameB (s : ByteArray) : Bool :=
  if (s.size : Int) < 1 then false else if (s.size : Int) > 10 then false else if bt s 0 < 97 then false else if bt s 0 > 122 then false else allI (fun j => okb (bt s j)) s.size 0
theorem isName_ev (s : ByteArray) (hs : s.size ≤ maxLen) : ∃ K, ∀ k, K ≤ k → impl_IsName.f k s = some (nameB s) := by
  refine ⟨s.size + 1, fun k hk => ?_⟩
  simp only [impl_IsName.f, impl_onlyNameBytes.f]
  rw [onlyName_l0 s hs s.size 0 (by omega) (by omega) k (by omega)]
  unfold nameB
  by_cases h1 : (s.size : Int) < 1
  · rw [if_pos h1, if_pos h1]
  · rw [if_neg h1, if_neg h1]
    by_cases h2 : (s.size : Int) > 10
    · rw [if_pos h2, if_pos h2]
    · rw [if_neg h2, if_neg h2, if_pos (by omega)]
      by_cases h3 : bt s 0 < 97
      · rw [if_pos h3, if_pos h3]
      · rw [if_neg h3, if_neg h3]
        by_cases h4 : bt s 0 > 122
        · rw [if_pos h4, if_pos h4]
        · rw [if_neg h4, if_neg h4]; rfl
theorem l01Small_f (c : Int) : spec_l01Small.f c = some (decide (97 ≤ c) && decide (c ≤ 122)) := by
  unfold spec_l01Small.f
  by_cases h : c ≥ 97
  · rw [if_pos h]; simp [show 97 ≤ c from h]
  · rw [if_neg h]; simp [show ¬ 97 ≤ c from h]
theorem l01Digit_f (c : Int) : spec_l01Digit.f c = some (decide (48 ≤ c) && decide (c ≤ 57)) := by
  unfold spec_l01Digit.f
  by_cases h : c ≥ 48
  · rw [if_pos h]; simp [show 48 ≤ c from h]
  · rw [if_neg h]; simp [show ¬ 48 ≤ c from h]
theorem l01Name_l0 (s : ByteArray) (hs : s.size ≤ maxLen) : ∀ (d : Nat) (i : Int), 0 ≤ i → i + d = s.size → ∀ k, d < k → spec_l01Name.l0 k s i = some (allI (fun j => okb (bt s j)) d i) := by
  unfold maxLen at hs
  intro d
  induction d with
  | zero =>
    intro i h0 h1 k hk
    obtain ⟨k, rfl⟩ : ∃ m, k = m + 1 := ⟨k - 1, by omega⟩
    simp only [spec_l01Name.l0]
    rw [if_neg (by omega)]; rfl
  | succ d ih =>
    intro i h0 h1 k hk
    obtain ⟨k, rfl⟩ : ∃ m, k = m + 1 := ⟨k - 1, by omega⟩
    simp only [spec_l01Name.l0, allI, l01Small_f, l01Digit_f, Option.bind_some]
    rw [if_pos (by omega), if_pos h0, w64 (by omega) (by omega), ih (i + 1) (by omega) (by omega) k (by omega)]
    generalize bt s i = c
    unfold okb
    cases (decide (97 ≤ c) && decide (c ≤ 122)) <;> cases (decide (48 ≤ c) && decide (c ≤ 57)) <;> simp
theorem l01Name_ev (s : ByteArray) (hs : s.size ≤ maxLen) : ∃ K, ∀ k, K ≤ k → spec_l01Name.f k s = some (nameB s) := by
  refine ⟨s.size + 2, fun k hk => ?_⟩
  obtain ⟨k, rfl⟩ : ∃ m, k = m + 1 := ⟨k - 1, by omega⟩
  have h0 := l01Name_l0 s hs s.size 0 (by omega) (by omega) k (by omega)
  unfold nameB
  by_cases h1 : (s.size : Int) < 1
  · have e : s.toList = [] := (toList_nil_iff_emptyBytes s).2 (by
      have h : s.size = 0 := by omega
      cases s with | mk d => have hd : d.size = 0 := h; cases d with | mk l => have : l = [] := List.eq_nil_of_length_eq_zero hd; subst this; rfl)
    simp only [spec_l01Name.f, spec_l01Name.j0]
    rw [if_pos e, if_pos h1]; rfl
  · have e : ¬ s.toList = [] := fun e => h1 (by rw [(toList_nil_iff_emptyBytes s).1 e]; decide)
    simp only [spec_l01Name.f, spec_l01Name.j0, l01Small_f, Option.bind_some]
    rw [if_neg e, if_neg h1]
    by_cases h2 : (s.size : Int) > 10
    · rw [if_pos h2, if_pos h2]; rfl
    · rw [if_neg h2, if_neg h2, if_pos (by omega), h0]
      by_cases h3 : bt s 0 < 97
      · rw [if_pos h3]; simp [show ¬ 97 ≤ bt s 0 by omega]
      · rw [if_neg h3]
        by_cases h4 : bt s 0 > 122
        · rw [if_pos h4]; simp [show ¬ bt s 0 ≤ 122 by omega]
        · rw [if_neg h4]; simp [show 97 ≤ bt s 0 by omega, show bt s 0 ≤ 122 by omega]


theorem ev_list {α : Type} {P : Nat → α → Prop} : ∀ l : List α, (∀ x ∈ l, ∃ K, ∀ k, K ≤ k → P k x) → ∃ K, ∀ k, K ≤ k → ∀ x ∈ l, P k x
  | [], _ => ⟨0, fun _ _ _ h => by cases h⟩
  | x :: xs, h => by
    obtain ⟨K1, h1⟩ := h x List.mem_cons_self
    obtain ⟨K2, h2⟩ := ev_list xs (fun y hy => h y (List.mem_cons_of_mem _ hy))
    refine ⟨K1 + K2, fun k hk y hy => ?_⟩
    rcases List.mem_cons.1 hy with rfl | hy
    · exact h1 k (by omega)
    · exact h2 k (by omega) y hy
theorem rd38_mem {l : List S38} {i : Int} (h0 : 0 ≤ i) (h1 : i < l.length) : rd_T38 l i ∈ l := by
  unfold rd_T38
  rw [List.getD_eq_getElem?_getD, List.getElem?_eq_getElem (show i.toNat < l.length by omega)]
  exact List.getElem_mem _
theorem rd35_mem {l : List S35} {i : Int} (h0 : 0 ≤ i) (h1 : i < l.length) : rd_T35 l i ∈ l := by
  unfold rd_T35
  rw [List.getD_eq_getElem?_getD, List.getElem?_eq_getElem (show i.toNat < l.length by omega)]
  exact List.getElem_mem _
def oneB (x : S38) : Bool := nameB x.f0 && decide ((x.f0.size : Int) ≤ 6) && within_ x.f1 1 3 && within_ x.f2 1 8
theorem l18One_ev (x : S38) (h : x.f0.size ≤ maxLen) : ∃ K, ∀ k, K ≤ k → spec_l18One.f k [x] = some (oneB x) := by
  obtain ⟨K, hK⟩ := l01Name_ev x.f0 h
  refine ⟨K, fun k hk => ?_⟩
  simp only [spec_l18One.f, show rd_T38 [x] 0 = x from rfl, l00In_f]
  rw [hK k hk]
  unfold oneB
  simp only [Option.bind_some]
  cases nameB x.f0 <;> cases within_ x.f1 1 3 <;> cases within_ x.f2 1 8 <;> by_cases e : (x.f0.size : Int) ≤ 6 <;> simp [e]
theorem validSyllable_ev (x : S38) (h : x.f0.size ≤ maxLen) : ∃ K, ∀ k, K ≤ k → impl_ValidSyllable.f k x.f0 x.f1 x.f2 = some (oneB x) := by
  obtain ⟨K, hK⟩ := isName_ev x.f0 h
  refine ⟨K, fun k hk => ?_⟩
  simp only [impl_ValidSyllable.f, within_f]
  rw [hK k hk]
  unfold oneB
  simp only [Option.bind_some]
  cases nameB x.f0 <;> cases within_ x.f1 1 3 <;> cases within_ x.f2 1 8 <;> by_cases e : (x.f0.size : Int) ≤ 6 <;> simp [e]
/-- What is asked of the i-th syllable. -/
def atB (l : List S38) (i : Int) : Bool := oneB (rd_T38 l i) && (decide (i = 0) || Op.bytesLess (rd_T38 l (i - 1)).f0.toList (rd_T38 l i).f0.toList)
def validB (l : List S38) : Bool := decide ((l.length : Int) ≤ 16) && allI (atB l) l.length 0
theorem l18Ok_ev (l : List S38) (hl : l.length ≤ maxLen) (h : ∀ x ∈ l, x.f0.size ≤ maxLen) : ∃ K, ∀ k, K ≤ k → spec_l18Ok.f k l = some (validB l) := by
  obtain ⟨K, hK⟩ := ev_list (P := fun k x => spec_l18One.f k [x] = some (oneB x)) l (fun x hx => l18One_ev x (h x hx))
  unfold maxLen at hl
  have L : ∀ (d : Nat) (i : Int), 0 ≤ i → i + d = l.length → ∀ k, K + d < k → spec_l18Ok.l0 k l i = some (allI (atB l) d i && decide ((l.length : Int) ≤ 16)) := by
    intro d
    induction d with
    | zero =>
      intro i h0 h1 k hk
      obtain ⟨k, rfl⟩ : ∃ m, k = m + 1 := ⟨k - 1, by omega⟩
      simp only [spec_l18Ok.l0]
      rw [if_neg (by omega)]; simp [allI]
    | succ d ih =>
      intro i h0 h1 k hk
      obtain ⟨k, rfl⟩ : ∃ m, k = m + 1 := ⟨k - 1, by omega⟩
      simp only [spec_l18Ok.l0, allI]
      rw [if_pos (by omega), if_pos h0, hK k (by omega) _ (rd38_mem h0 (by omega)), w64 (n := i + 1) (by omega) (by omega), w64 (n := i - 1) (by omega) (by omega), ih (i + 1) (by omega) (by omega) k (by omega), Bool.and_assoc]
      generalize (allI (atB l) d (i + 1) && decide ((l.length : Int) ≤ 16)) = A
      unfold atB
      simp only [Option.bind_some]
      cases oneB (rd_T38 l i) with
      | false => simp
      | true =>
        by_cases e : i > 0
        · rw [if_pos rfl, if_pos e, if_pos (by omega), if_pos (by omega)]
          cases Op.bytesLess (rd_T38 l (i - 1)).f0.toList (rd_T38 l i).f0.toList <;> simp [show ¬ i = 0 by omega]
        · rw [if_pos rfl, if_neg e]; simp [show i = 0 by omega]
  exact ⟨K + l.length + 1, fun k hk => by simp only [spec_l18Ok.f]; rw [L l.length 0 (by omega) (by omega) k (by omega)]; unfold validB; rw [Bool.and_comm]⟩
theorem validSyllables_ev (l : List S38) (hl : l.length ≤ maxLen) (h : ∀ x ∈ l, x.f0.size ≤ maxLen) : ∃ K, ∀ k, K ≤ k → impl_ValidSyllables.f k l = some (validB l) := by
  obtain ⟨K, hK⟩ := ev_list (P := fun k x => impl_ValidSyllable.f k x.f0 x.f1 x.f2 = some (oneB x)) l (fun x hx => validSyllable_ev x (h x hx))
  unfold maxLen at hl
  have L : ∀ (d : Nat) (i : Int), 0 ≤ i → i + d = l.length → ∀ k, K + d < k → impl_ValidSyllables.l0 k l l (l.length : Int) i = some (allI (atB l) d i) := by
    intro d
    induction d with
    | zero =>
      intro i h0 h1 k hk
      obtain ⟨k, rfl⟩ : ∃ m, k = m + 1 := ⟨k - 1, by omega⟩
      simp only [impl_ValidSyllables.l0]
      rw [if_neg (by omega)]; simp [allI]
    | succ d ih =>
      intro i h0 h1 k hk
      obtain ⟨k, rfl⟩ : ∃ m, k = m + 1 := ⟨k - 1, by omega⟩
      simp only [impl_ValidSyllables.l0, allI]
      rw [if_pos (by omega), if_pos h0, if_pos (by omega), hK k (by omega) _ (rd38_mem h0 (by omega)), w64 (n := i + 1) (by omega) (by omega), w64 (n := i - 1) (by omega) (by omega), ih (i + 1) (by omega) (by omega) k (by omega)]
      generalize allI (atB l) d (i + 1) = A
      unfold atB
      simp only [Option.bind_some]
      cases oneB (rd_T38 l i) with
      | false => simp
      | true =>
        by_cases e : i > 0
        · rw [if_pos rfl, if_pos e, if_pos (by omega), if_pos (by omega)]
          cases Op.bytesLess (rd_T38 l (i - 1)).f0.toList (rd_T38 l i).f0.toList <;> simp [show ¬ i = 0 by omega]
        · rw [if_pos rfl, if_neg e]; simp [show i = 0 by omega]
  refine ⟨K + l.length + 1, fun k hk => ?_⟩
  simp only [impl_ValidSyllables.f]
  rw [L l.length 0 (by omega) (by omega) k (by omega)]
  unfold validB
  by_cases e : (l.length : Int) > 16
  · rw [if_pos e]; simp [show ¬ (l.length : Int) ≤ 16 by omega]
  · rw [if_neg e]; simp [show (l.length : Int) ≤ 16 by omega]

/-! ### what the laws do with their arguments -/
def conv (x : S35) : S38 := ⟨x.f0, x.f1, x.f2⟩
theorem szSyllable_f (x : S35) (n : Int) (h : x.f0.size ≤ maxLen) (h0 : 0 ≤ n) (h1 : n ≤ 1048576) : laws_szSyllable.f x.f0 x.f1 x.f2 n = some (if n < x.f0.size then -1 else n - x.f0.size) := by
  unfold maxLen at h
  unfold laws_szSyllable.f
  rw [w64 (by omega) (by omega)]
  by_cases e : n < x.f0.size
  · rw [if_pos (by omega), if_pos e]
  · rw [if_neg (by omega), if_neg e]
theorem szSyllableS_ev (l : List S35) (hl : l.length ≤ maxLen) (h : ∀ x ∈ l, x.f0.size ≤ maxLen) : ∃ r K, (0 ≤ r → l.length ≤ 1048576) ∧ ∀ k, K ≤ k → laws_szSyllableS.f k l 1048576 = some r := by
  unfold maxLen at hl
  have L : ∀ (d : Nat) (i n : Int), 0 ≤ i → i + d = l.length → 0 ≤ n → n ≤ 1048576 → ∃ r, ∀ k, d < k → laws_szSyllableS.l0 k l n i = some r := by
    intro d
    induction d with
    | zero =>
      intro i n h0 h1 _ _
      refine ⟨n, fun k hk => ?_⟩
      obtain ⟨k, rfl⟩ : ∃ m, k = m + 1 := ⟨k - 1, by omega⟩
      simp only [laws_szSyllableS.l0]
      rw [if_neg (by omega)]
    | succ d ih =>
      intro i n h0 h1 hn hn2
      by_cases e : n < (rd_T35 l i).f0.size
      · refine ⟨-1, fun k hk => ?_⟩
        obtain ⟨k, rfl⟩ : ∃ m, k = m + 1 := ⟨k - 1, by omega⟩
        simp only [laws_szSyllableS.l0]
        rw [if_pos (by omega), if_pos h0, szSyllable_f _ _ (h _ (rd35_mem h0 (by omega))) hn hn2, if_pos e]
        rfl
      · obtain ⟨r, hr⟩ := ih (i + 1) (n - (rd_T35 l i).f0.size) (by omega) (by omega) (by omega) (by omega)
        refine ⟨r, fun k hk => ?_⟩
        obtain ⟨k, rfl⟩ : ∃ m, k = m + 1 := ⟨k - 1, by omega⟩
        simp only [laws_szSyllableS.l0]
        rw [if_pos (by omega), if_pos h0, szSyllable_f _ _ (h _ (rd35_mem h0 (by omega))) hn hn2, if_neg e]
        simp only [Option.bind_some]
        rw [if_neg (by omega), w64 (n := i + 1) (by omega) (by omega)]
        exact hr k (by omega)
  by_cases e : (1048576 : Int) < l.length
  · exact ⟨-1, 0, fun h => by omega, fun k _ => by simp only [laws_szSyllableS.f]; rw [w64 (by omega) (by omega), if_pos (by omega)]⟩
  · obtain ⟨r, hr⟩ := L l.length 0 (1048576 - l.length) (by omega) (by omega) (by omega) (by omega)
    exact ⟨r, l.length + 1, fun _ => by omega, fun k hk => by simp only [laws_szSyllableS.f]; rw [w64 (by omega) (by omega), if_neg (by omega)]; exact hr k (by omega)⟩
theorem toSyllableS_l0 (l : List S35) (hl : l.length ≤ 1048576) : ∀ (d : Nat) (i : Int), 0 ≤ i → i + d = l.length → ∀ k, d < k → laws_toSyllableS.l0 k l ((l.take i.toNat).map conv ++ List.replicate d z38) i = some (l.map conv) := by
  intro d
  induction d with
  | zero =>
    intro i h0 h1 k hk
    obtain ⟨k, rfl⟩ : ∃ m, k = m + 1 := ⟨k - 1, by omega⟩
    simp only [laws_toSyllableS.l0]
    rw [if_neg (by omega), List.take_of_length_le (by omega)]
    simp
  | succ d ih =>
    intro i h0 h1 k hk
    obtain ⟨k, rfl⟩ : ∃ m, k = m + 1 := ⟨k - 1, by omega⟩
    simp only [laws_toSyllableS.l0, laws_toSyllable.f, Option.bind_some]
    have hlen : ((l.take i.toNat).map conv).length = i.toNat := by rw [List.length_map, List.length_take]; omega
    rw [if_pos (by omega), if_pos h0, if_pos (by rw [List.length_append, hlen, List.length_replicate]; omega), w64 (n := i + 1) (by omega) (by omega)]
    have e : ((l.take i.toNat).map conv ++ List.replicate (d + 1) z38).set i.toNat (⟨(rd_T35 l i).f0, (rd_T35 l i).f1, (rd_T35 l i).f2⟩ : S38) = (l.take (i + 1).toNat).map conv ++ List.replicate d z38 := by
      rw [List.set_append_right _ _ (by omega), hlen, Nat.sub_self, List.replicate_succ, List.set_cons_zero, show (i + 1).toNat = i.toNat + 1 by omega, List.take_succ_eq_append_getElem (show i.toNat < l.length by omega), List.map_append, List.append_assoc]
      simp [conv, rd_T35, List.getD_eq_getElem?_getD, List.getElem?_eq_getElem (show i.toNat < l.length by omega)]
    rw [e]
    exact ih (i + 1) (by omega) (by omega) k (by omega)
theorem toSyllableS_ev (l : List S35) (hl : l.length ≤ 1048576) : ∃ K, ∀ k, K ≤ k → laws_toSyllableS.f k l = some (l.map conv) := by
  refine ⟨l.length + 1, fun k hk => ?_⟩
  simp only [laws_toSyllableS.f]
  rw [if_pos (by omega), if_pos (by omega)]
  have := toSyllableS_l0 l hl l.length 0 (by omega) (by omega) k (by omega)
  simpa using this
theorem eqSyllableS_ev (l : List S38) (hl : l.length ≤ maxLen) : ∃ K, ∀ k, K ≤ k → laws_eqSyllableS.f k l l = some true := by
  unfold maxLen at hl
  have L : ∀ (d : Nat) (i : Int), 0 ≤ i → i + d = l.length → ∀ k, d < k → laws_eqSyllableS.l0 k l l i = some true := by
    intro d
    induction d with
    | zero =>
      intro i h0 h1 k hk
      obtain ⟨k, rfl⟩ : ∃ m, k = m + 1 := ⟨k - 1, by omega⟩
      simp only [laws_eqSyllableS.l0]
      rw [if_neg (by omega)]
    | succ d ih =>
      intro i h0 h1 k hk
      obtain ⟨k, rfl⟩ : ∃ m, k = m + 1 := ⟨k - 1, by omega⟩
      simp only [laws_eqSyllableS.l0, laws_eqSyllable.f]
      rw [if_pos (by omega), if_pos h0, if_pos (by omega), if_pos trivial, if_pos trivial, if_pos trivial]
      simp only [Option.bind_some, if_true]
      rw [w64 (n := i + 1) (by omega) (by omega)]
      exact ih (i + 1) (by omega) (by omega) k (by omega)
  exact ⟨l.length + 1, fun k hk => by simp only [laws_eqSyllableS.f]; rw [if_pos trivial]; exact L l.length 0 (by omega) (by omega) k (by omega)⟩
theorem conv_size {l : List S35} (h : ∀ x ∈ l, x.f0.size ≤ maxLen) : ∀ x ∈ l.map conv, x.f0.size ≤ maxLen := fun x hx => by
  obtain ⟨y, hy, rfl⟩ := List.mem_map.1 hx
  exact h y hy
end Go.Proofs.Ytdaggmnmifnabaa.Pure
