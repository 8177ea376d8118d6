/- ReadComposed of the program returns what the reference's returns, for all arguments. -/
import Derived.Test.YtmeflmlejcmckaaDoorPuS0
import Derived.Test.YtmeflmlejcmckaaDoorPuS1
import Derived.Test.YtmeflmlejcmckaaDoorPuS2
import Derived.Test.YtmeflmlejcmckaaDoorPSx2
import Derived.Test.YtmeflmlejcmckaaDoorPSx26
import Derived.Test.YtmeflmlejcmckaaDoorPSx27
import Derived.Test.YtmeflmlejcmckaaDoorPSx28
import Derived.Test.YtmeflmlejcmckaaDoorPSx29
import Derived.Test.YtmeflmlejcmckaaDoorPSx30
namespace Go.Proofs.YtmeflmlejcmckaaDoor.Pure
open Go.RowKit Go.Proofs.YtmeflmlejcmckaaDoor.PS Go.Proofs.YtmeflmlejcmckaaDoorW.PrintWords Go.Proofs.YtmeflmlejcmckaaDoorW.PrintLast
set_option linter.unusedSimpArgs false
set_option linter.unusedVariables false
/-- c, c + 1, ..: n numbers. -/
def upL : Nat → Int → List Int
  | 0, _ => []
  | n + 1, c => c :: upL n (c + 1)
theorem upL_length : ∀ (n : Nat) (c : Int), (upL n c).length = n
  | 0, _ => rfl
  | n + 1, c => by simp [upL, upL_length n]
theorem upL_get : ∀ (n : Nat) (c : Int) (i : Nat), i < n → (upL n c)[i]? = some (c + i)
  | 0, _, i, h => by omega
  | n + 1, c, 0, _ => by simp [upL]
  | n + 1, c, i + 1, h => by
    simp only [upL, List.getElem?_cons_succ]
    rw [upL_get n (c + 1) i (by omega)]
    congr 1; omega
theorem mark_l0 (N : Nat) (c0 : Int) (h1 : 0 ≤ c0) (h2 : c0 ≤ 10000000) (hN : N ≤ 2000000) : ∀ (d : Nat) (l : List Int) (i : Int), 0 ≤ i → i + d = N → l.length = N → (∀ j : Nat, j < i.toNat → l[j]? = some (c0 + j)) → ∀ k, d < k → laws_markInt64S.l0 k l (c0 + i) i = some (c0 + N, upL N c0) := by
  intro d
  induction d with
  | zero =>
    intro l i h0 hi hl hp k hk
    obtain ⟨k, rfl⟩ : ∃ m, k = m + 1 := ⟨k - 1, by omega⟩
    simp only [laws_markInt64S.l0]
    rw [if_neg (by omega)]
    congr 1
    refine Prod.ext (by show c0 + i = c0 + N; omega) (List.ext_getElem? fun j => ?_)
    show l[j]? = (upL N c0)[j]?
    by_cases hj : j < N
    · rw [upL_get N c0 j hj]; exact hp j (by omega)
    · rw [List.getElem?_eq_none (by omega), List.getElem?_eq_none (by rw [upL_length]; omega)]
  | succ d ih =>
    intro l i h0 hi hl hp k hk
    obtain ⟨k, rfl⟩ : ∃ m, k = m + 1 := ⟨k - 1, by omega⟩
    simp only [laws_markInt64S.l0]
    rw [if_pos (by omega), if_pos h0, w64 (n := c0 + i + 1) (by omega) (by omega), w64 (n := i + 1) (by omega) (by omega), show c0 + i + 1 = c0 + (i + 1) by omega]
    refine ih _ (i + 1) (by omega) (by omega) (by simpa using hl) (fun j hj => ?_) k (by omega)
    by_cases e : j = i.toNat
    · subst e; rw [List.getElem?_set_self (by omega)]; congr 1; omega
    · rw [List.getElem?_set_ne (Ne.symm e)]; exact hp j (by omega)
theorem mark_ev (l : List Int) (c : Int) (h1 : 0 ≤ c) (h2 : c ≤ 10000000) (hN : l.length ≤ 2000000) : ∃ K, ∀ k, K ≤ k → laws_markInt64S.f k l c = some (c + l.length, upL l.length c) :=
  ⟨l.length + 1, fun k hk => by
    have := mark_l0 l.length c h1 h2 hN l.length l 0 (by omega) (by omega) rfl (fun j hj => by simp at hj) k (by omega)
    simpa [laws_markInt64S.f] using this⟩
theorem held_l0 (N : Nat) (c0 : Int) (h1 : 0 ≤ c0) (h2 : c0 ≤ 10000000) (hN : N ≤ 2000000) : ∀ (d : Nat) (i : Int), 0 ≤ i → i + d = N → ∀ k, d < k → laws_heldInt64S.l0 k (upL N c0) (c0 + i) i = some (c0 + N) := by
  intro d
  induction d with
  | zero =>
    intro i h0 hi k hk
    obtain ⟨k, rfl⟩ : ∃ m, k = m + 1 := ⟨k - 1, by omega⟩
    simp only [laws_heldInt64S.l0]
    rw [if_neg (by rw [upL_length]; omega)]
    congr 1; omega
  | succ d ih =>
    intro i h0 hi k hk
    obtain ⟨k, rfl⟩ : ∃ m, k = m + 1 := ⟨k - 1, by omega⟩
    simp only [laws_heldInt64S.l0]
    rw [if_pos (by rw [upL_length]; omega), if_pos h0, if_pos (by simp only [rd, List.getD_eq_getElem?_getD]; rw [upL_get N c0 i.toNat (by omega)]; simp; omega), w64 (n := c0 + i + 1) (by omega) (by omega), w64 (n := i + 1) (by omega) (by omega), show c0 + i + 1 = c0 + (i + 1) by omega]
    exact ih (i + 1) (by omega) (by omega) k (by omega)
theorem held_ev (N : Nat) (c : Int) (h1 : 0 ≤ c) (h2 : c ≤ 10000000) (hN : N ≤ 2000000) : ∃ K, ∀ k, K ≤ k → laws_heldInt64S.f k (upL N c) c = some (c + N) :=
  ⟨N + 1, fun k hk => by
    have := held_l0 N c h1 h2 hN N 0 (by omega) (by omega) k (by omega)
    simpa [laws_heldInt64S.f] using this⟩
theorem size1 (n : Int) : (strOfNums [n]).size = 1 := rfl
theorem markText_l0 : ∀ (d : Nat) (a : Int) (s : ByteArray), 0 ≤ a → a < 10 ^ d → d ≤ 10 → s.size + d ≤ 1000 → ∃ t, ∀ k, d < k → laws_markText.l0 k a s = some t
  | 0, a, s, h0, h1, _, hs => ⟨(⟨#[109]⟩ : ByteArray) ++ s, fun k hk => by
      obtain ⟨k, rfl⟩ : ∃ m, k = m + 1 := ⟨k - 1, by omega⟩
      simp only [laws_markText.l0]
      rw [if_neg (by simp at h1; omega), if_pos (by omega)]⟩
  | d + 1, a, s, h0, h1, hd, hs => by
    have hp : (10 : Int) ^ (d + 1) = 10 ^ d * 10 := Int.pow_succ ..
    have hb : (10 : Int) ^ (d + 1) ≤ 10 ^ 10 := by exact_mod_cast Nat.pow_le_pow_right (by decide) hd
    have hten : (10 : Int) ^ 10 = 10000000000 := by decide
    rw [hten] at hb
    by_cases e : a > 0
    · have hq : wrap64 (Int.tdiv a 10) = a / 10 := by rw [Int.tdiv_eq_ediv_of_nonneg h0]; exact w64 (by omega) (by omega)
      obtain ⟨t, ht⟩ := markText_l0 d (a / 10) (strOfNums [(wrap64 (48 + (Int.tmod a 10))) % 256] ++ s) (by omega) (by omega) (by omega) (by rw [ByteArray.size_append, size1]; omega)
      refine ⟨t, fun k hk => ?_⟩
      obtain ⟨k, rfl⟩ : ∃ m, k = m + 1 := ⟨k - 1, by omega⟩
      simp only [laws_markText.l0, Option.bind_some]
      rw [if_pos e, if_pos (by rw [size1]; omega), hq]
      exact ht k (by omega)
    · refine ⟨(⟨#[109]⟩ : ByteArray) ++ s, fun k hk => ?_⟩
      obtain ⟨k, rfl⟩ : ∃ m, k = m + 1 := ⟨k - 1, by omega⟩
      simp only [laws_markText.l0]
      rw [if_neg e, if_pos (by omega)]
theorem markText_ev (a : Int) (h0 : 0 ≤ a) (h1 : a < 10000000000) : ∃ t, ∀ k, 10 < k → laws_markText.f k a = some t := by
  by_cases e : a ≤ 0
  · exact ⟨_, fun k _ => by simp only [laws_markText.f]; rw [if_pos e]⟩
  · obtain ⟨t, ht⟩ := markText_l0 10 a ⟨#[]⟩ h0 (by simpa using h1) (by omega) (by decide)
    exact ⟨t, fun k hk => by simp only [laws_markText.f]; rw [if_neg e]; exact ht k hk⟩
theorem markSyllable_l0 : ∀ (d : Nat) (L : List S118) (c i : Int), 0 ≤ i → i + d = L.length → L.length ≤ 1048576 → 1 ≤ c → c + 3 * d ≤ 10000000 → ∃ L', ∀ k, d + 10 < k → laws_markSyllableS.l0 k L c i = some (c + 3 * d, L')
  | 0, L, c, i, h0, h1, _, _, _ => ⟨L, fun k hk => by
      obtain ⟨k, rfl⟩ : ∃ m, k = m + 1 := ⟨k - 1, by omega⟩
      simp only [laws_markSyllableS.l0]
      rw [if_neg (by omega)]; simp⟩
  | d + 1, L, c, i, h0, h1, hL, hc, hb => by
    obtain ⟨t, ht⟩ := markText_ev c (by omega) (by omega)
    generalize hL1 : (L.set i.toNat (⟨t, (rd_T118 L i).f1, (rd_T118 L i).f2⟩ : S118)) = L1
    generalize hL2 : (L1.set i.toNat (⟨(rd_T118 L1 i).f0, wrap64 (c + 1), (rd_T118 L1 i).f2⟩ : S118)) = L2
    generalize hL3 : (L2.set i.toNat (⟨(rd_T118 L2 i).f0, (rd_T118 L2 i).f1, wrap64 ((wrap64 (c + 1)) + 1)⟩ : S118)) = L3
    have l3 : L3.length = L.length := by rw [← hL3, ← hL2, ← hL1]; simp
    obtain ⟨L', h'⟩ := markSyllable_l0 d L3 (c + 3) (i + 1) (by omega) (by omega) (by omega) (by omega) (by omega)
    refine ⟨L', fun k hk => ?_⟩
    obtain ⟨k, rfl⟩ : ∃ m, k = m + 1 := ⟨k - 1, by omega⟩
    simp only [laws_markSyllableS.l0]
    rw [if_pos (by omega), ht k (by omega)]
    simp only [Option.bind_some]
    rw [if_pos h0, hL1, hL2, hL3, w64 (n := c + 1) (by omega) (by omega), w64 (n := c + 1 + 1) (by omega) (by omega), w64 (n := c + 1 + 1 + 1) (by omega) (by omega), w64 (n := i + 1) (by omega) (by omega), show c + 1 + 1 + 1 = c + 3 by omega, h' k (by omega)]
    congr 2
    omega
theorem markSyllableS_ev (l : List S118) (hl : l.length ≤ 1048576) : ∃ L' K, ∀ k, K ≤ k → laws_markSyllableS.f k l 1 = some (1 + 3 * (l.length : Int), L') := by
  obtain ⟨L', h⟩ := markSyllable_l0 l.length l 1 0 (by omega) (by omega) hl (by omega) (by omega)
  exact ⟨L', l.length + 11, fun k hk => h k (by omega)⟩
theorem rdS_get {c : List ByteArray} {i : Int} (h0 : 0 ≤ i) (h1 : i < c.length) : rdOf ByteArray.empty c i = c[i.toNat]'(by omega) := by
  simp [rdOf, List.getD_eq_getElem?_getD, List.getElem?_eq_getElem (show i.toNat < c.length by omega)]
theorem rdS_drop {c : List ByteArray} {i : Int} (h0 : 0 ≤ i) (h1 : i < c.length) : c.drop i.toNat = rdOf ByteArray.empty c i :: c.drop (i + 1).toNat := by
  rw [rdS_get h0 h1, show (i + 1).toNat = i.toNat + 1 by omega]
  exact List.drop_eq_getElem_cons (by omega)
theorem within_iff {n a b : Int} : within_ n a b = true ↔ a ≤ n ∧ n ≤ b := by
  unfold within_; simp
theorem rdX_get {c : List S118} {i : Int} (h0 : 0 ≤ i) (h1 : i < c.length) : rd_T118 c i = c[i.toNat]'(by omega) := by
  simp [rd_T118, List.getD_eq_getElem?_getD, List.getElem?_eq_getElem (show i.toNat < c.length by omega)]
theorem rdX_drop {c : List S118} {i : Int} (h0 : 0 ≤ i) (h1 : i < c.length) : c.drop i.toNat = rd_T118 c i :: c.drop (i + 1).toNat := by
  rw [rdX_get h0 h1, show (i + 1).toNat = i.toNat + 1 by omega]
  exact List.drop_eq_getElem_cons (by omega)
/-- The place of a name among the syllables, counted from i, or -1. -/
def fnd (nm : ByteArray) : List S118 → Int → Int
  | [], _ => -1
  | x :: l, i => if x.f0.toList = nm.toList then i else fnd nm l (i + 1)
theorem fnd_range (nm : ByteArray) : ∀ (l : List S118) (i : Int), 0 ≤ i → fnd nm l i = -1 ∨ (i ≤ fnd nm l i ∧ fnd nm l i < i + l.length)
  | [], i, _ => .inl rfl
  | x :: l, i, h => by
    simp only [fnd, List.length_cons]
    split
    · right; omega
    · rcases fnd_range nm l (i + 1) (by omega) with e | ⟨e1, e2⟩
      · exact .inl e
      · right; omega
theorem find_wp (l : List S118) (nm : ByteArray) (hl : l.length ≤ 2000000) : Wp (fun k => spec_l18Find.f k l nm) (fun r => r = fnd nm l 0) := by
  have H : ∀ (d : Nat) (i : Int), 0 ≤ i → i + d = l.length → Wp (fun k => spec_l18Find.l0 k l nm i) (fun r => r = fnd nm (l.drop i.toNat) i) := by
    intro d
    induction d with
    | zero =>
      intro i h0 h1
      refine Wp.step ?_
      simp only [spec_l18Find.l0]
      rw [List.drop_eq_nil_of_le (show l.length ≤ i.toNat by omega)]
      exact Wp.neg (by omega) (Wp.now rfl)
    | succ d ih =>
      intro i h0 h1
      refine Wp.step ?_
      simp only [spec_l18Find.l0]
      rw [w64 (n := i + 1) (by omega) (by omega), rdX_drop h0 (by omega), fnd]
      refine Wp.pos (by omega) (Wp.pos h0 (Wp.ite (fun e => Wp.now (by rw [if_pos e])) (fun e => ?_)))
      rw [if_neg e]
      exact ih (i + 1) (by omega) (by omega)
  simp only [spec_l18Find.f]
  exact H l.length 0 (by omega) (by omega)
theorem idx_fnd (nm : ByteArray) : ∀ (l : List S118) (i : Int), idxO (fun x => impl_syllableNamed_1.f x.f0 x.f1 x.f2 [nm]) l i = some (fnd nm l i)
  | [], i => rfl
  | x :: l, i => by
    have e1 : impl_syllableNamed_1.f x.f0 x.f1 x.f2 [nm] = some (x.f0.toList == nm.toList) := rfl
    simp only [idxO, fnd]
    rw [e1, Option.bind_some, idx_fnd nm l (i + 1)]
    by_cases e : x.f0.toList = nm.toList
    · rw [if_pos (by simpa using e), if_pos e]
    · rw [if_neg (by simpa using e), if_neg e]
theorem named_f (l : List S118) (nm : ByteArray) : impl_syllableNamed.f l nm = some (fnd nm l 0) := by
  unfold impl_syllableNamed.f slices_IndexFunc_at_impl_syllableNamed_1.f
  rw [idx_fnd]
  rfl
/-- Which syllables the words name. -/
def cmp (l : List S118) (P : List ByteArray) : List Int := P.map fun nm => fnd nm l 0
def okP (l : List S118) (P : List ByteArray) : Bool := P.all fun nm => decide (0 ≤ fnd nm l 0)
theorem parse_l0 (l : List S118) (hl : l.length ≤ 2000000) {P : List ByteArray} (hP : P.length ≤ 2000000) : ∀ (d : Nat) (i : Int) (acc : List Int), 0 ≤ i → i + d = P.length → (acc.length : Int) = i →
    Wp (fun k => spec_l18Parse.l0 k l acc P i) (fun r => r = if okP l (P.drop i.toNat) = true then (acc ++ cmp l (P.drop i.toNat), decide ((P.length : Int) ≤ 64)) else ([], false))
  | 0, i, acc, h0, h1, h2 => by
    refine Wp.step ?_
    simp only [spec_l18Parse.l0]
    rw [List.drop_eq_nil_of_le (show P.length ≤ i.toNat by omega)]
    refine Wp.neg (by omega) (Wp.now ?_)
    rw [if_pos (by rfl), show (acc.length : Int) = P.length by omega]
    simp [cmp]
  | d + 1, i, acc, h0, h1, h2 => by
    refine Wp.step ?_
    simp only [spec_l18Parse.l0]
    rw [w64 (n := i + 1) (by omega) (by omega), rdS_drop h0 (by omega)]
    refine Wp.pos (by omega) (Wp.pos h0 (Wp.val (find_wp l _ hl) (Wp.ite (fun e => Wp.now ?_) (fun e => Wp.pos (by omega) ?_))))
    · rw [if_neg (by simp only [okP, List.all_cons, Bool.and_eq_true, decide_eq_true_eq]; omega)]
    · refine (parse_l0 l hl hP d (i + 1) (acc ++ [fnd (rdOf ByteArray.empty P i) l 0]) (by omega) (by omega) (by simp; omega)).mono ?_
      rintro r rfl
      have e2 : okP l (rdOf ByteArray.empty P i :: P.drop (i + 1).toNat) = okP l (P.drop (i + 1).toNat) := by
        simp only [okP, List.all_cons]
        rw [show decide (0 ≤ fnd (rdOf ByteArray.empty P i) l 0) = true by simp; omega, Bool.true_and]
      rw [e2]
      simp [cmp]
theorem read_l0 (l : List S118) {P : List ByteArray} (hP : P.length ≤ 2000000) {v : List Int × Int} (hv : Wp (fun k => (impl_composedCode.f k l (cmp l P)).bind fun t => (if t = 0 then (some (cmp l P, (0 : Int))) else (some (([] : List Int), 8)))) (fun r => r = v)) :
    ∀ (d : Nat) (i : Int) (acc : List Int), 0 ≤ i → i + d = P.length → (acc.length : Int) = i → acc ++ cmp l (P.drop i.toNat) = cmp l P →
    Wp (fun k => impl_ReadComposed.l0 k l acc P (P.length : Int) i) (fun r => r = v)
  | 0, i, acc, h0, h1, h2, h3 => by
    refine Wp.step ?_
    simp only [impl_ReadComposed.l0]
    rw [List.drop_eq_nil_of_le (show P.length ≤ i.toNat by omega)] at h3
    have e : acc = cmp l P := by simpa [cmp] using h3
    rw [e]
    exact Wp.neg (by omega) hv
  | d + 1, i, acc, h0, h1, h2, h3 => by
    refine Wp.step ?_
    simp only [impl_ReadComposed.l0]
    rw [w64 (n := i + 1) (by omega) (by omega)]
    refine Wp.pos (by omega) (Wp.pos h0 (Wp.pos (by omega) (Wp.calls (named_f l _) (Wp.pos (by omega) ?_))))
    refine read_l0 l hP hv d (i + 1) (acc ++ [fnd (rdOf ByteArray.empty P i) l 0]) (by omega) (by omega) (by simp; omega) ?_
    rw [rdS_drop h0 (by omega)] at h3
    rw [← h3]
    simp [cmp]
def compB (l : List S118) (c : List Int) : Bool := (c.all fun n => within_ n 0 (wrap64 ((l.length : Int) - 1))) && decide ((c.length : Int) ≤ 64)
theorem code_wp (l : List S118) (c : List Int) (hl : l.length ≤ maxLen) (h : ∀ x ∈ l, x.f0.size ≤ maxLen) (hv : validB l = true) : Wp (fun k => impl_composedCode.f k l c) (fun r => r = if compB l c = true then 0 else 7) := by
  obtain ⟨K1, h1⟩ := validSyllables_ev l hl h
  simp only [impl_composedCode.f, impl_composedOk.f, impl_allWithin.f]
  refine Wp.val (a := true) ⟨_, rfl, K1, fun k hk => by show impl_ValidSyllables.f k l = some true; rw [h1 k hk, hv]⟩ (Wp.posB rfl ?_)
  unfold compB
  by_cases e : (c.length : Int) ≤ 64
  · rw [show decide ((c.length : Int) ≤ 64) = true by simpa using e, Bool.and_true]
    generalize (c.all fun n => within_ n 0 (wrap64 ((l.length : Int) - 1))) = A
    cases A
    · exact Wp.calls (a := false) (by simp [e]) (Wp.now rfl)
    · exact Wp.calls (a := true) (by simp [e]) (Wp.now rfl)
  · rw [show decide ((c.length : Int) ≤ 64) = false by simpa using e, Bool.and_false]
    exact Wp.calls (a := false) (by simp [e]) (Wp.now rfl)
theorem compB_cmp (l : List S118) (hl : l.length ≤ 2000000) (P : List ByteArray) : compB l (cmp l P) = (okP l P && decide ((P.length : Int) ≤ 64)) := by
  unfold compB
  rw [show (cmp l P).length = P.length by simp [cmp]]
  congr 1
  unfold cmp okP
  rw [List.all_map, w64 (n := (l.length : Int) - 1) (by omega) (by omega)]
  congr 1
  funext nm
  have := fnd_range nm l 0 (by omega)
  rw [Function.comp_apply, Bool.eq_iff_iff, within_iff, decide_eq_true_eq]
  omega
theorem empty_iff (s : ByteArray) : s.toList = ([] : List UInt8) ↔ s.data.toList = [] := by
  rw [toList_nil_iff_emptyBytes]
  constructor
  · intro h; rw [h]; rfl
  · intro h
    have : s = BA s.data.toList := rfl
    rw [this, h]; rfl
/-- What both return. -/
def res (l : List S118) (s : ByteArray) : List Int × Int :=
  if validB l = true then (if s.toList = ([] : List UInt8) then ([], 0) else if compB l (cmp l ((spU 32 [] s.data.toList).map BA)) = true then (cmp l ((spU 32 [] s.data.toList).map BA), 0) else ([], 8)) else ([], 1)
theorem pieces_len (s : ByteArray) (hs : s.size ≤ 1048576) : ((spU 32 [] s.data.toList).map BA).length ≤ 1048577 := by
  rw [List.length_map, spU_length]
  have := List.count_le_length (l := s.data.toList) (a := 32)
  rw [len_data] at this
  omega
theorem readS (l : List S118) (s : ByteArray) (hl : l.length ≤ 1048576) (h : ∀ x ∈ l, x.f0.size ≤ maxLen) (hs : s.size ≤ 1048576) : Wp (fun k => spec_ReadComposed.f k l s) (fun r => r = res l s) := by
  obtain ⟨K1, h1⟩ := l18Ok_ev l (by unfold maxLen; omega) h
  simp only [spec_ReadComposed.f]
  refine Wp.val (a := validB l) ⟨_, rfl, K1, h1⟩ ?_
  unfold res
  refine Wp.iteB (fun e => ?_) (fun e => Wp.now (by rw [if_neg (by rw [e]; decide)]))
  rw [if_pos e]
  by_cases he : s.toList = ([] : List UInt8)
  · rw [if_pos he]
    refine Wp.val (a := (([] : List Int), true)) ?_ (Wp.now rfl)
    simp only [spec_l18Parse.f]
    exact Wp.calls rfl (Wp.pos he (Wp.now rfl))
  · rw [if_neg he]
    have hp : Wp (fun k => spec_l18Parse.f k l s) (fun r => r = if okP l ((spU 32 [] s.data.toList).map BA) = true then (cmp l ((spU 32 [] s.data.toList).map BA), decide ((((spU 32 [] s.data.toList).map BA).length : Int) ≤ 64)) else ([], false)) := by
      simp only [spec_l18Parse.f]
      refine Wp.calls rfl (Wp.neg he (Wp.val (l01Split_wp s 32 hs) ?_))
      have := pieces_len s hs
      refine (parse_l0 l (by omega) (P := (spU 32 [] s.data.toList).map BA) (by omega) ((spU 32 [] s.data.toList).map BA).length 0 [] (by omega) (by omega) (by simp)).mono ?_
      rintro r rfl
      simp
    refine Wp.val hp ?_
    rw [compB_cmp l (by omega)]
    generalize okP l ((spU 32 [] s.data.toList).map BA) = b
    generalize decide ((((spU 32 [] s.data.toList).map BA).length : Int) ≤ 64) = c
    cases b <;> cases c <;> exact Wp.now (by simp)
theorem splitN_f (a : ByteArray) (ha : a.size ≤ 1048576) : strings_SplitN.f a (⟨#[32]⟩ : ByteArray) 65 = some ((spK 32 (min 65 (a.size + 1) - 1) [] a.data.toList).map BA) := by
  unfold strings_SplitN.f
  rw [if_pos ⟨by omega, rfl, by decide, by decide⟩, splitB_eq]
  rfl
theorem readI (l : List S118) (s : ByteArray) (hl : l.length ≤ 1048576) (h : ∀ x ∈ l, x.f0.size ≤ maxLen) (hs : s.size ≤ 1048576) : Wp (fun k => impl_ReadComposed.f k l s) (fun r => r = res l s) := by
  obtain ⟨K1, h1⟩ := validSyllables_ev l (by unfold maxLen; omega) h
  simp only [impl_ReadComposed.f]
  refine Wp.val (a := validB l) ⟨_, rfl, K1, h1⟩ ?_
  unfold res
  refine Wp.iteB (fun e => ?_) (fun e => Wp.now (by rw [if_neg (by rw [e]; decide)]))
  rw [if_pos e]
  refine Wp.ite (fun he => Wp.now (by rw [if_pos he])) (fun he => ?_)
  rw [if_neg he]
  have hcl := List.count_le_length (l := s.data.toList) (a := 32)
  rw [len_data] at hcl
  have hlen : ((spK 32 (min 65 (s.size + 1) - 1) [] s.data.toList).map BA).length = min (min 65 (s.size + 1) - 1) (s.data.toList.count 32) + 1 := by rw [List.length_map, spK_length]
  have hcode := code_wp l (cmp l ((spK 32 (min 65 (s.size + 1) - 1) [] s.data.toList).map BA)) (by unfold maxLen; omega) h e
  have hU : ((spU 32 [] s.data.toList).map BA).length = s.data.toList.count 32 + 1 := by rw [List.length_map, spU_length]
  have hu : (if compB l (cmp l ((spU 32 [] s.data.toList).map BA)) = true then (cmp l ((spU 32 [] s.data.toList).map BA), (0 : Int)) else ([], 8)) = (if compB l (cmp l ((spK 32 (min 65 (s.size + 1) - 1) [] s.data.toList).map BA)) = true then (cmp l ((spK 32 (min 65 (s.size + 1) - 1) [] s.data.toList).map BA), (0 : Int)) else ([], 8)) := by
    by_cases hc : s.data.toList.count 32 ≤ min 65 (s.size + 1) - 1
    · rw [spK_enough _ _ _ _ hc]
    · rw [if_neg (by rw [compB_cmp l (by omega), decide_eq_false (by omega), Bool.and_false]; decide), if_neg (by rw [compB_cmp l (by omega), decide_eq_false (by omega), Bool.and_false]; decide)]
  rw [hu]
  refine Wp.calls (splitN_f s hs) ?_
  generalize (spK 32 (min 65 (s.size + 1) - 1) [] s.data.toList).map BA = P at hcode hlen ⊢
  refine read_l0 l (P := P) (by omega) (v := if compB l (cmp l P) = true then (cmp l P, (0 : Int)) else ([], 8)) ?_ P.length 0 [] (by omega) (by omega) (by simp) (by simp)
  refine Wp.val hcode ?_
  by_cases hb : compB l (cmp l P) = true
  · rw [if_pos hb]; exact Wp.pos (by trivial) (Wp.now (by rw [if_pos hb]))
  · rw [if_neg hb]; exact Wp.neg (by decide) (Wp.now (by rw [if_neg hb]))
theorem res_len (l : List S118) (s : ByteArray) (hs : s.size ≤ 1048576) : (res l s).1.length ≤ 1048577 := by
  have h := pieces_len s hs
  unfold res
  split
  · split
    · simp
    · split
      · simpa [cmp] using h
      · simp
  · simp
theorem FnExactReadComposed : laws_FnExactReadComposed.Pure := by
  intro l s hl _
  have hs : ∀ x ∈ l, x.f0.size ≤ maxLen := fun x hx => (hl.2 x hx).1
  obtain ⟨r, K0, hb, h0⟩ := szSyllableS_ev l hl.1 hs
  refine Wp.rounds ?_
  simp only [laws_FnExactReadComposed.f]
  refine Wp.ite (fun _ => Wp.now rfl) (fun hz => Wp.val (a := r) ⟨r, rfl, K0, h0⟩ (Wp.ite (fun _ => Wp.now rfl) (fun hr => ?_)))
  have hb1 := hb (by omega)
  have hsz : s.size ≤ 1048576 := by omega
  have hm : (l.map conv).length ≤ maxLen := by rw [List.length_map]; exact hl.1
  have hm2 : (l.map conv).length ≤ 1048576 := by rw [List.length_map]; exact hb1
  obtain ⟨K1, h1⟩ := toSyllableS_ev l hb1
  obtain ⟨K2, h2⟩ := eqSyllableS_ev (l.map conv) hm
  have v1 := readS (l.map conv) s hm2 (conv_size hs) hsz
  have v2 := readI (l.map conv) s hm2 (conv_size hs) hsz
  have hrl := res_len (l.map conv) s hsz
  generalize res (l.map conv) s = v at v1 v2 hrl
  obtain ⟨c, e⟩ := v
  dsimp only at hrl
  obtain ⟨L', K3, h3⟩ := markSyllableS_ev (l.map conv) hm2
  obtain ⟨K4, h4⟩ := eqInt64S_ev c (by unfold maxLen; omega)
  obtain ⟨K5, h5⟩ := mark_ev c 1 (by omega) (by omega) (by omega)
  obtain ⟨K6, h6⟩ := held_ev c.length 1 (by omega) (by omega) (by omega)
  have t1 : Wp (fun k => laws_toSyllableS.f k l) (fun r => r = l.map conv) := ⟨_, rfl, K1, h1⟩
  have t2 : Wp (fun k => laws_eqSyllableS.f k (l.map conv) (l.map conv)) (fun r => r = true) := ⟨_, rfl, K2, h2⟩
  have t3 : Wp (fun k => laws_markSyllableS.f k (l.map conv) 1) (fun r => r = (1 + 3 * ((l.map conv).length : Int), L')) := ⟨_, rfl, K3, h3⟩
  have t4 : Wp (fun k => laws_eqInt64S.f k c c) (fun r => r = true) := ⟨_, rfl, K4, h4⟩
  have t5 : Wp (fun k => laws_markInt64S.f k c 1) (fun r => r = (1 + (c.length : Int), upL c.length 1)) := ⟨_, rfl, K5, h5⟩
  have t6 : Wp (fun k => laws_heldInt64S.f k (upL c.length 1) 1) (fun r => r = 1 + (c.length : Int)) := ⟨_, rfl, K6, h6⟩
  refine Wp.val t1 (Wp.val v1 (Wp.val t1 (Wp.val v2 (Wp.val t4 (Wp.posB rfl ?_)))))
  dsimp only
  rw [show (e != e) = false by simp]
  refine Wp.step ?_
  simp only [laws_FnExactReadComposed.j0]
  refine Wp.negB rfl (Wp.val t1 (Wp.val t2 (Wp.posB rfl (Wp.val t3 (Wp.neg (by dsimp only; omega) (Wp.val t4 (Wp.posB rfl ?_)))))))
  rw [show (e != e) = false by simp]
  refine Wp.step ?_
  simp only [laws_FnExactReadComposed.j1]
  refine Wp.negB rfl (Wp.val t5 (Wp.val t6 (Wp.neg (by omega) (Wp.pos (by trivial) (Wp.val t1 (Wp.val v2 (Wp.val t4 (Wp.posB rfl ?_))))))))
  dsimp only
  rw [show (e != e) = false by simp]
  refine Wp.step ?_
  simp only [laws_FnExactReadComposed.j2]
  exact Wp.negB rfl (Wp.val t6 (Wp.neg (by omega) (Wp.pos (by trivial) (Wp.now rfl))))
end Go.Proofs.YtmeflmlejcmckaaDoor.Pure
