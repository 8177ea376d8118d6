/- CountOf of the program returns what the reference's returns, for all arguments. -/
import Derived.Test.YtfelkjbfeenmbaaPu1
import Derived.Test.YtfelkjbfeenmbaaPx17
import Derived.Test.YtfelkjbfeenmbaaPx18
import Derived.Test.YtfelkjbfeenmbaaPx19
namespace Go.Proofs.Ytfelkjbfeenmbaa.Pure
open Go.RowKit Go.Proofs.Ytfelkjbfeenmbaa.P Go.Proofs.YtfelkjbfeenmbaaW.PrintWords Go.Proofs.YtfelkjbfeenmbaaW.PrintLast
set_option linter.unusedSimpArgs false
/-- c, c + 1, ..: n numbers. -/
def upL : Nat → Int → List Int
  | 0, _ => []
  | n + 1, c => c :: upL n (c + 1)
theorem upL_length : ∀ (n : Nat) (c : Int), (upL n c).length = n
  | 0, _ => rfl
  | n + 1, c => by simp [upL, upL_length n]
theorem upL_get : ∀ (n : Nat) (c : Int) (i : Nat), i < n → (upL n c)[i]? = some (c + i)
  | 0, _, i, h => by omega
  | n + 1, c, 0, _ => by simp [upL]
  | n + 1, c, i + 1, h => by
    simp only [upL, List.getElem?_cons_succ]
    rw [upL_get n (c + 1) i (by omega)]
    congr 1; omega
theorem mark_l0 (N : Nat) (c0 : Int) (h1 : 0 ≤ c0) (h2 : c0 ≤ 10000000) (hN : N ≤ 2000000) : ∀ (d : Nat) (l : List Int) (i : Int), 0 ≤ i → i + d = N → l.length = N → (∀ j : Nat, j < i.toNat → l[j]? = some (c0 + j)) → ∀ k, d < k → laws_markInt64S.l0 k l (c0 + i) i = some (c0 + N, upL N c0) := by
  intro d
  induction d with
  | zero =>
    intro l i h0 hi hl hp k hk
    obtain ⟨k, rfl⟩ : ∃ m, k = m + 1 := ⟨k - 1, by omega⟩
    simp only [laws_markInt64S.l0]
    rw [if_neg (by omega)]
    congr 1
    refine Prod.ext (by show c0 + i = c0 + N; omega) (List.ext_getElem? fun j => ?_)
    show l[j]? = (upL N c0)[j]?
    by_cases hj : j < N
    · rw [upL_get N c0 j hj]; exact hp j (by omega)
    · rw [List.getElem?_eq_none (by omega), List.getElem?_eq_none (by rw [upL_length]; omega)]
  | succ d ih =>
    intro l i h0 hi hl hp k hk
    obtain ⟨k, rfl⟩ : ∃ m, k = m + 1 := ⟨k - 1, by omega⟩
    simp only [laws_markInt64S.l0]
    rw [if_pos (by omega), if_pos h0, w64 (n := c0 + i + 1) (by omega) (by omega), w64 (n := i + 1) (by omega) (by omega), show c0 + i + 1 = c0 + (i + 1) by omega]
    refine ih _ (i + 1) (by omega) (by omega) (by simpa using hl) (fun j hj => ?_) k (by omega)
    by_cases e : j = i.toNat
    · subst e; rw [List.getElem?_set_self (by omega)]; congr 1; omega
    · rw [List.getElem?_set_ne (Ne.symm e)]; exact hp j (by omega)
theorem mark_ev (l : List Int) (c : Int) (h1 : 0 ≤ c) (h2 : c ≤ 10000000) (hN : l.length ≤ 2000000) : ∃ K, ∀ k, K ≤ k → laws_markInt64S.f k l c = some (c + l.length, upL l.length c) :=
  ⟨l.length + 1, fun k hk => by
    have := mark_l0 l.length c h1 h2 hN l.length l 0 (by omega) (by omega) rfl (fun j hj => by simp at hj) k (by omega)
    simpa [laws_markInt64S.f] using this⟩
theorem held_l0 (N : Nat) (c0 : Int) (h1 : 0 ≤ c0) (h2 : c0 ≤ 10000000) (hN : N ≤ 2000000) : ∀ (d : Nat) (i : Int), 0 ≤ i → i + d = N → ∀ k, d < k → laws_heldInt64S.l0 k (upL N c0) (c0 + i) i = some (c0 + N) := by
  intro d
  induction d with
  | zero =>
    intro i h0 hi k hk
    obtain ⟨k, rfl⟩ : ∃ m, k = m + 1 := ⟨k - 1, by omega⟩
    simp only [laws_heldInt64S.l0]
    rw [if_neg (by rw [upL_length]; omega)]
    congr 1; omega
  | succ d ih =>
    intro i h0 hi k hk
    obtain ⟨k, rfl⟩ : ∃ m, k = m + 1 := ⟨k - 1, by omega⟩
    simp only [laws_heldInt64S.l0]
    rw [if_pos (by rw [upL_length]; omega), if_pos h0, if_pos (by simp only [rd, List.getD_eq_getElem?_getD]; rw [upL_get N c0 i.toNat (by omega)]; simp; omega), w64 (n := c0 + i + 1) (by omega) (by omega), w64 (n := i + 1) (by omega) (by omega), show c0 + i + 1 = c0 + (i + 1) by omega]
    exact ih (i + 1) (by omega) (by omega) k (by omega)
theorem held_ev (N : Nat) (c : Int) (h1 : 0 ≤ c) (h2 : c ≤ 10000000) (hN : N ≤ 2000000) : ∃ K, ∀ k, K ≤ k → laws_heldInt64S.f k (upL N c) c = some (c + N) :=
  ⟨N + 1, fun k hk => by
    have := held_l0 N c h1 h2 hN N 0 (by omega) (by omega) k (by omega)
    simpa [laws_heldInt64S.f] using this⟩
theorem size1 (n : Int) : (strOfNums [n]).size = 1 := rfl
theorem markText_l0 : ∀ (d : Nat) (a : Int) (s : ByteArray), 0 ≤ a → a < 10 ^ d → d ≤ 10 → s.size + d ≤ 1000 → ∃ t, ∀ k, d < k → laws_markText.l0 k a s = some t
  | 0, a, s, h0, h1, _, hs => ⟨(⟨#[109]⟩ : ByteArray) ++ s, fun k hk => by
      obtain ⟨k, rfl⟩ : ∃ m, k = m + 1 := ⟨k - 1, by omega⟩
      simp only [laws_markText.l0]
      rw [if_neg (by simp at h1; omega), if_pos (by omega)]⟩
  | d + 1, a, s, h0, h1, hd, hs => by
    have hp : (10 : Int) ^ (d + 1) = 10 ^ d * 10 := Int.pow_succ ..
    have hb : (10 : Int) ^ (d + 1) ≤ 10 ^ 10 := by exact_mod_cast Nat.pow_le_pow_right (by decide) hd
    have hten : (10 : Int) ^ 10 = 10000000000 := by decide
    rw [hten] at hb
    by_cases e : a > 0
    · have hq : wrap64 (Int.tdiv a 10) = a / 10 := by rw [Int.tdiv_eq_ediv_of_nonneg h0]; exact w64 (by omega) (by omega)
      obtain ⟨t, ht⟩ := markText_l0 d (a / 10) (strOfNums [(wrap64 (48 + (Int.tmod a 10))) % 256] ++ s) (by omega) (by omega) (by omega) (by rw [ByteArray.size_append, size1]; omega)
      refine ⟨t, fun k hk => ?_⟩
      obtain ⟨k, rfl⟩ : ∃ m, k = m + 1 := ⟨k - 1, by omega⟩
      simp only [laws_markText.l0, Option.bind_some]
      rw [if_pos e, if_pos (by rw [size1]; omega), hq]
      exact ht k (by omega)
    · refine ⟨(⟨#[109]⟩ : ByteArray) ++ s, fun k hk => ?_⟩
      obtain ⟨k, rfl⟩ : ∃ m, k = m + 1 := ⟨k - 1, by omega⟩
      simp only [laws_markText.l0]
      rw [if_neg e, if_pos (by omega)]
theorem markText_ev (a : Int) (h0 : 0 ≤ a) (h1 : a < 10000000000) : ∃ t, ∀ k, 10 < k → laws_markText.f k a = some t := by
  by_cases e : a ≤ 0
  · exact ⟨_, fun k _ => by simp only [laws_markText.f]; rw [if_pos e]⟩
  · obtain ⟨t, ht⟩ := markText_l0 10 a ⟨#[]⟩ h0 (by simpa using h1) (by omega) (by decide)
    exact ⟨t, fun k hk => by simp only [laws_markText.f]; rw [if_neg e]; exact ht k hk⟩
theorem markSyllable_l0 : ∀ (d : Nat) (L : List S26) (c i : Int), 0 ≤ i → i + d = L.length → L.length ≤ 1048576 → 1 ≤ c → c + 3 * d ≤ 10000000 → ∃ L', ∀ k, d + 10 < k → laws_markSyllableS.l0 k L c i = some (c + 3 * d, L')
  | 0, L, c, i, h0, h1, _, _, _ => ⟨L, fun k hk => by
      obtain ⟨k, rfl⟩ : ∃ m, k = m + 1 := ⟨k - 1, by omega⟩
      simp only [laws_markSyllableS.l0]
      rw [if_neg (by omega)]; simp⟩
  | d + 1, L, c, i, h0, h1, hL, hc, hb => by
    obtain ⟨t, ht⟩ := markText_ev c (by omega) (by omega)
    generalize hL1 : (L.set i.toNat (⟨t, (rd_T26 L i).f1, (rd_T26 L i).f2⟩ : S26)) = L1
    generalize hL2 : (L1.set i.toNat (⟨(rd_T26 L1 i).f0, wrap64 (c + 1), (rd_T26 L1 i).f2⟩ : S26)) = L2
    generalize hL3 : (L2.set i.toNat (⟨(rd_T26 L2 i).f0, (rd_T26 L2 i).f1, wrap64 ((wrap64 (c + 1)) + 1)⟩ : S26)) = L3
    have l3 : L3.length = L.length := by rw [← hL3, ← hL2, ← hL1]; simp
    obtain ⟨L', h'⟩ := markSyllable_l0 d L3 (c + 3) (i + 1) (by omega) (by omega) (by omega) (by omega) (by omega)
    refine ⟨L', fun k hk => ?_⟩
    obtain ⟨k, rfl⟩ : ∃ m, k = m + 1 := ⟨k - 1, by omega⟩
    simp only [laws_markSyllableS.l0]
    rw [if_pos (by omega), ht k (by omega)]
    simp only [Option.bind_some]
    rw [if_pos h0, hL1, hL2, hL3, w64 (n := c + 1) (by omega) (by omega), w64 (n := c + 1 + 1) (by omega) (by omega), w64 (n := c + 1 + 1 + 1) (by omega) (by omega), w64 (n := i + 1) (by omega) (by omega), show c + 1 + 1 + 1 = c + 3 by omega, h' k (by omega)]
    congr 2
    omega
theorem markSyllableS_ev (l : List S26) (hl : l.length ≤ 1048576) : ∃ L' K, ∀ k, K ≤ k → laws_markSyllableS.f k l 1 = some (1 + 3 * (l.length : Int), L') := by
  obtain ⟨L', h⟩ := markSyllable_l0 l.length l 1 0 (by omega) (by omega) hl (by omega) (by omega)
  exact ⟨L', l.length + 11, fun k hk => h k (by omega)⟩
def cntV (c : List Int) : Nat → List Int → Int → List Int
  | 0, x, _ => x
  | d + 1, x, i => cntV c d (x.set (rd c i).toNat (wrap64 ((rd x (rd c i)) + 1))) (i + 1)
theorem cntV_length (c : List Int) : ∀ d x i, (cntV c d x i).length = x.length
  | 0, _, _ => rfl
  | d + 1, x, i => by simp only [cntV]; rw [cntV_length]; simp
theorem cnt_ev {l : List S26} {c : List Int} (h : askN l c = 0) : ∀ (d : Nat) (x : List Int) (i : Int), 0 ≤ i → i + d = c.length → x.length = l.length → ∀ k, d < k → spec_CountOf.l0 k c x i = some (cntV c d x i, 0) ∧ impl_CountOf.l0 k x c (c.length : Int) i = some (cntV c d x i, 0) := by
  obtain ⟨hc, hl, hr⟩ := askN_zero h
  intro d
  induction d with
  | zero =>
    intro x i h0 h1 hx k hk
    obtain ⟨k, rfl⟩ : ∃ m, k = m + 1 := ⟨k - 1, by omega⟩
    simp only [spec_CountOf.l0, impl_CountOf.l0]
    rw [if_neg (by omega), if_neg (by omega)]
    exact ⟨rfl, rfl⟩
  | succ d ih =>
    intro x i h0 h1 hx k hk
    obtain ⟨k, rfl⟩ : ∃ m, k = m + 1 := ⟨k - 1, by omega⟩
    obtain ⟨r1, r2⟩ := hr i h0 (by omega)
    rw [← hx] at r2
    simp only [spec_CountOf.l0, impl_CountOf.l0, cntV]
    simp only [show i < (c.length : Int) by omega, h0, r1, r2, if_true]
    rw [w64 (n := i + 1) (by omega) (by omega)]
    exact ih _ (i + 1) (by omega) (by omega) (by simpa using hx) k (by omega)
theorem both (l : List S26) (c : List Int) (hl : l.length ≤ maxLen) (h : ∀ x ∈ l, x.f0.size ≤ maxLen) (hc : c.length ≤ maxLen) : ∃ v : List Int × Int, v.1.length ≤ 16 ∧ (∃ K, ∀ k, K ≤ k → spec_CountOf.f k l c = some v) ∧ ∃ K, ∀ k, K ≤ k → impl_CountOf.f k l c = some v := by
  obtain ⟨K1, h1⟩ := l18Ask_ev l c hl h hc
  obtain ⟨K2, h2⟩ := composedCode_ev l c hl h
  by_cases e : askN l c = 0
  · have z := askN_zero e
    refine ⟨(cntV c c.length (List.replicate l.length 0) 0, 0), by show (cntV c _ _ _).length ≤ 16; rw [cntV_length, List.length_replicate]; omega, ⟨K1 + c.length + 1, fun k hk => ?_⟩, K2 + c.length + 1, fun k hk => ?_⟩
    · simp only [spec_CountOf.f]
      rw [h1 k (by omega)]
      simp only [Option.bind_some]
      rw [if_pos e, if_pos (by omega), if_pos (by omega)]
      exact (cnt_ev e c.length _ 0 (by omega) (by omega) (by simp) k (by omega)).1
    · simp only [impl_CountOf.f]
      rw [h2 k (by omega)]
      simp only [Option.bind_some]
      rw [if_pos e, if_pos (by omega), if_pos (by omega)]
      exact (cnt_ev e c.length _ 0 (by omega) (by omega) (by simp) k (by omega)).2
  · refine ⟨([], askN l c), by simp, ⟨K1, fun k hk => ?_⟩, K2, fun k hk => ?_⟩
    · simp only [spec_CountOf.f]
      rw [h1 k (by omega)]
      simp only [Option.bind_some]
      rw [if_neg e]
    · simp only [impl_CountOf.f]
      rw [h2 k (by omega)]
      simp only [Option.bind_some]
      rw [if_neg e]
theorem FnExactCountOf : laws_FnExactCountOf.Pure := by
  intro l c hl hc
  have hs : ∀ x ∈ l, x.f0.size ≤ maxLen := fun x hx => (hl.2 x hx).1
  obtain ⟨r, K0, hb, h0⟩ := szSyllableS_ev l hl.1 hs
  by_cases hcz : (c.length : Int) > 1048576
  · refine ⟨0, ?_⟩
    simp only [laws_FnExactCountOf.f]
    rw [if_pos hcz]
  by_cases h : r < 0
  · refine ⟨K0, ?_⟩
    simp only [laws_FnExactCountOf.f]
    rw [if_neg hcz, h0 K0 (by omega)]
    simp only [Option.bind_some]
    rw [if_pos h]
  · have hb1 := hb (by omega)
    have hm : (l.map conv).length ≤ maxLen := by rw [List.length_map]; exact hl.1
    obtain ⟨K1, h1⟩ := toSyllableS_ev l hb1
    obtain ⟨K2, h2⟩ := eqSyllableS_ev (l.map conv) hm
    obtain ⟨K5, h5⟩ := toInt64S_ev c (by omega)
    obtain ⟨K6, h6⟩ := eqInt64S_ev c hc.1
    obtain ⟨v, hv, ⟨K3, h3⟩, K4, h4⟩ := both (l.map conv) c hm (conv_size hs) hc.1
    obtain ⟨K7, h7⟩ := eqInt64S_ev v.1 (by unfold maxLen; omega)
    obtain ⟨L', K8, h8⟩ := markSyllableS_ev (l.map conv) (by rw [List.length_map]; exact hb1)
    rw [List.length_map] at h8
    obtain ⟨K9, h9⟩ := mark_ev c (1 + 3 * (l.length : Int)) (by omega) (by omega) (by omega)
    obtain ⟨K10, h10⟩ := mark_ev v.1 1 (by omega) (by omega) (by omega)
    obtain ⟨K11, h11⟩ := held_ev v.1.length 1 (by omega) (by omega) (by omega)
    generalize hZ : K0 + K1 + K2 + K3 + K4 + K5 + K6 + K7 + K8 + K9 + K10 + K11 = Z
    refine ⟨Z + 3, ?_⟩
    simp only [laws_FnExactCountOf.f, laws_FnExactCountOf.j0, laws_FnExactCountOf.j1, laws_FnExactCountOf.j2]
    rw [if_neg hcz, h0 _ (by omega)]
    simp only [Option.bind_some]
    rw [if_neg h, h1 (Z + 3) (by omega)]
    simp only [Option.bind_some]
    rw [h5 (Z + 3) (by omega)]
    simp only [Option.bind_some]
    rw [h3 _ (by omega), h4 (Z + 3) (by omega)]
    simp only [Option.bind_some]
    rw [h7 (Z + 3) (by omega)]
    simp only [Option.bind_some, if_true, bne_self_eq_false, Bool.false_eq_true, if_false]
    rw [h1 (Z + 2) (by omega)]
    simp only [Option.bind_some]
    rw [h2 _ (by omega), h5 (Z + 2) (by omega)]
    simp only [Option.bind_some, if_true]
    rw [h6 _ (by omega), h8 _ (by omega)]
    simp only [Option.bind_some, if_true]
    rw [h9 _ (by omega)]
    simp only [Option.bind_some]
    rw [if_neg (by omega), h7 (Z + 2) (by omega)]
    simp only [Option.bind_some, if_true]
    rw [h10 _ (by omega)]
    simp only [Option.bind_some]
    rw [h11 (Z + 1) (by omega)]
    simp only [Option.bind_some, if_true]
    rw [if_neg (by omega), h1 (Z + 1) (by omega)]
    simp only [Option.bind_some]
    rw [h5 (Z + 1) (by omega)]
    simp only [Option.bind_some]
    rw [h4 (Z + 1) (by omega)]
    simp only [Option.bind_some]
    rw [h7 (Z + 1) (by omega)]
    simp only [Option.bind_some, if_true, bne_self_eq_false, Bool.false_eq_true, if_false]
    rw [h11 Z (by omega)]
    simp only [Option.bind_some, if_true]
    split
    · omega
    · rfl
end Go.Proofs.Ytfelkjbfeenmbaa.Pure
