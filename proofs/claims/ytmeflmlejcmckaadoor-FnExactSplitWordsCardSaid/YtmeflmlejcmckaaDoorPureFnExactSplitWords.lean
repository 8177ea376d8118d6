/- SplitWords of the program returns what the reference's returns, for all arguments. -/
import Derived.Test.YtmeflmlejcmckaaDoorPuS2
import Derived.Test.YtmeflmlejcmckaaDoorPSx1
import Derived.Test.YtmeflmlejcmckaaDoorPSx2
import Derived.Test.YtmeflmlejcmckaaDoorPSx3
import Derived.Test.YtmeflmlejcmckaaDoorPSx4
namespace Go.Proofs.YtmeflmlejcmckaaDoor.Pure
open Go.RowKit Go.Proofs.YtmeflmlejcmckaaDoor.PS Go.Proofs.YtmeflmlejcmckaaDoorW.PrintWords Go.Proofs.YtmeflmlejcmckaaDoorW.PrintLast
set_option linter.unusedSimpArgs false
set_option linter.unusedVariables false
theorem size1 (n : Int) : (strOfNums [n]).size = 1 := rfl
theorem markText_l0 : ∀ (d : Nat) (a : Int) (s : ByteArray), 0 ≤ a → a < 10 ^ d → d ≤ 10 → s.size + d ≤ 1000 → ∃ t, ∀ k, d < k → laws_markText.l0 k a s = some t
  | 0, a, s, h0, h1, _, hs => ⟨(⟨#[109]⟩ : ByteArray) ++ s, fun k hk => by
      obtain ⟨k, rfl⟩ : ∃ m, k = m + 1 := ⟨k - 1, by omega⟩
      simp only [laws_markText.l0]
      rw [if_neg (by simp at h1; omega), if_pos (by omega)]⟩
  | d + 1, a, s, h0, h1, hd, hs => by
    have hp : (10 : Int) ^ (d + 1) = 10 ^ d * 10 := Int.pow_succ ..
    have hb : (10 : Int) ^ (d + 1) ≤ 10 ^ 10 := by exact_mod_cast Nat.pow_le_pow_right (by decide) hd
    have hten : (10 : Int) ^ 10 = 10000000000 := by decide
    rw [hten] at hb
    by_cases e : a > 0
    · have hq : wrap64 (Int.tdiv a 10) = a / 10 := by rw [Int.tdiv_eq_ediv_of_nonneg h0]; exact w64 (by omega) (by omega)
      obtain ⟨t, ht⟩ := markText_l0 d (a / 10) (strOfNums [(wrap64 (48 + (Int.tmod a 10))) % 256] ++ s) (by omega) (by omega) (by omega) (by rw [ByteArray.size_append, size1]; omega)
      refine ⟨t, fun k hk => ?_⟩
      obtain ⟨k, rfl⟩ : ∃ m, k = m + 1 := ⟨k - 1, by omega⟩
      simp only [laws_markText.l0, Option.bind_some]
      rw [if_pos e, if_pos (by rw [size1]; omega), hq]
      exact ht k (by omega)
    · refine ⟨(⟨#[109]⟩ : ByteArray) ++ s, fun k hk => ?_⟩
      obtain ⟨k, rfl⟩ : ∃ m, k = m + 1 := ⟨k - 1, by omega⟩
      simp only [laws_markText.l0]
      rw [if_neg e, if_pos (by omega)]
theorem markText_ev (a : Int) (h0 : 0 ≤ a) (h1 : a < 10000000000) : ∃ t, ∀ k, 10 < k → laws_markText.f k a = some t := by
  by_cases e : a ≤ 0
  · exact ⟨_, fun k _ => by simp only [laws_markText.f]; rw [if_pos e]⟩
  · obtain ⟨t, ht⟩ := markText_l0 10 a ⟨#[]⟩ h0 (by simpa using h1) (by omega) (by decide)
    exact ⟨t, fun k hk => by simp only [laws_markText.f]; rw [if_neg e]; exact ht k hk⟩
def neT (x : ByteArray) : Bool := !decide (x.toList = ([] : List UInt8))
theorem rdS_get {c : List ByteArray} {i : Int} (h0 : 0 ≤ i) (h1 : i < c.length) : rdOf ByteArray.empty c i = c[i.toNat]'(by omega) := by
  simp [rdOf, List.getD_eq_getElem?_getD, List.getElem?_eq_getElem (show i.toNat < c.length by omega)]
theorem rdS_drop {c : List ByteArray} {i : Int} (h0 : 0 ≤ i) (h1 : i < c.length) : c.drop i.toNat = rdOf ByteArray.empty c i :: c.drop (i + 1).toNat := by
  rw [rdS_get h0 h1, show (i + 1).toNat = i.toNat + 1 by omega]
  exact List.drop_eq_getElem_cons (by omega)
theorem words_spec {c : List ByteArray} (hc : c.length ≤ 2000000) : ∀ (d : Nat) (i : Int) (acc : List ByteArray), 0 ≤ i → i + d = c.length → (acc.length : Int) ≤ i →
    Wp (fun k => spec_SplitWords.l0 k c acc i) (fun r => r = acc ++ (c.drop i.toNat).filter neT)
  | 0, i, acc, h0, h1, h2 => by
    refine Wp.step ?_
    simp only [spec_SplitWords.l0]
    rw [List.drop_eq_nil_of_le (show c.length ≤ i.toNat by omega)]
    exact Wp.neg (by omega) (Wp.now (by simp))
  | d + 1, i, acc, h0, h1, h2 => by
    refine Wp.step ?_
    simp only [spec_SplitWords.l0]
    rw [w64 (n := i + 1) (by omega) (by omega), rdS_drop h0 (by omega), List.filter_cons]
    refine Wp.pos (by omega) (Wp.pos h0 (Wp.ite (fun e => ?_) (fun e => Wp.pos (by omega) ?_)))
    · rw [if_neg (by simp [neT, e])]
      exact words_spec hc d (i + 1) acc (by omega) (by omega) (by omega)
    · rw [if_pos (by simp [neT, e])]
      refine (words_spec hc d (i + 1) (acc ++ [rdOf ByteArray.empty c i]) (by omega) (by omega) (by simp; omega)).mono ?_
      rintro r rfl
      simp
theorem words_impl {c : List ByteArray} (hc : c.length ≤ 2000000) : ∀ (d : Nat) (i : Int) (acc : List ByteArray), 0 ≤ i → i + d = c.length → (acc.length : Int) ≤ i →
    Wp (fun k => impl_SplitWords.l0 k acc c (c.length : Int) i) (fun r => r = acc ++ (c.drop i.toNat).filter neT)
  | 0, i, acc, h0, h1, h2 => by
    refine Wp.step ?_
    simp only [impl_SplitWords.l0]
    rw [List.drop_eq_nil_of_le (show c.length ≤ i.toNat by omega)]
    exact Wp.neg (by omega) (Wp.now (by simp))
  | d + 1, i, acc, h0, h1, h2 => by
    refine Wp.step ?_
    simp only [impl_SplitWords.l0]
    rw [w64 (n := i + 1) (by omega) (by omega), rdS_drop h0 (by omega), List.filter_cons]
    refine Wp.pos (by omega) (Wp.pos h0 (Wp.pos (by omega) (Wp.ite (fun e => ?_) (fun e => Wp.pos (by omega) ?_))))
    · rw [if_neg (by simp [neT, e])]
      exact words_impl hc d (i + 1) acc (by omega) (by omega) (by omega)
    · rw [if_pos (by simp [neT, e])]
      refine (words_impl hc d (i + 1) (acc ++ [rdOf ByteArray.empty c i]) (by omega) (by omega) (by simp; omega)).mono ?_
      rintro r rfl
      simp
theorem eqStringS_wp {l : List ByteArray} (hl : l.length ≤ 2000000) : Wp (fun k => laws_eqStringS.f k l l) (fun r => r = true) := by
  have H : ∀ (d : Nat) (i : Int), 0 ≤ i → i + d = l.length → Wp (fun k => laws_eqStringS.l0 k l l i) (fun r => r = true) := by
    intro d
    induction d with
    | zero =>
      intro i h0 h1
      refine Wp.step ?_
      simp only [laws_eqStringS.l0]
      exact Wp.neg (by omega) (Wp.now rfl)
    | succ d ih =>
      intro i h0 h1
      refine Wp.step ?_
      simp only [laws_eqStringS.l0]
      rw [w64 (n := i + 1) (by omega) (by omega)]
      exact Wp.pos (by omega) (Wp.pos h0 (Wp.pos (by omega) (Wp.pos (by trivial) (ih (i + 1) (by omega) (by omega)))))
  simp only [laws_eqStringS.f]
  exact Wp.pos (by trivial) (H l.length 0 (by omega) (by omega))
/-- The mark of a number. -/
def mk (a : Int) (v : ByteArray) : Prop := ∀ k, 10 < k → laws_markText.f k a = some v
theorem markStringS_l0 (n : Nat) (hn : n ≤ 2000000) : ∀ (d : Nat) (i : Int) (l : List ByteArray), 0 ≤ i → i + d = n → l.length = n → (∀ j : Int, 0 ≤ j → j < i → mk (1 + j) (rdOf ByteArray.empty l j)) →
    Wp (fun k => laws_markStringS.l0 k l (1 + i) i) (fun r => r.1 = 1 + n ∧ r.2.length = n ∧ ∀ j : Int, 0 ≤ j → j < n → mk (1 + j) (rdOf ByteArray.empty r.2 j))
  | 0, i, l, h0, h1, h2, h3 => by
    refine Wp.step ?_
    simp only [laws_markStringS.l0]
    exact Wp.neg (by omega) (Wp.now ⟨by omega, h2, fun j a b => h3 j a (by omega)⟩)
  | d + 1, i, l, h0, h1, h2, h3 => by
    obtain ⟨v, hv⟩ := markText_ev (1 + i) (by omega) (by omega)
    refine Wp.step ?_
    simp only [laws_markStringS.l0]
    rw [w64 (n := i + 1) (by omega) (by omega), w64 (n := 1 + i + 1) (by omega) (by omega), show 1 + i + 1 = 1 + (i + 1) by omega]
    refine Wp.pos (by omega) (Wp.val (a := v) ⟨v, rfl, 11, fun k hk => hv k (by omega)⟩ (Wp.pos h0 ?_))
    refine markStringS_l0 n hn d (i + 1) _ (by omega) (by omega) (by simpa using h2) (fun j a b => ?_)
    by_cases e : j = i
    · subst e
      rw [rdS_get a (by simp; omega), List.getElem_set_self]
      exact hv
    · have := h3 j a (by omega)
      rw [rdS_get a (by omega)] at this
      rw [rdS_get a (by simp; omega), List.getElem_set_ne (by omega)]
      exact this
theorem heldStringS_l0 (l : List ByteArray) (hl : l.length ≤ 2000000) (hm : ∀ j : Int, 0 ≤ j → j < l.length → mk (1 + j) (rdOf ByteArray.empty l j)) : ∀ (d : Nat) (i : Int), 0 ≤ i → i + d = l.length →
    Wp (fun k => laws_heldStringS.l0 k l (1 + i) i) (fun r => r = 1 + l.length)
  | 0, i, h0, h1 => by
    refine Wp.step ?_
    simp only [laws_heldStringS.l0]
    exact Wp.neg (by omega) (Wp.now (by omega))
  | d + 1, i, h0, h1 => by
    have hv := hm i h0 (by omega)
    refine Wp.step ?_
    simp only [laws_heldStringS.l0]
    rw [w64 (n := i + 1) (by omega) (by omega), w64 (n := 1 + i + 1) (by omega) (by omega), show 1 + i + 1 = 1 + (i + 1) by omega]
    exact Wp.pos (by omega) (Wp.pos h0 (Wp.val (a := rdOf ByteArray.empty l i) ⟨_, rfl, 11, fun k hk => hv k (by omega)⟩ (Wp.pos (by trivial) (heldStringS_l0 l hl hm d (i + 1) (by omega) (by omega)))))
theorem splitU_len (a : ByteArray) (ha : a.size ≤ 1048576) : ((spU 32 [] a.data.toList).map BA).length ≤ 1048577 := by
  rw [List.length_map, spU_length]
  have := List.count_le_length (l := a.data.toList) (a := 32)
  rw [len_data] at this
  omega
theorem split_f (a : ByteArray) (ha : a.size ≤ 1048576) : strings_Split.f a (⟨#[32]⟩ : ByteArray) = some ((spU 32 [] a.data.toList).map BA) := by
  unfold strings_Split.f
  rw [if_pos ⟨by omega, rfl⟩, splitB_eq, spK_enough _ _ _ _ (by rw [countB_eq]; exact Nat.le_refl _)]
theorem FnExactSplitWords : laws_FnExactSplitWords.Pure := by
  intro a _
  refine Wp.rounds ?_
  simp only [laws_FnExactSplitWords.f]
  refine Wp.ite (fun _ => Wp.now rfl) (fun h => ?_)
  have ha : a.size ≤ 1048576 := by omega
  have hc := splitU_len a ha
  have hS : Wp (fun k => spec_SplitWords.f k a) (fun r => r = ((spU 32 [] a.data.toList).map BA).filter neT) := by
    simp only [spec_SplitWords.f]
    refine Wp.val (l01Split_wp a 32 ha) ?_
    refine (words_spec (by omega) ((spU 32 [] a.data.toList).map BA).length 0 [] (by omega) (by omega) (by simp)).mono ?_
    rintro r rfl
    simp
  have hI : Wp (fun k => impl_SplitWords.f k a) (fun r => r = ((spU 32 [] a.data.toList).map BA).filter neT) := by
    simp only [impl_SplitWords.f]
    refine Wp.calls (split_f a ha) ?_
    refine (words_impl (by omega) ((spU 32 [] a.data.toList).map BA).length 0 [] (by omega) (by omega) (by simp)).mono ?_
    rintro r rfl
    simp
  have hf : (((spU 32 [] a.data.toList).map BA).filter neT).length ≤ 1048577 := Nat.le_trans (List.length_filter_le _ _) hc
  generalize ((spU 32 [] a.data.toList).map BA).filter neT = w at hS hI hf
  have hE := eqStringS_wp (l := w) (by omega)
  refine Wp.val hS (Wp.val hI (Wp.val hE (Wp.posB rfl ?_)))
  have hM : Wp (fun k => laws_markStringS.f k w 1) (fun r => r.1 = 1 + (w.length : Int) ∧ r.2.length = w.length ∧ ∀ j : Int, 0 ≤ j → j < w.length → mk (1 + j) (rdOf ByteArray.empty r.2 j)) := by
    simp only [laws_markStringS.f]
    exact markStringS_l0 w.length (by omega) w.length 0 w (by omega) (by omega) rfl (fun j a b => by omega)
  refine Wp.call hM ?_
  rintro ⟨q, m⟩ ⟨h1, h2, h3⟩
  dsimp only at h1 h2 h3 ⊢
  have hH : Wp (fun k => laws_heldStringS.f k m 1) (fun r => r = q) := by
    simp only [laws_heldStringS.f]
    refine (heldStringS_l0 m (by omega) (by rw [h2]; exact h3) m.length 0 (by omega) (by omega)).mono ?_
    rintro r rfl
    rw [h1, h2]
  exact Wp.val hH (Wp.neg (by omega) (Wp.pos (by trivial) (Wp.val hI (Wp.val hE (Wp.posB rfl (Wp.val hH (Wp.neg (by omega) (Wp.pos (by trivial) (Wp.now rfl)))))))))
end Go.Proofs.YtmeflmlejcmckaaDoor.Pure
