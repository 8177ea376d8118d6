/- HandsOf of the program returns what the reference's returns, for all arguments. -/
import Derived.Test.YtfelkjbfeenmbaaPuH1
import Derived.Test.YtfelkjbfeenmbaaPHx6
import Derived.Test.YtfelkjbfeenmbaaPHx10
import Derived.Test.YtfelkjbfeenmbaaPHx11
import Derived.Test.YtfelkjbfeenmbaaPHx12
namespace Go.Proofs.Ytfelkjbfeenmbaa.Pure
open Go.RowKit Go.Proofs.Ytfelkjbfeenmbaa.PH Go.Proofs.YtfelkjbfeenmbaaW.PrintWords Go.Proofs.YtfelkjbfeenmbaaW.PrintLast
set_option linter.unusedSimpArgs false
theorem askN_hands {l : List S26} {c : List Int} (h : askN l c = 0) (i : Int) (h0 : 0 ≤ i) (h1 : i < l.length) : 1 ≤ (rd_T26 l i).f1 ∧ (rd_T26 l i).f1 ≤ 3 := by
  unfold askN at h
  by_cases hv : validB l = true
  · unfold validB at hv
    simp only [Bool.and_eq_true, decide_eq_true_eq] at hv
    have := allI_true.1 hv.2 i h0 (by omega)
    unfold atB at this
    rw [Bool.and_eq_true] at this
    have h2 := this.1
    unfold oneB at h2
    simp only [Bool.and_eq_true] at h2
    exact within_iff.1 h2.1.2
  · rw [if_neg hv] at h; omega
def letV (n : Int) : ByteArray := if n = 1 then (⟨#[108]⟩ : ByteArray) else if n = 2 then (⟨#[114]⟩ : ByteArray) else (⟨#[98]⟩ : ByteArray)
theorem letV_size (n : Int) : (letV n).size = 1 := by
  unfold letV
  split
  · rfl
  · split <;> rfl
theorem letter_f (n : Int) : spec_l18Letter.f n = some (letV n) := by
  unfold spec_l18Letter.f letV
  by_cases a : n = 1
  · rw [if_pos a, if_pos a]
  · rw [if_neg a, if_neg a]
    by_cases b : n = 2
    · rw [if_pos b, if_pos b]
    · rw [if_neg b, if_neg b]
theorem hand_f (n : Int) (h : 1 ≤ n ∧ n ≤ 3) : impl_handText.f n = some (letV n) := by
  unfold impl_handText.f letV
  by_cases a : n = 1
  · rw [if_pos a, if_pos a]
  · rw [if_neg a, if_neg a]
    by_cases b : n = 2
    · rw [if_pos b, if_pos b]
    · rw [if_neg b, if_neg b, if_pos (by omega)]
def handsV (l : List S26) (c : List Int) : Nat → ByteArray → Int → ByteArray
  | 0, s, _ => s
  | d + 1, s, i => handsV l c d (s ++ letV (rd_T26 l (rd c i)).f1) (i + 1)
theorem hands_ev {l : List S26} {c : List Int} (h : askN l c = 0) : (∃ K, ∀ k, K ≤ k → spec_HandsOf.l0 k l c (⟨#[]⟩ : ByteArray) 0 = some (handsV l c c.length (⟨#[]⟩ : ByteArray) 0, 0)) ∧ ∃ K, ∀ k, K ≤ k → impl_HandsOf.l0 k l (⟨#[]⟩ : ByteArray) c (c.length : Int) 0 = some (handsV l c c.length (⟨#[]⟩ : ByteArray) 0, 0) := by
  obtain ⟨hc, hl, hr⟩ := askN_zero h
  have L : ∀ (d : Nat) (s : ByteArray) (i : Int), s.size + d ≤ 64 → 0 ≤ i → i + d = c.length → ∀ k, d < k → spec_HandsOf.l0 k l c s i = some (handsV l c d s i, 0) ∧ impl_HandsOf.l0 k l s c (c.length : Int) i = some (handsV l c d s i, 0) := by
    intro d
    induction d with
    | zero =>
      intro s i hs h0 h1 k hk
      obtain ⟨k, rfl⟩ : ∃ m, k = m + 1 := ⟨k - 1, by omega⟩
      simp only [spec_HandsOf.l0, impl_HandsOf.l0]
      rw [if_neg (by omega), if_neg (by omega)]
      exact ⟨rfl, rfl⟩
    | succ d ih =>
      intro s i hs h0 h1 k hk
      obtain ⟨k, rfl⟩ : ∃ m, k = m + 1 := ⟨k - 1, by omega⟩
      obtain ⟨r1, r2⟩ := hr i h0 (by omega)
      have hz := letV_size (rd_T26 l (rd c i)).f1
      simp only [spec_HandsOf.l0, impl_HandsOf.l0, handsV]
      rw [letter_f, hand_f _ (askN_hands h _ r1 r2)]
      simp only [Option.bind_some]
      simp only [show i < (c.length : Int) by omega, h0, r1, r2, show s.size + (letV (rd_T26 l (rd c i)).f1).size ≤ 9223372036854775807 by omega, if_true]
      rw [w64 (n := i + 1) (by omega) (by omega)]
      exact ih _ (i + 1) (by rw [ByteArray.size_append]; omega) (by omega) (by omega) k (by omega)
  exact ⟨⟨c.length + 1, fun k hk => (L c.length (⟨#[]⟩ : ByteArray) 0 (by show 0 + c.length ≤ 64; omega) (by omega) (by omega) k (by omega)).1⟩, ⟨c.length + 1, fun k hk => (L c.length (⟨#[]⟩ : ByteArray) 0 (by show 0 + c.length ≤ 64; omega) (by omega) (by omega) k (by omega)).2⟩⟩
theorem both (l : List S26) (c : List Int) (hl : l.length ≤ maxLen) (h : ∀ x ∈ l, x.f0.size ≤ maxLen) (hc : c.length ≤ maxLen) : ∃ v : ByteArray × Int, (∃ K, ∀ k, K ≤ k → spec_HandsOf.f k l c = some v) ∧ ∃ K, ∀ k, K ≤ k → impl_HandsOf.f k l c = some v := by
  obtain ⟨K1, h1⟩ := l18Ask_ev l c hl h hc
  obtain ⟨K2, h2⟩ := composedCode_ev l c hl h
  by_cases e : askN l c = 0
  · obtain ⟨⟨K3, h3⟩, K4, h4⟩ := hands_ev e
    refine ⟨(handsV l c c.length (⟨#[]⟩ : ByteArray) 0, 0), ⟨K1 + K3, fun k hk => ?_⟩, K2 + K4, fun k hk => ?_⟩
    · simp only [spec_HandsOf.f]
      rw [h1 k (by omega)]
      simp only [Option.bind_some]
      rw [if_pos e, h3 k (by omega)]
    · simp only [impl_HandsOf.f]
      rw [h2 k (by omega)]
      simp only [Option.bind_some]
      rw [if_pos e, h4 k (by omega)]
  · refine ⟨((⟨#[]⟩ : ByteArray), askN l c), ⟨K1, fun k hk => ?_⟩, K2, fun k hk => ?_⟩
    · simp only [spec_HandsOf.f]
      rw [h1 k (by omega)]
      simp only [Option.bind_some]
      rw [if_neg e]
    · simp only [impl_HandsOf.f]
      rw [h2 k (by omega)]
      simp only [Option.bind_some]
      rw [if_neg e]

theorem FnExactHandsOf : laws_FnExactHandsOf.Pure := by
  intro l c hl hc
  have hs : ∀ x ∈ l, x.f0.size ≤ maxLen := fun x hx => (hl.2 x hx).1
  obtain ⟨r, K0, hb, h0⟩ := szSyllableS_ev l hl.1 hs
  by_cases hcz : (c.length : Int) > 1048576
  · refine ⟨0, ?_⟩
    simp only [laws_FnExactHandsOf.f]
    rw [if_pos hcz]
  by_cases h : r < 0
  · refine ⟨K0, ?_⟩
    simp only [laws_FnExactHandsOf.f]
    rw [if_neg hcz, h0 K0 (by omega)]
    simp only [Option.bind_some]
    rw [if_pos h]
  · have hb1 := hb (by omega)
    have hm : (l.map conv).length ≤ maxLen := by rw [List.length_map]; exact hl.1
    obtain ⟨K1, h1⟩ := toSyllableS_ev l hb1
    obtain ⟨K2, h2⟩ := eqSyllableS_ev (l.map conv) hm
    obtain ⟨K5, h5⟩ := toInt64S_ev c (by omega)
    obtain ⟨K6, h6⟩ := eqInt64S_ev c hc.1
    obtain ⟨v, ⟨K3, h3⟩, K4, h4⟩ := both (l.map conv) c hm (conv_size hs) hc.1
    refine ⟨K0 + K1 + K2 + K3 + K4 + K5 + K6 + 1, ?_⟩
    simp only [laws_FnExactHandsOf.f, laws_FnExactHandsOf.j0]
    rw [if_neg hcz, h0 _ (by omega)]
    simp only [Option.bind_some]
    rw [if_neg h, h1 (K0 + K1 + K2 + K3 + K4 + K5 + K6 + 1) (by omega)]
    simp only [Option.bind_some]
    rw [h5 (K0 + K1 + K2 + K3 + K4 + K5 + K6 + 1) (by omega)]
    simp only [Option.bind_some]
    rw [h3 _ (by omega), h4 _ (by omega)]
    simp only [Option.bind_some]
    simp only [if_true, bne_self_eq_false, Bool.false_eq_true, if_false]
    rw [h1 (K0 + K1 + K2 + K3 + K4 + K5 + K6) (by omega)]
    simp only [Option.bind_some]
    rw [h2 _ (by omega), h5 (K0 + K1 + K2 + K3 + K4 + K5 + K6) (by omega)]
    simp only [Option.bind_some, if_true]
    rw [h6 _ (by omega)]
    simp
end Go.Proofs.Ytfelkjbfeenmbaa.Pure
