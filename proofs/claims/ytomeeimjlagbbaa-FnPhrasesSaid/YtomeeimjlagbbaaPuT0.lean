/- Plain facts: what is drawn of bytes: phrases and pitches. -/
import Derived.Laws.Closers25b
import Derived.Laws.Bits64b
import Derived.Test.YtomeeimjlagbbaaPTx2
import Derived.Test.YtomeeimjlagbbaaPTx3
import Derived.Test.YtomeeimjlagbbaaPTx4
import Derived.Test.YtomeeimjlagbbaaPTx7
import Derived.Test.YtomeeimjlagbbaaPTx8
namespace Go.Proofs.Ytomeeimjlagbbaa.Pure
open Go.RowKit Go.Proofs.Ytomeeimjlagbbaa.PT Go.Proofs.YtomeeimjlagbbaaW.PrintWords Go.Proofs.YtomeeimjlagbbaaW.PrintLast
set_option linter.unusedSimpArgs false
theorem w64 {n : Int} (h0 : -9223372036854775808 ≤ n) (h1 : n ≤ 9223372036854775807) : wrap64 n = n := by unfold wrap64; omega
theorem up_fuel {α : Type} {f : Nat → Option α} (hm : ∀ k, LeO (f k) (f (k + 1))) {K : Nat} {r : α} (h : f K = some r) : ∀ k, K ≤ k → f k = some r := by
  intro k hk
  obtain ⟨d, rfl⟩ : ∃ d, k = K + d := ⟨k - K, by omega⟩
  induction d with
  | zero => exact h
  | succ d ih => exact hm _ _ (ih (by omega))
def Bytes (l : List Int) : Prop := ∀ y ∈ l, (Lit.int .u8 y).wf = true
theorem byte_bd {l : List Int} (h : Bytes l) {i : Int} (h0 : 0 ≤ i) (h1 : i < l.length) : 0 ≤ rd l i ∧ rd l i ≤ 255 := by
  have e : rd l i ∈ l := by
    rw [show rd l i = l[i.toNat]'(by omega) from by simp [rd, List.getD_eq_getElem?_getD, List.getElem?_eq_getElem (show i.toNat < l.length by omega)]]
    exact List.getElem_mem _
  have := h _ e
  simp only [Lit.wf, Bool.and_eq_true, decide_eq_true_eq] at this
  have h2 : IntKind.min .u8 = 0 := by rfl
  have h3 : IntKind.max .u8 = 255 := by rfl
  omega
theorem and255 (x : Int) : 0 ≤ Go.bits .and .u64 (IntKind.u64.wrap x / 1099511627776) 255 ∧ Go.bits .and .u64 (IntKind.u64.wrap x / 1099511627776) 255 ≤ 255 := by
  have hw : 0 ≤ IntKind.u64.wrap x ∧ IntKind.u64.wrap x < 18446744073709551616 := by rw [IntKind.wrap_u64]; omega
  generalize IntKind.u64.wrap x = y at hw
  obtain ⟨n, hn⟩ : ∃ n : Nat, y / 1099511627776 = n := ⟨(y / 1099511627776).toNat, by omega⟩
  rw [hn, show (255 : Int) = ((255 : Nat) : Int) from rfl, bits_and_u64_nat n 255 (by omega) (by decide)]
  have := Nat.and_le_right (n := n) (m := 255)
  omega
theorem next_ev {l : List Int} (_ : l.length ≤ maxLen) (hb : Bytes l) (s1 s2 : Int) (h0 : 0 ≤ s1) (h1 : s1 ≤ 1000000000) :
    ∃ x s2', spec_l00Src_next.f l s1 s2 = some (x, s1 + 1, s2') ∧ 0 ≤ x ∧ x ≤ 255 := by
  have hm : wrap64 (s1 + 1) = s1 + 1 := w64 (by omega) (by omega)
  unfold spec_l00Src_next.f
  rw [hm]
  by_cases c : s1 < (l.length : Int)
  · have hr := byte_bd hb h0 c
    rw [if_pos c, if_pos h0, if_pos (by omega), w64 (n := rd l s1) (by omega) (by omega)]
    exact ⟨_, _, rfl, hr⟩
  · rw [if_neg c]
    by_cases d : s1 + 1 ≤ (l.length : Int)
    · omega
    · rw [if_neg d]
      refine ⟨_, _, rfl, ?_⟩
      have ha := and255 ((IntKind.u64.wrap ((IntKind.u64.wrap (s2 * 6364136223846793005)))) + 1442695040888963407)
      rw [w64 (by omega) (by omega)]
      exact ha
theorem pick_ev {l : List Int} (hl : l.length ≤ maxLen) (hb : Bytes l) (s1 s2 n : Int) (h0 : 0 ≤ s1) (h1 : s1 ≤ 100000000) (hn : 1 ≤ n) :
    ∃ x s1' s2', spec_l00Src_pick.f l s1 s2 n = some (x, s1', s2') ∧ 0 ≤ x ∧ x < n ∧ s1 ≤ s1' ∧ s1' ≤ s1 + 2 := by
  unfold spec_l00Src_pick.f
  by_cases c : n ≤ 1
  · rw [if_pos c]; exact ⟨0, s1, s2, rfl, by omega, by omega, by omega, by omega⟩
  · rw [if_neg c]
    obtain ⟨x, t2, e1, hx1, hx2⟩ := next_ev hl hb s1 s2 h0 (by omega)
    rw [e1]
    simp only [Option.bind_some]
    by_cases d : n > 200
    · rw [if_pos d]
      obtain ⟨y, t3, e2, hy1, hy2⟩ := next_ev hl hb (s1 + 1) t2 (by omega) (by omega)
      rw [e2]
      simp only [Option.bind_some]
      rw [if_neg (by omega), w64 (n := x * 256) (by omega) (by omega), w64 (n := x * 256 + y) (by omega) (by omega)]
      exact ⟨_, _, _, rfl, Int.tmod_nonneg _ (by omega), Int.tmod_lt_of_pos _ (by omega), by omega, by omega⟩
    · rw [if_neg d, if_neg (by omega)]
      exact ⟨_, _, _, rfl, Int.tmod_nonneg _ (by omega), Int.tmod_lt_of_pos _ (by omega), by omega, by omega⟩
theorem among_ev {l : List Int} (hl : l.length ≤ maxLen) (hb : Bytes l) (s1 s2 : Int) (h0 : 0 ≤ s1) (h1 : s1 ≤ 100000000) (L : List Int) (hL : 1 ≤ L.length) :
    ∃ x s1' s2', spec_l00Src_among.f l s1 s2 L = some (x, s1', s2') ∧ s1 ≤ s1' ∧ s1' ≤ s1 + 2 ∧ x ∈ L := by
  obtain ⟨x, t1, t2, e, x0, x1, p0, p1⟩ := pick_ev hl hb s1 s2 (L.length : Int) h0 h1 (by omega)
  refine ⟨rd L x, t1, t2, ?_, p0, p1, ?_⟩
  · simp only [spec_l00Src_among.f]
    rw [e]
    simp only [Option.bind_some]
    rw [if_pos x0, if_pos x1]
  · rw [show rd L x = L[x.toNat]'(by omega) from by simp [rd, List.getD_eq_getElem?_getD, List.getElem?_eq_getElem (show x.toNat < L.length by omega)]]
    exact List.getElem_mem _
theorem phrase_l0 {c : List Int} (hc : c.length ≤ maxLen) (hb : Bytes c) : ∀ (d : Nat) (s1 s2 : Int) (L : List Int), 0 ≤ s1 → s1 + 2 * d ≤ 10000 → L.length + d ≤ 100 → d ≤ 10 →
    ∃ M t1 t2, M.length = L.length + d ∧ s1 ≤ t1 ∧ t1 ≤ s1 + 2 * d ∧ ∀ k, d < k → spec_l06DrawPhrase.l0 k L ((d : Int) - 1) c s1 s2 = some (M, t1, t2)
  | 0, s1, s2, L, _, _, _, _ => ⟨L, s1, s2, by omega, by omega, by omega, fun k hk => by
      obtain ⟨k, rfl⟩ : ∃ m, k = m + 1 := ⟨k - 1, by omega⟩
      simp only [spec_l06DrawPhrase.l0]
      rw [if_neg (by omega)]⟩
  | d + 1, s1, s2, L, h0, h1, h2, h3 => by
    obtain ⟨x, u1, u2, e, p0, p1, _⟩ := among_ev hc hb s1 s2 h0 (by omega) [0, 2, 4, 7, 0, 2] (by decide)
    obtain ⟨M, t1, t2, hM, q0, q1, h⟩ := phrase_l0 hc hb d u1 u2 (L ++ [x]) (by omega) (by omega) (by simp; omega) (by omega)
    refine ⟨M, t1, t2, by rw [hM]; simp; omega, by omega, by omega, fun k hk => ?_⟩
    obtain ⟨k, rfl⟩ : ∃ m, k = m + 1 := ⟨k - 1, by omega⟩
    simp only [spec_l06DrawPhrase.l0]
    rw [if_pos (by omega), e]
    simp only [Option.bind_some]
    rw [if_pos (by omega), w64 (by omega) (by omega), show ((d + 1 : Nat) : Int) - 1 - 1 = (d : Int) - 1 by omega]
    exact h k (by omega)
theorem phrase_ev {c : List Int} (hc : c.length ≤ maxLen) (hb : Bytes c) (s1 s2 : Int) (h0 : 0 ≤ s1) (h1 : s1 ≤ 9000) :
    ∃ M t1 t2, 2 ≤ M.length ∧ M.length ≤ 4 ∧ s1 ≤ t1 ∧ t1 ≤ s1 + 10 ∧ ∀ k, 10 < k → spec_l06DrawPhrase.f k c s1 s2 = some (M, t1, t2) := by
  obtain ⟨x, u1, u2, e, x0, x1, p0, p1⟩ := pick_ev hc hb s1 s2 3 h0 (by omega) (by omega)
  obtain ⟨M, t1, t2, hM, q0, q1, h⟩ := phrase_l0 hc hb (x.toNat + 2) u1 u2 [] (by omega) (by omega) (by simp; omega) (by omega)
  refine ⟨M, t1, t2, by rw [hM]; simp, by rw [hM]; simp; omega, by omega, by omega, fun k hk => ?_⟩
  simp only [spec_l06DrawPhrase.f]
  rw [e]
  simp only [Option.bind_some]
  rw [w64 (by omega) (by omega), show x + 1 = ((x.toNat + 2 : Nat) : Int) - 1 by omega]
  exact h k (by omega)
theorem bent_l0 {c : List Int} (s1 s2 n : Int) (hn : n ≤ 20) : ∀ (d : Nat) (L : List Int), (L.length : Int) + d = n → L.length ≤ 20 → ∃ M, M.length = L.length + d ∧ ∀ k, d < k → spec_l06BentPhrase.l0 k L n c s1 s2 = some (M, s1, s2)
  | 0, L, h, _ => ⟨L, by omega, fun k hk => by
      obtain ⟨k, rfl⟩ : ∃ m, k = m + 1 := ⟨k - 1, by omega⟩
      simp only [spec_l06BentPhrase.l0]
      rw [if_neg (by omega)]⟩
  | d + 1, L, h, hl => by
    obtain ⟨M, hM, hh⟩ := bent_l0 (c := c) s1 s2 n hn d (L ++ [5]) (by simp; omega) (by simp; omega)
    refine ⟨M, by rw [hM]; simp; omega, fun k hk => ?_⟩
    obtain ⟨k, rfl⟩ : ∃ m, k = m + 1 := ⟨k - 1, by omega⟩
    simp only [spec_l06BentPhrase.l0]
    rw [if_pos (by omega), if_pos (by omega)]
    exact hh k (by omega)
theorem bent_ev {c : List Int} (hc : c.length ≤ maxLen) (hb : Bytes c) (s1 s2 : Int) (h0 : 0 ≤ s1) (h1 : s1 ≤ 8000) :
    ∃ M t1 t2, 1 ≤ M.length ∧ M.length ≤ 9 ∧ s1 ≤ t1 ∧ t1 ≤ s1 + 20 ∧ ∀ k, 20 < k → spec_l06BentPhrase.f k c s1 s2 = some (M, t1, t2) := by
  obtain ⟨P, u1, u2, l2, l4, p0, p1, hP⟩ := phrase_ev hc hb s1 s2 h0 (by omega)
  obtain ⟨x, v1, v2, e, x0, x1, q0, q1⟩ := pick_ev hc hb u1 u2 20 (by omega) (by omega) (by omega)
  by_cases c0 : x = 0
  · refine ⟨P.take 1, v1, v2, by simp; omega, by simp; omega, by omega, by omega, fun k hk => ?_⟩
    simp only [spec_l06BentPhrase.f]
    rw [hP k (by omega)]
    simp only [Option.bind_some]
    rw [e]
    simp only [Option.bind_some]
    rw [if_pos c0, if_pos (by omega)]
    rfl
  by_cases c1 : x = 1
  · obtain ⟨y, w1, w2, e2, r0, r1, _⟩ := among_ev hc hb v1 v2 (by omega) (by omega) [(-13), (-12), 23, 24] (by decide)
    refine ⟨P.set 0 y, w1, w2, by simp; omega, by simp; omega, by omega, by omega, fun k hk => ?_⟩
    simp only [spec_l06BentPhrase.f]
    rw [hP k (by omega)]
    simp only [Option.bind_some]
    rw [e]
    simp only [Option.bind_some]
    rw [if_neg c0, if_pos c1, e2]
    simp only [Option.bind_some]
    rw [if_pos (by omega)]
    rfl
  by_cases c2 : x = 2
  · obtain ⟨y, w1, w2, e2, r0, r1, hy⟩ := among_ev hc hb v1 v2 (by omega) (by omega) [8, 9] (by decide)
    have hy2 : y = 8 ∨ y = 9 := by simpa using hy
    obtain ⟨M, hM, hh⟩ := bent_l0 (c := c) w1 w2 y (by omega) (y.toNat - P.length) P (by omega) (by omega)
    refine ⟨M, w1, w2, by omega, by omega, by omega, by omega, fun k hk => ?_⟩
    simp only [spec_l06BentPhrase.f]
    rw [hP k (by omega)]
    simp only [Option.bind_some]
    rw [e]
    simp only [Option.bind_some]
    rw [if_neg c0, if_neg c1, if_pos c2, e2]
    simp only [Option.bind_some]
    exact hh k (by omega)
  · refine ⟨P, v1, v2, by omega, by omega, by omega, by omega, fun k hk => ?_⟩
    simp only [spec_l06BentPhrase.f]
    rw [hP k (by omega)]
    simp only [Option.bind_some]
    rw [e]
    simp only [Option.bind_some]
    rw [if_neg c0, if_neg c1, if_neg c2]
theorem pitches_l1 {c : List Int} (s1 s2 n : Int) (hn : n ≤ 100) : ∀ (d : Nat) (L : List Int), (L.length : Int) + d = n → ∃ M, M.length = L.length + d ∧ ∀ k, d < k → spec_l06DrawPitches.l1 k L n c s1 s2 = some (M, s1, s2)
  | 0, L, h => ⟨L, by omega, fun k hk => by
      obtain ⟨k, rfl⟩ : ∃ m, k = m + 1 := ⟨k - 1, by omega⟩
      simp only [spec_l06DrawPitches.l1]
      rw [if_neg (by omega)]⟩
  | d + 1, L, h => by
    obtain ⟨M, hM, hh⟩ := pitches_l1 (c := c) s1 s2 n hn d (L ++ [0]) (by simp; omega)
    refine ⟨M, by rw [hM]; simp; omega, fun k hk => ?_⟩
    obtain ⟨k, rfl⟩ : ∃ m, k = m + 1 := ⟨k - 1, by omega⟩
    simp only [spec_l06DrawPitches.l1]
    rw [if_pos (by omega), if_pos (by omega)]
    exact hh k (by omega)
theorem pitches_l0 {c : List Int} (hc : c.length ≤ maxLen) (hb : Bytes c) : ∀ (d : Nat) (s1 s2 : Int) (L : List Int), 0 ≤ s1 → s1 + 10 * d ≤ 5000 → L.length + 4 * d ≤ 24 →
    ∃ M t1 t2, M.length ≤ 65 ∧ s1 ≤ t1 ∧ t1 ≤ s1 + 10 * d + 10 ∧ ∀ k, d + 100 < k → spec_l06DrawPitches.l0 k L (d : Int) c s1 s2 = some (M, t1, t2)
  | 0, s1, s2, L, h0, h1, h2 => by
    obtain ⟨x, v1, v2, e, x0, x1, q0, q1⟩ := pick_ev hc hb s1 s2 24 (by omega) (by omega) (by omega)
    by_cases c0 : x = 0
    · obtain ⟨y, w1, w2, e2, r0, r1, _⟩ := among_ev hc hb v1 v2 (by omega) (by omega) [(-13), 24] (by decide)
      refine ⟨L ++ [y], w1, w2, by simp; omega, by omega, by omega, fun k hk => ?_⟩
      obtain ⟨k, rfl⟩ : ∃ m, k = m + 1 := ⟨k - 1, by omega⟩
      simp only [spec_l06DrawPitches.l0]
      rw [if_neg (by omega), e]
      simp only [Option.bind_some]
      rw [if_pos c0, e2]
      simp only [Option.bind_some]
      rw [if_pos (by omega)]
    by_cases c1 : x = 1
    · obtain ⟨y, w1, w2, e2, r0, r1, hy⟩ := among_ev hc hb v1 v2 (by omega) (by omega) [64, 65] (by decide)
      have hy2 : y = 64 ∨ y = 65 := by simpa using hy
      obtain ⟨M, hM, hh⟩ := pitches_l1 (c := c) w1 w2 y (by omega) (y.toNat - L.length) L (by omega)
      refine ⟨M, w1, w2, by omega, by omega, by omega, fun k hk => ?_⟩
      obtain ⟨k, rfl⟩ : ∃ m, k = m + 1 := ⟨k - 1, by omega⟩
      simp only [spec_l06DrawPitches.l0]
      rw [if_neg (by omega), e]
      simp only [Option.bind_some]
      rw [if_neg c0, if_pos c1, e2]
      simp only [Option.bind_some]
      exact hh k (by omega)
    · refine ⟨L, v1, v2, by omega, by omega, by omega, fun k hk => ?_⟩
      obtain ⟨k, rfl⟩ : ∃ m, k = m + 1 := ⟨k - 1, by omega⟩
      simp only [spec_l06DrawPitches.l0]
      rw [if_neg (by omega), e]
      simp only [Option.bind_some]
      rw [if_neg c0, if_neg c1]
  | d + 1, s1, s2, L, h0, h1, h2 => by
    obtain ⟨P, u1, u2, l2, l4, p0, p1, hP⟩ := phrase_ev hc hb s1 s2 h0 (by omega)
    obtain ⟨M, t1, t2, hM, q0, q1, h⟩ := pitches_l0 hc hb d u1 u2 (L ++ P) (by omega) (by omega) (by simp; omega)
    refine ⟨M, t1, t2, hM, by omega, by omega, fun k hk => ?_⟩
    obtain ⟨k, rfl⟩ : ∃ m, k = m + 1 := ⟨k - 1, by omega⟩
    simp only [spec_l06DrawPitches.l0]
    rw [if_pos (by omega), hP k (by omega)]
    simp only [Option.bind_some]
    rw [if_pos (by omega), w64 (by omega) (by omega), show ((d + 1 : Nat) : Int) - 1 = d by omega]
    exact h k (by omega)
theorem pitches_ev {c : List Int} (hc : c.length ≤ maxLen) (hb : Bytes c) (s1 s2 : Int) (h0 : 0 ≤ s1) (h1 : s1 ≤ 1000) :
    ∃ M t1 t2, M.length ≤ 65 ∧ s1 ≤ t1 ∧ t1 ≤ s1 + 100 ∧ ∀ k, 200 < k → spec_l06DrawPitches.f k c s1 s2 = some (M, t1, t2) := by
  obtain ⟨x, u1, u2, e, x0, x1, p0, p1⟩ := pick_ev hc hb s1 s2 6 h0 (by omega) (by omega)
  obtain ⟨M, t1, t2, hM, q0, q1, h⟩ := pitches_l0 hc hb x.toNat u1 u2 [] (by omega) (by omega) (by simp; omega)
  refine ⟨M, t1, t2, hM, by omega, by omega, fun k hk => ?_⟩
  simp only [spec_l06DrawPitches.f]
  rw [e]
  simp only [Option.bind_some]
  rw [show x = ((x.toNat : Nat) : Int) by omega]
  exact h k (by omega)
theorem drawFind_ev {c : List Int} (hc : c.length ≤ maxLen) (hb : Bytes c) : ∃ P Q, P.length ≤ 65 ∧ 1 ≤ Q.length ∧ Q.length ≤ 9 ∧ ∀ k, 200 < k → spec_DrawFindPhrase.f k c = some (P, Q) := by
  obtain ⟨P, u1, u2, hP, p0, p1, h⟩ := pitches_ev hc hb 0 0 (by omega) (by omega)
  obtain ⟨Q, v1, v2, q1, q2, r0, r1, h'⟩ := bent_ev hc hb u1 u2 (by omega) (by omega)
  refine ⟨P, Q, hP, q1, q2, fun k hk => ?_⟩
  simp only [spec_DrawFindPhrase.f, spec_l00From.f, Option.bind_some]
  rw [h k hk]
  simp only [Option.bind_some]
  rw [h' k (by omega)]
  rfl
theorem drawBorder_ev {c : List Int} (hc : c.length ≤ maxLen) (hb : Bytes c) : ∃ Q, Q.length ≤ 9 ∧ ∀ k, 200 < k → spec_DrawBorderOf.f k c = some Q := by
  obtain ⟨Q, v1, v2, q1, q2, r0, r1, h⟩ := bent_ev hc hb 0 0 (by omega) (by omega)
  obtain ⟨x, u1, u2, e, x0, x1, p0, p1⟩ := pick_ev hc hb v1 v2 3 (by omega) (by omega) (by omega)
  by_cases c0 : (x == 0) = true
  · by_cases c1 : (Q.length : Int) < 5
    · refine ⟨Q ++ [rd Q 0], by simp; omega, fun k hk => ?_⟩
      simp only [spec_DrawBorderOf.f, spec_l00From.f, spec_l00Src_one.f, Option.bind_some]
      rw [h k (by omega)]
      simp only [Option.bind_some]
      rw [e]
      simp only [Option.bind_some]
      rw [if_pos c0, if_pos c1, if_pos (by omega), if_pos (by omega)]
    · refine ⟨Q, by omega, fun k hk => ?_⟩
      simp only [spec_DrawBorderOf.f, spec_l00From.f, spec_l00Src_one.f, Option.bind_some]
      rw [h k (by omega)]
      simp only [Option.bind_some]
      rw [e]
      simp only [Option.bind_some]
      rw [if_pos c0, if_neg c1]
  · refine ⟨Q, by omega, fun k hk => ?_⟩
    simp only [spec_DrawBorderOf.f, spec_l00From.f, spec_l00Src_one.f, Option.bind_some]
    rw [h k (by omega)]
    simp only [Option.bind_some]
    rw [e]
    simp only [Option.bind_some]
    rw [if_neg c0]
theorem drawCommon_ev {c : List Int} (hc : c.length ≤ maxLen) (hb : Bytes c) : ∃ P Q, P.length ≤ 65 ∧ Q.length ≤ 65 ∧ ∀ k, 200 < k → spec_DrawCommonPhrase.f k c = some (P, Q) := by
  obtain ⟨P, u1, u2, hP, p0, p1, h⟩ := pitches_ev hc hb 0 0 (by omega) (by omega)
  obtain ⟨Q, v1, v2, hQ, r0, r1, h'⟩ := pitches_ev hc hb u1 u2 (by omega) (by omega)
  refine ⟨P, Q, hP, hQ, fun k hk => ?_⟩
  simp only [spec_DrawCommonPhrase.f, spec_l00From.f, Option.bind_some]
  rw [h k hk]
  simp only [Option.bind_some]
  rw [h' k hk]
  rfl
end Go.Proofs.Ytomeeimjlagbbaa.Pure
