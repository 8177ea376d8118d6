/- Plain facts: what is drawn of bytes, and the reference's own talas. -/
import Derived.Test.YthimhjghepdccaaPuN0
import Derived.Laws.Bits64b
import Derived.Test.YthimhjghepdccaaPNx10
import Derived.Test.YthimhjghepdccaaPNx13
import Derived.Test.YthimhjghepdccaaPNx14
import Derived.Test.YthimhjghepdccaaPNx15
import Derived.Test.YthimhjghepdccaaPNx16
namespace Go.Proofs.Ythimhjghepdccaa.Pure
open Go.RowKit Go.Proofs.Ythimhjghepdccaa.PN Go.Proofs.YthimhjghepdccaaW.PrintWords Go.Proofs.YthimhjghepdccaaW.PrintLast
set_option linter.unusedSimpArgs false

theorem up_fuel {α : Type} {f : Nat → Option α} (hm : ∀ k, LeO (f k) (f (k + 1))) {K : Nat} {r : α} (h : f K = some r) : ∀ k, K ≤ k → f k = some r := by
  intro k hk
  obtain ⟨d, rfl⟩ : ∃ d, k = K + d := ⟨k - K, by omega⟩
  induction d with
  | zero => exact h
  | succ d ih => exact hm _ _ (ih (by omega))
def Bytes (l : List Int) : Prop := ∀ y ∈ l, (Lit.int .u8 y).wf = true
theorem byte_bd {l : List Int} (h : Bytes l) {i : Int} (h0 : 0 ≤ i) (h1 : i < l.length) : 0 ≤ rd l i ∧ rd l i ≤ 255 := by
  have e : rd l i ∈ l := by
    rw [show rd l i = l[i.toNat]'(by omega) from by simp [rd, List.getD_eq_getElem?_getD, List.getElem?_eq_getElem (show i.toNat < l.length by omega)]]
    exact List.getElem_mem _
  have := h _ e
  simp only [Lit.wf, Bool.and_eq_true, decide_eq_true_eq] at this
  have h2 : IntKind.min .u8 = 0 := by rfl
  have h3 : IntKind.max .u8 = 255 := by rfl
  omega
theorem and255 (x : Int) : 0 ≤ Go.bits .and .u64 (IntKind.u64.wrap x / 1099511627776) 255 ∧ Go.bits .and .u64 (IntKind.u64.wrap x / 1099511627776) 255 ≤ 255 := by
  have hw : 0 ≤ IntKind.u64.wrap x ∧ IntKind.u64.wrap x < 18446744073709551616 := by rw [IntKind.wrap_u64]; omega
  generalize IntKind.u64.wrap x = y at hw
  obtain ⟨n, hn⟩ : ∃ n : Nat, y / 1099511627776 = n := ⟨(y / 1099511627776).toNat, by omega⟩
  rw [hn, show (255 : Int) = ((255 : Nat) : Int) from rfl, bits_and_u64_nat n 255 (by omega) (by decide)]
  have := Nat.and_le_right (n := n) (m := 255)
  omega
theorem next_ev {l : List Int} (_ : l.length ≤ maxLen) (hb : Bytes l) (s1 s2 : Int) (h0 : 0 ≤ s1) (h1 : s1 ≤ 1000000000) :
    ∃ x s2', spec_l00Src_next.f l s1 s2 = some (x, s1 + 1, s2') ∧ 0 ≤ x ∧ x ≤ 255 := by
  have hm : wrap64 (s1 + 1) = s1 + 1 := w64 (by omega) (by omega)
  unfold spec_l00Src_next.f
  rw [hm]
  by_cases c : s1 < (l.length : Int)
  · have hr := byte_bd hb h0 c
    rw [if_pos c, if_pos h0, if_pos (by omega), w64 (n := rd l s1) (by omega) (by omega)]
    exact ⟨_, _, rfl, hr⟩
  · rw [if_neg c]
    by_cases d : s1 + 1 ≤ (l.length : Int)
    · omega
    · rw [if_neg d]
      refine ⟨_, _, rfl, ?_⟩
      have ha := and255 ((IntKind.u64.wrap ((IntKind.u64.wrap (s2 * 6364136223846793005)))) + 1442695040888963407)
      rw [w64 (by omega) (by omega)]
      exact ha
theorem pick_ev {l : List Int} (hl : l.length ≤ maxLen) (hb : Bytes l) (s1 s2 n : Int) (h0 : 0 ≤ s1) (h1 : s1 ≤ 100000000) (hn : 1 ≤ n) :
    ∃ x s1' s2', spec_l00Src_pick.f l s1 s2 n = some (x, s1', s2') ∧ 0 ≤ x ∧ x < n ∧ s1 ≤ s1' ∧ s1' ≤ s1 + 2 := by
  unfold spec_l00Src_pick.f
  by_cases c : n ≤ 1
  · rw [if_pos c]; exact ⟨0, s1, s2, rfl, by omega, by omega, by omega, by omega⟩
  · rw [if_neg c]
    obtain ⟨x, t2, e1, hx1, hx2⟩ := next_ev hl hb s1 s2 h0 (by omega)
    rw [e1]
    simp only [Option.bind_some]
    by_cases d : n > 200
    · rw [if_pos d]
      obtain ⟨y, t3, e2, hy1, hy2⟩ := next_ev hl hb (s1 + 1) t2 (by omega) (by omega)
      rw [e2]
      simp only [Option.bind_some]
      rw [if_neg (by omega), w64 (n := x * 256) (by omega) (by omega), w64 (n := x * 256 + y) (by omega) (by omega)]
      exact ⟨_, _, _, rfl, Int.tmod_nonneg _ (by omega), Int.tmod_lt_of_pos _ (by omega), by omega, by omega⟩
    · rw [if_neg d, if_neg (by omega)]
      exact ⟨_, _, _, rfl, Int.tmod_nonneg _ (by omega), Int.tmod_lt_of_pos _ (by omega), by omega, by omega⟩
/-- What is drawn: as many sections as marks, small ones. -/
def Good (l m : List Int) : Prop := m.length = l.length ∧ 1 ≤ l.length ∧ (∀ j : Int, 0 ≤ j → j < l.length → 1 ≤ rd l j ∧ rd l j ≤ 8) ∧ rd m 0 = 1 ∧ ∀ x ∈ m.drop 1, within_ x 2 3 = true
theorem good_tala {a : ByteArray} {l m : List Int} (ha : nameB a = true) (hg : Good l m) (h4 : l.length ≤ 4) : talaB a l m = true := by
  obtain ⟨g1, g2, g3, g4, g5⟩ := hg
  have hs := sumW_bounds l 1 8 l.length 0 0 (fun j x y => g3 j x (by omega)) (by omega) (by omega) (by omega)
  have h1 : within_ (l.length : Int) 1 8 = true := by unfold within_; simp; omega
  have h2 : l.all (fun n => within_ n 1 16) = true := by
    rw [all_allI, allI_true]
    intro j x y
    have := g3 j x (by omega)
    unfold within_; simp; omega
  have h3 : (m.drop 1).all (fun n => within_ n 2 3) = true := by rw [List.all_eq_true]; exact g5
  have h5 : sumB l ≤ 32 := by unfold sumB; omega
  unfold talaB
  rw [ha, h1, h2, h3]
  simp [g1, g4, h5]
theorem rd_append (l : List Int) (x j : Int) (h0 : 0 ≤ j) : rd (l ++ [x]) j = if j < l.length then rd l j else if j = l.length then x else 0 := by
  unfold rd
  rw [List.getD_eq_getElem?_getD, List.getD_eq_getElem?_getD]
  by_cases c : j < l.length
  · rw [if_pos c, List.getElem?_append_left (by omega)]
  · rw [if_neg c, List.getElem?_append_right (by omega)]
    by_cases d : j = l.length
    · rw [if_pos d, show j.toNat - l.length = 0 by omega]; rfl
    · rw [if_neg d, List.getElem?_eq_none (by simp; omega)]; rfl
theorem good_step {l m : List Int} (hg : Good l m) {x y : Int} (hx : 1 ≤ x ∧ x ≤ 8) (hy : 2 ≤ y ∧ y ≤ 3) : Good (l ++ [x]) (m ++ [y]) := by
  obtain ⟨g1, g2, g3, g4, g5⟩ := hg
  refine ⟨by simp [g1], by simp, fun j h0 h1 => ?_, ?_, fun z hz => ?_⟩
  · rw [rd_append l x j h0]
    rw [List.length_append, List.length_singleton] at h1
    by_cases c : j < l.length
    · rw [if_pos c]; exact g3 j h0 c
    · rw [if_neg c, if_pos (by omega)]; exact hx
  · rw [rd_append m y 0 (by omega), if_pos (by omega)]; exact g4
  · rw [List.drop_append_of_le_length (by omega)] at hz
    rcases List.mem_append.1 hz with h | h
    · exact g5 z h
    · rw [List.mem_singleton] at h; subst h; unfold within_; simp; omega
theorem draw_l0 {c : List Int} (hc : c.length ≤ maxLen) (hb : Bytes c) (a : ByteArray) : ∀ (d : Nat) (s1 s2 : Int) (l m : List Int), 0 ≤ s1 → s1 + 4 * d ≤ 1000 → Good l m → l.length + d ≤ 4 →
    ∃ L M t1 t2, Good L M ∧ L.length ≤ 4 ∧ ∀ k, d < k → spec_l17Draw.l0 k (d : Int) c s1 s2 a l m = some (a, L, M, t1, t2)
  | 0, s1, s2, l, m, _, _, hg, hl => ⟨l, m, s1, s2, hg, by omega, fun k hk => by
      obtain ⟨k, rfl⟩ : ∃ m, k = m + 1 := ⟨k - 1, by omega⟩
      simp only [spec_l17Draw.l0]
      rw [if_neg (by omega)]⟩
  | d + 1, s1, s2, l, m, h0, h1, hg, hl => by
    obtain ⟨x, u1, u2, e1, x0, x1, p0, p1⟩ := pick_ev hc hb s1 s2 6 h0 (by omega) (by omega)
    obtain ⟨y, v1, v2, e2, y0, y1, q0, q1⟩ := pick_ev hc hb u1 u2 2 (by omega) (by omega) (by omega)
    have hg' := good_step hg (x := 1 + x) (y := 2 + y) (by omega) (by omega)
    obtain ⟨L, M, t1, t2, hG, hL, h⟩ := draw_l0 hc hb a d v1 v2 (l ++ [1 + x]) (m ++ [2 + y]) (by omega) (by omega) hg' (by simp; omega)
    refine ⟨L, M, t1, t2, hG, hL, fun k hk => ?_⟩
    obtain ⟨k, rfl⟩ : ∃ m, k = m + 1 := ⟨k - 1, by omega⟩
    have hgl := hg.1
    simp only [spec_l17Draw.l0]
    rw [if_pos (by omega), e1]
    simp only [Option.bind_some]
    rw [if_pos (by omega), e2]
    simp only [Option.bind_some]
    rw [if_pos (by omega), w64 (n := 1 + x) (by omega) (by omega), w64 (n := 2 + y) (by omega) (by omega), w64 (by omega) (by omega), show ((d + 1 : Nat) : Int) - 1 = d by omega]
    exact h k (by omega)
theorem draw_j0 {c : List Int} (hc : c.length ≤ maxLen) (hb : Bytes c) (b : Bool) (s1 s2 : Int) (h0 : 0 ≤ s1) (h1 : s1 ≤ 100) (a : ByteArray) (l m : List Int) (hs : a.size ≤ 10) (hl : l.length ≤ 8) (ht : talaB a l m = true) :
    ∃ A L M t1 t2 K, A.size ≤ 10 ∧ L.length ≤ 8 ∧ talaB A L M = true ∧ ∀ k, K ≤ k → spec_l17Draw.j0 k b c s1 s2 a l m = some (A, L, M, t1, t2) := by
  cases b with
  | false =>
    refine ⟨a, l, m, s1, s2, 1, hs, hl, ht, fun k hk => ?_⟩
    obtain ⟨k, rfl⟩ : ∃ m, k = m + 1 := ⟨k - 1, by omega⟩
    simp only [spec_l17Draw.j0]
    rw [if_neg (by decide)]
  | true =>
    obtain ⟨x, u1, u2, e1, x0, x1, p0, p1⟩ := pick_ev hc hb s1 s2 8 h0 (by omega) (by omega)
    obtain ⟨q, v1, v2, e2, y0, y1, q0, q1⟩ := pick_ev hc hb u1 u2 4 (by omega) (by omega) (by omega)
    have hg : Good [1 + x] [1] := ⟨rfl, by simp, fun j a b => by
      have : j = 0 := by simp at b; omega
      subst this
      show 1 ≤ 1 + x ∧ 1 + x ≤ 8
      omega, rfl, fun z hz => by simp at hz⟩
    obtain ⟨L, M, t1, t2, hG, hL, h⟩ := draw_l0 hc hb (⟨#[110, 101, 119]⟩ : ByteArray) q.toNat v1 v2 [1 + x] [1] (by omega) (by omega) hg (by simp; omega)
    refine ⟨(⟨#[110, 101, 119]⟩ : ByteArray), L, M, t1, t2, q.toNat + 3, by decide, by omega, good_tala (by rfl) hG hL, fun k hk => ?_⟩
    obtain ⟨k, rfl⟩ : ∃ m, k = m + 1 := ⟨k - 1, by omega⟩
    simp only [spec_l17Draw.j0]
    rw [if_pos trivial, e1]
    simp only [Option.bind_some]
    rw [e2]
    simp only [Option.bind_some]
    rw [w64 (n := 1 + x) (by omega) (by omega)]
    have := h k (by omega)
    rwa [show ((q.toNat : Nat) : Int) = q by omega] at this
theorem draw_ev {c : List Int} (hc : c.length ≤ maxLen) (hb : Bytes c) : ∃ A L M K, A.size ≤ 10 ∧ L.length ≤ 8 ∧ talaB A L M = true ∧ ∀ k, K ≤ k → spec_R8Tala.f k c = some (A, L, M) := by
  obtain ⟨x, u1, u2, e1, x0, x1, p0, p1⟩ := pick_ev hc hb 0 0 6 (by omega) (by omega) (by omega)
  obtain ⟨q, v1, v2, e2, y0, y1, q0, q1⟩ := pick_ev hc hb u1 u2 4 (by omega) (by omega) (by omega)
  have go : ∀ (tx a : ByteArray) (l m : List Int), a.size ≤ 10 → l.length ≤ 8 → talaB a l m = true → spec_l17Read.f 60 tx = some (a, l, m, true) → (∃ T : List ByteArray, rdOf ByteArray.empty T x = tx ∧ T.length = 6 ∧ ∀ k, spec_l17Draw.f k c 0 0 = (spec_l00Src_text.f c 0 0 T).bind fun bt214 => ((spec_l17Read.f k bt214.1).bind fun bt217 => (if bt217.2.2.2 = true then ((spec_l00Src_one.f c bt214.2.1 bt214.2.2 4).bind fun bt226 => (spec_l17Draw.j0 k bt226.1 c bt226.2.1 bt226.2.2 bt217.1 bt217.2.1 bt217.2.2.1)) else (spec_l17Draw.j0 k true c bt214.2.1 bt214.2.2 bt217.1 bt217.2.1 bt217.2.2.1)))) →
      ∃ A L M K, A.size ≤ 10 ∧ L.length ≤ 8 ∧ talaB A L M = true ∧ ∀ k, K ≤ k → spec_R8Tala.f k c = some (A, L, M) := by
    intro tx a l m hs hl ht hrd ⟨T, hT, hT6, hdef⟩
    obtain ⟨A, L, M, t1, t2, K, g1, g2, g3, h⟩ := draw_j0 hc hb (q == 0) v1 v2 (by omega) (by omega) a l m hs hl ht
    refine ⟨A, L, M, K + 60, g1, g2, g3, fun k hk => ?_⟩
    simp only [spec_R8Tala.f, spec_l00From.f, Option.bind_some]
    rw [hdef k]
    simp only [spec_l00Src_text.f, spec_l00Src_one.f]
    rw [hT6, show ((6 : Nat) : Int) = 6 from rfl, e1]
    simp only [Option.bind_some]
    rw [if_pos x0, if_pos x1, hT]
    simp only [Option.bind_some]
    rw [up_fuel (spec_l17Read.mono tx) hrd k (by omega)]
    simp only [Option.bind_some, if_true]
    rw [e2]
    simp only [Option.bind_some]
    rw [h k (by omega)]
    rfl
  have hx : x = 0 ∨ x = 1 ∨ x = 2 ∨ x = 3 ∨ x = 4 ∨ x = 5 := by omega
  rcases hx with rfl | rfl | rfl | rfl | rfl | rfl
  · exact go _ ⟨#[116, 105, 110, 116, 97, 108]⟩ [4, 4, 4, 4] [1, 2, 3, 2] (by decide) (by decide) (by kernel_rfl) (by kernel_rfl) ⟨_, rfl, rfl, fun k => rfl⟩
  · exact go _ ⟨#[106, 104, 97, 112, 116, 97, 108]⟩ [2, 3, 2, 3] [1, 2, 3, 2] (by decide) (by decide) (by kernel_rfl) (by kernel_rfl) ⟨_, rfl, rfl, fun k => rfl⟩
  · exact go _ ⟨#[114, 117, 112, 97, 107]⟩ [3, 2, 2] [1, 2, 2] (by decide) (by decide) (by kernel_rfl) (by kernel_rfl) ⟨_, rfl, rfl, fun k => rfl⟩
  · exact go _ ⟨#[101, 107, 116, 97, 108]⟩ [2, 2, 2, 2, 2, 2] [1, 3, 2, 3, 2, 2] (by decide) (by decide) (by kernel_rfl) (by kernel_rfl) ⟨_, rfl, rfl, fun k => rfl⟩
  · exact go _ ⟨#[100, 97, 100, 114, 97]⟩ [3, 3] [1, 3] (by decide) (by decide) (by kernel_rfl) (by kernel_rfl) ⟨_, rfl, rfl, fun k => rfl⟩
  · exact go _ ⟨#[111, 110, 101]⟩ [1] [1] (by decide) (by decide) (by kernel_rfl) (by kernel_rfl) ⟨_, rfl, rfl, fun k => rfl⟩
theorem r8At_ev {l : List Int} (hb : Bytes l) (j n : Int) (hj : 0 ≤ j) (hn : 1 ≤ n) : ∃ x, laws_r8At.f l j n = some x ∧ 0 ≤ x ∧ x < n := by
  unfold laws_r8At.f
  by_cases c : n ≤ 1
  · rw [if_pos c]; exact ⟨0, rfl, by omega, by omega⟩
  · rw [if_neg c]
    by_cases d : j ≥ (l.length : Int)
    · rw [if_pos d]; exact ⟨0, rfl, by omega, by omega⟩
    · have := byte_bd hb hj (show j < l.length by omega)
      rw [if_neg d, if_pos hj, if_pos (by omega), if_neg (by omega), w64 (n := rd l j) (by omega) (by omega)]
      exact ⟨_, rfl, Int.tmod_nonneg _ (by omega), Int.tmod_lt_of_pos _ (by omega)⟩
end Go.Proofs.Ythimhjghepdccaa.Pure
