/- Degrees and pitches lead to each other, scales are restored from their texts, and their numbers are all different ones below their count. -/
import Derived.Test.YtbedlmlofnphkaaPuV1
import Derived.Test.YtbedlmlofnphkaaPuV2
import Derived.Test.YtbedlmlofnphkaaPuV3
import Derived.Test.YtbedlmlofnphkaaPOx12
import Derived.Test.YtbedlmlofnphkaaPOx4
import Derived.Test.YtbedlmlofnphkaaPOx5
import Derived.Test.YtbedlmlofnphkaaPOx6
import Derived.Test.YtbedlmlofnphkaaPOx10
import Derived.Test.YtbedlmlofnphkaaPOx11
namespace Go.Proofs.Ytbedlmlofnphkaa.Pure
open Go.RowKit Go.Proofs.Ytbedlmlofnphkaa.PO Go.Proofs.YtbedlmlofnphkaaW.PrintWords Go.Proofs.YtbedlmlofnphkaaW.PrintLast
set_option linter.unusedSimpArgs false
set_option linter.unusedVariables false
theorem within_f (a b c : Int) : impl_within.f a b c = some (decide (b ≤ a ∧ a ≤ c)) := by
  unfold impl_within.f
  by_cases h : a ≥ b
  · rw [if_pos h]; simp [show b ≤ a from h]
  · rw [if_neg h]; simp [show ¬ b ≤ a from h]
theorem l00In_f (n a b : Int) : spec_l00In.f n a b = some (decide (a ≤ n ∧ n ≤ b)) := by
  unfold spec_l00In.f
  by_cases h : n ≥ a
  · rw [if_pos h]; simp [show a ≤ n from h]
  · rw [if_neg h]; simp [show ¬ a ≤ n from h]
theorem r8At_f {c : List Int} (hb : Bytes c) {k n : Int} (hk : 0 ≤ k) (hn : 1 ≤ n) : ∃ x, laws_r8At.f c k n = some x ∧ 0 ≤ x ∧ x < n := by
  unfold laws_r8At.f
  by_cases h : n ≤ 1
  · rw [if_pos h]; exact ⟨0, rfl, by omega, by omega⟩
  · rw [if_neg h]
    by_cases g : k ≥ (c.length : Int)
    · rw [if_pos g]; exact ⟨0, rfl, by omega, by omega⟩
    · have := byte_bd hb hk (by omega)
      rw [if_neg g, if_pos hk, if_pos (by omega), if_neg (by omega), w64 (by omega) (by omega)]
      exact ⟨_, rfl, Int.tmod_nonneg _ (by omega), Int.tmod_lt_of_pos _ (by omega)⟩
theorem r8Wide_f {c : List Int} (hb : Bytes c) {k n : Int} (hk : 0 ≤ k) (hk2 : k ≤ 1000) (hn : 1 ≤ n) : ∃ x, laws_r8Wide.f c k n = some x ∧ 0 ≤ x ∧ x < n := by
  obtain ⟨x, e, x0, x1⟩ := r8At_f hb hk (n := 256) (by omega)
  obtain ⟨y, e', y0, y1⟩ := r8At_f hb (k := k + 1) (by omega) (n := 256) (by omega)
  unfold laws_r8Wide.f
  rw [e, Option.bind_some, w64 (n := k + 1) (by omega) (by omega), e', Option.bind_some, if_neg (by omega), w64 (n := 256 * x) (by omega) (by omega), w64 (by omega) (by omega)]
  exact ⟨_, rfl, Int.tmod_nonneg _ (by omega), Int.tmod_lt_of_pos _ (by omega)⟩
theorem r8Has_wp {l : List Int} (hl : l.length ≤ 1000) (a : Int) : Wp (fun k => laws_r8Has.f k l a) (fun r => r = decide (a ∈ l)) := by
  have key : ∀ (d : Nat) (i : Int), 0 ≤ i → i + d = l.length → Wp (fun k => laws_r8Has.l0 k l a i) (fun r => r = decide (a ∈ l.drop i.toNat)) := by
    intro d
    induction d with
    | zero =>
      intro i i0 i1
      refine Wp.step ?_
      simp only [laws_r8Has.l0]
      exact Wp.neg (by omega) (Wp.now (by rw [List.drop_eq_nil_of_le (by omega)]; simp))
    | succ d ih =>
      intro i i0 i1
      refine Wp.step ?_
      simp only [laws_r8Has.l0]
      rw [w64 (n := i + 1) (by omega) (by omega), drop_cons i0 (by omega)]
      refine Wp.pos (by omega) (Wp.pos i0 (Wp.ite (fun e => Wp.now (by simp [e])) (fun e => (ih (i + 1) (by omega) (by omega)).mono ?_)))
      rintro r rfl
      apply decide_eq_decide.2
      rw [List.mem_cons]
      exact ⟨.inr, fun h => h.resolve_left (fun h => e h.symm)⟩
  have := key l.length 0 (by omega) (by omega)
  simpa [laws_r8Has.f] using this
theorem scale_len {l : List Int} (h : scaleP l) : l.length ≤ 1000 := by have := h.2.1; omega
theorem scale_0 {l : List Int} (h : scaleP l) : rd l 0 = 0 := by
  have := h.2.2.2.2
  cases l with
  | nil => cases this
  | cons x t => simpa [rd] using this
theorem scale_at {l : List Int} (h : scaleP l) {i : Int} (i0 : 0 ≤ i) (i1 : i < l.length) : 0 ≤ rd l i ∧ rd l i ≤ 11 := h.2.2.2.1 _ (rd_mem i0 i1)
theorem scale_lt {l : List Int} (h : scaleP l) {i : Int} (i0 : 1 ≤ i) (i1 : i < l.length) : rd l (i - 1) < rd l i := by
  rw [rd_get (by omega) (by omega), rd_get (by omega) (by omega)]
  exact List.pairwise_iff_getElem.1 h.2.2.1 _ _ _ _ (by omega)
theorem l03Scale_wp {l : List Int} (h : scaleP l) : Wp (fun k => spec_l03Scale.f k l) (fun r => r = true) := by
  have h1 := h.1
  have h2 := h.2.1
  have key : ∀ (d : Nat) (i : Int), 0 ≤ i → i + d = l.length → Wp (fun k => spec_l00Rises.l0 k l 0 11 i) (fun r => r = true) := by
    intro d
    induction d with
    | zero =>
      intro i i0 i1
      refine Wp.step ?_
      simp only [spec_l00Rises.l0]
      exact Wp.neg (by omega) (Wp.now rfl)
    | succ d ih =>
      intro i i0 i1
      refine Wp.step ?_
      simp only [spec_l00Rises.l0]
      have hx := scale_at h i0 (by omega)
      rw [w64 (n := i + 1) (by omega) (by omega), w64 (n := i - 1) (by omega) (by omega), l00In_f]
      refine Wp.pos (by omega) (Wp.pos i0 (Wp.calls rfl (Wp.posB (by simp; omega) (Wp.ite (fun hp => ?_) (fun _ => ih (i + 1) (by omega) (by omega))))))
      have := scale_lt h (i := i) (by omega) (by omega)
      exact Wp.pos (by omega) (Wp.pos (by omega) (Wp.neg (by omega) (ih (i + 1) (by omega) (by omega))))
  simp only [spec_l03Scale.f, spec_l00Rises.f]
  refine Wp.pos (by omega) (Wp.val (key l.length 0 (by omega) (by omega)) (Wp.posB rfl (Wp.pos (by omega) (Wp.now ?_))))
  rw [scale_0 h]; rfl
theorem vScale_wp {l : List Int} (h : scaleP l) : Wp (fun k => impl_ValidScale.f k l) (fun r => r = true) := by
  have h1 := h.1
  have h2 := h.2.1
  have key : ∀ (d : Nat) (i : Int), 1 ≤ i → i + d = l.length → Wp (fun k => impl_increasing.l0 k l i) (fun r => r = true) := by
    intro d
    induction d with
    | zero =>
      intro i i0 i1
      refine Wp.step ?_
      simp only [impl_increasing.l0]
      exact Wp.neg (by omega) (Wp.now rfl)
    | succ d ih =>
      intro i i0 i1
      refine Wp.step ?_
      simp only [impl_increasing.l0]
      have := scale_lt h i0 (by omega)
      rw [w64 (n := i + 1) (by omega) (by omega), w64 (n := i - 1) (by omega) (by omega)]
      exact Wp.pos (by omega) (Wp.pos (by omega) (Wp.pos (by omega) (Wp.pos (by omega) (Wp.neg (by omega) (ih (i + 1) (by omega) (by omega))))))
  simp only [impl_ValidScale.f, impl_increasing.f]
  have := scale_at h (i := (l.length : Int) - 1) (by omega) (by omega)
  rw [w64 (n := (l.length : Int) - 1) (by omega) (by omega)]
  exact Wp.pos (by omega) (Wp.pos (by omega) (Wp.pos (scale_0 h) (Wp.val (key (l.length - 1) 1 (by omega) (by omega)) (Wp.posB rfl (Wp.pos (by omega) (Wp.pos (by omega) (Wp.now (decide_eq_true (by omega)))))))))
def tn (p : Int) : Int := p % 12
theorem tn_0 (p : Int) : 0 ≤ tn p ∧ tn p ≤ 11 := by unfold tn; omega
theorem tn_eq {p : Int} (h : -12 ≤ p ∧ p ≤ 23) : Int.tmod (wrap64 ((Int.tmod p 12) + 12)) 12 = tn p := by
  have h1 : Int.tmod p 12 = if 0 ≤ p then p % 12 else -((-p) % 12) := by
    split
    · exact Int.tmod_eq_emod_of_nonneg (by omega)
    · rw [show p = -(-p) by omega, Int.neg_tmod, Int.tmod_eq_emod_of_nonneg (by omega)]; simp
  rw [h1, w64 (by split <;> omega) (by split <;> omega), Int.tmod_eq_emod_of_nonneg (by split <;> omega)]
  unfold tn
  split <;> omega
theorem scale_mono {l : List Int} (h : scaleP l) {i j : Int} (i0 : 0 ≤ i) (ij : i < j) (j1 : j < l.length) : rd l i < rd l j := by
  rw [rd_get (by omega) (by omega), rd_get (by omega) (by omega)]
  exact List.pairwise_iff_getElem.1 h.2.2.1 _ _ _ _ (by omega)
theorem index_wp {l : List Int} (h : scaleP l) {i : Int} (i0 : 0 ≤ i) (i1 : i < l.length) : Wp (fun k => slices_Index_int64_int64.f k l (rd l i)) (fun r => r = i) := by
  have h2 := h.2.1
  have key : ∀ (d : Nat) (j : Int), 0 ≤ j → j + d = i → Wp (fun k => slices_Index_int64_int64.l0 k l (rd l i) l.length j) (fun r => r = i) := by
    intro d
    induction d with
    | zero =>
      intro j j0 j1
      have e : j = i := by omega
      subst e
      refine Wp.step ?_
      simp only [slices_Index_int64_int64.l0]
      exact Wp.pos (by omega) (Wp.pos j0 (Wp.pos (by omega) (Wp.pos trivial (Wp.now rfl))))
    | succ d ih =>
      intro j j0 j1
      have := scale_mono h (i := j) (j := i) j0 (by omega) i1
      refine Wp.step ?_
      simp only [slices_Index_int64_int64.l0]
      rw [w64 (n := j + 1) (by omega) (by omega)]
      exact Wp.pos (by omega) (Wp.pos j0 (Wp.pos (by omega) (Wp.neg (by omega) (ih (j + 1) (by omega) (by omega)))))
  simp only [slices_Index_int64_int64.f]
  exact key i.toNat 0 (by omega) (by omega)
theorem degree_parts {n g : Int} (hn : 5 ≤ n) (h0 : -n ≤ g) (h1 : g < 2 * n) : ∃ o i, (o = -1 ∨ o = 0 ∨ o = 1) ∧ 0 ≤ i ∧ i < n ∧ g = n * o + i := by
  by_cases a : g < 0
  · exact ⟨-1, g + n, .inl rfl, by omega, by omega, by omega⟩
  · by_cases b : g < n
    · exact ⟨0, g, .inr (.inl rfl), by omega, by omega, by omega⟩
    · exact ⟨1, g - n, .inr (.inr rfl), by omega, by omega, by omega⟩
theorem toneAt_wp {l : List Int} (h : scaleP l) {o i g : Int} (ho : o = -1 ∨ o = 0 ∨ o = 1) (i0 : 0 ≤ i) (i1 : i < l.length) (hg : g = l.length * o + i) : Wp (fun k => impl_ToneAt.f k l g) (fun r => r = (12 * o + rd l i, 0)) := by
  have h1 := h.1
  have h2 := h.2.1
  have hx := scale_at h i0 i1
  have hq : Int.tdiv (g + l.length) l.length = o + 1 := by
    have hb : 0 ≤ g + l.length := by rcases ho with rfl | rfl | rfl <;> omega
    rw [Int.tdiv_eq_ediv_of_nonneg hb, show g + (l.length : Int) = i + l.length * (o + 1) by rw [hg, Int.mul_add]; omega, Int.add_mul_ediv_left _ _ (by omega), Int.ediv_eq_zero_of_lt i0 i1]
    omega
  obtain ⟨m, hm⟩ : ∃ m, m = (l.length : Int) * o := ⟨_, rfl⟩
  have hmb : -12 ≤ m ∧ m ≤ 12 := by rcases ho with rfl | rfl | rfl <;> omega
  have hmn : - (l.length : Int) ≤ m ∧ m ≤ l.length := by rcases ho with rfl | rfl | rfl <;> omega
  have hob : -1 ≤ o ∧ o ≤ 1 := by omega
  rw [← hm] at hg
  simp only [impl_ToneAt.f, within_f, Option.bind_some]
  rw [w64 (n := -(l.length : Int)) (by omega) (by omega), w64 (n := 2 * (l.length : Int)) (by omega) (by omega), w64 (n := 2 * (l.length : Int) - 1) (by omega) (by omega), w64 (n := g + (l.length : Int)) (by omega) (by omega), hq, w64 (n := o + 1) (by omega) (by omega), show o + 1 - 1 = o by omega, w64 (n := o) (by omega) (by omega), ← hm, w64 (n := m) (by omega) (by omega), show g - m = i by omega, w64 (n := i) (by omega) (by omega), w64 (n := 12 * o) (by omega) (by omega), w64 (n := 12 * o + rd l i) (by omega) (by omega)]
  exact Wp.val (vScale_wp h) (Wp.posB rfl (Wp.posB (decide_eq_true (by omega)) (Wp.neg (by omega) (Wp.pos i0 (Wp.pos i1 (Wp.now rfl))))))
theorem degreeOf_wp {l : List Int} (h : scaleP l) {o i : Int} (ho : o = -1 ∨ o = 0 ∨ o = 1) (i0 : 0 ≤ i) (i1 : i < l.length) : Wp (fun k => impl_DegreeOf.f k l (12 * o + rd l i)) (fun r => r = (l.length * o + i, 0)) := by
  have h1 := h.1
  have h2 := h.2.1
  have hx := scale_at h i0 i1
  have hp : -12 ≤ 12 * o + rd l i ∧ 12 * o + rd l i ≤ 23 := by omega
  have ht : tn (12 * o + rd l i) = rd l i := by unfold tn; omega
  simp only [impl_DegreeOf.f, impl_pitchOk.f, within_f, impl_octaveOf.f, impl_ToneOf.f, Option.bind_some]
  rw [tn_eq hp, ht, show 12 * o + rd l i - rd l i = 12 * o by omega, w64 (n := 12 * o) (by omega) (by omega), show Int.tdiv (12 * o) 12 = o by rcases ho with rfl | rfl | rfl <;> rfl, w64 (n := o) (by omega) (by omega), Int.mul_comm o]
  obtain ⟨m, hm⟩ : ∃ m, m = (l.length : Int) * o := ⟨_, rfl⟩
  have hmb : -12 ≤ m ∧ m ≤ 12 := by rcases ho with rfl | rfl | rfl <;> omega
  rw [← hm, w64 (n := m) (by omega) (by omega)]
  refine Wp.val (vScale_wp h) (Wp.posB rfl (Wp.posB (decide_eq_true hp) (Wp.val (index_wp h i0 i1) (Wp.neg (by omega) (Wp.now ?_)))))
  rw [w64 (n := m + i) (by omega) (by omega)]
theorem same_wp {l : List Int} (hl : l.length ≤ 1000) : Wp (fun k => laws_r8Same.f k l l) (fun r => r = true) := by
  have key : ∀ (d : Nat) (i : Int), 0 ≤ i → i + d = l.length → Wp (fun k => laws_r8Same.l0 k l l i) (fun r => r = true) := by
    intro d
    induction d with
    | zero =>
      intro i i0 i1
      refine Wp.step ?_
      simp only [laws_r8Same.l0]
      exact Wp.neg (by omega) (Wp.now rfl)
    | succ d ih =>
      intro i i0 i1
      refine Wp.step ?_
      simp only [laws_r8Same.l0]
      rw [w64 (n := i + 1) (by omega) (by omega)]
      exact Wp.pos (by omega) (Wp.pos i0 (Wp.pos (by omega) (Wp.pos trivial (ih (i + 1) (by omega) (by omega)))))
  simp only [laws_r8Same.f]
  exact Wp.pos trivial (key l.length 0 (by omega) (by omega))
theorem named_all : (List.range 12).all (fun v => match impl_ToneName.f v with | some t => (match impl_ToneNamed.f t with | some (x, b) => decide (x = v ∧ b = true) | none => false) | none => false) = true := by decide +kernel
theorem named_f {v : Int} (v0 : 0 ≤ v) (v1 : v < 12) : ∃ t, impl_ToneName.f v = some t ∧ impl_ToneNamed.f t = some (v, true) := by
  have hk := List.all_eq_true.1 named_all v.toNat (List.mem_range.2 (by omega))
  rw [show ((v.toNat : Nat) : Int) = v by omega] at hk
  match e1 : impl_ToneName.f v with
  | none => rw [e1] at hk; cases hk
  | some t =>
    rw [e1] at hk
    dsimp only at hk
    match e2 : impl_ToneNamed.f t with
    | none => rw [e2] at hk; cases hk
    | some (x, b) =>
      rw [e2] at hk
      dsimp only at hk
      rw [decide_eq_true_eq] at hk
      obtain ⟨rfl, rfl⟩ := hk
      exact ⟨t, rfl, e2⟩
theorem j1_wp {c : List Int} (hc : c.length ≤ maxLen) (hb : Bytes c) {n : Nat} (hn : 5 ≤ n ∧ n ≤ 12) {m : Int} (hm : Wp (fun k => impl_CountScales.f k n) (fun r => r = (m, 0))) (m0 : 0 < m) : Wp (fun k => laws_FnScales.j1 k c n m) (fun r => r = true) := by
  refine Wp.step ?_
  simp only [laws_FnScales.j1]
  obtain ⟨x, ex, x0, x1⟩ := r8Wide_f hb (k := 1) (n := 462) (by omega) (by omega) (by omega)
  refine Wp.calls ex (Wp.neg (by omega) ?_)
  have k0 : 0 ≤ Int.tmod x m := Int.tmod_nonneg _ (by omega)
  have k1 : Int.tmod x m < m := Int.tmod_lt_of_pos _ (by omega)
  generalize Int.tmod x m = k at k0 k1
  obtain ⟨t, ht, hs, hl, hk⟩ := numbered_wp hn hm k0 k1
  obtain ⟨v, ev, v0, v1⟩ := r8At_f hb (k := 3) (n := 12) (by omega) (by omega)
  obtain ⟨u, eu, eu'⟩ := named_f v0 v1
  refine Wp.val ht (Wp.val hk (Wp.calls ev (Wp.calls eu (Wp.calls eu' ?_))))
  dsimp only
  refine Wp.pos rfl (Wp.val (a := true) ?_ (Wp.posB rfl (Wp.pos (by omega) (Wp.pos rfl (Wp.pos rfl (Wp.posB rfl (Wp.calls ev (Wp.now ?_))))))))
  · simp only [spec_ValidScale.f]
    exact Wp.val (l03Scale_wp hs) (Wp.now rfl)
  · simp
theorem FnScales : laws_FnScales.Pure := by
  intro code more hc hm
  apply Wp.rounds
  obtain ⟨z, ez⟩ : ∃ z, laws_r8Long.f code more = some z := by unfold laws_r8Long.f; split <;> exact ⟨_, rfl⟩
  simp only [laws_FnScales.f]
  refine Wp.calls ez (Wp.iteB (fun _ => Wp.now rfl) (fun _ => Wp.call (r8scale_wp hc.1 hc.2) ?_))
  intro s hs
  have h1 := hs.1
  have h2 := hs.2.1
  rw [w64 (n := 3 * (s.length : Int)) (by omega) (by omega)]
  obtain ⟨t, et, t0, t1⟩ := r8At_f hm.2 (k := 0) (n := 3 * (s.length : Int)) (by omega) (by omega)
  refine Wp.calls et ?_
  rw [w64 (n := t - (s.length : Int)) (by omega) (by omega)]
  obtain ⟨o, i, ho, i0, i1, hg⟩ := degree_parts (n := s.length) (g := t - s.length) (by omega) (by omega) (by omega)
  have hx := scale_at hs i0 i1
  obtain ⟨x, m, w1, w2, x0, x1, m1, w3⟩ := number_wp hs
  obtain ⟨u, w4, w5⟩ := text_wp' hs
  refine Wp.val (toneAt_wp hs ho i0 i1 hg) ?_
  dsimp only
  refine Wp.val (degreeOf_wp hs ho i0 i1) (Wp.val w4 (Wp.val w5 (Wp.val w1 (Wp.val w2 ?_))))
  dsimp only
  refine Wp.val w3 ?_
  dsimp only
  have hp : -12 ≤ 12 * o + rd s i ∧ 12 * o + rd s i ≤ 23 := by omega
  have ht : tn (12 * o + rd s i) = rd s i := by unfold tn; omega
  refine Wp.pos rfl (Wp.pos rfl (Wp.pos hg.symm (Wp.neg (by omega) (Wp.neg (by omega) ?_))))
  refine Wp.calls (a := rd s i) (by unfold impl_ToneOf.f; rw [tn_eq hp, ht]) ?_
  refine Wp.val (r8Has_wp (by omega) _) (Wp.posB (decide_eq_true (rd_mem i0 i1)) (Wp.posB rfl (Wp.val (same_wp (by omega)) (Wp.posB rfl (Wp.pos rfl (Wp.pos rfl (Wp.neg (by omega) (Wp.neg (by omega) (Wp.pos rfl (Wp.val (same_wp (by omega)) (Wp.step ?_)))))))))))
  simp only [laws_FnScales.j0]
  rw [w64 (n := t - (s.length : Int) + 1) (by omega) (by omega), w64 (n := 2 * (s.length : Int)) (by omega) (by omega)]
  have last := j1_wp hm.1 hm.2 (n := s.length) ⟨by omega, by omega⟩ w2 (by omega)
  refine Wp.negB rfl (Wp.ite (fun hl => ?_) (fun _ => last))
  obtain ⟨o', i', ho', i0', i1', hg'⟩ := degree_parts (n := s.length) (g := t - s.length + 1) (by omega) (by omega) (by omega)
  refine Wp.val (toneAt_wp hs ho' i0' i1' hg') ?_
  dsimp only
  refine Wp.pos rfl (Wp.neg ?_ last)
  have hx' := scale_at hs i0' i1'
  by_cases e : i' = i + 1
  · have := scale_mono hs (i := i) (j := i') i0 (by omega) i1'
    rcases ho with rfl | rfl | rfl <;> rcases ho' with rfl | rfl | rfl <;> omega
  · rcases ho with rfl | rfl | rfl <;> rcases ho' with rfl | rfl | rfl <;> omega
end Go.Proofs.Ytbedlmlofnphkaa.Pure
