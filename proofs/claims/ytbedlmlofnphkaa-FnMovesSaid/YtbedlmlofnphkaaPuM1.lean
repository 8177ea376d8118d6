/- Plain facts: valid ragas, and why a move is wrong, as the program and the reference say it. -/
import Derived.Test.YtbedlmlofnphkaaPuM0
import Derived.Test.YtbedlmlofnphkaaPZx8
import Derived.Test.YtbedlmlofnphkaaPZx13
import Derived.Test.YtbedlmlofnphkaaPZx14
import Derived.Test.YtbedlmlofnphkaaPZx21
import Derived.Test.YtbedlmlofnphkaaPZx22
import Derived.Test.YtbedlmlofnphkaaPZx23
namespace Go.Proofs.Ytbedlmlofnphkaa.Pure
open Go.RowKit Go.Proofs.Ytbedlmlofnphkaa.PZ Go.Proofs.YtbedlmlofnphkaaW.PrintWords Go.Proofs.YtbedlmlofnphkaaW.PrintLast
set_option linter.unusedSimpArgs false
set_option linter.unusedVariables false
theorem rd1 (x : S27) : rd_T27 [x] 0 = x := rfl
theorem l00Has_wp {l : List Int} (hl : l.length ≤ 1000) (a : Int) : Wp (fun k => spec_l00Has.f k l a) (fun r => r = decide (a ∈ l)) := by
  have key : ∀ (d : Nat) (i : Int), 0 ≤ i → i + d = l.length → Wp (fun k => spec_l00Has.l0 k l a i) (fun r => r = decide (a ∈ l.drop i.toNat)) := by
    intro d
    induction d with
    | zero =>
      intro i i0 i1
      refine Wp.step ?_
      simp only [spec_l00Has.l0]
      exact Wp.neg (by omega) (Wp.now (by rw [List.drop_eq_nil_of_le (by omega)]; simp))
    | succ d ih =>
      intro i i0 i1
      refine Wp.step ?_
      simp only [spec_l00Has.l0]
      rw [w64 (n := i + 1) (by omega) (by omega), drop_cons i0 (by omega)]
      refine Wp.pos (by omega) (Wp.pos i0 (Wp.ite (fun e => Wp.now (by simp [e])) (fun e => (ih (i + 1) (by omega) (by omega)).mono ?_)))
      rintro r rfl
      apply decide_eq_decide.2
      rw [List.mem_cons]
      exact ⟨.inr, fun h => h.resolve_left (fun h => e h.symm)⟩
  have := key l.length 0 (by omega) (by omega)
  simpa [spec_l00Has.f] using this
theorem r8Has_wp {l : List Int} (hl : l.length ≤ 1000) (a : Int) : Wp (fun k => laws_r8Has.f k l a) (fun r => r = decide (a ∈ l)) := by
  have key : ∀ (d : Nat) (i : Int), 0 ≤ i → i + d = l.length → Wp (fun k => laws_r8Has.l0 k l a i) (fun r => r = decide (a ∈ l.drop i.toNat)) := by
    intro d
    induction d with
    | zero =>
      intro i i0 i1
      refine Wp.step ?_
      simp only [laws_r8Has.l0]
      exact Wp.neg (by omega) (Wp.now (by rw [List.drop_eq_nil_of_le (by omega)]; simp))
    | succ d ih =>
      intro i i0 i1
      refine Wp.step ?_
      simp only [laws_r8Has.l0]
      rw [w64 (n := i + 1) (by omega) (by omega), drop_cons i0 (by omega)]
      refine Wp.pos (by omega) (Wp.pos i0 (Wp.ite (fun e => Wp.now (by simp [e])) (fun e => (ih (i + 1) (by omega) (by omega)).mono ?_)))
      rintro r rfl
      apply decide_eq_decide.2
      rw [List.mem_cons]
      exact ⟨.inr, fun h => h.resolve_left (fun h => e h.symm)⟩
  have := key l.length 0 (by omega) (by omega)
  simpa [laws_r8Has.f] using this
theorem contains_wp {l : List Int} (hl : l.length ≤ 1000) (a : Int) : Wp (fun k => slices_Contains_int64_int64.f k l a) (fun r => r = decide (a ∈ l)) := by
  have key : ∀ (d : Nat) (i : Int), 0 ≤ i → i + d = l.length → Wp (fun k => slices_Index_int64_int64.l0 k l a l.length i) (fun r => (0 ≤ r ∧ a ∈ l.drop i.toNat) ∨ (r = -1 ∧ ¬ a ∈ l.drop i.toNat)) := by
    intro d
    induction d with
    | zero =>
      intro i i0 i1
      refine Wp.step ?_
      simp only [slices_Index_int64_int64.l0]
      exact Wp.neg (by omega) (Wp.now (.inr ⟨rfl, by rw [List.drop_eq_nil_of_le (by omega)]; simp⟩))
    | succ d ih =>
      intro i i0 i1
      refine Wp.step ?_
      simp only [slices_Index_int64_int64.l0]
      rw [w64 (n := i + 1) (by omega) (by omega), drop_cons i0 (by omega)]
      refine Wp.pos (by omega) (Wp.pos i0 (Wp.pos (by omega) (Wp.ite (fun e => Wp.now (.inl ⟨i0, by simp [e]⟩)) (fun e => (ih (i + 1) (by omega) (by omega)).mono ?_))))
      intro r h
      rcases h with ⟨h1, h2⟩ | ⟨h1, h2⟩
      · exact .inl ⟨h1, List.mem_cons_of_mem _ h2⟩
      · exact .inr ⟨h1, fun h => (List.mem_cons.1 h).elim (fun x => e x) h2⟩
  have := key l.length 0 (by omega) (by omega)
  simp only [slices_Contains_int64_int64.f, slices_Index_int64_int64.f]
  refine Wp.call this (fun r h => Wp.now ?_)
  simp only [Int.toNat_zero, List.drop_zero] at h
  apply decide_eq_decide.2
  rcases h with ⟨h1, h2⟩ | ⟨rfl, h2⟩
  · exact ⟨fun _ => h2, fun _ => h1⟩
  · exact ⟨fun h => absurd h (by decide), fun h => absurd h h2⟩
theorem scale_len {l : List Int} (h : scaleP l) : l.length ≤ 1000 := by have := h.2.1; omega
theorem scale_0 {l : List Int} (h : scaleP l) : rd l 0 = 0 := by
  have := h.2.2.2.2
  cases l with
  | nil => cases this
  | cons x t => simpa [rd] using this
theorem scale_at {l : List Int} (h : scaleP l) {i : Int} (i0 : 0 ≤ i) (i1 : i < l.length) : 0 ≤ rd l i ∧ rd l i ≤ 11 := h.2.2.2.1 _ (rd_mem i0 i1)
theorem scale_lt {l : List Int} (h : scaleP l) {i : Int} (i0 : 1 ≤ i) (i1 : i < l.length) : rd l (i - 1) < rd l i := by
  rw [rd_get (by omega) (by omega), rd_get (by omega) (by omega)]
  exact List.pairwise_iff_getElem.1 h.2.2.1 _ _ _ _ (by omega)
theorem l03Scale_wp {l : List Int} (h : scaleP l) : Wp (fun k => spec_l03Scale.f k l) (fun r => r = true) := by
  have h1 := h.1
  have h2 := h.2.1
  have key : ∀ (d : Nat) (i : Int), 0 ≤ i → i + d = l.length → Wp (fun k => spec_l00Rises.l0 k l 0 11 i) (fun r => r = true) := by
    intro d
    induction d with
    | zero =>
      intro i i0 i1
      refine Wp.step ?_
      simp only [spec_l00Rises.l0]
      exact Wp.neg (by omega) (Wp.now rfl)
    | succ d ih =>
      intro i i0 i1
      refine Wp.step ?_
      simp only [spec_l00Rises.l0]
      have hx := scale_at h i0 (by omega)
      rw [w64 (n := i + 1) (by omega) (by omega), w64 (n := i - 1) (by omega) (by omega), l00In_f]
      refine Wp.pos (by omega) (Wp.pos i0 (Wp.calls rfl (Wp.posB (by simp [within_]; omega) (Wp.ite (fun hp => ?_) (fun _ => ih (i + 1) (by omega) (by omega))))))
      have := scale_lt h (i := i) (by omega) (by omega)
      exact Wp.pos (by omega) (Wp.pos (by omega) (Wp.neg (by omega) (ih (i + 1) (by omega) (by omega))))
  simp only [spec_l03Scale.f, spec_l00Rises.f]
  refine Wp.pos (by omega) (Wp.val (key l.length 0 (by omega) (by omega)) (Wp.posB rfl (Wp.pos (by omega) (Wp.now ?_))))
  rw [scale_0 h]; rfl
theorem vScale_wp {l : List Int} (h : scaleP l) : Wp (fun k => impl_ValidScale.f k l) (fun r => r = true) := by
  have h1 := h.1
  have h2 := h.2.1
  have key : ∀ (d : Nat) (i : Int), 1 ≤ i → i + d = l.length → Wp (fun k => impl_increasing.l0 k l i) (fun r => r = true) := by
    intro d
    induction d with
    | zero =>
      intro i i0 i1
      refine Wp.step ?_
      simp only [impl_increasing.l0]
      exact Wp.neg (by omega) (Wp.now rfl)
    | succ d ih =>
      intro i i0 i1
      refine Wp.step ?_
      simp only [impl_increasing.l0]
      have := scale_lt h i0 (by omega)
      rw [w64 (n := i + 1) (by omega) (by omega), w64 (n := i - 1) (by omega) (by omega)]
      exact Wp.pos (by omega) (Wp.pos (by omega) (Wp.pos (by omega) (Wp.pos (by omega) (Wp.neg (by omega) (ih (i + 1) (by omega) (by omega))))))
  simp only [impl_ValidScale.f, impl_increasing.f]
  have := scale_at h (i := (l.length : Int) - 1) (by omega) (by omega)
  rw [w64 (n := (l.length : Int) - 1) (by omega) (by omega)]
  exact Wp.pos (by omega) (Wp.pos (by omega) (Wp.pos (scale_0 h) (Wp.val (key (l.length - 1) 1 (by omega) (by omega)) (Wp.posB rfl (Wp.pos (by omega) (Wp.pos (by omega) (Wp.now (decide_eq_true (by omega)))))))))
theorem l05Tone_wp {n : ByteArray} {u d : List Int} {s w : Int} {fb : List (List Int)} (hu : scaleP u) (hd : scaleP d) (a : Int) : Wp (fun k => spec_l05Tone.f k [(⟨n, u, d, s, w, fb⟩ : S27)] a) (fun r => r = decide (a ∈ u ∨ a ∈ d)) := by
  simp only [spec_l05Tone.f, rd1]
  refine Wp.val (l00Has_wp (scale_len hu) a) (Wp.ite (fun h => Wp.now ?_) (fun h => Wp.val (l00Has_wp (scale_len hd) a) (Wp.now ?_)))
  · exact (decide_eq_true (.inl (of_decide_eq_true h))).symm
  · apply decide_eq_decide.2
    exact ⟨.inr, fun x => x.resolve_left (fun y => h (decide_eq_true y))⟩
theorem hasTone_wp {n : ByteArray} {u d : List Int} {s w : Int} {fb : List (List Int)} (hu : scaleP u) (hd : scaleP d) (a : Int) : Wp (fun k => impl_Raga_hasTone.f k n u d s w fb a) (fun r => r = decide (a ∈ u ∨ a ∈ d)) := by
  simp only [impl_Raga_hasTone.f]
  refine Wp.val (contains_wp (scale_len hu) a) (Wp.ite (fun h => Wp.now ?_) (fun h => Wp.val (contains_wp (scale_len hd) a) (Wp.now ?_)))
  · exact (decide_eq_true (.inl (of_decide_eq_true h))).symm
  · apply decide_eq_decide.2
    exact ⟨.inr, fun x => x.resolve_left (fun y => h (decide_eq_true y))⟩
theorem l05Pair_f {a b : Int} (h : 0 ≤ a ∧ a ≤ 11 ∧ 0 ≤ b ∧ b ≤ 11 ∧ a ≠ b) : spec_l05Pair.f [a, b] = some true := by
  obtain ⟨h1, h2, h3, h4, h5⟩ := h
  have e0 : rd [a, b] 0 = a := rfl
  have e1 : rd [a, b] 1 = b := rfl
  have w1 : within_ a 0 11 = true := by simp [within_]; omega
  have w2 : within_ b 0 11 = true := by simp [within_]; omega
  unfold spec_l05Pair.f
  rw [if_pos (by simp), if_pos (by simp), l00In_f, e0, e1, w1, Option.bind_some, if_pos rfl, if_pos (by simp), l00In_f, w2, Option.bind_some, if_pos rfl]
  simp [h5]
theorem l05Pairs_wp {fb : List (List Int)} (h : pairsP fb) : Wp (fun k => spec_l05Pairs.f k fb) (fun r => r = true) := by
  simp only [spec_l05Pairs.f]
  rcases h with rfl | ⟨a, b, rfl, h⟩
  · refine Wp.step ?_
    simp only [spec_l05Pairs.l0]
    exact Wp.neg (by decide) (Wp.now rfl)
  · refine Wp.step ?_
    simp only [spec_l05Pairs.l0]
    rw [show rd_L3 [[a, b]] 0 = [a, b] from rfl, l05Pair_f h]
    refine Wp.pos (by simp) (Wp.pos (by decide) (Wp.calls rfl (Wp.posB rfl (Wp.neg (by decide) (Wp.step ?_)))))
    simp only [spec_l05Pairs.l0]
    exact Wp.neg (by simp [wrap64]) (Wp.now rfl)
theorem l05Ok_wp {n : ByteArray} {u d : List Int} {s w : Int} {fb : List (List Int)} (h : ragaP n u d s w fb) : Wp (fun k => spec_l05Ok.f k [(⟨n, u, d, s, w, fb⟩ : S27)]) (fun r => r = true) := by
  obtain ⟨h1, h2, h3, h4, h5, h6, h7, h8⟩ := h
  simp only [spec_l05Ok.f, rd1]
  refine Wp.val (a := true) ⟨true, rfl, by rw [← h1]; exact l01Name_ev n (by have : maxLen = 9223372036854775807 := rfl; omega)⟩ (Wp.posB rfl (Wp.val (l03Scale_wp h3) (Wp.posB rfl (Wp.val (l03Scale_wp h4) (Wp.posB rfl (Wp.val (l05Tone_wp h3 h4 s) (Wp.posB (decide_eq_true h5) (Wp.val (l05Tone_wp h3 h4 w) (Wp.posB (decide_eq_true h6) (Wp.neg h7 (Wp.val (l05Pairs_wp h8) (Wp.now rfl))))))))))))
theorem toneOk_f (a : Int) : impl_toneOk.f a = some (within_ a 0 11) := by
  unfold impl_toneOk.f; rw [within_f]; rfl
theorem vRaga_wp {n : ByteArray} {u d : List Int} {s w : Int} {fb : List (List Int)} (h : ragaP n u d s w fb) : Wp (fun k => impl_ValidRaga.f k n u d s w fb) (fun r => r = true) := by
  obtain ⟨h1, h2, h3, h4, h5, h6, h7, h8⟩ := h
  simp only [impl_ValidRaga.f]
  refine Wp.val (a := true) ⟨true, rfl, by rw [← h1]; exact isName_ev n (by have : maxLen = 9223372036854775807 := rfl; omega)⟩ (Wp.posB rfl (Wp.val (vScale_wp h3) (Wp.posB rfl (Wp.val (vScale_wp h4) (Wp.posB rfl (Wp.neg h7 (Wp.val (hasTone_wp h3 h4 s) (Wp.posB (decide_eq_true h5) (Wp.val (hasTone_wp h3 h4 w) (Wp.posB (decide_eq_true h6) (Wp.step ?_)))))))))))
  simp only [impl_ValidRaga.j0]
  rcases h8 with rfl | ⟨a, b, rfl, h⟩
  · refine Wp.negB (by decide) (Wp.step ?_)
    simp only [impl_ValidRaga.l0]
    exact Wp.neg (by decide) (Wp.now rfl)
  · obtain ⟨g1, g2, g3, g4, g5⟩ := h
    have w1 : within_ a 0 11 = true := by simp [within_]; omega
    have w2 : within_ b 0 11 = true := by simp [within_]; omega
    refine Wp.negB (by simp) (Wp.step ?_)
    simp only [impl_ValidRaga.l0]
    rw [show rd_L3 [[a, b]] 0 = [a, b] from rfl, show rd [a, b] 0 = a from rfl, show rd [a, b] 1 = b from rfl, toneOk_f, toneOk_f]
    refine Wp.pos (by simp) (Wp.pos (by decide) (Wp.pos (by simp) (Wp.pos (by simp) (Wp.pos (by simp) (Wp.calls rfl (Wp.posB w1 (Wp.pos (by simp) (Wp.calls rfl (Wp.posB w2 (Wp.neg g5 (Wp.neg (by decide) (Wp.step ?_))))))))))))
    simp only [impl_ValidRaga.l0]
    exact Wp.neg (by simp [wrap64]) (Wp.now rfl)
/-- The tone of a pitch. -/
def tn (p : Int) : Int := p % 12
theorem tn_0 (p : Int) : 0 ≤ tn p ∧ tn p ≤ 11 := by unfold tn; omega
theorem tn_eq {p : Int} (h : -12 ≤ p ∧ p ≤ 23) : Int.tmod (wrap64 ((Int.tmod p 12) + 12)) 12 = tn p := by
  have h1 : Int.tmod p 12 = if 0 ≤ p then p % 12 else -((-p) % 12) := by
    split
    · exact Int.tmod_eq_emod_of_nonneg (by omega)
    · rw [show p = -(-p) by omega, Int.neg_tmod, Int.tmod_eq_emod_of_nonneg (by omega)]; simp
  rw [h1, w64 (by split <;> omega) (by split <;> omega), Int.tmod_eq_emod_of_nonneg (by split <;> omega)]
  unfold tn
  split <;> omega
def forb (fb : List (List Int)) (x y : Int) : Bool := fb.any (fun p => rd p 0 == x && rd p 1 == y)
/-- Why a move is wrong, or 0. -/
def rsn (u d : List Int) (fb : List (List Int)) (a b : Int) : Int :=
  if ¬ ((tn a ∈ u ∨ tn a ∈ d) ∧ (tn b ∈ u ∨ tn b ∈ d)) then 1 else if b - a > 12 ∨ a - b > 12 then 2 else if b > a ∧ tn b ∉ u then 3 else if b < a ∧ tn b ∉ d then 4 else if forb fb (tn a) (tn b) = true then 5 else 0
theorem sforb_wp {n : ByteArray} {u d : List Int} {s w : Int} {fb : List (List Int)} (h : pairsP fb) (x y : Int) : Wp (fun k => spec_l05Reason.l0 k [(⟨n, u, d, s, w, fb⟩ : S27)] x y 0) (fun r => r = if forb fb x y = true then 5 else 0) := by
  refine Wp.step ?_
  simp only [spec_l05Reason.l0, rd1]
  rcases h with rfl | ⟨a, b, rfl, h⟩
  · exact Wp.neg (by decide) (Wp.now rfl)
  · simp only [show rd_L3 [[a, b]] 0 = [a, b] from rfl, show rd [a, b] 0 = a from rfl, show rd [a, b] 1 = b from rfl]
    have last : Wp (fun k => spec_l05Reason.l0 k [(⟨n, u, d, s, w, [[a, b]]⟩ : S27)] x y (wrap64 (0 + 1))) (fun r => r = 0) := by
      refine Wp.step ?_
      simp only [spec_l05Reason.l0, rd1]
      exact Wp.neg (by simp [wrap64]) (Wp.now rfl)
    have e : forb [[a, b]] x y = (a == x && b == y) := by simp [forb, rd]
    rw [e]
    refine Wp.pos (by simp) (Wp.pos (by decide) (Wp.pos (by simp) (Wp.ite (fun h1 => Wp.pos (by simp) (Wp.ite (fun h2 => Wp.now ?_) (fun h2 => last.mono ?_))) (fun h1 => last.mono ?_))))
    · simp [h1, h2]
    · rintro r rfl; simp [h2]
    · rintro r rfl; simp [h1]
theorem iforb_f {fb : List (List Int)} (h : pairsP fb) (x y : Int) : slices_ContainsFunc_at_impl_Raga_reason_1.f fb [x] [y] = some (forb fb x y) := by
  unfold slices_ContainsFunc_at_impl_Raga_reason_1.f
  rcases h with rfl | ⟨a, b, rfl, h⟩
  · rfl
  · have e : impl_Raga_reason_1.f [a, b] [x] [y] = some (a == x && b == y) := by
      unfold impl_Raga_reason_1.f
      rw [if_pos (by simp), show rd [a, b] 0 = a from rfl, show rd [a, b] 1 = b from rfl, show rd [x] 0 = x from rfl, show rd [y] 0 = y from rfl]
      by_cases h1 : a = x
      · rw [if_pos h1, if_pos (by simp)]; simp [h1]
      · rw [if_neg h1]; simp [h1]
    simp only [anyO, e, Option.bind_some]
    rw [show forb [[a, b]] x y = (a == x && b == y) by simp [forb, rd]]
    cases (a == x && b == y) <;> rfl
theorem sReason_wp {n : ByteArray} {u d : List Int} {s w : Int} {fb : List (List Int)} (h : ragaP n u d s w fb) {a b : Int} (ha : -12 ≤ a ∧ a ≤ 23) (hb : -12 ≤ b ∧ b ≤ 23) : Wp (fun k => spec_l05Reason.f k [(⟨n, u, d, s, w, fb⟩ : S27)] a b) (fun r => r = rsn u d fb a b) := by
  obtain ⟨_, _, hu, hd, _, _, _, hf⟩ := h
  simp only [spec_l05Reason.f, spec_l03Tone.f, Option.bind_some]
  rw [tn_eq ha, tn_eq hb]
  have j2 : ∀ c : Bool, (c = true ↔ (b < a ∧ tn b ∉ d)) → ¬ (b > a ∧ tn b ∉ u) → ¬ (b - a > 12 ∨ a - b > 12) → ((tn a ∈ u ∨ tn a ∈ d) ∧ (tn b ∈ u ∨ tn b ∈ d)) → Wp (fun k => spec_l05Reason.j2 k [(⟨n, u, d, s, w, fb⟩ : S27)] (tn a) (tn b) c) (fun r => r = rsn u d fb a b) := by
    intro c hc h3 h2 h1
    refine Wp.step ?_
    simp only [spec_l05Reason.j2]
    unfold rsn
    rw [if_neg (fun x => x h1), if_neg h2, if_neg h3]
    refine Wp.ite (fun e => Wp.now ?_) (fun e => ?_)
    · rw [if_pos (hc.1 e)]
    · rw [if_neg (fun x => e (hc.2 x))]
      exact sforb_wp hf _ _
  have j1 : ∀ c : Bool, (c = true ↔ (b > a ∧ tn b ∉ u)) → ¬ (b - a > 12 ∨ a - b > 12) → ((tn a ∈ u ∨ tn a ∈ d) ∧ (tn b ∈ u ∨ tn b ∈ d)) → Wp (fun k => spec_l05Reason.j1 k [(⟨n, u, d, s, w, fb⟩ : S27)] a b (tn a) (tn b) c) (fun r => r = rsn u d fb a b) := by
    intro c hc h2 h1
    refine Wp.step ?_
    simp only [spec_l05Reason.j1, rd1]
    refine Wp.ite (fun e => Wp.now ?_) (fun e => Wp.ite (fun h4 => Wp.val (l00Has_wp (scale_len hd) _) ?_) (fun h4 => ?_))
    · unfold rsn
      rw [if_neg (fun x => x h1), if_neg h2, if_pos (hc.1 e)]
    · exact j2 _ (by simp [h4]) (fun x => e (hc.2 x)) h2 h1
    · exact j2 _ (by simp; intro x; exact absurd x h4) (fun x => e (hc.2 x)) h2 h1
  have j0 : ∀ c : Bool, (c = true ↔ ¬ ((tn a ∈ u ∨ tn a ∈ d) ∧ (tn b ∈ u ∨ tn b ∈ d))) → Wp (fun k => spec_l05Reason.j0 k [(⟨n, u, d, s, w, fb⟩ : S27)] a b (tn a) (tn b) c) (fun r => r = rsn u d fb a b) := by
    intro c hc
    refine Wp.step ?_
    simp only [spec_l05Reason.j0, rd1]
    rw [w64 (n := a - b) (by omega) (by omega), w64 (n := b - a) (by omega) (by omega)]
    refine Wp.ite (fun e => Wp.now ?_) (fun e => ?_)
    · unfold rsn
      rw [if_pos (hc.1 e)]
    · have h1 : (tn a ∈ u ∨ tn a ∈ d) ∧ (tn b ∈ u ∨ tn b ∈ d) := Classical.byContradiction (fun x => e (hc.2 x))
      refine Wp.calls (a := if a - b > b - a then a - b else b - a) (by unfold spec_l00Max.f; split <;> rfl) ?_
      refine Wp.ite (fun h2 => Wp.now ?_) (fun h2 => ?_)
      · unfold rsn
        rw [if_neg (fun x => x h1), if_pos (by split at h2 <;> omega)]
      · have h2' : ¬ (b - a > 12 ∨ a - b > 12) := by split at h2 <;> omega
        refine Wp.ite (fun h3 => Wp.val (l00Has_wp (scale_len hu) _) (j1 _ (by simp [h3]) h2' h1)) (fun h3 => j1 _ (by simp; intro x; exact absurd x h3) h2' h1)
  refine Wp.val (l05Tone_wp hu hd _) (Wp.ite (fun e => Wp.val (l05Tone_wp hu hd _) (j0 _ ?_)) (fun e => j0 _ ?_))
  · have := of_decide_eq_true e
    simp [this]
  · rw [decide_eq_true_eq] at e
    exact ⟨fun _ h => e h.1, fun _ => rfl⟩
theorem abs_f {x : Int} (h : -100 ≤ x ∧ x ≤ 100) : ∃ y, impl_abs.f x = some y ∧ (y > 12 ↔ (x > 12 ∨ -x > 12)) := by
  refine ⟨mx x (-x), ?_, ?_⟩
  · unfold impl_abs.f; rw [w64 (n := -x) (by omega) (by omega)]
  · unfold mx; split <;> omega
theorem iReason_wp {n : ByteArray} {u d : List Int} {s w : Int} {fb : List (List Int)} (h : ragaP n u d s w fb) {a b : Int} (ha : -12 ≤ a ∧ a ≤ 23) (hb : -12 ≤ b ∧ b ≤ 23) : Wp (fun k => impl_Raga_reason.f k n u d s w fb a b) (fun r => r = rsn u d fb a b) := by
  obtain ⟨_, _, hu, hd, _, _, _, hf⟩ := h
  simp only [impl_Raga_reason.f, impl_ToneOf.f, Option.bind_some]
  rw [tn_eq ha, tn_eq hb]
  have j2 : ∀ c : Bool, (c = true ↔ (b < a ∧ tn b ∉ d)) → ¬ (b > a ∧ tn b ∉ u) → ¬ (b - a > 12 ∨ a - b > 12) → ((tn a ∈ u ∨ tn a ∈ d) ∧ (tn b ∈ u ∨ tn b ∈ d)) → Wp (fun k => impl_Raga_reason.j2 k c n u d s w fb (tn a) (tn b)) (fun r => r = rsn u d fb a b) := by
    intro c hc h3 h2 h1
    refine Wp.step ?_
    simp only [impl_Raga_reason.j2, iforb_f hf, Option.bind_some]
    refine Wp.ite (fun e => Wp.now ?_) (fun e => ?_)
    · unfold rsn; rw [if_neg (fun x => x h1), if_neg h2, if_neg h3, if_pos (hc.1 e)]
    · have er : rsn u d fb a b = if forb fb (tn a) (tn b) = true then 5 else 0 := by unfold rsn; rw [if_neg (fun x => x h1), if_neg h2, if_neg h3, if_neg (fun x => e (hc.2 x))]
      rw [er]
      exact Wp.ite (fun g => Wp.now (by rw [if_pos g])) (fun g => Wp.now (by rw [if_neg g]))
  have j1 : ∀ c : Bool, (c = true ↔ (b > a ∧ tn b ∉ u)) → ¬ (b - a > 12 ∨ a - b > 12) → ((tn a ∈ u ∨ tn a ∈ d) ∧ (tn b ∈ u ∨ tn b ∈ d)) → Wp (fun k => impl_Raga_reason.j1 k a b c n u d s w fb (tn a) (tn b)) (fun r => r = rsn u d fb a b) := by
    intro c hc h2 h1
    refine Wp.step ?_
    simp only [impl_Raga_reason.j1]
    refine Wp.ite (fun e => Wp.now ?_) (fun e => Wp.ite (fun h4 => Wp.val (contains_wp (scale_len hd) _) ?_) (fun h4 => ?_))
    · unfold rsn
      rw [if_neg (fun x => x h1), if_neg h2, if_pos (hc.1 e)]
    · exact j2 _ (by simp [h4]) (fun x => e (hc.2 x)) h2 h1
    · exact j2 _ (by simp; intro x; exact absurd x h4) (fun x => e (hc.2 x)) h2 h1
  have j0 : ∀ c : Bool, (c = true ↔ ¬ ((tn a ∈ u ∨ tn a ∈ d) ∧ (tn b ∈ u ∨ tn b ∈ d))) → Wp (fun k => impl_Raga_reason.j0 k a b c n u d s w fb (tn a) (tn b)) (fun r => r = rsn u d fb a b) := by
    intro c hc
    refine Wp.step ?_
    simp only [impl_Raga_reason.j0]
    rw [w64 (n := a - b) (by omega) (by omega)]
    refine Wp.ite (fun e => Wp.now ?_) (fun e => ?_)
    · unfold rsn
      rw [if_pos (hc.1 e)]
    · have h1 : (tn a ∈ u ∨ tn a ∈ d) ∧ (tn b ∈ u ∨ tn b ∈ d) := Classical.byContradiction (fun x => e (hc.2 x))
      obtain ⟨y, ey, hy⟩ := abs_f (x := a - b) (by omega)
      refine Wp.calls ey (Wp.ite (fun h2 => Wp.now ?_) (fun h2 => ?_))
      · unfold rsn
        rw [if_neg (fun x => x h1), if_pos (by have := hy.1 h2; omega)]
      · have h2' : ¬ (b - a > 12 ∨ a - b > 12) := fun x => h2 (hy.2 (by omega))
        refine Wp.ite (fun h3 => Wp.val (contains_wp (scale_len hu) _) (j1 _ (by simp [h3]) h2' h1)) (fun h3 => j1 _ (by simp; intro x; exact absurd x h3) h2' h1)
  refine Wp.val (hasTone_wp hu hd _) (Wp.ite (fun e => Wp.val (hasTone_wp hu hd _) (j0 _ ?_)) (fun e => j0 _ ?_))
  · have := of_decide_eq_true e
    simp [this]
  · rw [decide_eq_true_eq] at e
    exact ⟨fun _ h => e h.1, fun _ => rfl⟩
end Go.Proofs.Ytbedlmlofnphkaa.Pure
