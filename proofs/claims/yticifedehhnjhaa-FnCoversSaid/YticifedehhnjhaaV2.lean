/- Valid phrases; where a phrase stands; sets of places. -/
import Derived.Test.YticifedehhnjhaaV1
namespace Go.Proofs.Yticifedehhnjhaa.F
open Go Go.Proofs.Yticifedehhnjhaa.Eng
set_option linter.unusedSimpArgs false
set_option linter.unusedVariables false
set_option maxRecDepth 100000
theorem all_step {C : Int → Prop} {i n : Int} (h : i < n) : (∀ j, i ≤ j → j < n → C j) ↔ C i ∧ ∀ j, i + 1 ≤ j → j < n → C j :=
  ⟨fun k => ⟨k i (by omega) h, fun j h1 h2 => k j (by omega) h2⟩, fun ⟨k1, k2⟩ j h1 h2 => if e : j = i then e ▸ k1 else k2 j (by omega) h2⟩
theorem all_end {C : Int → Prop} {i n : Int} (h : ¬ i < n) : ∀ j, i ≤ j → j < n → C j := fun j h1 h2 => by omega
theorem within_wp {x lo hi : Int} : Wp (fun k => impl_within k x lo hi) (fun r => r = true ↔ lo ≤ x ∧ x ≤ hi) := by
  refine Wp.step ?_
  simp only [impl_within_eq, vLt, vLe, vEq, vNot, inR, decide_eq_true_eq, Bool.not_eq_true', decide_eq_false_iff_not, Bool.not_eq_eq_eq_not, Bool.not_true]
  refine Wp.ite (fun h => Wp.now ?_) (fun h => Wp.now ?_)
  · simp [h]
  · simp [h]
theorem in_wp {x lo hi : Int} : Wp (fun k => spec_l00In k x lo hi) (fun r => r = true ↔ lo ≤ x ∧ x ≤ hi) := by
  refine Wp.step ?_
  simp only [spec_l00In_eq, vLt, vLe, vEq, vNot, inR, decide_eq_true_eq, Bool.not_eq_true', decide_eq_false_iff_not, Bool.not_eq_eq_eq_not, Bool.not_true]
  refine Wp.ite (fun h => Wp.now ?_) (fun h => Wp.now ?_)
  · simp [h]
  · simp [h]
def InP (p : List Int) : Prop := ∀ x ∈ p, -12 ≤ x ∧ x ≤ 23
theorem allIn_wp {p : List Int} (hp : p.length ≤ 1000) : Wp (fun k => impl_allWithin k p (-12) 23) (fun r => r = true ↔ InP p) := by
  have lp : ∀ (d : Nat) {i : Int}, 0 ≤ i → i + d = p.length → Wp (fun k => slices_IndexFunc_int64_int64_i0_r2 k p (-12) 23 (vLen p) i) (fun r => ¬ 0 ≤ r ↔ InP (p.drop i.toNat)) := by
    intro d
    induction d with
    | zero =>
      intro i h0 hd
      refine Wp.step ?_
      simp only [slices_IndexFunc_int64_int64_i0_r2_eq, vLt, vLe, vEq, vNot, inR, decide_eq_true_eq, Bool.not_eq_true', decide_eq_false_iff_not, Bool.not_eq_eq_eq_not, Bool.not_true]
      refine Wp.neg (by simp only [vLen]; omega) (Wp.now ?_)
      rw [List.drop_eq_nil_of_le (by omega)]
      simp [InP]
    | succ d ih =>
      intro i h0 hd
      have hi : i < (p.length : Int) := by omega
      refine Wp.step ?_
      simp (disch := omega) only [slices_IndexFunc_int64_int64_i0_r2_eq, vLt, vLe, vEq, vNot, inR, decide_eq_true_eq, Bool.not_eq_true', decide_eq_false_iff_not, Bool.not_eq_eq_eq_not, Bool.not_true, add64]
      rw [vGet_drop (d := 0) h0 hi]
      have one : Wp (fun k => impl_allWithin_1 k (vGet p i 0) (-12) 23) (fun r => r = true ↔ ¬ (-12 ≤ vGet p i 0 ∧ vGet p i 0 ≤ 23)) := by
        refine Wp.step ?_
        simp only [impl_allWithin_1_eq, vLt, vLe, vEq, vNot, inR, decide_eq_true_eq, Bool.not_eq_true', decide_eq_false_iff_not, Bool.not_eq_eq_eq_not, Bool.not_true]
        refine Wp.call within_wp (fun r h => Wp.now ?_)
        rw [← h]; cases r <;> simp
      refine Wp.pos (by simp only [vLen]; omega) (Wp.pos ⟨h0, hi⟩ (Wp.call one (fun r h => Wp.ite (fun e => Wp.now ?_) (fun e => (ih (i := i + 1) (by omega) (by omega)).mono fun q hq => ?_))))
      · have := h.1 e
        refine ⟨fun q => absurd h0 q, fun q => (this (q _ (List.mem_cons_self ..))).elim⟩
      · have h2 : -12 ≤ vGet p i 0 ∧ vGet p i 0 ≤ 23 := Classical.byContradiction fun q => e (h.2 q)
        rw [hq]
        simp only [InP, List.mem_cons, forall_eq_or_imp, h2, true_and]
  refine Wp.step ?_
  simp only [impl_allWithin_eq, vLt, vLe, vEq, vNot, inR, decide_eq_true_eq, Bool.not_eq_true', decide_eq_false_iff_not, Bool.not_eq_eq_eq_not, Bool.not_true]
  have cf : Wp (fun k => slices_ContainsFunc_int64_int64_i0 k p (-12) 23) (fun r => r = false ↔ InP p) := by
    refine Wp.step ?_
    simp only [slices_ContainsFunc_int64_int64_i0_eq, vLt, vLe, vEq, vNot, inR, decide_eq_true_eq, Bool.not_eq_true', decide_eq_false_iff_not, Bool.not_eq_eq_eq_not, Bool.not_true]
    have ix : Wp (fun k => slices_IndexFunc_int64_int64_i0 k p (-12) 23) (fun r => ¬ 0 ≤ r ↔ InP p) := by
      refine Wp.step ?_
      simp only [slices_IndexFunc_int64_int64_i0_eq]
      exact lp p.length (by omega) (by omega)
    exact Wp.call ix (fun r h => Wp.now (by rw [← h]; simp))
  exact Wp.call cf (fun r h => Wp.now (by rw [← h]; cases r <;> simp))
def PhOk (p : List Int) : Prop := (2 ≤ p.length ∧ p.length ≤ 8) ∧ InP p
theorem phOk_wp {p : List Int} : Wp (fun k => impl_phraseOk k p) (fun r => r = true ↔ PhOk p) := by
  refine Wp.step ?_
  simp only [impl_phraseOk_eq, vLt, vLe, vEq, vNot, inR, decide_eq_true_eq, Bool.not_eq_true', decide_eq_false_iff_not, Bool.not_eq_eq_eq_not, Bool.not_true]
  have bad : ¬ PhOk p → Wp (fun _ => some false) (fun r => r = true ↔ PhOk p) := fun h => Wp.now ⟨fun e => (by cases e), fun q => (h q).elim⟩
  refine Wp.ite (fun h1 => Wp.ite (fun h2 => ?_) (fun h => bad fun q => ?_)) (fun h => bad fun q => ?_)
  · simp only [vLen] at h1 h2
    exact Wp.call (allIn_wp (by omega)) (fun r h => Wp.now (h.trans ⟨fun q => ⟨by omega, q⟩, fun q => q.2⟩))
  · have := q.1; simp only [vLen] at h; omega
  · have := q.1; simp only [vLen] at h; omega
def PtOk (p : List Int) : Prop := p.length ≤ 64 ∧ InP p
theorem ptOk_wp {p : List Int} : Wp (fun k => impl_pitchesOk k p) (fun r => r = true ↔ PtOk p) := by
  refine Wp.step ?_
  simp only [impl_pitchesOk_eq, vLt, vLe, vEq, vNot, inR, decide_eq_true_eq, Bool.not_eq_true', decide_eq_false_iff_not, Bool.not_eq_eq_eq_not, Bool.not_true]
  refine Wp.ite (fun h1 => ?_) (fun h => Wp.now ⟨fun e => (by cases e), fun q => ?_⟩)
  · simp only [vLen] at h1
    exact Wp.call (allIn_wp (by omega)) (fun r h => Wp.now (h.trans ⟨fun q => ⟨by omega, q⟩, fun q => q.2⟩))
  · have := q.1; simp only [vLen] at h; omega
/-! ### the order of phrases -/
def lexlt : List Int → List Int → Prop
  | _, [] => False
  | [], _ :: _ => True
  | a :: x, b :: y => a < b ∨ a = b ∧ lexlt x y
theorem lexlt_nil {a : List Int} (h : lexlt a []) : False := by cases a <;> exact h
theorem lexlt_trans : ∀ {a b c : List Int}, lexlt a b → lexlt b c → lexlt a c
  | _, _, [], _, h => (lexlt_nil h).elim
  | _, [], _ :: _, h, _ => (lexlt_nil h).elim
  | [], _ :: _, _ :: _, _, _ => trivial
  | a :: x, b :: y, c :: z, h, k => by
    rcases h with h | ⟨e, h⟩ <;> rcases k with k | ⟨e', k⟩
    · exact .inl (by omega)
    · exact .inl (by omega)
    · exact .inl (by omega)
    · exact .inr ⟨by omega, lexlt_trans h k⟩
theorem cmp1_wp {x y : Int} : Wp (fun k => cmp_Compare_int64 k x y) (fun r => (r < 0 ↔ x < y) ∧ (r = 0 ↔ x = y)) := by
  have nan : ∀ z : Int, Wp (fun k => cmp_isNaN_int64 k z) (fun r => r = false) := fun z => by
    refine Wp.step ?_
    simp only [cmp_isNaN_int64_eq, vLt, vLe, vEq, vNot, inR, decide_eq_true_eq, Bool.not_eq_true', decide_eq_false_iff_not, Bool.not_eq_eq_eq_not, Bool.not_true]
    exact Wp.now (by simp)
  refine Wp.step ?_
  simp only [cmp_Compare_int64_eq, vLt, vLe, vEq, vNot, inR, decide_eq_true_eq, Bool.not_eq_true', decide_eq_false_iff_not, Bool.not_eq_eq_eq_not, Bool.not_true]
  refine Wp.val (nan x) (Wp.val (nan y) (Wp.neg (by decide) (Wp.neg (by decide) (Wp.ite (fun h => Wp.now ?_) (fun h => Wp.ite (fun h2 => Wp.now ?_) (fun h2 => Wp.now ?_))))))
  · constructor <;> constructor <;> omega
  · constructor <;> constructor <;> omega
  · constructor <;> constructor <;> omega
theorem compare_wp {a b : List Int} (ha : a.length ≤ 1000) : Wp (fun k => slices_Compare_int64_int64 k a b) (fun r => r < 0 → lexlt a b) := by
  have lp : ∀ (d : Nat) {i : Int}, 0 ≤ i → i + d = a.length → i ≤ b.length → Wp (fun k => slices_Compare_int64_int64_r2 k a b a (vLen a) i) (fun r => r < 0 → lexlt (a.drop i.toNat) (b.drop i.toNat)) := by
    intro d
    induction d with
    | zero =>
      intro i h0 hd hb
      refine Wp.step ?_
      simp only [slices_Compare_int64_int64_r2_eq, vLt, vLe, vEq, vNot, inR, decide_eq_true_eq, Bool.not_eq_true', decide_eq_false_iff_not, Bool.not_eq_eq_eq_not, Bool.not_true]
      refine Wp.neg (by simp only [vLen]; omega) (Wp.ite (fun h => Wp.now fun _ => ?_) (fun _ => Wp.now fun q => by omega))
      simp only [vLen] at h
      rw [List.drop_eq_nil_of_le (by omega), vGet_drop (c := b) (d := 0) h0 (by omega)]
      trivial
    | succ d ih =>
      intro i h0 hd hb
      have hi : i < (a.length : Int) := by omega
      refine Wp.step ?_
      simp (disch := omega) only [slices_Compare_int64_int64_r2_eq, vLt, vLe, vEq, vNot, inR, decide_eq_true_eq, Bool.not_eq_true', decide_eq_false_iff_not, Bool.not_eq_eq_eq_not, Bool.not_true, add64]
      refine Wp.pos hi (Wp.pos ⟨h0, hi⟩ (Wp.ite (fun h => Wp.now fun q => by omega) (fun h => ?_)))
      have h : i < (b.length : Int) := by simp only [vLen] at h; omega
      rw [vGet_drop (d := 0) h0 hi, vGet_drop (c := b) (d := 0) h0 h]
      refine Wp.pos ⟨h0, h⟩ (Wp.call cmp1_wp (fun r hr => Wp.ite (fun _ => Wp.now fun q => .inl (hr.1.1 q)) (fun e => (ih (i := i + 1) (by omega) (by omega) (by omega)).mono fun q hq k => .inr ⟨hr.2.1 (by simpa using e), hq k⟩)))
  refine Wp.step ?_
  simp only [slices_Compare_int64_int64_eq]
  exact lp a.length (by omega) (by omega) (by omega)
theorem sbefore_wp {a b : List Int} (ha : a.length ≤ 1000) (h : lexlt a b) : Wp (fun k => spec_l06Before k a b) (fun r => r = true) := by
  have lp : ∀ (d : Nat) {i : Int}, 0 ≤ i → i + d = a.length → i ≤ b.length → lexlt (a.drop i.toNat) (b.drop i.toNat) → Wp (fun k => spec_l06Before_r2 k a b i) (fun r => r = true) := by
    intro d
    induction d with
    | zero =>
      intro i h0 hd hb h
      refine Wp.step ?_
      simp only [spec_l06Before_r2_eq, vLt, vLe, vEq, vNot, inR, decide_eq_true_eq, Bool.not_eq_true', decide_eq_false_iff_not, Bool.not_eq_eq_eq_not, Bool.not_true]
      refine Wp.neg (by simp only [vLen]; omega) (Wp.now (decide_eq_true ?_))
      simp only [vLen]
      by_cases hl : i < (b.length : Int)
      · omega
      · rw [@List.drop_eq_nil_of_le _ b _ (by omega)] at h
        exact (lexlt_nil h).elim
    | succ d ih =>
      intro i h0 hd hb h
      have hi : i < (a.length : Int) := by omega
      have hl : i < (b.length : Int) := by
        refine Classical.byContradiction fun hl => ?_
        rw [@List.drop_eq_nil_of_le _ b _ (by omega)] at h
        exact (lexlt_nil h).elim
      rw [vGet_drop (d := 0) h0 hi, vGet_drop (c := b) (d := 0) h0 hl] at h
      refine Wp.step ?_
      simp (disch := omega) only [spec_l06Before_r2_eq, vLt, vLe, vEq, vNot, inR, decide_eq_true_eq, Bool.not_eq_true', decide_eq_false_iff_not, Bool.not_eq_eq_eq_not, Bool.not_true, add64]
      refine Wp.pos hi (Wp.pos hl (Wp.pos ⟨h0, hi⟩ (Wp.pos ⟨h0, hl⟩ (Wp.ite (fun e => Wp.pos ⟨h0, hi⟩ (Wp.pos ⟨h0, hl⟩ (Wp.now (decide_eq_true ?_)))) (fun e => ih (by omega) (by omega) (by omega) ?_)))))
      · rcases h with h | h
        · exact h
        · exact absurd h.1 (by simpa using e)
      · have e : vGet a i 0 = vGet b i 0 := by simpa using e
        rcases h with h | h
        · omega
        · exact h.2
  refine Wp.step ?_
  simp only [spec_l06Before_eq]
  exact lp a.length (by omega) (by omega) (by omega) h
/-- Valid lists of phrases. -/
structure VP (L : List (List Int)) : Prop where
  len : L.length ≤ 12
  ok : ∀ j, 0 ≤ j → j < (L.length : Int) → PhOk (vGet L j [])
  lt : ∀ j, 0 ≤ j → j + 1 < (L.length : Int) → lexlt (vGet L j []) (vGet L (j + 1) [])
theorem VP.lts {L : List (List Int)} (h : VP L) {i : Int} (h0 : 0 ≤ i) : ∀ (d : Nat), i + 1 + d < (L.length : Int) → lexlt (vGet L i []) (vGet L (i + 1 + d) [])
  | 0, h1 => by simpa using h.lt i h0 (by omega)
  | d + 1, h1 => by
    have := h.lt (i + 1 + d) (by omega) (by omega)
    rw [show i + 1 + (d : Int) + 1 = i + 1 + ((d + 1 : Nat) : Int) by omega] at this
    exact lexlt_trans (VP.lts h h0 d (by omega)) this
def itC (L : List (List Int)) (i : Int) : Prop := PhOk (vGet L i []) ∧ (0 < i → lexlt (vGet L (i - 1) []) (vGet L i []))
theorem valid_wp {L : List (List Int)} : Wp (fun k => impl_ValidPhrases k L) (fun r => r = true → VP L) := by
  refine Wp.step ?_
  simp only [impl_ValidPhrases_eq, vLt, vLe, vEq, vNot, inR, decide_eq_true_eq, Bool.not_eq_true', decide_eq_false_iff_not, Bool.not_eq_eq_eq_not, Bool.not_true]
  refine Wp.ite (fun h => Wp.now fun e => (by cases e)) (fun h => ?_)
  have hl : L.length ≤ 12 := by simp only [vLen] at h; omega
  have lp : ∀ (d : Nat) {i : Int}, 0 ≤ i → i + d = L.length → (∀ j, 0 ≤ j → j < i → itC L j) → Wp (fun k => impl_ValidPhrases_r4 k L L (vLen L) i) (fun r => r = true → VP L) := by
    intro d
    induction d with
    | zero =>
      intro i h0 hd H
      refine Wp.step ?_
      simp only [impl_ValidPhrases_r4_eq, vLt, vLe, vEq, vNot, inR, decide_eq_true_eq, Bool.not_eq_true', decide_eq_false_iff_not, Bool.not_eq_eq_eq_not, Bool.not_true]
      refine Wp.neg (by simp only [vLen]; omega) (Wp.now fun _ => ⟨hl, fun j h1 h2 => (H j h1 (by omega)).1, fun j h1 h2 => ?_⟩)
      have := (H (j + 1) (by omega) (by omega)).2 (by omega)
      rwa [show j + 1 - 1 = j by omega] at this
    | succ d ih =>
      intro i h0 hd H
      have hi : i < (L.length : Int) := by omega
      refine Wp.step ?_
      simp (disch := omega) only [impl_ValidPhrases_r4_eq, vLt, vLe, vEq, vNot, inR, decide_eq_true_eq, Bool.not_eq_true', decide_eq_false_iff_not, Bool.not_eq_eq_eq_not, Bool.not_true, add64, sub64]
      refine Wp.pos hi (Wp.pos ⟨h0, hi⟩ (Wp.call phOk_wp (fun r hr => Wp.ite (fun _ => Wp.now fun e => (by cases e)) (fun e => ?_))))
      have ok := hr.1 (by simpa using e)
      have next : (0 < i → lexlt (vGet L (i - 1) []) (vGet L i [])) → Wp (fun k => impl_ValidPhrases_r4 k L L (vLen L) (i + 1)) (fun r => r = true → VP L) := fun q => ih (by omega) (by omega) fun j h1 h2 => by
        by_cases e : j = i
        · subst e; exact ⟨ok, q⟩
        · exact H j h1 (by omega)
      refine Wp.ite (fun hp => Wp.pos ⟨by omega, by simp only [vLen]; omega⟩ (Wp.call (compare_wp ?_) (fun r hr => Wp.ite (fun _ => Wp.now fun e => (by cases e)) (fun e => next fun _ => hr (by omega))))) (fun hp => next fun q => absurd q hp)
      have := (H (i - 1) (by omega) (by omega)).1.1
      omega
  exact lp L.length (by omega) (by omega) (fun j h1 h2 => by omega)
theorem spitches_wp {p : List Int} (h : PtOk p) : Wp (fun k => spec_l05Pitches k p) (fun r => r = true) := by
  have hl := h.1
  have lp : ∀ (d : Nat) {i : Int}, 0 ≤ i → i + d = p.length → Wp (fun k => spec_l05Pitches_r2 k p i) (fun r => r = true) := by
    intro d
    induction d with
    | zero =>
      intro i h0 hd
      refine Wp.step ?_
      simp only [spec_l05Pitches_r2_eq, vLt, vLe, vEq, vNot, inR, decide_eq_true_eq, Bool.not_eq_true', decide_eq_false_iff_not, Bool.not_eq_eq_eq_not, Bool.not_true]
      exact Wp.neg (by simp only [vLen]; omega) (Wp.now (decide_eq_true (by simp only [vLen]; omega)))
    | succ d ih =>
      intro i h0 hd
      have hi : i < (p.length : Int) := by omega
      refine Wp.step ?_
      simp (disch := omega) only [spec_l05Pitches_r2_eq, vLt, vLe, vEq, vNot, inR, decide_eq_true_eq, Bool.not_eq_true', decide_eq_false_iff_not, Bool.not_eq_eq_eq_not, Bool.not_true, add64]
      have one : Wp (fun k => spec_l03Pitch k (vGet p i 0)) (fun r => r = true) := by
        refine Wp.step ?_
        simp only [spec_l03Pitch_eq]
        exact Wp.call in_wp (fun r e => Wp.now (e.2 (h.2 _ (vGet_mem h0 hi))))
      exact Wp.pos hi (Wp.pos ⟨h0, hi⟩ (Wp.call one (fun r e => Wp.neg (by rw [e]; decide) (ih (by omega) (by omega)))))
  refine Wp.step ?_
  simp only [spec_l05Pitches_eq]
  exact lp p.length (by omega) (by omega)
theorem sphrase_wp {p : List Int} (h : PhOk p) : Wp (fun k => spec_l06Phrase k p) (fun r => r = true) := by
  have hl := h.1
  refine Wp.step ?_
  simp only [spec_l06Phrase_eq, vLt, vLe, vEq, vNot, inR, decide_eq_true_eq, Bool.not_eq_true', decide_eq_false_iff_not, Bool.not_eq_eq_eq_not, Bool.not_true]
  exact Wp.call (spitches_wp ⟨by omega, h.2⟩) (fun r e => Wp.pos e (Wp.pos (by simp only [vLen]; omega) (Wp.now (decide_eq_true (by simp only [vLen]; omega)))))
theorem sok_wp {L : List (List Int)} (h : VP L) : Wp (fun k => spec_l06Ok k L) (fun r => r = true) := by
  have hl := h.len
  have lp : ∀ (d : Nat) {i : Int}, 0 ≤ i → i + d = L.length → Wp (fun k => spec_l06Ok_r2 k L i) (fun r => r = true) := by
    intro d
    induction d with
    | zero =>
      intro i h0 hd
      refine Wp.step ?_
      simp only [spec_l06Ok_r2_eq, vLt, vLe, vEq, vNot, inR, decide_eq_true_eq, Bool.not_eq_true', decide_eq_false_iff_not, Bool.not_eq_eq_eq_not, Bool.not_true]
      exact Wp.neg (by simp only [vLen]; omega) (Wp.now (decide_eq_true (by simp only [vLen]; omega)))
    | succ d ih =>
      intro i h0 hd
      have hi : i < (L.length : Int) := by omega
      have ih := ih (i := i + 1) (by omega) (by omega)
      refine Wp.step ?_
      simp (disch := omega) only [spec_l06Ok_r2_eq, vLt, vLe, vEq, vNot, inR, decide_eq_true_eq, Bool.not_eq_true', decide_eq_false_iff_not, Bool.not_eq_eq_eq_not, Bool.not_true, add64, sub64]
      refine Wp.pos hi (Wp.pos ⟨h0, hi⟩ (Wp.call (sphrase_wp (h.ok i h0 hi)) (fun r e => Wp.neg (by rw [e]; decide) (Wp.ite (fun hp => Wp.pos ⟨by omega, by simp only [vLen]; omega⟩ (Wp.pos ⟨h0, hi⟩ (Wp.call (sbefore_wp ?_ ?_) (fun r e => Wp.neg (by rw [e]; decide) ih)))) (fun _ => ih)))))
      · have := (h.ok (i - 1) (by omega) (by omega)).1; omega
      · have := h.lt (i - 1) (by omega) (by omega); rwa [show i - 1 + 1 = i by omega] at this
  refine Wp.step ?_
  simp only [spec_l06Ok_eq]
  exact lp L.length (by omega) (by omega)
end Go.Proofs.Yticifedehhnjhaa.F
