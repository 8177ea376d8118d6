/- Grammars that are drawn are valid. -/
import Derived.Test.YtojmfjhbfcnecaaP1
namespace Go.Proofs.Ytojmfjhbfcnecaa.F
open Go Go.Proofs.Ytojmfjhbfcnecaa.Eng
set_option linter.unusedSimpArgs false
set_option linter.unusedVariables false
set_option maxRecDepth 100000
abbrev Arc := Int × Int × Int
abbrev Gr := Int × Int × List Int × List Arc
def a0 : Arc := (0, 0, 0)
theorem all_step {C : Int → Prop} {i n : Int} (h : i < n) : (∀ j, i ≤ j → j < n → C j) ↔ C i ∧ ∀ j, i + 1 ≤ j → j < n → C j :=
  ⟨fun k => ⟨k i (by omega) h, fun j h1 h2 => k j (by omega) h2⟩, fun ⟨k1, k2⟩ j h1 h2 => if e : j = i then e ▸ k1 else k2 j (by omega) h2⟩
theorem all_end {C : Int → Prop} {i n : Int} (h : ¬ i < n) : ∀ j, i ≤ j → j < n → C j := fun j h1 h2 => by omega
def finC (lo hi : Int) (l : List Int) (i : Int) : Prop := (lo ≤ vGet l i 0 ∧ vGet l i 0 ≤ hi) ∧ (0 < i → vGet l (i - 1) 0 < vGet l i 0)
def arcC (S : Int) (l : List Arc) (i : Int) : Prop := (0 ≤ (vGet l i a0).1 ∧ (vGet l i a0).1 ≤ S - 1) ∧ (-12 ≤ (vGet l i a0).2.1 ∧ (vGet l i a0).2.1 ≤ 23) ∧ (0 ≤ (vGet l i a0).2.2 ∧ (vGet l i a0).2.2 ≤ S - 1) ∧
  (0 < i → (vGet l (i - 1) a0).1 < (vGet l i a0).1 ∨ (vGet l (i - 1) a0).1 = (vGet l i a0).1 ∧ (vGet l (i - 1) a0).2.1 < (vGet l i a0).2.1)
structure VG (g : Gr) : Prop where
  S1 : 1 ≤ g.1 ∧ g.1 ≤ 32
  st : 0 ≤ g.2.1 ∧ g.2.1 ≤ g.1 - 1
  fin : ∀ j, 0 ≤ j → j < (g.2.2.1.length : Int) → finC 0 (g.1 - 1) g.2.2.1 j
  len : g.2.2.2.length ≤ 256
  arc : ∀ j, 0 ≤ j → j < (g.2.2.2.length : Int) → arcC g.1 g.2.2.2 j
theorem in_wp {x lo hi : Int} : Wp (fun k => spec_l00In k x lo hi) (fun r => r = true ↔ lo ≤ x ∧ x ≤ hi) := by
  refine Wp.step ?_
  simp only [spec_l00In_eq, vLt, vLe, vEq, vNot, inR, decide_eq_true_eq, Bool.not_eq_true', decide_eq_false_iff_not, Bool.not_eq_eq_eq_not, Bool.not_true]
  refine Wp.ite (fun h => Wp.now ?_) (fun h => Wp.now ?_)
  · simp [h]
  · simp [h]
theorem pitch_wp {x : Int} : Wp (fun k => spec_l03Pitch k x) (fun r => r = true ↔ -12 ≤ x ∧ x ≤ 23) := by
  refine Wp.step ?_
  simp only [spec_l03Pitch_eq]
  exact Wp.call in_wp (fun r h => Wp.now h)
theorem rises_wp {l : List Int} {lo hi : Int} (hl : l.length ≤ 1000000) : ∀ (d : Nat) {i : Int}, 0 ≤ i → i + d = l.length → Wp (fun k => spec_l00Rises_r2 k l lo hi i) (fun r => r = true ↔ ∀ j, i ≤ j → j < (l.length : Int) → finC lo hi l j)
  | 0, i, h0, hd => by
    refine Wp.step ?_
    simp only [spec_l00Rises_r2_eq, vLt, vLe, vEq, vNot, inR, decide_eq_true_eq, Bool.not_eq_true', decide_eq_false_iff_not, Bool.not_eq_eq_eq_not, Bool.not_true]
    refine Wp.neg (by simp only [vLen]; omega) (Wp.now ⟨fun _ => all_end (by omega), fun _ => rfl⟩)
  | d + 1, i, h0, hd => by
    have hq : i < (l.length : Int) := by omega
    have ih := rises_wp (lo := lo) (hi := hi) hl d (i := i + 1) (by omega) (by omega)
    refine Wp.step ?_
    simp (disch := omega) only [spec_l00Rises_r2_eq, vLt, vLe, vEq, vNot, inR, decide_eq_true_eq, Bool.not_eq_true', decide_eq_false_iff_not, Bool.not_eq_eq_eq_not, Bool.not_true, add64, sub64]
    refine Wp.pos hq (Wp.pos ⟨h0, hq⟩ (Wp.call in_wp (fun r hr => ?_)))
    rw [all_step hq]
    refine Wp.ite (fun h => Wp.now ⟨fun e => (by cases e), fun ⟨q, _⟩ => ?_⟩) (fun h => ?_)
    · have := hr.2 q.1; rw [h] at this; cases this
    · have hr' := hr.1 (by simpa using h)
      refine Wp.ite (fun hp => Wp.pos ⟨by omega, by simp only [vLen]; omega⟩ (Wp.pos ⟨h0, hq⟩ (Wp.ite (fun hz => Wp.now ⟨fun e => (by cases e), fun ⟨q, _⟩ => absurd (q.2 hp) (by omega)⟩) (fun hz => ih.mono fun r h => h.trans ⟨fun q => ⟨⟨hr', fun _ => by omega⟩, q⟩, fun q => q.2⟩)))) (fun hp => ih.mono fun r h => h.trans ⟨fun q => ⟨⟨hr', fun _ => by omega⟩, q⟩, fun q => q.2⟩)
theorem ok4_wp {S st : Int} {fin : List Int} {l : List Arc} (hl : l.length ≤ 256) (hS : 1 ≤ S ∧ S ≤ 32) : ∀ (d : Nat) {i : Int}, 0 ≤ i → i + d = l.length → Wp (fun k => spec_l07Ok_r4 k i S st fin l) (fun r => (r.1 = true ↔ ∀ j, i ≤ j → j < (l.length : Int) → arcC S l j) ∧ r.2 = (S, st, fin, l))
  | 0, i, h0, hd => by
    refine Wp.step ?_
    simp only [spec_l07Ok_r4_eq, vLt, vLe, vEq, vNot, inR, decide_eq_true_eq, Bool.not_eq_true', decide_eq_false_iff_not, Bool.not_eq_eq_eq_not, Bool.not_true]
    refine Wp.neg (by simp only [vLen]; omega) (Wp.now ⟨⟨fun _ => all_end (by omega), fun _ => rfl⟩, rfl⟩)
  | d + 1, i, h0, hd => by
    have hi : i < (l.length : Int) := by omega
    have ih := ok4_wp (st := st) (fin := fin) hl hS d (i := i + 1) (by omega) (by omega)
    have hpr : 0 < i → 0 ≤ i - 1 ∧ i - 1 < vLen l := fun _ => ⟨by omega, by simp only [vLen]; omega⟩
    refine Wp.step ?_
    simp (config := { maxSteps := 10000000 }) (disch := omega) only [spec_l07Ok_r4_eq, vLt, vLe, vEq, vNot, inR, decide_eq_true_eq, Bool.not_eq_true', decide_eq_false_iff_not, Bool.not_eq_eq_eq_not, Bool.not_true, add64, sub64]
    refine Wp.pos hi (Wp.pos ⟨h0, hi⟩ (Wp.call in_wp (fun r hr => ?_)))
    rw [all_step hi]
    refine Wp.ite (fun h => Wp.now ⟨⟨fun e => (by cases e), fun ⟨q, _⟩ => ?_⟩, rfl⟩) (fun h => ?_)
    · have := hr.2 q.1; rw [h] at this; cases this
    have k1 := hr.1 (by simpa using h)
    clear hr h
    refine Wp.call pitch_wp (fun r hr => Wp.ite (fun h => Wp.now ⟨⟨fun e => (by cases e), fun ⟨q, _⟩ => ?_⟩, rfl⟩) (fun h => ?_))
    · have := hr.2 q.2.1; rw [h] at this; cases this
    have k2 := hr.1 (by simpa using h)
    clear hr h
    refine Wp.call in_wp (fun r hr => Wp.ite (fun h => Wp.now ⟨⟨fun e => (by cases e), fun ⟨q, _⟩ => ?_⟩, rfl⟩) (fun h => ?_))
    · have := hr.2 q.2.2.1; rw [h] at this; cases this
    have k3 := hr.1 (by simpa using h)
    clear hr h
    have go : (0 < i → (vGet l (i - 1) a0).1 < (vGet l i a0).1 ∨ (vGet l (i - 1) a0).1 = (vGet l i a0).1 ∧ (vGet l (i - 1) a0).2.1 < (vGet l i a0).2.1) → Wp (fun k => spec_l07Ok_r4 k (i + 1) S st fin l) (fun r => (r.1 = true ↔ arcC S l i ∧ ∀ j, i + 1 ≤ j → j < (l.length : Int) → arcC S l j) ∧ r.2 = (S, st, fin, l)) :=
      fun q => ih.mono fun r h => ⟨h.1.trans ⟨fun p => ⟨⟨k1, k2, k3, q⟩, p⟩, fun p => p.2⟩, h.2⟩
    refine Wp.ite (fun hp => Wp.pos (hpr hp) (Wp.ite (fun h1 => Wp.now ⟨⟨fun e => (by cases e), fun ⟨q, _⟩ => ?_⟩, rfl⟩) (fun h1 => Wp.pos (hpr hp) (Wp.ite (fun h2 => Wp.pos (hpr hp) (Wp.ite (fun h3 => Wp.now ⟨⟨fun e => (by cases e), fun ⟨q, _⟩ => ?_⟩, rfl⟩) (fun h3 => go fun _ => ?_))) (fun h2 => go fun _ => ?_))))) (fun hp => go fun h => absurd h hp)
    · have := q.2.2.2 hp; change (vGet l i a0).1 < (vGet l (i - 1) a0).1 at h1; omega
    · have := q.2.2.2 hp; change (vGet l (i - 1) a0).1 = (vGet l i a0).1 at h2; change (vGet l i a0).2.1 ≤ (vGet l (i - 1) a0).2.1 at h3; omega
    · change (vGet l (i - 1) a0).1 = (vGet l i a0).1 at h2; change ¬ (vGet l i a0).2.1 ≤ (vGet l (i - 1) a0).2.1 at h3; exact .inr ⟨h2, by omega⟩
    · change ¬ (vGet l (i - 1) a0).1 = (vGet l i a0).1 at h2; change ¬ (vGet l i a0).1 < (vGet l (i - 1) a0).1 at h1; exact .inl (by omega)
theorem ok_wp {S st : Int} {fin : List Int} {l : List Arc} (hS : 0 ≤ S ∧ S ≤ 1000000) (hf : fin.length ≤ 1000000) : Wp (fun k => spec_l07Ok k S st fin l) (fun r => (r.1 = true ↔ VG (S, st, fin, l)) ∧ r.2 = (S, st, fin, l)) := by
  refine Wp.step ?_
  simp (disch := omega) only [spec_l07Ok_eq, vLt, vLe, vEq, vNot, inR, decide_eq_true_eq, Bool.not_eq_true', decide_eq_false_iff_not, Bool.not_eq_eq_eq_not, Bool.not_true, sub64]
  refine Wp.call in_wp (fun r hr => Wp.ite (fun h => Wp.now ⟨⟨fun e => (by cases e), fun q => ?_⟩, rfl⟩) (fun h => ?_))
  · have := hr.2 q.S1; rw [h] at this; cases this
  have k1 := hr.1 (by simpa using h)
  clear hr h
  refine Wp.call in_wp (fun r hr => Wp.ite (fun h => Wp.now ⟨⟨fun e => (by cases e), fun q => ?_⟩, rfl⟩) (fun h => ?_))
  · have := hr.2 q.st; rw [h] at this; cases this
  have k2 := hr.1 (by simpa using h)
  clear hr h
  have rs : Wp (fun k => spec_l00Rises k fin 0 (S - 1)) (fun r => r = true ↔ ∀ j, 0 ≤ j → j < (fin.length : Int) → finC 0 (S - 1) fin j) := by
    refine Wp.step ?_
    simp only [spec_l00Rises_eq]
    exact rises_wp hf fin.length (by omega) (by omega)
  refine Wp.call rs (fun r hr => Wp.ite (fun h => Wp.now ⟨⟨fun e => (by cases e), fun q => ?_⟩, rfl⟩) (fun h => ?_))
  · have := hr.2 q.fin; rw [h] at this; cases this
  have k3 := hr.1 (by simpa using h)
  clear hr h
  refine Wp.ite (fun h => Wp.now ⟨⟨fun e => (by cases e), fun q => ?_⟩, rfl⟩) (fun h => ?_)
  · have := q.len; simp only [vLen] at h; dsimp only at this; omega
  have hl : l.length ≤ 256 := by simp only [vLen] at h; omega
  exact (ok4_wp hl k1 l.length (by omega) (by omega)).mono fun r h => ⟨h.1.trans ⟨fun q => ⟨k1, k2, k3, hl, q⟩, fun q => q.arc⟩, h.2⟩
/-! ### the program's own look -/
theorem within_wp {x lo hi : Int} : Wp (fun k => impl_within k x lo hi) (fun r => r = true ↔ lo ≤ x ∧ x ≤ hi) := by
  refine Wp.step ?_
  simp only [impl_within_eq, vLt, vLe, vEq, vNot, inR, decide_eq_true_eq, Bool.not_eq_true', decide_eq_false_iff_not, Bool.not_eq_eq_eq_not, Bool.not_true]
  refine Wp.ite (fun h => Wp.now ?_) (fun h => Wp.now ?_)
  · simp [h]
  · simp [h]
theorem hasState_wp {S st : Int} {fin : List Int} {l : List Arc} {x : Int} (hS : 1 ≤ S ∧ S ≤ 32) : Wp (fun k => impl_Grammar_hasState k S st fin l x) (fun r => r = true ↔ 0 ≤ x ∧ x ≤ S - 1) := by
  refine Wp.step ?_
  simp (disch := omega) only [impl_Grammar_hasState_eq, sub64]
  exact Wp.call within_wp (fun r h => Wp.now h)
theorem cmp_wp {a b : Int} : Wp (fun k => cmp_Compare_int64 k a b) (fun r => r = if a < b then -1 else if b < a then 1 else 0) := by
  have nan : ∀ a : Int, Wp (fun k => cmp_isNaN_int64 k a) (fun r => r = false) := fun a => by
    refine Wp.step ?_
    simp only [cmp_isNaN_int64_eq]
    exact Wp.now (by simp [vNot, vEq])
  refine Wp.step ?_
  simp only [cmp_Compare_int64_eq, vLt, vLe, vEq, vNot, inR, decide_eq_true_eq, Bool.not_eq_true', decide_eq_false_iff_not, Bool.not_eq_eq_eq_not, Bool.not_true]
  refine Wp.val (nan a) (Wp.val (nan b) (Wp.neg (by decide) (Wp.neg (by decide) ?_)))
  exact Wp.ite (fun h => Wp.now (by rw [if_pos h])) (fun h => Wp.ite (fun h2 => Wp.now (by rw [if_neg h, if_pos h2])) (fun h2 => Wp.now (by rw [if_neg h, if_neg h2])))
theorem or_wp {a b : Int} : Wp (fun k => cmp_Or_int k [a, b]) (fun r => r = if a = 0 then b else a) := by
  refine Wp.step ?_
  simp only [cmp_Or_int_eq]
  refine Wp.step ?_
  simp only [cmp_Or_int_r3_eq, vLt, vLe, vEq, vNot, inR, decide_eq_true_eq, Bool.not_eq_true', decide_eq_false_iff_not, Bool.not_eq_eq_eq_not, Bool.not_true]
  refine Wp.pos (by simp [vLen]) (Wp.pos (by simp [vLen]) (Wp.ite (fun h => Wp.now ?_) (fun h => ?_)))
  · have h : ¬ a = 0 := h
    rw [if_neg h]; rfl
  · have h : a = 0 := Decidable.not_not.1 (by simpa [vGet] using h)
    rw [if_pos h]
    refine Wp.step ?_
    simp (disch := omega) only [cmp_Or_int_r3_eq, vLt, vLe, vEq, vNot, inR, decide_eq_true_eq, Bool.not_eq_true', decide_eq_false_iff_not, Bool.not_eq_eq_eq_not, Bool.not_true, add64]
    refine Wp.pos (by simp [vLen]) (Wp.pos (by simp [vLen]) (Wp.ite (fun h => Wp.now rfl) (fun h => ?_)))
    have h : b = 0 := Decidable.not_not.1 (by simpa [vGet] using h)
    refine Wp.step ?_
    simp (disch := omega) only [cmp_Or_int_r3_eq, vLt, vLe, vEq, vNot, inR, decide_eq_true_eq, Bool.not_eq_true', decide_eq_false_iff_not, Bool.not_eq_eq_eq_not, Bool.not_true, add64]
    exact Wp.neg (by simp [vLen]) (Wp.now h.symm)
theorem cmpArc_wp {a b c d e f : Int} (h : a < d ∨ a = d ∧ b < e) : Wp (fun k => impl_compareArcs k a b c d e f) (fun r => r < 0) := by
  refine Wp.step ?_
  simp only [impl_compareArcs_eq]
  refine Wp.val cmp_wp (Wp.val cmp_wp (Wp.val or_wp (Wp.now ?_)))
  rcases h with h | ⟨h, h2⟩
  · simp [h]
  · have : ¬ a < d := by omega
    have : ¬ d < a := by omega
    simp [*]
theorem vg4_wp {g : Gr} (h : VG g) : ∀ (d : Nat) {i : Int}, 0 ≤ i → i + d = g.2.2.2.length → Wp (fun k => impl_ValidGrammar_r4 k g.2.2.2 (vLen g.2.2.2) i g.1 g.2.1 g.2.2.1 g.2.2.2) (fun r => r = true)
  | 0, i, h0, hd => by
    refine Wp.step ?_
    simp only [impl_ValidGrammar_r4_eq, vLt, vLe, vEq, vNot, inR, decide_eq_true_eq, Bool.not_eq_true', decide_eq_false_iff_not, Bool.not_eq_eq_eq_not, Bool.not_true]
    exact Wp.neg (by simp only [vLen]; omega) (Wp.now rfl)
  | d + 1, i, h0, hd => by
    have hi : i < (g.2.2.2.length : Int) := by omega
    have hlen := h.len
    have ih := vg4_wp h d (i := i + 1) (by omega) (by omega)
    obtain ⟨c1, c2, c3, c4⟩ := h.arc i h0 hi
    refine Wp.step ?_
    simp (disch := omega) only [impl_ValidGrammar_r4_eq, vLt, vLe, vEq, vNot, inR, decide_eq_true_eq, Bool.not_eq_true', decide_eq_false_iff_not, Bool.not_eq_eq_eq_not, Bool.not_true, add64, sub64]
    refine Wp.pos hi (Wp.pos ⟨h0, hi⟩ (Wp.call (hasState_wp h.S1) (fun r hr => Wp.neg (by rw [hr.2 c1]; decide) ?_)))
    refine Wp.call (hasState_wp h.S1) (fun r hr => Wp.neg (by rw [hr.2 c3]; decide) ?_)
    have po : Wp (fun k => impl_pitchOk k (vGet g.2.2.2 i (0, 0, 0)).2.1) (fun r => r = true) := by
      refine Wp.step ?_
      simp only [impl_pitchOk_eq]
      exact Wp.call within_wp (fun r h => Wp.now (h.2 c2))
    refine Wp.val po (Wp.neg (by decide) ?_)
    refine Wp.ite (fun hp => Wp.pos ⟨by omega, by simp only [vLen]; omega⟩ (Wp.call (cmpArc_wp (c4 hp)) (fun r hr => Wp.neg (by omega) ih))) (fun hp => ih)
theorem incr_wp {l : List Int} {lo hi : Int} (hl : l.length ≤ 1000000) (h : ∀ j, 0 ≤ j → j < (l.length : Int) → finC lo hi l j) : ∀ (d : Nat) {i : Int}, 1 ≤ i → (i + d = l.length ∨ d = 0 ∧ (l.length : Int) ≤ i) → Wp (fun k => impl_increasing_r2 k l i) (fun r => r = true)
  | 0, i, h0, hd => by
    refine Wp.step ?_
    simp only [impl_increasing_r2_eq, vLt, vLe, vEq, vNot, inR, decide_eq_true_eq, Bool.not_eq_true', decide_eq_false_iff_not, Bool.not_eq_eq_eq_not, Bool.not_true]
    exact Wp.neg (by simp only [vLen]; omega) (Wp.now rfl)
  | d + 1, i, h0, hd => by
    have hi : i < (l.length : Int) := by omega
    have ih := incr_wp hl h d (i := i + 1) (by omega) (by omega)
    have := (h i (by omega) hi).2 (by omega)
    refine Wp.step ?_
    simp (disch := omega) only [impl_increasing_r2_eq, vLt, vLe, vEq, vNot, inR, decide_eq_true_eq, Bool.not_eq_true', decide_eq_false_iff_not, Bool.not_eq_eq_eq_not, Bool.not_true, add64, sub64]
    exact Wp.pos hi (Wp.pos ⟨by omega, hi⟩ (Wp.pos ⟨by omega, by simp only [vLen]; omega⟩ (Wp.neg (by omega) ih)))
theorem allIn_wp {l : List Int} {lo hi : Int} (hl : l.length ≤ 1000000) (h : ∀ j, 0 ≤ j → j < (l.length : Int) → lo ≤ vGet l j 0 ∧ vGet l j 0 ≤ hi) : ∀ (d : Nat) {i : Int}, 0 ≤ i → i + d = l.length → Wp (fun k => slices_IndexFunc_int64_int64_i0_r2 k l lo hi (vLen l) i) (fun r => r = -1)
  | 0, i, h0, hd => by
    refine Wp.step ?_
    simp only [slices_IndexFunc_int64_int64_i0_r2_eq, vLt, vLe, vEq, vNot, inR, decide_eq_true_eq, Bool.not_eq_true', decide_eq_false_iff_not, Bool.not_eq_eq_eq_not, Bool.not_true]
    exact Wp.neg (by simp only [vLen]; omega) (Wp.now rfl)
  | d + 1, i, h0, hd => by
    have hq : i < (l.length : Int) := by omega
    have ih := allIn_wp hl h d (i := i + 1) (by omega) (by omega)
    have one : Wp (fun k => impl_allWithin_1 k (vGet l i 0) lo hi) (fun r => r = false) := by
      refine Wp.step ?_
      simp only [impl_allWithin_1_eq]
      exact Wp.call within_wp (fun r hr => Wp.now (by rw [hr.2 (h i h0 (by omega))]; rfl))
    refine Wp.step ?_
    simp (disch := omega) only [slices_IndexFunc_int64_int64_i0_r2_eq, vLt, vLe, vEq, vNot, inR, decide_eq_true_eq, Bool.not_eq_true', decide_eq_false_iff_not, Bool.not_eq_eq_eq_not, Bool.not_true, add64]
    exact Wp.pos (by simp only [vLen]; omega) (Wp.pos ⟨h0, by simp only [vLen]; omega⟩ (Wp.val one (Wp.neg (by decide) ih)))
theorem valid_wp {g : Gr} (h : VG g) (hf : g.2.2.1.length ≤ 1000000) : Wp (fun k => impl_ValidGrammar k g.1 g.2.1 g.2.2.1 g.2.2.2) (fun r => r = true) := by
  have hS := h.S1
  refine Wp.step ?_
  simp (disch := omega) only [impl_ValidGrammar_eq, vLt, vLe, vEq, vNot, inR, decide_eq_true_eq, Bool.not_eq_true', decide_eq_false_iff_not, Bool.not_eq_eq_eq_not, Bool.not_true, sub64]
  refine Wp.call within_wp (fun r hr => Wp.neg (by rw [hr.2 h.S1]; decide) ?_)
  refine Wp.call (hasState_wp h.S1) (fun r hr => Wp.neg (by rw [hr.2 h.st]; decide) ?_)
  have inc : Wp (fun k => impl_increasing k g.2.2.1) (fun r => r = true) := by
    refine Wp.step ?_
    simp only [impl_increasing_eq]
    by_cases e : (g.2.2.1.length : Int) ≤ 1
    · exact incr_wp hf h.fin 0 (by omega) (.inr ⟨rfl, e⟩)
    · exact incr_wp hf h.fin (g.2.2.1.length - 1) (by omega) (.inl (by omega))
  refine Wp.val inc (Wp.neg (by decide) ?_)
  have allW : Wp (fun k => impl_allWithin k g.2.2.1 0 (g.1 - 1)) (fun r => r = true) := by
    refine Wp.step ?_
    simp only [impl_allWithin_eq]
    have cf : Wp (fun k => slices_ContainsFunc_int64_int64_i0 k g.2.2.1 0 (g.1 - 1)) (fun r => r = false) := by
      refine Wp.step ?_
      simp only [slices_ContainsFunc_int64_int64_i0_eq]
      have ix : Wp (fun k => slices_IndexFunc_int64_int64_i0 k g.2.2.1 0 (g.1 - 1)) (fun r => r = -1) := by
        refine Wp.step ?_
        simp only [slices_IndexFunc_int64_int64_i0_eq]
        exact allIn_wp hf (fun j h1 h2 => (h.fin j h1 h2).1) g.2.2.1.length (by omega) (by omega)
      exact Wp.val ix (Wp.now rfl)
    exact Wp.val cf (Wp.now rfl)
  refine Wp.val allW (Wp.neg (by decide) ?_)
  exact Wp.neg (by have := h.len; simp only [vLen]; omega) (vg4_wp h g.2.2.2.length (by omega) (by omega))
end Go.Proofs.Ytojmfjhbfcnecaa.F
