/- Where a phrase stands; the places that phrases cover. -/
import Derived.Test.YticifedehhnjhaaV2
namespace Go.Proofs.Yticifedehhnjhaa.F
open Go Go.Proofs.Yticifedehhnjhaa.Eng
set_option linter.unusedSimpArgs false
set_option linter.unusedVariables false
set_option maxRecDepth 100000
open Classical in
noncomputable def sel (C : Int → Prop) : Nat → Int → List Int
  | 0, _ => []
  | d + 1, i => if C i then i :: sel C d (i + 1) else sel C d (i + 1)
theorem mem_sel {C : Int → Prop} {j : Int} : ∀ {d : Nat} {i : Int}, j ∈ sel C d i ↔ (i ≤ j ∧ j < i + d) ∧ C j
  | 0, i => by simp only [sel, List.not_mem_nil, false_iff]; omega
  | d + 1, i => by
    simp only [sel]
    split
    · rename_i h
      rw [List.mem_cons, mem_sel]
      constructor
      · rintro (e | ⟨q, c⟩)
        · subst e; exact ⟨by omega, h⟩
        · exact ⟨by omega, c⟩
      · rintro ⟨q, c⟩
        by_cases e : j = i
        · exact .inl e
        · exact .inr ⟨by omega, c⟩
    · rename_i h
      rw [mem_sel]
      constructor
      · rintro ⟨q, c⟩; exact ⟨by omega, c⟩
      · rintro ⟨q, c⟩
        by_cases e : j = i
        · subst e; exact absurd c h
        · exact ⟨by omega, c⟩
theorem sel_nil {C : Int → Prop} {d : Nat} {i : Int} (h : ∀ j, i ≤ j → j < i + d → ¬ C j) : sel C d i = [] := by
  apply List.eq_nil_iff_forall_not_mem.2
  intro j hj
  have := mem_sel.1 hj
  exact h j this.1.1 this.1.2 this.2
theorem sel_len {C : Int → Prop} : ∀ {d : Nat} {i : Int}, (sel C d i).length ≤ d
  | 0, i => by simp [sel]
  | d + 1, i => by
    have := @sel_len C d (i + 1)
    simp only [sel]; split
    · simp only [List.length_cons]; omega
    · omega
theorem sel_congr {C D : Int → Prop} : ∀ {d : Nat} {i : Int}, (∀ j, i ≤ j → j < i + d → (C j ↔ D j)) → sel C d i = sel D d i
  | 0, i, h => rfl
  | d + 1, i, h => by
    have e := sel_congr (d := d) (i := i + 1) (fun j h1 h2 => h j (by omega) (by omega))
    have q := h i (by omega) (by omega)
    by_cases c : C i
    · simp only [sel, if_pos c, if_pos (q.1 c), e]
    · simp only [sel, if_neg c, if_neg (fun k => c (q.2 k)), e]
theorem sel_le {C D : Int → Prop} : ∀ {d : Nat} {i : Int}, (∀ j, i ≤ j → j < i + d → C j → D j) → (sel C d i).length ≤ (sel D d i).length ∧ ((sel C d i).length = (sel D d i).length → ∀ j, i ≤ j → j < i + d → D j → C j)
  | 0, i, h => ⟨Nat.le_refl _, fun _ j h1 h2 => by omega⟩
  | d + 1, i, h => by
    have e := sel_le (d := d) (i := i + 1) (fun j h1 h2 => h j (by omega) (by omega))
    have q := h i (by omega) (by omega)
    simp only [sel]
    by_cases c : C i
    · have dd := q c
      simp only [if_pos c, if_pos dd, List.length_cons]
      refine ⟨by omega, fun el j h1 h2 k => ?_⟩
      by_cases ej : j = i
      · subst ej; exact c
      · exact e.2 (by omega) j (by omega) (by omega) k
    · by_cases dd : D i
      · simp only [if_neg c, if_pos dd, List.length_cons]
        exact ⟨by omega, fun el => by omega⟩
      · simp only [if_neg c, if_neg dd]
        refine ⟨e.1, fun el j h1 h2 k => ?_⟩
        by_cases ej : j = i
        · subst ej; exact absurd k dd
        · exact e.2 el j (by omega) (by omega) k
def At (P ph : List Int) (i : Int) : Prop := i + ph.length ≤ P.length ∧ ∀ t, 0 ≤ t → t < (ph.length : Int) → vGet P (i + t) 0 = vGet ph t 0
theorem vGet_cut {P : List Int} {i h t : Int} (h0 : 0 ≤ i) (h1 : 0 ≤ t) (h2 : i + t < h) : vGet (cut P i h) t 0 = vGet P (i + t) 0 := by
  simp only [vGet, cut, List.getD_eq_getElem?_getD, List.getElem?_drop, List.getElem?_take]
  rw [if_pos (by omega), show i.toNat + t.toNat = (i + t).toNat by omega]
theorem cut_len {P : List Int} {i h : Int} (h0 : 0 ≤ i) (h1 : i ≤ h) (h2 : h ≤ P.length) : ((cut P i h).length : Int) = h - i := by
  simp only [cut, List.length_drop, List.length_take]; omega
theorem at_cut {P : List Int} {i n : Int} (h0 : 0 ≤ i) (hn : 0 ≤ n) (h1 : i + n ≤ P.length) : At P (cut P i (i + n)) i := by
  have := cut_len (P := P) h0 (show i ≤ i + n by omega) h1
  exact ⟨by omega, fun t h2 h3 => (vGet_cut h0 h2 (by omega)).symm⟩
noncomputable def occs (P ph : List Int) : List Int := sel (At P ph) P.length 0
theorem mem_occs {P ph : List Int} {o : Int} (h : o ∈ occs P ph) : (0 ≤ o ∧ o + ph.length ≤ P.length) ∧ At P ph o := by
  have := mem_sel.1 h
  exact ⟨⟨by omega, this.2.1⟩, this.2⟩
theorem equal_wp {a b : List Int} (hl : a.length = b.length) (ha : a.length ≤ 1000) : Wp (fun k => slices_Equal_int64_int64 k a b) (fun r => r = true ↔ ∀ t, 0 ≤ t → t < (b.length : Int) → vGet a t 0 = vGet b t 0) := by
  have lp : ∀ (d : Nat) {i : Int}, 0 ≤ i → i + d = b.length → Wp (fun k => slices_Equal_int64_int64_r4 k a b (vLen a) i) (fun r => r = true ↔ ∀ t, i ≤ t → t < (b.length : Int) → vGet a t 0 = vGet b t 0) := by
    intro d
    induction d with
    | zero =>
      intro i h0 hd
      refine Wp.step ?_
      simp only [slices_Equal_int64_int64_r4_eq, vLt, vLe, vEq, vNot, inR, decide_eq_true_eq, Bool.not_eq_true', decide_eq_false_iff_not, Bool.not_eq_eq_eq_not, Bool.not_true]
      exact Wp.neg (by simp only [vLen]; omega) (Wp.now ⟨fun _ => all_end (by omega), fun _ => rfl⟩)
    | succ d ih =>
      intro i h0 hd
      have hi : i < (a.length : Int) := by omega
      have hj : i < (b.length : Int) := by omega
      refine Wp.step ?_
      simp (disch := omega) only [slices_Equal_int64_int64_r4_eq, vLt, vLe, vEq, vNot, inR, decide_eq_true_eq, Bool.not_eq_true', decide_eq_false_iff_not, Bool.not_eq_eq_eq_not, Bool.not_true, add64]
      rw [all_step hj]
      refine Wp.pos hi (Wp.pos ⟨h0, hi⟩ (Wp.pos ⟨h0, hj⟩ (Wp.ite (fun e => Wp.now ⟨fun q => (by cases q), fun q => absurd q.1 (by simpa using e)⟩) (fun e => (ih (i := i + 1) (by omega) (by omega)).mono fun r hr => hr.trans ⟨fun q => ⟨by simpa using e, q⟩, fun q => q.2⟩))))
  refine Wp.step ?_
  simp only [slices_Equal_int64_int64_eq, vLt, vLe, vEq, vNot, inR, decide_eq_true_eq, Bool.not_eq_true', decide_eq_false_iff_not, Bool.not_eq_eq_eq_not, Bool.not_true]
  exact Wp.neg (by simp only [vLen]; omega) (lp b.length (by omega) (by omega))
theorem occ_wp {P ph : List Int} (hP : P.length ≤ 64) (hp : 1 ≤ ph.length ∧ ph.length ≤ 100) : Wp (fun k => impl_occurrences k P ph) (fun r => r = occs P ph) := by
  have lp : ∀ (d : Nat) {i : Int} {l : List Int}, 0 ≤ i → i + d = P.length → l.length + d ≤ 64 → Wp (fun k => impl_occurrences_r3 k P ph l i) (fun r => r = l ++ sel (At P ph) d i) := by
    intro d
    induction d with
    | zero =>
      intro i l h0 hd hl
      refine Wp.step ?_
      simp (disch := (simp only [vLen]; omega)) only [impl_occurrences_r3_eq, vLt, vLe, vEq, vNot, inR, decide_eq_true_eq, Bool.not_eq_true', decide_eq_false_iff_not, Bool.not_eq_eq_eq_not, Bool.not_true, add64]
      exact Wp.neg (by simp only [vLen]; omega) (Wp.now (by simp [sel]))
    | succ d ih =>
      intro i l h0 hd hl
      refine Wp.step ?_
      simp (disch := first | omega | (simp only [vLen]; omega)) only [impl_occurrences_r3_eq, vLt, vLe, vEq, vNot, inR, decide_eq_true_eq, Bool.not_eq_true', decide_eq_false_iff_not, Bool.not_eq_eq_eq_not, Bool.not_true, add64, cutOk]
      refine Wp.ite (fun h => ?_) (fun h => Wp.now ?_)
      · simp only [vLen] at h
        have hc := cut_len (P := P) h0 (show i ≤ i + (ph.length : Int) by omega) h
        refine Wp.pos ⟨h0, by simp only [vLen]; omega, h⟩ (Wp.call (equal_wp (b := ph) (by simp only [vLen]; omega) (by simp only [vLen]; omega)) (fun r hr => Wp.ite (fun e => Wp.pos (app_ok (by simp [vLen]) (by simp only [vLen]; omega) (by omega)) ((ih (i := i + 1) (l := vApp l [i]) (by omega) (by omega) (by simp only [vApp, List.length_append, List.length_singleton]; omega)).mono fun q hq => ?_)) (fun e => (ih (i := i + 1) (l := l) (by omega) (by omega) (by omega)).mono fun q hq => ?_)))
        · have a : At P ph i := ⟨h, fun t h1 h2 => by rw [← hr.1 e t h1 h2, vGet_cut h0 h1 (by simp only [vLen]; omega)]⟩
          rw [hq]
          simp only [sel, if_pos a, vApp, List.append_assoc, List.cons_append, List.nil_append]
        · have a : ¬ At P ph i := fun a => e (hr.2 fun t h1 h2 => by rw [vGet_cut h0 h1 (by simp only [vLen]; omega), a.2 t h1 h2])
          rw [hq]
          simp only [sel, if_neg a]
      · rw [sel_nil (fun j h1 h2 a => by have := a.1; simp only [vLen] at h; omega)]; simp
  refine Wp.step ?_
  simp only [impl_occurrences_eq]
  exact (lp P.length (by omega) (by omega) (by simp; omega)).mono fun r hr => by rw [hr]; rfl
theorem find_wp {P ph : List Int} (hP : P.length ≤ 64) (hp : 1 ≤ ph.length ∧ ph.length ≤ 100) : Wp (fun k => spec_l06Find k P ph) (fun r => r = occs P ph) := by
  have oc : ∀ {i : Int}, 0 ≤ i → i ≤ 64 → Wp (fun k => spec_l06Occurs k P ph i) (fun r => r = true ↔ At P ph i) := by
    intro i h0 h1
    refine Wp.step ?_
    simp (disch := first | omega | (simp only [vLen]; omega)) only [spec_l06Occurs_eq, vLt, vLe, vEq, vNot, inR, decide_eq_true_eq, Bool.not_eq_true', decide_eq_false_iff_not, Bool.not_eq_eq_eq_not, Bool.not_true, add64]
    refine Wp.ite (fun h => Wp.now ⟨fun e => (by cases e), fun a => ?_⟩) (fun h => ?_)
    · have := a.1; simp only [vLen] at h; omega
    simp only [vLen] at h
    have lp : ∀ (d : Nat) {t : Int}, 0 ≤ t → t + d = ph.length → Wp (fun k => spec_l06Occurs_r4 k P ph i t) (fun r => r = true ↔ ∀ u, t ≤ u → u < (ph.length : Int) → vGet P (i + u) 0 = vGet ph u 0) := by
      intro d
      induction d with
      | zero =>
        intro t h0 hd
        refine Wp.step ?_
        simp only [spec_l06Occurs_r4_eq, vLt, vLe, vEq, vNot, inR, decide_eq_true_eq, Bool.not_eq_true', decide_eq_false_iff_not, Bool.not_eq_eq_eq_not, Bool.not_true]
        exact Wp.neg (by simp only [vLen]; omega) (Wp.now ⟨fun _ => all_end (by omega), fun _ => rfl⟩)
      | succ d ih =>
        intro t h0 hd
        have hj : t < (ph.length : Int) := by omega
        refine Wp.step ?_
        simp (disch := omega) only [spec_l06Occurs_r4_eq, vLt, vLe, vEq, vNot, inR, decide_eq_true_eq, Bool.not_eq_true', decide_eq_false_iff_not, Bool.not_eq_eq_eq_not, Bool.not_true, add64]
        rw [all_step hj]
        refine Wp.pos hj (Wp.pos ⟨by omega, by simp only [vLen]; omega⟩ (Wp.pos ⟨h0, hj⟩ (Wp.ite (fun e => Wp.now ⟨fun q => (by cases q), fun q => absurd q.1 (by simpa using e)⟩) (fun e => (ih (t := t + 1) (by omega) (by omega)).mono fun r hr => hr.trans ⟨fun q => ⟨by simpa using e, q⟩, fun q => q.2⟩))))
    exact (lp ph.length (by omega) (by omega)).mono fun r hr => hr.trans ⟨fun q => ⟨by omega, q⟩, fun q => q.2⟩
  have lp : ∀ (d : Nat) {i : Int} {l : List Int}, 0 ≤ i → i + d = P.length → l.length + d ≤ 64 → Wp (fun k => spec_l06Find_r3 k P ph l i) (fun r => r = l ++ sel (At P ph) d i) := by
    intro d
    induction d with
    | zero =>
      intro i l h0 hd hl
      refine Wp.step ?_
      simp only [spec_l06Find_r3_eq, vLt, vLe, vEq, vNot, inR, decide_eq_true_eq, Bool.not_eq_true', decide_eq_false_iff_not, Bool.not_eq_eq_eq_not, Bool.not_true]
      exact Wp.neg (by simp only [vLen]; omega) (Wp.now (by simp [sel]))
    | succ d ih =>
      intro i l h0 hd hl
      refine Wp.step ?_
      simp (disch := omega) only [spec_l06Find_r3_eq, vLt, vLe, vEq, vNot, inR, decide_eq_true_eq, Bool.not_eq_true', decide_eq_false_iff_not, Bool.not_eq_eq_eq_not, Bool.not_true, add64]
      refine Wp.pos (by simp only [vLen]; omega) (Wp.call (oc h0 (by omega)) (fun r hr => Wp.ite (fun e => Wp.pos (app_ok (by simp [vLen]) (by simp only [vLen]; omega) (by omega)) ((ih (i := i + 1) (l := vApp l [i]) (by omega) (by omega) (by simp only [vApp, List.length_append, List.length_singleton]; omega)).mono fun q hq => ?_)) (fun e => (ih (i := i + 1) (l := l) (by omega) (by omega) (by omega)).mono fun q hq => ?_)))
      · rw [hq]
        simp only [sel, if_pos (hr.1 e), vApp, List.append_assoc, List.cons_append, List.nil_append]
      · rw [hq]
        simp only [sel, if_neg (fun a => e (hr.2 a))]
  refine Wp.step ?_
  simp only [spec_l06Find_eq]
  exact (lp P.length (by omega) (by omega) (by simp; omega)).mono fun r hr => by rw [hr]; rfl
/-! ### what is covered -/
def Hit (P ph : List Int) (O : List Int) (j : Int) : Prop := ∃ o ∈ O, o ≤ j ∧ j < o + ph.length
def Cov (P : List Int) (L : List (List Int)) (j : Int) : Prop := ∃ ph ∈ L, Hit P ph (occs P ph) j
theorem cov_nil {P : List Int} {j : Int} : ¬ Cov P [] j := fun ⟨p, h, _⟩ => by simp at h
theorem cov_cons {P ph : List Int} {L : List (List Int)} {j : Int} : Cov P (ph :: L) j ↔ Hit P ph (occs P ph) j ∨ Cov P L j := by
  simp only [Cov, List.mem_cons, exists_eq_or_imp]
theorem hit_nil {P ph : List Int} {j : Int} : ¬ Hit P ph [] j := fun ⟨p, h, _⟩ => by simp at h
theorem hit_cons {P ph : List Int} {o : Int} {O : List Int} {j : Int} : Hit P ph (o :: O) j ↔ (o ≤ j ∧ j < o + ph.length) ∨ Hit P ph O j := by
  simp only [Hit, List.mem_cons, exists_eq_or_imp]
theorem cov_rng {P : List Int} {L : List (List Int)} {j : Int} (h : Cov P L j) : 0 ≤ j ∧ j < (P.length : Int) := by
  obtain ⟨ph, _, o, ho, h1, h2⟩ := h
  have := (mem_occs ho).1
  omega
def SetM (m : Int) (A : Int → Prop) : Prop := (0 ≤ m ∧ m < 18446744073709551616) ∧ ∀ j : Nat, m.toNat.testBit j = true ↔ A j
theorem setM_zero : SetM 0 (fun _ => False) := ⟨by omega, fun j => by simp⟩
theorem ofInt_toNat {m : Int} (h0 : 0 ≤ m) (h1 : m < 18446744073709551616) : (BitVec.ofInt 64 m).toNat = m.toNat := by
  rw [BitVec.toNat_ofInt]
  have : m % ((2 ^ 64 : Nat) : Int) = m := Int.emod_eq_of_lt h0 h1
  rw [this]
theorem setM_or {a b : Int} {A B : Int → Prop} (ha : SetM a A) (hb : SetM b B) : SetM (wOr .u64 a b) (fun j => A j ∨ B j) := by
  have e : wOr .u64 a b = ((a.toNat ||| b.toNat : Nat) : Int) := by
    unfold wOr
    show IntKind.u64.wrap ((BitVec.ofInt 64 a ||| BitVec.ofInt 64 b).toNat : Int) = _
    rw [BitVec.toNat_or, ofInt_toNat ha.1.1 ha.1.2, ofInt_toNat hb.1.1 hb.1.2, IntKind.wrap_u64]
    have h : a.toNat ||| b.toNat < 2 ^ 64 := Nat.or_lt_two_pow (by have := ha.1; omega) (by have := hb.1; omega)
    omega
  rw [e]
  have h : a.toNat ||| b.toNat < 2 ^ 64 := Nat.or_lt_two_pow (by have := ha.1; omega) (by have := hb.1; omega)
  refine ⟨by omega, fun j => ?_⟩
  rw [Int.toNat_natCast, Nat.testBit_or, Bool.or_eq_true, ha.2, hb.2]
theorem setM_shl {s : Int} (h0 : 0 ≤ s) (h1 : s < 64) : SetM (wShl .u64 1 s) (fun j => j = s) := by
  have hp : (2 : Nat) ^ s.toNat < 2 ^ 64 := Nat.pow_lt_pow_right (by omega) (by omega)
  have e : wShl .u64 1 s = ((2 ^ s.toNat : Nat) : Int) := by
    unfold wShl
    have : min s.toNat (IntKind.bits .u64) = s.toNat := by
      show min s.toNat 64 = s.toNat; omega
    rw [this, Int.one_mul, IntKind.wrap_u64]
    have : (2 : Int) ^ s.toNat = ((2 ^ s.toNat : Nat) : Int) := by simp
    rw [this]
    generalize (2 : Nat) ^ s.toNat = y at hp ⊢
    omega
  rw [e]
  refine ⟨by generalize (2 : Nat) ^ s.toNat = y at hp ⊢; omega, fun j => ?_⟩
  rw [Int.toNat_natCast, Nat.testBit_two_pow, decide_eq_true_eq]
  omega
theorem setM_eq {a b : Int} {A B : Int → Prop} (ha : SetM a A) (hb : SetM b B) : a = b ↔ ∀ j : Nat, A j ↔ B j := by
  constructor
  · intro e j; subst e; rw [← ha.2, ← hb.2]
  · intro h
    have : a.toNat = b.toNat := Nat.eq_of_testBit_eq fun j => by
      rw [Bool.eq_iff_iff, ha.2, hb.2, h]
    have := ha.1; have := hb.1; omega
theorem SetM.congr {m : Int} {A B : Int → Prop} (h : SetM m A) (e : ∀ j : Nat, A j ↔ B j) : SetM m B := ⟨h.1, fun j => (h.2 j).trans (e j)⟩
theorem covered_wp {P : List Int} (hP : P.length ≤ 64) {L : List (List Int)} (hL : L.length ≤ 12) (hp : ∀ p ∈ L, 1 ≤ p.length ∧ p.length ≤ 100) : Wp (fun k => impl_coveredSet k P L) (fun r => SetM r (Cov P L)) := by
  let T : Int → Prop := Cov P L
  have lp : ∀ (d : Nat) {i m : Int} {A : Int → Prop}, 0 ≤ i → i + d = L.length → SetM m A → (∀ j : Nat, T j ↔ A j ∨ Cov P (L.drop i.toNat) j) → Wp (fun k => impl_coveredSet_r3 k P m L (vLen L) i) (fun r => SetM r T) := by
    intro d
    induction d with
    | zero =>
      intro i m A h0 hd hm hT
      refine Wp.step ?_
      simp only [impl_coveredSet_r3_eq, vLt, vLe, vEq, vNot, inR, decide_eq_true_eq, Bool.not_eq_true', decide_eq_false_iff_not, Bool.not_eq_eq_eq_not, Bool.not_true]
      refine Wp.neg (by simp only [vLen]; omega) (Wp.now (hm.congr fun j => ?_))
      rw [hT, List.drop_eq_nil_of_le (by omega)]
      simp [cov_nil]
    | succ d ih =>
      intro i m A h0 hd hm hT
      have hi : i < (L.length : Int) := by omega
      have hph := hp _ (vGet_mem (d := []) h0 hi)
      refine Wp.step ?_
      simp (disch := omega) only [impl_coveredSet_r3_eq, vLt, vLe, vEq, vNot, inR, decide_eq_true_eq, Bool.not_eq_true', decide_eq_false_iff_not, Bool.not_eq_eq_eq_not, Bool.not_true]
      refine Wp.pos hi (Wp.pos ⟨h0, hi⟩ (Wp.val (occ_wp hP hph) ?_))
      rw [vGet_drop (d := []) h0 hi] at hT
      generalize hg : vGet L i [] = ph at hT hph ⊢
      have hO : (occs P ph).length ≤ 64 := Nat.le_trans sel_len hP
      have l6 : ∀ (e : Nat) {t m : Int} {A : Int → Prop}, 0 ≤ t → t + e = (occs P ph).length → SetM m A → (∀ j : Nat, T j ↔ A j ∨ Hit P ph ((occs P ph).drop t.toNat) j ∨ Cov P (L.drop (i + 1).toNat) j) → Wp (fun k => impl_coveredSet_r6 k P m ph L (vLen L) i (occs P ph) (vLen (occs P ph)) t) (fun r => SetM r T) := by
        intro e
        induction e with
        | zero =>
          intro t m A h0t he hm hT
          refine Wp.step ?_
          simp (disch := omega) only [impl_coveredSet_r6_eq, vLt, vLe, vEq, vNot, inR, decide_eq_true_eq, Bool.not_eq_true', decide_eq_false_iff_not, Bool.not_eq_eq_eq_not, Bool.not_true, add64]
          refine Wp.neg (by simp only [vLen]; omega) (ih (A := A) (by omega) (by omega) hm fun j => ?_)
          rw [hT, @List.drop_eq_nil_of_le _ (occs P ph) _ (by omega)]
          simp [hit_nil]
        | succ e ih6 =>
          intro t m A h0t he hm hT
          have ht : t < ((occs P ph).length : Int) := by omega
          have ho := (mem_occs (vGet_mem (d := 0) h0t ht)).1
          rw [vGet_drop (d := 0) h0t ht] at hT
          refine Wp.step ?_
          simp (disch := omega) only [impl_coveredSet_r6_eq, vLt, vLe, vEq, vNot, inR, decide_eq_true_eq, Bool.not_eq_true', decide_eq_false_iff_not, Bool.not_eq_eq_eq_not, Bool.not_true, add64]
          refine Wp.pos ht (Wp.pos ⟨h0t, ht⟩ ?_)
          generalize vGet (occs P ph) t 0 = o at ho hT ⊢
          have l9 : ∀ (f : Nat) {u m : Int} {A : Int → Prop}, 0 ≤ u → u + f = ph.length → SetM m A → (∀ j : Nat, T j ↔ A j ∨ (o + u ≤ j ∧ (j : Int) < o + ph.length) ∨ Hit P ph ((occs P ph).drop (t + 1).toNat) j ∨ Cov P (L.drop (i + 1).toNat) j) → Wp (fun k => impl_coveredSet_r9 k P m ph o L (vLen L) i (occs P ph) (vLen (occs P ph)) t (vLen ph) u) (fun r => SetM r T) := by
            intro f
            induction f with
            | zero =>
              intro u m A h0u hf hm hT
              refine Wp.step ?_
              simp (disch := omega) only [impl_coveredSet_r9_eq, vLt, vLe, vEq, vNot, inR, decide_eq_true_eq, Bool.not_eq_true', decide_eq_false_iff_not, Bool.not_eq_eq_eq_not, Bool.not_true, add64]
              refine Wp.neg (by simp only [vLen]; omega) (ih6 (A := A) (by omega) (by omega) hm fun j => ?_)
              rw [hT]
              constructor
              · rintro (q | q | q)
                · exact .inl q
                · omega
                · exact .inr q
              · rintro (q | q)
                · exact .inl q
                · exact .inr (.inr q)
            | succ f ih9 =>
              intro u m A h0u hf hm hT
              refine Wp.step ?_
              simp (disch := omega) only [impl_coveredSet_r9_eq, vLt, vLe, vEq, vNot, inR, decide_eq_true_eq, Bool.not_eq_true', decide_eq_false_iff_not, Bool.not_eq_eq_eq_not, Bool.not_true, add64]
              refine Wp.pos (by simp only [vLen]; omega) (Wp.neg (by omega) (ih9 (by omega) (by omega) (setM_or hm (setM_shl (s := o + u) (by omega) (by omega))) fun j => ?_))
              rw [hT]
              constructor
              · rintro (q | q | q)
                · exact .inl (.inl q)
                · by_cases e : (j : Int) = o + u
                  · exact .inl (.inr e)
                  · exact .inr (.inl (by omega))
                · exact .inr (.inr q)
              · rintro ((q | q) | q | q)
                · exact .inl q
                · exact .inr (.inl (by omega))
                · exact .inr (.inl (by omega))
                · exact .inr (.inr q)
          refine l9 ph.length (by omega) (by omega) hm fun j => ?_
          rw [hT, hit_cons, Int.add_zero, or_assoc]
      refine l6 (occs P ph).length (by omega) (by omega) hm fun j => ?_
      rw [hT, cov_cons]; simp
  refine Wp.step ?_
  simp only [impl_coveredSet_eq]
  exact lp L.length (by omega) (by omega) setM_zero fun j => by simp [T]
def SetB (n : Nat) (x : List Bool) (A : Int → Prop) : Prop := x.length = n ∧ ∀ j, 0 ≤ j → j < (n : Int) → (vGet x j false = true ↔ A j)
theorem setB_put {n : Nat} {x : List Bool} {A : Int → Prop} (h : SetB n x A) {s : Int} (h0 : 0 ≤ s) (h1 : s < n) : SetB n (vSet x s true) (fun j => A j ∨ j = s) := by
  refine ⟨by simp [vSet, h.1], fun j j0 j1 => ?_⟩
  have hl := h.1
  have := h.2 j j0 j1
  rw [vGet_get j0 (by omega)] at this
  rw [vGet_get j0 (by simp [vSet]; omega)]
  simp only [vSet, List.getElem_set]
  by_cases e : s.toNat = j.toNat
  · have : j = s := by omega
    simp [e, this]
  · have : ¬ j = s := by omega
    simp [e, this]
    assumption
theorem SetB.congr {n : Nat} {x : List Bool} {A B : Int → Prop} (h : SetB n x A) (e : ∀ j, 0 ≤ j → j < (n : Int) → (A j ↔ B j)) : SetB n x B := ⟨h.1, fun j h0 h1 => (h.2 j h0 h1).trans (e j h0 h1)⟩
theorem scovered_wp {P : List Int} (hP : P.length ≤ 64) {L : List (List Int)} (hL : L.length ≤ 12) (hp : ∀ p ∈ L, 1 ≤ p.length ∧ p.length ≤ 100) : Wp (fun k => spec_l06Covered k P L) (fun r => SetB P.length r (Cov P L)) := by
  let T : Int → Prop := Cov P L
  have lp : ∀ (d : Nat) {i : Int} {m : List Bool} {A : Int → Prop}, 0 ≤ i → i + d = L.length → SetB P.length m A → (∀ j, 0 ≤ j → j < (P.length : Int) → (T j ↔ A j ∨ Cov P (L.drop i.toNat) j)) → Wp (fun k => spec_l06Covered_r3 k P L m i) (fun r => SetB P.length r T) := by
    intro d
    induction d with
    | zero =>
      intro i m A h0 hd hm hT
      refine Wp.step ?_
      simp only [spec_l06Covered_r3_eq, vLt, vLe, vEq, vNot, inR, decide_eq_true_eq, Bool.not_eq_true', decide_eq_false_iff_not, Bool.not_eq_eq_eq_not, Bool.not_true]
      refine Wp.neg (by simp only [vLen]; omega) (Wp.now (hm.congr fun j j0 j1 => ?_))
      rw [hT j j0 j1, List.drop_eq_nil_of_le (by omega)]
      simp [cov_nil]
    | succ d ih =>
      intro i m A h0 hd hm hT
      have hi : i < (L.length : Int) := by omega
      have hph := hp _ (vGet_mem (d := []) h0 hi)
      refine Wp.step ?_
      simp (disch := omega) only [spec_l06Covered_r3_eq, vLt, vLe, vEq, vNot, inR, decide_eq_true_eq, Bool.not_eq_true', decide_eq_false_iff_not, Bool.not_eq_eq_eq_not, Bool.not_true]
      refine Wp.pos hi (Wp.pos ⟨h0, hi⟩ (Wp.val (find_wp hP hph) ?_))
      rw [vGet_drop (d := []) h0 hi] at hT
      generalize hg : vGet L i [] = ph at hT hph ⊢
      have hO : (occs P ph).length ≤ 64 := Nat.le_trans sel_len hP
      have l6 : ∀ (e : Nat) {t : Int} {m : List Bool} {A : Int → Prop}, 0 ≤ t → t + e = (occs P ph).length → SetB P.length m A → (∀ j, 0 ≤ j → j < (P.length : Int) → (T j ↔ A j ∨ Hit P ph ((occs P ph).drop t.toNat) j ∨ Cov P (L.drop (i + 1).toNat) j)) → Wp (fun k => spec_l06Covered_r7 k P L m i (occs P ph) t) (fun r => SetB P.length r T) := by
        intro e
        induction e with
        | zero =>
          intro t m A h0t he hm hT
          refine Wp.step ?_
          simp (disch := omega) only [spec_l06Covered_r7_eq, vLt, vLe, vEq, vNot, inR, decide_eq_true_eq, Bool.not_eq_true', decide_eq_false_iff_not, Bool.not_eq_eq_eq_not, Bool.not_true, add64]
          refine Wp.neg (by simp only [vLen]; omega) (ih (A := A) (by omega) (by omega) hm fun j j0 j1 => ?_)
          rw [hT j j0 j1, @List.drop_eq_nil_of_le _ (occs P ph) _ (by omega)]
          simp [hit_nil]
        | succ e ih6 =>
          intro t m A h0t he hm hT
          have ht : t < ((occs P ph).length : Int) := by omega
          have ho := (mem_occs (vGet_mem (d := 0) h0t ht)).1
          rw [vGet_drop (d := 0) h0t ht] at hT
          refine Wp.step ?_
          simp (disch := omega) only [spec_l06Covered_r7_eq, vLt, vLe, vEq, vNot, inR, decide_eq_true_eq, Bool.not_eq_true', decide_eq_false_iff_not, Bool.not_eq_eq_eq_not, Bool.not_true, add64]
          refine Wp.pos ht ?_
          have l9 : ∀ (f : Nat) {u : Int} {m : List Bool} {A : Int → Prop}, 0 ≤ u → u + f = ph.length → SetB P.length m A → (∀ j, 0 ≤ j → j < (P.length : Int) → (T j ↔ A j ∨ (vGet (occs P ph) t 0 + u ≤ j ∧ j < vGet (occs P ph) t 0 + ph.length) ∨ Hit P ph ((occs P ph).drop (t + 1).toNat) j ∨ Cov P (L.drop (i + 1).toNat) j)) → Wp (fun k => spec_l06Covered_r10 k P L m i (occs P ph) t u) (fun r => SetB P.length r T) := by
            intro f
            induction f with
            | zero =>
              intro u m A h0u hf hm hT
              refine Wp.step ?_
              simp (disch := omega) only [spec_l06Covered_r10_eq, vLt, vLe, vEq, vNot, inR, decide_eq_true_eq, Bool.not_eq_true', decide_eq_false_iff_not, Bool.not_eq_eq_eq_not, Bool.not_true, add64, hg]
              refine Wp.pos ⟨h0, hi⟩ (Wp.neg (by simp only [vLen]; omega) (ih6 (A := A) (by omega) (by omega) hm fun j j0 j1 => ?_))
              rw [hT j j0 j1]
              constructor
              · rintro (q | q | q)
                · exact .inl q
                · omega
                · exact .inr q
              · rintro (q | q)
                · exact .inl q
                · exact .inr (.inr q)
            | succ f ih9 =>
              intro u m A h0u hf hm hT
              have hml := hm.1
              refine Wp.step ?_
              simp (disch := omega) only [spec_l06Covered_r10_eq, vLt, vLe, vEq, vNot, inR, decide_eq_true_eq, Bool.not_eq_true', decide_eq_false_iff_not, Bool.not_eq_eq_eq_not, Bool.not_true, add64, hg]
              refine Wp.pos ⟨h0, hi⟩ (Wp.pos (by simp only [vLen]; omega) (Wp.pos ⟨h0t, ht⟩ (Wp.pos ⟨by omega, by simp only [vLen]; omega⟩ (ih9 (by omega) (by omega) (setB_put hm (s := vGet (occs P ph) t 0 + u) (by omega) (by omega)) fun j j0 j1 => ?_))))
              rw [hT j j0 j1]
              constructor
              · rintro (q | q | q)
                · exact .inl (.inl q)
                · by_cases e : j = vGet (occs P ph) t 0 + u
                  · exact .inl (.inr e)
                  · exact .inr (.inl (by omega))
                · exact .inr (.inr q)
              · rintro ((q | q) | q | q)
                · exact .inl q
                · exact .inr (.inl (by omega))
                · exact .inr (.inl (by omega))
                · exact .inr (.inr q)
          refine l9 ph.length (by omega) (by omega) hm fun j j0 j1 => ?_
          rw [hT j j0 j1, hit_cons, Int.add_zero, or_assoc]
      refine l6 (occs P ph).length (by omega) (by omega) hm fun j j0 j1 => ?_
      rw [hT j j0 j1, cov_cons]; simp
  refine Wp.step ?_
  simp only [spec_l06Covered_eq]
  refine Wp.pos ?_ ?_
  · unfold makeOk vLen
    rw [Bool.and_eq_true, Bool.and_eq_true]
    exact ⟨decide_eq_true (by omega), decide_eq_true (Int.le_refl _), Nat.ble_eq_true_of_le (by omega)⟩
  · refine lp L.length (A := fun _ => False) (by omega) (by omega) ⟨by simp [vRep, vLen], fun j j0 j1 => ?_⟩ fun j j0 j1 => by simp [T]
    rw [vGet_get j0 (by simp [vRep, vLen]; omega)]
    simp [vRep]
end Go.Proofs.Yticifedehhnjhaa.F
