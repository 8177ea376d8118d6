/- Melodies of a grammar, in order; how many there are. -/
import Derived.Test.YtojmfjhbfcnecaaP3b
namespace Go.Proofs.Ytojmfjhbfcnecaa.F
open Go Go.Proofs.Ytojmfjhbfcnecaa.Eng
set_option linter.unusedSimpArgs false
set_option linter.unusedVariables false
set_option maxRecDepth 100000
def arcsF (arcs : List Arc) (s : Int) : List Arc := arcs.filter fun a => decide (a.1 = s)
def words (fin : List Int) (arcs : List Arc) : Nat → Int → List (List Int)
  | 0, s => if s ∈ fin then [[]] else []
  | l + 1, s => (arcsF arcs s).flatMap fun a => (words fin arcs l a.2.2).map (a.2.1 :: ·)
def cnt (fin : List Int) (arcs : List Arc) (l : Nat) (s : Int) : Int := ((words fin arcs l s).length : Int)
theorem words_len {fin : List Int} {arcs : List Arc} : ∀ {l : Nat} {s : Int} {w : List Int}, w ∈ words fin arcs l s → w.length = l
  | 0, s, w, h => by simp only [words] at h; split at h <;> simp at h; simp [h]
  | l + 1, s, w, h => by
    simp only [words, List.mem_flatMap, List.mem_map] at h
    obtain ⟨a, _, x, hx, rfl⟩ := h
    simp [words_len hx]
theorem cnt_nn {fin : List Int} {arcs : List Arc} {l : Nat} {s : Int} : 0 ≤ cnt fin arcs l s := by unfold cnt; omega
theorem flat_len {α β : Type} {f : α → List β} {B : Nat} : ∀ {l : List α}, (∀ a ∈ l, (f a).length ≤ B) → (l.flatMap f).length ≤ l.length * B
  | [], _ => by simp
  | a :: r, h => by
    have := flat_len (f := f) (B := B) (l := r) (fun x hx => h x (by simp [hx]))
    have h1 := h a (by simp)
    simp only [List.flatMap_cons, List.length_append, List.length_cons, Nat.add_mul]
    omega
theorem words_le {fin : List Int} {arcs : List Arc} (ha : arcs.length ≤ 256) : ∀ (l : Nat) (s : Int), (words fin arcs l s).length ≤ 256 ^ l
  | 0, s => by simp only [words]; split <;> simp
  | l + 1, s => by
    have h := flat_len (l := arcsF arcs s) (f := fun a => (words fin arcs l a.2.2).map (a.2.1 :: ·)) (B := 256 ^ l) (fun a _ => by simpa using words_le ha l a.2.2)
    have h2 : (arcsF arcs s).length ≤ 256 := Nat.le_trans (List.length_filter_le _ _) ha
    refine Nat.le_trans h (Nat.le_trans (Nat.mul_le_mul_right _ h2) ?_)
    rw [Nat.pow_succ, Nat.mul_comm]; exact Nat.le_refl _
theorem cnt_le {fin : List Int} {arcs : List Arc} (ha : arcs.length ≤ 256) {l : Nat} (hl : l ≤ 6) (s : Int) : cnt fin arcs l s ≤ 281474976710656 := by
  have h1 := words_le (fin := fin) ha l s
  have h2 : 256 ^ l ≤ 256 ^ 6 := Nat.pow_le_pow_right (by omega) hl
  unfold cnt
  have h3 : (256 : Nat) ^ 6 = 281474976710656 := by decide
  omega
def sumTo (fin : List Int) (all : List Arc) (l : Nat) (s : Int) : List Arc → Int
  | [] => 0
  | a :: r => (if a.1 = s then cnt fin all l a.2.2 else 0) + sumTo fin all l s r
theorem sumTo_nn {fin : List Int} {all : List Arc} {l : Nat} {s : Int} : ∀ {r : List Arc}, 0 ≤ sumTo fin all l s r
  | [] => Int.le_refl _
  | a :: r => by
    have := sumTo_nn (fin := fin) (all := all) (l := l) (s := s) (r := r)
    have := cnt_nn (fin := fin) (arcs := all) (l := l) (s := a.2.2)
    simp only [sumTo]; split <;> omega
theorem sumTo_cnt {fin : List Int} {all : List Arc} {l : Nat} {s : Int} : ∀ {r : List Arc}, sumTo fin all l s r = (((arcsF r s).flatMap fun a => (words fin all l a.2.2).map (a.2.1 :: ·)).length : Int)
  | [] => by simp [sumTo, arcsF]
  | a :: r => by
    have := sumTo_cnt (fin := fin) (all := all) (l := l) (s := s) (r := r)
    simp only [sumTo]
    by_cases h : a.1 = s
    · simp only [if_pos h, arcsF, List.filter_cons, decide_eq_true h, if_true, List.flatMap_cons, List.length_append, List.length_map]
      rw [this]
      simp [cnt, arcsF]
    · simp only [if_neg h, arcsF, List.filter_cons, decide_eq_false h, Bool.false_eq_true, if_false]
      rw [this]
      simp [arcsF]
theorem get_set {α : Type} {l : List α} {i j : Int} {y d : α} (h0 : 0 ≤ i) (h1 : i < l.length) (h2 : 0 ≤ j) : vGet (vSet l i y) j d = if i = j then y else vGet l j d := by
  simp only [vGet, vSet, List.getD_eq_getElem?_getD, List.getElem?_set]
  by_cases e : i = j
  · subst e; simp [show i.toNat < l.length by omega]
  · simp [e, show ¬ i.toNat = j.toNat by omega]
theorem len_set {α : Type} {l : List α} {i : Int} {y : α} : (vSet l i y).length = l.length := by simp [vSet]
theorem get_rep {n i : Int} {d x : Int} (h0 : 0 ≤ i) (h1 : i < n) : vGet (vRep n x) i d = x := by
  simp only [vGet, vRep, List.getD_eq_getElem?_getD, List.getElem?_replicate]
  rw [if_pos (by omega)]; rfl
section
variable {S st : Int} {fin : List Int} {arcs : List Arc}
theorem arcsOf_wp (ha : arcs.length ≤ 256) {s : Int} : Wp (fun k => impl_Grammar_arcsOf k S st fin arcs s) (fun r => r = arcsF arcs s) := by
  have lp : ∀ (d : Nat) {i : Int} {acc : List Arc}, 0 ≤ i → i + d = arcs.length → (acc.length : Int) ≤ i → Wp (fun k => impl_Grammar_arcsOf_r3 k s acc arcs (vLen arcs) i) (fun r => r = acc ++ arcsF (arcs.drop i.toNat) s) := by
    intro d
    induction d with
    | zero =>
      intro i acc h0 hd hl
      refine Wp.step ?_
      simp only [impl_Grammar_arcsOf_r3_eq, vLt, vLe, vEq, vNot, inR, decide_eq_true_eq, Bool.not_eq_true', decide_eq_false_iff_not, Bool.not_eq_eq_eq_not, Bool.not_true]
      refine Wp.neg (by simp only [vLen]; omega) (Wp.now ?_)
      rw [List.drop_eq_nil_of_le (by omega)]; simp [arcsF]
    | succ d ih =>
      intro i acc h0 hd hl
      have hi : i < (arcs.length : Int) := by omega
      refine Wp.step ?_
      simp (disch := omega) only [impl_Grammar_arcsOf_r3_eq, vLt, vLe, vEq, vNot, inR, decide_eq_true_eq, Bool.not_eq_true', decide_eq_false_iff_not, Bool.not_eq_eq_eq_not, Bool.not_true, add64]
      have e := vGet_drop (d := a0) h0 hi
      refine Wp.pos hi (Wp.pos ⟨h0, hi⟩ (Wp.ite (fun h => Wp.pos (app_ok (by simp [vLen]) (by simp only [vLen]; omega) (by omega)) ?_) (fun h => ?_)))
      · refine (ih (i := i + 1) (acc := vApp acc [vGet arcs i a0]) (by omega) (by omega) (by rw [len_app]; omega)).mono fun r hr => ?_
        rw [hr, e]
        have h' : (vGet arcs i a0).1 = s := h
        simp [vApp, arcsF, List.filter_cons, h']
      · refine (ih (i := i + 1) (acc := acc) (by omega) (by omega) (by omega)).mono fun r hr => ?_
        rw [hr, e]
        have h' : ¬ (vGet arcs i a0).1 = s := h
        simp [arcsF, List.filter_cons, h']
  refine Wp.step ?_
  simp only [impl_Grammar_arcsOf_eq]
  exact (lp arcs.length (by omega) (by omega) (by simp)).mono fun r hr => by simpa using hr
def RowOk (S : Int) (fin : List Int) (arcs : List Arc) (l : Nat) (row : List Int) : Prop := (row.length : Int) = S ∧ ∀ s, 0 ≤ s → s < S → vGet row s 0 = cnt fin arcs l s
def TabOk (S : Int) (fin : List Int) (arcs : List Arc) (n : Int) (t : List (List Int)) : Prop := (t.length : Int) = n ∧ ∀ l, 0 ≤ l → l < n → RowOk S fin arcs l.toNat (vGet t l [])
variable (g : VG (S, st, fin, arcs))
include g
theorem mk_ok : makeOk S S 8 = true := by
  have := g.S1
  dsimp only at this
  have h : Nat.ble (S.toNat * 8) 140737488351232 = true := Nat.ble_eq_true_of_le (by omega)
  simp [makeOk, h]; omega
theorem c13_wp {n i : Int} {t : List (List Int)} {row : List Int} {Q : List (List Int) → Prop} {l : Nat} (hl : l ≤ 5) (hrow : RowOk S fin arcs l row) (ht : t.length ≤ 1000) (hi : -1000 ≤ i ∧ i ≤ 1000)
    (next : ∀ row', RowOk S fin arcs (l + 1) row' → Wp (fun k => impl_Grammar_counts_r9 k (vApp t [row']) n (i + 1) S st fin arcs) Q) :
    ∀ (d : Nat) {j : Int} {acc : List Int}, 0 ≤ j → j + d = arcs.length → (acc.length : Int) = S → (∀ s, 0 ≤ s → s < S → 0 ≤ vGet acc s 0 ∧ vGet acc s 0 + sumTo fin arcs l s (arcs.drop j.toNat) = cnt fin arcs (l + 1) s) →
      Wp (fun k => impl_Grammar_counts_r13 k t row acc n i arcs (vLen arcs) j S st fin arcs) Q
  | 0, j, acc, h0, hd, hl', hs => by
    refine Wp.step ?_
    simp (disch := omega) only [impl_Grammar_counts_r13_eq, vLt, vLe, vEq, vNot, inR, decide_eq_true_eq, Bool.not_eq_true', decide_eq_false_iff_not, Bool.not_eq_eq_eq_not, Bool.not_true, add64]
    refine Wp.neg (by simp only [vLen]; omega) (Wp.pos (app_ok (by simp [vLen]) (by simp only [vLen]; omega) (by omega)) (next acc ⟨hl', fun s h1 h2 => ?_⟩))
    have := (hs s h1 h2).2
    rw [List.drop_eq_nil_of_le (by omega)] at this
    simpa [sumTo] using this
  | d + 1, j, acc, h0, hd, hl', hs => by
    have hj : j < (arcs.length : Int) := by omega
    have hlen := g.len
    dsimp only at hlen
    obtain ⟨c1, c2, c3, c4⟩ := g.arc j h0 hj
    dsimp only at c1 c3
    have e := vGet_drop (d := a0) h0 hj
    have hr := hrow.2 (vGet arcs j a0).2.2 c3.1 (by omega)
    have hf := hs (vGet arcs j a0).1 c1.1 (by omega)
    have hcl := cnt_le (fin := fin) hlen (show l + 1 ≤ 6 by omega) (vGet arcs j a0).1
    rw [e] at hf
    simp only [sumTo, if_true] at hf
    have hnn := sumTo_nn (fin := fin) (all := arcs) (l := l) (s := (vGet arcs j a0).1) (r := arcs.drop (j + 1).toNat)
    have hcn := cnt_nn (fin := fin) (arcs := arcs) (l := l) (s := (vGet arcs j a0).2.2)
    refine Wp.step ?_
    simp (disch := omega) only [impl_Grammar_counts_r13_eq, vLt, vLe, vEq, vNot, inR, decide_eq_true_eq, Bool.not_eq_true', decide_eq_false_iff_not, Bool.not_eq_eq_eq_not, Bool.not_true, add64]
    have q1 : 0 ≤ (vGet arcs j (0, 0, 0)).1 ∧ (vGet arcs j (0, 0, 0)).1 < vLen acc := ⟨c1.1, by simp only [vLen]; have := c1.2; unfold a0 at this; omega⟩
    refine Wp.pos (by simp only [vLen]; omega) (Wp.pos ⟨h0, hj⟩ (Wp.pos q1 (Wp.pos ⟨c3.1, by simp only [vLen]; have := c3.2; have := hrow.1; unfold a0 at *; omega⟩ (Wp.pos q1 ?_))))
    change Wp (fun k => impl_Grammar_counts_r13 k t row (vSet acc (vGet arcs j a0).1 (wAdd .i64 (vGet acc (vGet arcs j a0).1 0) (vGet row (vGet arcs j a0).2.2 0))) n i arcs (vLen arcs) (j + 1) S st fin arcs) Q
    rw [hr, add64 (by omega) (by omega)]
    refine c13_wp hl hrow ht hi next d (by omega) (by omega) (by rw [len_set]; exact hl') (fun s h1 h2 => ?_)
    rw [get_set c1.1 (by omega) h1]
    have hs' := hs s h1 h2
    rw [e] at hs'
    simp only [sumTo] at hs'
    by_cases es : (vGet arcs j a0).1 = s
    · subst es
      rw [if_pos rfl]
      rw [if_pos rfl] at hs'
      omega
    · rw [if_neg es]
      rw [if_neg es] at hs'
      omega
theorem c9_wp {n : Int} (hn : n ≤ 5) : ∀ (d : Nat) {i : Int} {t : List (List Int)}, 0 ≤ i → i + d = n → TabOk S fin arcs (i + 1) t → Wp (fun k => impl_Grammar_counts_r9 k t n i S st fin arcs) (fun t => TabOk S fin arcs (n + 1) t)
  | 0, i, t, h0, hd, ht => by
    refine Wp.step ?_
    simp only [impl_Grammar_counts_r9_eq, vLt, vLe, vEq, vNot, inR, decide_eq_true_eq, Bool.not_eq_true', decide_eq_false_iff_not, Bool.not_eq_eq_eq_not, Bool.not_true]
    have : i = n := by omega
    subst this
    exact Wp.neg (by omega) (Wp.now ht)
  | d + 1, i, t, h0, hd, ht => by
    have hlen := ht.1
    refine Wp.step ?_
    simp (disch := (simp only [vLen]; omega)) only [impl_Grammar_counts_r9_eq, vLt, vLe, vEq, vNot, inR, decide_eq_true_eq, Bool.not_eq_true', decide_eq_false_iff_not, Bool.not_eq_eq_eq_not, Bool.not_true, sub64]
    refine Wp.pos (by omega) (Wp.pos ⟨by simp only [vLen]; omega, by omega⟩ (Wp.pos (mk_ok g) ?_))
    have e : vLen t - 1 = i := by simp only [vLen]; omega
    rw [e]
    have hS := g.S1
    dsimp only at hS
    refine c13_wp g (l := i.toNat) (by omega) (ht.2 i h0 (by omega)) (by omega) (by omega) (fun row' hr => c9_wp hn d (by omega) (by omega) ⟨by rw [len_app]; omega, fun l h1 h2 => ?_⟩) arcs.length (by omega) (by omega) (by simp [vRep]; omega) (fun s h1 h2 => ?_)
    · by_cases el : l = t.length
      · rw [get_app_eq el]
        rw [show l.toNat = i.toNat + 1 by omega]
        exact hr
      · rw [get_app_lt h1 (by omega)]
        exact ht.2 l h1 (by omega)
    · rw [get_rep h1 h2]
      refine ⟨Int.le_refl _, ?_⟩
      rw [Int.toNat_zero, List.drop_zero, sumTo_cnt]
      simp [cnt, words]
theorem counts_wp {n : Int} (h0 : 0 ≤ n) (hn : n ≤ 5) : Wp (fun k => impl_Grammar_counts k S st fin arcs n) (fun t => TabOk S fin arcs (n + 1) t) := by
  have hS := g.S1
  dsimp only at hS
  have hfl : (fin.length : Int) ≤ 100 := by
    have key : ∀ (j : Nat), (j : Int) < fin.length → (j : Int) ≤ vGet fin j 0 := by
      intro j
      induction j with
      | zero => intro h; exact (g.fin 0 (by omega) h).1.1
      | succ j ih =>
        intro h
        have h1 := ih (by omega)
        have h2 := (g.fin (j + 1 : Nat) (by omega) h).2 (by omega)
        rw [show ((j + 1 : Nat) : Int) - 1 = (j : Int) by omega] at h2
        dsimp only at h2
        omega
    by_cases e : fin.length = 0
    · omega
    · have h1 := key (fin.length - 1) (by omega)
      have h2 := (g.fin (fin.length - 1 : Nat) (by omega) (by dsimp only; omega)).1.2
      dsimp only at h2
      omega
  have lp : ∀ (d : Nat) {i : Int} {row : List Int}, 0 ≤ i → i + d = fin.length → (row.length : Int) = S → (∀ s, 0 ≤ s → s < S → vGet row s 0 = if s ∈ fin.take i.toNat then 1 else 0) →
      Wp (fun k => impl_Grammar_counts_r3 k n row fin (vLen fin) i S st fin arcs) (fun t => TabOk S fin arcs (n + 1) t) := by
    intro d
    induction d with
    | zero =>
      intro i row hi hd hl hs
      refine Wp.step ?_
      simp only [impl_Grammar_counts_r3_eq, vLt, vLe, vEq, vNot, inR, decide_eq_true_eq, Bool.not_eq_true', decide_eq_false_iff_not, Bool.not_eq_eq_eq_not, Bool.not_true]
      refine Wp.neg (by simp only [vLen]; omega) (c9_wp g hn n.toNat (by omega) (by omega) ⟨rfl, fun l h1 h2 => ?_⟩)
      obtain rfl : l = 0 := by omega
      refine ⟨hl, fun s h1 h2 => ?_⟩
      have := hs s h1 h2
      rw [List.take_of_length_le (by omega)] at this
      show vGet row s 0 = _
      rw [this]
      simp only [cnt, Int.toNat_zero, words]
      split <;> simp
    | succ d ih =>
      intro i row hi hd hl hs
      have hj : i < (fin.length : Int) := by omega
      have hb := (g.fin i hi hj).1
      dsimp only at hb
      refine Wp.step ?_
      simp (disch := omega) only [impl_Grammar_counts_r3_eq, vLt, vLe, vEq, vNot, inR, decide_eq_true_eq, Bool.not_eq_true', decide_eq_false_iff_not, Bool.not_eq_eq_eq_not, Bool.not_true, add64]
      refine Wp.pos (by simp only [vLen]; omega) (Wp.pos ⟨hi, hj⟩ (Wp.pos ⟨hb.1, by simp only [vLen]; omega⟩ ?_))
      refine ih (i := i + 1) (by omega) (by omega) (by rw [len_set]; exact hl) (fun s h1 h2 => ?_)
      rw [get_set hb.1 (by omega) h1, hs s h1 h2]
      have et : fin.take (i + 1).toNat = fin.take i.toNat ++ [vGet fin i 0] := by
        rw [show (i + 1).toNat = i.toNat + 1 by omega, vGet_get hi hj]
        simp
      rw [et]
      by_cases es : vGet fin i 0 = s
      · simp [es]
      · simp [es, List.mem_append, Ne.symm es]
  refine Wp.step ?_
  simp only [impl_Grammar_counts_eq]
  refine Wp.pos (mk_ok g) (lp fin.length (by omega) (by omega) (by simp [vRep]; omega) (fun s h1 h2 => ?_))
  rw [get_rep h1 h2]; simp
end
end Go.Proofs.Ytojmfjhbfcnecaa.F
