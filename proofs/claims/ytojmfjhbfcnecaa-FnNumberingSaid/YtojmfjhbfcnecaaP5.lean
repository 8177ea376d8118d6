/- Melodies and their numbers. -/
import Derived.Test.YtojmfjhbfcnecaaP4
namespace Go.Proofs.Ytojmfjhbfcnecaa.F
open Go Go.Proofs.Ytojmfjhbfcnecaa.Eng
set_option linter.unusedSimpArgs false
set_option linter.unusedVariables false
set_option linter.unusedSectionVars false
set_option maxRecDepth 100000
/-! ### arcs and melodies are in order -/
def lessA (a b : Arc) : Prop := a.1 < b.1 ∨ a.1 = b.1 ∧ a.2.1 < b.2.1
def lexlt : List Int → List Int → Prop
  | a :: x, b :: y => a < b ∨ a = b ∧ lexlt x y
  | _, _ => False
theorem pair_of {α : Type} {R : α → α → Prop} (tr : ∀ a b c, R a b → R b c → R a c) (d : α) : ∀ {l : List α}, (∀ j : Int, 0 < j → j < (l.length : Int) → R (vGet l (j - 1) d) (vGet l j d)) → l.Pairwise R
  | [], _ => .nil
  | [a], _ => by simp
  | a :: b :: r, h => by
    have hb : (b :: r).Pairwise R := pair_of tr d (fun j h0 h1 => by
      have := h (j + 1) (by omega) (by simp only [List.length_cons] at h1 ⊢; omega)
      simp only [vGet] at this ⊢
      rw [show (j + 1 - 1).toNat = (j - 1).toNat + 1 by omega, show (j + 1).toNat = j.toNat + 1 by omega] at this
      simpa using this)
    have hab : R a b := by
      have := h 1 (by omega) (by simp only [List.length_cons]; omega)
      simpa [vGet] using this
    refine List.pairwise_cons.2 ⟨fun x hx => ?_, hb⟩
    rcases List.mem_cons.1 hx with rfl | hx
    · exact hab
    · exact tr _ _ _ hab ((List.pairwise_cons.1 hb).1 x hx)
theorem pair_uniq {l : List Arc} (h : l.Pairwise lessA) {a b : Arc} (ha : a ∈ l) (hb : b ∈ l) (h1 : a.1 = b.1) (h2 : a.2.1 = b.2.1) : a = b := by
  induction l with
  | nil => cases ha
  | cons x r ih =>
    obtain ⟨hx, hr⟩ := List.pairwise_cons.1 h
    rcases List.mem_cons.1 ha with e1 | ha' <;> rcases List.mem_cons.1 hb with e2 | hb'
    · rw [e1, e2]
    · subst e1; have := hx b hb'; unfold lessA at this; omega
    · subst e2; have := hx a ha'; unfold lessA at this; omega
    · exact ih hr ha' hb'
section
variable {S st : Int} {fin : List Int} {arcs : List Arc} (g : VG (S, st, fin, arcs))
include g
theorem arcs_pair : arcs.Pairwise lessA := by
  refine pair_of (fun a b c h1 h2 => ?_) a0 (fun j h0 h1 => (g.arc j (by omega) h1).2.2.2 h0)
  unfold lessA at *; omega
theorem arcsF_pair (s : Int) : (arcsF arcs s).Pairwise (fun a b => a.2.1 < b.2.1) := by
  have h := (arcs_pair g).filter (fun a => decide (a.1 = s))
  refine h.imp_of_mem (fun {a b} ha hb q => ?_)
  have h1 : a.1 = s := by simpa using (List.mem_filter.1 ha).2
  have h2 : b.1 = s := by simpa using (List.mem_filter.1 hb).2
  unfold lessA at q; omega
theorem arcsF_bd {s : Int} {a : Arc} (h : a ∈ arcsF arcs s) : a ∈ arcs ∧ a.1 = s ∧ 0 ≤ a.2.2 ∧ a.2.2 < S := by
  have h1 := List.mem_filter.1 h
  obtain ⟨i, hi, e⟩ := List.getElem_of_mem h1.1
  have := (g.arc i (by omega) (by dsimp only; omega)).2.2.1
  dsimp only at this
  rw [vGet_get (d := a0) (i := (i : Int)) (by omega) (by omega)] at this
  simp only [Int.toNat_natCast, e] at this
  exact ⟨h1.1, by simpa using h1.2, this.1, by omega⟩
theorem words_pair : ∀ (l : Nat) (s : Int), (words fin arcs l s).Pairwise lexlt
  | 0, s => by simp only [words]; split <;> simp
  | l + 1, s => by
    simp only [words]
    rw [List.pairwise_flatMap]
    refine ⟨fun a _ => ?_, (arcsF_pair g s).imp (fun {a b} h x hx y hy => ?_)⟩
    · rw [List.pairwise_map]
      exact (words_pair l a.2.2).imp (fun h => .inr ⟨rfl, h⟩)
    · obtain ⟨x', _, rfl⟩ := List.mem_map.1 hx
      obtain ⟨y', _, rfl⟩ := List.mem_map.1 hy
      exact .inl h
/-! ### how many; which -/
variable (hf : fin.length ≤ 1000)
include hf
theorem val_wp : Wp (fun k => impl_ValidGrammar k S st fin arcs) (fun r => r = true) := valid_wp (g := (S, st, fin, arcs)) g (by dsimp only; omega)
omit g hf in
theorem tab_get {n : Int} {t : List (List Int)} (ht : TabOk S fin arcs n t) {l s : Int} (h0 : 0 ≤ l) (h1 : l < n) (h2 : 0 ≤ s) (h3 : s < S) : (0 ≤ l ∧ l < vLen t) ∧ (0 ≤ s ∧ s < vLen (vGet t l [])) ∧ vGet (vGet t l []) s 0 = cnt fin arcs l.toNat s := by
  have h4 := ht.2 l h0 h1
  exact ⟨⟨h0, by simp only [vLen]; have := ht.1; omega⟩, ⟨h2, by simp only [vLen]; have := h4.1; omega⟩, h4.2 s h2 h3⟩
theorem count_wp {n : Int} (h0 : 0 ≤ n) (h1 : n ≤ 5) : Wp (fun k => impl_CountMelodies k S st fin arcs n) (fun r => r = (cnt fin arcs n.toNat st, 0)) := by
  have hst := g.st
  dsimp only at hst
  refine Wp.step ?_
  simp only [impl_CountMelodies_eq, vLt, vLe, vEq, vNot, inR, decide_eq_true_eq, Bool.not_eq_true', decide_eq_false_iff_not, Bool.not_eq_eq_eq_not, Bool.not_true]
  refine Wp.val (val_wp g hf) (Wp.neg (by decide) (Wp.call within_wp (fun r hr => Wp.neg (by rw [hr.2 ⟨h0, by omega⟩]; decide) (Wp.call (counts_wp g h0 h1) (fun t ht => ?_)))))
  obtain ⟨q1, q2, q3⟩ := tab_get ht h0 (by omega) hst.1 (by omega)
  exact Wp.pos q1 (Wp.pos q2 (Wp.now (by rw [q3])))
theorem num_wp {n : Int} {t : List (List Int)} (hn : n ≤ 6) (ht : TabOk S fin arcs n t) : ∀ (l : Nat) {num s left : Int} {acc w : List Int}, (l : Int) ≤ n → left = (l : Int) - 1 → 0 ≤ num → acc.length + l ≤ 100 → (words fin arcs l s)[num.toNat]? = some w →
    Wp (fun k => impl_NumberedMelody_r11 k num t acc s left S st fin arcs) (fun r => r = (acc ++ w, 0))
  | 0, num, s, left, acc, w, hl, he, h0, ha, hw => by
    refine Wp.step ?_
    simp only [impl_NumberedMelody_r11_eq, vLt, vLe, vEq, vNot, inR, decide_eq_true_eq, Bool.not_eq_true', decide_eq_false_iff_not, Bool.not_eq_eq_eq_not, Bool.not_true]
    refine Wp.neg (by omega) (Wp.now ?_)
    simp only [words] at hw
    split at hw
    · cases hq : num.toNat with
      | zero => rw [hq] at hw; simp at hw; simp [← hw]
      | succ m => rw [hq] at hw; simp at hw
    · simp at hw
  | l + 1, num, s, left, acc, w, hl, he, h0, ha, hw => by
    refine Wp.step ?_
    simp only [impl_NumberedMelody_r11_eq, vLt, vLe, vEq, vNot, inR, decide_eq_true_eq, Bool.not_eq_true', decide_eq_false_iff_not, Bool.not_eq_eq_eq_not, Bool.not_true]
    have hlen := g.len
    dsimp only at hlen
    refine Wp.pos (by omega) (Wp.val (arcsOf_wp hlen) ?_)
    have hL : (arcsF arcs s).length ≤ 256 := Nat.le_trans (List.length_filter_le _ _) hlen
    have lp : ∀ (d : Nat) {j num : Int}, 0 ≤ j → j + d = (arcsF arcs s).length → 0 ≤ num → (((arcsF arcs s).drop j.toNat).flatMap fun a => (words fin arcs l a.2.2).map (a.2.1 :: ·))[num.toNat]? = some w →
        Wp (fun k => impl_NumberedMelody_r14 k num t acc s left (arcsF arcs s) (vLen (arcsF arcs s)) j S st fin arcs) (fun r => r = (acc ++ w, 0)) := by
      intro d
      induction d with
      | zero =>
        intro j num hj hd h0 hw
        rw [List.drop_eq_nil_of_le (by omega)] at hw
        simp at hw
      | succ d ih =>
        intro j num hj hd h0 hw
        have hj2 : j < ((arcsF arcs s).length : Int) := by omega
        rw [vGet_drop (d := a0) hj hj2, List.flatMap_cons, List.getElem?_append, List.length_map] at hw
        have hb := arcsF_bd g (vGet_mem (d := a0) hj hj2)
        obtain ⟨q1, q2, q3⟩ := tab_get ht (l := left) (s := (vGet (arcsF arcs s) j a0).2.2) (by omega) (by omega) hb.2.2.1 hb.2.2.2
        rw [show left.toNat = l by omega] at q3
        refine Wp.step ?_
        simp (disch := omega) only [impl_NumberedMelody_r14_eq, vLt, vLe, vEq, vNot, inR, decide_eq_true_eq, Bool.not_eq_true', decide_eq_false_iff_not, Bool.not_eq_eq_eq_not, Bool.not_true, add64]
        refine Wp.pos (by simp only [vLen]; omega) (Wp.pos ⟨hj, hj2⟩ (Wp.pos q1 (Wp.pos q2 ?_)))
        change Wp (fun k => if num < vGet (vGet t left []) (vGet (arcsF arcs s) j a0).2.2 0 then _ else _) _
        rw [q3]
        refine Wp.ite (fun h => Wp.pos (app_ok (by simp [vLen]) (by simp only [vLen]; omega) (by omega)) ?_) (fun h => Wp.pos q1 (Wp.pos q2 ?_))
        · unfold cnt at h
          rw [if_pos (by omega), List.getElem?_map, Option.map_eq_some_iff] at hw
          obtain ⟨w', hw', rfl⟩ := hw
          rw [sub64 (by omega) (by omega)]
          refine (num_wp hn ht l (num := num) (s := (vGet (arcsF arcs s) j a0).2.2) (left := left - 1) (acc := vApp acc [(vGet (arcsF arcs s) j a0).2.1]) (w := w') (by omega) (by omega) h0 (by simp [vApp]; omega) hw').mono fun r hr => ?_
          rw [hr]; simp [vApp]
        · unfold cnt at h
          rw [if_neg (by omega)] at hw
          have hc := cnt_le (fin := fin) hlen (show l ≤ 6 by omega) (vGet (arcsF arcs s) j a0).2.2
          have hlt : num.toNat - (words fin arcs l (vGet (arcsF arcs s) j a0).2.2).length = (num - cnt fin arcs l (vGet (arcsF arcs s) j a0).2.2).toNat := by unfold cnt; omega
          rw [hlt] at hw
          have hnum : num ≤ 1000000000000000000 := by
            have h1 := (List.getElem?_eq_some_iff.1 hw).1
            have h2 := flat_len (l := (arcsF arcs s).drop (j + 1).toNat) (f := fun a => (words fin arcs l a.2.2).map (a.2.1 :: ·)) (B := 281474976710656) (fun a _ => by
              have := cnt_le (fin := fin) hlen (show l ≤ 6 by omega) a.2.2
              unfold cnt at this
              rw [List.length_map]; omega)
            have h3 : ((arcsF arcs s).drop (j + 1).toNat).length ≤ 256 := by rw [List.length_drop]; omega
            have h4 : ((arcsF arcs s).drop (j + 1).toNat).length * 281474976710656 ≤ 256 * 281474976710656 := Nat.mul_le_mul_right _ h3
            omega
          change Wp (fun k => impl_NumberedMelody_r14 k (wSub .i64 num (vGet (vGet t left []) (vGet (arcsF arcs s) j a0).2.2 0)) t acc s left (arcsF arcs s) (vLen (arcsF arcs s)) (j + 1) S st fin arcs) _
          rw [q3, sub64 (by omega) (by omega)]
          exact ih (by omega) (by omega) (by unfold cnt; omega) hw
    exact lp (arcsF arcs s).length (by omega) (by omega) h0 (by simpa [words] using hw)
theorem numbered_wp {n num : Int} (h0 : 0 ≤ n) (h1 : n ≤ 5) (hn : -1000000000000000000 ≤ num ∧ num ≤ 1000000000000000000) : Wp (fun k => impl_NumberedMelody k S st fin arcs n num) (fun r => if 0 ≤ num ∧ num < cnt fin arcs n.toNat st then r.2 = 0 ∧ (words fin arcs n.toNat st)[num.toNat]? = some r.1 else r = ([], 2)) := by
  have hst := g.st
  dsimp only at hst
  have hcnt := cnt_le (fin := fin) g.len (show n.toNat ≤ 6 by omega) st
  have hcn := cnt_nn (fin := fin) (arcs := arcs) (l := n.toNat) (s := st)
  refine Wp.step ?_
  simp only [impl_NumberedMelody_eq, vLt, vLe, vEq, vNot, inR, decide_eq_true_eq, Bool.not_eq_true', decide_eq_false_iff_not, Bool.not_eq_eq_eq_not, Bool.not_true]
  refine Wp.val (val_wp g hf) (Wp.neg (by decide) (Wp.call within_wp (fun r hr => Wp.neg (by rw [hr.2 ⟨h0, by omega⟩]; decide) (Wp.call (counts_wp g h0 h1) (fun t ht => ?_)))))
  obtain ⟨q1, q2, q3⟩ := tab_get ht h0 (by omega) hst.1 (by omega)
  refine Wp.pos q1 (Wp.pos q2 ?_)
  dsimp only at hcnt
  rw [q3, sub64 (by omega) (by omega)]
  refine Wp.call within_wp (fun r hr => Wp.ite (fun h => Wp.now ?_) (fun h => ?_))
  · rw [if_neg (fun q => by have := hr.2 ⟨q.1, by omega⟩; rw [h] at this; cases this)]
  · have hq := hr.1 (by simpa using h)
    have hmk : makeOk 0 n 8 = true := by
      have h : Nat.ble (n.toNat * 8) 140737488351232 = true := Nat.ble_eq_true_of_le (by omega)
      simp [makeOk, h]; omega
    have hlt : num.toNat < (words fin arcs n.toNat st).length := by unfold cnt at hq; omega
    refine Wp.pos hmk ?_
    rw [sub64 (by omega) (by omega)]
    refine (num_wp g hf (n := n + 1) (by omega) ht n.toNat (num := num) (s := st) (left := n - 1) (acc := vRep 0 0) (w := (words fin arcs n.toNat st)[num.toNat]) (by omega) (by omega) hq.1 (by simp [vRep]; omega) (List.getElem?_eq_getElem hlt)).mono fun r hr => ?_
    rw [if_pos ⟨hq.1, by omega⟩, hr]
    refine ⟨rfl, ?_⟩
    rw [List.getElem?_eq_getElem hlt]
    simp [vRep]
end
end Go.Proofs.Ytojmfjhbfcnecaa.F
