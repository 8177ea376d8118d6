/- Items that are valid; when an item fits. -/
import Derived.Test.YticifedehhnjhaaQ1
namespace Go.Proofs.Yticifedehhnjhaa.F
open Go Go.Proofs.Yticifedehhnjhaa.Eng
set_option linter.unusedSimpArgs false
set_option linter.unusedVariables false
set_option maxRecDepth 100000
theorem all_step {C : Int → Prop} {i n : Int} (h : i < n) : (∀ j, i ≤ j → j < n → C j) ↔ C i ∧ ∀ j, i + 1 ≤ j → j < n → C j :=
  ⟨fun k => ⟨k i (by omega) h, fun j h1 h2 => k j (by omega) h2⟩, fun ⟨k1, k2⟩ j h1 h2 => if e : j = i then e ▸ k1 else k2 j (by omega) h2⟩
theorem all_end {C : Int → Prop} {i n : Int} (h : ¬ i < n) : ∀ j, i ≤ j → j < n → C j := fun j h1 h2 => by omega
def smallC (b : Int) : Prop := 97 ≤ b ∧ b ≤ 122
def nameC (b : Int) : Prop := smallC b ∨ 48 ≤ b ∧ b ≤ 57
def NameOk (s : ByteArray) : Prop := (1 ≤ s.size ∧ s.size ≤ 10) ∧ smallC (byteAt s 0) ∧ ∀ j, 0 ≤ j → j < (s.size : Int) → nameC (byteAt s j)
theorem only_wp {s : ByteArray} (hs : s.size ≤ 1000) : ∀ (d : Nat) {i : Int}, 0 ≤ i → i + d = s.size → Wp (fun k => impl_onlyNameBytes_r2 k s (sLen s) i) (fun r => r = true ↔ ∀ j, i ≤ j → j < (s.size : Int) → nameC (byteAt s j))
  | 0, i, h0, hd => by
    refine Wp.step ?_
    simp only [impl_onlyNameBytes_r2_eq, vLt, vLe, vEq, vNot, inR, decide_eq_true_eq, Bool.not_eq_true', decide_eq_false_iff_not, Bool.not_eq_eq_eq_not, Bool.not_true]
    exact Wp.neg (by simp only [sLen]; omega) (Wp.now ⟨fun _ => all_end (by omega), fun _ => rfl⟩)
  | d + 1, i, h0, hd => by
    have hi : i < (s.size : Int) := by omega
    have ih := only_wp hs d (i := i + 1) (by omega) (by omega)
    have bad : ¬ nameC (byteAt s i) → Wp (fun _ => some false) (fun r => r = true ↔ nameC (byteAt s i) ∧ ∀ j, i + 1 ≤ j → j < (s.size : Int) → nameC (byteAt s j)) := fun h => Wp.now ⟨fun e => (by cases e), fun q => (h q.1).elim⟩
    have good : nameC (byteAt s i) → Wp (fun k => impl_onlyNameBytes_r2 k s (sLen s) (i + 1)) (fun r => r = true ↔ nameC (byteAt s i) ∧ ∀ j, i + 1 ≤ j → j < (s.size : Int) → nameC (byteAt s j)) := fun h => ih.mono fun r hr => hr.trans ⟨fun q => ⟨h, q⟩, fun q => q.2⟩
    refine Wp.step ?_
    simp (disch := omega) only [impl_onlyNameBytes_r2_eq, vLt, vLe, vEq, vNot, inR, decide_eq_true_eq, Bool.not_eq_true', decide_eq_false_iff_not, Bool.not_eq_eq_eq_not, Bool.not_true, add64]
    rw [all_step hi]
    unfold nameC smallC at bad good ⊢
    refine Wp.pos (by simp only [sLen]; omega) (Wp.pos ⟨h0, by simp only [sLen]; omega⟩ (Wp.ite (fun h1 => Wp.ite (fun h2 => bad (by omega)) (fun h2 => Wp.ite (fun h3 => bad (by omega)) (fun h3 => good (by omega)))) (fun h1 => Wp.ite (fun h4 => Wp.ite (fun h2 => bad (by omega)) (fun h2 => Wp.ite (fun h3 => bad (by omega)) (fun h3 => good (by omega)))) (fun h4 => good (by omega)))))
theorem isName_wp {s : ByteArray} : Wp (fun k => impl_IsName k s) (fun r => r = true ↔ NameOk s) := by
  refine Wp.step ?_
  simp only [impl_IsName_eq, vLt, vLe, vEq, vNot, inR, decide_eq_true_eq, Bool.not_eq_true', decide_eq_false_iff_not, Bool.not_eq_eq_eq_not, Bool.not_true]
  have bad : ¬ NameOk s → Wp (fun _ => some false) (fun r => r = true ↔ NameOk s) := fun h => Wp.now ⟨fun e => (by cases e), fun q => (h q).elim⟩
  refine Wp.ite (fun h => bad fun q => ?_) (fun h1 => Wp.ite (fun h => bad fun q => ?_) (fun h2 => ?_))
  · have := q.1; simp only [sLen] at h; omega
  · have := q.1; simp only [sLen] at h; omega
  simp only [sLen] at h1 h2
  refine Wp.pos ⟨by omega, by simp only [sLen]; omega⟩ (Wp.ite (fun h => bad fun q => ?_) (fun h3 => Wp.pos ⟨by omega, by simp only [sLen]; omega⟩ (Wp.ite (fun h => bad fun q => ?_) (fun h4 => ?_))))
  · have := q.2.1; unfold smallC at this; omega
  · have := q.2.1; unfold smallC at this; omega
  have on : Wp (fun k => impl_onlyNameBytes k s) (fun r => r = true ↔ ∀ j, 0 ≤ j → j < (s.size : Int) → nameC (byteAt s j)) := by
    refine Wp.step ?_
    simp only [impl_onlyNameBytes_eq]
    exact only_wp (by omega) s.size (by omega) (by omega)
  exact Wp.call on (fun r hr => Wp.now (hr.trans ⟨fun q => ⟨by omega, by unfold smallC; omega, q⟩, fun q => q.2.2⟩))
def VIt (x : It) : Prop := NameOk x.1 ∧ (0 ≤ x.2.1 ∧ x.2.1 ≤ 1439) ∧ (0 ≤ x.2.2.1 ∧ x.2.2.1 ≤ 1439) ∧ ¬ x.2.1 = x.2.2.1 ∧ (-1 ≤ x.2.2.2.1 ∧ x.2.2.2.1 ≤ 5) ∧ (1 ≤ x.2.2.2.2.1 ∧ x.2.2.2.2.1 ≤ 240) ∧ (0 ≤ x.2.2.2.2.2 ∧ x.2.2.2.2.2 ≤ 1000)
theorem within_wp {x lo hi : Int} : Wp (fun k => impl_within k x lo hi) (fun r => r = true ↔ lo ≤ x ∧ x ≤ hi) := by
  refine Wp.step ?_
  simp only [impl_within_eq, vLt, vLe, vEq, vNot, inR, decide_eq_true_eq, Bool.not_eq_true', decide_eq_false_iff_not, Bool.not_eq_eq_eq_not, Bool.not_true]
  refine Wp.ite (fun h => Wp.now ?_) (fun h => Wp.now ?_)
  · simp [h]
  · simp [h]
theorem in_wp {x lo hi : Int} : Wp (fun k => spec_l00In k x lo hi) (fun r => r = true ↔ lo ≤ x ∧ x ≤ hi) := by
  refine Wp.step ?_
  simp only [spec_l00In_eq, vLt, vLe, vEq, vNot, inR, decide_eq_true_eq, Bool.not_eq_true', decide_eq_false_iff_not, Bool.not_eq_eq_eq_not, Bool.not_true]
  refine Wp.ite (fun h => Wp.now ?_) (fun h => Wp.now ?_)
  · simp [h]
  · simp [h]
theorem minute_wp {x : Int} : Wp (fun k => impl_minuteOk k x) (fun r => r = true ↔ 0 ≤ x ∧ x ≤ 1439) := by
  refine Wp.step ?_
  simp only [impl_minuteOk_eq]
  exact Wp.call within_wp (fun r h => Wp.now h)
theorem season_wp {x : Int} : Wp (fun k => impl_seasonOk k x) (fun r => r = true ↔ 0 ≤ x ∧ x ≤ 5) := by
  refine Wp.step ?_
  simp only [impl_seasonOk_eq]
  exact Wp.call within_wp (fun r h => Wp.now h)
theorem sminute_wp {x : Int} : Wp (fun k => spec_l08Minute k x) (fun r => r = true ↔ 0 ≤ x ∧ x ≤ 1439) := by
  refine Wp.step ?_
  simp only [spec_l08Minute_eq]
  exact Wp.call in_wp (fun r h => Wp.now h)
theorem sseason_wp {x : Int} : Wp (fun k => spec_l08Season k x) (fun r => r = true ↔ 0 ≤ x ∧ x ≤ 5) := by
  refine Wp.step ?_
  simp only [spec_l08Season_eq]
  exact Wp.call in_wp (fun r h => Wp.now h)
theorem item_wp {x : It} : Wp (fun k => impl_ValidItem k x.1 x.2.1 x.2.2.1 x.2.2.2.1 x.2.2.2.2.1 x.2.2.2.2.2) (fun r => r = true ↔ VIt x) := by
  refine Wp.step ?_
  simp only [impl_ValidItem_eq, vLt, vLe, vEq, vNot, inR, decide_eq_true_eq, Bool.not_eq_true', decide_eq_false_iff_not, Bool.not_eq_eq_eq_not, Bool.not_true]
  have bad : ¬ VIt x → Wp (fun _ => some false) (fun r => r = true ↔ VIt x) := fun h => Wp.now ⟨fun e => (by cases e), fun q => (h q).elim⟩
  refine Wp.call isName_wp (fun r1 k1 => Wp.ite (fun h1 => Wp.call minute_wp (fun r2 k2 => Wp.ite (fun h2 => Wp.call minute_wp (fun r3 k3 => Wp.ite (fun h3 => Wp.ite (fun h4 => Wp.call within_wp (fun r5 k5 => Wp.ite (fun h5 => Wp.call within_wp (fun r6 k6 => Wp.ite (fun h6 => Wp.call within_wp (fun r7 k7 => Wp.now ?_)) (fun h => bad ?_))) (fun h => bad ?_))) (fun h => bad ?_)) (fun h => bad ?_))) (fun h => bad ?_))) (fun h => bad ?_))
  · exact k7.trans ⟨fun q => ⟨k1.1 h1, k2.1 h2, k3.1 h3, by simpa using h4, k5.1 h5, k6.1 h6, q⟩, fun q => q.2.2.2.2.2.2⟩
  · exact fun q => h (k6.2 q.2.2.2.2.2.1)
  · exact fun q => h (k5.2 q.2.2.2.2.1)
  · exact fun q => h (by simpa using q.2.2.2.1)
  · exact fun q => h (k3.2 q.2.2.1)
  · exact fun q => h (k2.2 q.2.1)
  · exact fun q => h (k1.2 q.1)
def itC (l : List It) (i : Int) : Prop := VIt (vGet l i it0) ∧ (0 < i → sLe (vGet l i it0).1 (vGet l (i - 1) it0).1 = false)
def VL (l : List It) : Prop := l.length ≤ 12 ∧ ∀ j, 0 ≤ j → j < (l.length : Int) → itC l j
theorem items_wp {l : List It} : Wp (fun k => impl_ValidItems k l) (fun r => r = true ↔ VL l) := by
  refine Wp.step ?_
  simp only [impl_ValidItems_eq, vLt, vLe, vEq, vNot, inR, decide_eq_true_eq, Bool.not_eq_true', decide_eq_false_iff_not, Bool.not_eq_eq_eq_not, Bool.not_true]
  refine Wp.ite (fun h => Wp.now ⟨fun e => (by cases e), fun q => ?_⟩) (fun h => ?_)
  · have := q.1; simp only [vLen] at h; omega
  have hl : l.length ≤ 12 := by simp only [vLen] at h; omega
  have lp : ∀ (d : Nat) {i : Int}, 0 ≤ i → i + d = l.length → Wp (fun k => impl_ValidItems_r4 k l l (vLen l) i) (fun r => r = true ↔ ∀ j, i ≤ j → j < (l.length : Int) → itC l j) := by
    intro d
    induction d with
    | zero =>
      intro i h0 hd
      refine Wp.step ?_
      simp only [impl_ValidItems_r4_eq, vLt, vLe, vEq, vNot, inR, decide_eq_true_eq, Bool.not_eq_true', decide_eq_false_iff_not, Bool.not_eq_eq_eq_not, Bool.not_true]
      exact Wp.neg (by simp only [vLen]; omega) (Wp.now ⟨fun _ => all_end (by omega), fun _ => rfl⟩)
    | succ d ih =>
      intro i h0 hd
      have hi : i < (l.length : Int) := by omega
      have ih := ih (i := i + 1) (by omega) (by omega)
      refine Wp.step ?_
      simp (disch := omega) only [impl_ValidItems_r4_eq, vLt, vLe, vEq, vNot, inR, decide_eq_true_eq, Bool.not_eq_true', decide_eq_false_iff_not, Bool.not_eq_eq_eq_not, Bool.not_true, add64, sub64]
      rw [all_step hi]
      refine Wp.pos (by simp only [vLen]; omega) (Wp.pos ⟨h0, hi⟩ (Wp.call (item_wp (x := vGet l i it0)) (fun r hr => Wp.ite (fun h => Wp.now ⟨fun e => (by cases e), fun q => ?_⟩) (fun h => ?_))))
      · have := hr.2 q.1.1; rw [h] at this; cases this
      have hv := hr.1 (by simpa using h)
      refine Wp.ite (fun hp => Wp.pos ⟨by omega, by simp only [vLen]; omega⟩ (Wp.ite (fun hs => Wp.now ⟨fun e => (by cases e), fun q => ?_⟩) (fun hs => ih.mono fun r hr => hr.trans ⟨fun q => ⟨⟨hv, fun _ => (by change ¬ sLe (vGet l i it0).1 (vGet l (i - 1) it0).1 = true at hs; simpa using hs)⟩, q⟩, fun q => q.2⟩))) (fun hp => ih.mono fun r hr => hr.trans ⟨fun q => ⟨⟨hv, fun h => absurd h hp⟩, q⟩, fun q => q.2⟩)
      have := q.1.2 hp
      change sLe (vGet l i it0).1 (vGet l (i - 1) it0).1 = true at hs
      rw [hs] at this; cases this
  exact (lp l.length (by omega) (by omega)).mono fun r hr => hr.trans ⟨fun q => ⟨hl, q⟩, fun q => q.2⟩
/-! ### the other look -/
theorem loop_len (s : ByteArray) : ∀ (d i : Nat) (r : List UInt8), s.size - i = d → (ByteArray.toList.loop s i r).length = r.length + d
  | 0, i, r, h => by
    unfold ByteArray.toList.loop
    rw [if_neg (by omega)]; simp
  | d + 1, i, r, h => by
    unfold ByteArray.toList.loop
    rw [if_pos (by omega), loop_len s d (i + 1) _ (by omega)]
    simp only [List.length_cons]; omega
theorem toList_len (s : ByteArray) : s.toList.length = s.size := by
  have := loop_len s s.size 0 [] (by omega)
  simpa [ByteArray.toList] using this
theorem less_total : ∀ {a b : List UInt8}, Op.bytesLess a b = false → (a == b) = false → Op.bytesLess b a = true
  | [], [], _, h => by simp at h
  | a :: x, [], _, _ => rfl
  | [], b :: y, h, _ => by simp [Op.bytesLess] at h
  | a :: x, b :: y, h1, h2 => by
    simp only [Op.bytesLess, Bool.or_eq_false_iff, Bool.and_eq_false_iff, decide_eq_false_iff_not] at h1
    simp only [Op.bytesLess, Bool.or_eq_true, Bool.and_eq_true, decide_eq_true_eq]
    by_cases e : a = b
    · subst e
      right
      refine ⟨by simp, less_total (by simpa using h1.2) (by simpa using h2)⟩
    · left
      have := h1.1
      rcases UInt8.lt_or_lt_of_ne (a := a) (b := b) e with q | q
      · exact (this q).elim
      · exact q
theorem lt_of_not_le {a b : ByteArray} (h : sLe a b = false) : sLt b a = true := by
  simp only [sLe, Bool.or_eq_false_iff] at h
  exact less_total h.1 h.2
theorem sname_wp {s : ByteArray} (h : NameOk s) : Wp (fun k => spec_l01Name k s) (fun r => r = true) := by
  have small : ∀ b, Wp (fun k => spec_l01Small k b) (fun r => r = true ↔ smallC b) := fun b => by
    refine Wp.step ?_
    simp only [spec_l01Small_eq, vLt, vLe, vEq, vNot, inR, decide_eq_true_eq, Bool.not_eq_true', decide_eq_false_iff_not, Bool.not_eq_eq_eq_not, Bool.not_true]
    exact Wp.ite (fun h => Wp.now (by simp [smallC, h])) (fun h => Wp.now (by simp [smallC, h]))
  have digit : ∀ b, Wp (fun k => spec_l01Digit k b) (fun r => r = true ↔ 48 ≤ b ∧ b ≤ 57) := fun b => by
    refine Wp.step ?_
    simp only [spec_l01Digit_eq, vLt, vLe, vEq, vNot, inR, decide_eq_true_eq, Bool.not_eq_true', decide_eq_false_iff_not, Bool.not_eq_eq_eq_not, Bool.not_true]
    exact Wp.ite (fun h => Wp.now (by simp [h])) (fun h => Wp.now (by simp [h]))
  have hsz := h.1
  have lp : ∀ (d : Nat) {i : Int}, 0 ≤ i → i + d = s.size → Wp (fun k => spec_l01Name_r4 k s i) (fun r => r = true) := by
    intro d
    induction d with
    | zero =>
      intro i h0 hd
      refine Wp.step ?_
      simp only [spec_l01Name_r4_eq, vLt, vLe, vEq, vNot, inR, decide_eq_true_eq, Bool.not_eq_true', decide_eq_false_iff_not, Bool.not_eq_eq_eq_not, Bool.not_true]
      exact Wp.neg (by simp only [sLen]; omega) (Wp.now rfl)
    | succ d ih =>
      intro i h0 hd
      have hi : i < (s.size : Int) := by omega
      refine Wp.step ?_
      simp (disch := omega) only [spec_l01Name_r4_eq, vLt, vLe, vEq, vNot, inR, decide_eq_true_eq, Bool.not_eq_true', decide_eq_false_iff_not, Bool.not_eq_eq_eq_not, Bool.not_true, add64]
      have hin : 0 ≤ i ∧ i < sLen s := ⟨h0, by simp only [sLen]; omega⟩
      refine Wp.pos hin.2 (Wp.pos hin (Wp.call (small _) (fun r hr => Wp.ite (fun h1 => Wp.pos hin (Wp.call (digit _) (fun q hq => Wp.neg ?_ (ih (by omega) (by omega))))) (fun _ => ih (by omega) (by omega)))))
      rcases h.2.2 i h0 hi with h2 | h2
      · have := hr.2 h2; rw [h1] at this; cases this
      · rw [hq.2 h2]; decide
  refine Wp.step ?_
  simp only [spec_l01Name_eq, vLt, vLe, vEq, vNot, inR, decide_eq_true_eq, Bool.not_eq_true', decide_eq_false_iff_not, Bool.not_eq_eq_eq_not, Bool.not_true]
  refine Wp.neg ?_ (Wp.neg (by simp only [sLen]; omega) (Wp.pos ⟨by omega, by simp only [sLen]; omega⟩ (Wp.call (small _) (fun r hr => Wp.neg (by rw [hr.2 h.2.1]; decide) (lp s.size (by omega) (by omega))))))
  intro e
  simp only [sEq, beq_iff_eq] at e
  have h3 := toList_len s
  rw [e, toList_len] at h3
  have h4 : (⟨#[]⟩ : ByteArray).size = 0 := rfl
  omega
end Go.Proofs.Yticifedehhnjhaa.F
