/- FnNumbering as a function on plain values is true. -/
import Derived.Test.YtojmfjhbfcnecaaP6
namespace Go.Proofs.Ytojmfjhbfcnecaa.F
open Go Go.Proofs.Ytojmfjhbfcnecaa.Eng
set_option linter.unusedSimpArgs false
set_option linter.unusedVariables false
set_option maxRecDepth 100000
theorem r22_wp {x y : List Int} (hl : x.length = y.length) (hx : x.length ≤ 1000) : ∀ (d : Nat) {i : Int}, 0 ≤ i → i + d = x.length → lexlt (y.drop i.toNat) (x.drop i.toNat) → Wp (fun k => laws_FnNumbering_r22 k x y i) (fun r => r = true)
  | 0, i, h0, hd, h => by
    rw [List.drop_eq_nil_of_le (by omega), List.drop_eq_nil_of_le (by omega)] at h
    exact h.elim
  | d + 1, i, h0, hd, h => by
    have h1 : i < (x.length : Int) := by omega
    have h2 : i < (y.length : Int) := by omega
    rw [vGet_drop (d := 0) h0 h1, vGet_drop (d := 0) h0 h2] at h
    refine Wp.step ?_
    simp (disch := omega) only [laws_FnNumbering_r22_eq, vLt, vLe, vEq, vNot, inR, decide_eq_true_eq, Bool.not_eq_true', decide_eq_false_iff_not, Bool.not_eq_eq_eq_not, Bool.not_true, add64]
    refine Wp.pos h1 (Wp.pos ⟨h0, h2⟩ (Wp.pos ⟨h0, h1⟩ (Wp.ite (fun q => Wp.pos ⟨h0, h2⟩ (Wp.pos ⟨h0, h1⟩ (Wp.now ?_))) (fun q => ?_))))
    · rcases h with h | ⟨h, _⟩
      · exact decide_eq_true h
      · simp [h] at q
    · have q : vGet y i 0 = vGet x i 0 := by simpa using q
      rcases h with h | ⟨_, h⟩
      · omega
      · exact r22_wp hl hx d (by omega) (by omega) h
theorem pure (l0 l1 : List Int) (ok0 : l0.length ≤ maxLen ∧ ∀ x ∈ l0, (Lit.int .u8 x).wf = true) (ok1 : l1.length ≤ maxLen ∧ ∀ x ∈ l1, (Lit.int .u8 x).wf = true) : ∃ n, laws_FnNumbering n l0 l1 = some true := by
  have b0 : Bytes l0 := ok0.2
  have b1 : Bytes l1 := ok1.2
  suffices h : Wp (fun k => laws_FnNumbering k l0 l1) (fun r => r = true) by
    obtain ⟨_, rfl, K, hK⟩ := h
    exact ⟨K, hK K (Nat.le_refl _)⟩
  refine Wp.step ?_
  simp only [laws_FnNumbering_eq, vLt, vLe, vEq, vNot, inR, decide_eq_true_eq, Bool.not_eq_true', decide_eq_false_iff_not, Bool.not_eq_eq_eq_not, Bool.not_true]
  refine Wp.call r8Long_wp (fun r _ => Wp.ite (fun _ => Wp.now rfl) (fun _ => ?_))
  refine Wp.call (gram_wp b0) (fun gr hg => Wp.call (r8At_wp b1 (by omega)) (fun n hn => ?_))
  obtain ⟨S, st, fin, arcs⟩ := gr
  obtain ⟨g, hf⟩ := hg
  have hn0 : 0 ≤ n := hn.1
  have hn5 : n ≤ 5 := by omega
  have hcl := cnt_le (fin := fin) g.len (show n.toNat ≤ 6 by omega) st
  have hcn := cnt_nn (fin := fin) (arcs := arcs) (l := n.toNat) (s := st)
  dsimp only at hcl hf
  refine Wp.val (count_wp g hf hn0 hn5) (Wp.call (numbered_wp g hf hn0 hn5 (by dsimp only; omega)) (fun r hr => ?_))
  dsimp only at hr ⊢
  rw [if_neg (by omega)] at hr
  subst hr
  refine Wp.neg (by decide) (Wp.neg (by omega) (Wp.neg (by decide) (Wp.ite (fun _ => Wp.now rfl) (fun hne => ?_))))
  refine Wp.call (r8Wide_wp b1 (by omega) (by omega) (by omega)) (fun x hx => ?_)
  refine Wp.neg hne ?_
  have hk0 : 0 ≤ vRem x (cnt fin arcs n.toNat st) := Int.tmod_nonneg _ hx.1
  have hk1 : vRem x (cnt fin arcs n.toNat st) < cnt fin arcs n.toNat st := Int.tmod_lt_of_pos _ (by omega)
  generalize vRem x (cnt fin arcs n.toNat st) = num at hk0 hk1
  refine Wp.call (numbered_wp g hf hn0 hn5 (by omega)) (fun q hq => ?_)
  rw [if_pos ⟨hk0, hk1⟩] at hq
  obtain ⟨w, e⟩ := q
  obtain ⟨he, hw⟩ := hq
  dsimp only at he hw
  subst he
  have hmem := List.mem_of_getElem? hw
  have hwl := words_len hmem
  refine Wp.val (number_wp g hf hn0 hn5 hw) (Wp.neg (by simp) (Wp.neg (by simp only [vLen]; omega) (Wp.val (acc_wp g hf (by omega) hmem) (Wp.neg (by simp) (Wp.neg (by simp) (Wp.neg ?_ (Wp.ite (fun _ => Wp.now rfl) (fun hz => ?_))))))))
  · simp only [Decidable.not_not]; omega
  rw [sub64 (by omega) (by omega)]
  refine Wp.call (numbered_wp g hf hn0 hn5 (by omega)) (fun q hq => ?_)
  rw [if_pos ⟨by omega, by omega⟩] at hq
  obtain ⟨v, e⟩ := q
  obtain ⟨he, hv⟩ := hq
  dsimp only at he hv
  subst he
  have hvl := words_len (List.mem_of_getElem? hv)
  refine Wp.neg (by simp) (Wp.neg (by simp only [vLen]; omega) ?_)
  have hp := List.pairwise_iff_getElem.1 (words_pair g n.toNat st)
  obtain ⟨a1, a2⟩ := List.getElem?_eq_some_iff.1 hv
  obtain ⟨c1, c2⟩ := List.getElem?_eq_some_iff.1 hw
  have := hp _ _ a1 c1 (by omega)
  rw [a2, c2] at this
  exact r22_wp (x := w) (y := v) (by omega) (by omega) w.length (by omega) (by omega) (by simpa using this)
end Go.Proofs.Ytojmfjhbfcnecaa.F
