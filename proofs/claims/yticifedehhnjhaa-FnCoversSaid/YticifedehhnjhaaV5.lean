/- The law of covers. -/
import Derived.Test.YticifedehhnjhaaV4
namespace Go.Proofs.Yticifedehhnjhaa.F
open Go Go.Proofs.Yticifedehhnjhaa.Eng
set_option linter.unusedSimpArgs false
set_option linter.unusedVariables false
set_option maxRecDepth 100000
theorem coveredBy_wp {P : List Int} (hP : PtOk P) {L : List (List Int)} (hv : VP L) : Wp (fun k => spec_CoveredBy k P L) (fun r => r = (sel (Cov P L) P.length 0, 0)) := by
  have hl := hv.len
  have hpl := hP.1
  refine Wp.step ?_
  simp only [spec_CoveredBy_eq, vLt, vLe, vEq, vNot, inR, decide_eq_true_eq, Bool.not_eq_true', decide_eq_false_iff_not, Bool.not_eq_eq_eq_not, Bool.not_true]
  refine Wp.call (sok_wp hv) (fun r e => Wp.neg (by rw [e]; decide) (Wp.call (spitches_wp hP) (fun r e => Wp.neg (by rw [e]; decide) (Wp.call (scovered_wp hP.1 hl (fun p hp => by have := (hv.mem hp).1; omega)) (fun x hx => ?_)))))
  have hxl := hx.1
  have lp : ∀ (d : Nat) {i : Int} {l : List Int}, 0 ≤ i → i + d = P.length → l.length + d ≤ 64 → Wp (fun k => spec_CoveredBy_r8 k x l i) (fun r => r = (l ++ sel (Cov P L) d i, 0)) := by
    intro d
    induction d with
    | zero =>
      intro i l h0 hd hl
      refine Wp.step ?_
      simp only [spec_CoveredBy_r8_eq, vLt, vLe, vEq, vNot, inR, decide_eq_true_eq, Bool.not_eq_true', decide_eq_false_iff_not, Bool.not_eq_eq_eq_not, Bool.not_true]
      exact Wp.neg (by simp only [vLen]; omega) (Wp.now (by simp [sel]))
    | succ d ih =>
      intro i l h0 hd hl
      have hi : i < (x.length : Int) := by omega
      have hc := hx.2 i h0 (by omega)
      refine Wp.step ?_
      simp (disch := omega) only [spec_CoveredBy_r8_eq, vLt, vLe, vEq, vNot, inR, decide_eq_true_eq, Bool.not_eq_true', decide_eq_false_iff_not, Bool.not_eq_eq_eq_not, Bool.not_true, add64]
      refine Wp.pos hi (Wp.pos ⟨h0, hi⟩ (Wp.ite (fun e => Wp.pos (app_ok (by simp [vLen]) (by simp only [vLen]; omega) (by omega)) ((ih (i := i + 1) (l := vApp l [i]) (by omega) (by omega) (by simp only [vApp, List.length_append, List.length_singleton]; omega)).mono fun q hq => ?_)) (fun e => (ih (i := i + 1) (l := l) (by omega) (by omega) (by omega)).mono fun q hq => ?_)))
      · rw [hq]
        simp only [sel, if_pos (hc.1 e), vApp, List.append_assoc, List.cons_append, List.nil_append]
      · rw [hq]
        simp only [sel, if_neg (fun a => e (hc.2 a))]
  exact (lp P.length (by omega) (by omega) (by simp; omega)).mono fun r hr => by rw [hr]; simp
theorem rises_wp {ch : List Int} {n : Int} (hc : ch.length ≤ 100) (u : Up n 0 ch) : Wp (fun k => laws_b10Rises k ch n) (fun r => r = true) := by
  have lp : ∀ (d : Nat) {i f : Int}, 0 ≤ i → i + d = ch.length → 0 ≤ f → (0 < i → vGet ch (i - 1) 0 + 1 = f) → Up n f (ch.drop i.toNat) → Wp (fun k => laws_b10Rises_r2 k ch n i) (fun r => r = true) := by
    intro d
    induction d with
    | zero =>
      intro i f h0 hd hf hp u
      refine Wp.step ?_
      simp only [laws_b10Rises_r2_eq, vLt, vLe, vEq, vNot, inR, decide_eq_true_eq, Bool.not_eq_true', decide_eq_false_iff_not, Bool.not_eq_eq_eq_not, Bool.not_true]
      exact Wp.neg (by simp only [vLen]; omega) (Wp.now rfl)
    | succ d ih =>
      intro i f h0 hd hf hp u
      have hi : i < (ch.length : Int) := by omega
      rw [vGet_drop (d := 0) h0 hi] at u
      obtain ⟨u1, u2, u3⟩ := u
      have next := ih (i := i + 1) (f := vGet ch i 0 + 1) (by omega) (by omega) (by omega) (fun _ => by rw [show i + 1 - 1 = i by omega]) u3
      refine Wp.step ?_
      simp (disch := omega) only [laws_b10Rises_r2_eq, vLt, vLe, vEq, vNot, inR, decide_eq_true_eq, Bool.not_eq_true', decide_eq_false_iff_not, Bool.not_eq_eq_eq_not, Bool.not_true, add64, sub64]
      exact Wp.pos hi (Wp.pos ⟨h0, hi⟩ (Wp.neg (by omega) (Wp.pos ⟨h0, hi⟩ (Wp.neg (by omega) (Wp.ite (fun h => Wp.pos ⟨by omega, by simp only [vLen]; omega⟩ (Wp.pos ⟨h0, hi⟩ (Wp.neg (by have := hp h; omega) next))) (fun _ => next))))))
  refine Wp.step ?_
  simp only [laws_b10Rises_eq]
  exact lp ch.length (f := 0) (by omega) (by omega) (by omega) (fun h => by omega) (by simpa using u)
def drp (x : Int) : Int → List Int → List Int
  | _, [] => []
  | i, c :: r => if i = x then drp x (i + 1) r else c :: drp x (i + 1) r
theorem drp_up {n x : Int} : ∀ {l : List Int} {i f : Int}, Up n f l → Up n f (drp x i l)
  | [], i, f, _ => trivial
  | c :: r, i, f, h => by
    simp only [drp]
    split
    · exact (drp_up h.2.2).le (by have := h.1; omega)
    · exact ⟨h.1, h.2.1, drp_up h.2.2⟩
theorem drp_len {x : Int} : ∀ {l : List Int} {i : Int}, (x < i → drp x i l = l) ∧ (i ≤ x → x < i + l.length → (drp x i l).length + 1 = l.length)
  | [], i => ⟨fun _ => rfl, fun h k => by simp at k; omega⟩
  | c :: r, i => by
    have := @drp_len x r (i + 1)
    refine ⟨fun h => ?_, fun h k => ?_⟩
    · simp only [drp]; rw [if_neg (by omega), this.1 (by omega)]
    · simp only [drp]
      simp only [List.length_cons] at k ⊢
      by_cases e : i = x
      · rw [if_pos e, this.1 (by omega)]
      · rw [if_neg e, List.length_cons, this.2 (by omega) (by omega)]
theorem vp_picks {L : List (List Int)} (hv : VP L) {ext : List Int} (u : Up L.length 0 ext) : VP (picks L ext) := by
  have hl := hv.len
  have g : ∀ j, 0 ≤ j → j < (ext.length : Int) → vGet (picks L ext) j [] = vGet L (vGet ext j 0) [] := fun j h0 h1 => by
    rw [vGet_get h0 (by simp [picks]; omega), vGet_get (c := ext) h0 h1]
    simp [picks]
  have st : ∀ {l : List Int} {f : Int}, Up L.length f l → ∀ (j : Nat), j + 1 < l.length → l.getD j 0 + 1 ≤ l.getD (j + 1) 0 := by
    intro l
    induction l with
    | nil => intro f _ j h; simp at h
    | cons a l ih =>
      intro f u j h
      cases j with
      | zero =>
        cases l with
        | nil => simp at h
        | cons b l => have := u.2.2.1; simpa using this
      | succ j => have := ih u.2.2 j (by simpa using h); simpa using this
  refine ⟨?_, fun j h0 h1 => ?_, fun j h0 h1 => ?_⟩
  · rcases up_len u with e | e
    · subst e; simp [picks]
    · simp only [picks, List.length_map]; omega
  · have h1 : j < (ext.length : Int) := by simpa [picks] using h1
    rw [g j h0 h1]
    have m := up_mem u (vGet_mem (d := 0) h0 h1)
    exact hv.ok _ m.1 m.2
  · have h1 : j + 1 < (ext.length : Int) := by simpa [picks] using h1
    rw [g j h0 (by omega), g (j + 1) (by omega) h1]
    have m := up_mem u (vGet_mem (d := 0) h0 (show j < (ext.length : Int) by omega))
    have m' := up_mem u (vGet_mem (d := 0) (show 0 ≤ j + 1 by omega) h1)
    have s := st u j.toNat (by omega)
    rw [show j.toNat + 1 = (j + 1).toNat by omega] at s
    change vGet ext j 0 + 1 ≤ vGet ext (j + 1) 0 at s
    have := hv.lts m.1 (vGet ext (j + 1) 0 - (vGet ext j 0 + 1)).toNat (by omega)
    rwa [show vGet ext j 0 + 1 + ((vGet ext (j + 1) 0 - (vGet ext j 0 + 1)).toNat : Int) = vGet ext (j + 1) 0 by omega] at this
section
variable {c0 c1 P : List Int} {L : List (List Int)} {ch : List Int} (hP : PtOk P) (hv : VP L) (hB : Best P L ch) (R21 : Wp (fun k => laws_FnCovers_r21 k c0 c1) (fun r => r = true))
include hP hv hB R21
omit hP R21 in
theorem chlen : ch.length ≤ 12 := by
  have := hv.len
  rcases up_len hB.1 with e | e
  · subst e; simp
  · omega
omit R21 in
theorem one_wp {x : Int} (hx : -1 ≤ x) (hx2 : x < ch.length) (next : Wp (fun k => laws_FnCovers_r10 k c0 c1 P L ch (sel (Cov P L) P.length 0) (x + 1)) (fun r => r = true)) : ∀ (d : Nat) {i : Int} {A : List (List Int)}, 0 ≤ i → i + d = ch.length → A.length ≤ i → picks L (drp x 0 ch) = A ++ picks L (drp x i (ch.drop i.toNat)) → Wp (fun k => laws_FnCovers_r14 k c0 c1 P L ch (sel (Cov P L) P.length 0) x A i) (fun r => r = true)
  | 0, i, A, h0, hd, hA, hS => by
    have cl := chlen hv hB
    rw [@List.drop_eq_nil_of_le _ ch _ (by omega)] at hS
    have hS : picks L (drp x 0 ch) = A := by rw [hS]; simp [drp, picks]
    have uS := drp_up (x := x) (i := 0) hB.1
    have vS := vp_picks hv uS
    refine Wp.step ?_
    simp (disch := omega) only [laws_FnCovers_r14_eq, vLt, vLe, vEq, vNot, inR, decide_eq_true_eq, Bool.not_eq_true', decide_eq_false_iff_not, Bool.not_eq_eq_eq_not, Bool.not_true, add64]
    rw [← hS]
    refine Wp.neg (by simp only [vLen]; omega) (Wp.val (coveredBy_wp hP vS) (Wp.neg (by simp) (Wp.neg ?_ next)))
    have dl := @drp_len x ch 0
    have le := sel_le (C := Cov P (picks L (drp x 0 ch))) (D := Cov P L) (d := P.length) (i := 0) (fun j _ _ c => by
      rw [cov_picks] at c
      obtain ⟨i, hi, ph, hp, q⟩ := c
      simp only [List.mem_singleton] at hp
      subst hp
      have m := up_mem uS hi
      exact ⟨_, vGet_mem m.1 m.2, q⟩)
    have key : (sel (Cov P (picks L (drp x 0 ch))) P.length 0).length = (sel (Cov P L) P.length 0).length ↔ x < 0 := by
      constructor
      · intro e
        refine Classical.byContradiction fun nx => ?_
        have dl := dl.2 (by omega) (by omega)
        refine hB.2.2 _ uS (by omega) fun j => ⟨fun c => ?_, fun c => ?_⟩
        · rw [cov_picks] at c
          obtain ⟨i, hi, ph, hp, q⟩ := c
          simp only [List.mem_singleton] at hp
          subst hp
          have m := up_mem uS hi
          exact ⟨_, vGet_mem m.1 m.2, q⟩
        · have r := cov_rng c
          exact le.2 e j r.1 (by omega) c
      · intro hx
        rw [dl.1 hx]
        exact congrArg List.length (sel_congr fun j _ _ => hB.2.1 j)
    simp only [vLen, vBq, Int.natCast_inj, key]
    simp
  | d + 1, i, A, h0, hd, hA, hS => by
    have cl := chlen hv hB
    have hi : i < (ch.length : Int) := by omega
    have m := up_mem hB.1 (vGet_mem (d := 0) h0 hi)
    rw [vGet_drop (d := 0) h0 hi] at hS
    simp only [drp] at hS
    refine Wp.step ?_
    simp (disch := omega) only [laws_FnCovers_r14_eq, vLt, vLe, vEq, vNot, inR, decide_eq_true_eq, Bool.not_eq_true', decide_eq_false_iff_not, Bool.not_eq_eq_eq_not, Bool.not_true, add64]
    refine Wp.pos hi (Wp.ite (fun e => Wp.pos ⟨h0, hi⟩ (Wp.pos m (Wp.pos (app_ok (by simp [vLen]) (by simp only [vLen]; omega) (by omega)) (one_wp hx hx2 next d (by omega) (by omega) (by simp only [vApp, List.length_append, List.length_singleton]; omega) ?_)))) (fun e => one_wp hx hx2 next d (by omega) (by omega) (by omega) ?_))
    · rw [if_neg (by simpa using e)] at hS
      rw [hS]
      simp [picks, vApp]
    · rw [if_pos (by simpa using e)] at hS
      exact hS
theorem all_wp : ∀ (d : Nat) {x : Int}, -1 ≤ x → x + d = ch.length → Wp (fun k => laws_FnCovers_r10 k c0 c1 P L ch (sel (Cov P L) P.length 0) x) (fun r => r = true)
  | 0, x, h0, hd => by
    refine Wp.step ?_
    simp only [laws_FnCovers_r10_eq, vLt, vLe, vEq, vNot, inR, decide_eq_true_eq, Bool.not_eq_true', decide_eq_false_iff_not, Bool.not_eq_eq_eq_not, Bool.not_true]
    exact Wp.neg (by simp only [vLen]; omega) R21
  | d + 1, x, h0, hd => by
    refine Wp.step ?_
    simp only [laws_FnCovers_r10_eq, vLt, vLe, vEq, vNot, inR, decide_eq_true_eq, Bool.not_eq_true', decide_eq_false_iff_not, Bool.not_eq_eq_eq_not, Bool.not_true]
    exact Wp.pos (by simp only [vLen]; omega) (one_wp hP hv hB h0 (by omega) (all_wp d (by omega) (by omega)) ch.length (by omega) (by omega) (by simp) (by simp))
end
/-! ### the frequent phrase -/
theorem clone_wp {L : List Int} (hL : L.length ≤ 100000) : Wp (fun k => slices_Clone_int64_int64 k L) (fun r => r = L) := by
  cases L with
  | nil =>
    refine ⟨[], rfl, 1, fun k hk => ?_⟩
    obtain ⟨m, rfl⟩ : ∃ m, k = m + 1 := ⟨k - 1, by omega⟩
    show slices_Clone_int64_int64 (m + 1) [] = some []
    rw [slices_Clone_int64_int64_eq]
    rfl
  | cons x L =>
    refine Wp.step ?_
    simp only [slices_Clone_int64_int64_eq, vLt, vLe, vEq, vNot, inR, decide_eq_true_eq, Bool.not_eq_true', decide_eq_false_iff_not, Bool.not_eq_eq_eq_not, Bool.not_true]
    refine Wp.neg (by simp only [vLen, List.length_cons]; omega) (Wp.pos ?_ (Wp.now rfl))
    unfold appOk
    apply Nat.ble_eq_true_of_le
    simp only [vLen, List.length_nil]
    omega
def Fq (P : List Int) (n : Int) (r : List Int × Int × Int) : Prop := (r.2.2 = 0 ∧ n ≤ P.length) ∧ (∃ a, (0 ≤ a ∧ a + n ≤ P.length) ∧ r.1 = cut P a (a + n)) ∧ r.2.1 = (occs P r.1).length ∧ 1 ≤ r.2.1 ∧ ∀ i, 0 ≤ i → i + n ≤ P.length → ((occs P (cut P i (i + n))).length : Int) ≤ r.2.1
theorem occ_one {P : List Int} {i n : Int} (h0 : 0 ≤ i) (hn : 1 ≤ n) (h1 : i + n ≤ P.length) : 1 ≤ (occs P (cut P i (i + n))).length := by
  have : i ∈ occs P (cut P i (i + n)) := mem_sel.2 ⟨⟨h0, by omega⟩, at_cut h0 (by omega) h1⟩
  exact List.length_pos_of_mem this
theorem freq1_wp {P : List Int} (hP : P.length ≤ 64) {n : Int} (hn : 2 ≤ n ∧ n ≤ 8) (hnp : n ≤ P.length) : ∀ (d : Nat) {i a : Int} {w : List Int} {c : Int}, 0 ≤ i → i + d = P.length → (0 ≤ a ∧ a + n ≤ P.length) → w = cut P a (a + n) → c = (occs P w).length → (∀ j, 0 ≤ j → j < i → j + n ≤ P.length → ((occs P (cut P j (j + n))).length : Int) ≤ c) → Wp (fun k => impl_FrequentPhrase_r8v1 k P n w c i) (Fq P n)
  | d, i, a, w, c, h0, hd, ha, hw, hc, H => by
    have wl : (w.length : Int) = n := by rw [hw, cut_len ha.1 (by omega) ha.2]; omega
    have c1 : 1 ≤ c := by have := occ_one ha.1 (show 1 ≤ n by omega) ha.2; rw [← hw] at this; omega
    refine Wp.step ?_
    simp (disch := omega) only [impl_FrequentPhrase_r8v1_eq, vLt, vLe, vEq, vNot, inR, decide_eq_true_eq, Bool.not_eq_true', decide_eq_false_iff_not, Bool.not_eq_eq_eq_not, Bool.not_true, add64, cutOk]
    refine Wp.ite (fun h => ?_) (fun h => Wp.neg (by omega) (Wp.val (clone_wp (by omega)) (Wp.now ⟨⟨rfl, hnp⟩, ⟨a, ha, hw⟩, hc, c1, fun j h1 h2 => H j h1 (by simp only [vLen] at h; omega) h2⟩)))
    simp only [vLen] at h
    obtain ⟨d, rfl⟩ : ∃ e, d = e + 1 := ⟨d - 1, by omega⟩
    have cl : ((cut P i (i + n)).length : Int) = n := by rw [cut_len h0 (by omega) h]; omega
    have stay : ((occs P (cut P i (i + n))).length : Int) ≤ c → Wp (fun k => impl_FrequentPhrase_r8v1 k P n w c (i + 1)) (Fq P n) := fun q => freq1_wp hP hn hnp d (by omega) (by omega) ha hw hc fun j h1 h2 h3 => by
      by_cases e : j = i
      · subst e; exact q
      · exact H j h1 (by omega) h3
    have take : c ≤ ((occs P (cut P i (i + n))).length : Int) → Wp (fun k => impl_FrequentPhrase_r8v1 k P n (cut P i (i + n)) (vLen (occs P (cut P i (i + n)))) (i + 1)) (Fq P n) := fun q => freq1_wp hP hn hnp d (by omega) (by omega) ⟨h0, h⟩ rfl rfl fun j h1 h2 h3 => by
      by_cases e : j = i
      · subst e; simp only [vLen]; omega
      · have := H j h1 (by omega) h3; simp only [vLen]; omega
    refine Wp.pos ⟨h0, by omega, h⟩ (Wp.val (occ_wp hP (by omega)) (Wp.ite (fun q => take (by simp only [vLen] at q; omega)) (fun q => Wp.ite (fun e => Wp.call (compare_wp (by omega)) (fun r _ => Wp.ite (fun _ => take (by simp only [vLen] at e; omega)) (fun _ => stay (by simp only [vLen] at e; omega)))) (fun e => stay (by simp only [vLen] at q; omega)))))
theorem freq_wp {P : List Int} {n : Int} : Wp (fun k => impl_FrequentPhrase k P n) (fun r => (¬ r.2.2 = 0 ∧ r.1 = [] ∧ r.2.1 = 0) ∨ (PtOk P ∧ (2 ≤ n ∧ n ≤ 8)) ∧ Fq P n r) := by
  refine Wp.step ?_
  simp only [impl_FrequentPhrase_eq, vLt, vLe, vEq, vNot, inR, decide_eq_true_eq, Bool.not_eq_true', decide_eq_false_iff_not, Bool.not_eq_eq_eq_not, Bool.not_true]
  refine Wp.call ptOk_wp (fun r1 k1 => Wp.ite (fun _ => Wp.now (.inl ⟨by dsimp only; omega, rfl, rfl⟩)) (fun h1 => Wp.call within_wp (fun r2 k2 => Wp.ite (fun _ => Wp.now (.inl ⟨by dsimp only; omega, rfl, rfl⟩)) (fun h2 => ?_))))
  have hP := k1.1 (by simpa using h1)
  have hn := k2.1 (by simpa using h2)
  have hpl := hP.1
  refine Wp.step ?_
  simp (disch := omega) only [impl_FrequentPhrase_r8_eq, vLt, vLe, vEq, vNot, inR, decide_eq_true_eq, Bool.not_eq_true', decide_eq_false_iff_not, Bool.not_eq_eq_eq_not, Bool.not_true, add64, cutOk]
  refine Wp.ite (fun h => ?_) (fun h => Wp.pos (by simp) (Wp.now (.inl ⟨by dsimp only; omega, rfl, rfl⟩)))
  simp only [vLen] at h
  rw [show (0 : Int) + n = n by omega] at *
  have cl : ((cut P 0 n).length : Int) = n := by rw [cut_len (by omega) (by omega) (by omega)]; omega
  have o1 := occ_one (P := P) (i := 0) (n := n) (by omega) (by omega) (by omega)
  rw [show (0 : Int) + n = n by omega] at o1
  refine Wp.pos ⟨by omega, by omega, h⟩ (Wp.val (occ_wp hpl (by omega)) (Wp.pos (by simp only [vLen]; omega) ?_))
  refine (freq1_wp hpl hn h (P.length - 1) (a := 0) (by omega) (by omega) ⟨by omega, by omega⟩ (by rw [show (0 : Int) + n = n by omega]) rfl fun j h1 h2 h3 => ?_).mono fun r hr => .inr ⟨⟨hP, hn⟩, hr⟩
  have : j = 0 := by omega
  subst this
  rw [show (0 : Int) + n = n by omega]
  exact Int.le_refl _
theorem findPh_wp {P ph : List Int} (hP : PtOk P) (hp : PhOk ph) : Wp (fun k => spec_FindPhrase k P ph) (fun r => r = (occs P ph, 0)) := by
  have h1 := hp.1
  refine Wp.step ?_
  simp only [spec_FindPhrase_eq, vLt, vLe, vEq, vNot, inR, decide_eq_true_eq, Bool.not_eq_true', decide_eq_false_iff_not, Bool.not_eq_eq_eq_not, Bool.not_true]
  have ask : Wp (fun k => spec_l06Ask k P ph) (fun r => r = 0) := by
    refine Wp.step ?_
    simp only [spec_l06Ask_eq, vLt, vLe, vEq, vNot, inR, decide_eq_true_eq, Bool.not_eq_true', decide_eq_false_iff_not, Bool.not_eq_eq_eq_not, Bool.not_true]
    exact Wp.call (sphrase_wp hp) (fun r e => Wp.neg (by rw [e]; decide) (Wp.call (spitches_wp hP) (fun r e => Wp.neg (by rw [e]; decide) (Wp.now rfl))))
  exact Wp.val ask (Wp.neg (by simp) (Wp.val (find_wp hP.1 (by omega)) (Wp.now rfl)))
theorem b10At_wp {c : List Int} (hb : Bytes c) {n : Int} (hn : 1 ≤ n) : Wp (fun k => laws_b10At k c 0 n) (fun r => 0 ≤ r ∧ r < n) := by
  refine Wp.step ?_
  simp only [laws_b10At_eq, vLt, vLe, vEq, vNot, inR, decide_eq_true_eq, Bool.not_eq_true', decide_eq_false_iff_not, Bool.not_eq_eq_eq_not, Bool.not_true]
  refine Wp.ite (fun h => Wp.now ⟨by omega, by omega⟩) (fun h => Wp.ite (fun h2 => Wp.pos ⟨by omega, h2⟩ (Wp.neg (by omega) (Wp.now ?_))) (fun h2 => Wp.neg (by omega) (Wp.now ?_)))
  · have := byte_bd hb (d := 0) (show (0 : Int) ≤ 0 by omega) h2
    rw [conv64 (by omega) (by omega)]
    exact ⟨Int.tmod_nonneg _ (by omega), Int.tmod_lt_of_pos _ (by omega)⟩
  · rw [mul64 (by omega) (by omega), add64 (by omega) (by omega)]
    exact ⟨Int.tmod_nonneg _ (by omega), Int.tmod_lt_of_pos _ (by omega)⟩
theorem inP_cut {P : List Int} (h : InP P) {i j : Int} : InP (cut P i j) := fun x hx => h x (List.mem_of_mem_take (List.mem_of_mem_drop hx))
theorem r21_wp {c0 c1 : List Int} (b0 : Bytes c0) (b1 : Bytes c1) : Wp (fun k => laws_FnCovers_r21 k c0 c1) (fun r => r = true) := by
  refine Wp.step ?_
  simp only [laws_FnCovers_r21_eq, vLt, vLe, vEq, vNot, inR, decide_eq_true_eq, Bool.not_eq_true', decide_eq_false_iff_not, Bool.not_eq_eq_eq_not, Bool.not_true]
  refine Wp.call (drawnQ_wp b1) (fun q hqn => Wp.call freq_wp (fun r hr => ?_))
  obtain ⟨P, n⟩ := q
  dsimp only at hqn hr ⊢
  obtain ⟨hq, hn⟩ := hqn
  rcases hr with ⟨e, e1, e2⟩ | ⟨⟨hP, hn⟩, F⟩
  · exact Wp.pos (by simpa using e) (Wp.pos (by rw [e1]; simp [vLen]) (Wp.now (decide_eq_true e2)))
  obtain ⟨⟨e, hnp⟩, ⟨a, ha, ew⟩, ec, c1, H⟩ := F
  have wl : (r.1.length : Int) = n := by rw [ew, cut_len ha.1 (by omega) ha.2]; omega
  have ok : PhOk r.1 := ⟨by omega, by rw [ew]; exact inP_cut hP.2⟩
  refine Wp.neg (by simpa using e) (Wp.val (findPh_wp hP ok) (Wp.neg (by simp only [vLen, wl]; simp) (Wp.neg (by simp) (Wp.neg (by simp only [vLen, ec]; simp) (Wp.neg (by omega) ?_)))))
  have hpl := hP.1
  rw [sub64 (by simp only [vLen]; omega) (by simp only [vLen]; omega), add64 (by simp only [vLen]; omega) (by simp only [vLen]; omega)]
  refine Wp.call (b10At_wp b0 (by simp only [vLen]; omega)) (fun z hz => ?_)
  simp only [vLen] at hz
  rw [add64 (by omega) (by omega)]
  have cl : ((cut P z (z + n)).length : Int) = n := by rw [cut_len hz.1 (by omega) (by omega)]; omega
  refine Wp.neg (by simp only [vLen]; omega) (Wp.pos (by unfold cutOk vLen; exact decide_eq_true ⟨by omega, by omega, by omega⟩) (Wp.val (findPh_wp hP ⟨by omega, inP_cut hP.2⟩) (Wp.pos (by simp) (Wp.now (decide_eq_true ?_)))))
  have := H z hz.1 (by omega)
  simp only [vLen]; omega
theorem law_wp {c0 c1 : List Int} (b0 : Bytes c0) (b1 : Bytes c1) : Wp (fun k => laws_FnCovers k c0 c1) (fun r => r = true) := by
  have lg : ∀ c, Wp (fun k => laws_b10Long k c) (fun r => True) := fun c => by
    refine Wp.step ?_
    simp only [laws_b10Long_eq]
    exact Wp.now trivial
  have R21 := r21_wp b0 b1
  refine Wp.step ?_
  simp only [laws_FnCovers_eq, vLt, vLe, vEq, vNot, inR, decide_eq_true_eq, Bool.not_eq_true', decide_eq_false_iff_not, Bool.not_eq_eq_eq_not, Bool.not_true]
  refine Wp.call (lg c0) (fun r0 _ => Wp.ite (fun _ => Wp.now rfl) (fun _ => Wp.call (lg c1) (fun r0 _ => Wp.ite (fun _ => Wp.now rfl) (fun _ => Wp.call (drawnF_wp b0) (fun q _ => Wp.call fewest_wp (fun r hr => Wp.ite (fun e => ?_) (fun _ => R21)))))))
  obtain ⟨⟨hP, hv⟩, hB⟩ := hr e
  have cl := chlen hv hB
  refine Wp.val (coveredBy_wp hP hv) (Wp.neg (by simp) (Wp.call (rises_wp (by omega) hB.1) (fun z e => Wp.neg (by rw [e]; decide) ?_)))
  exact all_wp hP hv hB R21 (r.1.length + 1) (by omega) (by omega)
end Go.Proofs.Yticifedehhnjhaa.F
