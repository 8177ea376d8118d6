/- The number of a melody; what accepts it. -/
import Derived.Test.YtojmfjhbfcnecaaP5
namespace Go.Proofs.Ytojmfjhbfcnecaa.F
open Go Go.Proofs.Ytojmfjhbfcnecaa.Eng
set_option linter.unusedSimpArgs false
set_option linter.unusedVariables false
set_option linter.unusedSectionVars false
set_option maxRecDepth 100000
section
variable {S st : Int} {fin : List Int} {arcs : List Arc} (g : VG (S, st, fin, arcs)) (hf : fin.length ≤ 1000)
include g hf
/-! ### what accepts -/
theorem step_wp {s p : Int} : ∀ (d : Nat) {i : Int}, 0 ≤ i → i + d = arcs.length → ∀ a : Arc, a ∈ arcs.drop i.toNat → a.1 = s → a.2.1 = p → Wp (fun k => spec_l07Step_r2 k s p i S st fin arcs) (fun r => r = (a.2.2, S, st, fin, arcs))
  | 0, i, h0, hd, a, ha, _, _ => by rw [List.drop_eq_nil_of_le (by omega)] at ha; cases ha
  | d + 1, i, h0, hd, a, ha, h1, h2 => by
    have hlen := g.len
    dsimp only at hlen
    have hi : i < (arcs.length : Int) := by omega
    have ih : ¬(vGet arcs i a0 = a) → Wp (fun k => spec_l07Step_r2 k s p (i + 1) S st fin arcs) (fun r => r = (a.2.2, S, st, fin, arcs)) := fun hne => by
      refine step_wp d (i := i + 1) (by omega) (by omega) a ?_ h1 h2
      rw [vGet_drop (d := a0) h0 hi] at ha
      exact (List.mem_cons.1 ha).resolve_left (fun e => hne e.symm)
    refine Wp.step ?_
    simp (disch := omega) only [spec_l07Step_r2_eq, vLt, vLe, vEq, vNot, inR, decide_eq_true_eq, Bool.not_eq_true', decide_eq_false_iff_not, Bool.not_eq_eq_eq_not, Bool.not_true, add64]
    refine Wp.pos hi (Wp.pos ⟨h0, hi⟩ (Wp.ite (fun q1 => Wp.pos ⟨h0, hi⟩ (Wp.ite (fun q2 => Wp.pos ⟨h0, hi⟩ (Wp.now ?_)) (fun q2 => ih fun e => q2 ?_))) (fun q1 => ih fun e => q1 ?_)))
    · have : vGet arcs i a0 = a := pair_uniq (arcs_pair g) (vGet_mem h0 hi) (List.mem_of_mem_drop ha) (by rw [h1]; exact q1) (by rw [h2]; exact q2)
      show ((vGet arcs i a0).2.2, _) = _
      rw [this]
    · show (vGet arcs i a0).2.1 = p
      rw [e, h2]
    · show (vGet arcs i a0).1 = s
      rw [e, h1]
theorem words_cons {l : Nat} {s : Int} {w : List Int} (h : w ∈ words fin arcs (l + 1) s) : ∃ a x, a ∈ arcsF arcs s ∧ w = a.2.1 :: x ∧ x ∈ words fin arcs l a.2.2 := by
  simp only [words, List.mem_flatMap, List.mem_map] at h
  obtain ⟨a, ha, x, hx, rfl⟩ := h
  exact ⟨a, x, ha, rfl, hx⟩
theorem run_wp {w : List Int} (hw : w.length ≤ 1000) : ∀ (l : Nat) {s i : Int}, 0 ≤ i → i + l = w.length → w.drop i.toNat ∈ words fin arcs l s → Wp (fun k => spec_l07Run_r3 k w s i S st fin arcs) (fun r => r.1 ∈ fin ∧ r.2 = ((w.length : Int), S, st, fin, arcs))
  | 0, s, i, h0, hd, h => by
    refine Wp.step ?_
    simp only [spec_l07Run_r3_eq, vLt, vLe, vEq, vNot, inR, decide_eq_true_eq, Bool.not_eq_true', decide_eq_false_iff_not, Bool.not_eq_eq_eq_not, Bool.not_true]
    refine Wp.neg (by simp only [vLen]; omega) (Wp.now ⟨?_, rfl⟩)
    simp only [words] at h
    split at h
    · assumption
    · cases h
  | l + 1, s, i, h0, hd, h => by
    have hi : i < (w.length : Int) := by omega
    rw [vGet_drop (d := 0) h0 hi] at h
    obtain ⟨a, x, ha, e, hx⟩ := words_cons g hf h
    injection e with e1 e2
    have hb := arcsF_bd g ha
    refine Wp.step ?_
    simp (disch := omega) only [spec_l07Run_r3_eq, vLt, vLe, vEq, vNot, inR, decide_eq_true_eq, Bool.not_eq_true', decide_eq_false_iff_not, Bool.not_eq_eq_eq_not, Bool.not_true, add64]
    have stp : Wp (fun k => spec_l07Step k S st fin arcs s (vGet w i 0)) (fun r => r = (a.2.2, S, st, fin, arcs)) := by
      refine Wp.step ?_
      simp only [spec_l07Step_eq]
      exact step_wp g hf arcs.length (by omega) (by omega) a (by simpa using hb.1) hb.2.1 e1.symm
    refine Wp.pos hi (Wp.pos ⟨h0, hi⟩ (Wp.val stp (Wp.neg (by dsimp only; omega) ?_)))
    exact run_wp hw l (by omega) (by omega) (by rw [e2]; exact hx)
theorem acc_wp {l : Nat} (hl : l ≤ 1000) {w : List Int} (hw : w ∈ words fin arcs l st) : Wp (fun k => spec_Accepts k S st fin arcs w) (fun r => r = true) := by
  have hS := g.S1
  have hwl := words_len hw
  dsimp only at hS
  refine Wp.step ?_
  simp only [spec_Accepts_eq]
  refine Wp.call (ok_wp (by omega) (by omega)) (fun r hr => Wp.pos (hr.1.2 g) ?_)
  rw [hr.2]
  have ac : Wp (fun k => spec_l07Accepts k S st fin arcs w) (fun r => r.1 = true) := by
    refine Wp.step ?_
    simp only [spec_l07Accepts_eq, vLt, vLe, vEq, vNot, inR, decide_eq_true_eq, Bool.not_eq_true', decide_eq_false_iff_not, Bool.not_eq_eq_eq_not, Bool.not_true]
    have rn : Wp (fun k => spec_l07Run k S st fin arcs w) (fun r => r.1 ∈ fin ∧ r.2 = ((w.length : Int), S, st, fin, arcs)) := by
      refine Wp.step ?_
      simp only [spec_l07Run_eq]
      exact run_wp g hf (by omega) l (by omega) (by omega) (by simpa using hw)
    refine Wp.call rn (fun q hq => ?_)
    rw [hq.2]
    exact Wp.pos rfl (Wp.call (has_wp (by dsimp only; omega)) (fun z hz => Wp.now (hz.2 hq.1)))
  exact Wp.call ac (fun q hq => Wp.now hq)
/-! ### the program's own -/
theorem idx_wp {L : List Arc} (hL : L.length ≤ 1000) {p : Int} : ∀ (d : Nat) {i : Int}, 0 ≤ i → i + d = L.length → (∃ a ∈ L.drop i.toNat, a.2.1 = p) → Wp (fun k => slices_IndexFunc_impl_Arc_impl_Arc_r2 k L p (vLen L) i) (fun r => (0 ≤ r ∧ r < L.length) ∧ (vGet L r a0).2.1 = p)
  | 0, i, h0, hd, ⟨a, ha, _⟩ => by rw [List.drop_eq_nil_of_le (by omega)] at ha; cases ha
  | d + 1, i, h0, hd, ⟨a, ha, hp⟩ => by
    have hi : i < (L.length : Int) := by omega
    have fl : ∀ {x : Arc}, Wp (fun k => impl_Grammar_follow_1 k x.1 x.2.1 x.2.2 p) (fun r => r = vEq x.2.1 p) := fun {x} => by
      refine Wp.step ?_
      simp only [impl_Grammar_follow_1_eq]
      exact Wp.now rfl
    refine Wp.step ?_
    simp (disch := omega) only [slices_IndexFunc_impl_Arc_impl_Arc_r2_eq, vLt, vLe, vEq, vNot, inR, decide_eq_true_eq, Bool.not_eq_true', decide_eq_false_iff_not, Bool.not_eq_eq_eq_not, Bool.not_true, add64]
    refine Wp.pos (by simp only [vLen]; omega) (Wp.pos ⟨h0, hi⟩ (Wp.val (fl (x := vGet L i (0, 0, 0))) (Wp.ite (fun q => Wp.now ⟨⟨h0, hi⟩, of_decide_eq_true q⟩) (fun q => ?_))))
    refine idx_wp hL d (by omega) (by omega) ⟨a, ?_, hp⟩
    rw [vGet_drop (d := a0) h0 hi] at ha
    refine (List.mem_cons.1 ha).resolve_left (fun e => q ?_)
    rw [e] at hp
    exact decide_eq_true hp
theorem fol_wp {w : List Int} (hw : w.length ≤ 1000) : ∀ (l : Nat) {s i : Int}, 0 ≤ i → i + l = w.length → w.drop i.toNat ∈ words fin arcs l s → Wp (fun k => impl_Grammar_follow_r3 k w s w (vLen w) i S st fin arcs) (fun r => r.1 ∈ fin ∧ r.2 = (w.length : Int))
  | 0, s, i, h0, hd, h => by
    refine Wp.step ?_
    simp only [impl_Grammar_follow_r3_eq, vLt, vLe, vEq, vNot, inR, decide_eq_true_eq, Bool.not_eq_true', decide_eq_false_iff_not, Bool.not_eq_eq_eq_not, Bool.not_true]
    refine Wp.neg (by simp only [vLen]; omega) (Wp.now ⟨?_, rfl⟩)
    simp only [words] at h
    split at h
    · assumption
    · cases h
  | l + 1, s, i, h0, hd, h => by
    have hi : i < (w.length : Int) := by omega
    have hlen := g.len
    dsimp only at hlen
    have hL : (arcsF arcs s).length ≤ 256 := Nat.le_trans (List.length_filter_le _ _) hlen
    rw [vGet_drop (d := 0) h0 hi] at h
    obtain ⟨a, x, ha, e, hx⟩ := words_cons g hf h
    injection e with e1 e2
    refine Wp.step ?_
    simp (disch := omega) only [impl_Grammar_follow_r3_eq, vLt, vLe, vEq, vNot, inR, decide_eq_true_eq, Bool.not_eq_true', decide_eq_false_iff_not, Bool.not_eq_eq_eq_not, Bool.not_true, add64]
    have ix : Wp (fun k => slices_IndexFunc_impl_Arc_impl_Arc k (arcsF arcs s) (vGet w i 0)) (fun r => (0 ≤ r ∧ r < (arcsF arcs s).length) ∧ (vGet (arcsF arcs s) r a0).2.1 = vGet w i 0) := by
      refine Wp.step ?_
      simp only [slices_IndexFunc_impl_Arc_impl_Arc_eq]
      exact idx_wp g hf (by omega) (arcsF arcs s).length (by omega) (by omega) ⟨a, by simpa using ha, e1.symm⟩
    refine Wp.pos (by simp only [vLen]; omega) (Wp.pos ⟨h0, hi⟩ (Wp.val (arcsOf_wp hlen) (Wp.call ix (fun r hr => Wp.neg (by omega) (Wp.pos hr.1 ?_)))))
    have hm := vGet_mem (d := a0) hr.1.1 hr.1.2
    have hb1 := arcsF_bd g hm
    have hb2 := arcsF_bd g ha
    have : vGet (arcsF arcs s) r a0 = a := pair_uniq (arcs_pair g) hb1.1 hb2.1 (by rw [hb1.2.1, hb2.2.1]) (by rw [hr.2, e1])
    change Wp (fun k => impl_Grammar_follow_r3 k w (vGet (arcsF arcs s) r a0).2.2 w (vLen w) (i + 1) S st fin arcs) _
    rw [this]
    exact fol_wp hw l (by omega) (by omega) (by rw [e2]; exact hx)
theorem cont_wp {l : List Int} {x : Int} (hl : l.length ≤ 1000) (hx : x ∈ l) : Wp (fun k => slices_Contains_int64_int64 k l x) (fun r => r = true) := by
  have lp : ∀ (d : Nat) {i : Int}, 0 ≤ i → i + d = l.length → x ∈ l.drop i.toNat → Wp (fun k => slices_Index_int64_int64_r2 k l x (vLen l) i) (fun r => 0 ≤ r) := by
    intro d
    induction d with
    | zero => intro i h0 hd h; rw [List.drop_eq_nil_of_le (by omega)] at h; cases h
    | succ d ih =>
      intro i h0 hd h
      have hi : i < (l.length : Int) := by omega
      refine Wp.step ?_
      simp (disch := omega) only [slices_Index_int64_int64_r2_eq, vLt, vLe, vEq, vNot, inR, decide_eq_true_eq, Bool.not_eq_true', decide_eq_false_iff_not, Bool.not_eq_eq_eq_not, Bool.not_true, add64]
      refine Wp.pos (by simp only [vLen]; omega) (Wp.pos ⟨h0, hi⟩ (Wp.ite (fun _ => Wp.now h0) (fun q => ih (by omega) (by omega) ?_)))
      rw [vGet_drop (d := 0) h0 hi] at h
      exact (List.mem_cons.1 h).resolve_left q
  refine Wp.step ?_
  simp only [slices_Contains_int64_int64_eq, vLt, vLe, vEq, vNot, inR, decide_eq_true_eq, Bool.not_eq_true', decide_eq_false_iff_not, Bool.not_eq_eq_eq_not, Bool.not_true]
  have ix : Wp (fun k => slices_Index_int64_int64 k l x) (fun r => 0 ≤ r) := by
    refine Wp.step ?_
    simp only [slices_Index_int64_int64_eq]
    exact lp l.length (by omega) (by omega) (by simpa using hx)
  exact Wp.call ix (fun r hr => Wp.now (decide_eq_true hr))
theorem iacc_wp {l : Nat} (hl : l ≤ 1000) {w : List Int} (hw : w ∈ words fin arcs l st) : Wp (fun k => impl_Accepts k S st fin arcs w) (fun r => r = true) := by
  have hwl := words_len hw
  refine Wp.step ?_
  simp only [impl_Accepts_eq, vLt, vLe, vEq, vNot, inR, decide_eq_true_eq, Bool.not_eq_true', decide_eq_false_iff_not, Bool.not_eq_eq_eq_not, Bool.not_true]
  refine Wp.val (val_wp g hf) (Wp.neg (by decide) ?_)
  have fo : Wp (fun k => impl_Grammar_follow k S st fin arcs w) (fun r => r.1 ∈ fin ∧ r.2 = (w.length : Int)) := by
    refine Wp.step ?_
    simp only [impl_Grammar_follow_eq]
    exact fol_wp g hf (by omega) l (by omega) (by omega) (by simpa using hw)
  refine Wp.call fo (fun r hr => Wp.pos hr.2 ?_)
  have fi : Wp (fun k => impl_Grammar_isFinal k S st fin arcs r.1) (fun r => r = true) := by
    refine Wp.step ?_
    simp only [impl_Grammar_isFinal_eq]
    exact Wp.call (cont_wp g hf hf hr.1) (fun q hq => Wp.now hq)
  exact Wp.call fi (fun q hq => Wp.now hq)
/-! ### the number -/
theorem mel_wp {n : Int} {t : List (List Int)} {w : List Int} (hn : n ≤ 6) (hwn : (w.length : Int) = n) (ht : TabOk S fin arcs (n + 1) t) : ∀ (l : Nat) {s acc i : Int} {k : Nat}, 0 ≤ i → i + l = n → 0 ≤ acc → acc + k ≤ 1000000000000000000 → (words fin arcs l s)[k]? = some (w.drop i.toNat) →
    Wp (fun f => impl_MelodyNumber_r10 f n t s acc w (vLen w) i S st fin arcs) (fun r => r = (acc + k, 0))
  | 0, s, acc, i, k, h0, hd, ha, hb, hk => by
    refine Wp.step ?_
    simp only [impl_MelodyNumber_r10_eq, vLt, vLe, vEq, vNot, inR, decide_eq_true_eq, Bool.not_eq_true', decide_eq_false_iff_not, Bool.not_eq_eq_eq_not, Bool.not_true]
    refine Wp.neg (by simp only [vLen]; omega) (Wp.now ?_)
    simp only [words] at hk
    split at hk
    · cases k with
      | zero => simp
      | succ m => simp at hk
    · simp at hk
  | l + 1, s, acc, i, k, h0, hd, ha, hb, hk => by
    have hi : i < (w.length : Int) := by omega
    have hlen := g.len
    dsimp only at hlen
    refine Wp.step ?_
    simp only [impl_MelodyNumber_r10_eq, vLt, vLe, vEq, vNot, inR, decide_eq_true_eq, Bool.not_eq_true', decide_eq_false_iff_not, Bool.not_eq_eq_eq_not, Bool.not_true]
    refine Wp.pos (by simp only [vLen]; omega) (Wp.pos ⟨h0, hi⟩ (Wp.val (arcsOf_wp hlen) ?_))
    have hL : (arcsF arcs s).length ≤ 256 := Nat.le_trans (List.length_filter_le _ _) hlen
    have hdrop := vGet_drop (d := (0 : Int)) h0 hi
    have lp : ∀ (d : Nat) {j acc : Int} {k : Nat}, 0 ≤ j → j + d = (arcsF arcs s).length → 0 ≤ acc → acc + k ≤ 1000000000000000000 → (((arcsF arcs s).drop j.toNat).flatMap fun a => (words fin arcs l a.2.2).map (a.2.1 :: ·))[k]? = some (vGet w i 0 :: w.drop (i + 1).toNat) →
        Wp (fun f => impl_MelodyNumber_r13 f n t s acc i (vGet w i 0) w (vLen w) i (arcsF arcs s) (vLen (arcsF arcs s)) j S st fin arcs) (fun r => r = (acc + k, 0)) := by
      intro d
      induction d with
      | zero =>
        intro j acc k hj hd ha hb hk
        rw [List.drop_eq_nil_of_le (by omega)] at hk
        simp at hk
      | succ d ih =>
        intro j acc k hj hd ha hb hk
        have hj2 : j < ((arcsF arcs s).length : Int) := by omega
        have hdj := vGet_drop (d := a0) hj hj2
        rw [hdj, List.flatMap_cons, List.getElem?_append, List.length_map] at hk
        have hm := arcsF_bd g (vGet_mem (d := a0) hj hj2)
        obtain ⟨q1, q2, q3⟩ := tab_get ht (l := (l : Int)) (s := (vGet (arcsF arcs s) j a0).2.2) (by omega) (by omega) hm.2.2.1 hm.2.2.2
        rw [Int.toNat_natCast] at q3
        have hpw := (arcsF_pair g s).sublist (List.drop_sublist j.toNat (arcsF arcs s))
        rw [hdj] at hpw
        have hpw := (List.pairwise_cons.1 hpw).1
        refine Wp.step ?_
        simp (disch := omega) only [impl_MelodyNumber_r13_eq, vLt, vLe, vEq, vNot, inR, decide_eq_true_eq, Bool.not_eq_true', decide_eq_false_iff_not, Bool.not_eq_eq_eq_not, Bool.not_true, add64, sub64]
        refine Wp.pos (by simp only [vLen]; omega) (Wp.pos ⟨hj, hj2⟩ (Wp.ite (fun h => ?_) (fun h => ?_)))
        · have h : (vGet (arcsF arcs s) j a0).2.1 = vGet w i 0 := h
          by_cases hkl : k < (words fin arcs l (vGet (arcsF arcs s) j a0).2.2).length
          · rw [if_pos hkl, List.getElem?_map, Option.map_eq_some_iff] at hk
            obtain ⟨w', hw', e⟩ := hk
            injection e with _ e2
            rw [e2] at hw'
            exact mel_wp hn hwn ht l (by omega) (by omega) ha hb hw'
          · rw [if_neg hkl] at hk
            have := List.mem_of_getElem? hk
            obtain ⟨b, hb', hx⟩ := List.mem_flatMap.1 this
            obtain ⟨x, _, e⟩ := List.mem_map.1 hx
            injection e with e1 _
            have := hpw b hb'
            omega
        · have h : ¬(vGet (arcsF arcs s) j a0).2.1 = vGet w i 0 := h
          have hkl : ¬ k < (words fin arcs l (vGet (arcsF arcs s) j a0).2.2).length := fun hkl => by
            rw [if_pos hkl, List.getElem?_map, Option.map_eq_some_iff] at hk
            obtain ⟨w', hw', e⟩ := hk
            injection e with e1 _
            exact h e1
          rw [if_neg hkl] at hk
          have eix : n - i - 1 = (l : Int) := by omega
          rw [eix]
          refine Wp.pos q1 (Wp.pos q2 ?_)
          change Wp (fun f => impl_MelodyNumber_r13 f n t s (wAdd .i64 acc (vGet (vGet t l []) (vGet (arcsF arcs s) j a0).2.2 0)) i (vGet w i 0) w (vLen w) i (arcsF arcs s) (vLen (arcsF arcs s)) (j + 1) S st fin arcs) _
          have hc := cnt_le (fin := fin) hlen (show l ≤ 6 by omega) (vGet (arcsF arcs s) j a0).2.2
          have hcn := cnt_nn (fin := fin) (arcs := arcs) (l := l) (s := (vGet (arcsF arcs s) j a0).2.2)
          rw [q3, add64 (by omega) (by omega)]
          refine (ih (k := k - (words fin arcs l (vGet (arcsF arcs s) j a0).2.2).length) (by omega) (by omega) (by omega) (by unfold cnt; omega) hk).mono fun r hr => ?_
          rw [hr]
          unfold cnt
          congr 1
          omega
    exact lp (arcsF arcs s).length (by omega) (by omega) ha hb (by rw [← hdrop]; simpa [words] using hk)
theorem number_wp {n : Int} (h0 : 0 ≤ n) (hn : n ≤ 5) {w : List Int} {k : Nat} (hk : (words fin arcs n.toNat st)[k]? = some w) : Wp (fun f => impl_MelodyNumber f S st fin arcs w) (fun r => r = ((k : Int), 0)) := by
  have hmem := List.mem_of_getElem? hk
  have hwl := words_len hmem
  have hlen := g.len
  dsimp only at hlen
  have hkl := (List.getElem?_eq_some_iff.1 hk).1
  have hcl := cnt_le (fin := fin) hlen (show n.toNat ≤ 6 by omega) st
  unfold cnt at hcl
  have en : vLen w = n := by simp only [vLen]; omega
  refine Wp.step ?_
  simp only [impl_MelodyNumber_eq, vLt, vLe, vEq, vNot, inR, decide_eq_true_eq, Bool.not_eq_true', decide_eq_false_iff_not, Bool.not_eq_eq_eq_not, Bool.not_true]
  refine Wp.val (val_wp g hf) (Wp.neg (by decide) (Wp.neg (by omega) (Wp.val (iacc_wp g hf (by omega) hmem) (Wp.neg (by decide) ?_))))
  rw [en]
  refine Wp.call (counts_wp g h0 hn) (fun t ht => ?_)
  have := mel_wp g hf (n := n) (w := w) (by omega) (by omega) ht n.toNat (s := st) (acc := 0) (i := 0) (k := k) (by omega) (by omega) (by omega) (by omega) (by simpa using hk)
  rw [en] at this
  simpa using this
end
end Go.Proofs.Ytojmfjhbfcnecaa.F
