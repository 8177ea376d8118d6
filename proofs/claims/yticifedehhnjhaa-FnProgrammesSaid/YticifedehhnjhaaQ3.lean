/- Items that fit; orders and their ends. -/
import Derived.Test.YticifedehhnjhaaQ2
namespace Go.Proofs.Yticifedehhnjhaa.F
open Go Go.Proofs.Yticifedehhnjhaa.Eng
set_option linter.unusedSimpArgs false
set_option linter.unusedVariables false
set_option maxRecDepth 100000
theorem it0_eq : ((⟨#[]⟩ : ByteArray), (0 : Int), (0 : Int), (0 : Int), (0 : Int), (0 : Int)) = it0 := rfl
def FitQ (season q : Int) (x : It) : Prop := (x.2.2.2.1 = -1 ∨ x.2.2.2.1 = season) ∧ (x.2.1 < x.2.2.1 → x.2.1 ≤ q ∧ q < x.2.2.1) ∧ (¬ x.2.1 < x.2.2.1 → x.2.1 ≤ q ∨ q < x.2.2.1)
theorem fits_wp {x : It} {q season : Int} : Wp (fun k => impl_Item_fits k x.1 x.2.1 x.2.2.1 x.2.2.2.1 x.2.2.2.2.1 x.2.2.2.2.2 q season) (fun r => r = true ↔ FitQ season q x) := by
  have tail : (x.2.2.2.1 = -1 ∨ x.2.2.2.1 = season) → Wp (fun k => impl_Item_fits_r3 k q x.1 x.2.1 x.2.2.1 x.2.2.2.1 x.2.2.2.2.1 x.2.2.2.2.2) (fun r => r = true ↔ FitQ season q x) := fun hs => by
    refine Wp.step ?_
    simp only [impl_Item_fits_r3_eq, vLt, vLe, vEq, vNot, inR, decide_eq_true_eq, Bool.not_eq_true', decide_eq_false_iff_not, Bool.not_eq_eq_eq_not, Bool.not_true]
    unfold FitQ
    refine Wp.ite (fun h1 => Wp.ite (fun h2 => Wp.now ?_) (fun h2 => Wp.now ?_)) (fun h1 => Wp.ite (fun h2 => Wp.now ?_) (fun h2 => Wp.now ?_)) <;> simp only [h1, h2, hs, decide_eq_true_eq, true_and, false_or, or_false, not_true, not_false_eq_true, forall_const, false_imp_iff, and_true, true_or, Bool.false_eq_true, false_and]
  refine Wp.step ?_
  simp only [impl_Item_fits_eq, vLt, vLe, vEq, vNot, inR, decide_eq_true_eq, Bool.not_eq_true', decide_eq_false_iff_not, Bool.not_eq_eq_eq_not, Bool.not_true]
  refine Wp.ite (fun h1 => Wp.ite (fun h2 => Wp.now ⟨fun e => (by cases e), fun q => ?_⟩) (fun h2 => tail (.inr (by simpa using h2)))) (fun h1 => tail (.inl (by simpa using h1)))
  rcases q.1 with e | e
  · exact absurd e (by simpa using h1)
  · exact absurd e (by simpa using h2)
theorem sfits_wp {x : It} (hx : VIt x) {m season : Int} (hs : 0 ≤ season) : Wp (fun k => spec_l08Fits k x m season) (fun r => r = true ↔ FitQ season (vRem m 1440) x) := by
  have tail : (x.2.2.2.1 = -1 ∨ x.2.2.2.1 = season) → Wp (fun k => spec_l08Fits_r4 k x (vRem m 1440)) (fun r => r = true ↔ FitQ season (vRem m 1440) x) := fun hs => by
    refine Wp.step ?_
    simp only [spec_l08Fits_r4_eq, vLt, vLe, vEq, vNot, inR, decide_eq_true_eq, Bool.not_eq_true', decide_eq_false_iff_not, Bool.not_eq_eq_eq_not, Bool.not_true]
    unfold FitQ
    refine Wp.ite (fun h1 => Wp.ite (fun h2 => Wp.now ?_) (fun h2 => Wp.now ?_)) (fun h1 => Wp.ite (fun h2 => Wp.now ?_) (fun h2 => Wp.now ?_)) <;> simp only [h1, h2, hs, decide_eq_true_eq, true_and, false_or, or_false, not_true, not_false_eq_true, forall_const, false_imp_iff, and_true, true_or, Bool.false_eq_true, false_and]
  refine Wp.step ?_
  simp only [spec_l08Fits_eq, vLt, vLe, vEq, vNot, inR, decide_eq_true_eq, Bool.not_eq_true', decide_eq_false_iff_not, Bool.not_eq_eq_eq_not, Bool.not_true]
  have h5 := hx.2.2.2.2.1
  refine Wp.neg (by decide) (Wp.ite (fun h1 => Wp.ite (fun h2 => Wp.now ⟨fun e => (by cases e), fun q => ?_⟩) (fun h2 => tail (.inr (by simpa using h2)))) (fun h1 => tail (.inl (by omega))))
  rcases q.1 with e | e
  · omega
  · exact absurd e (by simpa using h2)
/-! ### a number in a row -/
theorem index_wp {L : List Int} (hL : L.length ≤ 100000) {x : Int} : ∀ (d : Nat) {i : Int}, 0 ≤ i → i + d = L.length → Wp (fun k => slices_Index_int64_int64_r2 k L x (vLen L) i) (fun r => 0 ≤ r ↔ x ∈ L.drop i.toNat)
  | 0, i, h0, hd => by
    refine Wp.step ?_
    simp only [slices_Index_int64_int64_r2_eq, vLt, vLe, vEq, vNot, inR, decide_eq_true_eq, Bool.not_eq_true', decide_eq_false_iff_not, Bool.not_eq_eq_eq_not, Bool.not_true]
    refine Wp.neg (by simp only [vLen]; omega) (Wp.now ?_)
    rw [List.drop_eq_nil_of_le (by omega)]
    simp
  | d + 1, i, h0, hd => by
    have hi : i < (L.length : Int) := by omega
    refine Wp.step ?_
    simp (disch := omega) only [slices_Index_int64_int64_r2_eq, vLt, vLe, vEq, vNot, inR, decide_eq_true_eq, Bool.not_eq_true', decide_eq_false_iff_not, Bool.not_eq_eq_eq_not, Bool.not_true, add64]
    refine Wp.pos (by simp only [vLen]; omega) (Wp.pos ⟨h0, hi⟩ ?_)
    rw [vGet_drop (d := 0) h0 hi]
    refine Wp.ite (fun h => Wp.now ?_) (fun h => (index_wp hL d (i := i + 1) (by omega) (by omega)).mono fun r hr => ?_)
    · simp [h, h0]
    · rw [hr, List.mem_cons]; exact ⟨.inr, fun q => q.resolve_left h⟩
theorem contains_wp {L : List Int} (hL : L.length ≤ 100000) {x : Int} : Wp (fun k => slices_Contains_int64_int64 k L x) (fun r => r = true ↔ x ∈ L) := by
  refine Wp.step ?_
  simp only [slices_Contains_int64_int64_eq, vLt, vLe, vEq, vNot, inR, decide_eq_true_eq, Bool.not_eq_true', decide_eq_false_iff_not, Bool.not_eq_eq_eq_not, Bool.not_true]
  have ix : Wp (fun k => slices_Index_int64_int64 k L x) (fun r => 0 ≤ r ↔ x ∈ L) := by
    refine Wp.step ?_
    simp only [slices_Index_int64_int64_eq]
    exact index_wp hL L.length (by omega) (by omega)
  exact Wp.call ix (fun r hr => Wp.now (by simpa using hr))
theorem has_wp {L : List Int} (hL : L.length ≤ 100000) {x : Int} : Wp (fun k => spec_l00Has k L x) (fun r => r = true ↔ x ∈ L) := by
  have lp : ∀ (d : Nat) {i : Int}, 0 ≤ i → i + d = L.length → Wp (fun k => spec_l00Has_r2 k L x i) (fun r => r = true ↔ x ∈ L.drop i.toNat) := by
    intro d
    induction d with
    | zero =>
      intro i h0 hd
      refine Wp.step ?_
      simp only [spec_l00Has_r2_eq, vLt, vLe, vEq, vNot, inR, decide_eq_true_eq, Bool.not_eq_true', decide_eq_false_iff_not, Bool.not_eq_eq_eq_not, Bool.not_true]
      refine Wp.neg (by simp only [vLen]; omega) (Wp.now ?_)
      rw [List.drop_eq_nil_of_le (by omega)]
      simp
    | succ d ih =>
      intro i h0 hd
      have hi : i < (L.length : Int) := by omega
      refine Wp.step ?_
      simp (disch := omega) only [spec_l00Has_r2_eq, vLt, vLe, vEq, vNot, inR, decide_eq_true_eq, Bool.not_eq_true', decide_eq_false_iff_not, Bool.not_eq_eq_eq_not, Bool.not_true, add64]
      refine Wp.pos (by simp only [vLen]; omega) (Wp.pos ⟨h0, hi⟩ ?_)
      rw [vGet_drop (d := 0) h0 hi]
      refine Wp.ite (fun h => Wp.now ?_) (fun h => (ih (i := i + 1) (by omega) (by omega)).mono fun r hr => ?_)
      · simp [h]
      · rw [hr, List.mem_cons]; exact ⟨.inr, fun q => q.resolve_left fun e => h e.symm⟩
  refine Wp.step ?_
  simp only [spec_l00Has_eq]
  exact lp L.length (by omega) (by omega)
theorem not_mem_cut {L : List Int} (hn : L.Nodup) {i : Int} (h0 : 0 ≤ i) (h1 : i < L.length) : vGet L i 0 ∉ cut L 0 i := by
  rw [vGet_get h0 h1]
  intro h
  simp only [cut, Int.toNat_zero, List.drop_zero] at h
  obtain ⟨j, hj, e⟩ := List.mem_take_iff_getElem.1 h
  have := (List.nodup_iff_pairwise_ne.1 hn)
  rw [List.pairwise_iff_getElem] at this
  exact this j i.toNat (by omega) (by omega) (by omega) e
def InR (n : Nat) (o : List Int) : Prop := ∀ i ∈ o, 0 ≤ i ∧ i < (n : Int)
theorem cut_le {L : List Int} {i : Int} : (cut L 0 i).length ≤ L.length := by
  simp only [cut, Int.toNat_zero, List.drop_zero, List.length_take]; omega
theorem order_wp {l : List It} {o : List Int} (hl : l.length ≤ 12) (ho : o.length ≤ 2000) (hr : InR l.length o) (hn : o.Nodup) : Wp (fun k => impl_orderOk_impl_Item k l o) (fun r => r = true) := by
  have lp : ∀ (d : Nat) {i : Int}, 0 ≤ i → i + d = o.length → Wp (fun k => impl_orderOk_impl_Item_r2 k l o o (vLen o) i) (fun r => r = true) := by
    intro d
    induction d with
    | zero =>
      intro i h0 hd
      refine Wp.step ?_
      simp only [impl_orderOk_impl_Item_r2_eq, vLt, vLe, vEq, vNot, inR, decide_eq_true_eq, Bool.not_eq_true', decide_eq_false_iff_not, Bool.not_eq_eq_eq_not, Bool.not_true]
      exact Wp.neg (by simp only [vLen]; omega) (Wp.now rfl)
    | succ d ih =>
      intro i h0 hd
      have hi : i < (o.length : Int) := by omega
      refine Wp.step ?_
      simp (disch := omega) only [impl_orderOk_impl_Item_r2_eq, vLt, vLe, vEq, vNot, inR, decide_eq_true_eq, Bool.not_eq_true', decide_eq_false_iff_not, Bool.not_eq_eq_eq_not, Bool.not_true, add64, cutOk]
      have ix : Wp (fun k => impl_indexValid_impl_Item k l (vGet o i 0)) (fun r => r = true) := by
        refine Wp.step ?_
        have := hr _ (vGet_mem (d := 0) h0 hi)
        simp (disch := first | omega | (simp only [vLen]; omega)) only [impl_indexValid_impl_Item_eq, sub64]
        exact Wp.call within_wp (fun r h => Wp.now (h.2 ⟨this.1, by simp only [vLen]; omega⟩))
      refine Wp.pos (by simp only [vLen]; omega) (Wp.pos ⟨h0, hi⟩ (Wp.call ix (fun r h => Wp.neg (by rw [h]; decide) (Wp.pos ⟨by omega, h0, by simp only [vLen]; omega⟩ (Wp.call (contains_wp (by have := @cut_le o i; omega)) (fun r h => Wp.neg (fun e => not_mem_cut hn h0 hi (h.1 e)) (ih (by omega) (by omega))))))))
  refine Wp.step ?_
  simp only [impl_orderOk_impl_Item_eq]
  exact lp o.length (by omega) (by omega)
theorem sorder_wp {l : List It} {o : List Int} (hl : l.length ≤ 12) (ho : o.length ≤ 2000) (hr : InR l.length o) (hn : o.Nodup) : Wp (fun k => spec_l08Order k l o) (fun r => r = true) := by
  have lp : ∀ (d : Nat) {i : Int}, 0 ≤ i → i + d = o.length → Wp (fun k => spec_l08Order_r2 k l o i) (fun r => r = true) := by
    intro d
    induction d with
    | zero =>
      intro i h0 hd
      refine Wp.step ?_
      simp only [spec_l08Order_r2_eq, vLt, vLe, vEq, vNot, inR, decide_eq_true_eq, Bool.not_eq_true', decide_eq_false_iff_not, Bool.not_eq_eq_eq_not, Bool.not_true]
      exact Wp.neg (by simp only [vLen]; omega) (Wp.now rfl)
    | succ d ih =>
      intro i h0 hd
      have hi : i < (o.length : Int) := by omega
      have := hr _ (vGet_mem (d := 0) h0 hi)
      refine Wp.step ?_
      simp (disch := first | omega | (simp only [vLen]; omega)) only [spec_l08Order_r2_eq, vLt, vLe, vEq, vNot, inR, decide_eq_true_eq, Bool.not_eq_true', decide_eq_false_iff_not, Bool.not_eq_eq_eq_not, Bool.not_true, add64, sub64, cutOk]
      refine Wp.pos (by simp only [vLen]; omega) (Wp.pos ⟨h0, hi⟩ (Wp.call in_wp (fun r h => Wp.neg (by rw [h.2 ⟨this.1, by simp only [vLen]; omega⟩]; decide) (Wp.pos ⟨by omega, h0, by simp only [vLen]; omega⟩ (Wp.pos ⟨h0, hi⟩ (Wp.call (has_wp (by have := @cut_le o i; omega)) (fun r h => Wp.neg (fun e => not_mem_cut hn h0 hi (h.1 e)) (ih (by omega) (by omega)))))))))
  refine Wp.step ?_
  simp only [spec_l08Order_eq]
  exact lp o.length (by omega) (by omega)
/-! ### how an order ends -/
open Classical in
noncomputable def run (l : List It) (season : Int) : Int → List Int → Option Int
  | m, [] => some m
  | m, i :: o => if FitQ season (vRem m 1440) (vGet l i it0) then run l season (m + (vGet l i it0).2.2.2.2.1) o else none
def sum (l : List It) : List Int → Int
  | [] => 0
  | i :: o => (vGet l i it0).2.2.2.2.2 + sum l o
theorem VL.at {l : List It} (h : VL l) {i : Int} (h0 : 0 ≤ i) (h1 : i < (l.length : Int)) : VIt (vGet l i it0) := (h.2 i h0 h1).1
theorem run_app {l : List It} {season : Int} : ∀ {o : List Int} {m : Int} {i : Int}, run l season m (o ++ [i]) = (run l season m o).bind fun e => run l season e [i]
  | [], m, i => by simp [run]
  | j :: o, m, i => by
    simp only [List.cons_append, run]
    split
    · exact run_app
    · rfl
theorem sum_app {l : List It} : ∀ {o : List Int} {i : Int}, sum l (o ++ [i]) = sum l o + (vGet l i it0).2.2.2.2.2
  | [], i => by simp [sum]
  | j :: o, i => by simp only [List.cons_append, sum, sum_app]; omega
theorem run_low {l : List It} (hv : VL l) {season : Int} : ∀ {o : List Int} {m e : Int}, InR l.length o → run l season m o = some e → m + o.length ≤ e ∧ e ≤ m + 240 * o.length
  | [], m, e, _, h => by simp only [run, Option.some.injEq] at h; subst h; simp
  | j :: o, m, e, hr, h => by
    simp only [run] at h
    split at h
    · have := run_low hv (fun i hi => hr i (List.mem_cons_of_mem _ hi)) h
      have h2 := (hv.at (hr j (by simp)).1 (hr j (by simp)).2).2.2.2.2.2.1
      simp only [List.length_cons]
      omega
    · cases h
theorem sum_low {l : List It} (hv : VL l) : ∀ {o : List Int}, InR l.length o → 0 ≤ sum l o ∧ sum l o ≤ 1000 * o.length
  | [], _ => by simp [sum]
  | j :: o, hr => by
    have := sum_low hv (o := o) (fun i hi => hr i (List.mem_cons_of_mem _ hi))
    have h2 := (hv.at (hr j (by simp)).1 (hr j (by simp)).2).2.2.2.2.2.2
    simp only [sum, List.length_cons]
    omega
def EndR (x : Option Int) (r : Int × Bool) : Prop := (r.2 = true → x = some r.1) ∧ ∀ e, x = some e → r = (e, true)
theorem end_wp {l : List It} (hv : VL l) {o : List Int} (ho : o.length ≤ 2000) (hr : InR l.length o) {season m : Int} (h0 : 0 ≤ m) (h1 : m ≤ 5000) : Wp (fun k => impl_endOf k l o m season) (EndR (run l season m o)) := by
  have lp : ∀ (d : Nat) {i m : Int}, 0 ≤ i → i + d = o.length → 0 ≤ m → m + 300 * d ≤ 1000000 → Wp (fun k => impl_endOf_r2 k l m season o (vLen o) i) (EndR (run l season m (o.drop i.toNat))) := by
    intro d
    induction d with
    | zero =>
      intro i m h0 hd _ _
      refine Wp.step ?_
      simp only [impl_endOf_r2_eq, vLt, vLe, vEq, vNot, inR, decide_eq_true_eq, Bool.not_eq_true', decide_eq_false_iff_not, Bool.not_eq_eq_eq_not, Bool.not_true]
      refine Wp.neg (by simp only [vLen]; omega) (Wp.now ?_)
      rw [List.drop_eq_nil_of_le (by omega)]
      exact ⟨fun _ => rfl, fun e h => by simp only [run, Option.some.injEq] at h; rw [h]⟩
    | succ d ih =>
      intro i m h0 hd hm hb
      have hi : i < (o.length : Int) := by omega
      have hj := hr _ (vGet_mem (d := 0) h0 hi)
      have hx := (hv.at hj.1 hj.2).2.2.2.2.2.1
      rw [vGet_drop (d := 0) h0 hi]
      refine Wp.step ?_
      simp (disch := omega) only [impl_endOf_r2_eq, vLt, vLe, vEq, vNot, inR, decide_eq_true_eq, Bool.not_eq_true', decide_eq_false_iff_not, Bool.not_eq_eq_eq_not, Bool.not_true, it0_eq, add64, run]
      refine Wp.pos (by simp only [vLen]; omega) (Wp.pos ⟨h0, hi⟩ (Wp.pos hj (Wp.neg (by decide) (Wp.call fits_wp (fun r h => Wp.ite (fun e => Wp.now ?_) (fun e => Wp.pos hj ?_))))))
      · have : ¬ FitQ season (vRem m 1440) (vGet l (vGet o i 0) it0) := fun q => by rw [h.2 q] at e; cases e
        rw [if_neg this]
        exact ⟨fun e => (by cases e), fun e h => (by cases h)⟩
      · have : FitQ season (vRem m 1440) (vGet l (vGet o i 0) it0) := h.1 (by simpa using e)
        rw [if_pos this]
        exact ih (by omega) (by omega) (by omega) (by omega)
  refine Wp.step ?_
  simp only [impl_endOf_eq]
  exact lp o.length (by omega) (by omega) h0 (by omega)
theorem send_wp {l : List It} (hv : VL l) {o : List Int} (ho : o.length ≤ 2000) (hr : InR l.length o) {season m : Int} (hs : 0 ≤ season) (h0 : 0 ≤ m) (h1 : m ≤ 5000) : Wp (fun k => spec_l08End k l o m season) (EndR (run l season m o)) := by
  have lp : ∀ (d : Nat) {i m : Int}, 0 ≤ i → i + d = o.length → 0 ≤ m → m + 300 * d ≤ 1000000 → Wp (fun k => spec_l08End_r3 k l o season m i) (EndR (run l season m (o.drop i.toNat))) := by
    intro d
    induction d with
    | zero =>
      intro i m h0 hd _ _
      refine Wp.step ?_
      simp only [spec_l08End_r3_eq, vLt, vLe, vEq, vNot, inR, decide_eq_true_eq, Bool.not_eq_true', decide_eq_false_iff_not, Bool.not_eq_eq_eq_not, Bool.not_true]
      refine Wp.neg (by simp only [vLen]; omega) (Wp.now ?_)
      rw [List.drop_eq_nil_of_le (by omega)]
      exact ⟨fun _ => rfl, fun e h => by simp only [run, Option.some.injEq] at h; rw [h]⟩
    | succ d ih =>
      intro i m h0 hd hm hb
      have hi : i < (o.length : Int) := by omega
      have hj := hr _ (vGet_mem (d := 0) h0 hi)
      have hx := (hv.at hj.1 hj.2).2.2.2.2.2.1
      rw [vGet_drop (d := 0) h0 hi]
      refine Wp.step ?_
      simp (disch := omega) only [spec_l08End_r3_eq, vLt, vLe, vEq, vNot, inR, decide_eq_true_eq, Bool.not_eq_true', decide_eq_false_iff_not, Bool.not_eq_eq_eq_not, Bool.not_true, it0_eq, add64, run]
      refine Wp.pos (by simp only [vLen]; omega) (Wp.pos ⟨h0, hi⟩ (Wp.pos hj (Wp.call (sfits_wp (hv.at hj.1 hj.2) hs) (fun r h => Wp.ite (fun e => Wp.now ?_) (fun e => ?_)))))
      · have : ¬ FitQ season (vRem m 1440) (vGet l (vGet o i 0) it0) := fun q => by rw [h.2 q] at e; cases e
        rw [if_neg this]
        exact ⟨fun e => (by cases e), fun e h => (by cases h)⟩
      · have : FitQ season (vRem m 1440) (vGet l (vGet o i 0) it0) := h.1 (by simpa using e)
        rw [if_pos this]
        exact ih (by omega) (by omega) (by omega) (by omega)
  refine Wp.step ?_
  simp only [spec_l08End_eq]
  exact lp o.length (by omega) (by omega) h0 (by omega)
theorem worth_wp {l : List It} (hv : VL l) {o : List Int} (ho : o.length ≤ 2000) (hr : InR l.length o) (hn : o.Nodup) : Wp (fun k => impl_WorthOf k l o) (fun r => r = (sum l o, 0)) := by
  have lp : ∀ (d : Nat) {i w : Int}, 0 ≤ i → i + d = o.length → 0 ≤ w → w + 1000 * d ≤ 10000000 → Wp (fun k => impl_WorthOf_r7 k l w o (vLen o) i) (fun r => r = (w + sum l (o.drop i.toNat), 0)) := by
    intro d
    induction d with
    | zero =>
      intro i m h0 hd _ _
      refine Wp.step ?_
      simp only [impl_WorthOf_r7_eq, vLt, vLe, vEq, vNot, inR, decide_eq_true_eq, Bool.not_eq_true', decide_eq_false_iff_not, Bool.not_eq_eq_eq_not, Bool.not_true]
      refine Wp.neg (by simp only [vLen]; omega) (Wp.now ?_)
      rw [List.drop_eq_nil_of_le (by omega)]
      simp [sum]
    | succ d ih =>
      intro i m h0 hd hm hb
      have hi : i < (o.length : Int) := by omega
      have hj := hr _ (vGet_mem (d := 0) h0 hi)
      have hx := (hv.at hj.1 hj.2).2.2.2.2.2.2
      rw [vGet_drop (d := 0) h0 hi]
      refine Wp.step ?_
      simp (disch := omega) only [impl_WorthOf_r7_eq, vLt, vLe, vEq, vNot, inR, decide_eq_true_eq, Bool.not_eq_true', decide_eq_false_iff_not, Bool.not_eq_eq_eq_not, Bool.not_true, it0_eq, add64, sum]
      refine Wp.pos (by simp only [vLen]; omega) (Wp.pos ⟨h0, hi⟩ (Wp.pos hj ((ih (by omega) (by omega) (by omega) (by omega)).mono fun r h => ?_)))
      rw [h, Int.add_assoc]
  refine Wp.step ?_
  simp only [impl_WorthOf_eq, vLt, vLe, vEq, vNot, inR, decide_eq_true_eq, Bool.not_eq_true', decide_eq_false_iff_not, Bool.not_eq_eq_eq_not, Bool.not_true]
  refine Wp.call items_wp (fun r h => Wp.neg (by rw [h.2 hv]; decide) (Wp.call (order_wp hv.1 ho hr hn) (fun r h => Wp.neg (by rw [h]; decide) ((lp o.length (by omega) (by omega) (by omega) (by omega)).mono fun r h => ?_))))
  rw [h]; simp
end Go.Proofs.Yticifedehhnjhaa.F
