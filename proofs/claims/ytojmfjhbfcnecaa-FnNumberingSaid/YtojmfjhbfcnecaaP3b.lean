/- Grammars that are drawn are valid. -/
import Derived.Test.YtojmfjhbfcnecaaP3
namespace Go.Proofs.Ytojmfjhbfcnecaa.F
open Go Go.Proofs.Ytojmfjhbfcnecaa.Eng
set_option linter.unusedSimpArgs false
set_option linter.unusedVariables false
set_option maxRecDepth 100000
section
variable {nm : ByteArray} {up dn : List Int} {st wk : Int} {fb : List (List Int)}
variable {l : List Int} (hl : l.length ≤ 100) (hx : ∀ x ∈ l, -100 ≤ x ∧ x ≤ 100) (hu : up.length ≤ 1000000) (hd : dn.length ≤ 1000000) (hf : fb.length ≤ 1000000) (hp : ∀ p ∈ fb, p.length = 2)
include hl hx hu hd hf hp
theorem of18_wp {c0 c1 : Int} {c2 : List Int} {c3 : List Arc} {S s0 : Int} {fin : List Int} {Q : Int × Int × List Int × List Arc × ByteArray × List Int × List Int × Int × Int × List (List Int) → Prop} {i : Int} (hi : 0 ≤ i ∧ i < l.length) (next : ∀ arcs : List Arc, arcs.length ≤ 1000 + 1000 * (i + 1) → Wp (fun k => spec_l07Of_r15 k l (i + 1) nm up dn st wk fb c0 c1 c2 c3 S s0 fin arcs) Q) :
    ∀ (e : Nat) {j : Int} {arcs : List Arc}, 0 ≤ j → j + e = l.length → (arcs.length : Int) ≤ 1000 + 1000 * i + j → Wp (fun k => spec_l07Of_r18 k l i j nm up dn st wk fb c0 c1 c2 c3 S s0 fin arcs) Q
  | 0, j, arcs, h0, he, ha => by
    refine Wp.step ?_
    simp (disch := omega) only [spec_l07Of_r18_eq, vLt, vLe, vEq, vNot, inR, decide_eq_true_eq, Bool.not_eq_true', decide_eq_false_iff_not, Bool.not_eq_eq_eq_not, Bool.not_true, add64]
    exact Wp.neg (by simp only [vLen]; omega) (next arcs (by omega))
  | e + 1, j, arcs, h0, he, ha => by
    have hj : j < (l.length : Int) := by omega
    refine Wp.step ?_
    simp (disch := omega) only [spec_l07Of_r18_eq, vLt, vLe, vEq, vNot, inR, decide_eq_true_eq, Bool.not_eq_true', decide_eq_false_iff_not, Bool.not_eq_eq_eq_not, Bool.not_true, add64]
    have b1 := hx _ (vGet_mem (d := 0) hi.1 hi.2)
    have b2 := hx _ (vGet_mem (d := 0) h0 hj)
    refine Wp.pos hj (Wp.pos hi (Wp.pos ⟨h0, hj⟩ (Wp.call (reason_wp hu hd hf hp (by omega) (by omega)) (fun r hr => ?_))))
    rw [hr.2]
    refine Wp.ite (fun _ => Wp.pos ⟨h0, hj⟩ (Wp.pos (app_ok (by simp [vLen]) (by simp only [vLen]; omega) (by omega)) ?_)) (fun _ => ?_)
    · exact of18_wp hi next e (by omega) (by omega) (by simp only [vApp, List.length_append, List.length_singleton]; omega)
    · exact of18_wp hi next e (by omega) (by omega) (by omega)
theorem of15_wp {c0 c1 : Int} {c2 : List Int} {c3 : List Arc} {S s0 : Int} {fin : List Int} : ∀ (e : Nat) {i : Int} {arcs : List Arc}, 0 ≤ i → i + e = l.length → (arcs.length : Int) ≤ 1000 + 1000 * i → Wp (fun k => spec_l07Of_r15 k l i nm up dn st wk fb c0 c1 c2 c3 S s0 fin arcs) (fun r => r.1 = S ∧ r.2.2.1 = fin)
  | 0, i, arcs, h0, he, ha => by
    refine Wp.step ?_
    simp only [spec_l07Of_r15_eq, vLt, vLe, vEq, vNot, inR, decide_eq_true_eq, Bool.not_eq_true', decide_eq_false_iff_not, Bool.not_eq_eq_eq_not, Bool.not_true]
    exact Wp.neg (by simp only [vLen]; omega) (Wp.now ⟨rfl, rfl⟩)
  | e + 1, i, arcs, h0, he, ha => by
    refine Wp.step ?_
    simp only [spec_l07Of_r15_eq, vLt, vLe, vEq, vNot, inR, decide_eq_true_eq, Bool.not_eq_true', decide_eq_false_iff_not, Bool.not_eq_eq_eq_not, Bool.not_true]
    exact Wp.pos (by simp only [vLen]; omega) (of18_wp hl hx hu hd hf hp ⟨h0, by omega⟩ (fun arcs' h => of15_wp e (by omega) (by omega) h) l.length (by omega) (by omega) (by omega))
theorem of9_wp {c0 c1 : Int} {c2 : List Int} {c3 : List Arc} {S s0 : Int} : ∀ (e : Nat) {i : Int} {fin : List Int} {arcs : List Arc}, 0 ≤ i → i + e = l.length → (arcs.length : Int) ≤ i → (fin.length : Int) ≤ i → Wp (fun k => spec_l07Of_r9 k l i nm up dn st wk fb c0 c1 c2 c3 S s0 fin arcs) (fun r => r.1 = S ∧ r.2.2.1.length ≤ 1000)
  | 0, i, fin, arcs, h0, he, ha, hn => by
    refine Wp.step ?_
    simp only [spec_l07Of_r9_eq, vLt, vLe, vEq, vNot, inR, decide_eq_true_eq, Bool.not_eq_true', decide_eq_false_iff_not, Bool.not_eq_eq_eq_not, Bool.not_true]
    exact Wp.neg (by simp only [vLen]; omega) ((of15_wp hl hx hu hd hf hp l.length (by omega) (by omega) (by omega)).mono fun r h => ⟨h.1, by rw [h.2]; omega⟩)
  | e + 1, i, fin, arcs, h0, he, ha, hn => by
    have hj : i < (l.length : Int) := by omega
    refine Wp.step ?_
    simp (disch := omega) only [spec_l07Of_r9_eq, vLt, vLe, vEq, vNot, inR, decide_eq_true_eq, Bool.not_eq_true', decide_eq_false_iff_not, Bool.not_eq_eq_eq_not, Bool.not_true, add64]
    refine Wp.pos hj (Wp.pos ⟨h0, hj⟩ (Wp.pos (app_ok (by simp [vLen]) (by simp only [vLen]; omega) (by omega)) (Wp.pos ⟨h0, hj⟩ (Wp.val tone_wp ?_))))
    refine Wp.ite (fun _ => Wp.pos (app_ok (by simp [vLen]) (by simp only [vLen]; omega) (by omega)) ?_) (fun _ => ?_)
    · exact of9_wp e (by omega) (by omega) (by simp only [vApp, List.length_append, List.length_singleton]; omega) (by simp only [vApp, List.length_append, List.length_singleton]; omega)
    · exact of9_wp e (by omega) (by omega) (by simp only [vApp, List.length_append, List.length_singleton]; omega) (by omega)
end
section
variable {nm : ByteArray} {up dn : List Int} {st wk : Int} {fb : List (List Int)}
variable (hu : up.length ≤ 1000000) (hd : dn.length ≤ 1000000) (hf : fb.length ≤ 1000000) (hp : ∀ p ∈ fb, p.length = 2)
include hu hd hf hp
theorem of3_wp {c0 c1 : Int} {c2 : List Int} {c3 : List Arc} {hi : Int} (hh : hi ≤ 60) : ∀ (e : Nat) {p : Int} {l : List Int}, -20 ≤ p → (p + e = hi + 1 ∨ e = 0 ∧ hi < p) → (l.length : Int) ≤ p + 20 → (l.length : Int) ≤ 90 → (∀ x ∈ l, -100 ≤ x ∧ x ≤ 100) → Wp (fun k => spec_l07Of_r3 k hi l p nm up dn st wk fb c0 c1 c2 c3) (fun r => 0 ≤ r.1 ∧ r.1 ≤ 1000 ∧ r.2.2.1.length ≤ 1000)
  | 0, p, l, h0, he, hn, hn2, hx => by
    refine Wp.step ?_
    simp only [spec_l07Of_r3_eq, vLt, vLe, vEq, vNot, inR, decide_eq_true_eq, Bool.not_eq_true', decide_eq_false_iff_not, Bool.not_eq_eq_eq_not, Bool.not_true]
    refine Wp.neg (by omega) ((of9_wp (by omega) hx hu hd hf hp l.length (by omega) (by omega) (by simp) (by simp)).mono fun r h => ?_)
    rw [add64 (by simp only [vLen]; omega) (by simp only [vLen]; omega)] at h
    simp only [vLen] at h
    omega
  | e + 1, p, l, h0, he, hn, hn2, hx => by
    refine Wp.step ?_
    simp (disch := omega) only [spec_l07Of_r3_eq, vLt, vLe, vEq, vNot, inR, decide_eq_true_eq, Bool.not_eq_true', decide_eq_false_iff_not, Bool.not_eq_eq_eq_not, Bool.not_true, add64]
    refine Wp.pos (by omega) (Wp.val tone_wp (Wp.call (rtone_wp hu hd) (fun r hr => ?_)))
    rw [hr.2]
    refine Wp.ite (fun _ => Wp.pos (app_ok (by simp [vLen]) (by simp only [vLen]; omega) (by omega)) ?_) (fun _ => ?_)
    · refine of3_wp hh e (by omega) (by omega) (by simp only [vApp, List.length_append, List.length_singleton]; omega) (by simp only [vApp, List.length_append, List.length_singleton]; omega) (fun x hx' => ?_)
      rcases List.mem_append.1 hx' with h | h
      · exact hx x h
      · simp at h; omega
    · exact of3_wp hh e (by omega) (by omega) (by omega) hn2 hx
end
/-! ### a grammar of its own -/
theorem get_app_lt {α : Type} {l : List α} {x d : α} {i : Int} (h0 : 0 ≤ i) (h1 : i < l.length) : vGet (vApp l [x]) i d = vGet l i d := by
  simp only [vGet, vApp, List.getD_eq_getElem?_getD]
  rw [List.getElem?_append_left (by omega)]
theorem get_app_eq {α : Type} {l : List α} {x d : α} {i : Int} (h : i = l.length) : vGet (vApp l [x]) i d = x := by
  subst h
  simp [vGet, vApp, List.getD_eq_getElem?_getD]
theorem len_app {α : Type} {l : List α} {x : α} : ((vApp l [x]).length : Int) = l.length + 1 := by simp [vApp]
structure FinI (S k : Int) (fin : List Int) : Prop where
  at_ : ∀ j, 0 ≤ j → j < (fin.length : Int) → finC 0 (S - 1) fin j
  lt : ∀ x ∈ fin, x < k
  len : (fin.length : Int) ≤ k
theorem FinI.app {S k : Int} {fin : List Int} (h : FinI S k fin) (h0 : 0 ≤ k) (h1 : k < S) : FinI S (k + 1) (vApp fin [k]) := by
  refine ⟨fun j hj hj2 => ?_, fun x hx => ?_, by rw [len_app]; have := h.len; omega⟩
  · rw [len_app] at hj2
    by_cases e : j = fin.length
    · have e1 : vGet (vApp fin [k]) j 0 = k := get_app_eq e
      refine ⟨by rw [e1]; omega, fun hp => ?_⟩
      rw [e1, get_app_lt (by omega) (by omega)]
      exact h.lt _ (vGet_mem (by omega) (by omega))
    · have := h.at_ j hj (by omega)
      refine ⟨by rw [get_app_lt hj (by omega)]; exact this.1, fun hp => ?_⟩
      rw [get_app_lt hj (by omega), get_app_lt (by omega) (by omega)]
      exact this.2 hp
  · rcases List.mem_append.1 hx with h' | h'
    · have := h.lt x h'; omega
    · simp at h'; omega
structure ArcI (S k p : Int) (l : List Arc) : Prop where
  at_ : ∀ j, 0 ≤ j → j < (l.length : Int) → arcC S l j
  lt : ∀ x ∈ l, x.1 < k ∨ x.1 = k ∧ x.2.1 < p
  len : (l.length : Int) ≤ 8 * k + p
theorem ArcI.app {S k p t : Int} {l : List Arc} (h : ArcI S k p l) (h0 : 0 ≤ k) (h1 : k < S) (h2 : 0 ≤ p) (h3 : p < 8) (h4 : 0 ≤ t ∧ t ≤ S - 1) : ArcI S k (p + 1) (vApp l [(k, p, t)]) := by
  refine ⟨fun j hj hj2 => ?_, fun x hx => ?_, by rw [len_app]; have := h.len; omega⟩
  · rw [len_app] at hj2
    by_cases e : j = l.length
    · have e1 : vGet (vApp l [(k, p, t)]) j a0 = (k, p, t) := get_app_eq e
      unfold arcC
      rw [e1]
      refine ⟨⟨h0, by omega⟩, ⟨by dsimp only; omega, by dsimp only; omega⟩, h4, fun hp => ?_⟩
      rw [get_app_lt (by omega) (by omega)]
      exact h.lt _ (vGet_mem (by omega) (by omega))
    · have := h.at_ j hj (by omega)
      unfold arcC at this ⊢
      rw [get_app_lt hj (by omega)]
      refine ⟨this.1, this.2.1, this.2.2.1, fun hp => ?_⟩
      rw [get_app_lt (by omega) (by omega)]
      exact this.2.2.2 hp
  · rcases List.mem_append.1 hx with h' | h'
    · have := h.lt x h'; omega
    · simp at h'; subst h'; exact .inr ⟨rfl, by dsimp only; omega⟩
section
variable {c : List Int} (hb : Bytes c) {S st : Int} (hS : 1 ≤ S ∧ S ≤ 6)
include hb hS
theorem own15_wp {c0 c1 : Int} {c2 : List Int} {c3 : List Arc} {fin : List Int} {Q : Int × Int × List Int × List Arc × List Int × Int × Int → Prop} {k b : Int} (hk : 0 ≤ k ∧ k < S) (hB : b ≤ 1000000) (next : ∀ (l : List Arc) (s : List Int × Int × Int), ArcI S (k + 1) 0 l → Src c (b + 32) s → Wp (fun f => spec_l07Draw_r10 f (k + 1) s.1 s.2.1 s.2.2 c0 c1 c2 c3 S st fin l) Q) :
    ∀ (e : Nat) {p : Int} {l : List Arc} {s : List Int × Int × Int}, 0 ≤ p → p + e = 8 → ArcI S k p l → Src c (b + 4 * p) s → Wp (fun f => spec_l07Draw_r15 f k p s.1 s.2.1 s.2.2 c0 c1 c2 c3 S st fin l) Q
  | 0, p, l, s, h0, he, ha, hs => by
    refine Wp.step ?_
    simp (disch := omega) only [spec_l07Draw_r15_eq, vLt, vLe, vEq, vNot, inR, decide_eq_true_eq, Bool.not_eq_true', decide_eq_false_iff_not, Bool.not_eq_eq_eq_not, Bool.not_true, add64]
    refine Wp.neg (by omega) (next l s ⟨ha.at_, fun x hx => ?_, ?_⟩ (hs.le (by omega)))
    · have := ha.lt x hx; omega
    · have := ha.len; omega
  | e + 1, p, l, s, h0, he, ha, hs => by
    have hlen := ha.len
    refine Wp.step ?_
    simp (disch := omega) only [spec_l07Draw_r15_eq, vLt, vLe, vEq, vNot, inR, decide_eq_true_eq, Bool.not_eq_true', decide_eq_false_iff_not, Bool.not_eq_eq_eq_not, Bool.not_true, add64]
    refine Wp.pos (by omega) (Wp.call (one_wp hb hs (by omega)) (fun r hr => ?_))
    refine Wp.ite (fun _ => Wp.call (pick_wp hb hr (by omega)) (fun t ⟨ht, hq⟩ => Wp.pos (app_ok (by simp [vLen]) (by simp only [vLen]; omega) (by omega)) ?_)) (fun _ => ?_)
    · exact own15_wp hk hB next e (by omega) (by omega) (ha.app hk.1 hk.2 h0 (by omega) (by omega)) (hq.le (by omega))
    · exact own15_wp hk hB next e (by omega) (by omega) ⟨ha.at_, fun x hx => by have := ha.lt x hx; omega, by omega⟩ (hr.le (by omega))
theorem own10_wp (hst : 0 ≤ st ∧ st ≤ S - 1) {c0 c1 : Int} {c2 : List Int} {c3 : List Arc} : ∀ (e : Nat) {k b : Int} {fin : List Int} {l : List Arc} {s : List Int × Int × Int}, 0 ≤ k → k + e = S → b + 34 * e ≤ 1000000 → FinI S k fin → ArcI S k 0 l → Src c b s →
    Wp (fun f => spec_l07Draw_r10 f k s.1 s.2.1 s.2.2 c0 c1 c2 c3 S st fin l) (fun r => VG (r.1, r.2.1, r.2.2.1, r.2.2.2.1) ∧ r.2.2.1.length ≤ 1000)
  | 0, k, b, fin, l, s, h0, he, hB, hf, ha, hs => by
    refine Wp.step ?_
    simp only [spec_l07Draw_r10_eq, vLt, vLe, vEq, vNot, inR, decide_eq_true_eq, Bool.not_eq_true', decide_eq_false_iff_not, Bool.not_eq_eq_eq_not, Bool.not_true]
    have h1 := hf.len
    have h2 := ha.len
    exact Wp.neg (by omega) (Wp.now ⟨⟨⟨hS.1, by dsimp only; omega⟩, hst, hf.at_, by dsimp only; omega, ha.at_⟩, by dsimp only; omega⟩)
  | e + 1, k, b, fin, l, s, h0, he, hB, hf, ha, hs => by
    have h1 := hf.len
    refine Wp.step ?_
    simp only [spec_l07Draw_r10_eq, vLt, vLe, vEq, vNot, inR, decide_eq_true_eq, Bool.not_eq_true', decide_eq_false_iff_not, Bool.not_eq_eq_eq_not, Bool.not_true]
    refine Wp.pos (by omega) (Wp.call (one_wp hb hs (by omega)) (fun r hr => ?_))
    refine Wp.ite (fun _ => Wp.pos (app_ok (by simp [vLen]) (by simp only [vLen]; omega) (by omega)) ?_) (fun _ => ?_)
    · exact own15_wp (b := b + 2) hb hS ⟨h0, by omega⟩ (by omega) (fun l' s' ha' hs' => own10_wp hst e (by omega) (by omega) (by omega) (hf.app h0 (by omega)) ha' hs') 8 (by omega) (by omega) ha (hr.le (by omega))
    · exact own15_wp (b := b + 2) hb hS ⟨h0, by omega⟩ (by omega) (fun l' s' ha' hs' => own10_wp hst e (by omega) (by omega) (by omega) ⟨hf.at_, fun x hx => by have := hf.lt x hx; omega, by omega⟩ ha' hs') 8 (by omega) (by omega) ha (hr.le (by omega))
end
section
variable {c : List Int} (hb : Bytes c)
include hb
theorem own_wp {c0 c1 : Int} {c2 : List Int} {c3 : List Arc} {b : Int} {s : List Int × Int × Int} (hs : Src c b s) (hB : b ≤ 900000) : Wp (fun f => spec_l07Draw_r7 f s.1 s.2.1 s.2.2 c0 c1 c2 c3) (fun r => VG (r.1, r.2.1, r.2.2.1, r.2.2.2.1) ∧ r.2.2.1.length ≤ 1000) := by
  refine Wp.step ?_
  simp only [spec_l07Draw_r7_eq]
  refine Wp.call (pick_wp hb hs (by omega)) (fun x ⟨hx, h1⟩ => ?_)
  rw [add64 (by omega) (by omega)]
  refine Wp.call (pick_wp hb h1 (by omega)) (fun y ⟨hy, h2⟩ => ?_)
  exact own10_wp hb (by omega) (by omega) (1 + x.1).toNat (by omega) (by omega) (by omega) ⟨fun j h1 h2 => by simp at h2; omega, by simp, by simp⟩ ⟨fun j h1 h2 => by simp at h2; omega, by simp, by simp⟩ h2
theorem gdraw_wp {b : Int} {s : List Int × Int × Int} (hs : Src c b s) (hB : b ≤ 500000) : Wp (fun f => spec_l07Draw f s.1 s.2.1 s.2.2) (fun r => VG (r.1, r.2.1, r.2.2.1, r.2.2.2.1) ∧ r.2.2.1.length ≤ 1000) := by
  refine Wp.step ?_
  simp only [spec_l07Draw_eq]
  refine Wp.call (one_wp hb hs (by omega)) (fun r h1 => Wp.ite (fun _ => ?_) (fun _ => own_wp hb h1 (by omega)))
  refine Wp.call (raga_wp hb h1 (by omega)) (fun g ⟨hg, h2⟩ => ?_)
  refine Wp.call (pick_wp hb h2 (by omega)) (fun x ⟨hx, h3⟩ => ?_)
  refine Wp.call (pick_wp hb h3 (by omega)) (fun y ⟨hy, h4⟩ => ?_)
  simp only [vrB, Bool.and_eq_true] at hg
  have l1 := scB_len hg.1.1
  have l2 := scB_len hg.1.2.1
  have l3 := Nat.le_of_ble_eq_true hg.1.2.2.2.2.2.2
  have l4 : ∀ p ∈ g.2.2.2.2.2.1, p.length = 2 := fun p hp => by
    have := List.all_eq_true.1 hg.1.2.2.2.2.2.1 p hp
    match p, this with
    | [a, b], _ => rfl
  rw [sub64 (by omega) (by omega), add64 (a := x.1 - 5) (by omega) (by omega), add64 (by omega) (by omega)]
  have of : Wp (fun k => spec_l07Of k g.1 g.2.1 g.2.2.1 g.2.2.2.1 g.2.2.2.2.1 g.2.2.2.2.2.1 (x.1 - 5) (x.1 - 5 + 4 + y.1)) (fun r => 0 ≤ r.1 ∧ r.1 ≤ 1000 ∧ r.2.2.1.length ≤ 1000) := by
    refine Wp.step ?_
    simp only [spec_l07Of_eq]
    exact of3_wp (by omega) (by omega) (by omega) l4 (by omega) (5 + y.1).toNat (by omega) (by omega) (by simp; omega) (by simp) (by simp)
  refine Wp.call of (fun q hq => Wp.call (ok_wp (by omega) (by omega)) (fun z hz => ?_))
  refine Wp.ite (fun h => Wp.now ?_) (fun _ => own_wp hb h4 (by omega))
  have := hz.1.1 h
  rw [hz.2]
  exact ⟨this, hq.2.2⟩
theorem gram_wp : Wp (fun f => spec_R8Grammar f c) (fun g => VG g ∧ g.2.2.1.length ≤ 1000) := by
  refine Wp.step ?_
  simp only [spec_R8Grammar_eq]
  have fr : Wp (fun f => spec_l00From f c) (fun r => Src c 0 r) := by
    refine Wp.step ?_
    simp only [spec_l00From_eq]
    exact Wp.now ⟨rfl, Int.le_refl _, Int.le_refl _⟩
  exact Wp.call fr (fun r hr => Wp.call (gdraw_wp hb hr (by omega)) (fun q hq => Wp.now hq))
end
end Go.Proofs.Ytojmfjhbfcnecaa.F
