/- What is drawn for the covers. -/
import Derived.Test.YticifedehhnjhaaC0
namespace Go.Proofs.Yticifedehhnjhaa.F
open Go Go.Proofs.Yticifedehhnjhaa.Eng
set_option linter.unusedSimpArgs false
set_option linter.unusedVariables false
set_option maxRecDepth 100000
theorem app_ok2 {n m : Int} {b : Nat} (h0 : 0 ≤ n + m) (h1 : n + m ≤ 1000000000) (hb : b ≤ 100000) : appOk n m b = true := by
  unfold appOk
  apply Nat.ble_eq_true_of_le
  have : (n + m).toNat * b ≤ 1000000000 * 100000 := Nat.mul_le_mul (by omega) hb
  omega
def Sm (L : List (List Int)) : Prop := ∀ p ∈ L, p.length ≤ 100
theorem Sm.get {L : List (List Int)} (h : Sm L) {i : Int} (h0 : 0 ≤ i) (h1 : i < L.length) : (vGet L i []).length ≤ 100 := h _ (vGet_mem h0 h1)
theorem Sm.app {L : List (List Int)} (h : Sm L) {p : List Int} (hp : p.length ≤ 100) : Sm (L ++ [p]) := fun q hq => by
  rcases List.mem_append.1 hq with hq | hq
  · exact h q hq
  · simp only [List.mem_singleton] at hq; subst hq; exact hp
theorem before_wp {a b : List Int} (ha : a.length ≤ 100000) : Wp (fun k => spec_l06Before k a b) (fun r => True) := by
  have lp : ∀ (d : Nat) {i : Int}, 0 ≤ i → i + d = a.length → Wp (fun k => spec_l06Before_r2 k a b i) (fun r => True) := by
    intro d
    induction d with
    | zero =>
      intro i h0 hd
      refine Wp.step ?_
      simp only [spec_l06Before_r2_eq, vLt, vLe, vEq, vNot, inR, decide_eq_true_eq, Bool.not_eq_true', decide_eq_false_iff_not, Bool.not_eq_eq_eq_not, Bool.not_true]
      exact Wp.neg (by simp only [vLen]; omega) (Wp.now trivial)
    | succ d ih =>
      intro i h0 hd
      have hi : i < (a.length : Int) := by omega
      refine Wp.step ?_
      simp (disch := omega) only [spec_l06Before_r2_eq, vLt, vLe, vEq, vNot, inR, decide_eq_true_eq, Bool.not_eq_true', decide_eq_false_iff_not, Bool.not_eq_eq_eq_not, Bool.not_true, add64]
      exact Wp.pos hi (Wp.ite (fun hb => Wp.pos ⟨h0, hi⟩ (Wp.pos ⟨h0, hb⟩ (Wp.ite (fun _ => Wp.pos ⟨h0, hi⟩ (Wp.pos ⟨h0, hb⟩ (Wp.now trivial))) (fun _ => ih (by omega) (by omega))))) (fun _ => Wp.now trivial))
  refine Wp.step ?_
  simp only [spec_l06Before_eq]
  exact lp a.length (by omega) (by omega)
theorem same_wp {a b : List Int} (ha : a.length ≤ 100000) : Wp (fun k => spec_l00Same k a b) (fun r => True) := by
  refine Wp.step ?_
  simp only [spec_l00Same_eq, vLt, vLe, vEq, vNot, inR, decide_eq_true_eq, Bool.not_eq_true', decide_eq_false_iff_not, Bool.not_eq_eq_eq_not, Bool.not_true]
  refine Wp.ite (fun _ => Wp.now trivial) (fun hl => ?_)
  have hl : a.length = b.length := by simp only [vLen] at hl; omega
  have lp : ∀ (d : Nat) {i : Int}, 0 ≤ i → i + d = a.length → Wp (fun k => spec_l00Same_r4 k a b i) (fun r => True) := by
    intro d
    induction d with
    | zero =>
      intro i h0 hd
      refine Wp.step ?_
      simp only [spec_l00Same_r4_eq, vLt, vLe, vEq, vNot, inR, decide_eq_true_eq, Bool.not_eq_true', decide_eq_false_iff_not, Bool.not_eq_eq_eq_not, Bool.not_true]
      exact Wp.neg (by simp only [vLen]; omega) (Wp.now trivial)
    | succ d ih =>
      intro i h0 hd
      have hi : i < (a.length : Int) := by omega
      refine Wp.step ?_
      simp (disch := omega) only [spec_l00Same_r4_eq, vLt, vLe, vEq, vNot, inR, decide_eq_true_eq, Bool.not_eq_true', decide_eq_false_iff_not, Bool.not_eq_eq_eq_not, Bool.not_true, add64]
      exact Wp.pos hi (Wp.pos ⟨h0, hi⟩ (Wp.pos ⟨h0, by simp only [vLen]; omega⟩ (Wp.ite (fun _ => Wp.now trivial) (fun _ => ih (by omega) (by omega)))))
  exact lp a.length (by omega) (by omega)
theorem put_wp {L : List (List Int)} (hL : Sm L) {p : List Int} (hp : p.length ≤ 100) (hn : L.length ≤ 100) : Wp (fun k => spec_l06Put k L p) (fun r => r.length ≤ L.length + 1 ∧ Sm r) := by
  have lp : ∀ (d : Nat) {i : Int} {A : List (List Int)} {f : Bool}, 0 ≤ i → i + d = L.length → (f = true → A.length + d ≤ L.length + 1) → (f = false → A.length + d ≤ L.length) → Sm A → Wp (fun k => spec_l06Put_r4 k L p A f i) (fun r => r.length ≤ L.length + 1 ∧ Sm r) := by
    intro d
    induction d with
    | zero =>
      intro i A f h0 hd h1 h2 hA
      refine Wp.step ?_
      simp only [spec_l06Put_r4_eq, vLt, vLe, vEq, vNot, inR, decide_eq_true_eq, Bool.not_eq_true', decide_eq_false_iff_not, Bool.not_eq_eq_eq_not, Bool.not_true]
      refine Wp.neg (by simp only [vLen]; omega) (Wp.ite (fun e => Wp.pos (app_ok (by simp [vLen]) (by have := h2 (by simpa using e); simp only [vLen]; omega) (by omega)) (Wp.now ⟨?_, hA.app hp⟩)) (fun e => Wp.now ⟨?_, hA⟩))
      · have := h2 (by simpa using e); simp only [vApp, List.length_append, List.length_singleton]; omega
      · cases f
        · exact absurd rfl e
        · have := h1 rfl; omega
    | succ d ih =>
      intro i A f h0 hd h1 h2 hA
      have hi : i < (L.length : Int) := by omega
      have hg := hL.get h0 hi
      have tail : ∀ f : Bool, (f = true → A.length + (d + 1) ≤ L.length + 1) → (f = false → A.length + (d + 1) ≤ L.length) → Wp (fun k => spec_l06Put_r8 k L p A f i) (fun r => r.length ≤ L.length + 1 ∧ Sm r) := by
        intro f h1 h2
        have ap : f = true ∨ f = false := by cases f <;> simp
        have hlen : A.length ≤ 101 := by rcases ap with e | e; have := h1 e; omega; have := h2 e; omega
        refine Wp.step ?_
        simp (disch := omega) only [spec_l06Put_r8_eq, vLt, vLe, vEq, vNot, inR, decide_eq_true_eq, Bool.not_eq_true', decide_eq_false_iff_not, Bool.not_eq_eq_eq_not, Bool.not_true, add64]
        refine Wp.ite (fun e => Wp.pos ⟨h0, hi⟩ (Wp.call (before_wp (by omega)) (fun r _ => Wp.ite (fun _ => Wp.pos (app_ok (by simp [vLen]) (by simp only [vLen]; omega) (by omega)) (Wp.pos ⟨h0, hi⟩ (Wp.pos (app_ok (by simp [vLen]) (by simp only [vLen, vApp, List.length_append, List.length_singleton]; omega) (by omega)) (ih (by omega) (by omega) (fun _ => ?_) (fun q => by cases q) ((hA.app hp).app hg))))) (fun _ => Wp.pos ⟨h0, hi⟩ (Wp.pos (app_ok (by simp [vLen]) (by simp only [vLen]; omega) (by omega)) (ih (by omega) (by omega) (fun q => ?_) (fun q => ?_) (hA.app hg))))))) (fun e => Wp.pos ⟨h0, hi⟩ (Wp.pos (app_ok (by simp [vLen]) (by simp only [vLen]; omega) (by omega)) (ih (by omega) (by omega) (fun q => ?_) (fun q => ?_) (hA.app hg))))
        · have := h2 (by simpa using e); simp only [vApp, List.length_append, List.length_singleton]; omega
        · have := h1 q; simp only [vApp, List.length_append, List.length_singleton]; omega
        · have := h2 q; simp only [vApp, List.length_append, List.length_singleton]; omega
        · have := h1 q; simp only [vApp, List.length_append, List.length_singleton]; omega
        · have := h2 q; simp only [vApp, List.length_append, List.length_singleton]; omega
      refine Wp.step ?_
      simp only [spec_l06Put_r4_eq, vLt, vLe, vEq, vNot, inR, decide_eq_true_eq, Bool.not_eq_true', decide_eq_false_iff_not, Bool.not_eq_eq_eq_not, Bool.not_true]
      refine Wp.pos hi (Wp.pos ⟨h0, hi⟩ (Wp.call (same_wp (by omega)) (fun r _ => Wp.ite (fun _ => tail true (fun _ => ?_) (fun q => by cases q)) (fun _ => tail f h1 h2))))
      cases f
      · have := h2 rfl; omega
      · exact h1 rfl
  refine Wp.step ?_
  simp only [spec_l06Put_eq]
  exact lp L.length (by omega) (by omega) (fun q => by cases q) (fun _ => by simp) (fun q hq => by simp at hq)
section
variable {c : List Int} (hb : Bytes c)
include hb
theorem among_wp {s : List Int × Int × Int} {L : List Int} {b : Int} (hs : Src c b s) (hB : b ≤ 100000000) (hL : L ≠ []) : Wp (fun k => spec_l00Src_among k s.1 s.2.1 s.2.2 L) (fun r => r.1 ∈ L ∧ Src c (b + 2) r.2) := by
  refine Wp.step ?_
  simp only [spec_l00Src_among_eq, vLt, vLe, vEq, vNot, inR, decide_eq_true_eq, Bool.not_eq_true', decide_eq_false_iff_not, Bool.not_eq_eq_eq_not, Bool.not_true]
  have hl : 0 < L.length := List.length_pos_iff.2 hL
  refine Wp.call (pick_wp hb hs hB) (fun r ⟨⟨h0, h1⟩, hr⟩ => ?_)
  have h2 : r.1 < vLen L := by unfold vLen at h1 ⊢; omega
  exact Wp.pos ⟨h0, h2⟩ (Wp.now ⟨vGet_mem h0 h2, hr⟩)
theorem phrase_wp {s : List Int × Int × Int} {b : Int} (hs : Src c b s) (hB : b ≤ 900000) : Wp (fun k => spec_l06DrawPhrase k s.1 s.2.1 s.2.2) (fun r => (2 ≤ r.1.length ∧ r.1.length ≤ 4) ∧ Src c (b + 20) r.2) := by
  have lp : ∀ (d : Nat) {b x : Int} {l : List Int} {s : List Int × Int × Int}, x + 1 = d → l.length + d ≤ 50 → b + 2 * d ≤ 9000000 → Src c b s → Wp (fun k => spec_l06DrawPhrase_r3 k l x s.1 s.2.1 s.2.2) (fun r => r.1.length = l.length + d ∧ Src c (b + 2 * d) r.2) := by
    intro d
    induction d with
    | zero =>
      intro b x l s hx hl hB hs
      refine Wp.step ?_
      simp only [spec_l06DrawPhrase_r3_eq, vLt, vLe, vEq, vNot, inR, decide_eq_true_eq, Bool.not_eq_true', decide_eq_false_iff_not, Bool.not_eq_eq_eq_not, Bool.not_true]
      exact Wp.neg (by omega) (Wp.now ⟨rfl, hs.le (by omega)⟩)
    | succ d ih =>
      intro b x l s hx hl hB hs
      refine Wp.step ?_
      simp (disch := omega) only [spec_l06DrawPhrase_r3_eq, vLt, vLe, vEq, vNot, inR, decide_eq_true_eq, Bool.not_eq_true', decide_eq_false_iff_not, Bool.not_eq_eq_eq_not, Bool.not_true, sub64]
      refine Wp.pos (by omega) (Wp.call (among_wp hb hs (by omega) (by simp)) (fun r ⟨_, hr⟩ => Wp.pos (app_ok (by simp [vLen]) (by simp only [vLen]; omega) (by omega)) ((ih (x := x - 1) (by omega) ?_ (by omega) hr).mono fun q hq => ⟨?_, hq.2.le (by omega)⟩)))
      · simp only [vApp, List.length_append, List.length_singleton]; omega
      · have := hq.1; simp only [vApp, List.length_append, List.length_singleton] at this; omega
  refine Wp.step ?_
  simp only [spec_l06DrawPhrase_eq]
  refine Wp.call (pick_wp hb hs (by omega)) (fun r ⟨hr, h1⟩ => ?_)
  rw [add64 (by omega) (by omega)]
  exact (lp (r.1 + 2).toNat (by omega) (by simp; omega) (by omega) h1).mono fun q hq => ⟨by have := hq.1; simp only [List.length_nil] at this; omega, hq.2.le (by omega)⟩
theorem pitches_wp {s : List Int × Int × Int} {b : Int} (hs : Src c b s) (hB : b ≤ 800000) : Wp (fun k => spec_l06DrawPitches k s.1 s.2.1 s.2.2) (fun r => r.1.length ≤ 100 ∧ Src c (b + 200) r.2) := by
  have up : ∀ (d : Nat) {b x : Int} {l : List Int} {s : List Int × Int × Int}, x ≤ l.length + d → x ≤ 65 → l.length ≤ 65 → Src c b s → Wp (fun k => spec_l06DrawPitches_r11 k l x s.1 s.2.1 s.2.2) (fun r => r.1.length ≤ 100 ∧ Src c b r.2) := by
    intro d
    induction d with
    | zero =>
      intro b x l s hx hx2 hl hs
      refine Wp.step ?_
      simp only [spec_l06DrawPitches_r11_eq, vLt, vLe, vEq, vNot, inR, decide_eq_true_eq, Bool.not_eq_true', decide_eq_false_iff_not, Bool.not_eq_eq_eq_not, Bool.not_true]
      exact Wp.neg (by simp only [vLen]; omega) (Wp.now ⟨by dsimp only; omega, hs⟩)
    | succ d ih =>
      intro b x l s hx hx2 hl hs
      refine Wp.step ?_
      simp only [spec_l06DrawPitches_r11_eq, vLt, vLe, vEq, vNot, inR, decide_eq_true_eq, Bool.not_eq_true', decide_eq_false_iff_not, Bool.not_eq_eq_eq_not, Bool.not_true]
      refine Wp.ite (fun h => Wp.pos (app_ok (by simp [vLen]) (by simp only [vLen]; omega) (by omega)) (ih ?_ hx2 ?_ hs)) (fun h => Wp.now ⟨by dsimp only; omega, hs⟩)
      · simp only [vApp, List.length_append, List.length_singleton]; omega
      · simp only [vApp, List.length_append, List.length_singleton]; simp only [vLen] at h; omega
  have lp : ∀ (d : Nat) {b x : Int} {l : List Int} {s : List Int × Int × Int}, x ≤ d → l.length + 4 * d ≤ 24 → b + 20 * d ≤ 900000 → Src c b s → Wp (fun k => spec_l06DrawPitches_r3 k l x s.1 s.2.1 s.2.2) (fun r => r.1.length ≤ 100 ∧ Src c (b + 20 * d + 10) r.2) := by
    intro d
    induction d with
    | zero =>
      intro b x l s hx hl hB hs
      refine Wp.step ?_
      simp only [spec_l06DrawPitches_r3_eq, vLt, vLe, vEq, vNot, inR, decide_eq_true_eq, Bool.not_eq_true', decide_eq_false_iff_not, Bool.not_eq_eq_eq_not, Bool.not_true]
      refine Wp.neg (by omega) (Wp.call (pick_wp hb hs (by omega)) (fun r ⟨_, hr⟩ => Wp.ite (fun _ => Wp.call (among_wp hb hr (by omega) (by simp)) (fun q ⟨_, hq⟩ => Wp.pos (app_ok (by simp [vLen]) (by simp only [vLen]; omega) (by omega)) (Wp.now ⟨?_, hq.le (by omega)⟩))) (fun _ => Wp.ite (fun _ => Wp.call (among_wp hb hr (by omega) (by simp)) (fun q ⟨hq0, hq⟩ => ?_)) (fun _ => Wp.now ⟨by dsimp only; omega, hr.le (by omega)⟩))))
      · simp only [vApp, List.length_append, List.length_singleton]; omega
      · exact (up 65 (by simp at hq0; omega) (by simp at hq0; omega) (by omega) hq).mono fun r h => ⟨h.1, h.2.le (by omega)⟩
    | succ d ih =>
      intro b x l s hx hl hB hs
      refine Wp.step ?_
      simp (disch := omega) only [spec_l06DrawPitches_r3_eq, vLt, vLe, vEq, vNot, inR, decide_eq_true_eq, Bool.not_eq_true', decide_eq_false_iff_not, Bool.not_eq_eq_eq_not, Bool.not_true]
      refine Wp.ite (fun h => Wp.call (phrase_wp hb hs (by omega)) (fun r ⟨hr0, hr⟩ => Wp.pos (app_ok2 (by simp only [vLen]; omega) (by simp only [vLen]; omega) (by omega)) ?_)) (fun h => ?_)
      · rw [sub64 (by omega) (by omega)]
        exact (ih (x := x - 1) (by omega) (by simp only [vApp, List.length_append]; omega) (by omega) hr).mono fun q hq => ⟨hq.1, hq.2.le (by omega)⟩
      · have := ih (x := x) (b := b) (l := l) (by omega) (by omega) (by omega) hs
        refine Wp.mono ?_ (fun q (hq : q.1.length ≤ 100 ∧ Src c (b + 20 * d + 10) q.2) => ⟨hq.1, hq.2.le (by omega)⟩)
        obtain ⟨r, hr, K, hk⟩ := this
        refine ⟨r, hr, K, fun k hkk => ?_⟩
        have := hk (k + 1) (by omega)
        simp only [spec_l06DrawPitches_r3_eq, vLt, vLe, vEq, vNot, inR, decide_eq_true_eq, Bool.not_eq_true', decide_eq_false_iff_not, Bool.not_eq_eq_eq_not, Bool.not_true] at this
        rw [if_neg (by omega)] at this
        exact this
  refine Wp.step ?_
  simp only [spec_l06DrawPitches_eq]
  exact Wp.call (pick_wp hb hs (by omega)) (fun r ⟨hr, h1⟩ => (lp 5 (by omega) (by simp) (by omega) h1).mono fun q hq => ⟨hq.1, hq.2.le (by omega)⟩)
theorem drawOk_wp {s : List Int × Int × Int} {b : Int} (hs : Src c b s) (hB : b ≤ 800000) : Wp (fun k => spec_l06DrawOk k s.1 s.2.1 s.2.2) (fun r => (r.1.length ≤ 10 ∧ Sm r.1) ∧ Src c (b + 200) r.2) := by
  have lp : ∀ (d : Nat) {b x : Int} {l : List (List Int)} {s : List Int × Int × Int}, x = d → l.length + d ≤ 10 → Sm l → b + 20 * d ≤ 900000 → Src c b s → Wp (fun k => spec_l06DrawOk_r3 k l x s.1 s.2.1 s.2.2) (fun r => (r.1.length ≤ 10 ∧ Sm r.1) ∧ Src c (b + 20 * d) r.2) := by
    intro d
    induction d with
    | zero =>
      intro b x l s hx hl hS hB hs
      refine Wp.step ?_
      simp only [spec_l06DrawOk_r3_eq, vLt, vLe, vEq, vNot, inR, decide_eq_true_eq, Bool.not_eq_true', decide_eq_false_iff_not, Bool.not_eq_eq_eq_not, Bool.not_true]
      exact Wp.neg (by omega) (Wp.now ⟨⟨by dsimp only; omega, hS⟩, hs.le (by omega)⟩)
    | succ d ih =>
      intro b x l s hx hl hS hB hs
      refine Wp.step ?_
      simp (disch := omega) only [spec_l06DrawOk_r3_eq, vLt, vLe, vEq, vNot, inR, decide_eq_true_eq, Bool.not_eq_true', decide_eq_false_iff_not, Bool.not_eq_eq_eq_not, Bool.not_true, sub64]
      exact Wp.pos (by omega) (Wp.call (phrase_wp hb hs (by omega)) (fun r ⟨hr0, hr⟩ => Wp.call (put_wp hS (by omega) (by omega)) (fun q ⟨hq0, hq⟩ => (ih (x := x - 1) (by omega) (by omega) hq (by omega) hr).mono fun q hq => ⟨hq.1, hq.2.le (by omega)⟩)))
  refine Wp.step ?_
  simp only [spec_l06DrawOk_eq]
  exact Wp.call (pick_wp hb hs (by omega)) (fun r ⟨hr, h1⟩ => (lp r.1.toNat (by omega) (by simp; omega) (fun q hq => by simp at hq) (by omega) h1).mono fun q hq => ⟨hq.1, hq.2.le (by omega)⟩)
theorem bent_wp {s : List Int × Int × Int} {b : Int} (hs : Src c b s) (hB : b ≤ 800000) : Wp (fun k => spec_l06BentPhrase k s.1 s.2.1 s.2.2) (fun r => r.1.length ≤ 100 ∧ Src c (b + 100) r.2) := by
  have up : ∀ (d : Nat) {b x : Int} {l : List Int} {s : List Int × Int × Int}, x ≤ l.length + d → x ≤ 65 → l.length ≤ 65 → Src c b s → Wp (fun k => spec_l06BentPhrase_r9 k l x s.1 s.2.1 s.2.2) (fun r => r.1.length ≤ 100 ∧ Src c b r.2) := by
    intro d
    induction d with
    | zero =>
      intro b x l s hx hx2 hl hs
      refine Wp.step ?_
      simp only [spec_l06BentPhrase_r9_eq, vLt, vLe, vEq, vNot, inR, decide_eq_true_eq, Bool.not_eq_true', decide_eq_false_iff_not, Bool.not_eq_eq_eq_not, Bool.not_true]
      exact Wp.neg (by simp only [vLen]; omega) (Wp.now ⟨by dsimp only; omega, hs⟩)
    | succ d ih =>
      intro b x l s hx hx2 hl hs
      refine Wp.step ?_
      simp only [spec_l06BentPhrase_r9_eq, vLt, vLe, vEq, vNot, inR, decide_eq_true_eq, Bool.not_eq_true', decide_eq_false_iff_not, Bool.not_eq_eq_eq_not, Bool.not_true]
      refine Wp.ite (fun h => Wp.pos (app_ok (by simp [vLen]) (by simp only [vLen]; omega) (by omega)) (ih ?_ hx2 ?_ hs)) (fun h => Wp.now ⟨by dsimp only; omega, hs⟩)
      · simp only [vApp, List.length_append, List.length_singleton]; omega
      · simp only [vApp, List.length_append, List.length_singleton]; simp only [vLen] at h; omega
  refine Wp.step ?_
  simp only [spec_l06BentPhrase_eq, vLt, vLe, vEq, vNot, inR, decide_eq_true_eq, Bool.not_eq_true', decide_eq_false_iff_not, Bool.not_eq_eq_eq_not, Bool.not_true, cutOk]
  refine Wp.call (phrase_wp hb hs (by omega)) (fun r ⟨hr0, hr⟩ => Wp.call (pick_wp hb hr (by omega)) (fun q ⟨_, hq⟩ => Wp.ite (fun _ => Wp.pos ⟨by omega, by omega, by simp only [vLen]; omega⟩ (Wp.now ⟨?_, hq.le (by omega)⟩)) (fun _ => Wp.ite (fun _ => Wp.call (among_wp hb hq (by omega) (by simp)) (fun z ⟨_, hz⟩ => Wp.pos ⟨by omega, by simp only [vLen]; omega⟩ (Wp.now ⟨?_, hz.le (by omega)⟩))) (fun _ => Wp.ite (fun _ => Wp.call (among_wp hb hq (by omega) (by simp)) (fun z ⟨hz0, hz⟩ => (up 10 (by simp at hz0; omega) (by simp at hz0; omega) (by omega) hz).mono fun q hq => ⟨hq.1, hq.2.le (by omega)⟩)) (fun _ => Wp.now ⟨by dsimp only; omega, hq.le (by omega)⟩)))))
  · simp only [cut, List.length_drop, List.length_take]; omega
  · simp only [vSet, List.length_set]; omega
theorem draw_wp {s : List Int × Int × Int} {b : Int} (hs : Src c b s) (hB : b ≤ 700000) : Wp (fun k => spec_l06Draw k s.1 s.2.1 s.2.2) (fun r => (r.1.length ≤ 100 ∧ Sm r.1) ∧ Src c (b + 400) r.2) := by
  have lp : ∀ (d : Nat) {b x i : Int} {l : List (List Int)} {s : List Int × Int × Int}, 0 ≤ i → x ≤ i + d → x ≤ 13 → l.length + d ≤ 20 → Sm l → Src c b s → Wp (fun k => spec_l06Draw_r9 k l x i s.1 s.2.1 s.2.2) (fun r => (r.1.length ≤ 100 ∧ Sm r.1) ∧ Src c b r.2) := by
    intro d
    induction d with
    | zero =>
      intro b x i l s h0 hx hx2 hl hS hs
      refine Wp.step ?_
      simp only [spec_l06Draw_r9_eq, vLt, vLe, vEq, vNot, inR, decide_eq_true_eq, Bool.not_eq_true', decide_eq_false_iff_not, Bool.not_eq_eq_eq_not, Bool.not_true]
      exact Wp.neg (by omega) (Wp.now ⟨⟨by dsimp only; omega, hS⟩, hs⟩)
    | succ d ih =>
      intro b x i l s h0 hx hx2 hl hS hs
      refine Wp.step ?_
      simp only [spec_l06Draw_r9_eq, vLt, vLe, vEq, vNot, inR, decide_eq_true_eq, Bool.not_eq_true', decide_eq_false_iff_not, Bool.not_eq_eq_eq_not, Bool.not_true]
      refine Wp.ite (fun h => Wp.pos (app_ok (by simp [vLen]) (by simp only [vLen]; omega) (by omega)) ?_) (fun h => Wp.now ⟨⟨by dsimp only; omega, hS⟩, hs⟩)
      rw [add64 (by omega) (by omega)]
      exact ih (by omega) (by omega) hx2 (by simp only [vApp, List.length_append, List.length_singleton]; omega) (hS.app (by simp)) hs
  refine Wp.step ?_
  simp only [spec_l06Draw_eq, vLt, vLe, vEq, vNot, inR, decide_eq_true_eq, Bool.not_eq_true', decide_eq_false_iff_not, Bool.not_eq_eq_eq_not, Bool.not_true]
  refine Wp.call (drawOk_wp hb hs (by omega)) (fun r ⟨⟨hr0, hr1⟩, hr⟩ => Wp.call (pick_wp hb hr (by omega)) (fun q ⟨_, hq⟩ => Wp.ite (fun _ => Wp.call (bent_wp hb hq (by omega)) (fun z ⟨hz0, hz⟩ => Wp.pos (app_ok (by simp [vLen]) (by simp only [vLen]; omega) (by omega)) (Wp.now ⟨⟨?_, hr1.app hz0⟩, hz.le (by omega)⟩))) (fun _ => Wp.ite (fun _ => Wp.call (among_wp hb hq (by omega) (by simp)) (fun z ⟨hz0, hz⟩ => (lp 13 (by omega) (by simp at hz0; omega) (by simp at hz0; omega) (by simp) (fun q hq => by simp at hq) hz).mono fun q hq => ⟨hq.1, hq.2.le (by omega)⟩)) (fun _ => Wp.now ⟨⟨by dsimp only; omega, hr1⟩, hq.le (by omega)⟩))))
  simp only [vApp, List.length_append, List.length_singleton]; omega
omit hb in
theorem from_wp : Wp (fun f => spec_l00From f c) (fun r => Src c 0 r) := by
  refine Wp.step ?_
  simp only [spec_l00From_eq]
  exact Wp.now ⟨rfl, Int.le_refl _, Int.le_refl _⟩
theorem drawnF_wp : Wp (fun k => spec_DrawFewestPhrases k c) (fun r => r.1.length ≤ 100 ∧ r.2.1.length ≤ 100 ∧ Sm r.2.1) := by
  refine Wp.step ?_
  simp only [spec_DrawFewestPhrases_eq]
  exact Wp.call from_wp (fun s h0 => Wp.call (pitches_wp hb h0 (by omega)) (fun p ⟨hp, h1⟩ => Wp.call (draw_wp hb h1 (by omega)) (fun l ⟨hl, h2⟩ => Wp.call (among_wp hb h2 (by omega) (by simp)) (fun q hq => Wp.now ⟨hp, hl.1, hl.2⟩))))
theorem drawnQ_wp : Wp (fun k => spec_DrawFrequentPhrase k c) (fun r => r.1.length ≤ 100 ∧ (1 ≤ r.2 ∧ r.2 ≤ 9)) := by
  refine Wp.step ?_
  simp only [spec_DrawFrequentPhrase_eq]
  refine Wp.call from_wp (fun s h0 => Wp.call (pitches_wp hb h0 (by omega)) (fun p ⟨hp, h1⟩ => Wp.call (among_wp hb h1 (by omega) (by simp)) (fun q ⟨hq, _⟩ => Wp.now ⟨hp, ?_⟩)))
  simp at hq; dsimp only; omega
end
end Go.Proofs.Yticifedehhnjhaa.F
