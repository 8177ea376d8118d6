/- The first wrong pitch is the first one to which the move is not allowed, and strong and weak tones are counted. -/
import Derived.Test.YtbedlmlofnphkaaPuM2
import Derived.Test.YtbedlmlofnphkaaPZx25
import Derived.Test.YtbedlmlofnphkaaPZx26
import Derived.Test.YtbedlmlofnphkaaPZx27
import Derived.Test.YtbedlmlofnphkaaPZx28
namespace Go.Proofs.Ytbedlmlofnphkaa.Pure
open Go.RowKit Go.Proofs.Ytbedlmlofnphkaa.PZ Go.Proofs.YtbedlmlofnphkaaW.PrintWords Go.Proofs.YtbedlmlofnphkaaW.PrintLast
set_option linter.unusedSimpArgs false
set_option linter.unusedVariables false
section
variable {n : ByteArray} {u d : List Int} {s w : Int} {fb : List (List Int)}
def good (u d : List Int) (fb : List (List Int)) (l : List Int) (j : Int) : Prop := (0 < j → (tn (rd l 0) ∈ u ∨ tn (rd l 0) ∈ d)) ∧ ∀ i, 0 < i → i < j → rsn u d fb (rd l (i - 1)) (rd l i) = 0
def wrongAt (u d : List Int) (fb : List (List Int)) (l : List Int) (r : Int × Int) : Prop :=
  (r = (0, 0) ∧ good u d fb l l.length) ∨ (0 ≤ r.1 ∧ r.1 < l.length ∧ r.2 ≠ 0 ∧ (r.1 = 0 → r.2 = 1) ∧ (0 < r.1 → r.2 = rsn u d fb (rd l (r.1 - 1)) (rd l r.1)) ∧ good u d fb l r.1)
theorem firstWrong_l0 (h : ragaP n u d s w fb) {l : List Int} (hl : l.length ≤ 9) (hp : ∀ x ∈ l, pit x) : ∀ (m : Nat) (i : Int), 0 ≤ i → i + m = l.length → good u d fb l i → Wp (fun k => impl_Raga_firstWrong.l0 k l l l.length i n u d s w fb) (wrongAt u d fb l)
  | 0, i, i0, i1, g => by
    refine Wp.step ?_
    simp only [impl_Raga_firstWrong.l0]
    exact Wp.neg (by omega) (Wp.now (.inl ⟨rfl, by rw [show (l.length : Int) = i by omega]; exact g⟩))
  | m + 1, i, i0, i1, g => by
    have hx := hp _ (rd_mem i0 (show i < l.length by omega))
    refine Wp.step ?_
    simp only [impl_Raga_firstWrong.l0]
    have j1 : ∀ z : Bool, (i = 0 → (z = true ↔ ¬ (tn (rd l 0) ∈ u ∨ tn (rd l 0) ∈ d))) → (i ≠ 0 → z = false) → Wp (fun k => impl_Raga_firstWrong.j1 k l i (rd l i) l l.length i z n u d s w fb) (wrongAt u d fb l) := by
      intro z h1 h2
      refine Wp.step ?_
      simp only [impl_Raga_firstWrong.j1]
      rw [w64 (n := i + 1) (by omega) (by omega), w64 (n := i - 1) (by omega) (by omega)]
      refine Wp.ite (fun e => ?_) (fun e => Wp.ite (fun hi => ?_) (fun hi => ?_))
      · have hi : i = 0 := Classical.byContradiction (fun x => by rw [h2 x] at e; cases e)
        exact Wp.now (.inr ⟨by decide, by dsimp only; omega, by decide, fun _ => rfl, fun x => absurd x (by decide), ⟨fun x => absurd x (by decide), fun j j0 j1 => by dsimp only at j1; omega⟩⟩)
      · refine Wp.pos (by omega) (Wp.pos (by omega) (Wp.val (iReason_wp h (hp _ (rd_mem (by omega) (by omega))) hx) (Wp.ite (fun e0 => ?_) (fun e0 => Wp.val (iReason_wp h (hp _ (rd_mem (by omega) (by omega))) hx) (Wp.now ?_)))))
        · refine firstWrong_l0 h hl hp m (i + 1) (by omega) (by omega) ⟨fun _ => g.1 hi, fun j j0 j1 => ?_⟩
          by_cases hj : j = i
          · rw [hj]; exact e0
          · exact g.2 j j0 (by omega)
        · exact .inr ⟨i0, by dsimp only; omega, e0, fun x => by dsimp only at x; omega, fun _ => rfl, g⟩
      · have hi : i = 0 := by omega
        subst hi
        refine firstWrong_l0 h hl hp m (0 + 1) (by omega) (by omega) ⟨fun _ => Classical.byContradiction (fun x => e ((h1 rfl).2 x)), fun j j0 j1 => by omega⟩
    refine Wp.pos (by omega) (Wp.pos i0 (Wp.pos (by omega) (Wp.ite (fun e => ?_) (fun e => j1 false (fun x => absurd x e) (fun _ => rfl)))))
    subst e
    simp only [impl_ToneOf.f, Option.bind_some]
    rw [tn_eq hx]
    obtain ⟨_, _, hu, hd, _⟩ := h
    exact Wp.val (hasTone_wp hu hd _) (j1 _ (fun _ => by simp) (fun x => absurd rfl x))
def cS (s : Int) (l : List Int) : Int := ((l.countP fun x => tn x == s) : Nat)
def cW (s w : Int) (l : List Int) : Int := ((l.countP fun x => !(tn x == s) && tn x == w) : Nat)
theorem cS_cons (s x : Int) (l : List Int) : cS s (x :: l) = (if tn x = s then 1 else 0) + cS s l := by
  unfold cS; rw [List.countP_cons]; by_cases h : tn x = s <;> simp [h] <;> omega
theorem cW_cons (s w x : Int) (l : List Int) : cW s w (x :: l) = (if tn x = s then 0 else if tn x = w then 1 else 0) + cW s w l := by
  unfold cW
  rw [List.countP_cons]
  by_cases h : tn x = s
  · rw [if_pos h, if_neg (by simp [h])]; simp
  · rw [if_neg h]
    by_cases h' : tn x = w
    · rw [if_pos h', if_pos (by rw [show (tn x == s) = false from beq_false_of_ne h, show (tn x == w) = true from beq_iff_eq.2 h']; rfl)]; omega
    · rw [if_neg h', if_neg (by rw [show (tn x == w) = false from beq_false_of_ne h']; simp)]; simp
theorem cS_le (s : Int) (l : List Int) : 0 ≤ cS s l ∧ cS s l ≤ l.length := by unfold cS; have := List.countP_le_length (p := fun x => tn x == s) (l := l); omega
theorem cW_le (s w : Int) (l : List Int) : 0 ≤ cW s w l ∧ cW s w l ≤ l.length := by unfold cW; have := List.countP_le_length (p := fun x => !(tn x == s) && tn x == w) (l := l); omega
theorem strength_l0 {l : List Int} (hl : l.length ≤ 9) (hp : ∀ x ∈ l, pit x) : ∀ (m : Nat) (i a b : Int), 0 ≤ i → i + m = l.length → 0 ≤ a → a ≤ i → 0 ≤ b → b ≤ i → Wp (fun k => impl_StrengthOf.l0 k a b l l.length i n u d s w fb) (fun r => r = (a + cS s (l.drop i.toNat), b + cW s w (l.drop i.toNat), 0))
  | 0, i, a, b, i0, i1, _, _, _, _ => by
    refine Wp.step ?_
    simp only [impl_StrengthOf.l0]
    exact Wp.neg (by omega) (Wp.now (by rw [List.drop_eq_nil_of_le (by omega)]; simp [cS, cW]))
  | m + 1, i, a, b, i0, i1, a0, a1, b0, b1 => by
    have hx := hp _ (rd_mem i0 (show i < l.length by omega))
    refine Wp.step ?_
    simp only [impl_StrengthOf.l0, impl_ToneOf.f, Option.bind_some]
    rw [tn_eq hx, w64 (n := i + 1) (by omega) (by omega), w64 (n := a + 1) (by omega) (by omega), w64 (n := b + 1) (by omega) (by omega), drop_cons i0 (by omega), cS_cons, cW_cons]
    refine Wp.pos (by omega) (Wp.pos i0 (Wp.pos (by omega) (Wp.ite (fun e => ?_) (fun e => Wp.ite (fun e' => ?_) (fun e' => ?_)))))
    · refine (strength_l0 hl hp m (i + 1) (a + 1) b (by omega) (by omega) (by omega) (by omega) (by omega) (by omega)).mono ?_
      rintro r rfl
      rw [if_pos e, if_pos e]; simp; omega
    · refine (strength_l0 hl hp m (i + 1) a (b + 1) (by omega) (by omega) (by omega) (by omega) (by omega) (by omega)).mono ?_
      rintro r rfl
      rw [if_neg e, if_neg e, if_pos e']; simp; omega
    · refine (strength_l0 hl hp m (i + 1) a b (by omega) (by omega) (by omega) (by omega) (by omega) (by omega)).mono ?_
      rintro r rfl
      rw [if_neg e, if_neg e, if_neg e']; simp
theorem pitchesOk_f {l : List Int} (hl : l.length ≤ 9) (hp : ∀ x ∈ l, pit x) : impl_pitchesOk.f l = some true := by
  unfold impl_pitchesOk.f impl_allWithin.f
  rw [if_pos (by omega)]
  simp only [Option.bind_some, Option.some.injEq, List.all_eq_true]
  intro x hx
  have := hp x hx
  unfold pit at this
  simp [within_]; omega
theorem fWrong_wp (h : ragaP n u d s w fb) {l : List Int} (hl : l.length ≤ 9) (hp : ∀ x ∈ l, pit x) : Wp (fun k => impl_FirstWrong.f k n u d s w fb l) (fun r => (r = (0, 0, 3) ∧ good u d fb l l.length) ∨ (r.2.2 = 0 ∧ r.2.1 ≠ 0 ∧ wrongAt u d fb l (r.1, r.2.1))) := by
  simp only [impl_FirstWrong.f, impl_Raga_firstWrong.f]
  refine Wp.val (vRaga_wp h) (Wp.posB rfl (Wp.calls (pitchesOk_f hl hp) (Wp.posB rfl (Wp.call (firstWrong_l0 h hl hp l.length 0 (by omega) (by omega) ⟨fun x => absurd x (by decide), fun j j0 j1 => by omega⟩) ?_))))
  rintro ⟨a, b⟩ hw
  dsimp only at *
  refine Wp.ite (fun e => Wp.now (.inl ⟨rfl, ?_⟩)) (fun e => Wp.now (.inr ⟨rfl, e, hw⟩))
  rcases hw with hw | hw
  · exact hw.2
  · exact absurd e hw.2.2.1
theorem strength_wp (h : ragaP n u d s w fb) {l : List Int} (hl : l.length ≤ 9) (hp : ∀ x ∈ l, pit x) : Wp (fun k => impl_StrengthOf.f k n u d s w fb l) (fun r => r = (cS s l, cW s w l, 0)) := by
  simp only [impl_StrengthOf.f]
  refine Wp.val (vRaga_wp h) (Wp.posB rfl (Wp.calls (pitchesOk_f hl hp) (Wp.posB rfl ((strength_l0 hl hp l.length 0 0 0 (by omega) (by omega) (by omega) (by omega) (by omega) (by omega)).mono ?_))))
  rintro r rfl
  simp
theorem tones_wp (h : ragaP n u d s w fb) : Wp (fun k => spec_TonesOf.f k n u d s w fb) (fun r => r.1.length ≤ 12 ∧ ∀ x, x ∈ r.1 ↔ (0 ≤ x ∧ x < 12 ∧ (x ∈ u ∨ x ∈ d))) := by
  have key : ∀ (m : Nat) (l : List Int) (i : Int), 0 ≤ i → i + m = 12 → l.length + m ≤ 12 → (∀ x, x ∈ l ↔ (0 ≤ x ∧ x < i ∧ (x ∈ u ∨ x ∈ d))) → Wp (fun k => spec_l05Tones.l0 k [(⟨n, u, d, s, w, fb⟩ : S27)] l i) (fun r => r.length ≤ 12 ∧ ∀ x, x ∈ r ↔ (0 ≤ x ∧ x < 12 ∧ (x ∈ u ∨ x ∈ d))) := by
    intro m
    induction m with
    | zero =>
      intro l i i0 i1 hl hx
      refine Wp.step ?_
      simp only [spec_l05Tones.l0]
      exact Wp.neg (by omega) (Wp.now ⟨by omega, by rw [show i = 12 by omega] at hx; exact hx⟩)
    | succ m ih =>
      intro l i i0 i1 hl hx
      refine Wp.step ?_
      simp only [spec_l05Tones.l0]
      rw [w64 (n := i + 1) (by omega) (by omega)]
      refine Wp.pos (by omega) (Wp.val (l05Tone_wp h.2.2.1 h.2.2.2.1 i) (Wp.ite (fun e => Wp.pos (by omega) (ih _ _ (by omega) (by omega) (by simp; omega) (fun x => ?_))) (fun e => ih _ _ (by omega) (by omega) (by omega) (fun x => ?_))))
      · have e := of_decide_eq_true e
        rw [List.mem_append, List.mem_singleton, hx]
        constructor
        · rintro (⟨x0, x1, x2⟩ | rfl)
          · exact ⟨x0, by omega, x2⟩
          · exact ⟨i0, by omega, e⟩
        · rintro ⟨x0, x1, x2⟩
          by_cases hxi : x = i
          · exact .inr hxi
          · exact .inl ⟨x0, by omega, x2⟩
      · rw [decide_eq_true_eq] at e
        rw [hx]
        constructor
        · rintro ⟨x0, x1, x2⟩; exact ⟨x0, by omega, x2⟩
        · rintro ⟨x0, x1, x2⟩
          by_cases hxi : x = i
          · rw [hxi] at x2; exact absurd x2 e
          · exact ⟨x0, by omega, x2⟩
  simp only [spec_TonesOf.f, spec_l05Tones.f]
  refine Wp.val (l05Ok_wp h) (Wp.posB rfl (Wp.call (key 12 [] 0 (by omega) (by omega) (by simp) (fun x => ⟨fun x => (by cases x), fun ⟨a, b, _⟩ => by omega⟩)) (fun r hr => Wp.now hr)))
theorem l03Pitch_f {a : Int} (h : pit a) : spec_l03Pitch.f a = some true := by
  unfold spec_l03Pitch.f
  rw [l00In_f]
  unfold pit at h
  simp [within_]; omega
theorem allowed_wp (h : ragaP n u d s w fb) {a b : Int} (ha : pit a) (hb : pit b) : Wp (fun k => spec_IsAllowed.f k n u d s w fb a b) (fun r => r = (rsn u d fb a b == 0)) := by
  simp only [spec_IsAllowed.f, l03Pitch_f ha, l03Pitch_f hb, Option.bind_some]
  exact Wp.val (l05Ok_wp h) (Wp.posB rfl (Wp.pos trivial (Wp.pos trivial (Wp.val (sReason_wp h ha hb) (Wp.now rfl)))))
theorem reasonOf_wp (h : ragaP n u d s w fb) {a b : Int} (ha : pit a) (hb : pit b) : Wp (fun k => spec_ReasonOf.f k n u d s w fb a b) (fun r => rsn u d fb a b ≠ 0 → r = (rsn u d fb a b, 0)) := by
  simp only [spec_ReasonOf.f, l03Pitch_f ha, l03Pitch_f hb, Option.bind_some]
  refine Wp.val (l05Ok_wp h) (Wp.posB rfl (Wp.pos trivial (Wp.step ?_)))
  simp only [spec_ReasonOf.j0]
  exact Wp.neg (by decide) (Wp.val (sReason_wp h ha hb) (Wp.ite (fun e => Wp.now (fun x => absurd e x)) (fun e => Wp.now (fun _ => rfl))))
theorem toneOf_f {a : Int} (h : pit a) : spec_ToneOf.f a = some (tn a) := by
  unfold spec_ToneOf.f spec_l03Tone.f
  rw [Option.bind_some, tn_eq h]
theorem law_l1 {l : List Int} (hl : l.length ≤ 9) (hp : ∀ x ∈ l, pit x) : ∀ (m : Nat) (i a b : Int), 0 ≤ i → i + m = l.length → a = cS s (l.drop i.toNat) → b = cW s w (l.drop i.toNat) → Wp (fun k => laws_FnMoves.l1 k l a b i n u d s w fb) (fun r => r = true)
  | 0, i, a, b, i0, i1, ha, hb => by
    rw [List.drop_eq_nil_of_le (by omega)] at ha hb
    simp [cS] at ha
    simp [cW] at hb
    refine Wp.step ?_
    simp only [laws_FnMoves.l1]
    exact Wp.neg (by omega) (Wp.pos ha (Wp.now (by rw [hb]; rfl)))
  | m + 1, i, a, b, i0, i1, ha, hb => by
    have hx := hp _ (rd_mem i0 (show i < l.length by omega))
    have la := cS_le s (l.drop i.toNat)
    have lb := cW_le s w (l.drop i.toNat)
    rw [List.length_drop] at la lb
    rw [← ha] at la
    rw [← hb] at lb
    rw [drop_cons i0 (by omega), cS_cons] at ha
    rw [drop_cons i0 (by omega), cW_cons] at hb
    refine Wp.step ?_
    simp only [laws_FnMoves.l1, toneOf_f hx, Option.bind_some]
    rw [w64 (n := i + 1) (by omega) (by omega), w64 (n := a - 1) (by omega) (by omega), w64 (n := b - 1) (by omega) (by omega)]
    refine Wp.pos (by omega) (Wp.pos i0 (Wp.ite (fun e => ?_) (fun e => Wp.ite (fun e' => ?_) (fun e' => ?_))))
    · rw [if_pos e] at ha hb
      exact law_l1 hl hp m (i + 1) _ _ (by omega) (by omega) (by omega) (by omega)
    · rw [if_neg e] at ha hb
      rw [if_pos e'] at hb
      exact law_l1 hl hp m (i + 1) _ _ (by omega) (by omega) (by omega) (by omega)
    · rw [if_neg e] at ha hb
      rw [if_neg e'] at hb
      exact law_l1 hl hp m (i + 1) _ _ (by omega) (by omega) (by omega) (by omega)
theorem law_l0 (h : ragaP n u d s w fb) {l T : List Int} (hl : l.length ≤ 9) (hp : ∀ x ∈ l, pit x) (hT : T.length ≤ 12 ∧ ∀ x, x ∈ T ↔ (0 ≤ x ∧ x < 12 ∧ (x ∈ u ∨ x ∈ d))) {last : Int} (hlast : last ≤ l.length) (hg : good u d fb l last) :
    ∀ (m : Nat) (i : Int), 0 ≤ i → i + m = l.length + 1 → Wp (fun k => laws_FnMoves.l0 k l (cS s l) (cW s w l) T last i n u d s w fb) (fun r => r = true)
  | 0, i, i0, i1 => by
    refine Wp.step ?_
    simp only [laws_FnMoves.l0]
    exact Wp.neg (by omega) (law_l1 hl hp l.length 0 _ _ (by omega) (by omega) (by simp) (by simp))
  | m + 1, i, i0, i1 => by
    refine Wp.step ?_
    simp only [laws_FnMoves.l0]
    refine Wp.ite (fun hi => ?_) (fun _ => law_l1 hl hp l.length 0 _ _ (by omega) (by omega) (by simp) (by simp))
    rw [w64 (n := i + 1) (by omega) (by omega), w64 (n := i - 1) (by omega) (by omega)]
    have next := law_l0 h hl hp hT hlast hg m (i + 1) (by omega) (by omega)
    refine Wp.ite (fun e => ?_) (fun e => ?_)
    · have hx := hp _ (rd_mem (i := 0) (by omega) (by omega))
      rw [toneOf_f hx]
      refine Wp.pos (by omega) (Wp.calls rfl (Wp.val (r8Has_wp (by omega) _) (Wp.posB (decide_eq_true ((hT.2 _).2 ⟨(tn_0 _).1, by have := tn_0 (rd l 0); omega, hg.1 (by omega)⟩)) (Wp.neg (by omega) next))))
    · have hx := hp _ (rd_mem i0 (show i < l.length by omega))
      have hy := hp _ (rd_mem (i := i - 1) (by omega) (show i - 1 < l.length by omega))
      refine Wp.pos (by omega) (Wp.pos (by omega) (Wp.pos (by omega) (Wp.pos i0 (Wp.pos (by omega) (Wp.val (allowed_wp h hy hx) (Wp.posB ?_ next))))))
      rw [hg.2 i (by omega) hi]; rfl
theorem law_j3 (h : ragaP n u d s w fb) {l T : List Int} (hl : l.length ≤ 9) (hp : ∀ x ∈ l, pit x) (hT : T.length ≤ 12 ∧ ∀ x, x ∈ T ↔ (0 ≤ x ∧ x < 12 ∧ (x ∈ u ∨ x ∈ d))) {last : Int} (hlast : last ≤ l.length) (hg : good u d fb l last) : Wp (fun k => laws_FnMoves.j3 k l (cS s l) (cW s w l) T last n u d s w fb) (fun r => r = true) := by
  refine Wp.step ?_
  simp only [laws_FnMoves.j3]
  exact law_l0 h hl hp hT hlast hg (l.length + 1) 0 (by omega) (by omega)
end
theorem FnMoves : laws_FnMoves.Pure := by
  intro code more hc hm
  apply Wp.rounds
  obtain ⟨z, ez⟩ : ∃ z, laws_r8Long.f code more = some z := by unfold laws_r8Long.f; split <;> exact ⟨_, rfl⟩
  simp only [laws_FnMoves.f]
  refine Wp.calls ez (Wp.iteB (fun _ => Wp.now rfl) (fun _ => Wp.call (r8raga_wp hc.1 hc.2) ?_))
  rintro ⟨n, u, d, s, w, fb⟩ h
  dsimp only at *
  refine Wp.call (pitches_wp hm.1 hm.2 h) ?_
  rintro l ⟨hl, hp⟩
  refine Wp.call (fWrong_wp h hl hp) ?_
  rintro ⟨k, reason, a⟩ hw
  dsimp only at *
  refine Wp.val (strength_wp h hl hp) (Wp.call (tones_wp h) ?_)
  rintro ⟨T, c⟩ hT
  dsimp only at *
  rcases hw with ⟨e, hg⟩ | ⟨rfl, hr, hw⟩
  · injection e with e1 e2
    injection e2 with e2 e3
    subst e1; subst e2; subst e3
    refine Wp.neg (by decide) (Wp.pos rfl (Wp.step ?_))
    simp only [laws_FnMoves.j0]
    exact Wp.neg (by decide) (Wp.neg (by decide) (law_j3 h hl hp hT (by omega) hg))
  · have hw : 0 ≤ k ∧ k < l.length ∧ reason ≠ 0 ∧ (k = 0 → reason = 1) ∧ (0 < k → reason = rsn u d fb (rd l (k - 1)) (rd l k)) ∧ good u d fb l k := by
      rcases hw with ⟨e, _⟩ | hw
      · injection e with _ e; exact absurd e hr
      · exact hw
    obtain ⟨k0, k1, _, k2, k3, hg⟩ := hw
    refine Wp.pos rfl (Wp.step ?_)
    simp only [laws_FnMoves.j0]
    refine Wp.neg (by decide) (Wp.pos trivial (Wp.neg (by omega) (Wp.step ?_)))
    simp only [laws_FnMoves.j1]
    have j2 : ∀ z : Bool, z = false → Wp (fun m => laws_FnMoves.j2 m l k reason (cS s l) (cW s w l) T k z n u d s w fb) (fun r => r = true) := by
      intro z hz
      refine Wp.step ?_
      simp only [laws_FnMoves.j2]
      refine Wp.negB hz (Wp.ite (fun hk => ?_) (fun _ => law_j3 h hl hp hT (by omega) hg))
      rw [w64 (n := k - 1) (by omega) (by omega)]
      refine Wp.pos (by omega) (Wp.pos (by omega) (Wp.pos k0 (Wp.pos k1 (Wp.call (reasonOf_wp h (hp _ (rd_mem (by omega) (by omega))) (hp _ (rd_mem k0 k1))) ?_))))
      intro r hr2
      have e := hr2 (by rw [← k3 hk]; exact hr)
      subst e
      exact Wp.pos rfl (Wp.pos (k3 hk).symm (law_j3 h hl hp hT (by omega) hg))
    refine Wp.neg (by simp; omega) (Wp.ite (fun hk => j2 _ (by rw [k2 hk]; rfl)) (fun _ => j2 _ rfl))
end Go.Proofs.Ytbedlmlofnphkaa.Pure
