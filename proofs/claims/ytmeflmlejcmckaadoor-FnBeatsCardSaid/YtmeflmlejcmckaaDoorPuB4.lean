/- Plain facts: valid tunings, their cents and frequencies. -/
import Derived.Test.YtmeflmlejcmckaaDoorPuB2
import Derived.Test.YtmeflmlejcmckaaDoorPBx13
import Derived.Test.YtmeflmlejcmckaaDoorPBx15
import Derived.Test.YtmeflmlejcmckaaDoorPBx17
import Derived.Test.YtmeflmlejcmckaaDoorPBx18
import Derived.Test.YtmeflmlejcmckaaDoorPBx22
namespace Go.Proofs.YtmeflmlejcmckaaDoor.Pure
open Go.RowKit Go.Proofs.YtmeflmlejcmckaaDoor.PB Go.Proofs.YtmeflmlejcmckaaDoorW.PrintWords Go.Proofs.YtmeflmlejcmckaaDoorW.PrintLast
set_option linter.unusedSimpArgs false
set_option linter.unusedVariables false
/-! ### valid tunings -/
def f0 (l : List S52) (i : Int) : Int := (rd_T52 l i).f0
def f1 (l : List S52) (i : Int) : Int := (rd_T52 l i).f1
def Ok1 (l : List S52) (j : Int) : Prop := vR (f0 l j) (f1 l j) = true ∧ f0 l j < 2 * f1 l j ∧ (0 < j → f0 l (j - 1) * f1 l j < f0 l j * f1 l (j - 1))
structure VT (l : List S52) : Prop where
  len : l.length = 12
  one : f0 l 0 = 1 ∧ f1 l 0 = 1
  all : ∀ j : Int, 0 ≤ j → j < 12 → Ok1 l j
theorem cmp_f (x y : Int) : cmp_Compare_int64.f x y = some (if x < y then -1 else if x > y then 1 else 0) := by
  unfold cmp_Compare_int64.f cmp_isNaN_int64.f
  have hx : (x != x) = false := by simp
  have hy : (y != y) = false := by simp
  simp only [hx, hy, Option.bind_some, Bool.false_eq_true, if_false]
  by_cases e1 : x < y
  · simp [e1]
  · by_cases e2 : x > y
    · simp [e1, show y < x from e2]
    · simp [e1, show ¬ y < x from e2]
theorem vmul {a d : Int} (a1 : 1 ≤ a) (a2 : a ≤ 1000000) (d1 : 1 ≤ d) (d2 : d ≤ 1000000) : 0 ≤ a * d ∧ a * d ≤ 1000000 * 1000000 := ⟨Int.mul_nonneg (by omega) (by omega), Int.mul_le_mul a2 d2 (by omega) (by omega)⟩
theorem vt_l0 (a : ByteArray) (l : List S52) (hl : l.length = 12) : ∀ (d : Nat) (i : Int), 0 ≤ i → i + d = 12 → (∀ j : Int, 0 ≤ j → j < i → vR (f0 l j) (f1 l j) = true) →
    Wp (fun k => impl_ValidTuning.l0 k l (l.length : Int) i a l) (fun r => r = true → ∀ j : Int, i ≤ j → j < 12 → Ok1 l j)
  | 0, i, h0, h1, hp => by
    refine Wp.step ?_
    simp only [impl_ValidTuning.l0]
    exact Wp.neg (by omega) (Wp.now (fun _ j a b => by omega))
  | d + 1, i, h0, h1, hp => by
    refine Wp.step ?_
    simp only [impl_ValidTuning.l0]
    have e1 : wrap64 (i + 1) = i + 1 := w64 (by omega) (by omega)
    have e2 : wrap64 (i - 1) = i - 1 := w64 (by omega) (by omega)
    simp only [e1, e2]
    refine Wp.pos (by omega) (Wp.pos h0 (Wp.pos (by omega) (Wp.val (validI_wp (f0 l i) (f1 l i)) (Wp.iteB (fun hv => ?_) (fun _ => Wp.now (fun h => by cases h))))))
    obtain ⟨⟨a1, a2⟩, ⟨b1, b2⟩, _⟩ := vR_iff.1 hv
    have e3 : wrap64 (2 * (rd_T52 l i).f1) = 2 * f1 l i := w64 (by unfold f1 at b1; omega) (by unfold f1 at b2; omega)
    simp only [e3]
    have nx := vt_l0 a l hl d (i + 1) (by omega) (by omega) (fun j x y => by
      by_cases e : j = i
      · rw [e]; exact hv
      · exact hp j x (by omega))
    refine Wp.ite (fun _ => Wp.now (fun h => by cases h)) (fun g => Wp.ite (fun g2 => Wp.pos (by omega) (Wp.pos (by omega) ?_)) (fun g2 => nx.mono (fun r hr h j x y => ?_)))
    · have hv' := hp (i - 1) (by omega) (by omega)
      obtain ⟨⟨c1, c2⟩, ⟨d1, d2⟩, _⟩ := vR_iff.1 hv'
      have m1 := vmul a1 a2 d1 d2
      have m2 := vmul c1 c2 b1 b2
      have e4 : wrap64 ((rd_T52 l i).f0 * (rd_T52 l (i - 1)).f1) = f0 l i * f1 l (i - 1) := w64 (by unfold f0 f1 at m1; omega) (by unfold f0 f1 at m1; omega)
      have e5 : wrap64 ((rd_T52 l (i - 1)).f0 * (rd_T52 l i).f1) = f0 l (i - 1) * f1 l i := w64 (by unfold f0 f1 at m2; omega) (by unfold f0 f1 at m2; omega)
      have hc : impl_Ratio_compare.f (rd_T52 l i).f0 (rd_T52 l i).f1 (rd_T52 l (i - 1)).f0 (rd_T52 l (i - 1)).f1 = some (if f0 l i * f1 l (i - 1) < f0 l (i - 1) * f1 l i then -1 else if f0 l i * f1 l (i - 1) > f0 l (i - 1) * f1 l i then 1 else 0) := by
        unfold impl_Ratio_compare.f
        rw [e4, e5, cmp_f]; rfl
      refine Wp.calls hc (Wp.ite (fun _ => Wp.now (fun h => by cases h)) (fun g3 => nx.mono (fun r hr h j x y => ?_)))
      by_cases e : j = i
      · rw [e]
        refine ⟨hv, by unfold f0; omega, fun _ => ?_⟩
        split at g3
        · omega
        · split at g3
          · assumption
          · omega
      · exact hr h j (by omega) y
    · by_cases e : j = i
      · rw [e]; exact ⟨hv, by unfold f0; omega, fun h => by omega⟩
      · exact hr h j (by omega) y
theorem valid_wp (a : ByteArray) (l : List S52) (ha : a.size ≤ maxLen) : ∃ v : Bool, Wp (fun k => impl_ValidTuning.f k a l) (fun r => r = v) ∧ (v = true → VT l) := by
  have H : Wp (fun k => impl_ValidTuning.f k a l) (fun r => r = true → VT l) := by
    obtain ⟨K, hK⟩ := isName_ev a ha
    have J : ∀ b : Bool, (b = false → l.length = 12 ∧ f0 l 0 = 1 ∧ f1 l 0 = 1) → Wp (fun k => impl_ValidTuning.j0 k b a l) (fun r => r = true → VT l) := fun b hb => by
      refine Wp.step ?_
      simp only [impl_ValidTuning.j0]
      refine Wp.iteB (fun _ => Wp.now (fun h => by cases h)) (fun e => ?_)
      obtain ⟨h1, h2, h3⟩ := hb e
      exact (vt_l0 a l h1 12 0 (by omega) (by omega) (fun j x y => by omega)).mono (fun r hr h => ⟨h1, ⟨h2, h3⟩, fun j x y => hr h j x y⟩)
    simp only [impl_ValidTuning.f]
    refine Wp.val (a := nameB a) ⟨_, rfl, K, hK⟩ (Wp.ite (fun _ => Wp.ite (fun g => Wp.pos (by omega) (J _ (fun h => ⟨by omega, ?_⟩))) (fun _ => J _ (fun h => by cases h))) (fun _ => J _ (fun h => by cases h)))
    simp only [Bool.or_eq_false_iff, Bool.not_eq_false', beq_iff_eq] at h
    exact h
  obtain ⟨v, hv, hg⟩ := H
  exact ⟨v, ⟨v, rfl, hg⟩, hv⟩
theorem vt_rng {l : List S52} (h : VT l) {j : Int} (h0 : 0 ≤ j) (h1 : j < 12) : (1 ≤ f0 l j ∧ f0 l j ≤ 1000000) ∧ 1 ≤ f1 l j ∧ f1 l j ≤ 1000000 := by
  obtain ⟨hv, _⟩ := h.all j h0 h1
  obtain ⟨a, b, _⟩ := vR_iff.1 hv
  exact ⟨a, b⟩
theorem vt_ge {l : List S52} (h : VT l) : ∀ (n : Nat), n < 12 → f1 l n ≤ f0 l n
  | 0, _ => by have := h.one; show f1 l 0 ≤ f0 l 0; omega
  | n + 1, hn => by
    have ih := vt_ge h n (by omega)
    have o := (h.all ((n + 1 : Nat) : Int) (by omega) (by omega)).2.2 (by omega)
    rw [show ((n + 1 : Nat) : Int) - 1 = n by omega] at o
    obtain ⟨⟨a1, a2⟩, b1, b2⟩ := vt_rng h (j := n) (by omega) (by omega)
    obtain ⟨⟨c1, c2⟩, d1, d2⟩ := vt_rng h (j := ((n + 1 : Nat) : Int)) (by omega) (by omega)
    generalize f0 l ((n + 1 : Nat) : Int) = A at *
    generalize f1 l ((n + 1 : Nat) : Int) = B at *
    generalize f0 l n = C at *
    generalize f1 l n = D at *
    have h2 : D * B ≤ C * B := Int.mul_le_mul_of_nonneg_right ih (by omega)
    have h3 : B * D < A * D := by rw [Int.mul_comm B D]; omega
    have := Int.lt_of_mul_lt_mul_right h3 (by omega)
    omega
theorem vt_chain {l : List S52} (h : VT l) (i : Nat) : ∀ (d : Nat), i + d < 12 → f0 l i * f1 l ((i + d : Nat) : Int) ≤ f0 l ((i + d : Nat) : Int) * f1 l i
  | 0, _ => Int.le_refl _
  | d + 1, hd => by
    have ih := vt_chain h i d (by omega)
    have o := (h.all ((i + (d + 1) : Nat) : Int) (by omega) (by omega)).2.2 (by omega)
    rw [show ((i + (d + 1) : Nat) : Int) - 1 = ((i + d : Nat) : Int) by omega] at o
    obtain ⟨⟨a1, a2⟩, b1, b2⟩ := vt_rng h (j := ((i + d : Nat) : Int)) (by omega) (by omega)
    obtain ⟨⟨c1, c2⟩, d1, d2⟩ := vt_rng h (j := ((i + (d + 1) : Nat) : Int)) (by omega) (by omega)
    obtain ⟨⟨g1, g2⟩, k1, k2⟩ := vt_rng h (j := i) (by omega) (by omega)
    generalize f0 l ((i + (d + 1) : Nat) : Int) = A at *
    generalize f1 l ((i + (d + 1) : Nat) : Int) = B at *
    generalize f0 l ((i + d : Nat) : Int) = C at *
    generalize f1 l ((i + d : Nat) : Int) = D at *
    generalize f0 l i = E at *
    generalize f1 l i = F at *
    refine Int.le_of_mul_le_mul_right (?_ : E * B * D ≤ A * F * D) (by omega)
    have s1 : E * D * B ≤ C * F * B := Int.mul_le_mul_of_nonneg_right ih (by omega)
    have s2 : C * B * F ≤ A * D * F := Int.mul_le_mul_of_nonneg_right (by omega) (by omega)
    grind
theorem vt_cents {l : List S52} (h : VT l) {i j : Int} (h0 : 0 ≤ i) (h1 : i ≤ j) (h2 : j < 12) {x y : Int} (hx : Cts (f0 l i) (f1 l i) x) (hy : Cts (f0 l j) (f1 l j) y) : x ≤ y := by
  have c := vt_chain h i.toNat (j - i).toNat (by omega)
  rw [show ((i.toNat : Nat) : Int) = i by omega, show ((i.toNat + (j - i).toNat : Nat) : Int) = j by omega] at c
  exact cts_mono hx hy (vt_rng h h0 (by omega)).2.1 (vt_rng h (by omega) h2).2.1 c
theorem vt_crng {l : List S52} (h : VT l) {i : Int} (h0 : 0 ≤ i) (h1 : i < 12) {x : Int} (hx : Cts (f0 l i) (f1 l i) x) : 0 ≤ x ∧ x ≤ 120000 := by
  obtain ⟨⟨a1, a2⟩, b1, b2⟩ := vt_rng h h0 h1
  have lo := vt_ge h i.toNat (by omega)
  rw [show ((i.toNat : Nat) : Int) = i by omega] at lo
  have hi := (h.all i h0 h1).2.1
  rw [cts_eq hx (oct_self lo hi b1 b2) b1 b1 rfl]
  exact gV_le lo hi b1 b2
/-! ### pitches -/
def tn (p : Int) : Int := (p + 12) % 12
def oc (p : Int) : Int := (p + 12) / 12 - 1
theorem tone_all : ∀ n : Fin 36, impl_ToneOf.f (((n.val : Nat) : Int) - 12) = some (tn (((n.val : Nat) : Int) - 12)) ∧ impl_octaveOf.f (((n.val : Nat) : Int) - 12) = some (oc (((n.val : Nat) : Int) - 12)) := by decide +kernel
theorem tone_f {p : Int} (h0 : -12 ≤ p) (h1 : p ≤ 23) : impl_ToneOf.f p = some (tn p) ∧ impl_octaveOf.f p = some (oc p) := by
  have := tone_all ⟨(p + 12).toNat, by omega⟩
  simp only at this
  rwa [show (((p + 12).toNat : Nat) : Int) - 12 = p by omega] at this
def fv (l : List S52) (base p : Int) : Int :=
  if oc p = -1 then rnd (base * f0 l (tn p)) (f1 l (tn p) * 2) else if oc p = 1 then rnd (base * f0 l (tn p) * 2) (f1 l (tn p)) else rnd (base * f0 l (tn p)) (f1 l (tn p))
theorem tn_rng (p : Int) : 0 ≤ tn p ∧ tn p < 12 := by unfold tn; omega
theorem base_bd {l : List S52} (h : VT l) {base : Int} (b0 : 10000 ≤ base) (b1 : base ≤ 2000000) {j : Int} (h0 : 0 ≤ j) (h1 : j < 12) : 0 ≤ base * f0 l j ∧ base * f0 l j ≤ 2000000000000 ∧ 10000 * f1 l j ≤ base * f0 l j ∧ base * f0 l j ≤ 4000000 * f1 l j := by
  obtain ⟨⟨a1, a2⟩, c1, c2⟩ := vt_rng h h0 h1
  have lo := vt_ge h j.toNat (by omega)
  rw [show ((j.toNat : Nat) : Int) = j by omega] at lo
  have hi := (h.all j h0 h1).2.1
  have m1 : 10000 * f0 l j ≤ base * f0 l j := Int.mul_le_mul_of_nonneg_right b0 (by omega)
  have m2 : base * f0 l j ≤ 2000000 * f0 l j := Int.mul_le_mul_of_nonneg_right b1 (by omega)
  omega
theorem rnd_hi {x d q : Int} (hd : 1 ≤ d) (h : 2 * x + d < (q + 1) * (2 * d)) : rnd x d ≤ q := by
  have : ¬ (q + 1 ≤ rnd x d) := fun g => by have := (rnd_le hd).1 g; omega
  omega
theorem fv_rng {l : List S52} (h : VT l) {base : Int} (b0 : 10000 ≤ base) (b1 : base ≤ 2000000) (p : Int) : 1 ≤ fv l base p ∧ fv l base p ≤ 10000000 := by
  obtain ⟨t0, t1⟩ := tn_rng p
  obtain ⟨⟨a1, a2⟩, c1, c2⟩ := vt_rng h t0 t1
  obtain ⟨q0, q1, q2, q3⟩ := base_bd h b0 b1 t0 t1
  unfold fv
  generalize base * f0 l (tn p) = X at *
  generalize f1 l (tn p) = D at *
  split
  · exact ⟨(rnd_le (by omega)).2 (by omega), rnd_hi (by omega) (by omega)⟩
  · split
    · exact ⟨(rnd_le (by omega)).2 (by omega), rnd_hi (by omega) (by omega)⟩
    · exact ⟨(rnd_le (by omega)).2 (by omega), rnd_hi (by omega) (by omega)⟩
theorem freq_f {l : List S52} (h : VT l) (a : ByteArray) {base p : Int} (b0 : 10000 ≤ base) (b1 : base ≤ 2000000) (p0 : -12 ≤ p) (p1 : p ≤ 23) : impl_Tuning_frequency.f a l base p = some (fv l base p) := by
  obtain ⟨t0, t1⟩ := tn_rng p
  obtain ⟨⟨a1, a2⟩, c1, c2⟩ := vt_rng h t0 t1
  obtain ⟨q0, q1, q2, q3⟩ := base_bd h b0 b1 t0 t1
  have hl := h.len
  unfold impl_Tuning_frequency.f
  rw [(tone_f p0 p1).1, Option.bind_some, if_pos t0, if_pos (by omega), (tone_f p0 p1).2, Option.bind_some]
  unfold fv
  have e1 : wrap64 (base * (rd_T52 l (tn p)).f0) = base * f0 l (tn p) := w64 (by unfold f0 at q0; omega) (by unfold f0 at q1; omega)
  have e2 : wrap64 ((rd_T52 l (tn p)).f1 * 2) = f1 l (tn p) * 2 := w64 (by unfold f1 at c1; omega) (by unfold f1 at c2; omega)
  rw [e1, e2]
  have e3 : wrap64 (base * f0 l (tn p) * 2) = base * f0 l (tn p) * 2 := w64 (by omega) (by omega)
  rw [e3]
  have e4 : (rd_T52 l (tn p)).f1 = f1 l (tn p) := rfl
  rw [e4]
  generalize base * f0 l (tn p) = X at *
  generalize f1 l (tn p) = D at *
  split
  · rw [divI_f (by omega) (by omega) (by omega) (by omega)]; rfl
  · split
    · rw [divI_f (by omega) (by omega) (by omega) (by omega)]; rfl
    · rw [divI_f (by omega) (by omega) (by omega) (by omega)]; rfl
theorem dbl {x d : Int} (hd : 1 ≤ d) : rnd (x * 2) d - 2 * rnd x d ≤ 1 ∧ -1 ≤ rnd (x * 2) d - 2 * rnd x d := by
  have a1 : rnd x d * (2 * d) ≤ 2 * x + d := (rnd_le hd).1 (Int.le_refl _)
  have a2 : ¬ ((rnd x d + 1) * (2 * d) ≤ 2 * x + d) := fun h => by have := (rnd_le hd).2 h; omega
  generalize rnd x d = f at *
  have b1 : rnd (x * 2) d ≤ 2 * f + 1 := rnd_hi hd (by grind)
  have b2 : 2 * f - 1 ≤ rnd (x * 2) d := (rnd_le hd).2 (by grind)
  omega
theorem hlf {x d : Int} (hd : 1 ≤ d) : rnd x d - 2 * rnd x (d * 2) ≤ 1 ∧ -1 ≤ rnd x d - 2 * rnd x (d * 2) := by
  have a1 : rnd x (d * 2) * (2 * (d * 2)) ≤ 2 * x + d * 2 := (rnd_le (by omega)).1 (Int.le_refl _)
  have a2 : ¬ ((rnd x (d * 2) + 1) * (2 * (d * 2)) ≤ 2 * x + d * 2) := fun h => by have := (rnd_le (d := d * 2) (by omega)).2 h; omega
  generalize rnd x (d * 2) = f at *
  have b1 : rnd x d ≤ 2 * f + 1 := rnd_hi hd (by grind)
  have b2 : 2 * f - 1 ≤ rnd x d := (rnd_le hd).2 (by grind)
  omega
theorem fv_up (l : List S52) {base p : Int} (hd : 1 ≤ f1 l (tn p)) (p0 : -12 ≤ p) (p1 : p + 12 ≤ 23) : fv l base (p + 12) - 2 * fv l base p ≤ 1 ∧ -1 ≤ fv l base (p + 12) - 2 * fv l base p := by
  have et : tn (p + 12) = tn p := by unfold tn; omega
  unfold fv
  rw [et]
  by_cases hp : p < 0
  · rw [if_neg (show ¬ oc (p + 12) = -1 by unfold oc; omega), if_neg (show ¬ oc (p + 12) = 1 by unfold oc; omega), if_pos (show oc p = -1 by unfold oc; omega)]
    exact hlf hd
  · rw [if_neg (show ¬ oc (p + 12) = -1 by unfold oc; omega), if_pos (show oc (p + 12) = 1 by unfold oc; omega), if_neg (show ¬ oc p = -1 by unfold oc; omega), if_neg (show ¬ oc p = 1 by unfold oc; omega)]
    exact dbl hd
theorem centsT_wp {l : List S52} (h : VT l) (a : ByteArray) {p : Int} (p0 : -12 ≤ p) (p1 : p ≤ 23) : Wp (fun k => impl_Tuning_cents.f k a l p) (fun r => ∃ x, Cts (f0 l (tn p)) (f1 l (tn p)) x ∧ r = 120000 * oc p + x) := by
  obtain ⟨t0, t1⟩ := tn_rng p
  have hl := h.len
  simp only [impl_Tuning_cents.f]
  refine Wp.calls (tone_f p0 p1).2 (Wp.calls (tone_f p0 p1).1 (Wp.pos t0 (Wp.pos (by omega) (Wp.call (centsI_wp (h.all _ t0 t1).1) (fun x hx => Wp.now ⟨x, hx, ?_⟩)))))
  have := vt_crng h t0 t1 hx
  have ho : -1 ≤ oc p ∧ oc p ≤ 1 := by unfold oc; omega
  rw [w64 (n := 120000 * oc p) (by omega) (by omega), w64 (by omega) (by omega)]
end Go.Proofs.YtmeflmlejcmckaaDoor.Pure
