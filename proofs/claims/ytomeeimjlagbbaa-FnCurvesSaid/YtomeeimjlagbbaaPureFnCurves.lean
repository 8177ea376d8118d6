/- Smoothing keeps both ends and the range, a glide begins where it should, and notes before others keep the duration. -/
import Derived.Test.YtomeeimjlagbbaaPuU1
import Derived.Test.YtomeeimjlagbbaaPUx18
import Derived.Test.YtomeeimjlagbbaaPUx1
import Derived.Test.YtomeeimjlagbbaaPUx17
namespace Go.Proofs.Ytomeeimjlagbbaa.Pure
open Go.RowKit Go.Proofs.Ytomeeimjlagbbaa.PU Go.Proofs.YtomeeimjlagbbaaW.PrintWords Go.Proofs.YtomeeimjlagbbaaW.PrintLast
set_option linter.unusedSimpArgs false
set_option linter.unusedVariables false

theorem j9_wp {c : List Int} (hc : c.length ≤ maxLen) (hb : Bytes c) : Wp (fun k => laws_FnCurves.j9 k c) (fun r => r = true) := by
  refine Wp.step ?_
  simp only [laws_FnCurves.j9]
  refine Wp.call (drawTrill_wp hc hb) ?_
  rintro ⟨m, k, p, l⟩ hm
  dsimp only at *
  refine Wp.call (trill_wp m (by omega) k p l) ?_
  rintro ⟨t, e⟩ h
  dsimp only at *
  rcases h with ⟨h1, rfl⟩ | ⟨rfl, h1, h2, h3⟩
  · exact Wp.neg h1 (Wp.now rfl)
  · have hl := vm_len h2
    refine Wp.pos rfl (Wp.val (dur_of (by omega)) (Wp.val (dur_of (by omega)) ?_))
    rw [if_pos h1, if_pos h2]
    refine Wp.pos rfl (Wp.pos rfl (Wp.pos (by dsimp only; omega) ?_))
    simp only [spec_ValidMelody.f]
    exact Wp.val (Wp.val (l09Ok_wp t (by omega)) (Wp.now rfl)) (Wp.now h2)
theorem j8_wp {c m : List Int} (hc : c.length ≤ maxLen) (hb : Bytes c) (hm : m.length ≤ maxLen) (hbm : Bytes m) : Wp (fun k => laws_FnCurves.j8 k c m) (fun r => r = true) := by
  have h9 := j9_wp hc hb
  refine Wp.step ?_
  simp only [laws_FnCurves.j8]
  refine Wp.call (drawGrace_wp hm hbm) ?_
  rintro ⟨x, k, p, l⟩ hx
  dsimp only at *
  refine Wp.call (grace_wp x (by omega) k p l) ?_
  rintro ⟨t, e⟩ h
  dsimp only at *
  refine Wp.ite (fun e0 => ?_) (fun _ => h9)
  obtain ⟨h1, h2, h3, h4⟩ := h e0
  have hl := vm_len h2
  refine Wp.val (dur_of (by omega)) (Wp.val (dur_of (by omega)) ?_)
  rw [if_pos h1, if_pos h2]
  refine Wp.pos rfl (Wp.pos rfl (Wp.pos (by dsimp only; omega) ?_))
  simp only [spec_ValidMelody.f]
  refine Wp.val (Wp.val (l09Ok_wp t (by omega)) (Wp.now rfl)) (Wp.posB h2 ?_)
  rw [w64 (n := (x.length : Int) + 1) (by omega) (by omega)]
  exact Wp.pos (by omega) h9
theorem l2_wp {c m : List Int} {a b n : Int} {g : List Int} (ha : -2000 ≤ a ∧ a ≤ 3000) (hb : -2000 ≤ b ∧ b ≤ 3000) (hn : 1 ≤ n) (hn2 : n ≤ 64) (hl : (g.length : Int) = n) (hg : ∀ j : Int, 0 ≤ j → j < n → impl_divRound.f (a * (n - j) + b * j) n = some (rd g j)) (H : Wp (fun k => laws_FnCurves.j8 k c m) (fun r => r = true)) : ∀ (d : Nat) (i : Int), 1 ≤ i → n - i ≤ d → i ≤ 100 →
    Wp (fun k => laws_FnCurves.l2 k c m a b g i) (fun r => r = true)
  | 0, i, i1, i2, i3 => by
    refine Wp.step ?_
    simp only [laws_FnCurves.l2]
    exact Wp.neg (by omega) H
  | d + 1, i, i1, i2, i3 => by
    refine Wp.step ?_
    simp only [laws_FnCurves.l2]
    rw [w64 (n := i - 1) (by omega) (by omega), w64 (n := i + 1) (by omega) (by omega)]
    refine Wp.ite (fun hi => ?_) (fun _ => H)
    have ih := l2_wp ha hb hn hn2 hl hg H d (i + 1) (by omega) (by omega) (by omega)
    have e1 := hg i (by omega) (by omega)
    have e0 := hg (i - 1) (by omega) (by omega)
    have x1 : a * (n - i) = a * n - a * i := Int.mul_sub a n i
    have x0 : a * (n - (i - 1)) = a * n - a * i + a := by rw [show n - (i - 1) = n - i + 1 by omega, Int.mul_add, Int.mul_sub]; omega
    have y0 : b * (i - 1) = b * i - b := by rw [Int.mul_sub]; omega
    have bd : ∀ j : Int, 0 ≤ j → j < n → -1000000000 ≤ a * (n - j) + b * j ∧ a * (n - j) + b * j ≤ 1000000000 := fun j j0 j1 => by
      have b1 : a * (n - j) ≤ 3000 * (n - j) := Int.mul_le_mul_of_nonneg_right (by omega) (by omega)
      have b2 : -2000 * (n - j) ≤ a * (n - j) := Int.mul_le_mul_of_nonneg_right (by omega) (by omega)
      have b3 : b * j ≤ 3000 * j := Int.mul_le_mul_of_nonneg_right (by omega) (by omega)
      have b4 : -2000 * j ≤ b * j := Int.mul_le_mul_of_nonneg_right (by omega) (by omega)
      omega
    have q1 := bd i (by omega) (by omega)
    have q0 := bd (i - 1) (by omega) (by omega)
    have up : a ≤ b → rd g (i - 1) ≤ rd g i := fun h => divRound_mono (by omega) q0.1 q1.2 (by omega) (by omega) e0 e1
    have dn : a ≥ b → rd g i ≤ rd g (i - 1) := fun h => divRound_mono (by omega) q1.1 q0.2 (by omega) (by omega) e1 e0
    refine Wp.ite (fun h => ?_) (fun h => ?_)
    · have u := up h
      refine Wp.pos (by omega) (Wp.pos (by omega) (Wp.pos (by omega) (Wp.neg (by omega) (Wp.ite (fun h' => ?_) (fun _ => ih)))))
      have v := dn h'
      exact Wp.neg (by omega) ih
    · have v := dn (by omega)
      exact Wp.pos (by omega) (Wp.pos (by omega) (Wp.pos (by omega) (Wp.pos (by omega) (Wp.neg (by omega) ih))))
theorem j5_wp {c m : List Int} (hc : c.length ≤ maxLen) (hb : Bytes c) (hm : m.length ≤ maxLen) (hbm : Bytes m) : Wp (fun k => laws_FnCurves.j5 k c m) (fun r => r = true) := by
  have h8 := j8_wp hc hb hm hbm
  refine Wp.step ?_
  simp only [laws_FnCurves.j5]
  refine Wp.call (drawGlide_wp hm hbm) ?_
  rintro ⟨a, b, n⟩ _
  dsimp only at *
  refine Wp.call (glide_wp a b n) ?_
  rintro ⟨g, e⟩ h
  dsimp only at *
  refine Wp.ite (fun e0 => ?_) (fun _ => h8)
  obtain ⟨ha, hb', n1, n2, hl, hg⟩ := h e0
  obtain ⟨q, f1, f2, f3⟩ := divRound_g (a := a * (n - 0) + b * 0) (b := n) (by omega) (by have : -2000 * n ≤ a * n := Int.mul_le_mul_of_nonneg_right (by omega) (by omega); simp only [Int.sub_zero, Int.mul_zero, Int.add_zero]; omega) (by have : a * n ≤ 3000 * n := Int.mul_le_mul_of_nonneg_right (by omega) (by omega); simp only [Int.sub_zero, Int.mul_zero, Int.add_zero]; omega) (by omega)
  have h0 := hg 0 (by omega) (by omega)
  have hq : rd g 0 = q := by rw [f1] at h0; injection h0 with h0; exact h0.symm
  simp only [Int.sub_zero, Int.mul_zero, Int.add_zero] at f2 f3
  have hqa : q = a := by
    have u : (q - a) * n = q * n - a * n := Int.sub_mul q a n
    have l1 : ¬ 1 ≤ q - a := fun hh => by have : 1 * n ≤ (q - a) * n := Int.mul_le_mul_of_nonneg_right hh (by omega); omega
    have l2 : ¬ q - a ≤ -1 := fun hh => by have : (q - a) * n ≤ -1 * n := Int.mul_le_mul_of_nonneg_right hh (by omega); omega
    omega
  refine Wp.pos hl (Wp.neg (by omega) (Wp.pos (by omega) (Wp.step ?_)))
  simp only [laws_FnCurves.j6]
  rw [show (rd g 0 != a) = false by rw [hq, hqa]; simp]
  exact Wp.neg (by decide) (l2_wp ha hb' n1 n2 hl hg h8 n.toNat 1 (by omega) (by omega) (by omega))
theorem l1_wp {c m y : List Int} {lo hi : Int} (hl : y.length ≤ 10000) (hy : ∀ z ∈ y, lo ≤ z ∧ z ≤ hi) (H : Wp (fun k => laws_FnCurves.j5 k c m) (fun r => r = true)) : ∀ (d : Nat) (i : Int), 0 ≤ i → i + d = y.length → Wp (fun k => laws_FnCurves.l1 k c m y lo hi i) (fun r => r = true)
  | 0, i, i0, i1 => by
    refine Wp.step ?_
    simp only [laws_FnCurves.l1]
    exact Wp.neg (by omega) H
  | d + 1, i, i0, i1 => by
    have := hy _ (rd_mem i0 (show i < y.length by omega))
    refine Wp.step ?_
    simp only [laws_FnCurves.l1]
    rw [w64 (n := i + 1) (by omega) (by omega)]
    exact Wp.pos (by omega) (Wp.pos i0 (Wp.neg (by omega) (Wp.neg (by omega) (l1_wp hl hy H d _ (by omega) (by omega)))))
theorem l0_wp {c m x y : List Int} (hx : x.length ≤ 10000) (hs : SB x y) (H : Wp (fun k => laws_FnCurves.j5 k c m) (fun r => r = true)) : ∀ (d : Nat) (lo hi i : Int), 0 ≤ i → i + d = x.length → (∀ j : Int, 0 ≤ j → j < i → lo ≤ rd x j ∧ rd x j ≤ hi) → Wp (fun k => laws_FnCurves.l0 k c m x y lo hi i) (fun r => r = true)
  | 0, lo, hi, i, i0, i1, h => by
    have e := hs.1
    refine Wp.step ?_
    simp only [laws_FnCurves.l0]
    refine Wp.neg (by omega) (l1_wp (by omega) (hs.2.2.2 lo hi (fun z hz => ?_)) H y.length 0 (by omega) (by omega))
    obtain ⟨j, hj, rfl⟩ := List.mem_iff_getElem.1 hz
    have := h j (by omega) (by omega)
    rw [rd_get (by omega) (by omega)] at this
    simpa using this
  | d + 1, lo, hi, i, i0, i1, h => by
    refine Wp.step ?_
    simp only [laws_FnCurves.l0]
    rw [w64 (n := i + 1) (by omega) (by omega)]
    refine Wp.pos (by omega) (Wp.pos i0 (l0_wp hx hs H d _ _ (i + 1) (by omega) (by omega) (fun j j0 j1 => ?_)))
    by_cases e : j = i
    · subst e; unfold mn mx; omega
    · have := h j j0 (by omega); unfold mn mx; omega
theorem j0_wp {c m : List Int} (hc : c.length ≤ maxLen) (hb : Bytes c) (hm : m.length ≤ maxLen) (hbm : Bytes m) : Wp (fun k => laws_FnCurves.j0 k c m false) (fun r => r = true) := by
  have h5 := j5_wp hc hb hm hbm
  refine Wp.step ?_
  simp only [laws_FnCurves.j0]
  refine Wp.neg (by decide) (Wp.call (drawSmooth_wp hc hb) ?_)
  rintro ⟨x, n⟩ hx
  dsimp only at *
  refine Wp.call (smooth_wp x n) ?_
  rintro ⟨y, e⟩ h
  dsimp only at *
  have skip : Wp (fun k => laws_FnCurves.j1 k c m x y false) (fun r => r = true) := Wp.step (by simp only [laws_FnCurves.j1]; exact Wp.neg (by decide) h5)
  refine Wp.ite (fun e0 => ?_) (fun _ => skip)
  obtain ⟨⟨s1, s2, s3, s4⟩, hx2⟩ := h e0
  by_cases hp : (x.length : Int) > 0
  · rw [decide_eq_true hp]
    refine Wp.step ?_
    simp only [laws_FnCurves.j1]
    rw [w64 (n := (x.length : Int) - 1) (by omega) (by omega)]
    refine Wp.pos (by trivial) (Wp.pos (by omega) (Wp.pos (by omega) (Wp.pos (by omega) (Wp.pos s2 (Wp.pos (by omega) (Wp.pos (by omega) (Wp.pos (by omega) (Wp.step ?_))))))))
    simp only [laws_FnCurves.j2]
    rw [show (rd y ((x.length : Int) - 1) != rd x ((x.length : Int) - 1)) = false by rw [s3]; simp]
    refine Wp.neg (by decide) (Wp.pos (by omega) (l0_wp (by omega) ⟨s1, s2, s3, s4⟩ h5 x.length _ _ 0 (by omega) (by omega) (fun j j0 j1 => by omega)))
  · rw [decide_eq_false hp]; exact skip
theorem FnCurves : laws_FnCurves.Pure := by
  intro code more hc hm
  apply Wp.rounds
  have ht : Wp (fun k => laws_FnCurves.j0 k code more true) (fun r => r = true) := Wp.step (by simp only [laws_FnCurves.j0]; exact Wp.now rfl)
  simp only [laws_FnCurves.f, laws_b10Long.f, Option.bind_some]
  refine Wp.ite (fun _ => ht) (fun _ => ?_)
  by_cases b : (more.length : Int) > 1048576
  · rw [decide_eq_true b]; exact ht
  · rw [decide_eq_false b]; exact j0_wp hc.1 hc.2 hm.1 hm.2
end Go.Proofs.Ytomeeimjlagbbaa.Pure
