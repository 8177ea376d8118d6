/- Plain facts: cents. -/
import Derived.Test.YtmeflmlejcmckaaDoorPuB1
import Derived.Test.YtmeflmlejcmckaaDoorPBx2
import Derived.Test.YtmeflmlejcmckaaDoorPBx17
import Derived.Test.YtmeflmlejcmckaaDoorPBx21
import Derived.Test.YtmeflmlejcmckaaDoorPBx22
namespace Go.Proofs.YtmeflmlejcmckaaDoor.Pure
open Go.RowKit Go.Proofs.YtmeflmlejcmckaaDoor.PB Go.Proofs.YtmeflmlejcmckaaDoorW.PrintWords Go.Proofs.YtmeflmlejcmckaaDoorW.PrintLast
set_option linter.unusedSimpArgs false
set_option linter.unusedVariables false
/-! ### within an octave -/
/-- n / d is a / b, e octaves lower; it lies from 1 on, below 2. -/
structure Oct (a b n d e : Int) : Prop where
  lo : d ≤ n
  hi : n < 2 * d
  d1 : 1 ≤ d
  d2 : d ≤ 1000000
  e1 : -20 ≤ e
  e2 : e ≤ 20
  rel : n * b * 2 ^ (30 + e).toNat = a * d * 1073741824
theorem pow20 : (2 : Int) ^ 20 = 1048576 := by decide
theorem octI_l1 {a b : Int} (d : Int) (d1 : 1 ≤ d) (d2 : d ≤ 1000000) : ∀ (t : Nat) (n e : Int), 1 ≤ n → n < 2 * d → d ≤ n * 2 ^ t → t ≤ 20 → (t : Int) - 20 ≤ e → e ≤ 20 → n * b * 2 ^ (30 + e).toNat = a * d * 1073741824 →
    Wp (fun k => impl_Ratio_octave.l1 k n d e) (fun r => Oct a b r.1 r.2.1 r.2.2)
  | 0, n, e, h0, h1, h2, ht, h3, h4, h5 => by
    refine Wp.step ?_
    simp only [impl_Ratio_octave.l1]
    rw [show (2 : Int) ^ 0 = 1 from rfl] at h2
    exact Wp.neg (by omega) (Wp.now ⟨by dsimp only; omega, h1, d1, d2, by dsimp only; omega, h4, h5⟩)
  | t + 1, n, e, h0, h1, h2, ht, h3, h4, h5 => by
    refine Wp.step ?_
    simp only [impl_Ratio_octave.l1]
    rw [w64 (n := n * 2) (by omega) (by omega), w64 (n := e - 1) (by omega) (by omega)]
    refine Wp.ite (fun g => ?_) (fun g => Wp.now ⟨by dsimp only; omega, h1, d1, d2, by dsimp only; omega, h4, h5⟩)
    refine octI_l1 d d1 d2 t (n * 2) (e - 1) (by omega) (by omega) (by rw [Int.pow_succ] at h2; grind) (by omega) (by omega) (by omega) ?_
    rw [show (30 + e).toNat = (30 + (e - 1)).toNat + 1 by omega, Int.pow_succ] at h5
    grind
theorem octI_wp {a b : Int} (ha : 1 ≤ a) (ha2 : a ≤ 1000000) (hb : 1 ≤ b) (hb2 : b ≤ 1000000) : Wp (fun k => impl_Ratio_octave.l0 k a b 0) (fun r => Oct a b r.1 r.2.1 r.2.2) := by
  have h : ∀ (s : Nat) (d e : Int), 1 ≤ d → d ≤ 1000000 → a < 2 * d * 2 ^ s → 0 ≤ e → e + s ≤ 20 → a * b * 2 ^ (30 + e).toNat = a * d * 1073741824 → Wp (fun k => impl_Ratio_octave.l0 k a d e) (fun r => Oct a b r.1 r.2.1 r.2.2) := by
    intro s
    induction s with
    | zero =>
      intro d e h0 h1 h2 h3 hs h5
      refine Wp.step ?_
      simp only [impl_Ratio_octave.l0]
      rw [show (2 : Int) ^ 0 = 1 from rfl] at h2
      rw [w64 (n := 2 * d) (by omega) (by omega)]
      exact Wp.neg (by omega) (octI_l1 d h0 h1 20 a e ha (by omega) (by rw [pow20]; omega) (by omega) (by omega) (by omega) h5)
    | succ s ih =>
      intro d e h0 h1 h2 h3 hs h5
      refine Wp.step ?_
      simp only [impl_Ratio_octave.l0]
      rw [w64 (n := 2 * d) (by omega) (by omega), w64 (n := d * 2) (by omega) (by omega), w64 (n := e + 1) (by omega) (by omega)]
      refine Wp.ite (fun g => ?_) (fun g => octI_l1 d h0 h1 20 a e ha (by omega) (by rw [pow20]; omega) (by omega) (by omega) (by omega) h5)
      refine ih (d * 2) (e + 1) (by omega) (by omega) (by rw [Int.pow_succ] at h2; grind) (by omega) (by omega) ?_
      rw [show (30 + (e + 1)).toNat = (30 + e).toNat + 1 by omega, Int.pow_succ]
      grind
  refine h 20 b 0 hb hb2 (by rw [pow20]; omega) (by omega) (by omega) ?_
  rw [show (30 + (0 : Int)).toNat = 30 from rfl, show (2 : Int) ^ 30 = 1073741824 by decide]
/-! ### cents -/
theorem tab_mono : ∀ i j : Fin 33, i ≤ j → rd tab_ ((i.val : Nat) : Int) ≤ rd tab_ ((j.val : Nat) : Int) := by decide +kernel
theorem tab_step : ∀ i : Fin 32, rd tab_ (((i.val : Nat) : Int) + 1) ≤ rd tab_ ((i.val : Nat) : Int) + 5400 := by decide +kernel
theorem tab_rng : ∀ i : Fin 33, 0 ≤ rd tab_ ((i.val : Nat) : Int) ∧ rd tab_ ((i.val : Nat) : Int) ≤ 120000 := by decide +kernel
theorem tabM {i j : Int} (h0 : 0 ≤ i) (h1 : i ≤ j) (h2 : j < 33) : rd tab_ i ≤ rd tab_ j := by
  have := tab_mono ⟨i.toNat, by omega⟩ ⟨j.toNat, by omega⟩ (by show i.toNat ≤ j.toNat; omega)
  simp only at this
  rwa [show ((i.toNat : Nat) : Int) = i by omega, show ((j.toNat : Nat) : Int) = j by omega] at this
theorem tabS {i : Int} (h0 : 0 ≤ i) (h2 : i < 32) : rd tab_ (i + 1) ≤ rd tab_ i + 5400 := by
  have := tab_step ⟨i.toNat, by omega⟩
  simp only at this
  rwa [show ((i.toNat : Nat) : Int) = i by omega] at this
theorem tabR {i : Int} (h0 : 0 ≤ i) (h2 : i < 33) : 0 ≤ rd tab_ i ∧ rd tab_ i ≤ 120000 := by
  have := tab_rng ⟨i.toNat, by omega⟩
  simp only at this
  rwa [show ((i.toNat : Nat) : Int) = i by omega] at this
/-- The nearest quotient of what is not negative. -/
def rnd (x d : Int) : Int := (2 * x + d) / (2 * d)
theorem rnd_le {x d q : Int} (hd : 1 ≤ d) : q ≤ rnd x d ↔ q * (2 * d) ≤ 2 * x + d := Int.le_ediv_iff_mul_le (by omega)
theorem divI_f {x d : Int} (hx : 0 ≤ x) (hx2 : x ≤ 1000000000000000) (hd : 1 ≤ d) (hd2 : d ≤ 1000000000) : impl_divRound.f x d = some (rnd x d) := by
  have hq : x / d * d + x % d = x := Int.ediv_mul_add_emod x d
  have r0 : 0 ≤ x % d := Int.emod_nonneg _ (by omega)
  have r1 : x % d < d := Int.emod_lt_of_pos _ (by omega)
  have q0 : 0 ≤ x / d := Int.ediv_nonneg hx (by omega)
  have q1 : x / d ≤ x := Int.ediv_le_self _ hx
  unfold impl_divRound.f
  have ab : ∀ y : Int, 0 ≤ y → y ≤ 1000000000 → impl_abs.f y = some y := fun y h0 h1 => by
    unfold impl_abs.f
    rw [w64 (n := -y) (by omega) (by omega)]
    unfold mx
    first | rw [if_neg (by omega)] | rw [if_pos (by omega)]
  rw [if_neg (by omega), Int.tmod_eq_emod_of_nonneg hx, tdiv_pos hx, ab _ r0 (by omega), Option.bind_some, ab d (by omega) hd2, Option.bind_some, w64 (n := d - x % d) (by omega) (by omega), w64 (n := x / d) (by omega) (by omega)]
  have key : ∀ q : Int, q * (2 * d) ≤ 2 * x + d → 2 * x + d < (q + 1) * (2 * d) → rnd x d = q := fun q h1 h2 => by
    have a1 := (rnd_le hd).2 h1
    have a2 : ¬ (q + 1 ≤ rnd x d) := fun h => by have := (rnd_le hd).1 h; omega
    omega
  by_cases e : x % d ≥ d - x % d
  · rw [if_pos e, if_pos (by rw [decide_eq_false (show ¬ x < 0 by omega), decide_eq_false (show ¬ d < 0 by omega)]; rfl), w64 (by omega) (by omega), key (x / d + 1) (by grind) (by grind)]
  · rw [if_neg e, key (x / d) (by grind) (by grind)]
/-- The cents of n / d, from 1 on and below 2. -/
def kV (n d : Int) : Int := 32 * (n - d) / d
def gV (n d : Int) : Int := rd tab_ (kV n d) + rnd ((rd tab_ (kV n d + 1) - rd tab_ (kV n d)) * (32 * (n - d) - kV n d * d)) d
theorem kV_facts {n d : Int} (lo : d ≤ n) (hi : n < 2 * d) (d1 : 1 ≤ d) : 0 ≤ kV n d ∧ kV n d < 32 ∧ 0 ≤ 32 * (n - d) - kV n d * d ∧ 32 * (n - d) - kV n d * d < d := by
  have hq : kV n d * d + 32 * (n - d) % d = 32 * (n - d) := Int.ediv_mul_add_emod _ d
  have r0 : 0 ≤ 32 * (n - d) % d := Int.emod_nonneg _ (by omega)
  have r1 : 32 * (n - d) % d < d := Int.emod_lt_of_pos _ (by omega)
  refine ⟨Int.ediv_nonneg (by omega) (by omega), ?_, by omega, by omega⟩
  exact (Int.ediv_lt_iff_lt_mul (by omega)).2 (by omega)
theorem prod_bd {u r d : Int} (hu : 0 ≤ u) (hu2 : u ≤ 5400) (hr : 0 ≤ r) (hrd : r < d) (hd : d ≤ 1000000) : 0 ≤ u * r ∧ u * r ≤ 100000000000 ∧ u * r ≤ u * d := by
  have h1 : 0 ≤ u * r := Int.mul_nonneg hu hr
  have h2 : u * r ≤ u * d := Int.mul_le_mul_of_nonneg_left (by omega) hu
  have h3 : u * d ≤ 5400 * 1000000 := Int.mul_le_mul hu2 hd (by omega) (by omega)
  omega
theorem gV_rng {n d : Int} (lo : d ≤ n) (hi : n < 2 * d) (d1 : 1 ≤ d) (d2 : d ≤ 1000000) : rd tab_ (kV n d) ≤ gV n d ∧ gV n d ≤ rd tab_ (kV n d + 1) := by
  obtain ⟨k0, k1, r0, r1⟩ := kV_facts lo hi d1
  have m := tabM (i := kV n d) (j := kV n d + 1) k0 (by omega) (by omega)
  have s := tabS (i := kV n d) k0 (by omega)
  unfold gV
  generalize hu : rd tab_ (kV n d + 1) - rd tab_ (kV n d) = u
  generalize hr : 32 * (n - d) - kV n d * d = r at *
  obtain ⟨b0, b1, b2⟩ := prod_bd (u := u) (r := r) (d := d) (by omega) (by omega) r0 r1 d2
  have c0 : 0 ≤ rnd (u * r) d := (rnd_le d1).2 (by omega)
  have c1 : ¬ (u + 1 ≤ rnd (u * r) d) := fun h => by
    have := (rnd_le d1).1 h
    grind
  omega
theorem gV_le {n d : Int} (lo : d ≤ n) (hi : n < 2 * d) (d1 : 1 ≤ d) (d2 : d ≤ 1000000) : 0 ≤ gV n d ∧ gV n d ≤ 120000 := by
  obtain ⟨k0, k1, _⟩ := kV_facts lo hi d1
  obtain ⟨a, b⟩ := gV_rng lo hi d1 d2
  have := tabR (i := kV n d) k0 (by omega)
  have := tabR (i := kV n d + 1) (by omega) (by omega)
  omega
theorem gV_mono {n d m c : Int} (lo : d ≤ n) (hi : n < 2 * d) (d1 : 1 ≤ d) (d2 : d ≤ 1000000) (lo' : c ≤ m) (hi' : m < 2 * c) (c1 : 1 ≤ c) (c2 : c ≤ 1000000) (h : n * c ≤ m * d) : gV n d ≤ gV m c := by
  obtain ⟨k0, k1, r0, r1⟩ := kV_facts lo hi d1
  obtain ⟨j0, j1, s0, s1⟩ := kV_facts lo' hi' c1
  have hk : kV n d ≤ kV m c := by
    have : kV n d * d * c ≤ 32 * (n - d) * c := Int.mul_le_mul_of_nonneg_right (by omega) (by omega)
    have h2 : kV n d * c * d ≤ 32 * (m - c) * d := by grind
    have h3 : kV n d * c ≤ 32 * (m - c) := Int.le_of_mul_le_mul_right h2 (by omega)
    exact (Int.le_ediv_iff_mul_le (by omega)).2 h3
  by_cases e : kV n d = kV m c
  · unfold gV
    have mm := tabM (i := kV n d) (j := kV n d + 1) k0 (by omega) (by omega)
    rw [← e]
    rw [← e] at s0 s1
    generalize hu : rd tab_ (kV n d + 1) - rd tab_ (kV n d) = u
    generalize hr : 32 * (n - d) - kV n d * d = r at *
    generalize hs : 32 * (m - c) - kV n d * c = s at *
    have hrs : r * c ≤ s * d := by
      have h32 : 32 * (n * c) ≤ 32 * (m * d) := by omega
      rw [← hr, ← hs]
      grind
    have : rnd (u * r) d ≤ rnd (u * s) c := by
      refine (rnd_le c1).2 ?_
      have h1 : rnd (u * r) d * (2 * d) ≤ 2 * (u * r) + d := (rnd_le d1).1 (Int.le_refl _)
      generalize rnd (u * r) d = q at *
      have h2 : q * (2 * d) * c ≤ (2 * (u * r) + d) * c := Int.mul_le_mul_of_nonneg_right h1 (by omega)
      have h3 : u * (r * c) ≤ u * (s * d) := Int.mul_le_mul_of_nonneg_left hrs (by omega)
      have h4 : q * (2 * c) * d ≤ (2 * (u * s) + c) * d := by grind
      exact Int.le_of_mul_le_mul_right h4 (by omega)
    omega
  · have := (gV_rng lo hi d1 d2).2
    have := (gV_rng lo' hi' c1 c2).1
    have := tabM (i := kV n d + 1) (j := kV m c) (by omega) (by omega) (by omega)
    omega
/-- x is the number of cents of a / b. -/
def Cts (a b x : Int) : Prop := ∃ n d e, Oct a b n d e ∧ x = 120000 * e + gV n d
theorem pow_lt {i j : Nat} (h : i < j) : 2 * (2 : Int) ^ i ≤ 2 ^ j := by
  have h1 : 2 ^ (i + 1) ≤ 2 ^ j := Nat.pow_le_pow_right (by decide) h
  rw [Nat.pow_succ] at h1
  have h2 : ((2 ^ i * 2 : Nat) : Int) ≤ ((2 ^ j : Nat) : Int) := Int.ofNat_le.2 h1
  rw [Int.natCast_mul, Int.natCast_pow, Int.natCast_pow] at h2
  have e2 : ((2 : Nat) : Int) = 2 := rfl
  rw [e2] at h2
  omega
theorem pow_pos' (i : Nat) : 1 ≤ (2 : Int) ^ i := by
  have h : 1 ≤ 2 ^ i := Nat.one_le_two_pow
  have h2 : ((1 : Nat) : Int) ≤ ((2 ^ i : Nat) : Int) := by exact_mod_cast h
  simpa using h2
theorem cts_mono {a b x a' b' y : Int} (hx : Cts a b x) (hy : Cts a' b' y) (hb : 1 ≤ b) (hb' : 1 ≤ b') (h : a * b' ≤ a' * b) : x ≤ y := by
  obtain ⟨n, d, e, ⟨lo, hi, d1, d2, e1, e2, rel⟩, rfl⟩ := hx
  obtain ⟨m, c, f, ⟨lo', hi', c1, c2, f1, f2, rel'⟩, rfl⟩ := hy
  have key : n * c * 2 ^ (30 + e).toNat ≤ m * d * 2 ^ (30 + f).toNat := by
    generalize (2 : Int) ^ (30 + e).toNat = A at *
    generalize (2 : Int) ^ (30 + f).toNat = B at *
    have hbb : 0 < b * b' := Int.mul_pos (by omega) (by omega)
    refine Int.le_of_mul_le_mul_right (?_ : n * c * A * (b * b') ≤ m * d * B * (b * b')) hbb
    have e3 : n * c * A * (b * b') = (n * b * A) * (c * b') := by grind
    have e4 : m * d * B * (b * b') = (m * b' * B) * (d * b) := by grind
    rw [e3, e4, rel, rel']
    have h2 : a * b' * (d * c * 1073741824) ≤ a' * b * (d * c * 1073741824) := Int.mul_le_mul_of_nonneg_right h (by have : 0 ≤ d * c := Int.mul_nonneg (by omega) (by omega); omega)
    grind
  have hef : e ≤ f := by
    rcases Int.lt_or_le f e with g | g
    · exfalso
      have hp := pow_lt (i := (30 + f).toNat) (j := (30 + e).toNat) (by omega)
      have hB := pow_pos' (30 + f).toNat
      generalize (2 : Int) ^ (30 + e).toNat = A at *
      generalize (2 : Int) ^ (30 + f).toNat = B at *
      have hnc : 0 < n * c := Int.mul_pos (by omega) (by omega)
      have h1 : n * c * (2 * B) ≤ n * c * A := Int.mul_le_mul_of_nonneg_left hp (by omega)
      have h2 : d * c * (2 * B) ≤ n * c * (2 * B) := Int.mul_le_mul_of_nonneg_right (Int.mul_le_mul_of_nonneg_right lo (by omega)) (by omega)
      have h3 : m * (d * B) < 2 * c * (d * B) := Int.mul_lt_mul_of_pos_right hi' (Int.mul_pos (by omega) (by omega))
      grind
    · exact g
  have g1 := gV_le lo hi d1 d2
  have g2 := gV_le lo' hi' c1 c2
  by_cases e3 : e = f
  · subst e3
    have := gV_mono lo hi d1 d2 lo' hi' c1 c2 (Int.le_of_mul_le_mul_right key (by have := pow_pos' (30 + e).toNat; omega))
    omega
  · omega
theorem cts_eq {a b x a' b' y : Int} (hx : Cts a b x) (hy : Cts a' b' y) (hb : 1 ≤ b) (hb' : 1 ≤ b') (h : a * b' = a' * b) : x = y := by
  have := cts_mono hx hy hb hb' (by omega)
  have := cts_mono hy hx hb' hb (by omega)
  omega
theorem cts_rng {a b x : Int} (h : Cts a b x) : -2400000 ≤ x ∧ x ≤ 2520000 := by
  obtain ⟨n, d, e, ⟨lo, hi, d1, d2, e1, e2, rel⟩, rfl⟩ := h
  have := gV_le lo hi d1 d2
  omega
theorem centsI_wp {a b : Int} (h : vR a b = true) : Wp (fun k => impl_Ratio_cents.f k a b) (fun r => Cts a b r) := by
  obtain ⟨⟨a1, a2⟩, ⟨b1, b2⟩, _⟩ := vR_iff.1 h
  simp only [impl_Ratio_cents.f, impl_Ratio_octave.f]
  refine Wp.call (octI_wp a1 a2 b1 b2) ?_
  rintro ⟨n, d, e⟩ o
  dsimp only at o ⊢
  obtain ⟨lo, hi, d1, d2, e1, e2, rel⟩ := id o
  obtain ⟨k0, k1, r0, r1⟩ := kV_facts lo hi d1
  have m := tabM (i := kV n d) (j := kV n d + 1) k0 (by omega) (by omega)
  have s := tabS (i := kV n d) k0 (by omega)
  have R1 := tabR (i := kV n d) k0 (by omega)
  have R2 := tabR (i := kV n d + 1) (by omega) (by omega)
  have hk : Int.tdiv (32 * (n - d)) d = kV n d := tdiv_pos (by omega)
  have gr := gV_le lo hi d1 d2
  have kd : kV n d * d ≤ 32 * (n - d) := by omega
  have kd0 : 0 ≤ kV n d * d := Int.mul_nonneg k0 (by omega)
  obtain ⟨p0, p1, _⟩ := prod_bd (u := rd tab_ (kV n d + 1) - rd tab_ (kV n d)) (r := 32 * (n - d) - kV n d * d) (d := d) (by omega) (by omega) r0 r1 d2
  have w1 : wrap64 (n - d) = n - d := w64 (by omega) (by omega)
  have w2 : wrap64 (32 * (n - d)) = 32 * (n - d) := w64 (by omega) (by omega)
  have w3 : wrap64 (kV n d) = kV n d := w64 (by omega) (by omega)
  have w4 : wrap64 (kV n d + 1) = kV n d + 1 := w64 (by omega) (by omega)
  have w5 : wrap64 (kV n d * d) = kV n d * d := w64 (by omega) (by omega)
  have w6 : wrap64 (32 * (n - d) - kV n d * d) = 32 * (n - d) - kV n d * d := w64 (by omega) (by omega)
  have w7 : wrap64 (rd tab_ (kV n d + 1) - rd tab_ (kV n d)) = rd tab_ (kV n d + 1) - rd tab_ (kV n d) := w64 (by omega) (by omega)
  have w8 : wrap64 ((rd tab_ (kV n d + 1) - rd tab_ (kV n d)) * (32 * (n - d) - kV n d * d)) = (rd tab_ (kV n d + 1) - rd tab_ (kV n d)) * (32 * (n - d) - kV n d * d) := w64 (by omega) (by omega)
  have w9 : wrap64 (120000 * e) = 120000 * e := w64 (by omega) (by omega)
  have w10 : wrap64 (120000 * e + rd tab_ (kV n d)) = 120000 * e + rd tab_ (kV n d) := w64 (by omega) (by omega)
  simp only [w1, w2, hk, w3, w4, w5, w6, w7, w8, w9, w10]
  refine Wp.neg (by omega) (Wp.pos k0 (Wp.pos (by omega) (Wp.pos (by omega) (Wp.pos (by omega) (Wp.calls (divI_f p0 (by omega) d1 (by omega)) (Wp.now ⟨n, d, e, o, ?_⟩))))))
  unfold gV at gr ⊢
  rw [w64 (by omega) (by omega)]
  omega
def av (x : Int) : Int := if x < 0 then -x else x
theorem abs_f {x : Int} (h0 : -1000000000 ≤ x) (h1 : x ≤ 1000000000) : impl_abs.f x = some (av x) := by
  unfold impl_abs.f av
  rw [w64 (n := -x) (by omega) (by omega)]
  unfold mx
  by_cases h : x < 0
  · rw [if_pos h]; first | rw [if_pos (by omega)] | rw [if_neg (by omega)]
  · rw [if_neg h]
    by_cases e : x = 0
    · subst e; simp
    · first | rw [if_neg (by omega)] | rw [if_pos (by omega)]
theorem b10Abs_f {x : Int} (h0 : -1000000000 ≤ x) (h1 : x ≤ 1000000000) : laws_b10Abs.f x = some (av x) := by
  unfold laws_b10Abs.f av
  rw [w64 (n := -x) (by omega) (by omega)]
  split <;> rfl
theorem oct_self {n d : Int} (lo : d ≤ n) (hi : n < 2 * d) (d1 : 1 ≤ d) (d2 : d ≤ 1000000) : Cts n d (gV n d) := by
  refine ⟨n, d, 0, ⟨lo, hi, d1, d2, by omega, by omega, ?_⟩, by omega⟩
  rw [show (30 + (0 : Int)).toNat = 30 from rfl, show (2 : Int) ^ 30 = 1073741824 by decide]
end Go.Proofs.YtmeflmlejcmckaaDoor.Pure
