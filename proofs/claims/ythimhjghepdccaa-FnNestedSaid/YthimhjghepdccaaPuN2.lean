/- Plain facts: sums over starts, no program in sight but its counting loops' own forms. -/
import Derived.Test.YthimhjghepdccaaPuN1
namespace Go.Proofs.Ythimhjghepdccaa.Pure
open Go.RowKit Go.Proofs.Ythimhjghepdccaa.PN Go.Proofs.YthimhjghepdccaaW.PrintWords Go.Proofs.YthimhjghepdccaaW.PrintLast
set_option linter.unusedSimpArgs false

theorem ev_upto {P : Nat → Int → Prop} : ∀ (d : Nat) (i : Int), (∀ j, i ≤ j → j < i + d → ∃ K, ∀ k, K ≤ k → P k j) → ∃ K, ∀ k, K ≤ k → ∀ j, i ≤ j → j < i + d → P k j
  | 0, i, _ => ⟨0, fun _ _ j h1 h2 => by omega⟩
  | d + 1, i, h => by
    obtain ⟨K1, h1⟩ := h i (by omega) (by omega)
    obtain ⟨K2, h2⟩ := ev_upto d (i + 1) (fun j a b => h j (by omega) (by omega))
    refine ⟨K1 + K2, fun k hk j a b => ?_⟩
    by_cases e : j = i
    · subst e; exact h1 k (by omega)
    · exact h2 k (by omega) j (by omega) (by omega)
def ind (b : Bool) : Int := if b = true then 1 else 0
theorem ind_bd (b : Bool) : 0 ≤ ind b ∧ ind b ≤ 1 := by cases b <;> simp [ind]
def sumZ (f : Int → Int) : Nat → Int → Int
  | 0, _ => 0
  | d + 1, i => f i + sumZ f d (i + 1)
theorem sumZ_add (f g : Int → Int) : ∀ d i, sumZ (fun j => f j + g j) d i = sumZ f d i + sumZ g d i
  | 0, _ => by simp [sumZ]
  | d + 1, i => by simp only [sumZ]; rw [sumZ_add f g d (i + 1)]; omega
theorem sumZ_zero : ∀ d i, sumZ (fun _ => 0) d i = 0
  | 0, _ => rfl
  | d + 1, i => by simp only [sumZ]; rw [sumZ_zero d (i + 1)]; omega
theorem sumZ_congr {f g : Int → Int} : ∀ (d : Nat) (i : Int), (∀ j, i ≤ j → j < i + d → f j = g j) → sumZ f d i = sumZ g d i
  | 0, _, _ => rfl
  | d + 1, i, h => by simp only [sumZ]; rw [h i (by omega) (by omega), sumZ_congr d (i + 1) (fun j a b => h j (by omega) (by omega))]
theorem sumZ_point (k0 : Int) : ∀ (d : Nat) (i : Int), sumZ (fun k => ind (decide (k = k0))) d i = if i ≤ k0 ∧ k0 < i + d then 1 else 0
  | 0, i => by rw [if_neg (by omega)]; rfl
  | d + 1, i => by
    simp only [sumZ]
    rw [sumZ_point k0 d (i + 1)]
    by_cases e : i = k0
    · rw [if_neg (by omega), if_pos (by omega)]; simp [ind, e]
    · rw [show ind (decide (i = k0)) = 0 by simp [ind, e]]
      by_cases h : i + 1 ≤ k0 ∧ k0 < i + 1 + d
      · rw [if_pos h, if_pos (by omega)]; omega
      · rw [if_neg h, if_neg (by omega)]; omega
section
variable (e : Int → Int → Int → Bool) (GD BD : Nat)
def t2 (p g : Int) : Nat → Int → Int
  | 0, _ => 0
  | d + 1, b => ind (e p g b) + t2 p g d (b + 1)
def t1 (p : Int) : Nat → Int → Int
  | 0, _ => 0
  | d + 1, g => t2 e p g BD 0 + t1 p d (g + 1)
def t0 : Nat → Int → Int
  | 0, _ => 0
  | d + 1, p => t1 e BD p GD 0 + t0 d (p + 1)
theorem t2_bd (p g : Int) : ∀ d b, 0 ≤ t2 e p g d b ∧ t2 e p g d b ≤ d
  | 0, _ => by simp [t2]
  | d + 1, b => by have := t2_bd p g d (b + 1); have := ind_bd (e p g b); simp only [t2]; omega
theorem t1_bd (p : Int) : ∀ d g, 0 ≤ t1 e BD p d g ∧ t1 e BD p d g ≤ d * BD
  | 0, _ => by simp [t1]
  | d + 1, g => by
    have := t1_bd p d (g + 1); have := t2_bd e p g BD 0
    have h : ((d + 1 : Nat) : Int) * BD = d * BD + BD := by rw [Int.natCast_add]; simp [Int.add_mul]
    simp only [t1]; omega
theorem t0_bd : ∀ d p, 0 ≤ t0 e GD BD d p ∧ t0 e GD BD d p ≤ d * (GD * BD)
  | 0, _ => by simp [t0]
  | d + 1, p => by
    have := t0_bd d (p + 1); have := t1_bd e BD p GD 0
    have h : ((d + 1 : Nat) : Int) * (GD * BD) = d * (GD * BD) + GD * BD := by rw [Int.natCast_add]; simp [Int.add_mul]
    simp only [t0]; omega
theorem c2_eq (p g : Int) : ∀ (d : Nat) (b n : Int), 0 ≤ n → n + d ≤ 1000000 → c2 e p g d b n = n + t2 e p g d b
  | 0, _, _, _, _ => by simp [c2, t2]
  | d + 1, b, n, h0, h1 => by
    simp only [c2, t2]
    cases he : e p g b with
    | true =>
      rw [if_pos rfl, w64 (by omega) (by omega), c2_eq p g d (b + 1) (n + 1) (by omega) (by omega)]
      simp [ind]; omega
    | false =>
      rw [if_neg (by decide), c2_eq p g d (b + 1) n h0 (by omega)]
      simp [ind]
theorem c1_eq (p : Int) : ∀ (d : Nat) (g n : Int), 0 ≤ n → n + d * BD ≤ 1000000 → c1 e BD p d g n = n + t1 e BD p d g
  | 0, _, _, _, _ => by simp [c1, t1]
  | d + 1, g, n, h0, h1 => by
    have h : ((d + 1 : Nat) : Int) * BD = d * BD + BD := by rw [Int.natCast_add]; simp [Int.add_mul]
    have hd : 0 ≤ (d : Int) * BD := Int.mul_nonneg (by omega) (by omega)
    have := t2_bd e p g BD 0
    simp only [c1, t1]
    rw [c2_eq e p g BD 0 n h0 (by omega), c1_eq p d (g + 1) _ (by omega) (by omega)]
    omega
theorem c0_eq : ∀ (d : Nat) (p n : Int), 0 ≤ n → n + d * (GD * BD) ≤ 1000000 → c0 e GD BD d p n = n + t0 e GD BD d p
  | 0, _, _, _, _ => by simp [c0, t0]
  | d + 1, p, n, h0, h1 => by
    have h : ((d + 1 : Nat) : Int) * (GD * BD) = d * (GD * BD) + GD * BD := by rw [Int.natCast_add]; simp [Int.add_mul]
    have hd : 0 ≤ (d : Int) * (GD * BD) := Int.mul_nonneg (by omega) (Int.mul_nonneg (by omega) (by omega))
    have := t1_bd e BD p GD 0
    simp only [c0, t0]
    rw [c1_eq e BD p GD 0 n h0 (by omega), c0_eq d (p + 1) _ (by omega) (by omega)]
    omega
end
/-- Every list counted once over all starts: the sum is the number of lists. -/
theorem sum2 (E : Int → Int → Int → Int → Bool) (M : Nat) (p g : Int) : ∀ (d : Nat) (b : Int), (∀ c, b ≤ c → c < b + d → sumZ (fun k => ind (E k p g c)) M 0 = 1) → sumZ (fun k => t2 (E k) p g d b) M 0 = d
  | 0, _, _ => by simp only [t2]; rw [sumZ_zero]; rfl
  | d + 1, b, h => by
    simp only [t2]
    rw [sumZ_add (fun k => ind (E k p g b)) (fun k => t2 (E k) p g d (b + 1)), h b (by omega) (by omega), sum2 E M p g d (b + 1) (fun c x y => h c (by omega) (by omega))]
    omega
theorem sum1 (E : Int → Int → Int → Int → Bool) (M BD : Nat) (p : Int) : ∀ (d : Nat) (g : Int), (∀ q : Int, g ≤ q → q < g + d → ∀ c : Int, 0 ≤ c → c < BD → sumZ (fun k => ind (E k p q c)) M 0 = 1) → sumZ (fun k => t1 (E k) BD p d g) M 0 = d * BD
  | 0, _, _ => by simp only [t1]; rw [sumZ_zero]; simp
  | d + 1, g, h => by
    have e : ((d + 1 : Nat) : Int) * BD = d * BD + BD := by rw [Int.natCast_add]; simp [Int.add_mul]
    simp only [t1]
    rw [sumZ_add (fun k => t2 (E k) p g BD 0) (fun k => t1 (E k) BD p d (g + 1)), sum2 E M p g BD 0 (fun c x y => h g (by omega) (by omega) c x (by omega)), sum1 E M BD p d (g + 1) (fun q x y => h q (by omega) (by omega)), e]
    omega
theorem sum0 (E : Int → Int → Int → Int → Bool) (M GD BD : Nat) : ∀ (d : Nat) (p : Int), (∀ r : Int, p ≤ r → r < p + d → ∀ q : Int, 0 ≤ q → q < GD → ∀ c : Int, 0 ≤ c → c < BD → sumZ (fun k => ind (E k r q c)) M 0 = 1) → sumZ (fun k => t0 (E k) GD BD d p) M 0 = d * (GD * BD)
  | 0, _, _ => by simp only [t0]; rw [sumZ_zero]; simp
  | d + 1, p, h => by
    have e : ((d + 1 : Nat) : Int) * (GD * BD) = d * (GD * BD) + GD * BD := by rw [Int.natCast_add]; simp [Int.add_mul]
    simp only [t0]
    rw [sumZ_add (fun k => t1 (E k) BD p GD 0) (fun k => t0 (E k) GD BD d (p + 1)), sum1 E M BD p GD 0 (fun q x y => h p (by omega) (by omega) q x (by omega)), sum0 E M GD BD d (p + 1) (fun r x y => h r (by omega) (by omega)), e]
    omega
/-- Among n starts that follow each other just one lets t units end on the first beat. -/
theorem ends_once {n t : Int} (h1 : 1 ≤ n) (h2 : n ≤ 256) (h3 : 1 ≤ t) (h4 : t ≤ 100000) : ∃ k0, 0 ≤ k0 ∧ k0 < n ∧ ∀ k, 0 ≤ k → k < n → ((Int.tmod (wrap64 (wrap64 (k + t) - 1)) n == 0) = decide (k = k0)) := by
  have hr1 := Int.emod_nonneg (t - 1) (show n ≠ 0 by omega)
  have hr2 := Int.emod_lt_of_pos (t - 1) (show 0 < n by omega)
  have key : ∀ k, 0 ≤ k → k < n → (Int.tmod (wrap64 (wrap64 (k + t) - 1)) n == 0) = decide ((k + (t - 1) % n) % n = 0) := fun k a b => by
    rw [w64 (n := k + t) (by omega) (by omega), w64 (n := k + t - 1) (by omega) (by omega), Int.tmod_eq_emod_of_nonneg (by omega), show k + t - 1 = k + (t - 1) by omega, ← Int.add_emod_emod]
    generalize (k + (t - 1) % n) % n = z
    by_cases e : z = 0 <;> simp [e]
  refine ⟨if (t - 1) % n = 0 then 0 else n - (t - 1) % n, by split <;> omega, by split <;> omega, fun k a b => ?_⟩
  rw [key k a b]
  generalize (t - 1) % n = r at hr1 hr2
  by_cases e : r = 0
  · subst e
    rw [if_pos rfl, Int.add_zero, Int.emod_eq_of_lt a b]
  · rw [if_neg e]
    by_cases l : k + r < n
    · rw [Int.emod_eq_of_lt (by omega) l]
      simp only [decide_eq_decide]; omega
    · rw [show k + r = (k + r - n) + n by omega, Int.add_emod_right, Int.emod_eq_of_lt (by omega) (by omega)]
      simp only [decide_eq_decide]; omega
end Go.Proofs.Ythimhjghepdccaa.Pure
