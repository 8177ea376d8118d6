/- Plain facts: cadences, their starts, loops over phrases, gaps and pauses. -/
import Derived.Test.YthimhjghepdccaaPuN0
import Derived.Test.YthimhjghepdccaaPNx7
namespace Go.Proofs.Ythimhjghepdccaa.Pure
open Go.RowKit Go.Proofs.Ythimhjghepdccaa.PN Go.Proofs.YthimhjghepdccaaW.PrintWords Go.Proofs.YthimhjghepdccaaW.PrintLast

theorem within_iff {n a b : Int} : within_ n a b = true ↔ a ≤ n ∧ n ≤ b := by unfold within_; simp
theorem startB_zero {a : ByteArray} {l m : List Int} {speed start : Int} (h : startB a l m speed start = 0) : talaB a l m = true ∧ within_ speed 1 8 = true ∧ within_ start 0 (wrap64 (unitsB l speed - 1)) = true := by
  unfold startB at h
  split at h
  · split at h
    · split at h
      · exact ⟨‹_›, ‹_›, ‹_›⟩
      · omega
    · omega
  · omega
def totalB (p g : Int) : Int := wrap64 (wrap64 (3 * p) + wrap64 (2 * g))
/-- The code of a tala and a speed, phrases and gaps, whatever the start. -/
theorem codeB_start0 (a : ByteArray) (l m : List Int) (speed p g b : Int) :
    codeB a l m speed 0 p g b = if talaB a l m = true then (if (within_ speed 1 8 && within_ p 1 64 && within_ g 0 32 && within_ b 0 64) = true then 0 else 2) else 1 := by
  unfold codeB
  cases h : talaB a l m with
  | false => rfl
  | true =>
    cases h2 : within_ speed 1 8 with
    | false => simp
    | true =>
      have hu := units_pos h h2
      have : within_ 0 0 (wrap64 (unitsB l speed - 1)) = true := by rw [w64 (by omega) (by omega), within_iff]; omega
      simp [this]
theorem codeB_start (a : ByteArray) (l m : List Int) (speed start p g : Int) :
    codeB a l m speed start p g 0 = if startB a l m speed start = 0 then (if (within_ p 1 64 && within_ g 0 32) = true then 0 else 2) else startB a l m speed start := by
  unfold codeB startB
  simp only [show within_ 0 0 64 = true from rfl, Bool.and_true]
  cases talaB a l m <;> cases within_ speed 1 8 <;> cases within_ start 0 (wrap64 (unitsB l speed - 1)) <;> cases within_ p 1 64 <;> cases within_ g 0 32 <;> simp
/-! ### where some units must begin -/
def beginB (l : List Int) (speed total : Int) : Int := Int.tmod (wrap64 (unitsB l speed - Int.tmod (wrap64 (total - 1)) (unitsB l speed))) (unitsB l speed)
theorem startFor_ev {a : ByteArray} {l m : List Int} {speed : Int} (total : Int) (hl : l.length ≤ maxLen) (h : talaB a l m = true) (hs : within_ speed 1 8 = true) : ∃ K, ∀ k, K ≤ k → impl_Tala_startFor.f k a l m speed total = some (beginB l speed total) := by
  obtain ⟨K, hK⟩ := beats_ev a l m hl
  have hp := units_pos h hs
  unfold unitsB at hp
  exact ⟨K, fun k hk => by simp only [impl_Tala_startFor.f]; rw [hK k hk]; simp only [Option.bind_some]; rw [if_neg (by omega)]; rfl⟩
theorem totalB_eq {p g : Int} (hp : within_ p 1 64 = true) (hg : within_ g 0 32 = true) : totalB p g = 3 * p + 2 * g := by
  rw [within_iff] at hp hg
  unfold totalB
  rw [w64 (n := 3 * p) (by omega) (by omega), w64 (n := 2 * g) (by omega) (by omega), w64 (by omega) (by omega)]

/-! ### loops -/
section
variable (e : Int → Int → Int → Bool) (GD BD : Nat)
def c2 (p g : Int) : Nat → Int → Int → Int
  | 0, _, n => n
  | d + 1, b, n => c2 p g d (b + 1) (if e p g b = true then wrap64 (n + 1) else n)
def c1 (p : Int) : Nat → Int → Int → Int
  | 0, _, n => n
  | d + 1, g, n => c1 p d (g + 1) (c2 e p g BD 0 n)
def c0 : Nat → Int → Int → Int
  | 0, _, n => n
  | d + 1, p, n => c0 d (p + 1) (c1 e BD p GD 0 n)
end
theorem count_loops {f0 : Nat → Int → Int → Option (Int × Int)} {f1 : Nat → Int → Int → Int → Option (Int × Int)} {f2 : Nat → Int → Int → Int → Int → Option (Int × Int)} (e : Int → Int → Int → Bool) (P G B : Int) (K : Nat)
    (h0 : ∀ k n p, f0 (k + 1) n p = if p ≤ P then f1 k n p 0 else some (n, 0))
    (h1 : ∀ k n p g, f1 (k + 1) n p g = if g ≤ G then f2 k n p g 0 else f0 k n (wrap64 (p + 1)))
    (h2 : ∀ k n p g b, K ≤ k → f2 (k + 1) n p g b = if b ≤ B then (if e p g b = true then f2 k (wrap64 (n + 1)) p g (wrap64 (b + 1)) else f2 k n p g (wrap64 (b + 1))) else f1 k n p (wrap64 (g + 1)))
    (hP : P ≤ 64) (hG : 0 ≤ G) (hG2 : G ≤ 32) (hB : 0 ≤ B) (hB2 : B ≤ 64) :
    ∀ (D : Nat) (p n : Int) (k : Nat), 0 ≤ p → p + D = P + 1 → K ≤ k → f0 (k + D * ((G + 1).toNat * ((B + 1).toNat + 2) + 2) + 1) n p = some (c0 e (G + 1).toNat (B + 1).toNat D p n, 0) := by
  have L2 : ∀ (d : Nat) (b g p n : Int) (k : Nat), 0 ≤ b → b + d = B + 1 → 0 ≤ g → g ≤ 32 → K ≤ k → f2 (k + d + 1) n p g b = f1 k (c2 e p g d b n) p (g + 1) := by
    intro d
    induction d with
    | zero =>
      intro b g p n k hb hd hg hg2 hk
      rw [Nat.add_zero, h2 k n p g b hk, if_neg (by omega), w64 (by omega) (by omega)]; rfl
    | succ d ih =>
      intro b g p n k hb hd hg hg2 hk
      rw [show k + (d + 1) + 1 = (k + d + 1) + 1 by omega, h2 (k + d + 1) n p g b (by omega), if_pos (by omega), w64 (n := b + 1) (by omega) (by omega)]
      simp only [c2]
      cases h : e p g b with
      | true => rw [if_pos rfl, if_pos rfl]; exact ih (b + 1) g p _ k (by omega) (by omega) hg hg2 hk
      | false => rw [if_neg (by decide), if_neg (by decide)]; exact ih (b + 1) g p _ k (by omega) (by omega) hg hg2 hk
  have L1 : ∀ (d : Nat) (g p n : Int) (k : Nat), 0 ≤ g → g + d = G + 1 → 0 ≤ p → p ≤ 64 → K ≤ k → f1 (k + d * ((B + 1).toNat + 2) + 1) n p g = f0 k (c1 e (B + 1).toNat p d g n) (p + 1) := by
    intro d
    induction d with
    | zero =>
      intro g p n k hg hd hp hp2 hk
      rw [Nat.zero_mul, Nat.add_zero, h1, if_neg (by omega), w64 (by omega) (by omega)]; rfl
    | succ d ih =>
      intro g p n k hg hd hp hp2 hk
      rw [show k + (d + 1) * ((B + 1).toNat + 2) + 1 = ((k + d * ((B + 1).toNat + 2) + 1) + (B + 1).toNat + 1) + 1 by rw [Nat.add_mul]; omega, h1, if_pos (by omega),
        L2 (B + 1).toNat 0 g p n _ (by omega) (by omega) hg (by omega) (by omega)]
      simp only [c1]
      exact ih (g + 1) p _ k (by omega) (by omega) hp hp2 hk
  intro D
  induction D with
  | zero =>
    intro p n k hp hd hk
    rw [Nat.zero_mul, Nat.add_zero, h0, if_neg (by omega)]; rfl
  | succ D ih =>
    intro p n k hp hd hk
    rw [show k + (D + 1) * ((G + 1).toNat * ((B + 1).toNat + 2) + 2) + 1 = ((k + D * ((G + 1).toNat * ((B + 1).toNat + 2) + 2) + 1) + (G + 1).toNat * ((B + 1).toNat + 2) + 1) + 1 by rw [Nat.add_mul D 1]; omega, h0, if_pos (by omega),
      L1 (G + 1).toNat 0 p n _ (by omega) (by omega) (by omega) (by omega) (by omega)]
    simp only [c0]
    exact ih (p + 1) _ k (by omega) (by omega) hk
end Go.Proofs.Ythimhjghepdccaa.Pure
