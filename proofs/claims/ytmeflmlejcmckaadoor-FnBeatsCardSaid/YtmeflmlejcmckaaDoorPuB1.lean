/- Plain facts: ratios. -/
import Derived.Test.YtmeflmlejcmckaaDoorPuBn
import Derived.Test.YtmeflmlejcmckaaDoorPBx3
import Derived.Test.YtmeflmlejcmckaaDoorPBx4
import Derived.Test.YtmeflmlejcmckaaDoorPBx12
import Derived.Test.YtmeflmlejcmckaaDoorPBx13
namespace Go.Proofs.YtmeflmlejcmckaaDoor.Pure
open Go.RowKit Go.Proofs.YtmeflmlejcmckaaDoor.PB Go.Proofs.YtmeflmlejcmckaaDoorW.PrintWords Go.Proofs.YtmeflmlejcmckaaDoorW.PrintLast
set_option linter.unusedSimpArgs false
set_option linter.unusedVariables false
/-! ### common divisors -/
theorem gcdS_wp : ∀ n m : Nat, Wp (fun k => spec_l02Gcd.l0 k (m : Int) (n : Int)) (fun r => r = ((Nat.gcd m n : Nat) : Int)) := by
  intro n
  induction n using Nat.strongRecOn with
  | _ n ih =>
    intro m
    refine Wp.step ?_
    simp only [spec_l02Gcd.l0]
    by_cases h : n = 0
    · subst h; exact Wp.pos rfl (Wp.now (by simp))
    · refine Wp.neg (by omega) ?_
      rw [show Int.tmod (m : Int) (n : Int) = ((m % n : Nat) : Int) from rfl]
      refine (ih (m % n) (Nat.mod_lt _ (by omega)) n).mono ?_
      rintro r rfl
      rw [Nat.gcd_comm m n, Nat.gcd_rec n m, Nat.gcd_comm]
theorem gcdI_wp : ∀ n m : Nat, Wp (fun k => impl_commonDivisor.l0 k (m : Int) (n : Int)) (fun r => r = ((Nat.gcd m n : Nat) : Int)) := by
  intro n
  induction n using Nat.strongRecOn with
  | _ n ih =>
    intro m
    refine Wp.step ?_
    simp only [impl_commonDivisor.l0]
    by_cases h : n = 0
    · subst h; exact Wp.pos rfl (Wp.now (by simp))
    · refine Wp.neg (by omega) ?_
      rw [show Int.tmod (m : Int) (n : Int) = ((m % n : Nat) : Int) from rfl]
      refine (ih (m % n) (Nat.mod_lt _ (by omega)) n).mono ?_
      rintro r rfl
      rw [Nat.gcd_comm m n, Nat.gcd_rec n m, Nat.gcd_comm]
theorem within_iff {n a b : Int} : within_ n a b = true ↔ a ≤ n ∧ n ≤ b := by
  unfold within_; simp
/-- A valid ratio. -/
def vR (a b : Int) : Bool := within_ a 1 1000000 && (within_ b 1 1000000 && decide (Nat.gcd a.toNat b.toNat = 1))
theorem vR_iff {a b : Int} : vR a b = true ↔ (1 ≤ a ∧ a ≤ 1000000) ∧ (1 ≤ b ∧ b ≤ 1000000) ∧ Nat.gcd a.toNat b.toNat = 1 := by
  unfold vR; simp only [Bool.and_eq_true, within_iff, decide_eq_true_eq]
theorem validI_wp (a b : Int) : Wp (fun k => impl_ValidRatio.f k a b) (fun r => r = vR a b) := by
  simp only [impl_ValidRatio.f, within_f]
  unfold vR
  refine Wp.calls rfl (Wp.iteB (fun e => ?_) (fun e => Wp.now (by rw [e]; rfl)))
  rw [e, Bool.true_and]
  refine Wp.calls rfl (Wp.iteB (fun e2 => ?_) (fun e2 => Wp.now (by rw [e2]; rfl)))
  rw [e2, Bool.true_and]
  rw [within_iff] at e e2
  have h := gcdI_wp b.toNat a.toNat
  rw [show ((a.toNat : Nat) : Int) = a by omega, show ((b.toNat : Nat) : Int) = b by omega] at h
  simp only [impl_commonDivisor.f]
  refine Wp.val h (Wp.now ?_)
  rw [Bool.eq_iff_iff]
  simp
  omega
theorem rdR (a b : Int) : rd_T52 [(⟨a, b⟩ : S52)] 0 = ⟨a, b⟩ := rfl
theorem okS_wp (a b : Int) : Wp (fun k => spec_l02Ok.f k [(⟨a, b⟩ : S52)]) (fun r => r = vR a b) := by
  simp only [spec_l02Ok.f, spec_l02Part.f, l00In_f, rdR, Option.bind_some]
  unfold vR
  refine Wp.iteB (fun e => ?_) (fun e => Wp.now (by rw [e]; rfl))
  rw [e, Bool.true_and]
  refine Wp.iteB (fun e2 => ?_) (fun e2 => Wp.now (by rw [e2]; rfl))
  rw [e2, Bool.true_and]
  rw [within_iff] at e e2
  have h := gcdS_wp b.toNat a.toNat
  rw [show ((a.toNat : Nat) : Int) = a by omega, show ((b.toNat : Nat) : Int) = b by omega] at h
  simp only [spec_l02Gcd.f]
  refine Wp.val h (Wp.now ?_)
  rw [Bool.eq_iff_iff]
  simp
  omega
/-! ### reduced ratios -/
def gI (a b : Int) : Int := ((Nat.gcd a.toNat b.toNat : Nat) : Int)
theorem gI_pos {a b : Int} (ha : 1 ≤ a) : 1 ≤ gI a b := by
  unfold gI
  have := Nat.gcd_pos_of_pos_left (m := a.toNat) b.toNat (by omega)
  omega
/-- What dividing by the common divisor gives. -/
theorem red_facts {a b : Int} (ha : 1 ≤ a) (hb : 1 ≤ b) : 1 ≤ a / gI a b ∧ 1 ≤ b / gI a b ∧ a / gI a b ≤ a ∧ b / gI a b ≤ b ∧ a / gI a b * gI a b = a ∧ b / gI a b * gI a b = b ∧ Nat.gcd (a / gI a b).toNat (b / gI a b).toNat = 1 := by
  have hg := gI_pos (b := b) ha
  have h1 : a.toNat / Nat.gcd a.toNat b.toNat * Nat.gcd a.toNat b.toNat = a.toNat := Nat.div_mul_cancel (Nat.gcd_dvd_left _ _)
  have h2 : b.toNat / Nat.gcd a.toNat b.toNat * Nat.gcd a.toNat b.toNat = b.toNat := Nat.div_mul_cancel (Nat.gcd_dvd_right _ _)
  have e1 : a / gI a b = ((a.toNat / Nat.gcd a.toNat b.toNat : Nat) : Int) := by
    unfold gI
    conv => lhs; rw [show a = ((a.toNat : Nat) : Int) by omega]
    rw [Int.toNat_natCast]; rfl
  have e2 : b / gI a b = ((b.toNat / Nat.gcd a.toNat b.toNat : Nat) : Int) := by
    unfold gI
    conv => lhs; rw [show b = ((b.toNat : Nat) : Int) by omega]
    rw [Int.toNat_natCast]; rfl
  have p1 : 0 < a.toNat / Nat.gcd a.toNat b.toNat := by
    rcases Nat.eq_zero_or_pos (a.toNat / Nat.gcd a.toNat b.toNat) with h | h
    · rw [h, Nat.zero_mul] at h1; omega
    · exact h
  have p2 : 0 < b.toNat / Nat.gcd a.toNat b.toNat := by
    rcases Nat.eq_zero_or_pos (b.toNat / Nat.gcd a.toNat b.toNat) with h | h
    · rw [h, Nat.zero_mul] at h2; omega
    · exact h
  have q1 := Nat.div_le_self a.toNat (Nat.gcd a.toNat b.toNat)
  have q2 := Nat.div_le_self b.toNat (Nat.gcd a.toNat b.toNat)
  refine ⟨by omega, by omega, by omega, by omega, ?_, ?_, ?_⟩
  · rw [e1]; unfold gI; rw [← Int.natCast_mul, h1]; omega
  · rw [e2]; unfold gI; rw [← Int.natCast_mul, h2]; omega
  · rw [e1, e2, Int.toNat_natCast, Int.toNat_natCast]
    exact Nat.gcd_div_gcd_div_gcd_of_pos_left (by omega)
theorem tdiv_pos {a g : Int} (ha : 0 ≤ a) : Int.tdiv a g = a / g := Int.tdiv_eq_ediv_of_nonneg ha
theorem doneS_wp {a b : Int} (ha : 1 ≤ a) (ha2 : a ≤ 1000000000000) (hb : 1 ≤ b) (hb2 : b ≤ 1000000000000) : Wp (fun k => spec_l02Done.f k a b) (fun r => r = if vR (a / gI a b) (b / gI a b) = true then (a / gI a b, b / gI a b, 0) else (0, 0, 5)) := by
  have h := gcdS_wp b.toNat a.toNat
  rw [show ((a.toNat : Nat) : Int) = a by omega, show ((b.toNat : Nat) : Int) = b by omega] at h
  have hg := gI_pos (b := b) ha
  obtain ⟨p1, p2, q1, q2, _⟩ := red_facts ha hb
  simp only [spec_l02Done.f, spec_l02Gcd.f]
  refine Wp.val (a := gI a b) h ?_
  rw [tdiv_pos (by omega), tdiv_pos (by omega), w64 (n := a / gI a b) (by omega) (by omega), w64 (n := b / gI a b) (by omega) (by omega)]
  refine Wp.neg (by omega) (Wp.val (okS_wp _ _) ?_)
  refine Wp.iteB (fun e => Wp.now (by rw [if_pos e])) (fun e => Wp.now (by rw [if_neg (by rw [e]; decide)]))
end Go.Proofs.YtmeflmlejcmckaaDoor.Pure
