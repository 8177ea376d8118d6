/- Plain facts: the numerals of small numbers. -/
import Derived.Test.YtmeflmlejcmckaaDoorPuS2
import Derived.Test.YtmeflmlejcmckaaDoorPSx7
import Derived.Test.YtmeflmlejcmckaaDoorPSx9
namespace Go.Proofs.YtmeflmlejcmckaaDoor.Pure
open Go.RowKit Go.Proofs.YtmeflmlejcmckaaDoor.PS Go.Proofs.YtmeflmlejcmckaaDoorW.PrintWords Go.Proofs.YtmeflmlejcmckaaDoorW.PrintLast
set_option linter.unusedSimpArgs false
set_option linter.unusedVariables false
theorem up_k {α : Type} {g : Nat → Option α} (hm : ∀ k, LeO (g k) (g (k + 1))) {K : Nat} {r : α} (h : g K = some r) : ∀ k, K ≤ k → g k = some r := by
  intro k hk
  induction k with
  | zero => rwa [show K = 0 by omega] at h
  | succ k ih =>
    by_cases e : K = k + 1
    · rwa [e] at h
    · exact hm k r (ih (by omega))
/-- A small number's numeral. -/
def dec (n : Nat) : ByteArray := BA (if n < 10 then [UInt8.ofNat (48 + n)] else [UInt8.ofNat (48 + n / 10), UInt8.ofNat (48 + n % 10)])
theorem dec_small (n : Nat) (h : n < 100) : BA (Go.Lib.decDigits n) = dec n := by
  unfold dec
  rw [Go.Lib.decDigits]
  by_cases e : n < 10
  · rw [dif_pos e, if_pos e]
  · rw [dif_neg e, if_neg e, Go.Lib.decDigits, dif_pos (by omega)]
    rfl
theorem decI_f {n : Int} (h0 : 0 ≤ n) (h1 : n < 100) : impl_Decimal.f n = some (dec n.toNat) := by
  unfold impl_Decimal.f
  rw [if_pos ⟨h0, h1⟩]
  exact congrArg some (dec_small n.toNat (by omega))
theorem dec_all : ∀ n : Fin 17, spec_l01Dec.f 9 ((n.val : Nat) : Int) = some (dec n.val) := by decide +kernel
theorem decS_wp {n : Int} (h0 : 0 ≤ n) (h1 : n ≤ 16) : Wp (fun k => spec_l01Dec.f k n) (fun r => r = dec n.toNat) := by
  have h := dec_all ⟨n.toNat, by omega⟩
  simp only at h
  rw [show ((n.toNat : Nat) : Int) = n by omega] at h
  exact ⟨_, rfl, 9, up_k (fun k => spec_l01Dec.mono n k) h⟩
theorem dec_size {n : Nat} : (dec n).size ≤ 2 := by
  unfold dec BA
  split <;> simp [ByteArray.size]
end Go.Proofs.YtmeflmlejcmckaaDoor.Pure
