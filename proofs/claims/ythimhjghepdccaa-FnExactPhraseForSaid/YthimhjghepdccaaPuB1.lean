/- Plain facts: cadences, their starts, loops over phrases, gaps and pauses. -/
import Derived.Test.YthimhjghepdccaaPuB0
import Derived.Test.YthimhjghepdccaaPBx5
import Derived.Test.YthimhjghepdccaaPBx12
namespace Go.Proofs.Ythimhjghepdccaa.Pure
open Go.RowKit Go.Proofs.Ythimhjghepdccaa.PB Go.Proofs.YthimhjghepdccaaW.PrintWords Go.Proofs.YthimhjghepdccaaW.PrintLast

theorem within_iff {n a b : Int} : within_ n a b = true ↔ a ≤ n ∧ n ≤ b := by unfold within_; simp
theorem startB_zero {a : ByteArray} {l m : List Int} {speed start : Int} (h : startB a l m speed start = 0) : talaB a l m = true ∧ within_ speed 1 8 = true ∧ within_ start 0 (wrap64 (unitsB l speed - 1)) = true := by
  unfold startB at h
  split at h
  · split at h
    · split at h
      · exact ⟨‹_›, ‹_›, ‹_›⟩
      · omega
    · omega
  · omega
def totalB (p g : Int) : Int := wrap64 (wrap64 (3 * p) + wrap64 (2 * g))
theorem l19Phrase_f (n : Int) : spec_l19Phrase.f n = some (within_ n 1 64) := by simp only [spec_l19Phrase.f, l00In_f, Option.bind_some]
theorem l19Gap_f (n : Int) : spec_l19Gap.f n = some (within_ n 0 32) := by simp only [spec_l19Gap.f, l00In_f, Option.bind_some]
theorem l19Total_f (p g : Int) : spec_l19Total.f p g = some (totalB p g) := rfl
/-- The code of a tala and a speed, phrases and gaps, whatever the start. -/
theorem codeB_start0 (a : ByteArray) (l m : List Int) (speed p g b : Int) :
    codeB a l m speed 0 p g b = if talaB a l m = true then (if (within_ speed 1 8 && within_ p 1 64 && within_ g 0 32 && within_ b 0 64) = true then 0 else 2) else 1 := by
  unfold codeB
  cases h : talaB a l m with
  | false => rfl
  | true =>
    cases h2 : within_ speed 1 8 with
    | false => simp
    | true =>
      have hu := units_pos h h2
      have : within_ 0 0 (wrap64 (unitsB l speed - 1)) = true := by rw [w64 (by omega) (by omega), within_iff]; omega
      simp [this]
theorem codeB_start (a : ByteArray) (l m : List Int) (speed start p g : Int) :
    codeB a l m speed start p g 0 = if startB a l m speed start = 0 then (if (within_ p 1 64 && within_ g 0 32) = true then 0 else 2) else startB a l m speed start := by
  unfold codeB startB
  simp only [show within_ 0 0 64 = true from rfl, Bool.and_true]
  cases talaB a l m <;> cases within_ speed 1 8 <;> cases within_ start 0 (wrap64 (unitsB l speed - 1)) <;> cases within_ p 1 64 <;> cases within_ g 0 32 <;> simp
theorem totalB_eq {p g : Int} (hp : within_ p 1 64 = true) (hg : within_ g 0 32 = true) : totalB p g = 3 * p + 2 * g := by
  rw [within_iff] at hp hg
  unfold totalB
  rw [w64 (n := 3 * p) (by omega) (by omega), w64 (n := 2 * g) (by omega) (by omega), w64 (by omega) (by omega)]

/-! ### the least number -/
def leastR (e : Int → Bool) : Nat → Int → Int × Bool
  | 0, _ => (0, false)
  | d + 1, n => if e n = true then (n, true) else leastR e d (n + 1)
def outR (r : Int × Bool) : Int × Int := if r.2 = true then (r.1, 0) else (0, 3)
theorem leastO_eval (p : Int → Option Bool) (e : Int → Bool) (h : ∀ x, p x = some (e x)) : ∀ (d : Nat) (n : Int), leastO p d n = some (leastR e d n)
  | 0, _ => rfl
  | d + 1, n => by
    simp only [leastO, leastR, h n, Option.bind_some]
    rw [leastO_eval p e h d (n + 1)]
    split <;> rfl
end Go.Proofs.Ythimhjghepdccaa.Pure
