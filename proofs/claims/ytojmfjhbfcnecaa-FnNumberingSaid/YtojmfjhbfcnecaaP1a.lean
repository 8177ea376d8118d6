/- Texts of scales and ragas, read. -/
import Derived.Test.YtojmfjhbfcnecaaP0
namespace Go.Proofs.Ytojmfjhbfcnecaa.F
open Go Go.Proofs.Ytojmfjhbfcnecaa.Eng
set_option linter.unusedSimpArgs false
set_option linter.unusedVariables false
set_option maxRecDepth 100000
theorem Wp.eval {α : Type} {g : Nat → Option α} (hm : ∀ {n m x}, g n = some x → n ≤ m → g m = some x) (n : Nat) (p : α → Bool) (h : (g n).any p = true) : Wp g (fun x => p x = true) := by
  cases hx : g n with
  | none => rw [hx] at h; cases h
  | some x => rw [hx] at h; exact ⟨x, h, n, fun k hk => hm hx hk⟩
def incB : Int → List Int → Bool
  | _, [] => true
  | b, x :: r => decide (b < x) && (decide (x ≤ 11) && incB x r)
/-- A scale: it begins with 0, rises, and has five tones at least. -/
def scB (l : List Int) : Bool := incB (-1) l && (Nat.ble 5 l.length && (match l with | x :: _ => decide (x = 0) | [] => false))
def sevenT : List ByteArray := [⟨#[83, 82, 71, 109, 80, 68, 78]⟩, ⟨#[83, 82, 71, 80, 68]⟩, ⟨#[83, 114, 71, 109, 80, 100, 78]⟩, ⟨#[83, 82, 103, 109, 80, 68, 110]⟩, ⟨#[83, 71, 109, 68, 78]⟩, ⟨#[83, 82, 71, 77, 80, 68, 78]⟩, ⟨#[83, 114, 82, 103, 71, 109, 77, 80, 100, 68, 110, 78]⟩]
theorem read7 : ∀ t ∈ sevenT, Wp (fun k => spec_l03Read k t) (fun x => scB x.1 = true) := by
  unfold sevenT
  refine List.forall_mem_cons.2 ⟨Wp.eval spec_l03Read_up 40 (fun x : List Int × Bool => scB x.1) (by kernel_rfl), List.forall_mem_cons.2 ⟨Wp.eval spec_l03Read_up 40 (fun x : List Int × Bool => scB x.1) (by kernel_rfl), List.forall_mem_cons.2 ⟨Wp.eval spec_l03Read_up 40 (fun x : List Int × Bool => scB x.1) (by kernel_rfl),
    List.forall_mem_cons.2 ⟨Wp.eval spec_l03Read_up 40 (fun x : List Int × Bool => scB x.1) (by kernel_rfl), List.forall_mem_cons.2 ⟨Wp.eval spec_l03Read_up 40 (fun x : List Int × Bool => scB x.1) (by kernel_rfl), List.forall_mem_cons.2 ⟨Wp.eval spec_l03Read_up 40 (fun x : List Int × Bool => scB x.1) (by kernel_rfl), List.forall_mem_cons.2 ⟨Wp.eval spec_l03Read_up 40 (fun x : List Int × Bool => scB x.1) (by kernel_rfl), fun t h => by simp at h⟩⟩⟩⟩⟩⟩⟩
/-! ### ragas -/
def pairB : List Int → Bool
  | [a, b] => decide (0 ≤ a) && (decide (a ≤ 11) && (decide (0 ≤ b) && (decide (b ≤ 11) && !decide (a = b))))
  | _ => false
abbrev Rg := ByteArray × List Int × List Int × Int × Int × List (List Int)
def vrB (r : Rg) : Bool := scB r.2.1 && (scB r.2.2.1 && ((r.2.1.contains r.2.2.2.1 || r.2.2.1.contains r.2.2.2.1) && ((r.2.1.contains r.2.2.2.2.1 || r.2.2.1.contains r.2.2.2.2.1) && (!decide (r.2.2.2.1 = r.2.2.2.2.1) && (r.2.2.2.2.2.all pairB && Nat.ble r.2.2.2.2.2.length 2)))))
def sixT : List ByteArray := [⟨#[98, 104, 117, 112, 97, 108, 105, 32, 83, 82, 71, 80, 68, 32, 83, 82, 71, 80, 68, 32, 71, 68]⟩, ⟨#[121, 97, 109, 97, 110, 32, 83, 82, 71, 77, 80, 68, 78, 32, 83, 82, 71, 77, 80, 68, 78, 32, 71, 78, 32, 83, 82]⟩, ⟨#[98, 104, 97, 105, 114, 97, 118, 32, 83, 114, 71, 109, 80, 100, 78, 32, 83, 114, 71, 109, 80, 100, 78, 32, 100, 114]⟩,
  ⟨#[100, 101, 115, 104, 32, 83, 82, 109, 80, 78, 32, 83, 82, 71, 109, 80, 68, 110, 32, 82, 80, 32, 71, 82]⟩, ⟨#[107, 97, 102, 105, 32, 83, 82, 103, 109, 80, 68, 110, 32, 83, 82, 103, 109, 80, 68, 110, 32, 80, 82]⟩, ⟨#[109, 97, 108, 107, 97, 117, 110, 115, 32, 83, 103, 109, 100, 78, 32, 83, 103, 109, 100, 78, 32, 109, 83]⟩]
def rdB (x : ByteArray × List Int × List Int × Int × Int × List (List Int) × Bool) : Bool := x.2.2.2.2.2.2 && (vrB (x.1, x.2.1, x.2.2.1, x.2.2.2.1, x.2.2.2.2.1, x.2.2.2.2.2.1) && decide (x.1.size ≤ 9))
theorem read6_0 : (spec_l05Read 60 ⟨#[98, 104, 117, 112, 97, 108, 105, 32, 83, 82, 71, 80, 68, 32, 83, 82, 71, 80, 68, 32, 71, 68]⟩).any rdB = true := by kernel_rfl
theorem read6_1 : (spec_l05Read 60 ⟨#[121, 97, 109, 97, 110, 32, 83, 82, 71, 77, 80, 68, 78, 32, 83, 82, 71, 77, 80, 68, 78, 32, 71, 78, 32, 83, 82]⟩).any rdB = true := by kernel_rfl
theorem read6_2 : (spec_l05Read 60 ⟨#[98, 104, 97, 105, 114, 97, 118, 32, 83, 114, 71, 109, 80, 100, 78, 32, 83, 114, 71, 109, 80, 100, 78, 32, 100, 114]⟩).any rdB = true := by kernel_rfl
theorem read6_3 : (spec_l05Read 60 ⟨#[100, 101, 115, 104, 32, 83, 82, 109, 80, 78, 32, 83, 82, 71, 109, 80, 68, 110, 32, 82, 80, 32, 71, 82]⟩).any rdB = true := by kernel_rfl
theorem read6_4 : (spec_l05Read 60 ⟨#[107, 97, 102, 105, 32, 83, 82, 103, 109, 80, 68, 110, 32, 83, 82, 103, 109, 80, 68, 110, 32, 80, 82]⟩).any rdB = true := by kernel_rfl
theorem read6_5 : (spec_l05Read 60 ⟨#[109, 97, 108, 107, 97, 117, 110, 115, 32, 83, 103, 109, 100, 78, 32, 83, 103, 109, 100, 78, 32, 109, 83]⟩).any rdB = true := by kernel_rfl
theorem read6 : ∀ t ∈ sixT, Wp (fun k => spec_l05Read k t) (fun x => rdB x = true) := by
  unfold sixT
  refine List.forall_mem_cons.2 ⟨Wp.eval spec_l05Read_up 60 rdB read6_0, List.forall_mem_cons.2 ⟨Wp.eval spec_l05Read_up 60 rdB read6_1, List.forall_mem_cons.2 ⟨Wp.eval spec_l05Read_up 60 rdB read6_2, List.forall_mem_cons.2 ⟨Wp.eval spec_l05Read_up 60 rdB read6_3, List.forall_mem_cons.2 ⟨Wp.eval spec_l05Read_up 60 rdB read6_4, List.forall_mem_cons.2 ⟨Wp.eval spec_l05Read_up 60 rdB read6_5, fun t h => by simp at h⟩⟩⟩⟩⟩⟩
end Go.Proofs.Ytojmfjhbfcnecaa.F
