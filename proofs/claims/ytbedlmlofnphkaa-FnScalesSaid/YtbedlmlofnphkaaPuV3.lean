/- Each scale is read back from its text: all scales are gone through. -/
import Derived.Test.YtbedlmlofnphkaaPuV0
import Derived.Test.YtbedlmlofnphkaaPOx6
import Derived.Test.YtbedlmlofnphkaaPOx7
namespace Go.Proofs.Ytbedlmlofnphkaa.Pure
open Go.RowKit Go.Proofs.Ytbedlmlofnphkaa.PO Go.Proofs.YtbedlmlofnphkaaW.PrintWords Go.Proofs.YtbedlmlofnphkaaW.PrintLast
set_option linter.unusedSimpArgs false
set_option linter.unusedVariables false
set_option maxRecDepth 100000
def ck4 (s : List Int) : Bool := match impl_ScaleText.f 100 s with
  | some t => (match impl_ReadScale.f 100 t with | some (u, b) => decide (u = s ∧ b = true) | none => false)
  | none => false
def part4 (j : Nat) : List (List Int) := (SC.drop (150 * j)).take 150
theorem all4_0 : (part4 0).all ck4 = true := by decide +kernel
theorem all4_1 : (part4 1).all ck4 = true := by decide +kernel
theorem all4_2 : (part4 2).all ck4 = true := by decide +kernel
theorem all4_3 : (part4 3).all ck4 = true := by decide +kernel
theorem all4_4 : (part4 4).all ck4 = true := by decide +kernel
theorem all4_5 : (part4 5).all ck4 = true := by decide +kernel
theorem all4_6 : (part4 6).all ck4 = true := by decide +kernel
theorem all4_7 : (part4 7).all ck4 = true := by decide +kernel
theorem all4_8 : (part4 8).all ck4 = true := by decide +kernel
theorem all4_9 : (part4 9).all ck4 = true := by decide +kernel
theorem all4_10 : (part4 10).all ck4 = true := by decide +kernel
theorem all4_11 : (part4 11).all ck4 = true := by decide +kernel
theorem all4_12 : (part4 12).all ck4 = true := by decide +kernel
theorem len4 : SC.length ≤ 1950 := by decide +kernel
theorem all4 : ∀ s ∈ SC, ck4 s = true := by
  intro s hs
  obtain ⟨i, hi, rfl⟩ := List.mem_iff_getElem.1 hs
  have hl := len4
  have hm : SC[i] ∈ part4 (i / 150) := by
    unfold part4
    rw [List.mem_take_iff_getElem]
    refine ⟨i % 150, by rw [List.length_drop]; omega, ?_⟩
    rw [List.getElem_drop]
    congr 1
    omega
  have hj : i / 150 < 13 := by omega
  generalize i / 150 = j at hm hj
  have : j = 0 ∨ j = 1 ∨ j = 2 ∨ j = 3 ∨ j = 4 ∨ j = 5 ∨ j = 6 ∨ j = 7 ∨ j = 8 ∨ j = 9 ∨ j = 10 ∨ j = 11 ∨ j = 12 := by omega
  rcases this with rfl | rfl | rfl | rfl | rfl | rfl | rfl | rfl | rfl | rfl | rfl | rfl | rfl
  · exact List.all_eq_true.1 all4_0 _ hm
  · exact List.all_eq_true.1 all4_1 _ hm
  · exact List.all_eq_true.1 all4_2 _ hm
  · exact List.all_eq_true.1 all4_3 _ hm
  · exact List.all_eq_true.1 all4_4 _ hm
  · exact List.all_eq_true.1 all4_5 _ hm
  · exact List.all_eq_true.1 all4_6 _ hm
  · exact List.all_eq_true.1 all4_7 _ hm
  · exact List.all_eq_true.1 all4_8 _ hm
  · exact List.all_eq_true.1 all4_9 _ hm
  · exact List.all_eq_true.1 all4_10 _ hm
  · exact List.all_eq_true.1 all4_11 _ hm
  · exact List.all_eq_true.1 all4_12 _ hm
theorem text_wp' {s : List Int} (h : scaleP s) : ∃ t, Wp (fun k => impl_ScaleText.f k s) (fun r => r = t) ∧ Wp (fun k => impl_ReadScale.f k t) (fun r => r = (s, true)) := by
  have hk := all4 s (scale_SC h)
  unfold ck4 at hk
  match e1 : impl_ScaleText.f 100 s with
  | none => rw [e1] at hk; cases hk
  | some t =>
    rw [e1] at hk
    dsimp only at hk
    match e2 : impl_ReadScale.f 100 t with
    | none => rw [e2] at hk; cases hk
    | some (u, b) =>
      rw [e2] at hk
      dsimp only at hk
      rw [decide_eq_true_eq] at hk
      obtain ⟨rfl, rfl⟩ := hk
      exact ⟨t, ⟨_, rfl, 100, up_fuel (impl_ScaleText.mono _) e1⟩, ⟨_, rfl, 100, up_fuel (impl_ReadScale.mono _) e2⟩⟩
end Go.Proofs.Ytbedlmlofnphkaa.Pure
