-- WRITTEN BY wip/gprint.py, a program of this session's over the kit's print, with contracts given by hand
import Derived.Test.YtmeflmlejcmckaaDoorPSx0
namespace Go.Proofs.YtmeflmlejcmckaaDoor.PS
open Go.RowKit Go.Proofs.YtmeflmlejcmckaaDoorW.PrintWords Go.Proofs.YtmeflmlejcmckaaDoorW.PrintLast Go.Proofs.YtmeflmlejcmckaaDoorW.PrintMore
attribute [local go_sem] max2_int min2_int max_two min_two max_three min_three max_four min_four   -- for this text's walks alone
set_option linter.unusedVariables false
set_option linter.unusedSimpArgs false

/-! ### impl_handText: function 92 (a contract given by hand) -/
theorem ix_hands : Tryd.prog.underlying 166 = some (.array 4 9) := by kernel_rfl
def impl_handText.f (a0 : Int) : Option (ByteArray) := if a0 = 1 then (some (⟨#[108]⟩ : ByteArray)) else (if a0 = 2 then (some (⟨#[114]⟩ : ByteArray)) else (if a0 = 3 then (some (⟨#[98]⟩ : ByteArray)) else none))
set_option maxHeartbeats 8000000 in
set_option maxRecDepth 100000 in
theorem impl_handText.calls (a0 : Int) (r : ByteArray) (w : World) (h : impl_handText.f a0 = some r) :
 Calls Tryd.prog 92 #[.int .i64 a0] w fun e w' => e = .returned (.string r) ∧ Drawn0 w w' := by
 have H : (if a0 = 1 then (some (⟨#[108]⟩ : ByteArray)) else (if a0 = 2 then (some (⟨#[114]⟩ : ByteArray)) else (if a0 = 3 then (some (⟨#[98]⟩ : ByteArray)) else none))) = some r := h
 clear h
 have i1 : ∀ w, (Instr.index 166 (.agg #[.string ⟨#[]⟩, .string ⟨#[108]⟩, .string ⟨#[114]⟩, .string ⟨#[98]⟩]) (.int .i64 1)).run Tryd.prog w = .ok (.string ⟨#[108]⟩) w := fun w => ix_arr ix_hands w (by kernel_rfl) (by kernel_rfl) _ _ _ _ (by decide) (by decide) rfl
 have i2 : ∀ w, (Instr.index 166 (.agg #[.string ⟨#[]⟩, .string ⟨#[108]⟩, .string ⟨#[114]⟩, .string ⟨#[98]⟩]) (.int .i64 2)).run Tryd.prog w = .ok (.string ⟨#[114]⟩) w := fun w => ix_arr ix_hands w (by kernel_rfl) (by kernel_rfl) _ _ _ _ (by decide) (by decide) rfl
 have i3 : ∀ w, (Instr.index 166 (.agg #[.string ⟨#[]⟩, .string ⟨#[108]⟩, .string ⟨#[114]⟩, .string ⟨#[98]⟩]) (.int .i64 3)).run Tryd.prog w = .ok (.string ⟨#[98]⟩) w := fun w => ix_arr ix_hands w (by kernel_rfl) (by kernel_rfl) _ _ _ _ (by decide) (by decide) rfl
 by_cases c1 : a0 = 1
 · subst c1
   rw [if_pos rfl] at H
   obtain rfl := Option.some.inj H
   go_enter Tryd.func92, Tryd.ntmps92
   go_wp2
   go_ret
   exact ⟨by first | rfl | (simp; done) | (simp [*]; done), tZ⟩
 rw [if_neg c1] at H
 by_cases c2 : a0 = 2
 · subst c2
   rw [if_pos rfl] at H
   obtain rfl := Option.some.inj H
   go_enter Tryd.func92, Tryd.ntmps92
   go_wp2
   go_ret
   exact ⟨by first | rfl | (simp; done) | (simp [*]; done), tZ⟩
 rw [if_neg c2] at H
 by_cases c3 : a0 = 3
 · subst c3
   rw [if_pos rfl] at H
   obtain rfl := Option.some.inj H
   go_enter Tryd.func92, Tryd.ntmps92
   go_wp2
   go_ret
   exact ⟨by first | rfl | (simp; done) | (simp [*]; done), tZ⟩
 rw [if_neg c3] at H
 cases H

/-! ### strings_Join: function 93 (a contract given by hand) -/
def lays156_ren : Go.Shelf.Ren := ⟨fun | 156 => 93 | 165 => 153 | 166 => 154 | 169 => 155 | 240 => 195 | 241 => 196 | 276 => 227 | 277 => 228 | n => n, fun | 31 => 22 | 9 => 9 | 3 => 3 | 4 => 4 | 0 => 0 | 20 => 20 | 72 => 169 | 76 => 171 | 70 => 167 | 37 => 49 | 75 => 157 | 127 => 193 | 164 => 219 | 5 => 5 | 80 => 173 | n => n, fun  | n => n⟩
theorem lays156 : Lays.n156 Tryd.prog lays156_ren := { mixed := by kernel_rfl, f156 := Tryd.func93.trans (congrArg some (by kernel_rfl)), f165 := Tryd.func153.trans (congrArg some (by kernel_rfl)), f166 := Tryd.func154.trans (congrArg some (by kernel_rfl)), f169 := Tryd.func155.trans (congrArg some (by kernel_rfl)), f240 := Tryd.func195.trans (congrArg some (by kernel_rfl)), f241 := Tryd.func196.trans (congrArg some (by kernel_rfl)), f276 := Tryd.func227.trans (congrArg some (by kernel_rfl)), f277 := Tryd.func228.trans (congrArg some (by kernel_rfl)), t0 := Tryd.underlying0, a0 := Tryd.isAgg0, z0 := Tryd.sizeOf0, v0 := Tryd.zeroValue0, t3 := Tryd.underlying3, a3 := Tryd.isAgg3, z3 := Tryd.sizeOf3, v3 := Tryd.zeroValue3, t4 := Tryd.underlying4, a4 := Tryd.isAgg4, z4 := Tryd.sizeOf4, v4 := Tryd.zeroValue4, t9 := Tryd.underlying9, a9 := Tryd.isAgg9, z9 := Tryd.sizeOf9, v9 := Tryd.zeroValue9, t20 := Tryd.underlying20, a20 := Tryd.isAgg20, z20 := Tryd.sizeOf20, v20 := Tryd.zeroValue20, t31 := Tryd.underlying22, a31 := Tryd.isAgg22, z31 := Tryd.sizeOf22, v31 := Tryd.zeroValue22, t37 := Tryd.underlying49, a37 := Tryd.isAgg49, z37 := Tryd.sizeOf49, v37 := Tryd.zeroValue49, t70 := Tryd.underlying167, a70 := Tryd.isAgg167, z70 := Tryd.sizeOf167, v70 := Tryd.zeroValue167, t72 := Tryd.underlying169, a72 := Tryd.isAgg169, z72 := Tryd.sizeOf169, v72 := Tryd.zeroValue169, t75 := Tryd.underlying157, a75 := Tryd.isAgg157, z75 := Tryd.sizeOf157, v75 := Tryd.zeroValue157, t76 := Tryd.underlying171, a76 := Tryd.isAgg171, z76 := Tryd.sizeOf171, v76 := Tryd.zeroValue171, t127 := Tryd.underlying193, a127 := Tryd.isAgg193, z127 := Tryd.sizeOf193, v127 := Tryd.zeroValue193, t164 := Tryd.underlying219, a164 := Tryd.isAgg219, z164 := Tryd.sizeOf219, v164 := Tryd.zeroValue219 }
theorem builderX156 : Builder.Extra Tryd.prog lays156_ren := { sizeBuilder := by kernel_rfl, liesBuilder := by kernel_rfl, t5 := Tryd.underlying5, a5 := Tryd.isAgg5, z5 := Tryd.sizeOf5, v5 := Tryd.zeroValue5, infoByte := by kernel_rfl, cellsByte := by kernel_rfl, sizeByte := by kernel_rfl, neB5 := by decide }
/-- Texts joined. -/
def joinT (l : List ByteArray) (sep : ByteArray) : ByteArray := ⟨(Go.Lib.join (l.map (·.data.toList)) sep.data.toList).toArray⟩
def strings_Join.f (l0 : List ByteArray) (a1 : ByteArray) : Option (ByteArray) := if l0.length ≤ 140737488355328 ∧ (Go.Lib.join (l0.map (·.data.toList)) a1.data.toList).length ≤ 140737488355328 then some (joinT l0 a1) else none
set_option maxHeartbeats 8000000 in
set_option maxRecDepth 100000 in
theorem strings_Join.calls (A0 : Option Addr) (c0 : Nat) (l0 : List ByteArray) (a1 : ByteArray) (r : ByteArray) (w : World) (hr0 : Kd.C Kd.string w A0 l0.length l0) (hc0 : l0.length ≤ c0) (h : strings_Join.f l0 a1 = some r) :
 Calls Tryd.prog 93 #[.slice A0 l0.length c0, .string a1] w fun e w' => e = .returned (.string r) ∧ Below w.heap.size w w' := by
 unfold strings_Join.f at h
 split at h
 · rename_i hlim
   injection h with h
   subst h
   cases hl : l0 with
   | nil =>
    have h0 := Any.strings_Join_none lays156 builderX156 A0 c0 a1 w
    exact h0.mono fun e w' ⟨he, hw⟩ => ⟨he, hw ▸ Below.refl _ _⟩
   | cons x t =>
   rw [← hl]
   have hp : (0 : Int) < (l0.length : Int) := by rw [hl]; simp
   obtain ⟨ad, e0, hx⟩ := Kd.at_string hr0 0 (by omega) (by omega)
   obtain ⟨bk, o, spot⟩ := ad
   have hs : spot = none := by
    cases spot with
    | none => rfl
    | some s =>
    rw [show (0 : Int).toNat = 0 from rfl, Addr.add_zero'] at hx
    unfold World.cell? at hx
    split at hx <;> simp at hx
   subst hs
   subst e0
   have hblk : bk < w.heap.size := by
    rw [show (0 : Int).toNat = 0 from rfl, Addr.add_zero'] at hx
    exact World.block_lt_of_cell? w _ hx
   refine Any.strings_Join lays156 builderX156 bk o c0 l0 a1 w (fun j x hj => ?_) hblk hlim.1 hc0 hlim.2
   have hjl : j < l0.length := (List.getElem?_eq_some_iff.1 hj).1
   obtain ⟨ad, e1, hy⟩ := Kd.at_string hr0 (j : Int) (by omega) (by omega)
   injection e1 with e1
   subst e1
   rw [Int.toNat_natCast] at hy
   have e2 : rdOf ByteArray.empty l0 (j : Int) = x := by
    simp only [rdOf, Int.toNat_natCast, List.getD_eq_getElem?_getD, hj, Option.getD_some]
   rw [e2] at hy
   rcases Nat.eq_zero_or_pos j with rfl | hj0
   · rw [Addr.add_zero'] at hy; exact hy
   unfold Addr.add at hy
   rw [if_neg (by omega)] at hy
   exact hy
 cases h

end Go.Proofs.YtmeflmlejcmckaaDoor.PS
