-- WRITTEN BY wip/gprint.py, a program of this session's over the kit's print, with contracts given by hand
import Derived.Test.YtbedlmlofnphkaaPZx0
import Derived.Test.YtbedlmlofnphkaaPZx1
import Derived.Test.YtbedlmlofnphkaaPZx13
import Derived.Test.YtbedlmlofnphkaaPZx16
import Derived.Test.YtbedlmlofnphkaaPZx25
import Derived.Test.YtbedlmlofnphkaaPZx26
import Derived.Test.YtbedlmlofnphkaaPZx27
namespace Go.Proofs.Ytbedlmlofnphkaa.PZ
open Go.RowKit Go.Proofs.YtbedlmlofnphkaaW.PrintWords Go.Proofs.YtbedlmlofnphkaaW.PrintLast Go.Proofs.YtbedlmlofnphkaaW.PrintMore
attribute [local go_sem] max2_int min2_int max_two min_two max_three min_three max_four min_four   -- for this text's walks alone
set_option linter.unusedVariables false
set_option linter.unusedSimpArgs false

attribute [local go_sem] isSome_setCell
/-! ### laws_FnMoves: function 10 -/
mutual
def laws_FnMoves.j0 : Nat → List Int → Int → Int → Int → Int → Int → List Int → Bool → ByteArray → List Int → List Int → Int → Int → List (List Int) → Option (Bool)
 | 0, _, _, _, _, _, _, _, _, _, _, _, _, _, _ => none
 | k + 1, x6, x7, x8, x9, x10, x11, x13, x56, x476000, x476001, x476002, x476003, x476004, x476005 => if x56 = true then (some false) else (if x9 = 0 then (if x7 < 0 then (laws_FnMoves.j1 k x6 x7 x8 x10 x11 x13 true x476000 x476001 x476002 x476003 x476004 x476005) else (laws_FnMoves.j1 k x6 x7 x8 x10 x11 x13 (decide (x7 ≥ (x6.length : Int))) x476000 x476001 x476002 x476003 x476004 x476005)) else (laws_FnMoves.j3 k x6 x10 x11 x13 (x6.length : Int) x476000 x476001 x476002 x476003 x476004 x476005))
def laws_FnMoves.j3 : Nat → List Int → Int → Int → List Int → Int → ByteArray → List Int → List Int → Int → Int → List (List Int) → Option (Bool)
 | 0, _, _, _, _, _, _, _, _, _, _, _ => none
 | k + 1, x6, x10, x11, x13, x15, x476000, x476001, x476002, x476003, x476004, x476005 => laws_FnMoves.l0 k x6 x10 x11 x13 x15 0 x476000 x476001 x476002 x476003 x476004 x476005
def laws_FnMoves.l0 : Nat → List Int → Int → Int → List Int → Int → Int → ByteArray → List Int → List Int → Int → Int → List (List Int) → Option (Bool)
 | 0, _, _, _, _, _, _, _, _, _, _, _, _ => none
 | k + 1, x6, x10, x11, x13, x15, x18, x476000, x476001, x476002, x476003, x476004, x476005 => if x18 < x15 then (if x18 = 0 then (if 0 < (x6.length : Int) then ((spec_ToneOf.f (rd x6 0)).bind fun t494 => ((laws_r8Has.f k x13 t494).bind fun t495 => (if t495 = true then (if x18 > 0 then (if 0 ≤ (wrap64 (x18 - 1)) then (if (wrap64 (x18 - 1)) < (x6.length : Int) then (if 0 ≤ x18 then (if x18 < (x6.length : Int) then ((spec_IsAllowed.f k x476000 x476001 x476002 x476003 x476004 x476005 (rd x6 (wrap64 (x18 - 1))) (rd x6 x18)).bind fun t498 => (if t498 = true then (laws_FnMoves.l0 k x6 x10 x11 x13 x15 (wrap64 (x18 + 1)) x476000 x476001 x476002 x476003 x476004 x476005) else (some false))) else (none)) else (none)) else (none)) else (none)) else (laws_FnMoves.l0 k x6 x10 x11 x13 x15 (wrap64 (x18 + 1)) x476000 x476001 x476002 x476003 x476004 x476005)) else (some false)))) else (none)) else (if x18 > 0 then (if 0 ≤ (wrap64 (x18 - 1)) then (if (wrap64 (x18 - 1)) < (x6.length : Int) then (if 0 ≤ x18 then (if x18 < (x6.length : Int) then ((spec_IsAllowed.f k x476000 x476001 x476002 x476003 x476004 x476005 (rd x6 (wrap64 (x18 - 1))) (rd x6 x18)).bind fun t501 => (if t501 = true then (laws_FnMoves.l0 k x6 x10 x11 x13 x15 (wrap64 (x18 + 1)) x476000 x476001 x476002 x476003 x476004 x476005) else (some false))) else (none)) else (none)) else (none)) else (none)) else (laws_FnMoves.l0 k x6 x10 x11 x13 x15 (wrap64 (x18 + 1)) x476000 x476001 x476002 x476003 x476004 x476005))) else (laws_FnMoves.l1 k x6 x10 x11 0 x476000 x476001 x476002 x476003 x476004 x476005)
def laws_FnMoves.l1 : Nat → List Int → Int → Int → Int → ByteArray → List Int → List Int → Int → Int → List (List Int) → Option (Bool)
 | 0, _, _, _, _, _, _, _, _, _, _ => none
 | k + 1, x6, x10, x11, x19, x476000, x476001, x476002, x476003, x476004, x476005 => if x19 < (x6.length : Int) then (if 0 ≤ x19 then ((spec_ToneOf.f (rd x6 x19)).bind fun t503 => (if t503 = x476003 then (laws_FnMoves.l1 k x6 (wrap64 (x10 - 1)) x11 (wrap64 (x19 + 1)) x476000 x476001 x476002 x476003 x476004 x476005) else (if t503 = x476004 then (laws_FnMoves.l1 k x6 x10 (wrap64 (x11 - 1)) (wrap64 (x19 + 1)) x476000 x476001 x476002 x476003 x476004 x476005) else (laws_FnMoves.l1 k x6 x10 x11 (wrap64 (x19 + 1)) x476000 x476001 x476002 x476003 x476004 x476005)))) else (none)) else (if x10 = 0 then (some (x11 == 0)) else (some false))
def laws_FnMoves.j1 : Nat → List Int → Int → Int → Int → Int → List Int → Bool → ByteArray → List Int → List Int → Int → Int → List (List Int) → Option (Bool)
 | 0, _, _, _, _, _, _, _, _, _, _, _, _, _ => none
 | k + 1, x6, x7, x8, x10, x11, x13, x67, x476000, x476001, x476002, x476003, x476004, x476005 => if x67 = true then (some false) else (if x7 = 0 then (laws_FnMoves.j2 k x6 x7 x8 x10 x11 x13 x7 (x8 != 1) x476000 x476001 x476002 x476003 x476004 x476005) else (laws_FnMoves.j2 k x6 x7 x8 x10 x11 x13 x7 false x476000 x476001 x476002 x476003 x476004 x476005))
def laws_FnMoves.j2 : Nat → List Int → Int → Int → Int → Int → List Int → Int → Bool → ByteArray → List Int → List Int → Int → Int → List (List Int) → Option (Bool)
 | 0, _, _, _, _, _, _, _, _, _, _, _, _, _, _ => none
 | k + 1, x6, x7, x8, x10, x11, x13, x15, x74, x476000, x476001, x476002, x476003, x476004, x476005 => if x74 = true then (some false) else (if x7 > 0 then (if 0 ≤ (wrap64 (x7 - 1)) then (if (wrap64 (x7 - 1)) < (x6.length : Int) then (if 0 ≤ x7 then (if x7 < (x6.length : Int) then ((spec_ReasonOf.f k x476000 x476001 x476002 x476003 x476004 x476005 (rd x6 (wrap64 (x7 - 1))) (rd x6 x7)).bind fun bt491 => (if bt491.2 = 0 then (if bt491.1 = x8 then (laws_FnMoves.j3 k x6 x10 x11 x13 x15 x476000 x476001 x476002 x476003 x476004 x476005) else (some false)) else (some false))) else (none)) else (none)) else (none)) else (none)) else (laws_FnMoves.j3 k x6 x10 x11 x13 x15 x476000 x476001 x476002 x476003 x476004 x476005))
end
def laws_FnMoves.f (k : Nat) (l0 : List Int) (l1 : List Int) : Option (Bool) := (laws_r8Long.f l0 l1).bind fun t462 => (if t462 = true then (some true) else ((spec_R8Raga.f k l0).bind fun bt463 => ((spec_R8Pitches.f k l1 bt463.1 bt463.2.1 bt463.2.2.1 bt463.2.2.2.1 bt463.2.2.2.2.1 bt463.2.2.2.2.2).bind fun t476 => ((impl_FirstWrong.f k bt463.1 bt463.2.1 bt463.2.2.1 bt463.2.2.2.1 bt463.2.2.2.2.1 bt463.2.2.2.2.2 t476).bind fun bt479 => ((impl_StrengthOf.f k bt463.1 bt463.2.1 bt463.2.2.1 bt463.2.2.2.1 bt463.2.2.2.2.1 bt463.2.2.2.2.2 t476).bind fun bt482 => ((spec_TonesOf.f k bt463.1 bt463.2.1 bt463.2.2.1 bt463.2.2.2.1 bt463.2.2.2.2.1 bt463.2.2.2.2.2).bind fun bt485 => (if bt479.2.2 = 0 then (laws_FnMoves.j0 k t476 bt479.1 bt479.2.1 bt479.2.2 bt482.1 bt482.2.1 bt485.1 (bt482.2.2 != 0) bt463.1 bt463.2.1 bt463.2.2.1 bt463.2.2.2.1 bt463.2.2.2.2.1 bt463.2.2.2.2.2) else (if bt479.2.2 = 3 then (laws_FnMoves.j0 k t476 bt479.1 bt479.2.1 bt479.2.2 bt482.1 bt482.2.1 bt485.1 (bt482.2.2 != 0) bt463.1 bt463.2.1 bt463.2.2.1 bt463.2.2.2.1 bt463.2.2.2.2.1 bt463.2.2.2.2.2) else (laws_FnMoves.j0 k t476 bt479.1 bt479.2.1 bt479.2.2 bt482.1 bt482.2.1 bt485.1 true bt463.1 bt463.2.1 bt463.2.2.1 bt463.2.2.2.1 bt463.2.2.2.2.1 bt463.2.2.2.2.2)))))))))
theorem laws_FnMoves.mono_l : ∀ k, (∀ y0 y1 y2 y3 y4 y5 y6 y7 y8 y9 y10 y11 y12 y13, LeO (laws_FnMoves.j0 k y0 y1 y2 y3 y4 y5 y6 y7 y8 y9 y10 y11 y12 y13) (laws_FnMoves.j0 (k + 1) y0 y1 y2 y3 y4 y5 y6 y7 y8 y9 y10 y11 y12 y13)) ∧ (∀ y0 y1 y2 y3 y4 y5 y6 y7 y8 y9 y10, LeO (laws_FnMoves.j3 k y0 y1 y2 y3 y4 y5 y6 y7 y8 y9 y10) (laws_FnMoves.j3 (k + 1) y0 y1 y2 y3 y4 y5 y6 y7 y8 y9 y10)) ∧ (∀ y0 y1 y2 y3 y4 y5 y6 y7 y8 y9 y10 y11, LeO (laws_FnMoves.l0 k y0 y1 y2 y3 y4 y5 y6 y7 y8 y9 y10 y11) (laws_FnMoves.l0 (k + 1) y0 y1 y2 y3 y4 y5 y6 y7 y8 y9 y10 y11)) ∧ (∀ y0 y1 y2 y3 y4 y5 y6 y7 y8 y9, LeO (laws_FnMoves.l1 k y0 y1 y2 y3 y4 y5 y6 y7 y8 y9) (laws_FnMoves.l1 (k + 1) y0 y1 y2 y3 y4 y5 y6 y7 y8 y9)) ∧ (∀ y0 y1 y2 y3 y4 y5 y6 y7 y8 y9 y10 y11 y12, LeO (laws_FnMoves.j1 k y0 y1 y2 y3 y4 y5 y6 y7 y8 y9 y10 y11 y12) (laws_FnMoves.j1 (k + 1) y0 y1 y2 y3 y4 y5 y6 y7 y8 y9 y10 y11 y12)) ∧ (∀ y0 y1 y2 y3 y4 y5 y6 y7 y8 y9 y10 y11 y12 y13, LeO (laws_FnMoves.j2 k y0 y1 y2 y3 y4 y5 y6 y7 y8 y9 y10 y11 y12 y13) (laws_FnMoves.j2 (k + 1) y0 y1 y2 y3 y4 y5 y6 y7 y8 y9 y10 y11 y12 y13))
 | 0 => ⟨fun _ _ _ _ _ _ _ _ _ _ _ _ _ _ r h => by simp [laws_FnMoves.j0] at h, fun _ _ _ _ _ _ _ _ _ _ _ r h => by simp [laws_FnMoves.j3] at h, fun _ _ _ _ _ _ _ _ _ _ _ _ r h => by simp [laws_FnMoves.l0] at h, fun _ _ _ _ _ _ _ _ _ _ r h => by simp [laws_FnMoves.l1] at h, fun _ _ _ _ _ _ _ _ _ _ _ _ _ r h => by simp [laws_FnMoves.j1] at h, fun _ _ _ _ _ _ _ _ _ _ _ _ _ _ r h => by simp [laws_FnMoves.j2] at h⟩
 | k + 1 => by
  obtain ⟨ih0, ih1, ih2, ih3, ih4, ih5⟩ := laws_FnMoves.mono_l k
  refine ⟨?_, ?_, ?_, ?_, ?_, ?_⟩
  all_goals (intros; (first | unfold laws_FnMoves.j0 | unfold laws_FnMoves.j3 | unfold laws_FnMoves.l0 | unfold laws_FnMoves.l1 | unfold laws_FnMoves.j1 | unfold laws_FnMoves.j2); repeat' first
   | (with_reducible exact ih0 _ _ _ _ _ _ _ _ _ _ _ _ _ _)
   | (with_reducible exact ih1 _ _ _ _ _ _ _ _ _ _ _)
   | (with_reducible exact ih2 _ _ _ _ _ _ _ _ _ _ _ _)
   | (with_reducible exact ih3 _ _ _ _ _ _ _ _ _ _)
   | (with_reducible exact ih4 _ _ _ _ _ _ _ _ _ _ _ _ _)
   | (with_reducible exact ih5 _ _ _ _ _ _ _ _ _ _ _ _ _ _)
   | (with_reducible exact impl_FirstWrong.mono _ _ _ _ _ _ _ _)
   | (with_reducible exact impl_StrengthOf.mono _ _ _ _ _ _ _ _)
   | (with_reducible exact laws_r8Has.mono _ _ _)
   | (with_reducible exact spec_IsAllowed.mono _ _ _ _ _ _ _ _ _)
   | (with_reducible exact spec_R8Pitches.mono _ _ _ _ _ _ _ _)
   | (with_reducible exact spec_R8Raga.mono _ _)
   | (with_reducible exact spec_ReasonOf.mono _ _ _ _ _ _ _ _ _)
   | (with_reducible exact spec_TonesOf.mono _ _ _ _ _ _ _)
   | (with_reducible exact LeO.refl _)
   | (with_reducible exact LeO.none _)
   | (with_reducible refine LeO.ite ?_ ?_)
   | (with_reducible refine LeO.bind ?_ (fun _ => ?_))
   | exact ih0 _ _ _ _ _ _ _ _ _ _ _ _ _ _
   | exact ih1 _ _ _ _ _ _ _ _ _ _ _
   | exact ih2 _ _ _ _ _ _ _ _ _ _ _ _
   | exact ih3 _ _ _ _ _ _ _ _ _ _
   | exact ih4 _ _ _ _ _ _ _ _ _ _ _ _ _
   | exact ih5 _ _ _ _ _ _ _ _ _ _ _ _ _ _
   | exact impl_FirstWrong.mono _ _ _ _ _ _ _ _
   | exact impl_StrengthOf.mono _ _ _ _ _ _ _ _
   | exact laws_r8Has.mono _ _ _
   | exact spec_IsAllowed.mono _ _ _ _ _ _ _ _ _
   | exact spec_R8Pitches.mono _ _ _ _ _ _ _ _
   | exact spec_R8Raga.mono _ _
   | exact spec_ReasonOf.mono _ _ _ _ _ _ _ _ _
   | exact spec_TonesOf.mono _ _ _ _ _ _ _
   | exact LeO.none _
   | refine LeO.ite ?_ ?_
   | refine LeO.bind ?_ (fun _ => ?_))
theorem laws_FnMoves.mono : ∀ a0 a1 k, LeO (laws_FnMoves.f k a0 a1) (laws_FnMoves.f (k + 1) a0 a1) := by
 intro a0 a1 k
 obtain ⟨ih0, ih1, ih2, ih3, ih4, ih5⟩ := laws_FnMoves.mono_l k
 unfold laws_FnMoves.f
 repeat' first
  | (with_reducible exact ih0 _ _ _ _ _ _ _ _ _ _ _ _ _ _)
  | (with_reducible exact ih1 _ _ _ _ _ _ _ _ _ _ _)
  | (with_reducible exact ih2 _ _ _ _ _ _ _ _ _ _ _ _)
  | (with_reducible exact ih3 _ _ _ _ _ _ _ _ _ _)
  | (with_reducible exact ih4 _ _ _ _ _ _ _ _ _ _ _ _ _)
  | (with_reducible exact ih5 _ _ _ _ _ _ _ _ _ _ _ _ _ _)
  | (with_reducible exact impl_FirstWrong.mono _ _ _ _ _ _ _ _)
  | (with_reducible exact impl_StrengthOf.mono _ _ _ _ _ _ _ _)
  | (with_reducible exact laws_r8Has.mono _ _ _)
  | (with_reducible exact spec_IsAllowed.mono _ _ _ _ _ _ _ _ _)
  | (with_reducible exact spec_R8Pitches.mono _ _ _ _ _ _ _ _)
  | (with_reducible exact spec_R8Raga.mono _ _)
  | (with_reducible exact spec_ReasonOf.mono _ _ _ _ _ _ _ _ _)
  | (with_reducible exact spec_TonesOf.mono _ _ _ _ _ _ _)
  | (with_reducible exact LeO.refl _)
  | (with_reducible exact LeO.none _)
  | (with_reducible refine LeO.ite ?_ ?_)
  | (with_reducible refine LeO.bind ?_ (fun _ => ?_))
  | exact ih0 _ _ _ _ _ _ _ _ _ _ _ _ _ _
  | exact ih1 _ _ _ _ _ _ _ _ _ _ _
  | exact ih2 _ _ _ _ _ _ _ _ _ _ _ _
  | exact ih3 _ _ _ _ _ _ _ _ _ _
  | exact ih4 _ _ _ _ _ _ _ _ _ _ _ _ _
  | exact ih5 _ _ _ _ _ _ _ _ _ _ _ _ _ _
  | exact impl_FirstWrong.mono _ _ _ _ _ _ _ _
  | exact impl_StrengthOf.mono _ _ _ _ _ _ _ _
  | exact laws_r8Has.mono _ _ _
  | exact spec_IsAllowed.mono _ _ _ _ _ _ _ _ _
  | exact spec_R8Pitches.mono _ _ _ _ _ _ _ _
  | exact spec_R8Raga.mono _ _
  | exact spec_ReasonOf.mono _ _ _ _ _ _ _ _ _
  | exact spec_TonesOf.mono _ _ _ _ _ _ _
  | exact LeO.none _
  | refine LeO.ite ?_ ?_
  | refine LeO.bind ?_ (fun _ => ?_)
def laws_FnMoves.T18 : Bool × List (List Nat × List Nat) := (true, [([], []), ([], []), ([], []), ([2], [2]), ([1, 3], [1, 3]), ([4], [4]), ([], []), ([], []), ([6, 7], [6, 7]), ([8], [8]), ([0, 5, 9], [0, 5, 9]), ([10], [10]), ([11], [11]), ([11], [11]), ([12, 10, 0, 1, 2, 3, 4, 5, 6, 7, 8, 9, 10, 11, 12], [12]), ([13, 14, 0, 1, 2, 3, 4, 5, 6, 7, 8, 9, 10, 11, 12, 13, 14], [13])])
def laws_FnMoves.B18 : List Nat := [0, 0, 0, 4, 14, 30, 0, 0, 192, 448, 1023, 2047, 4095, 4095, 8191, 32767]
theorem laws_FnMoves.tab18 : rtab .any (opsOf Try.f10 18) = laws_FnMoves.T18 := by kernel_rfl
theorem laws_FnMoves.bits18 : waitsOk laws_FnMoves.T18.2 laws_FnMoves.B18 = true := by kernel_rfl
def laws_FnMoves.T24 : Bool × List (List Nat × List Nat) := (true, [([], []), ([0], [0]), ([1], [1]), ([2], [2]), ([2], [2]), ([4, 2], [2, 4]), ([5, 2], [2, 5]), ([6, 2, 2], [2, 6]), ([3, 7, 7, 2], [2, 3, 7]), ([8, 2], [2, 8]), ([2, 9], [2, 9]), ([10, 8], [10]), ([11], [11]), ([12, 11], [11, 12]), ([13, 11, 11], [11, 13]), ([14], [14]), ([14], [14]), ([14], [14]), ([17, 14], [14, 17]), ([16, 18, 14], [14, 16, 18]), ([19, 14], [14, 19]), ([14], [14]), ([14], [14]), ([21, 22, 14], [14, 21, 22]), ([23, 14], [14, 23]), ([15, 20, 24, 14, 14], [14, 15, 20, 24]), ([25, 14], [14, 25]), ([14, 26, 11], [11, 14, 26]), ([11, 27], [11, 27])])
def laws_FnMoves.B24 : List Nat := [0, 1, 3, 7, 7, 23, 55, 119, 255, 511, 1023, 2047, 4095, 8191, 16383, 32767, 32767, 32767, 163839, 491519, 1015807, 32767, 32767, 6324223, 14712831, 33554431, 67108863, 134217727, 268435455]
theorem laws_FnMoves.tab24 : rtab .any (opsOf Try.f10 24) = laws_FnMoves.T24 := by kernel_rfl
theorem laws_FnMoves.bits24 : waitsOk laws_FnMoves.T24.2 laws_FnMoves.B24 = true := by kernel_rfl
set_option maxHeartbeats 8000000 in
set_option maxRecDepth 100000 in
theorem laws_FnMoves.calls (k : Nat) (A0 : Option Addr) (c0 : Nat) (l0 : List Int) (A1 : Option Addr) (c1 : Nat) (l1 : List Int) (r : Bool) (w : World) (hr0 : Kd.C (Kd.int .u8) w A0 l0.length l0) (hc0 : l0.length ≤ c0) (hr1 : Kd.C (Kd.int .u8) w A1 l1.length l1) (hc1 : l1.length ≤ c1) (h : laws_FnMoves.f k l0 l1 = some r) :
 Calls Try.prog 10 #[.slice A0 l0.length c0, .slice A1 l1.length c1] w fun e w' => e = .returned (.bool r) ∧ Below w.heap.size w w' := by
 have hu27 := Try.underlying27
 have HR0 := Aside0.mk hr0
 have HC0 := Aside0.mk hc0
 clear hr0 hc0
 have HR1 := Aside0.mk hr1
 have HC1 := Aside0.mk hc1
 clear hr1 hc1
 have HB := Aside0.mk (Below.refl w.heap.size w)
 have H : ((laws_r8Long.f l0 l1).bind fun t462 => (if t462 = true then (some true) else ((spec_R8Raga.f k l0).bind fun bt463 => ((spec_R8Pitches.f k l1 bt463.1 bt463.2.1 bt463.2.2.1 bt463.2.2.2.1 bt463.2.2.2.2.1 bt463.2.2.2.2.2).bind fun t476 => ((impl_FirstWrong.f k bt463.1 bt463.2.1 bt463.2.2.1 bt463.2.2.2.1 bt463.2.2.2.2.1 bt463.2.2.2.2.2 t476).bind fun bt479 => ((impl_StrengthOf.f k bt463.1 bt463.2.1 bt463.2.2.1 bt463.2.2.2.1 bt463.2.2.2.2.1 bt463.2.2.2.2.2 t476).bind fun bt482 => ((spec_TonesOf.f k bt463.1 bt463.2.1 bt463.2.2.1 bt463.2.2.2.1 bt463.2.2.2.2.1 bt463.2.2.2.2.2).bind fun bt485 => (if bt479.2.2 = 0 then (laws_FnMoves.j0 k t476 bt479.1 bt479.2.1 bt479.2.2 bt482.1 bt482.2.1 bt485.1 (bt482.2.2 != 0) bt463.1 bt463.2.1 bt463.2.2.1 bt463.2.2.2.1 bt463.2.2.2.2.1 bt463.2.2.2.2.2) else (if bt479.2.2 = 3 then (laws_FnMoves.j0 k t476 bt479.1 bt479.2.1 bt479.2.2 bt482.1 bt482.2.1 bt485.1 (bt482.2.2 != 0) bt463.1 bt463.2.1 bt463.2.2.1 bt463.2.2.2.1 bt463.2.2.2.2.1 bt463.2.2.2.2.2) else (laws_FnMoves.j0 k t476 bt479.1 bt479.2.1 bt479.2.2 bt482.1 bt482.2.1 bt485.1 true bt463.1 bt463.2.1 bt463.2.2.1 bt463.2.2.2.1 bt463.2.2.2.2.1 bt463.2.2.2.2.2)))))))))) = some r := h
 clear h
 replace H := Option.bind_eq_some_iff.mp H
 obtain ⟨t462, A30, H⟩ := H
 replace H : (if t462 = true then (some true) else ((spec_R8Raga.f k l0).bind fun bt463 => ((spec_R8Pitches.f k l1 bt463.1 bt463.2.1 bt463.2.2.1 bt463.2.2.2.1 bt463.2.2.2.2.1 bt463.2.2.2.2.2).bind fun t476 => ((impl_FirstWrong.f k bt463.1 bt463.2.1 bt463.2.2.1 bt463.2.2.2.1 bt463.2.2.2.2.1 bt463.2.2.2.2.2 t476).bind fun bt479 => ((impl_StrengthOf.f k bt463.1 bt463.2.1 bt463.2.2.1 bt463.2.2.2.1 bt463.2.2.2.2.1 bt463.2.2.2.2.2 t476).bind fun bt482 => ((spec_TonesOf.f k bt463.1 bt463.2.1 bt463.2.2.1 bt463.2.2.2.1 bt463.2.2.2.2.1 bt463.2.2.2.2.2).bind fun bt485 => (if bt479.2.2 = 0 then (laws_FnMoves.j0 k t476 bt479.1 bt479.2.1 bt479.2.2 bt482.1 bt482.2.1 bt485.1 (bt482.2.2 != 0) bt463.1 bt463.2.1 bt463.2.2.1 bt463.2.2.2.1 bt463.2.2.2.2.1 bt463.2.2.2.2.2) else (if bt479.2.2 = 3 then (laws_FnMoves.j0 k t476 bt479.1 bt479.2.1 bt479.2.2 bt482.1 bt482.2.1 bt485.1 (bt482.2.2 != 0) bt463.1 bt463.2.1 bt463.2.2.1 bt463.2.2.2.1 bt463.2.2.2.2.1 bt463.2.2.2.2.2) else (laws_FnMoves.j0 k t476 bt479.1 bt479.2.1 bt479.2.2 bt482.1 bt482.2.1 bt485.1 true bt463.1 bt463.2.1 bt463.2.2.1 bt463.2.2.2.1 bt463.2.2.2.2.1 bt463.2.2.2.2.2))))))))) = some r := H
 have A3 := Aside0.mk A30
 clear A30
 by_cases c4 : t462 = true
 · subst c4
   have H1 : (some true) = some r := by rw [if_pos rfl] at H; exact H
   clear H
   have H := H1
   clear H1
   obtain rfl := Option.some.inj H
   go_enter Try.func10, Try.ntmps10
   go_wp2_with (first | ((with_reducible refine gate_callee (f := 13) rfl ?_); refine gL_ (some 22) rfl rfl Try.func13 #[.slice A0 l0.length c0, .slice A1 l1.length c1] rfl ?_; (with_reducible refine (laws_r8Long.calls _ _ l0 _ _ l1 true _ ?side1 ?side2 ?side3 ?side4 A3.out).mono ?_); (case side1 => exact tC HR0.out); (case side2 => exact HC0.out); (case side3 => exact tC HR1.out); (case side4 => exact HC1.out); rintro e w' ⟨rfl, ⟨nd, rfl⟩⟩; refine ⟨_, rfl, ?_⟩))
   go_ret
   exact ⟨tE, tH HB⟩
 replace c4 := Bool.eq_false_iff.mpr c4
 subst c4
 have H1 : ((spec_R8Raga.f k l0).bind fun bt463 => ((spec_R8Pitches.f k l1 bt463.1 bt463.2.1 bt463.2.2.1 bt463.2.2.2.1 bt463.2.2.2.2.1 bt463.2.2.2.2.2).bind fun t476 => ((impl_FirstWrong.f k bt463.1 bt463.2.1 bt463.2.2.1 bt463.2.2.2.1 bt463.2.2.2.2.1 bt463.2.2.2.2.2 t476).bind fun bt479 => ((impl_StrengthOf.f k bt463.1 bt463.2.1 bt463.2.2.1 bt463.2.2.2.1 bt463.2.2.2.2.1 bt463.2.2.2.2.2 t476).bind fun bt482 => ((spec_TonesOf.f k bt463.1 bt463.2.1 bt463.2.2.1 bt463.2.2.2.1 bt463.2.2.2.2.1 bt463.2.2.2.2.2).bind fun bt485 => (if bt479.2.2 = 0 then (laws_FnMoves.j0 k t476 bt479.1 bt479.2.1 bt479.2.2 bt482.1 bt482.2.1 bt485.1 (bt482.2.2 != 0) bt463.1 bt463.2.1 bt463.2.2.1 bt463.2.2.2.1 bt463.2.2.2.2.1 bt463.2.2.2.2.2) else (if bt479.2.2 = 3 then (laws_FnMoves.j0 k t476 bt479.1 bt479.2.1 bt479.2.2 bt482.1 bt482.2.1 bt485.1 (bt482.2.2 != 0) bt463.1 bt463.2.1 bt463.2.2.1 bt463.2.2.2.1 bt463.2.2.2.2.1 bt463.2.2.2.2.2) else (laws_FnMoves.j0 k t476 bt479.1 bt479.2.1 bt479.2.2 bt482.1 bt482.2.1 bt485.1 true bt463.1 bt463.2.1 bt463.2.2.1 bt463.2.2.2.1 bt463.2.2.2.2.1 bt463.2.2.2.2.2)))))))) = some r := by rw [if_neg (show ¬ (false = true) by decide)] at H; exact H
 clear H
 have H := H1
 clear H1
 replace H := Option.bind_eq_some_iff.mp H
 obtain ⟨⟨t463, t464, t467, t470, t471, t472⟩, A50, H⟩ := H
 replace H : ((spec_R8Pitches.f k l1 t463 t464 t467 t470 t471 t472).bind fun t476 => ((impl_FirstWrong.f k t463 t464 t467 t470 t471 t472 t476).bind fun bt479 => ((impl_StrengthOf.f k t463 t464 t467 t470 t471 t472 t476).bind fun bt482 => ((spec_TonesOf.f k t463 t464 t467 t470 t471 t472).bind fun bt485 => (if bt479.2.2 = 0 then (laws_FnMoves.j0 k t476 bt479.1 bt479.2.1 bt479.2.2 bt482.1 bt482.2.1 bt485.1 (bt482.2.2 != 0) t463 t464 t467 t470 t471 t472) else (if bt479.2.2 = 3 then (laws_FnMoves.j0 k t476 bt479.1 bt479.2.1 bt479.2.2 bt482.1 bt482.2.1 bt485.1 (bt482.2.2 != 0) t463 t464 t467 t470 t471 t472) else (laws_FnMoves.j0 k t476 bt479.1 bt479.2.1 bt479.2.2 bt482.1 bt482.2.1 bt485.1 true t463 t464 t467 t470 t471 t472))))))) = some r := H
 have A5 := Aside0.mk A50
 clear A50
 replace H := Option.bind_eq_some_iff.mp H
 obtain ⟨t476, A60, H⟩ := H
 replace H : ((impl_FirstWrong.f k t463 t464 t467 t470 t471 t472 t476).bind fun bt479 => ((impl_StrengthOf.f k t463 t464 t467 t470 t471 t472 t476).bind fun bt482 => ((spec_TonesOf.f k t463 t464 t467 t470 t471 t472).bind fun bt485 => (if bt479.2.2 = 0 then (laws_FnMoves.j0 k t476 bt479.1 bt479.2.1 bt479.2.2 bt482.1 bt482.2.1 bt485.1 (bt482.2.2 != 0) t463 t464 t467 t470 t471 t472) else (if bt479.2.2 = 3 then (laws_FnMoves.j0 k t476 bt479.1 bt479.2.1 bt479.2.2 bt482.1 bt482.2.1 bt485.1 (bt482.2.2 != 0) t463 t464 t467 t470 t471 t472) else (laws_FnMoves.j0 k t476 bt479.1 bt479.2.1 bt479.2.2 bt482.1 bt482.2.1 bt485.1 true t463 t464 t467 t470 t471 t472)))))) = some r := H
 have A6 := Aside0.mk A60
 clear A60
 replace H := Option.bind_eq_some_iff.mp H
 obtain ⟨⟨t479, t480, t481⟩, A70, H⟩ := H
 replace H : ((impl_StrengthOf.f k t463 t464 t467 t470 t471 t472 t476).bind fun bt482 => ((spec_TonesOf.f k t463 t464 t467 t470 t471 t472).bind fun bt485 => (if t481 = 0 then (laws_FnMoves.j0 k t476 t479 t480 t481 bt482.1 bt482.2.1 bt485.1 (bt482.2.2 != 0) t463 t464 t467 t470 t471 t472) else (if t481 = 3 then (laws_FnMoves.j0 k t476 t479 t480 t481 bt482.1 bt482.2.1 bt485.1 (bt482.2.2 != 0) t463 t464 t467 t470 t471 t472) else (laws_FnMoves.j0 k t476 t479 t480 t481 bt482.1 bt482.2.1 bt485.1 true t463 t464 t467 t470 t471 t472))))) = some r := H
 have A7 := Aside0.mk A70
 clear A70
 replace H := Option.bind_eq_some_iff.mp H
 obtain ⟨⟨t482, t483, t484⟩, A80, H⟩ := H
 replace H : ((spec_TonesOf.f k t463 t464 t467 t470 t471 t472).bind fun bt485 => (if t481 = 0 then (laws_FnMoves.j0 k t476 t479 t480 t481 t482 t483 bt485.1 (t484 != 0) t463 t464 t467 t470 t471 t472) else (if t481 = 3 then (laws_FnMoves.j0 k t476 t479 t480 t481 t482 t483 bt485.1 (t484 != 0) t463 t464 t467 t470 t471 t472) else (laws_FnMoves.j0 k t476 t479 t480 t481 t482 t483 bt485.1 true t463 t464 t467 t470 t471 t472)))) = some r := H
 have A8 := Aside0.mk A80
 clear A80
 replace H := Option.bind_eq_some_iff.mp H
 obtain ⟨⟨t485, t488⟩, A90, H⟩ := H
 replace H : (if t481 = 0 then (laws_FnMoves.j0 k t476 t479 t480 t481 t482 t483 t485 (t484 != 0) t463 t464 t467 t470 t471 t472) else (if t481 = 3 then (laws_FnMoves.j0 k t476 t479 t480 t481 t482 t483 t485 (t484 != 0) t463 t464 t467 t470 t471 t472) else (laws_FnMoves.j0 k t476 t479 t480 t481 t482 t483 t485 true t463 t464 t467 t470 t471 t472))) = some r := H
 have A9 := Aside0.mk A90
 clear A90
 have HC10 := Aside0.mk H
 clear H
 go_enter Try.func10, Try.ntmps10
 go_upto_region 8 with (first | ((with_reducible refine gate_callee (f := 13) rfl ?_); refine gL_ (some 22) rfl rfl Try.func13 #[.slice A0 l0.length c0, .slice A1 l1.length c1] rfl ?_; (with_reducible refine (laws_r8Long.calls _ _ l0 _ _ l1 false _ ?side1 ?side2 ?side3 ?side4 A3.out).mono ?_); (case side1 => exact tC HR0.out); (case side2 => exact HC0.out); (case side3 => exact tC HR1.out); (case side4 => exact HC1.out); rintro e w' ⟨rfl, ⟨nd, rfl⟩⟩; refine ⟨_, rfl, ?_⟩) | ((with_reducible refine gate_callee (f := 14) rfl ?_); refine gL_ (some 24) rfl rfl Try.func14 #[.slice A0 l0.length c0] rfl ?_; (with_reducible refine (spec_R8Raga.calls k _ _ l0 t463 t464 t467 t470 t471 t472 _ ?side1 ?side2 A5.out).mono ?_); (case side1 => exact tC HR0.out); (case side2 => exact HC0.out); rintro e w11 ⟨v465, v468, v473, rfl, ho0, ho1, ho2, hb⟩; refine ⟨_, rfl, ?_⟩; have HO466 := Aside0.mk (Kd.R_lower (Kd.R_mono (ok' := fun k_ => some k_ ≠ (v468 : Value).ownBlock) ho0 (fun _ hk_ => hk_.2)) (below_size (tH HB))); have HO469 := Aside0.mk (Kd.R_lower (Kd.R_mono (ok' := fun k_ => some k_ ≠ (v465 : Value).ownBlock) ho1 (fun _ hk_ => hk_.2)) (below_size (tH HB))); have HO474 := Aside0.mk (Kd.N_lower (Kd.N_mono (ok' := fun k_ => some k_ ≠ (v465 : Value).ownBlock ∧ some k_ ≠ (v468 : Value).ownBlock) ho2 (fun k_ hk_ => ⟨hk_.2.1, hk_.2.2⟩)) (below_size (tH HB))); replace HB := Aside0.mk (below_step (tH HB) hb); (try clear hb); (try clear hb2); (try clear hk); (try clear hi); (try clear ho0); (try clear ho1); (try clear ho2)) | ((with_reducible refine gate_dst (N := 5) rfl ?_); refine box_event ?hg (N := 5) ?hd (cs := #[.string (⟨#[]⟩ : ByteArray), .slice none 0 0, .slice none 0 0, .int .i64 0, .int .i64 0, .slice none 0 0]) (t := 27) ?hr ?_; (case hd => rfl); (case hg => rfl); (case hr => first | (go_simp; done) | (go_simp; rfl)); intro gb475 hg w12 hbox hb; replace HO466 := Aside0.mk (Kd.R_below (tR HO466) hb); replace HO469 := Aside0.mk (Kd.R_below (tR HO469) hb); replace HO474 := Aside0.mk (Kd.N_below (Kd.N_elderB (tN HO474) gb475 (Nat.le_of_eq hg.symm)) hb); have BK475 := Aside0.mk (hbox); have GW475 := Aside0.mk ((by rw [hg]; exact (below_size (tH HB)) : w.heap.size ≤ gb475)); have GE475 := Aside0.mk ((by rw [hg]; exact (below_size (tH HB)) : w.heap.size ≤ gb475)); replace HB := Aside0.mk (below_step (tH HB) hb); clear hb hbox hg; have hcz13_0 : w12.cell? ⟨gb475, 0, none⟩ = some (.string (⟨#[]⟩ : ByteArray)) := (blk_cell BK475.out 0).trans rfl; have hcz13_1 : w12.cell? ⟨gb475, 1, none⟩ = some (.slice none 0 0) := (blk_cell BK475.out 1).trans rfl; have hcz13_2 : w12.cell? ⟨gb475, 2, none⟩ = some (.slice none 0 0) := (blk_cell BK475.out 2).trans rfl; have hcz13_3 : w12.cell? ⟨gb475, 3, none⟩ = some (.int .i64 0) := (blk_cell BK475.out 3).trans rfl; have hcz13_4 : w12.cell? ⟨gb475, 4, none⟩ = some (.int .i64 0) := (blk_cell BK475.out 4).trans rfl; have hcz13_5 : w12.cell? ⟨gb475, 5, none⟩ = some (.slice none 0 0) := (blk_cell BK475.out 5).trans rfl; have hfz13_0 := blk_frozen BK475.out 0; have hfz13_1 := blk_frozen BK475.out 1; have hfz13_2 := blk_frozen BK475.out 2; have hfz13_3 := blk_frozen BK475.out 3; have hfz13_4 := blk_frozen BK475.out 4; have hfz13_5 := blk_frozen BK475.out 5; obtain ⟨Ao14, co14, eo14⟩ := Kd.R_slice HO466.out; subst eo14; obtain ⟨Ao15, co15, eo15⟩ := Kd.R_slice HO469.out; subst eo15; obtain ⟨Ao16, co16, eo16⟩ := Kd.N_slice HO474.out; subst eo16) | ((with_reducible refine gate_callee (f := 82) rfl ?_); refine gL_ (some 27) rfl rfl Try.func82 #[.slice A1 l1.length c1, .agg #[.string t463, .slice Ao14 t464.length co14, .slice Ao15 t467.length co15, .int .i64 t470, .int .i64 t471, .slice Ao16 t472.length co16]] rfl ?_; (with_reducible refine (spec_R8Pitches.calls k _ _ l1 t463 _ _ t464 _ _ t467 t470 t471 _ _ t472 t476 _ ?side1 ?side2 ?side3 ?side4 ?side5 ?side6 ?side7 ?side8 A6.out).mono ?_); (case side1 => exact Kd.C_below HR1.out (tH1 HB GE475.out)); (case side2 => exact HC1.out); (case side3 => refine (Kd.R_reads' (e := 2) (base := w.heap.size) (ok := fun k_ => some k_ ≠ (.slice Ao15 t467.length co15 : Value).ownBlock) (n := t464.length) (c := co14) ?_).2.2; exact (by (with_reducible repeat (first | apply qra | apply qrn | apply qrd)); exact (Kd.R_mono (Kd.R_far (p := ⟨gb475, 5, none⟩) (Kd.R_far (p := ⟨gb475, 4, none⟩) (Kd.R_far (p := ⟨gb475, 3, none⟩) (Kd.R_far (p := ⟨gb475, 2, none⟩) (Kd.R_far (p := ⟨gb475, 1, none⟩) (Kd.R_far (p := ⟨gb475, 0, none⟩) (Kd.R_types HO466.out BK475.out (by decide)) (fun _ hk => hk.2) (.string t463)) (fun _ hk => hk.2) (.slice Ao14 t464.length co14)) (fun _ hk => hk.2) (.slice Ao15 t467.length co15)) (fun _ hk => hk.2) (.int .i64 t470)) (fun _ hk => hk.2) (.int .i64 t471)) (fun _ hk => hk.2) (.slice Ao16 t472.length co16)) (fun _ h_ => h_.1)))); (case side4 => exact (Kd.R_reads' HO466.out).2.1); (case side5 => refine (Kd.R_reads' (e := 2) (base := w.heap.size) (ok := fun k_ => some k_ ≠ (.slice Ao14 t464.length co14 : Value).ownBlock) (n := t467.length) (c := co15) ?_).2.2; exact (by (with_reducible repeat (first | apply qra | apply qrn | apply qrd)); exact (Kd.R_mono (Kd.R_far (p := ⟨gb475, 5, none⟩) (Kd.R_far (p := ⟨gb475, 4, none⟩) (Kd.R_far (p := ⟨gb475, 3, none⟩) (Kd.R_far (p := ⟨gb475, 2, none⟩) (Kd.R_far (p := ⟨gb475, 1, none⟩) (Kd.R_far (p := ⟨gb475, 0, none⟩) (Kd.R_types HO469.out BK475.out (by decide)) (fun _ hk => hk.2) (.string t463)) (fun _ hk => hk.2) (.slice Ao14 t464.length co14)) (fun _ hk => hk.2) (.slice Ao15 t467.length co15)) (fun _ hk => hk.2) (.int .i64 t470)) (fun _ hk => hk.2) (.int .i64 t471)) (fun _ hk => hk.2) (.slice Ao16 t472.length co16)) (fun _ h_ => h_.1)))); (case side6 => exact (Kd.R_reads' HO469.out).2.1); (case side7 => refine (Kd.N_reads' (e := 24) (base := w.heap.size) (ok := fun k_ => ((some k_ ≠ (.slice Ao14 t464.length co14 : Value).ownBlock ∧ some k_ ≠ (.slice Ao15 t467.length co15 : Value).ownBlock) ∧ k_ ≠ gb475)) (n := t472.length) (c := co16) ?_).2.2; exact (by (with_reducible repeat (first | apply Kd.N_alloc | apply Kd.N_drewN | apply Kd.N_drew)); exact (Kd.N_mono (Kd.N_far (p := ⟨gb475, 5, none⟩) (Kd.N_far (p := ⟨gb475, 4, none⟩) (Kd.N_far (p := ⟨gb475, 3, none⟩) (Kd.N_far (p := ⟨gb475, 2, none⟩) (Kd.N_far (p := ⟨gb475, 1, none⟩) (Kd.N_far (p := ⟨gb475, 0, none⟩) (Kd.N_mono HO474.out (fun k_ hk => (⟨hk, hk.2⟩ : _ ∧ k_ ≠ gb475))) (fun _ hk => hk.2) (.string t463)) (fun _ hk => hk.2) (.slice Ao14 t464.length co14)) (fun _ hk => hk.2) (.slice Ao15 t467.length co15)) (fun _ hk => hk.2) (.int .i64 t470)) (fun _ hk => hk.2) (.int .i64 t471)) (fun _ hk => hk.2) (.slice Ao16 t472.length co16)) (fun _ h_ => h_.1)))); (case side8 => exact (Kd.N_reads' HO474.out).2.1); rintro e w17 ⟨v477, rfl, ho0, hb⟩; refine ⟨_, rfl, ?_⟩; replace HO474 := Aside0.mk (Kd.N_elder' (by (with_reducible repeat (first | apply Kd.N_alloc | apply Kd.N_drewN | apply Kd.N_drew)); exact (Kd.N_mono (Kd.N_far (p := ⟨gb475, 5, none⟩) (Kd.N_far (p := ⟨gb475, 4, none⟩) (Kd.N_far (p := ⟨gb475, 3, none⟩) (Kd.N_far (p := ⟨gb475, 2, none⟩) (Kd.N_far (p := ⟨gb475, 1, none⟩) (Kd.N_far (p := ⟨gb475, 0, none⟩) (Kd.N_mono HO474.out (fun k_ hk => (⟨hk, hk.2⟩ : _ ∧ k_ ≠ gb475))) (fun _ hk => hk.2) (.string t463)) (fun _ hk => hk.2) (.slice Ao14 t464.length co14)) (fun _ hk => hk.2) (.slice Ao15 t467.length co15)) (fun _ hk => hk.2) (.int .i64 t470)) (fun _ hk => hk.2) (.int .i64 t471)) (fun _ hk => hk.2) (.slice Ao16 t472.length co16)) (fun _ h_ => h_.1))) (Kd.R_base ho0) hb); have HO478 := Aside0.mk (Kd.R_lower (Kd.R_new' (Kd.R_new' ho0 (Kd.R_lt (by (with_reducible repeat (first | apply qra | apply qrn | apply qrd)); exact (Kd.R_mono (Kd.R_far (p := ⟨gb475, 5, none⟩) (Kd.R_far (p := ⟨gb475, 4, none⟩) (Kd.R_far (p := ⟨gb475, 3, none⟩) (Kd.R_far (p := ⟨gb475, 2, none⟩) (Kd.R_far (p := ⟨gb475, 1, none⟩) (Kd.R_far (p := ⟨gb475, 0, none⟩) (Kd.R_types HO466.out BK475.out (by decide)) (fun _ hk => hk.2) (.string t463)) (fun _ hk => hk.2) (.slice Ao14 t464.length co14)) (fun _ hk => hk.2) (.slice Ao15 t467.length co15)) (fun _ hk => hk.2) (.int .i64 t470)) (fun _ hk => hk.2) (.int .i64 t471)) (fun _ hk => hk.2) (.slice Ao16 t472.length co16)) (fun _ h_ => h_.1))))) (Kd.R_lt (by (with_reducible repeat (first | apply qra | apply qrn | apply qrd)); exact (Kd.R_mono (Kd.R_far (p := ⟨gb475, 5, none⟩) (Kd.R_far (p := ⟨gb475, 4, none⟩) (Kd.R_far (p := ⟨gb475, 3, none⟩) (Kd.R_far (p := ⟨gb475, 2, none⟩) (Kd.R_far (p := ⟨gb475, 1, none⟩) (Kd.R_far (p := ⟨gb475, 0, none⟩) (Kd.R_types HO469.out BK475.out (by decide)) (fun _ hk => hk.2) (.string t463)) (fun _ hk => hk.2) (.slice Ao14 t464.length co14)) (fun _ hk => hk.2) (.slice Ao15 t467.length co15)) (fun _ hk => hk.2) (.int .i64 t470)) (fun _ hk => hk.2) (.int .i64 t471)) (fun _ hk => hk.2) (.slice Ao16 t472.length co16)) (fun _ h_ => h_.1))))) (below_size (tH1 HB GE475.out))); replace HO466 := Aside0.mk (Kd.R_elder' (by (with_reducible repeat (first | apply qra | apply qrn | apply qrd)); exact (Kd.R_mono (Kd.R_far (p := ⟨gb475, 5, none⟩) (Kd.R_far (p := ⟨gb475, 4, none⟩) (Kd.R_far (p := ⟨gb475, 3, none⟩) (Kd.R_far (p := ⟨gb475, 2, none⟩) (Kd.R_far (p := ⟨gb475, 1, none⟩) (Kd.R_far (p := ⟨gb475, 0, none⟩) (Kd.R_types HO466.out BK475.out (by decide)) (fun _ hk => hk.2) (.string t463)) (fun _ hk => hk.2) (.slice Ao14 t464.length co14)) (fun _ hk => hk.2) (.slice Ao15 t467.length co15)) (fun _ hk => hk.2) (.int .i64 t470)) (fun _ hk => hk.2) (.int .i64 t471)) (fun _ hk => hk.2) (.slice Ao16 t472.length co16)) (fun _ h_ => h_.1))) (Kd.R_base ho0) hb); replace HO469 := Aside0.mk (Kd.R_elder' (by (with_reducible repeat (first | apply qra | apply qrn | apply qrd)); exact (Kd.R_mono (Kd.R_far (p := ⟨gb475, 5, none⟩) (Kd.R_far (p := ⟨gb475, 4, none⟩) (Kd.R_far (p := ⟨gb475, 3, none⟩) (Kd.R_far (p := ⟨gb475, 2, none⟩) (Kd.R_far (p := ⟨gb475, 1, none⟩) (Kd.R_far (p := ⟨gb475, 0, none⟩) (Kd.R_types HO469.out BK475.out (by decide)) (fun _ hk => hk.2) (.string t463)) (fun _ hk => hk.2) (.slice Ao14 t464.length co14)) (fun _ hk => hk.2) (.slice Ao15 t467.length co15)) (fun _ hk => hk.2) (.int .i64 t470)) (fun _ hk => hk.2) (.int .i64 t471)) (fun _ hk => hk.2) (.slice Ao16 t472.length co16)) (fun _ h_ => h_.1))) (Kd.R_base ho0) hb); replace BK475 := Aside0.mk (blk_below (g := gb475) (o := .cells #[.string t463, .slice Ao14 t464.length co14, .slice Ao15 t467.length co15, .int .i64 t470, .int .i64 t471, .slice Ao16 t472.length co16] 27 (0, 0)) (by (with_reducible repeat (first | refine blk_drewN ?_ _ | refine blk_drew ?_ | refine blk_alloc ?_ _)); refine blk_put (cs := #[.string t463, .slice Ao14 t464.length co14, .slice Ao15 t467.length co15, .int .i64 t470, .int .i64 t471, .slice none 0 0]) ?_ 5 _ rfl; (with_reducible repeat (first | refine blk_drewN ?_ _ | refine blk_drew ?_ | refine blk_alloc ?_ _)); refine blk_put (cs := #[.string t463, .slice Ao14 t464.length co14, .slice Ao15 t467.length co15, .int .i64 t470, .int .i64 0, .slice none 0 0]) ?_ 4 _ rfl; (with_reducible repeat (first | refine blk_drewN ?_ _ | refine blk_drew ?_ | refine blk_alloc ?_ _)); refine blk_put (cs := #[.string t463, .slice Ao14 t464.length co14, .slice Ao15 t467.length co15, .int .i64 0, .int .i64 0, .slice none 0 0]) ?_ 3 _ rfl; (with_reducible repeat (first | refine blk_drewN ?_ _ | refine blk_drew ?_ | refine blk_alloc ?_ _)); refine blk_put (cs := #[.string t463, .slice Ao14 t464.length co14, .slice none 0 0, .int .i64 0, .int .i64 0, .slice none 0 0]) ?_ 2 _ rfl; (with_reducible repeat (first | refine blk_drewN ?_ _ | refine blk_drew ?_ | refine blk_alloc ?_ _)); refine blk_put (cs := #[.string t463, .slice none 0 0, .slice none 0 0, .int .i64 0, .int .i64 0, .slice none 0 0]) ?_ 1 _ rfl; (with_reducible repeat (first | refine blk_drewN ?_ _ | refine blk_drew ?_ | refine blk_alloc ?_ _)); refine blk_put (cs := #[.string (⟨#[]⟩ : ByteArray), .slice none 0 0, .slice none 0 0, .int .i64 0, .int .i64 0, .slice none 0 0]) ?_ 0 _ rfl; (with_reducible repeat (first | refine blk_drewN ?_ _ | refine blk_drew ?_ | refine blk_alloc ?_ _)); exact BK475.out) hb); replace HB := Aside0.mk (below_step (tH1 HB GE475.out) hb); (try clear hb); (try clear hb2); (try clear hk); (try clear hi); (try clear ho0); have hcz18_0 : w17.cell? ⟨gb475, 0, none⟩ = some (.string t463) := (blk_cell BK475.out 0).trans rfl; have hcz18_1 : w17.cell? ⟨gb475, 1, none⟩ = some (.slice Ao14 t464.length co14) := (blk_cell BK475.out 1).trans rfl; have hcz18_2 : w17.cell? ⟨gb475, 2, none⟩ = some (.slice Ao15 t467.length co15) := (blk_cell BK475.out 2).trans rfl; have hcz18_3 : w17.cell? ⟨gb475, 3, none⟩ = some (.int .i64 t470) := (blk_cell BK475.out 3).trans rfl; have hcz18_4 : w17.cell? ⟨gb475, 4, none⟩ = some (.int .i64 t471) := (blk_cell BK475.out 4).trans rfl; have hcz18_5 : w17.cell? ⟨gb475, 5, none⟩ = some (.slice Ao16 t472.length co16) := (blk_cell BK475.out 5).trans rfl; have hfz18_0 := blk_frozen BK475.out 0; have hfz18_1 := blk_frozen BK475.out 1; have hfz18_2 := blk_frozen BK475.out 2; have hfz18_3 := blk_frozen BK475.out 3; have hfz18_4 := blk_frozen BK475.out 4; have hfz18_5 := blk_frozen BK475.out 5; obtain ⟨Ao19, co19, eo19⟩ := Kd.R_slice HO478.out; subst eo19) | ((with_reducible refine gate_callee (f := 83) rfl ?_); refine gL_ (some 31) rfl rfl Try.func83 #[.agg #[.string t463, .slice Ao14 t464.length co14, .slice Ao15 t467.length co15, .int .i64 t470, .int .i64 t471, .slice Ao16 t472.length co16], .slice Ao19 t476.length co19] rfl ?_; (with_reducible refine (impl_FirstWrong.calls k t463 _ _ t464 _ _ t467 t470 t471 _ _ t472 _ _ t476 t479 t480 t481 _ ?side1 ?side2 ?side3 ?side4 ?side5 ?side6 ?side7 ?side8 A7.out).mono ?_); (case side1 => exact tC (Kd.R_reads' HO466.out).2.2); (case side2 => exact (Kd.R_reads' HO466.out).2.1); (case side3 => exact tC (Kd.R_reads' HO469.out).2.2); (case side4 => exact (Kd.R_reads' HO469.out).2.1); (case side5 => repeat (first | exact (Kd.N_reads' HO474.out).2.2 | (with_reducible refine Kd.C_alloc ?_ _) | (with_reducible refine Kd.C_drewN ?_ _) | (with_reducible refine Kd.C_drew ?_))); (case side6 => exact (Kd.N_reads' HO474.out).2.1); (case side7 => exact tC (Kd.R_reads' HO478.out).2.2); (case side8 => exact (Kd.R_reads' HO478.out).2.1); rintro e w20 ⟨rfl, hb⟩; refine ⟨_, rfl, ?_⟩; replace HO466 := Aside0.mk (Kd.R_below (tR HO466) hb); replace HO469 := Aside0.mk (Kd.R_below (tR HO469) hb); replace HO474 := Aside0.mk (Kd.N_below (tN HO474) hb); replace HO478 := Aside0.mk (Kd.R_below (tR HO478) hb); replace BK475 := tbB BK475 hb; replace HB := Aside0.mk (below_step (tH1 HB GE475.out) hb); (try clear hb); (try clear hb2); (try clear hk); (try clear hi); have hcz21_0 : w20.cell? ⟨gb475, 0, none⟩ = some (.string t463) := (blk_cell BK475.out 0).trans rfl; have hcz21_1 : w20.cell? ⟨gb475, 1, none⟩ = some (.slice Ao14 t464.length co14) := (blk_cell BK475.out 1).trans rfl; have hcz21_2 : w20.cell? ⟨gb475, 2, none⟩ = some (.slice Ao15 t467.length co15) := (blk_cell BK475.out 2).trans rfl; have hcz21_3 : w20.cell? ⟨gb475, 3, none⟩ = some (.int .i64 t470) := (blk_cell BK475.out 3).trans rfl; have hcz21_4 : w20.cell? ⟨gb475, 4, none⟩ = some (.int .i64 t471) := (blk_cell BK475.out 4).trans rfl; have hcz21_5 : w20.cell? ⟨gb475, 5, none⟩ = some (.slice Ao16 t472.length co16) := (blk_cell BK475.out 5).trans rfl; have hfz21_0 := blk_frozen BK475.out 0; have hfz21_1 := blk_frozen BK475.out 1; have hfz21_2 := blk_frozen BK475.out 2; have hfz21_3 := blk_frozen BK475.out 3; have hfz21_4 := blk_frozen BK475.out 4; have hfz21_5 := blk_frozen BK475.out 5) | ((with_reducible refine gate_callee (f := 84) rfl ?_); refine gL_ (some 38) rfl rfl Try.func84 #[.agg #[.string t463, .slice Ao14 t464.length co14, .slice Ao15 t467.length co15, .int .i64 t470, .int .i64 t471, .slice Ao16 t472.length co16], .slice Ao19 t476.length co19] rfl ?_; (with_reducible refine (impl_StrengthOf.calls k t463 _ _ t464 _ _ t467 t470 t471 _ _ t472 _ _ t476 t482 t483 t484 _ ?side1 ?side2 ?side3 ?side4 ?side5 ?side6 ?side7 ?side8 A8.out).mono ?_); (case side1 => exact tC (Kd.R_reads' HO466.out).2.2); (case side2 => exact (Kd.R_reads' HO466.out).2.1); (case side3 => exact tC (Kd.R_reads' HO469.out).2.2); (case side4 => exact (Kd.R_reads' HO469.out).2.1); (case side5 => repeat (first | exact (Kd.N_reads' HO474.out).2.2 | (with_reducible refine Kd.C_alloc ?_ _) | (with_reducible refine Kd.C_drewN ?_ _) | (with_reducible refine Kd.C_drew ?_))); (case side6 => exact (Kd.N_reads' HO474.out).2.1); (case side7 => exact tC (Kd.R_reads' HO478.out).2.2); (case side8 => exact (Kd.R_reads' HO478.out).2.1); rintro e w22 ⟨rfl, hb⟩; refine ⟨_, rfl, ?_⟩; replace HO466 := Aside0.mk (Kd.R_below (tR HO466) hb); replace HO469 := Aside0.mk (Kd.R_below (tR HO469) hb); replace HO474 := Aside0.mk (Kd.N_below (tN HO474) hb); replace HO478 := Aside0.mk (Kd.R_below (tR HO478) hb); replace BK475 := tbB BK475 hb; replace HB := Aside0.mk (below_step (tH1 HB GE475.out) hb); (try clear hb); (try clear hb2); (try clear hk); (try clear hi); have hcz23_0 : w22.cell? ⟨gb475, 0, none⟩ = some (.string t463) := (blk_cell BK475.out 0).trans rfl; have hcz23_1 : w22.cell? ⟨gb475, 1, none⟩ = some (.slice Ao14 t464.length co14) := (blk_cell BK475.out 1).trans rfl; have hcz23_2 : w22.cell? ⟨gb475, 2, none⟩ = some (.slice Ao15 t467.length co15) := (blk_cell BK475.out 2).trans rfl; have hcz23_3 : w22.cell? ⟨gb475, 3, none⟩ = some (.int .i64 t470) := (blk_cell BK475.out 3).trans rfl; have hcz23_4 : w22.cell? ⟨gb475, 4, none⟩ = some (.int .i64 t471) := (blk_cell BK475.out 4).trans rfl; have hcz23_5 : w22.cell? ⟨gb475, 5, none⟩ = some (.slice Ao16 t472.length co16) := (blk_cell BK475.out 5).trans rfl; have hfz23_0 := blk_frozen BK475.out 0; have hfz23_1 := blk_frozen BK475.out 1; have hfz23_2 := blk_frozen BK475.out 2; have hfz23_3 := blk_frozen BK475.out 3; have hfz23_4 := blk_frozen BK475.out 4; have hfz23_5 := blk_frozen BK475.out 5) | ((with_reducible refine gate_callee (f := 85) rfl ?_); refine gL_ (some 44) rfl rfl Try.func85 #[.agg #[.string t463, .slice Ao14 t464.length co14, .slice Ao15 t467.length co15, .int .i64 t470, .int .i64 t471, .slice Ao16 t472.length co16]] rfl ?_; (with_reducible refine (spec_TonesOf.calls k t463 _ _ t464 _ _ t467 t470 t471 _ _ t472 t485 t488 _ ?side1 ?side2 ?side3 ?side4 ?side5 ?side6 A9.out).mono ?_); (case side1 => exact tC (Kd.R_reads' HO466.out).2.2); (case side2 => exact (Kd.R_reads' HO466.out).2.1); (case side3 => exact tC (Kd.R_reads' HO469.out).2.2); (case side4 => exact (Kd.R_reads' HO469.out).2.1); (case side5 => repeat (first | exact (Kd.N_reads' HO474.out).2.2 | (with_reducible refine Kd.C_alloc ?_ _) | (with_reducible refine Kd.C_drewN ?_ _) | (with_reducible refine Kd.C_drew ?_))); (case side6 => exact (Kd.N_reads' HO474.out).2.1); rintro e w24 ⟨v486, rfl, ho0, hb⟩; refine ⟨_, rfl, ?_⟩; replace HO474 := Aside0.mk (Kd.N_elder' (tN HO474) (Kd.R_base ho0) hb); have HO487 := Aside0.mk (Kd.R_lower (Kd.R_new' (Kd.R_new' (Kd.R_new' ho0 (Kd.R_lt (tR HO466))) (Kd.R_lt (tR HO469))) (Kd.R_lt (tR HO478))) (below_size (tH1 HB GE475.out))); replace HO466 := Aside0.mk (Kd.R_elder' (tR HO466) (Kd.R_base ho0) hb); replace HO469 := Aside0.mk (Kd.R_elder' (tR HO469) (Kd.R_base ho0) hb); replace HO478 := Aside0.mk (Kd.R_elder' (tR HO478) (Kd.R_base ho0) hb); replace BK475 := tbB BK475 hb; replace HB := Aside0.mk (below_step (tH1 HB GE475.out) hb); (try clear hb); (try clear hb2); (try clear hk); (try clear hi); (try clear ho0)))
 (try simp only [Act.put, sx0, sx1, sx2])
 go_cut [56] (fun v56 wc => ∃ (kq : Nat) (x56_9 : Bool), v56 = .bool x56_9 ∧ Aside0 (laws_FnMoves.j0 kq t476 t479 t480 t481 t482 t483 t485 x56_9 t463 t464 t467 t470 t471 t472 = some r) ∧ Aside0 (kq ≤ k) ∧ Aside0 (Kd.R (Kd.int .i64) 2 wc w.heap.size (fun k_ => some k_ ≠ (v486 : Value).ownBlock ∧ some k_ ≠ ((.slice Ao14 t464.length co14) : Value).ownBlock ∧ some k_ ≠ ((.slice Ao15 t467.length co15) : Value).ownBlock) (.slice Ao19 t476.length co19) t476) ∧ Aside0 (Kd.R (Kd.int .i64) 2 wc w.heap.size (fun k_ => some k_ ≠ ((.slice Ao19 t476.length co19) : Value).ownBlock ∧ some k_ ≠ ((.slice Ao14 t464.length co14) : Value).ownBlock ∧ some k_ ≠ ((.slice Ao15 t467.length co15) : Value).ownBlock) v486 t485) ∧ Aside0 (Kd.R (Kd.int .i64) 2 wc w.heap.size (fun k_ => some k_ ≠ ((.slice Ao19 t476.length co19) : Value).ownBlock ∧ some k_ ≠ (v486 : Value).ownBlock ∧ some k_ ≠ ((.slice Ao15 t467.length co15) : Value).ownBlock) (.slice Ao14 t464.length co14) t464) ∧ Aside0 (Kd.R (Kd.int .i64) 2 wc w.heap.size (fun k_ => some k_ ≠ ((.slice Ao19 t476.length co19) : Value).ownBlock ∧ some k_ ≠ (v486 : Value).ownBlock ∧ some k_ ≠ ((.slice Ao14 t464.length co14) : Value).ownBlock) (.slice Ao15 t467.length co15) t467) ∧ Aside0 (Kd.N (Kd.slice 2 (Kd.int .i64)) 24 wc w.heap.size (fun k_ => some k_ ≠ ((.slice Ao19 t476.length co19) : Value).ownBlock ∧ some k_ ≠ (v486 : Value).ownBlock ∧ some k_ ≠ ((.slice Ao14 t464.length co14) : Value).ownBlock ∧ some k_ ≠ ((.slice Ao15 t467.length co15) : Value).ownBlock ∧ k_ ≠ gb475) (.slice Ao16 t472.length co16) t472) ∧ Aside0 (wc.heap[gb475]? = some (.cells #[.string t463, (.slice Ao14 t464.length co14), (.slice Ao15 t467.length co15), .int .i64 t470, .int .i64 t471, (.slice Ao16 t472.length co16)] 27 (0, 0))) ∧ Aside0 (Below w.heap.size w wc))
 case first =>
  have H := HC10.out
  clear HC10
  by_cases c25 : t481 = 0
  · rw [if_pos c25] at H
    have c25b0 : (t481 == 0) = true := beq_iff_eq.mpr c25
    have c25b1 : (t481 != 0) = false := bne_eq_false_iff_eq.mpr c25
    clear c25
    (first | rw [c25b0] | (simp only [i64_w, i32_w]; rw [c25b0]) | skip)
    have H' := Aside0.mk H
    clear H
    go_wp2
    go_meet
    case rel => exact ⟨_, ((t484 != 0)), tq, H', ⟨by first | omega | exact Nat.le_refl _⟩, ⟨by (with_reducible repeat (first | apply qra | apply qrn | apply qrd)); exact Kd.R_mono HO478.out (fun _ hk => ⟨hk.2, ⟨hk.1.1.2, hk.1.2⟩⟩)⟩, ⟨by (with_reducible repeat (first | apply qra | apply qrn | apply qrd)); exact Kd.R_mono HO487.out (fun _ hk => ⟨hk.2, ⟨hk.1.1.2, hk.1.2⟩⟩)⟩, ⟨by (with_reducible repeat (first | apply qra | apply qrn | apply qrd)); exact Kd.R_mono HO466.out (fun _ hk => ⟨hk.1.2, ⟨hk.2, hk.1.1⟩⟩)⟩, ⟨by (with_reducible repeat (first | apply qra | apply qrn | apply qrd)); exact Kd.R_mono HO469.out (fun _ hk => ⟨hk.1.2, ⟨hk.2, hk.1.1⟩⟩)⟩, ⟨by (with_reducible repeat (first | apply Kd.N_alloc | apply Kd.N_drewN | apply Kd.N_drew)); exact Kd.N_mono HO474.out (fun _ hk => ⟨hk.1.2, ⟨hk.2, ⟨hk.1.1.1.1, ⟨hk.1.1.1.2, hk.1.1.2⟩⟩⟩⟩)⟩, ⟨tB BK475⟩, ⟨tH1 HB GE475.out⟩⟩
  rw [if_neg c25] at H
  have c25b0 : (t481 == 0) = false := beq_eq_false_iff_ne.mpr c25
  have c25b1 : (t481 != 0) = true := bne_iff_ne.mpr c25
  (first | rw [c25b0] | (simp only [i64_w, i32_w]; rw [c25b0]) | skip)
  by_cases c26 : t481 = 3
  · rw [if_pos c26] at H
    have c26b0 : (t481 == 3) = true := beq_iff_eq.mpr c26
    have c26b1 : (t481 != 3) = false := bne_eq_false_iff_eq.mpr c26
    clear c26
    have H' := Aside0.mk H
    clear H
    go_wp2
    go_meet
    case rel => exact ⟨_, ((t484 != 0)), tq, H', ⟨by first | omega | exact Nat.le_refl _⟩, ⟨by (with_reducible repeat (first | apply qra | apply qrn | apply qrd)); exact Kd.R_mono HO478.out (fun _ hk => ⟨hk.2, ⟨hk.1.1.2, hk.1.2⟩⟩)⟩, ⟨by (with_reducible repeat (first | apply qra | apply qrn | apply qrd)); exact Kd.R_mono HO487.out (fun _ hk => ⟨hk.2, ⟨hk.1.1.2, hk.1.2⟩⟩)⟩, ⟨by (with_reducible repeat (first | apply qra | apply qrn | apply qrd)); exact Kd.R_mono HO466.out (fun _ hk => ⟨hk.1.2, ⟨hk.2, hk.1.1⟩⟩)⟩, ⟨by (with_reducible repeat (first | apply qra | apply qrn | apply qrd)); exact Kd.R_mono HO469.out (fun _ hk => ⟨hk.1.2, ⟨hk.2, hk.1.1⟩⟩)⟩, ⟨by (with_reducible repeat (first | apply Kd.N_alloc | apply Kd.N_drewN | apply Kd.N_drew)); exact Kd.N_mono HO474.out (fun _ hk => ⟨hk.1.2, ⟨hk.2, ⟨hk.1.1.1.1, ⟨hk.1.1.1.2, hk.1.1.2⟩⟩⟩⟩)⟩, ⟨tB BK475⟩, ⟨tH1 HB GE475.out⟩⟩
  rw [if_neg c26] at H
  have c26b0 : (t481 == 3) = false := beq_eq_false_iff_ne.mpr c26
  have c26b1 : (t481 != 3) = true := bne_iff_ne.mpr c26
  have H' := Aside0.mk H
  clear H
  go_wp2
  go_meet
  case rel => exact ⟨_, (true), tq, H', ⟨by first | omega | exact Nat.le_refl _⟩, ⟨by (with_reducible repeat (first | apply qra | apply qrn | apply qrd)); exact Kd.R_mono HO478.out (fun _ hk => ⟨hk.2, ⟨hk.1.1.2, hk.1.2⟩⟩)⟩, ⟨by (with_reducible repeat (first | apply qra | apply qrn | apply qrd)); exact Kd.R_mono HO487.out (fun _ hk => ⟨hk.2, ⟨hk.1.1.2, hk.1.2⟩⟩)⟩, ⟨by (with_reducible repeat (first | apply qra | apply qrn | apply qrd)); exact Kd.R_mono HO466.out (fun _ hk => ⟨hk.1.2, ⟨hk.2, hk.1.1⟩⟩)⟩, ⟨by (with_reducible repeat (first | apply qra | apply qrn | apply qrd)); exact Kd.R_mono HO469.out (fun _ hk => ⟨hk.1.2, ⟨hk.2, hk.1.1⟩⟩)⟩, ⟨by (with_reducible repeat (first | apply Kd.N_alloc | apply Kd.N_drewN | apply Kd.N_drew)); exact Kd.N_mono HO474.out (fun _ hk => ⟨hk.1.2, ⟨hk.2, ⟨hk.1.1.1.1, ⟨hk.1.1.1.2, hk.1.1.2⟩⟩⟩⟩)⟩, ⟨tB BK475⟩, ⟨tH1 HB GE475.out⟩⟩
 case rest =>
 clear HC10
 try clear c1
 try clear c2
 try clear p2
 try clear c4
 try clear c8
 try clear c10
 try clear c13
 try clear c14
 try clear c25
 try clear c25b0
 try clear c25b1
 try clear c26
 try clear c26b0
 try clear c26b1
 try clear hcz13_0 hcz13_1 hcz13_2 hcz13_3 hcz13_4 hcz13_5
 try clear hcz18_0 hcz18_1 hcz18_2 hcz18_3 hcz18_4 hcz18_5
 try clear hcz21_0 hcz21_1 hcz21_2 hcz21_3 hcz21_4 hcz21_5
 try clear hcz23_0 hcz23_1 hcz23_2 hcz23_3 hcz23_4 hcz23_5
 try clear hfz13_0 hfz13_1 hfz13_2 hfz13_3 hfz13_4 hfz13_5
 try clear hfz18_0 hfz18_1 hfz18_2 hfz18_3 hfz18_4 hfz18_5
 try clear hfz21_0 hfz21_1 hfz21_2 hfz21_3 hfz21_4 hfz21_5
 try clear hfz23_0 hfz23_1 hfz23_2 hfz23_3 hfz23_4 hfz23_5
 obtain ⟨kq, x56_9, rfl, HA, HJ9, HO_6, HO_13, HO_476001, HO_476002, HO_476005, BK475, HB⟩ := hcut
 cases kq with
 | zero => exact absurd HA.out (by simp [laws_FnMoves.j0])
 | succ kj9 =>
 have H := HA.out
 clear HA
 simp only [laws_FnMoves.j0] at H
 by_cases c27 : x56_9 = true
 · subst c27
   have H1 : (some false) = some r := by rw [if_pos rfl] at H; exact H
   clear H
   have H := H1
   clear H1
   obtain rfl := Option.some.inj H
   go_wp2
   go_ret
   exact ⟨tE, tH1 HB GE475.out⟩
 replace c27 := Bool.eq_false_iff.mpr c27
 subst c27
 have H1 : (if t481 = 0 then (if t479 < 0 then (laws_FnMoves.j1 kj9 t476 t479 t480 t482 t483 t485 true t463 t464 t467 t470 t471 t472) else (laws_FnMoves.j1 kj9 t476 t479 t480 t482 t483 t485 (decide (t479 ≥ (t476.length : Int))) t463 t464 t467 t470 t471 t472)) else (laws_FnMoves.j3 kj9 t476 t482 t483 t485 (t476.length : Int) t463 t464 t467 t470 t471 t472)) = some r := by rw [if_neg (show ¬ (false = true) by decide)] at H; exact H
 clear H
 have H := H1
 clear H1
 have HC28 := Aside0.mk H
 clear H
 go_upto_if 60 with (fail)
 go_cut [15] (fun v15 wc => ∃ (kq : Nat) (x15_27 : Int), v15 = .int .i64 x15_27 ∧ Aside0 (laws_FnMoves.j3 kq t476 t482 t483 t485 x15_27 t463 t464 t467 t470 t471 t472 = some r) ∧ Aside0 (kq ≤ kj9) ∧ Aside0 (Kd.R (Kd.int .i64) 2 wc w.heap.size (fun k_ => some k_ ≠ (v486 : Value).ownBlock ∧ some k_ ≠ ((.slice Ao14 t464.length co14) : Value).ownBlock ∧ some k_ ≠ ((.slice Ao15 t467.length co15) : Value).ownBlock) (.slice Ao19 t476.length co19) t476) ∧ Aside0 (Kd.R (Kd.int .i64) 2 wc w.heap.size (fun k_ => some k_ ≠ ((.slice Ao19 t476.length co19) : Value).ownBlock ∧ some k_ ≠ ((.slice Ao14 t464.length co14) : Value).ownBlock ∧ some k_ ≠ ((.slice Ao15 t467.length co15) : Value).ownBlock) v486 t485) ∧ Aside0 (Kd.R (Kd.int .i64) 2 wc w.heap.size (fun k_ => some k_ ≠ ((.slice Ao19 t476.length co19) : Value).ownBlock ∧ some k_ ≠ (v486 : Value).ownBlock ∧ some k_ ≠ ((.slice Ao15 t467.length co15) : Value).ownBlock) (.slice Ao14 t464.length co14) t464) ∧ Aside0 (Kd.R (Kd.int .i64) 2 wc w.heap.size (fun k_ => some k_ ≠ ((.slice Ao19 t476.length co19) : Value).ownBlock ∧ some k_ ≠ (v486 : Value).ownBlock ∧ some k_ ≠ ((.slice Ao14 t464.length co14) : Value).ownBlock) (.slice Ao15 t467.length co15) t467) ∧ Aside0 (Kd.N (Kd.slice 2 (Kd.int .i64)) 24 wc w.heap.size (fun k_ => some k_ ≠ ((.slice Ao19 t476.length co19) : Value).ownBlock ∧ some k_ ≠ (v486 : Value).ownBlock ∧ some k_ ≠ ((.slice Ao14 t464.length co14) : Value).ownBlock ∧ some k_ ≠ ((.slice Ao15 t467.length co15) : Value).ownBlock ∧ k_ ≠ gb475) (.slice Ao16 t472.length co16) t472) ∧ Aside0 (wc.heap[gb475]? = some (.cells #[.string t463, (.slice Ao14 t464.length co14), (.slice Ao15 t467.length co15), .int .i64 t470, .int .i64 t471, (.slice Ao16 t472.length co16)] 27 (0, 0))) ∧ Aside0 (Below w.heap.size w wc))
 case first =>
  have H := HC28.out
  clear HC28
  by_cases c29 : t481 = 0
  · rw [if_pos c29] at H
    have c29b0 : (t481 == 0) = true := beq_iff_eq.mpr c29
    have c29b1 : (t481 != 0) = false := bne_eq_false_iff_eq.mpr c29
    clear c29
    (first | rw [c29b0] | (simp only [i64_w, i32_w]; rw [c29b0]) | skip)
    have HC30 := Aside0.mk H
    clear H
    go_upto_region 12 with (fail)
    go_cut [67] (fun v67 wc => ∃ (kq : Nat) (x67_29 : Bool), v67 = .bool x67_29 ∧ Aside0 (laws_FnMoves.j1 kq t476 t479 t480 t482 t483 t485 x67_29 t463 t464 t467 t470 t471 t472 = some r) ∧ Aside0 (kq ≤ kj9) ∧ Aside0 (Kd.R (Kd.int .i64) 2 wc w.heap.size (fun k_ => some k_ ≠ (v486 : Value).ownBlock ∧ some k_ ≠ ((.slice Ao14 t464.length co14) : Value).ownBlock ∧ some k_ ≠ ((.slice Ao15 t467.length co15) : Value).ownBlock) (.slice Ao19 t476.length co19) t476) ∧ Aside0 (Kd.R (Kd.int .i64) 2 wc w.heap.size (fun k_ => some k_ ≠ ((.slice Ao19 t476.length co19) : Value).ownBlock ∧ some k_ ≠ ((.slice Ao14 t464.length co14) : Value).ownBlock ∧ some k_ ≠ ((.slice Ao15 t467.length co15) : Value).ownBlock) v486 t485) ∧ Aside0 (Kd.R (Kd.int .i64) 2 wc w.heap.size (fun k_ => some k_ ≠ ((.slice Ao19 t476.length co19) : Value).ownBlock ∧ some k_ ≠ (v486 : Value).ownBlock ∧ some k_ ≠ ((.slice Ao15 t467.length co15) : Value).ownBlock) (.slice Ao14 t464.length co14) t464) ∧ Aside0 (Kd.R (Kd.int .i64) 2 wc w.heap.size (fun k_ => some k_ ≠ ((.slice Ao19 t476.length co19) : Value).ownBlock ∧ some k_ ≠ (v486 : Value).ownBlock ∧ some k_ ≠ ((.slice Ao14 t464.length co14) : Value).ownBlock) (.slice Ao15 t467.length co15) t467) ∧ Aside0 (Kd.N (Kd.slice 2 (Kd.int .i64)) 24 wc w.heap.size (fun k_ => some k_ ≠ ((.slice Ao19 t476.length co19) : Value).ownBlock ∧ some k_ ≠ (v486 : Value).ownBlock ∧ some k_ ≠ ((.slice Ao14 t464.length co14) : Value).ownBlock ∧ some k_ ≠ ((.slice Ao15 t467.length co15) : Value).ownBlock ∧ k_ ≠ gb475) (.slice Ao16 t472.length co16) t472) ∧ Aside0 (wc.heap[gb475]? = some (.cells #[.string t463, (.slice Ao14 t464.length co14), (.slice Ao15 t467.length co15), .int .i64 t470, .int .i64 t471, (.slice Ao16 t472.length co16)] 27 (0, 0))) ∧ Aside0 (Below w.heap.size w wc))
    case first =>
     have H := HC30.out
     clear HC30
     by_cases c31 : t479 < 0
     · rw [if_pos c31] at H
       have c31b0 : decide (t479 < 0) = true := decide_eq_true c31
       clear c31
       (first | rw [c31b0] | (simp only [i64_w, i32_w]; rw [c31b0]) | skip)
       have H' := Aside0.mk H
       clear H
       go_wp2
       go_meet
       case rel => exact ⟨_, (true), tq, H', ⟨by have := HJ9.out; first | omega | exact Nat.le_refl _⟩, ⟨tR HO_6⟩, ⟨tR HO_13⟩, ⟨tR HO_476001⟩, ⟨tR HO_476002⟩, ⟨tN HO_476005⟩, ⟨tB BK475⟩, ⟨tH1 HB GE475.out⟩⟩
     rw [if_neg c31] at H
     have c31b0 : decide (t479 < 0) = false := decide_eq_false c31
     clear c31
     (first | rw [c31b0] | (simp only [i64_w, i32_w]; rw [c31b0]) | skip)
     have H' := Aside0.mk H
     clear H
     go_wp2
     go_meet
     case rel => exact ⟨_, (decide (t479 ≥ (t476.length : Int))), tq, H', ⟨by have := HJ9.out; first | omega | exact Nat.le_refl _⟩, ⟨tR HO_6⟩, ⟨tR HO_13⟩, ⟨tR HO_476001⟩, ⟨tR HO_476002⟩, ⟨tN HO_476005⟩, ⟨tB BK475⟩, ⟨tH1 HB GE475.out⟩⟩
    case rest =>
    clear HC30
    try clear c1
    try clear c2
    try clear p2
    try clear c3
    try clear c4
    try clear c8
    try clear c10
    try clear c13
    try clear c14
    try clear c25
    try clear c25b0
    try clear c25b1
    try clear c26
    try clear c26b0
    try clear c26b1
    try clear c27
    try clear c29
    try clear c29b0
    try clear c29b1
    try clear c31
    try clear c31b0
    try clear hcz13_0 hcz13_1 hcz13_2 hcz13_3 hcz13_4 hcz13_5
    try clear hcz18_0 hcz18_1 hcz18_2 hcz18_3 hcz18_4 hcz18_5
    try clear hcz21_0 hcz21_1 hcz21_2 hcz21_3 hcz21_4 hcz21_5
    try clear hcz23_0 hcz23_1 hcz23_2 hcz23_3 hcz23_4 hcz23_5
    try clear hfz13_0 hfz13_1 hfz13_2 hfz13_3 hfz13_4 hfz13_5
    try clear hfz18_0 hfz18_1 hfz18_2 hfz18_3 hfz18_4 hfz18_5
    try clear hfz21_0 hfz21_1 hfz21_2 hfz21_3 hfz21_4 hfz21_5
    try clear hfz23_0 hfz23_1 hfz23_2 hfz23_3 hfz23_4 hfz23_5
    try clear p2
    obtain ⟨kq, x67_29, rfl, HA, HJ29, HO_6, HO_13, HO_476001, HO_476002, HO_476005, BK475, HB⟩ := hcut
    cases kq with
    | zero => exact absurd HA.out (by simp [laws_FnMoves.j1])
    | succ kj29 =>
    have H := HA.out
    clear HA
    simp only [laws_FnMoves.j1] at H
    by_cases c32 : x67_29 = true
    · subst c32
      have H1 : (some false) = some r := by rw [if_pos rfl] at H; exact H
      clear H
      have H := H1
      clear H1
      obtain rfl := Option.some.inj H
      go_wp2
      go_ret
      exact ⟨tE, tH1 HB GE475.out⟩
    replace c32 := Bool.eq_false_iff.mpr c32
    subst c32
    have H1 : (if t479 = 0 then (laws_FnMoves.j2 kj29 t476 t479 t480 t482 t483 t485 t479 (t480 != 1) t463 t464 t467 t470 t471 t472) else (laws_FnMoves.j2 kj29 t476 t479 t480 t482 t483 t485 t479 false t463 t464 t467 t470 t471 t472)) = some r := by rw [if_neg (show ¬ (false = true) by decide)] at H; exact H
    clear H
    have H := H1
    clear H1
    have HC33 := Aside0.mk H
    clear H
    go_upto_region 15 with (fail)
    go_cut [74] (fun v74 wc => ∃ (kq : Nat) (x74_32 : Bool), v74 = .bool x74_32 ∧ Aside0 (laws_FnMoves.j2 kq t476 t479 t480 t482 t483 t485 t479 x74_32 t463 t464 t467 t470 t471 t472 = some r) ∧ Aside0 (kq ≤ kj29) ∧ Aside0 (Kd.R (Kd.int .i64) 2 wc w.heap.size (fun k_ => some k_ ≠ (v486 : Value).ownBlock ∧ some k_ ≠ ((.slice Ao14 t464.length co14) : Value).ownBlock ∧ some k_ ≠ ((.slice Ao15 t467.length co15) : Value).ownBlock) (.slice Ao19 t476.length co19) t476) ∧ Aside0 (Kd.R (Kd.int .i64) 2 wc w.heap.size (fun k_ => some k_ ≠ ((.slice Ao19 t476.length co19) : Value).ownBlock ∧ some k_ ≠ ((.slice Ao14 t464.length co14) : Value).ownBlock ∧ some k_ ≠ ((.slice Ao15 t467.length co15) : Value).ownBlock) v486 t485) ∧ Aside0 (Kd.R (Kd.int .i64) 2 wc w.heap.size (fun k_ => some k_ ≠ ((.slice Ao19 t476.length co19) : Value).ownBlock ∧ some k_ ≠ (v486 : Value).ownBlock ∧ some k_ ≠ ((.slice Ao15 t467.length co15) : Value).ownBlock) (.slice Ao14 t464.length co14) t464) ∧ Aside0 (Kd.R (Kd.int .i64) 2 wc w.heap.size (fun k_ => some k_ ≠ ((.slice Ao19 t476.length co19) : Value).ownBlock ∧ some k_ ≠ (v486 : Value).ownBlock ∧ some k_ ≠ ((.slice Ao14 t464.length co14) : Value).ownBlock) (.slice Ao15 t467.length co15) t467) ∧ Aside0 (Kd.N (Kd.slice 2 (Kd.int .i64)) 24 wc w.heap.size (fun k_ => some k_ ≠ ((.slice Ao19 t476.length co19) : Value).ownBlock ∧ some k_ ≠ (v486 : Value).ownBlock ∧ some k_ ≠ ((.slice Ao14 t464.length co14) : Value).ownBlock ∧ some k_ ≠ ((.slice Ao15 t467.length co15) : Value).ownBlock ∧ k_ ≠ gb475) (.slice Ao16 t472.length co16) t472) ∧ Aside0 (wc.heap[gb475]? = some (.cells #[.string t463, (.slice Ao14 t464.length co14), (.slice Ao15 t467.length co15), .int .i64 t470, .int .i64 t471, (.slice Ao16 t472.length co16)] 27 (0, 0))) ∧ Aside0 (Below w.heap.size w wc))
    case first =>
     have H := HC33.out
     clear HC33
     by_cases c34 : t479 = 0
     · rw [if_pos c34] at H
       have c34b0 : (t479 == 0) = true := beq_iff_eq.mpr c34
       have c34b1 : (t479 != 0) = false := bne_eq_false_iff_eq.mpr c34
       clear c34
       (first | rw [c34b0] | (simp only [i64_w, i32_w]; rw [c34b0]) | skip)
       have H' := Aside0.mk H
       clear H
       go_wp2
       go_meet
       case rel => exact ⟨_, ((t480 != 1)), tq, H', ⟨by have := HJ9.out; have := HJ29.out; first | omega | exact Nat.le_refl _⟩, ⟨tR HO_6⟩, ⟨tR HO_13⟩, ⟨tR HO_476001⟩, ⟨tR HO_476002⟩, ⟨tN HO_476005⟩, ⟨tB BK475⟩, ⟨tH1 HB GE475.out⟩⟩
     rw [if_neg c34] at H
     have c34b0 : (t479 == 0) = false := beq_eq_false_iff_ne.mpr c34
     have c34b1 : (t479 != 0) = true := bne_iff_ne.mpr c34
     (first | rw [c34b0] | (simp only [i64_w, i32_w]; rw [c34b0]) | skip)
     have H' := Aside0.mk H
     clear H
     go_wp2
     go_meet
     case rel => exact ⟨_, (false), tq, H', ⟨by have := HJ9.out; have := HJ29.out; first | omega | exact Nat.le_refl _⟩, ⟨tR HO_6⟩, ⟨tR HO_13⟩, ⟨tR HO_476001⟩, ⟨tR HO_476002⟩, ⟨tN HO_476005⟩, ⟨tB BK475⟩, ⟨tH1 HB GE475.out⟩⟩
    case rest =>
    clear HC33
    try clear c1
    try clear c2
    try clear p2
    try clear c3
    try clear c4
    try clear c8
    try clear c10
    try clear c13
    try clear c14
    try clear c25
    try clear c25b0
    try clear c25b1
    try clear c26
    try clear c26b0
    try clear c26b1
    try clear c27
    try clear c29
    try clear c29b0
    try clear c29b1
    try clear c31
    try clear c31b0
    try clear c32
    try clear c34
    try clear c34b0
    try clear c34b1
    try clear hcz13_0 hcz13_1 hcz13_2 hcz13_3 hcz13_4 hcz13_5
    try clear hcz18_0 hcz18_1 hcz18_2 hcz18_3 hcz18_4 hcz18_5
    try clear hcz21_0 hcz21_1 hcz21_2 hcz21_3 hcz21_4 hcz21_5
    try clear hcz23_0 hcz23_1 hcz23_2 hcz23_3 hcz23_4 hcz23_5
    try clear hfz13_0 hfz13_1 hfz13_2 hfz13_3 hfz13_4 hfz13_5
    try clear hfz18_0 hfz18_1 hfz18_2 hfz18_3 hfz18_4 hfz18_5
    try clear hfz21_0 hfz21_1 hfz21_2 hfz21_3 hfz21_4 hfz21_5
    try clear hfz23_0 hfz23_1 hfz23_2 hfz23_3 hfz23_4 hfz23_5
    try clear p2
    obtain ⟨kq, x74_32, rfl, HA, HJ32, HO_6, HO_13, HO_476001, HO_476002, HO_476005, BK475, HB⟩ := hcut
    cases kq with
    | zero => exact absurd HA.out (by simp [laws_FnMoves.j2])
    | succ kj32 =>
    have H := HA.out
    clear HA
    simp only [laws_FnMoves.j2] at H
    by_cases c35 : x74_32 = true
    · subst c35
      have H1 : (some false) = some r := by rw [if_pos rfl] at H; exact H
      clear H
      have H := H1
      clear H1
      obtain rfl := Option.some.inj H
      go_wp2
      go_ret
      exact ⟨tE, tH1 HB GE475.out⟩
    replace c35 := Bool.eq_false_iff.mpr c35
    subst c35
    have H1 : (if t479 > 0 then (if 0 ≤ (wrap64 (t479 - 1)) then (if (wrap64 (t479 - 1)) < (t476.length : Int) then (if 0 ≤ t479 then (if t479 < (t476.length : Int) then ((spec_ReasonOf.f kj32 t463 t464 t467 t470 t471 t472 (rd t476 (wrap64 (t479 - 1))) (rd t476 t479)).bind fun bt491 => (if bt491.2 = 0 then (if bt491.1 = t480 then (laws_FnMoves.j3 kj32 t476 t482 t483 t485 t479 t463 t464 t467 t470 t471 t472) else (some false)) else (some false))) else (none)) else (none)) else (none)) else (none)) else (laws_FnMoves.j3 kj32 t476 t482 t483 t485 t479 t463 t464 t467 t470 t471 t472)) = some r := by rw [if_neg (show ¬ (false = true) by decide)] at H; exact H
    clear H
    have H := H1
    clear H1
    by_cases c36 : t479 > 0
    · rw [if_pos c36] at H
      have c36b0 : decide (0 < t479) = true := decide_eq_true c36
      clear c36
      obtain ⟨ji37, hji37⟩ : ∃ j_ : Int, (wrap64 (t479 - 1)) = j_ := ⟨_, rfl⟩
      replace H : (if 0 ≤ (ji37) then (if (ji37) < (t476.length : Int) then (if 0 ≤ t479 then (if t479 < (t476.length : Int) then ((spec_ReasonOf.f kj32 t463 t464 t467 t470 t471 t472 (rd t476 (ji37)) (rd t476 t479)).bind fun bt491 => (if bt491.2 = 0 then (if bt491.1 = t480 then (laws_FnMoves.j3 kj32 t476 t482 t483 t485 t479 t463 t464 t467 t470 t471 t472) else (some false)) else (some false))) else (none)) else (none)) else (none)) else (none)) = some r := by first | (rw [hji37] at H; exact H) | (simp only [hji37] at H ⊢; exact H)
      have hji37w : (IntKind.i64.wrap (t479 - 1)) = ji37 := (i64_w _).trans hji37
      by_cases c38 : 0 ≤ (ji37)
      · rw [if_pos c38] at H
        have c38b0 : decide (0 ≤ (ji37)) = true := decide_eq_true c38
        clear c38
        by_cases c39 : (ji37) < (t476.length : Int)
        · rw [if_pos c39] at H
          have c39b0 : decide ((ji37) < (t476.length : Int)) = true := decide_eq_true c39
          clear c39
          by_cases c40 : 0 ≤ t479
          · rw [if_pos c40] at H
            have c40b0 : decide (0 ≤ t479) = true := decide_eq_true c40
            clear c40
            by_cases c41 : t479 < (t476.length : Int)
            · rw [if_pos c41] at H
              have c41b0 : decide (t479 < (t476.length : Int)) = true := decide_eq_true c41
              clear c41
              replace H := Option.bind_eq_some_iff.mp H
              obtain ⟨⟨t491, t492⟩, A420, H⟩ := H
              replace H : (if t492 = 0 then (if t491 = t480 then (laws_FnMoves.j3 kj32 t476 t482 t483 t485 t479 t463 t464 t467 t470 t471 t472) else (some false)) else (some false)) = some r := H
              have A42 := Aside0.mk A420
              clear A420
              by_cases c43 : t492 = 0
              · rw [if_pos c43] at H
                have c43b0 : (t492 == 0) = true := beq_iff_eq.mpr c43
                have c43b1 : (t492 != 0) = false := bne_eq_false_iff_eq.mpr c43
                clear c43
                by_cases c44 : t491 = t480
                · rw [if_pos c44] at H
                  have c44b0 : (t491 == t480) = true := beq_iff_eq.mpr c44
                  have c44b1 : (t491 != t480) = false := bne_eq_false_iff_eq.mpr c44
                  clear c44
                  have H' := Aside0.mk H
                  clear H
                  try go_wp2
                  replace HO_6 := Aside0.mk (Kd.R_drew HO_6.out)
                  replace HO_13 := Aside0.mk (Kd.R_drew HO_13.out)
                  replace HO_476001 := Aside0.mk (Kd.R_drew HO_476001.out)
                  replace HO_476002 := Aside0.mk (Kd.R_drew HO_476002.out)
                  replace HO_476005 := Aside0.mk (Kd.N_drew HO_476005.out)
                  replace BK475 := Aside0.mk (blk_drew BK475.out)
                  replace HB := Aside0.mk (below_drew1 HB.out)
                  have p489 : 0 ≤ ((ji37) : Int) := of_decide_eq_true tA
                  have q489 : (ji37) < (t476.length : Int) := of_decide_eq_true tA
                  obtain ⟨ad489, e489, hx489_0⟩ := Kd.at_int (Kd.R_reads' HO_6.out).2.2 (ji37) p489 q489
                  cases e489
                  replace p489 := eq_true p489
                  replace q489 := eq_true q489
                  have p490 : 0 ≤ (t479 : Int) := of_decide_eq_true tA
                  have q490 : t479 < (t476.length : Int) := of_decide_eq_true tA
                  obtain ⟨ad490, e490, hx490_0⟩ := Kd.at_int (Kd.R_reads' HO_6.out).2.2 t479 p490 q490
                  obtain rfl : ad489 = ad490 := (by injection e490)
                  replace p490 := eq_true p490
                  replace q490 := eq_true q490
                  refine start_ (n := 16) (S := fun w' => w'.cell? ⟨gb475, 0, none⟩ = some (.string t463) ∧ w'.cell? ⟨gb475, 1, none⟩ = some (.slice Ao14 t464.length co14) ∧ w'.cell? ⟨gb475, 2, none⟩ = some (.slice Ao15 t467.length co15) ∧ w'.cell? ⟨gb475, 3, none⟩ = some (.int .i64 t470) ∧ w'.cell? ⟨gb475, 4, none⟩ = some (.int .i64 t471) ∧ w'.cell? ⟨gb475, 5, none⟩ = some (.slice Ao16 t472.length co16) ∧ w'.cell? (ad489.add ((ji37)).toNat) = some (.int .i64 (rd t476 (ji37))) ∧ w'.cell? (ad489.add (t479).toNat) = some (.int .i64 (rd t476 t479))) (ds := []) (bq [0, 16]) (by kernel_rfl) rfl rfl ⟨(blk_cell BK475.out 0).trans rfl, (blk_cell BK475.out 1).trans rfl, (blk_cell BK475.out 2).trans rfl, (blk_cell BK475.out 3).trans rfl, (blk_cell BK475.out 4).trans rfl, (blk_cell BK475.out 5).trans rfl, hx489_0, hx490_0⟩ (fun hHeld => ?_); refine with_tabW laws_FnMoves.tab18 laws_FnMoves.bits18 (fun HT_ HW_ => ?_)
                  generalize wc.drew = w45 at HO_6 HO_13 HO_476001 HO_476002 HO_476005 BK475 HB hx489_0 hx490_0 hHeld ⊢
                  refine pV 1 (some 79) [0, 1, 1, 14] rfl rfl HT_ ?_
                  refine pV 2 (some 80) [0, 1, 2, 13] rfl rfl HT_ ?_
                  refine pV 3 (some 81) [0, 1, 3, 12] rfl rfl HT_ ?_
                  refine pV 4 (some 82) [0, 1, 4, 11] rfl rfl HT_ ?_
                  refine pV 6 (some 84) [0, 1, 4, 1, 1, 9] rfl rfl HT_ ?_
                  refine pV 7 (some 85) [0, 1, 4, 1, 2, 8] rfl rfl HT_ ?_
                  refine pV 8 (some 86) [0, 1, 4, 1, 3, 7] rfl rfl HT_ ?_
                  refine pT 0 (some 78) (bq [5, 1, 3, 7]) rfl rfl HT_ HW_ hHeld ?_
                  refine pT 5 (some 83) (bq [9, 7]) rfl rfl HT_ HW_ hHeld ?_
                  refine pT 9 (some 87) (bq [10, 6]) rfl rfl HT_ HW_ hHeld ?_
                  refine pO 10 (some 88) (bq [11, 5]) rfl rfl HT_ (fun K hK => ?_)
                  refine goes_ Try.func86 (by kernel_rfl) rfl #[.agg #[.string t463, .slice Ao14 t464.length co14, .slice Ao15 t467.length co15, .int .i64 t470, .int .i64 t471, .slice Ao16 t472.length co16], .int .i64 (rd t476 (ji37)), .int .i64 (rd t476 t479)] (by rfl) rfl rfl (by (try simp only [List.map_toArray, List.map_cons, List.map_nil]); first | done | (simp only [hji37]; rfl) | rfl | (simp only [List.length_drop, List.length_take]; rfl)) ?_
                  with_reducible refine (spec_ReasonOf.calls kj32 t463 _ _ t464 _ _ t467 t470 t471 _ _ t472 (rd t476 (ji37)) (rd t476 t479) t491 t492 _ ?side1 ?side2 ?side3 ?side4 ?side5 ?side6 A42.out).mono ?_
                  (case side1 => exact tC (Kd.R_reads' HO_476001.out).2.2)
                  (case side2 => exact (Kd.R_reads' HO_476001.out).2.1)
                  (case side3 => exact tC (Kd.R_reads' HO_476002.out).2.2)
                  (case side4 => exact (Kd.R_reads' HO_476002.out).2.1)
                  (case side5 => repeat (first | exact (Kd.N_reads' HO_476005.out).2.2 | (with_reducible refine Kd.C_alloc ?_ _) | (with_reducible refine Kd.C_drewN ?_ _) | (with_reducible refine Kd.C_drew ?_)))
                  (case side6 => exact (Kd.N_reads' HO_476005.out).2.1)
                  rintro e w46 ⟨rfl, hb⟩
                  have HS6_ := (hb.cell (World.block_lt_of_cell? _ _ (hHeld.2.2.2.2.2.2.1))).trans (hHeld.2.2.2.2.2.2.1)
                  have HS7_ := (hb.cell (World.block_lt_of_cell? _ _ (hHeld.2.2.2.2.2.2.2))).trans (hHeld.2.2.2.2.2.2.2)
                  refine ⟨_, rfl, ?_⟩
                  replace HO_6 := Aside0.mk (Kd.R_below (tR HO_6) hb)
                  replace HO_13 := Aside0.mk (Kd.R_below (tR HO_13) hb)
                  replace HO_476001 := Aside0.mk (Kd.R_below (tR HO_476001) hb)
                  replace HO_476002 := Aside0.mk (Kd.R_below (tR HO_476002) hb)
                  replace HO_476005 := Aside0.mk (Kd.N_below (tN HO_476005) hb)
                  replace BK475 := tbB BK475 hb
                  replace HB := Aside0.mk (below_step (tH1 HB GE475.out) hb)
                  (try clear hb)
                  (try clear hb2)
                  (try clear hk)
                  (try clear hi)
                  refine hK.out _ _ ⟨(blk_cell BK475.out 0).trans rfl, (blk_cell BK475.out 1).trans rfl, (blk_cell BK475.out 2).trans rfl, (blk_cell BK475.out 3).trans rfl, (blk_cell BK475.out 4).trans rfl, (blk_cell BK475.out 5).trans rfl, HS6_, HS7_⟩ (fun hHeld => ?_)
                  clear hK K
                  refine nO (some 88) ?_
                  refine pV 11 (some 77) [12, 4] rfl rfl HT_ ?_
                  refine pV 12 (some 89) [13, 3] rfl rfl HT_ ?_
                  refine pV 13 (some 90) [14, 2] rfl rfl HT_ ?_
                  refine pV 14 (some 16) [15, 1] rfl rfl HT_ ?_
                  refine pV 15 (some 17) [16] rfl rfl HT_ ?_
                  refine done_ (done_of HT_.out (by kernel_rfl)) ?_
                  try go_wp2
                  go_meet
                  case rel => exact ⟨_, (t479), tq, H', ⟨by have := HJ9.out; have := HJ29.out; have := HJ32.out; first | omega | exact Nat.le_refl _⟩, ⟨tR HO_6⟩, ⟨tR HO_13⟩, ⟨tR HO_476001⟩, ⟨tR HO_476002⟩, ⟨tN HO_476005⟩, ⟨tB BK475⟩, ⟨tH1 HB GE475.out⟩⟩
                rw [if_neg c44] at H
                have c44b0 : (t491 == t480) = false := beq_eq_false_iff_ne.mpr c44
                have c44b1 : (t491 != t480) = true := bne_iff_ne.mpr c44
                obtain rfl := Option.some.inj H
                try go_wp2
                replace HO_6 := Aside0.mk (Kd.R_drew HO_6.out)
                replace HO_13 := Aside0.mk (Kd.R_drew HO_13.out)
                replace HO_476001 := Aside0.mk (Kd.R_drew HO_476001.out)
                replace HO_476002 := Aside0.mk (Kd.R_drew HO_476002.out)
                replace HO_476005 := Aside0.mk (Kd.N_drew HO_476005.out)
                replace BK475 := Aside0.mk (blk_drew BK475.out)
                replace HB := Aside0.mk (below_drew1 HB.out)
                have p489 : 0 ≤ ((ji37) : Int) := of_decide_eq_true tA
                have q489 : (ji37) < (t476.length : Int) := of_decide_eq_true tA
                obtain ⟨ad489, e489, hx489_0⟩ := Kd.at_int (Kd.R_reads' HO_6.out).2.2 (ji37) p489 q489
                cases e489
                replace p489 := eq_true p489
                replace q489 := eq_true q489
                have p490 : 0 ≤ (t479 : Int) := of_decide_eq_true tA
                have q490 : t479 < (t476.length : Int) := of_decide_eq_true tA
                obtain ⟨ad490, e490, hx490_0⟩ := Kd.at_int (Kd.R_reads' HO_6.out).2.2 t479 p490 q490
                obtain rfl : ad489 = ad490 := (by injection e490)
                replace p490 := eq_true p490
                replace q490 := eq_true q490
                refine start_ (n := 16) (S := fun w' => w'.cell? ⟨gb475, 0, none⟩ = some (.string t463) ∧ w'.cell? ⟨gb475, 1, none⟩ = some (.slice Ao14 t464.length co14) ∧ w'.cell? ⟨gb475, 2, none⟩ = some (.slice Ao15 t467.length co15) ∧ w'.cell? ⟨gb475, 3, none⟩ = some (.int .i64 t470) ∧ w'.cell? ⟨gb475, 4, none⟩ = some (.int .i64 t471) ∧ w'.cell? ⟨gb475, 5, none⟩ = some (.slice Ao16 t472.length co16) ∧ w'.cell? (ad489.add ((ji37)).toNat) = some (.int .i64 (rd t476 (ji37))) ∧ w'.cell? (ad489.add (t479).toNat) = some (.int .i64 (rd t476 t479))) (ds := []) (bq [0, 16]) (by kernel_rfl) rfl rfl ⟨(blk_cell BK475.out 0).trans rfl, (blk_cell BK475.out 1).trans rfl, (blk_cell BK475.out 2).trans rfl, (blk_cell BK475.out 3).trans rfl, (blk_cell BK475.out 4).trans rfl, (blk_cell BK475.out 5).trans rfl, hx489_0, hx490_0⟩ (fun hHeld => ?_); refine with_tabW laws_FnMoves.tab18 laws_FnMoves.bits18 (fun HT_ HW_ => ?_)
                generalize wc.drew = w47 at HO_6 HO_13 HO_476001 HO_476002 HO_476005 BK475 HB hx489_0 hx490_0 hHeld ⊢
                refine pV 1 (some 79) [0, 1, 1, 14] rfl rfl HT_ ?_
                refine pV 2 (some 80) [0, 1, 2, 13] rfl rfl HT_ ?_
                refine pV 3 (some 81) [0, 1, 3, 12] rfl rfl HT_ ?_
                refine pV 4 (some 82) [0, 1, 4, 11] rfl rfl HT_ ?_
                refine pV 6 (some 84) [0, 1, 4, 1, 1, 9] rfl rfl HT_ ?_
                refine pV 7 (some 85) [0, 1, 4, 1, 2, 8] rfl rfl HT_ ?_
                refine pV 8 (some 86) [0, 1, 4, 1, 3, 7] rfl rfl HT_ ?_
                refine pT 0 (some 78) (bq [5, 1, 3, 7]) rfl rfl HT_ HW_ hHeld ?_
                refine pT 5 (some 83) (bq [9, 7]) rfl rfl HT_ HW_ hHeld ?_
                refine pT 9 (some 87) (bq [10, 6]) rfl rfl HT_ HW_ hHeld ?_
                refine pO 10 (some 88) (bq [11, 5]) rfl rfl HT_ (fun K hK => ?_)
                refine goes_ Try.func86 (by kernel_rfl) rfl #[.agg #[.string t463, .slice Ao14 t464.length co14, .slice Ao15 t467.length co15, .int .i64 t470, .int .i64 t471, .slice Ao16 t472.length co16], .int .i64 (rd t476 (ji37)), .int .i64 (rd t476 t479)] (by rfl) rfl rfl (by (try simp only [List.map_toArray, List.map_cons, List.map_nil]); first | done | (simp only [hji37]; rfl) | rfl | (simp only [List.length_drop, List.length_take]; rfl)) ?_
                with_reducible refine (spec_ReasonOf.calls kj32 t463 _ _ t464 _ _ t467 t470 t471 _ _ t472 (rd t476 (ji37)) (rd t476 t479) t491 t492 _ ?side1 ?side2 ?side3 ?side4 ?side5 ?side6 A42.out).mono ?_
                (case side1 => exact tC (Kd.R_reads' HO_476001.out).2.2)
                (case side2 => exact (Kd.R_reads' HO_476001.out).2.1)
                (case side3 => exact tC (Kd.R_reads' HO_476002.out).2.2)
                (case side4 => exact (Kd.R_reads' HO_476002.out).2.1)
                (case side5 => repeat (first | exact (Kd.N_reads' HO_476005.out).2.2 | (with_reducible refine Kd.C_alloc ?_ _) | (with_reducible refine Kd.C_drewN ?_ _) | (with_reducible refine Kd.C_drew ?_)))
                (case side6 => exact (Kd.N_reads' HO_476005.out).2.1)
                rintro e w48 ⟨rfl, hb⟩
                have HS6_ := (hb.cell (World.block_lt_of_cell? _ _ (hHeld.2.2.2.2.2.2.1))).trans (hHeld.2.2.2.2.2.2.1)
                have HS7_ := (hb.cell (World.block_lt_of_cell? _ _ (hHeld.2.2.2.2.2.2.2))).trans (hHeld.2.2.2.2.2.2.2)
                refine ⟨_, rfl, ?_⟩
                replace HO_6 := Aside0.mk (Kd.R_below (tR HO_6) hb)
                replace HO_13 := Aside0.mk (Kd.R_below (tR HO_13) hb)
                replace HO_476001 := Aside0.mk (Kd.R_below (tR HO_476001) hb)
                replace HO_476002 := Aside0.mk (Kd.R_below (tR HO_476002) hb)
                replace HO_476005 := Aside0.mk (Kd.N_below (tN HO_476005) hb)
                replace BK475 := tbB BK475 hb
                replace HB := Aside0.mk (below_step (tH1 HB GE475.out) hb)
                (try clear hb)
                (try clear hb2)
                (try clear hk)
                (try clear hi)
                refine hK.out _ _ ⟨(blk_cell BK475.out 0).trans rfl, (blk_cell BK475.out 1).trans rfl, (blk_cell BK475.out 2).trans rfl, (blk_cell BK475.out 3).trans rfl, (blk_cell BK475.out 4).trans rfl, (blk_cell BK475.out 5).trans rfl, HS6_, HS7_⟩ (fun hHeld => ?_)
                clear hK K
                refine nO (some 88) ?_
                refine pV 11 (some 77) [12, 4] rfl rfl HT_ ?_
                refine pV 12 (some 89) [13, 3] rfl rfl HT_ ?_
                refine pV 13 (some 90) [14, 2] rfl rfl HT_ ?_
                refine pV 14 (some 16) [15, 1] rfl rfl HT_ ?_
                refine pV 15 (some 17) [16] rfl rfl HT_ ?_
                refine done_ (done_of HT_.out (by kernel_rfl)) ?_
                try go_wp2
                go_ret
                exact ⟨by first | rfl | (simp [errW_none, errW_some] <;> rfl) | (simp only [← hji37]; first | rfl | (simp [errW_none, errW_some] <;> rfl)) | (simp [*, errW_none, errW_some] <;> rfl), tH1 HB GE475.out⟩
              rw [if_neg c43] at H
              have c43b0 : (t492 == 0) = false := beq_eq_false_iff_ne.mpr c43
              have c43b1 : (t492 != 0) = true := bne_iff_ne.mpr c43
              obtain rfl := Option.some.inj H
              try go_wp2
              replace HO_6 := Aside0.mk (Kd.R_drew HO_6.out)
              replace HO_13 := Aside0.mk (Kd.R_drew HO_13.out)
              replace HO_476001 := Aside0.mk (Kd.R_drew HO_476001.out)
              replace HO_476002 := Aside0.mk (Kd.R_drew HO_476002.out)
              replace HO_476005 := Aside0.mk (Kd.N_drew HO_476005.out)
              replace BK475 := Aside0.mk (blk_drew BK475.out)
              replace HB := Aside0.mk (below_drew1 HB.out)
              have p489 : 0 ≤ ((ji37) : Int) := of_decide_eq_true tA
              have q489 : (ji37) < (t476.length : Int) := of_decide_eq_true tA
              obtain ⟨ad489, e489, hx489_0⟩ := Kd.at_int (Kd.R_reads' HO_6.out).2.2 (ji37) p489 q489
              cases e489
              replace p489 := eq_true p489
              replace q489 := eq_true q489
              have p490 : 0 ≤ (t479 : Int) := of_decide_eq_true tA
              have q490 : t479 < (t476.length : Int) := of_decide_eq_true tA
              obtain ⟨ad490, e490, hx490_0⟩ := Kd.at_int (Kd.R_reads' HO_6.out).2.2 t479 p490 q490
              obtain rfl : ad489 = ad490 := (by injection e490)
              replace p490 := eq_true p490
              replace q490 := eq_true q490
              refine start_ (n := 16) (S := fun w' => w'.cell? ⟨gb475, 0, none⟩ = some (.string t463) ∧ w'.cell? ⟨gb475, 1, none⟩ = some (.slice Ao14 t464.length co14) ∧ w'.cell? ⟨gb475, 2, none⟩ = some (.slice Ao15 t467.length co15) ∧ w'.cell? ⟨gb475, 3, none⟩ = some (.int .i64 t470) ∧ w'.cell? ⟨gb475, 4, none⟩ = some (.int .i64 t471) ∧ w'.cell? ⟨gb475, 5, none⟩ = some (.slice Ao16 t472.length co16) ∧ w'.cell? (ad489.add ((ji37)).toNat) = some (.int .i64 (rd t476 (ji37))) ∧ w'.cell? (ad489.add (t479).toNat) = some (.int .i64 (rd t476 t479))) (ds := []) (bq [0, 16]) (by kernel_rfl) rfl rfl ⟨(blk_cell BK475.out 0).trans rfl, (blk_cell BK475.out 1).trans rfl, (blk_cell BK475.out 2).trans rfl, (blk_cell BK475.out 3).trans rfl, (blk_cell BK475.out 4).trans rfl, (blk_cell BK475.out 5).trans rfl, hx489_0, hx490_0⟩ (fun hHeld => ?_); refine with_tabW laws_FnMoves.tab18 laws_FnMoves.bits18 (fun HT_ HW_ => ?_)
              generalize wc.drew = w49 at HO_6 HO_13 HO_476001 HO_476002 HO_476005 BK475 HB hx489_0 hx490_0 hHeld ⊢
              refine pV 1 (some 79) [0, 1, 1, 14] rfl rfl HT_ ?_
              refine pV 2 (some 80) [0, 1, 2, 13] rfl rfl HT_ ?_
              refine pV 3 (some 81) [0, 1, 3, 12] rfl rfl HT_ ?_
              refine pV 4 (some 82) [0, 1, 4, 11] rfl rfl HT_ ?_
              refine pV 6 (some 84) [0, 1, 4, 1, 1, 9] rfl rfl HT_ ?_
              refine pV 7 (some 85) [0, 1, 4, 1, 2, 8] rfl rfl HT_ ?_
              refine pV 8 (some 86) [0, 1, 4, 1, 3, 7] rfl rfl HT_ ?_
              refine pT 0 (some 78) (bq [5, 1, 3, 7]) rfl rfl HT_ HW_ hHeld ?_
              refine pT 5 (some 83) (bq [9, 7]) rfl rfl HT_ HW_ hHeld ?_
              refine pT 9 (some 87) (bq [10, 6]) rfl rfl HT_ HW_ hHeld ?_
              refine pO 10 (some 88) (bq [11, 5]) rfl rfl HT_ (fun K hK => ?_)
              refine goes_ Try.func86 (by kernel_rfl) rfl #[.agg #[.string t463, .slice Ao14 t464.length co14, .slice Ao15 t467.length co15, .int .i64 t470, .int .i64 t471, .slice Ao16 t472.length co16], .int .i64 (rd t476 (ji37)), .int .i64 (rd t476 t479)] (by rfl) rfl rfl (by (try simp only [List.map_toArray, List.map_cons, List.map_nil]); first | done | (simp only [hji37]; rfl) | rfl | (simp only [List.length_drop, List.length_take]; rfl)) ?_
              with_reducible refine (spec_ReasonOf.calls kj32 t463 _ _ t464 _ _ t467 t470 t471 _ _ t472 (rd t476 (ji37)) (rd t476 t479) t491 t492 _ ?side1 ?side2 ?side3 ?side4 ?side5 ?side6 A42.out).mono ?_
              (case side1 => exact tC (Kd.R_reads' HO_476001.out).2.2)
              (case side2 => exact (Kd.R_reads' HO_476001.out).2.1)
              (case side3 => exact tC (Kd.R_reads' HO_476002.out).2.2)
              (case side4 => exact (Kd.R_reads' HO_476002.out).2.1)
              (case side5 => repeat (first | exact (Kd.N_reads' HO_476005.out).2.2 | (with_reducible refine Kd.C_alloc ?_ _) | (with_reducible refine Kd.C_drewN ?_ _) | (with_reducible refine Kd.C_drew ?_)))
              (case side6 => exact (Kd.N_reads' HO_476005.out).2.1)
              rintro e w50 ⟨rfl, hb⟩
              have HS6_ := (hb.cell (World.block_lt_of_cell? _ _ (hHeld.2.2.2.2.2.2.1))).trans (hHeld.2.2.2.2.2.2.1)
              have HS7_ := (hb.cell (World.block_lt_of_cell? _ _ (hHeld.2.2.2.2.2.2.2))).trans (hHeld.2.2.2.2.2.2.2)
              refine ⟨_, rfl, ?_⟩
              replace HO_6 := Aside0.mk (Kd.R_below (tR HO_6) hb)
              replace HO_13 := Aside0.mk (Kd.R_below (tR HO_13) hb)
              replace HO_476001 := Aside0.mk (Kd.R_below (tR HO_476001) hb)
              replace HO_476002 := Aside0.mk (Kd.R_below (tR HO_476002) hb)
              replace HO_476005 := Aside0.mk (Kd.N_below (tN HO_476005) hb)
              replace BK475 := tbB BK475 hb
              replace HB := Aside0.mk (below_step (tH1 HB GE475.out) hb)
              (try clear hb)
              (try clear hb2)
              (try clear hk)
              (try clear hi)
              refine hK.out _ _ ⟨(blk_cell BK475.out 0).trans rfl, (blk_cell BK475.out 1).trans rfl, (blk_cell BK475.out 2).trans rfl, (blk_cell BK475.out 3).trans rfl, (blk_cell BK475.out 4).trans rfl, (blk_cell BK475.out 5).trans rfl, HS6_, HS7_⟩ (fun hHeld => ?_)
              clear hK K
              refine nO (some 88) ?_
              refine pV 11 (some 77) [12, 4] rfl rfl HT_ ?_
              refine pV 12 (some 89) [13, 3] rfl rfl HT_ ?_
              refine pV 13 (some 90) [14, 2] rfl rfl HT_ ?_
              refine pV 14 (some 16) [15, 1] rfl rfl HT_ ?_
              refine pV 15 (some 17) [16] rfl rfl HT_ ?_
              refine done_ (done_of HT_.out (by kernel_rfl)) ?_
              try go_wp2
              go_ret
              exact ⟨by first | rfl | (simp [errW_none, errW_some] <;> rfl) | (simp only [← hji37]; first | rfl | (simp [errW_none, errW_some] <;> rfl)) | (simp [*, errW_none, errW_some] <;> rfl), tH1 HB GE475.out⟩
            rw [if_neg c41] at H
            exact absurd H (by simp)
          rw [if_neg c40] at H
          exact absurd H (by simp)
        rw [if_neg c39] at H
        exact absurd H (by simp)
      rw [if_neg c38] at H
      exact absurd H (by simp)
    rw [if_neg c36] at H
    have c36b0 : decide (0 < t479) = false := decide_eq_false c36
    clear c36
    have H' := Aside0.mk H
    clear H
    go_wp2
    go_meet
    case rel => exact ⟨_, (t479), tq, H', ⟨by have := HJ9.out; have := HJ29.out; have := HJ32.out; first | omega | exact Nat.le_refl _⟩, ⟨tR HO_6⟩, ⟨tR HO_13⟩, ⟨tR HO_476001⟩, ⟨tR HO_476002⟩, ⟨tN HO_476005⟩, ⟨tB BK475⟩, ⟨tH1 HB GE475.out⟩⟩
  rw [if_neg c29] at H
  have c29b0 : (t481 == 0) = false := beq_eq_false_iff_ne.mpr c29
  have c29b1 : (t481 != 0) = true := bne_iff_ne.mpr c29
  (first | rw [c29b0] | (simp only [i64_w, i32_w]; rw [c29b0]) | skip)
  have H' := Aside0.mk H
  clear H
  go_wp2
  go_meet
  case rel => exact ⟨_, ((t476.length : Int)), tq, H', ⟨by have := HJ9.out; first | omega | exact Nat.le_refl _⟩, ⟨tR HO_6⟩, ⟨tR HO_13⟩, ⟨tR HO_476001⟩, ⟨tR HO_476002⟩, ⟨tN HO_476005⟩, ⟨tB BK475⟩, ⟨tH1 HB GE475.out⟩⟩
 case rest =>
 clear HC28
 try clear c2
 try clear p2
 try clear c3
 try clear c4
 try clear p4
 try clear q4
 try clear hx4
 try clear c8
 try clear c29
 try clear c29b0
 try clear c29b1
 try clear c36
 try clear c36b0
 try clear c38
 try clear c39
 try clear c40
 try clear c41
 try clear c43
 try clear c43b0
 try clear c43b1
 try clear c44
 try clear c44b0
 try clear c44b1
 try clear p48
 try clear q48
 try clear hx48
 try clear p49
 try clear q49
 try clear hx49
 try clear hx489_0
 try clear hx490_0
 try clear p489
 try clear p490
 try clear q489
 try clear q490
 obtain ⟨kq, x15_27, rfl, HA, HJ27, HO_6, HO_13, HO_476001, HO_476002, HO_476005, BK475, HB⟩ := hcut
 cases kq with
 | zero => exact absurd HA.out (by simp [laws_FnMoves.j3])
 | succ kj27 =>
 have H := HA.out
 clear HA
 simp only [laws_FnMoves.j3] at H
 have H' := Aside0.mk H
 clear H
 go_wp2
 go_loopg [18] kj27 (fun kq v18 w' => ∃ (x18_3 : Int), v18 = .int .i64 x18_3 ∧ Aside0 (laws_FnMoves.l0 kq t476 t482 t483 t485 x15_27 x18_3 t463 t464 t467 t470 t471 t472 = some r) ∧ Aside0 (kq ≤ kj27) ∧ Aside0 (Kd.R (Kd.int .i64) 2 w' w.heap.size (fun k_ => some k_ ≠ (v486 : Value).ownBlock ∧ some k_ ≠ ((.slice Ao14 t464.length co14) : Value).ownBlock ∧ some k_ ≠ ((.slice Ao15 t467.length co15) : Value).ownBlock) (.slice Ao19 t476.length co19) t476) ∧ Aside0 (Kd.R (Kd.int .i64) 2 w' w.heap.size (fun k_ => some k_ ≠ ((.slice Ao19 t476.length co19) : Value).ownBlock ∧ some k_ ≠ ((.slice Ao14 t464.length co14) : Value).ownBlock ∧ some k_ ≠ ((.slice Ao15 t467.length co15) : Value).ownBlock) v486 t485) ∧ Aside0 (Kd.R (Kd.int .i64) 2 w' w.heap.size (fun k_ => some k_ ≠ ((.slice Ao19 t476.length co19) : Value).ownBlock ∧ some k_ ≠ (v486 : Value).ownBlock ∧ some k_ ≠ ((.slice Ao15 t467.length co15) : Value).ownBlock) (.slice Ao14 t464.length co14) t464) ∧ Aside0 (Kd.R (Kd.int .i64) 2 w' w.heap.size (fun k_ => some k_ ≠ ((.slice Ao19 t476.length co19) : Value).ownBlock ∧ some k_ ≠ (v486 : Value).ownBlock ∧ some k_ ≠ ((.slice Ao14 t464.length co14) : Value).ownBlock) (.slice Ao15 t467.length co15) t467) ∧ Aside0 (Kd.N (Kd.slice 2 (Kd.int .i64)) 24 w' w.heap.size (fun k_ => some k_ ≠ ((.slice Ao19 t476.length co19) : Value).ownBlock ∧ some k_ ≠ (v486 : Value).ownBlock ∧ some k_ ≠ ((.slice Ao14 t464.length co14) : Value).ownBlock ∧ some k_ ≠ ((.slice Ao15 t467.length co15) : Value).ownBlock ∧ k_ ≠ gb475) (.slice Ao16 t472.length co16) t472) ∧ Aside0 (w'.heap[gb475]? = some (.cells #[.string t463, (.slice Ao14 t464.length co14), (.slice Ao15 t467.length co15), .int .i64 t470, .int .i64 t471, (.slice Ao16 t472.length co16)] 27 (0, 0))) ∧ Aside0 (Below w.heap.size w w'))
 case atStart => exact ⟨(0), tq, H', ⟨Nat.le_refl _⟩, ⟨tR HO_6⟩, ⟨tR HO_13⟩, ⟨tR HO_476001⟩, ⟨tR HO_476002⟩, ⟨tN HO_476005⟩, ⟨tB BK475⟩, ⟨tH1 HB GE475.out⟩⟩
 case round =>
 clear H'
 try clear c2
 try clear p2
 try clear c3
 try clear c4
 try clear p4
 try clear q4
 try clear hx4
 try clear c8
 try clear c29
 try clear c29b0
 try clear c29b1
 try clear c36
 try clear c36b0
 try clear c38
 try clear c39
 try clear c40
 try clear c41
 try clear c43
 try clear c43b0
 try clear c43b1
 try clear c44
 try clear c44b0
 try clear c44b1
 try clear p48
 try clear q48
 try clear hx48
 try clear p49
 try clear q49
 try clear hx49
 try clear hx489_0
 try clear hx490_0
 try clear p2
 try clear p4
 try clear p48
 try clear p489
 try clear p49
 try clear p490
 try clear q4
 try clear q48
 try clear q489
 try clear q49
 try clear q490
 obtain ⟨x18_3, rfl, HA, HK3, HO_6, HO_13, HO_476001, HO_476002, HO_476005, BK475, HB⟩ := hrel
 cases gk with
 | zero => exact absurd HA.out (by simp [laws_FnMoves.l0])
 | succ k3 =>
 have H := HA.out
 clear HA
 simp only [laws_FnMoves.l0] at H
 by_cases c51 : x18_3 < x15_27
 · rw [if_pos c51] at H
   have c51b0 : decide (x18_3 < x15_27) = true := decide_eq_true c51
   clear c51
   by_cases c52 : x18_3 = 0
   · rw [if_pos c52] at H
     have c52b0 : (x18_3 == 0) = true := beq_iff_eq.mpr c52
     have c52b1 : (x18_3 != 0) = false := bne_eq_false_iff_eq.mpr c52
     clear c52
     by_cases c53 : 0 < (t476.length : Int)
     · rw [if_pos c53] at H
       have c53b0 : decide (0 < (t476.length : Int)) = true := decide_eq_true c53
       have c53b1 : decide (0 < t476.length) = true := decide_eq_true (by omega)
       clear c53
       replace H := Option.bind_eq_some_iff.mp H
       obtain ⟨t494, A540, H⟩ := H
       replace H : ((laws_r8Has.f k3 t485 t494).bind fun t495 => (if t495 = true then (if x18_3 > 0 then (if 0 ≤ (wrap64 (x18_3 - 1)) then (if (wrap64 (x18_3 - 1)) < (t476.length : Int) then (if 0 ≤ x18_3 then (if x18_3 < (t476.length : Int) then ((spec_IsAllowed.f k3 t463 t464 t467 t470 t471 t472 (rd t476 (wrap64 (x18_3 - 1))) (rd t476 x18_3)).bind fun t498 => (if t498 = true then (laws_FnMoves.l0 k3 t476 t482 t483 t485 x15_27 (wrap64 (x18_3 + 1)) t463 t464 t467 t470 t471 t472) else (some false))) else (none)) else (none)) else (none)) else (none)) else (laws_FnMoves.l0 k3 t476 t482 t483 t485 x15_27 (wrap64 (x18_3 + 1)) t463 t464 t467 t470 t471 t472)) else (some false))) = some r := H
       have A54 := Aside0.mk A540
       clear A540
       replace H := Option.bind_eq_some_iff.mp H
       obtain ⟨t495, A550, H⟩ := H
       replace H : (if t495 = true then (if x18_3 > 0 then (if 0 ≤ (wrap64 (x18_3 - 1)) then (if (wrap64 (x18_3 - 1)) < (t476.length : Int) then (if 0 ≤ x18_3 then (if x18_3 < (t476.length : Int) then ((spec_IsAllowed.f k3 t463 t464 t467 t470 t471 t472 (rd t476 (wrap64 (x18_3 - 1))) (rd t476 x18_3)).bind fun t498 => (if t498 = true then (laws_FnMoves.l0 k3 t476 t482 t483 t485 x15_27 (wrap64 (x18_3 + 1)) t463 t464 t467 t470 t471 t472) else (some false))) else (none)) else (none)) else (none)) else (none)) else (laws_FnMoves.l0 k3 t476 t482 t483 t485 x15_27 (wrap64 (x18_3 + 1)) t463 t464 t467 t470 t471 t472)) else (some false)) = some r := H
       have A55 := Aside0.mk A550
       clear A550
       by_cases c56 : t495 = true
       · subst c56
         have H1 : (if x18_3 > 0 then (if 0 ≤ (wrap64 (x18_3 - 1)) then (if (wrap64 (x18_3 - 1)) < (t476.length : Int) then (if 0 ≤ x18_3 then (if x18_3 < (t476.length : Int) then ((spec_IsAllowed.f k3 t463 t464 t467 t470 t471 t472 (rd t476 (wrap64 (x18_3 - 1))) (rd t476 x18_3)).bind fun t498 => (if t498 = true then (laws_FnMoves.l0 k3 t476 t482 t483 t485 x15_27 (wrap64 (x18_3 + 1)) t463 t464 t467 t470 t471 t472) else (some false))) else (none)) else (none)) else (none)) else (none)) else (laws_FnMoves.l0 k3 t476 t482 t483 t485 x15_27 (wrap64 (x18_3 + 1)) t463 t464 t467 t470 t471 t472)) = some r := by rw [if_pos rfl] at H; exact H
         clear H
         have H := H1
         clear H1
         by_cases c57 : x18_3 > 0
         · rw [if_pos c57] at H
           have c57b0 : decide (0 < x18_3) = true := decide_eq_true c57
           clear c57
           obtain ⟨ji58, hji58⟩ : ∃ j_ : Int, (wrap64 (x18_3 - 1)) = j_ := ⟨_, rfl⟩
           replace H : (if 0 ≤ (ji58) then (if (ji58) < (t476.length : Int) then (if 0 ≤ x18_3 then (if x18_3 < (t476.length : Int) then ((spec_IsAllowed.f k3 t463 t464 t467 t470 t471 t472 (rd t476 (ji58)) (rd t476 x18_3)).bind fun t498 => (if t498 = true then (laws_FnMoves.l0 k3 t476 t482 t483 t485 x15_27 (wrap64 (x18_3 + 1)) t463 t464 t467 t470 t471 t472) else (some false))) else (none)) else (none)) else (none)) else (none)) = some r := by first | (rw [hji58] at H; exact H) | (simp only [hji58] at H ⊢; exact H)
           (try rw [hji58] at A54)
           (try rw [hji58] at A55)
           have hji58w : (IntKind.i64.wrap (x18_3 - 1)) = ji58 := (i64_w _).trans hji58
           by_cases c59 : 0 ≤ (ji58)
           · rw [if_pos c59] at H
             have c59b0 : decide (0 ≤ (ji58)) = true := decide_eq_true c59
             clear c59
             by_cases c60 : (ji58) < (t476.length : Int)
             · rw [if_pos c60] at H
               have c60b0 : decide ((ji58) < (t476.length : Int)) = true := decide_eq_true c60
               clear c60
               by_cases c61 : 0 ≤ x18_3
               · rw [if_pos c61] at H
                 have c61b0 : decide (0 ≤ x18_3) = true := decide_eq_true c61
                 clear c61
                 by_cases c62 : x18_3 < (t476.length : Int)
                 · rw [if_pos c62] at H
                   have c62b0 : decide (x18_3 < (t476.length : Int)) = true := decide_eq_true c62
                   clear c62
                   replace H := Option.bind_eq_some_iff.mp H
                   obtain ⟨t498, A630, H⟩ := H
                   replace H : (if t498 = true then (laws_FnMoves.l0 k3 t476 t482 t483 t485 x15_27 (wrap64 (x18_3 + 1)) t463 t464 t467 t470 t471 t472) else (some false)) = some r := H
                   have A63 := Aside0.mk A630
                   clear A630
                   by_cases c64 : t498 = true
                   · subst c64
                     have H1 : (laws_FnMoves.l0 k3 t476 t482 t483 t485 x15_27 (wrap64 (x18_3 + 1)) t463 t464 t467 t470 t471 t472) = some r := by rw [if_pos rfl] at H; exact H
                     clear H
                     have H := H1
                     clear H1
                     have H' := Aside0.mk H
                     clear H
                     try go_wp2
                     replace HO_6 := Aside0.mk (Kd.R_drew HO_6.out)
                     replace HO_13 := Aside0.mk (Kd.R_drew HO_13.out)
                     replace HO_476001 := Aside0.mk (Kd.R_drew HO_476001.out)
                     replace HO_476002 := Aside0.mk (Kd.R_drew HO_476002.out)
                     replace HO_476005 := Aside0.mk (Kd.N_drew HO_476005.out)
                     replace BK475 := Aside0.mk (blk_drew BK475.out)
                     replace HB := Aside0.mk (below_drew1 HB.out)
                     have p493 : 0 ≤ (0 : Int) := (by omega)
                     have q493 : 0 < (t476.length : Int) := of_decide_eq_true tA
                     obtain ⟨ad493, e493, hx493_0⟩ := Kd.at_int (Kd.R_reads' HO_6.out).2.2 0 p493 q493
                     cases e493
                     have qi493 : (0 < t476.length) = True := eq_true (by omega)
                     (try rw [t0n] at hx493_0)
                     (try rw [Addr.add_zero'] at hx493_0)
                     replace p493 := eq_true p493
                     replace q493 := eq_true q493
                     have p496 : 0 ≤ ((ji58) : Int) := of_decide_eq_true tA
                     have q496 : (ji58) < (t476.length : Int) := of_decide_eq_true tA
                     obtain ⟨ad496, e496, hx496_0⟩ := Kd.at_int (Kd.R_reads' HO_6.out).2.2 (ji58) p496 q496
                     obtain rfl : ad493 = ad496 := (by injection e496)
                     replace p496 := eq_true p496
                     replace q496 := eq_true q496
                     have p497 : 0 ≤ (x18_3 : Int) := of_decide_eq_true tA
                     have q497 : x18_3 < (t476.length : Int) := of_decide_eq_true tA
                     obtain ⟨ad497, e497, hx497_0⟩ := Kd.at_int (Kd.R_reads' HO_6.out).2.2 x18_3 p497 q497
                     obtain rfl : ad493 = ad497 := (by injection e497)
                     replace p497 := eq_true p497
                     replace q497 := eq_true q497
                     refine start_ (n := 29) (S := fun w' => w'.cell? ⟨gb475, 0, none⟩ = some (.string t463) ∧ w'.cell? ⟨gb475, 1, none⟩ = some (.slice Ao14 t464.length co14) ∧ w'.cell? ⟨gb475, 2, none⟩ = some (.slice Ao15 t467.length co15) ∧ w'.cell? ⟨gb475, 3, none⟩ = some (.int .i64 t470) ∧ w'.cell? ⟨gb475, 4, none⟩ = some (.int .i64 t471) ∧ w'.cell? ⟨gb475, 5, none⟩ = some (.slice Ao16 t472.length co16) ∧ w'.cell? ad493 = some (.int .i64 (rd t476 0)) ∧ w'.cell? (ad493.add ((ji58)).toNat) = some (.int .i64 (rd t476 (ji58))) ∧ w'.cell? (ad493.add (x18_3).toNat) = some (.int .i64 (rd t476 x18_3))) (ds := []) (bq [0, 29]) (by kernel_rfl) rfl rfl ⟨(blk_cell BK475.out 0).trans rfl, (blk_cell BK475.out 1).trans rfl, (blk_cell BK475.out 2).trans rfl, (blk_cell BK475.out 3).trans rfl, (blk_cell BK475.out 4).trans rfl, (blk_cell BK475.out 5).trans rfl, hx493_0, hx496_0, hx497_0⟩ (fun hHeld => ?_); refine with_tabW laws_FnMoves.tab24 laws_FnMoves.bits24 (fun HT_ HW_ => ?_)
                     generalize wr.drew = w65 at HO_6 HO_13 HO_476001 HO_476002 HO_476005 BK475 HB hx493_0 hx496_0 hx497_0 hHeld ⊢
                     refine pV 0 (some 103) [1, 28] rfl rfl HT_ ?_
                     refine pV 1 (some 104) [2, 27] rfl rfl HT_ ?_
                     refine pV 2 (some 105) [3, 26] rfl rfl HT_ ?_
                     refine pV 3 (some 106) [4, 25] rfl rfl HT_ ?_
                     refine pV 4 (some 107) [5, 24] rfl rfl HT_ ?_
                     refine pV 5 (some 108) [6, 23] rfl rfl HT_ ?_
                     refine pT 6 (some 109) (bq [7, 22]) rfl rfl HT_ HW_ hHeld ?_
                     refine pO 7 (some 110) (bq [8, 21]) rfl rfl HT_ (fun K hK => ?_)
                     refine gS_ Try.func87 #[.int .i64 (rd t476 0)] rfl rfl ?_
                     with_reducible refine (spec_ToneOf.calls (rd t476 0) t494 _ A54.out).mono ?_
                     rintro e w' ⟨rfl, ⟨nd, rfl⟩⟩
                     refine ⟨_, rfl, ?_⟩
                     obtain ⟨Ao66, co66, eo66⟩ := Kd.R_slice HO_13.out
                     (first | subst eo66 | (injection eo66 with f1_ f2_ f3_; have f4_ := f1_.symm; have f5_ := f3_.symm; clear f1_ f2_ f3_; subst f4_; subst f5_))
                     refine hK.out _ _ ⟨(blk_cell BK475.out 0).trans rfl, (blk_cell BK475.out 1).trans rfl, (blk_cell BK475.out 2).trans rfl, (blk_cell BK475.out 3).trans rfl, (blk_cell BK475.out 4).trans rfl, (blk_cell BK475.out 5).trans rfl, hHeld.2.2.2.2.2.2.1, hHeld.2.2.2.2.2.2.2.1, hHeld.2.2.2.2.2.2.2.2⟩ (fun hHeld => ?_)
                     clear hK K
                     refine nO (some 110) ?_
                     refine pO 8 (some 111) (bq [9, 20]) rfl rfl HT_ (fun K hK => ?_)
                     refine gS_ Try.func56 #[.slice Ao66 t485.length co66, .int .i64 t494] rfl rfl ?_
                     with_reducible refine (laws_r8Has.calls k3 _ _ t485 t494 true _ ?side1 ?side2 A55.out).mono ?_
                     (case side1 => exact tC (Kd.R_reads' HO_13.out).2.2)
                     (case side2 => exact (Kd.R_reads' HO_13.out).2.1)
                     rintro e w' ⟨rfl, ⟨nd, rfl⟩⟩
                     refine ⟨_, rfl, ?_⟩
                     refine hK.out _ _ ⟨(blk_cell BK475.out 0).trans rfl, (blk_cell BK475.out 1).trans rfl, (blk_cell BK475.out 2).trans rfl, (blk_cell BK475.out 3).trans rfl, (blk_cell BK475.out 4).trans rfl, (blk_cell BK475.out 5).trans rfl, hHeld.2.2.2.2.2.2.1, hHeld.2.2.2.2.2.2.2.1, hHeld.2.2.2.2.2.2.2.2⟩ (fun hHeld => ?_)
                     clear hK K
                     refine nO (some 111) ?_
                     refine pV 9 (some 112) [10, 19] rfl rfl HT_ ?_
                     refine pV 10 (some 113) [11, 18] rfl rfl HT_ ?_
                     refine pV 11 (some 114) [12, 17] rfl rfl HT_ ?_
                     refine pV 12 (some 115) [13, 16] rfl rfl HT_ ?_
                     refine pV 13 (some 116) [14, 15] rfl rfl HT_ ?_
                     refine pV 14 (some 117) [15, 14] rfl rfl HT_ ?_
                     refine pV 16 (some 119) [15, 1, 1, 12] rfl rfl HT_ ?_
                     refine pV 17 (some 120) [15, 1, 2, 11] rfl rfl HT_ ?_
                     refine pV 18 (some 121) [15, 1, 3, 10] rfl rfl HT_ ?_
                     refine pV 19 (some 122) [15, 1, 4, 9] rfl rfl HT_ ?_
                     refine pV 21 (some 124) [15, 1, 4, 1, 1, 7] rfl rfl HT_ ?_
                     refine pV 22 (some 125) [15, 1, 4, 1, 2, 6] rfl rfl HT_ ?_
                     refine pV 23 (some 126) [15, 1, 4, 1, 3, 5] rfl rfl HT_ ?_
                     refine pT 15 (some 118) (bq [20, 1, 3, 5]) rfl rfl HT_ HW_ hHeld ?_
                     refine pT 20 (some 123) (bq [24, 5]) rfl rfl HT_ HW_ hHeld ?_
                     refine pT 24 (some 127) (bq [25, 4]) rfl rfl HT_ HW_ hHeld ?_
                     refine pO 25 (some 128) (bq [26, 3]) rfl rfl HT_ (fun K hK => ?_)
                     refine goes_ Try.func88 (by kernel_rfl) rfl #[.agg #[.string t463, .slice Ao14 t464.length co14, .slice Ao15 t467.length co15, .int .i64 t470, .int .i64 t471, .slice Ao16 t472.length co16], .int .i64 (rd t476 (ji58)), .int .i64 (rd t476 x18_3)] (by rfl) rfl rfl (by (try simp only [List.map_toArray, List.map_cons, List.map_nil]); first | done | (simp only [hji58]; rfl) | rfl | (simp only [List.length_drop, List.length_take]; rfl)) ?_
                     with_reducible refine (spec_IsAllowed.calls k3 t463 _ _ t464 _ _ t467 t470 t471 _ _ t472 (rd t476 (ji58)) (rd t476 x18_3) true _ ?side1 ?side2 ?side3 ?side4 ?side5 ?side6 A63.out).mono ?_
                     (case side1 => exact tC (Kd.R_reads' HO_476001.out).2.2)
                     (case side2 => exact (Kd.R_reads' HO_476001.out).2.1)
                     (case side3 => exact tC (Kd.R_reads' HO_476002.out).2.2)
                     (case side4 => exact (Kd.R_reads' HO_476002.out).2.1)
                     (case side5 => repeat (first | exact (Kd.N_reads' HO_476005.out).2.2 | (with_reducible refine Kd.C_alloc ?_ _) | (with_reducible refine Kd.C_drewN ?_ _) | (with_reducible refine Kd.C_drew ?_)))
                     (case side6 => exact (Kd.N_reads' HO_476005.out).2.1)
                     rintro e w67 ⟨rfl, hb⟩
                     have HS6_ := (hb.cell (World.block_lt_of_cell? _ _ (hHeld.2.2.2.2.2.2.1))).trans (hHeld.2.2.2.2.2.2.1)
                     have HS7_ := (hb.cell (World.block_lt_of_cell? _ _ (hHeld.2.2.2.2.2.2.2.1))).trans (hHeld.2.2.2.2.2.2.2.1)
                     have HS8_ := (hb.cell (World.block_lt_of_cell? _ _ (hHeld.2.2.2.2.2.2.2.2))).trans (hHeld.2.2.2.2.2.2.2.2)
                     refine ⟨_, rfl, ?_⟩
                     replace HO_6 := Aside0.mk (Kd.R_below (tR HO_6) hb)
                     replace HO_13 := Aside0.mk (Kd.R_below (tR HO_13) hb)
                     replace HO_476001 := Aside0.mk (Kd.R_below (tR HO_476001) hb)
                     replace HO_476002 := Aside0.mk (Kd.R_below (tR HO_476002) hb)
                     replace HO_476005 := Aside0.mk (Kd.N_below (tN HO_476005) hb)
                     replace BK475 := tbB BK475 hb
                     replace HB := Aside0.mk (below_step (tH1 HB GE475.out) hb)
                     (try clear hb)
                     (try clear hb2)
                     (try clear hk)
                     (try clear hi)
                     refine hK.out _ _ ⟨(blk_cell BK475.out 0).trans rfl, (blk_cell BK475.out 1).trans rfl, (blk_cell BK475.out 2).trans rfl, (blk_cell BK475.out 3).trans rfl, (blk_cell BK475.out 4).trans rfl, (blk_cell BK475.out 5).trans rfl, HS6_, HS7_, HS8_⟩ (fun hHeld => ?_)
                     clear hK K
                     refine nO (some 128) ?_
                     refine pV 26 (some 129) [27, 2] rfl rfl HT_ ?_
                     refine pV 27 (some 130) [28, 1] rfl rfl HT_ ?_
                     refine pV 28 (some 131) [29] rfl rfl HT_ ?_
                     refine done_ (done_of HT_.out (by kernel_rfl)) ?_
                     try go_wp2
                     go_roundg k3
                     case measure => have := HJ9.out; have := HJ27.out; have := HK3.out; omega
                     case rel => exact ⟨(wrap64 (x18_3 + 1)), tq, H', ⟨by have := HJ9.out; have := HJ27.out; have := HK3.out; omega⟩, ⟨tR HO_6⟩, ⟨tR HO_13⟩, ⟨tR HO_476001⟩, ⟨tR HO_476002⟩, ⟨tN HO_476005⟩, ⟨tB BK475⟩, ⟨tH1 HB GE475.out⟩⟩
                   replace c64 := Bool.eq_false_iff.mpr c64
                   subst c64
                   have H1 : (some false) = some r := by rw [if_neg (show ¬ (false = true) by decide)] at H; exact H
                   clear H
                   have H := H1
                   clear H1
                   obtain rfl := Option.some.inj H
                   try go_wp2
                   replace HO_6 := Aside0.mk (Kd.R_drew HO_6.out)
                   replace HO_13 := Aside0.mk (Kd.R_drew HO_13.out)
                   replace HO_476001 := Aside0.mk (Kd.R_drew HO_476001.out)
                   replace HO_476002 := Aside0.mk (Kd.R_drew HO_476002.out)
                   replace HO_476005 := Aside0.mk (Kd.N_drew HO_476005.out)
                   replace BK475 := Aside0.mk (blk_drew BK475.out)
                   replace HB := Aside0.mk (below_drew1 HB.out)
                   have p493 : 0 ≤ (0 : Int) := (by omega)
                   have q493 : 0 < (t476.length : Int) := of_decide_eq_true tA
                   obtain ⟨ad493, e493, hx493_0⟩ := Kd.at_int (Kd.R_reads' HO_6.out).2.2 0 p493 q493
                   cases e493
                   have qi493 : (0 < t476.length) = True := eq_true (by omega)
                   (try rw [t0n] at hx493_0)
                   (try rw [Addr.add_zero'] at hx493_0)
                   replace p493 := eq_true p493
                   replace q493 := eq_true q493
                   have p496 : 0 ≤ ((ji58) : Int) := of_decide_eq_true tA
                   have q496 : (ji58) < (t476.length : Int) := of_decide_eq_true tA
                   obtain ⟨ad496, e496, hx496_0⟩ := Kd.at_int (Kd.R_reads' HO_6.out).2.2 (ji58) p496 q496
                   obtain rfl : ad493 = ad496 := (by injection e496)
                   replace p496 := eq_true p496
                   replace q496 := eq_true q496
                   have p497 : 0 ≤ (x18_3 : Int) := of_decide_eq_true tA
                   have q497 : x18_3 < (t476.length : Int) := of_decide_eq_true tA
                   obtain ⟨ad497, e497, hx497_0⟩ := Kd.at_int (Kd.R_reads' HO_6.out).2.2 x18_3 p497 q497
                   obtain rfl : ad493 = ad497 := (by injection e497)
                   replace p497 := eq_true p497
                   replace q497 := eq_true q497
                   refine start_ (n := 29) (S := fun w' => w'.cell? ⟨gb475, 0, none⟩ = some (.string t463) ∧ w'.cell? ⟨gb475, 1, none⟩ = some (.slice Ao14 t464.length co14) ∧ w'.cell? ⟨gb475, 2, none⟩ = some (.slice Ao15 t467.length co15) ∧ w'.cell? ⟨gb475, 3, none⟩ = some (.int .i64 t470) ∧ w'.cell? ⟨gb475, 4, none⟩ = some (.int .i64 t471) ∧ w'.cell? ⟨gb475, 5, none⟩ = some (.slice Ao16 t472.length co16) ∧ w'.cell? ad493 = some (.int .i64 (rd t476 0)) ∧ w'.cell? (ad493.add ((ji58)).toNat) = some (.int .i64 (rd t476 (ji58))) ∧ w'.cell? (ad493.add (x18_3).toNat) = some (.int .i64 (rd t476 x18_3))) (ds := []) (bq [0, 29]) (by kernel_rfl) rfl rfl ⟨(blk_cell BK475.out 0).trans rfl, (blk_cell BK475.out 1).trans rfl, (blk_cell BK475.out 2).trans rfl, (blk_cell BK475.out 3).trans rfl, (blk_cell BK475.out 4).trans rfl, (blk_cell BK475.out 5).trans rfl, hx493_0, hx496_0, hx497_0⟩ (fun hHeld => ?_); refine with_tabW laws_FnMoves.tab24 laws_FnMoves.bits24 (fun HT_ HW_ => ?_)
                   generalize wr.drew = w68 at HO_6 HO_13 HO_476001 HO_476002 HO_476005 BK475 HB hx493_0 hx496_0 hx497_0 hHeld ⊢
                   refine pV 0 (some 103) [1, 28] rfl rfl HT_ ?_
                   refine pV 1 (some 104) [2, 27] rfl rfl HT_ ?_
                   refine pV 2 (some 105) [3, 26] rfl rfl HT_ ?_
                   refine pV 3 (some 106) [4, 25] rfl rfl HT_ ?_
                   refine pV 4 (some 107) [5, 24] rfl rfl HT_ ?_
                   refine pV 5 (some 108) [6, 23] rfl rfl HT_ ?_
                   refine pT 6 (some 109) (bq [7, 22]) rfl rfl HT_ HW_ hHeld ?_
                   refine pO 7 (some 110) (bq [8, 21]) rfl rfl HT_ (fun K hK => ?_)
                   refine gS_ Try.func87 #[.int .i64 (rd t476 0)] rfl rfl ?_
                   with_reducible refine (spec_ToneOf.calls (rd t476 0) t494 _ A54.out).mono ?_
                   rintro e w' ⟨rfl, ⟨nd, rfl⟩⟩
                   refine ⟨_, rfl, ?_⟩
                   obtain ⟨Ao69, co69, eo69⟩ := Kd.R_slice HO_13.out
                   (first | subst eo69 | (injection eo69 with f1_ f2_ f3_; have f4_ := f1_.symm; have f5_ := f3_.symm; clear f1_ f2_ f3_; subst f4_; subst f5_))
                   refine hK.out _ _ ⟨(blk_cell BK475.out 0).trans rfl, (blk_cell BK475.out 1).trans rfl, (blk_cell BK475.out 2).trans rfl, (blk_cell BK475.out 3).trans rfl, (blk_cell BK475.out 4).trans rfl, (blk_cell BK475.out 5).trans rfl, hHeld.2.2.2.2.2.2.1, hHeld.2.2.2.2.2.2.2.1, hHeld.2.2.2.2.2.2.2.2⟩ (fun hHeld => ?_)
                   clear hK K
                   refine nO (some 110) ?_
                   refine pO 8 (some 111) (bq [9, 20]) rfl rfl HT_ (fun K hK => ?_)
                   refine gS_ Try.func56 #[.slice Ao69 t485.length co69, .int .i64 t494] rfl rfl ?_
                   with_reducible refine (laws_r8Has.calls k3 _ _ t485 t494 true _ ?side1 ?side2 A55.out).mono ?_
                   (case side1 => exact tC (Kd.R_reads' HO_13.out).2.2)
                   (case side2 => exact (Kd.R_reads' HO_13.out).2.1)
                   rintro e w' ⟨rfl, ⟨nd, rfl⟩⟩
                   refine ⟨_, rfl, ?_⟩
                   refine hK.out _ _ ⟨(blk_cell BK475.out 0).trans rfl, (blk_cell BK475.out 1).trans rfl, (blk_cell BK475.out 2).trans rfl, (blk_cell BK475.out 3).trans rfl, (blk_cell BK475.out 4).trans rfl, (blk_cell BK475.out 5).trans rfl, hHeld.2.2.2.2.2.2.1, hHeld.2.2.2.2.2.2.2.1, hHeld.2.2.2.2.2.2.2.2⟩ (fun hHeld => ?_)
                   clear hK K
                   refine nO (some 111) ?_
                   refine pV 9 (some 112) [10, 19] rfl rfl HT_ ?_
                   refine pV 10 (some 113) [11, 18] rfl rfl HT_ ?_
                   refine pV 11 (some 114) [12, 17] rfl rfl HT_ ?_
                   refine pV 12 (some 115) [13, 16] rfl rfl HT_ ?_
                   refine pV 13 (some 116) [14, 15] rfl rfl HT_ ?_
                   refine pV 14 (some 117) [15, 14] rfl rfl HT_ ?_
                   refine pV 16 (some 119) [15, 1, 1, 12] rfl rfl HT_ ?_
                   refine pV 17 (some 120) [15, 1, 2, 11] rfl rfl HT_ ?_
                   refine pV 18 (some 121) [15, 1, 3, 10] rfl rfl HT_ ?_
                   refine pV 19 (some 122) [15, 1, 4, 9] rfl rfl HT_ ?_
                   refine pV 21 (some 124) [15, 1, 4, 1, 1, 7] rfl rfl HT_ ?_
                   refine pV 22 (some 125) [15, 1, 4, 1, 2, 6] rfl rfl HT_ ?_
                   refine pV 23 (some 126) [15, 1, 4, 1, 3, 5] rfl rfl HT_ ?_
                   refine pT 15 (some 118) (bq [20, 1, 3, 5]) rfl rfl HT_ HW_ hHeld ?_
                   refine pT 20 (some 123) (bq [24, 5]) rfl rfl HT_ HW_ hHeld ?_
                   refine pT 24 (some 127) (bq [25, 4]) rfl rfl HT_ HW_ hHeld ?_
                   refine pO 25 (some 128) (bq [26, 3]) rfl rfl HT_ (fun K hK => ?_)
                   refine goes_ Try.func88 (by kernel_rfl) rfl #[.agg #[.string t463, .slice Ao14 t464.length co14, .slice Ao15 t467.length co15, .int .i64 t470, .int .i64 t471, .slice Ao16 t472.length co16], .int .i64 (rd t476 (ji58)), .int .i64 (rd t476 x18_3)] (by rfl) rfl rfl (by (try simp only [List.map_toArray, List.map_cons, List.map_nil]); first | done | (simp only [hji58]; rfl) | rfl | (simp only [List.length_drop, List.length_take]; rfl)) ?_
                   with_reducible refine (spec_IsAllowed.calls k3 t463 _ _ t464 _ _ t467 t470 t471 _ _ t472 (rd t476 (ji58)) (rd t476 x18_3) false _ ?side1 ?side2 ?side3 ?side4 ?side5 ?side6 A63.out).mono ?_
                   (case side1 => exact tC (Kd.R_reads' HO_476001.out).2.2)
                   (case side2 => exact (Kd.R_reads' HO_476001.out).2.1)
                   (case side3 => exact tC (Kd.R_reads' HO_476002.out).2.2)
                   (case side4 => exact (Kd.R_reads' HO_476002.out).2.1)
                   (case side5 => repeat (first | exact (Kd.N_reads' HO_476005.out).2.2 | (with_reducible refine Kd.C_alloc ?_ _) | (with_reducible refine Kd.C_drewN ?_ _) | (with_reducible refine Kd.C_drew ?_)))
                   (case side6 => exact (Kd.N_reads' HO_476005.out).2.1)
                   rintro e w70 ⟨rfl, hb⟩
                   have HS6_ := (hb.cell (World.block_lt_of_cell? _ _ (hHeld.2.2.2.2.2.2.1))).trans (hHeld.2.2.2.2.2.2.1)
                   have HS7_ := (hb.cell (World.block_lt_of_cell? _ _ (hHeld.2.2.2.2.2.2.2.1))).trans (hHeld.2.2.2.2.2.2.2.1)
                   have HS8_ := (hb.cell (World.block_lt_of_cell? _ _ (hHeld.2.2.2.2.2.2.2.2))).trans (hHeld.2.2.2.2.2.2.2.2)
                   refine ⟨_, rfl, ?_⟩
                   replace HO_6 := Aside0.mk (Kd.R_below (tR HO_6) hb)
                   replace HO_13 := Aside0.mk (Kd.R_below (tR HO_13) hb)
                   replace HO_476001 := Aside0.mk (Kd.R_below (tR HO_476001) hb)
                   replace HO_476002 := Aside0.mk (Kd.R_below (tR HO_476002) hb)
                   replace HO_476005 := Aside0.mk (Kd.N_below (tN HO_476005) hb)
                   replace BK475 := tbB BK475 hb
                   replace HB := Aside0.mk (below_step (tH1 HB GE475.out) hb)
                   (try clear hb)
                   (try clear hb2)
                   (try clear hk)
                   (try clear hi)
                   refine hK.out _ _ ⟨(blk_cell BK475.out 0).trans rfl, (blk_cell BK475.out 1).trans rfl, (blk_cell BK475.out 2).trans rfl, (blk_cell BK475.out 3).trans rfl, (blk_cell BK475.out 4).trans rfl, (blk_cell BK475.out 5).trans rfl, HS6_, HS7_, HS8_⟩ (fun hHeld => ?_)
                   clear hK K
                   refine nO (some 128) ?_
                   refine pV 26 (some 129) [27, 2] rfl rfl HT_ ?_
                   refine pV 27 (some 130) [28, 1] rfl rfl HT_ ?_
                   refine pV 28 (some 131) [29] rfl rfl HT_ ?_
                   refine done_ (done_of HT_.out (by kernel_rfl)) ?_
                   try go_wp2
                   go_ret
                   exact ⟨by first | rfl | (simp [errW_none, errW_some] <;> rfl) | (simp only [← hji58]; first | rfl | (simp [errW_none, errW_some] <;> rfl)) | (simp [*, errW_none, errW_some] <;> rfl), tH1 HB GE475.out⟩
                 rw [if_neg c62] at H
                 exact absurd H (by simp)
               rw [if_neg c61] at H
               exact absurd H (by simp)
             rw [if_neg c60] at H
             exact absurd H (by simp)
           rw [if_neg c59] at H
           exact absurd H (by simp)
         rw [if_neg c57] at H
         have c57b0 : decide (0 < x18_3) = false := decide_eq_false c57
         clear c57
         have H' := Aside0.mk H
         clear H
         try go_wp2
         replace HO_6 := Aside0.mk (Kd.R_drew HO_6.out)
         replace HO_13 := Aside0.mk (Kd.R_drew HO_13.out)
         replace HO_476001 := Aside0.mk (Kd.R_drew HO_476001.out)
         replace HO_476002 := Aside0.mk (Kd.R_drew HO_476002.out)
         replace HO_476005 := Aside0.mk (Kd.N_drew HO_476005.out)
         replace BK475 := Aside0.mk (blk_drew BK475.out)
         replace HB := Aside0.mk (below_drew1 HB.out)
         have p493 : 0 ≤ (0 : Int) := (by omega)
         have q493 : 0 < (t476.length : Int) := of_decide_eq_true tA
         obtain ⟨ad493, e493, hx493_0⟩ := Kd.at_int (Kd.R_reads' HO_6.out).2.2 0 p493 q493
         cases e493
         have qi493 : (0 < t476.length) = True := eq_true (by omega)
         (try rw [t0n] at hx493_0)
         (try rw [Addr.add_zero'] at hx493_0)
         replace p493 := eq_true p493
         replace q493 := eq_true q493
         refine start_ (n := 29) (S := fun w' => w'.cell? ad493 = some (.int .i64 (rd t476 0))) (ds := []) (bq [0, 29]) (by kernel_rfl) rfl rfl (hx493_0) (fun hHeld => ?_); refine with_tabW laws_FnMoves.tab24 laws_FnMoves.bits24 (fun HT_ HW_ => ?_)
         generalize wr.drew = w71 at HO_6 HO_13 HO_476001 HO_476002 HO_476005 BK475 HB hx493_0 hHeld ⊢
         refine pV 0 (some 103) [1, 28] rfl rfl HT_ ?_
         refine pV 1 (some 104) [2, 27] rfl rfl HT_ ?_
         refine pV 2 (some 105) [3, 26] rfl rfl HT_ ?_
         refine pV 3 (some 106) [4, 25] rfl rfl HT_ ?_
         refine pV 4 (some 107) [5, 24] rfl rfl HT_ ?_
         refine pV 5 (some 108) [6, 23] rfl rfl HT_ ?_
         refine pT 6 (some 109) (bq [7, 22]) rfl rfl HT_ HW_ hHeld ?_
         refine pO 7 (some 110) (bq [8, 21]) rfl rfl HT_ (fun K hK => ?_)
         refine gS_ Try.func87 #[.int .i64 (rd t476 0)] rfl rfl ?_
         with_reducible refine (spec_ToneOf.calls (rd t476 0) t494 _ A54.out).mono ?_
         rintro e w' ⟨rfl, ⟨nd, rfl⟩⟩
         refine ⟨_, rfl, ?_⟩
         obtain ⟨Ao72, co72, eo72⟩ := Kd.R_slice HO_13.out
         (first | subst eo72 | (injection eo72 with f1_ f2_ f3_; have f4_ := f1_.symm; have f5_ := f3_.symm; clear f1_ f2_ f3_; subst f4_; subst f5_))
         refine hK.out _ _ (hHeld) (fun hHeld => ?_)
         clear hK K
         refine nO (some 110) ?_
         refine pO 8 (some 111) (bq [9, 20]) rfl rfl HT_ (fun K hK => ?_)
         refine gS_ Try.func56 #[.slice Ao72 t485.length co72, .int .i64 t494] rfl rfl ?_
         with_reducible refine (laws_r8Has.calls k3 _ _ t485 t494 true _ ?side1 ?side2 A55.out).mono ?_
         (case side1 => exact tC (Kd.R_reads' HO_13.out).2.2)
         (case side2 => exact (Kd.R_reads' HO_13.out).2.1)
         rintro e w' ⟨rfl, ⟨nd, rfl⟩⟩
         refine ⟨_, rfl, ?_⟩
         refine hK.out _ _ (hHeld) (fun hHeld => ?_)
         clear hK K
         refine nO (some 111) ?_
         refine pV 9 (some 112) [10, 19] rfl rfl HT_ ?_
         refine pV 10 (some 113) [11, 18] rfl rfl HT_ ?_
         refine pV 11 (some 114) [12, 17] rfl rfl HT_ ?_
         refine pV 12 (some 115) [13, 16] rfl rfl HT_ ?_
         refine pV 13 (some 116) [14, 15] rfl rfl HT_ ?_
         refine pV 14 (some 117) [15, 14] rfl rfl HT_ ?_
         refine pU 15 (some 118) [16, 13] rfl rfl HT_ ?_
         refine pU 16 (some 119) [17, 12] rfl rfl HT_ ?_
         refine pU 17 (some 120) [18, 11] rfl rfl HT_ ?_
         refine pU 18 (some 121) [19, 10] rfl rfl HT_ ?_
         refine pU 19 (some 122) [20, 9] rfl rfl HT_ ?_
         refine pU 20 (some 123) [21, 8] rfl rfl HT_ ?_
         refine pU 21 (some 124) [22, 7] rfl rfl HT_ ?_
         refine pU 22 (some 125) [23, 6] rfl rfl HT_ ?_
         refine pU 23 (some 126) [24, 5] rfl rfl HT_ ?_
         refine pU 24 (some 127) [25, 4] rfl rfl HT_ ?_
         refine pU 25 (some 128) [26, 3] rfl rfl HT_ ?_
         refine pU 26 (some 129) [27, 2] rfl rfl HT_ ?_
         refine pV 27 (some 130) [28, 1] rfl rfl HT_ ?_
         refine pV 28 (some 131) [29] rfl rfl HT_ ?_
         refine done_ (done_of HT_.out (by kernel_rfl)) ?_
         try go_wp2
         go_roundg k3
         case measure => have := HJ9.out; have := HJ27.out; have := HK3.out; omega
         case rel => exact ⟨(wrap64 (x18_3 + 1)), tq, H', ⟨by have := HJ9.out; have := HJ27.out; have := HK3.out; omega⟩, ⟨tR HO_6⟩, ⟨tR HO_13⟩, ⟨tR HO_476001⟩, ⟨tR HO_476002⟩, ⟨tN HO_476005⟩, ⟨tB BK475⟩, ⟨tH1 HB GE475.out⟩⟩
       replace c56 := Bool.eq_false_iff.mpr c56
       subst c56
       have H1 : (some false) = some r := by rw [if_neg (show ¬ (false = true) by decide)] at H; exact H
       clear H
       have H := H1
       clear H1
       obtain rfl := Option.some.inj H
       try go_wp2
       replace HO_6 := Aside0.mk (Kd.R_drew HO_6.out)
       replace HO_13 := Aside0.mk (Kd.R_drew HO_13.out)
       replace HO_476001 := Aside0.mk (Kd.R_drew HO_476001.out)
       replace HO_476002 := Aside0.mk (Kd.R_drew HO_476002.out)
       replace HO_476005 := Aside0.mk (Kd.N_drew HO_476005.out)
       replace BK475 := Aside0.mk (blk_drew BK475.out)
       replace HB := Aside0.mk (below_drew1 HB.out)
       have p493 : 0 ≤ (0 : Int) := (by omega)
       have q493 : 0 < (t476.length : Int) := of_decide_eq_true tA
       obtain ⟨ad493, e493, hx493_0⟩ := Kd.at_int (Kd.R_reads' HO_6.out).2.2 0 p493 q493
       cases e493
       have qi493 : (0 < t476.length) = True := eq_true (by omega)
       (try rw [t0n] at hx493_0)
       (try rw [Addr.add_zero'] at hx493_0)
       replace p493 := eq_true p493
       replace q493 := eq_true q493
       refine start_ (n := 29) (S := fun w' => w'.cell? ad493 = some (.int .i64 (rd t476 0))) (ds := []) (bq [0, 29]) (by kernel_rfl) rfl rfl (hx493_0) (fun hHeld => ?_); refine with_tabW laws_FnMoves.tab24 laws_FnMoves.bits24 (fun HT_ HW_ => ?_)
       generalize wr.drew = w73 at HO_6 HO_13 HO_476001 HO_476002 HO_476005 BK475 HB hx493_0 hHeld ⊢
       refine pV 0 (some 103) [1, 28] rfl rfl HT_ ?_
       refine pV 1 (some 104) [2, 27] rfl rfl HT_ ?_
       refine pV 2 (some 105) [3, 26] rfl rfl HT_ ?_
       refine pV 3 (some 106) [4, 25] rfl rfl HT_ ?_
       refine pV 4 (some 107) [5, 24] rfl rfl HT_ ?_
       refine pV 5 (some 108) [6, 23] rfl rfl HT_ ?_
       refine pT 6 (some 109) (bq [7, 22]) rfl rfl HT_ HW_ hHeld ?_
       refine pO 7 (some 110) (bq [8, 21]) rfl rfl HT_ (fun K hK => ?_)
       refine gS_ Try.func87 #[.int .i64 (rd t476 0)] rfl rfl ?_
       with_reducible refine (spec_ToneOf.calls (rd t476 0) t494 _ A54.out).mono ?_
       rintro e w' ⟨rfl, ⟨nd, rfl⟩⟩
       refine ⟨_, rfl, ?_⟩
       obtain ⟨Ao74, co74, eo74⟩ := Kd.R_slice HO_13.out
       (first | subst eo74 | (injection eo74 with f1_ f2_ f3_; have f4_ := f1_.symm; have f5_ := f3_.symm; clear f1_ f2_ f3_; subst f4_; subst f5_))
       refine hK.out _ _ (hHeld) (fun hHeld => ?_)
       clear hK K
       refine nO (some 110) ?_
       refine pO 8 (some 111) (bq [9, 20]) rfl rfl HT_ (fun K hK => ?_)
       refine gS_ Try.func56 #[.slice Ao74 t485.length co74, .int .i64 t494] rfl rfl ?_
       with_reducible refine (laws_r8Has.calls k3 _ _ t485 t494 false _ ?side1 ?side2 A55.out).mono ?_
       (case side1 => exact tC (Kd.R_reads' HO_13.out).2.2)
       (case side2 => exact (Kd.R_reads' HO_13.out).2.1)
       rintro e w' ⟨rfl, ⟨nd, rfl⟩⟩
       refine ⟨_, rfl, ?_⟩
       refine hK.out _ _ (hHeld) (fun hHeld => ?_)
       clear hK K
       refine nO (some 111) ?_
       refine pV 9 (some 112) [10, 19] rfl rfl HT_ ?_
       refine pV 10 (some 113) [11, 18] rfl rfl HT_ ?_
       refine pV 11 (some 114) [12, 17] rfl rfl HT_ ?_
       refine pU 12 (some 115) [13, 16] rfl rfl HT_ ?_
       refine pU 13 (some 116) [14, 15] rfl rfl HT_ ?_
       refine pU 14 (some 117) [15, 14] rfl rfl HT_ ?_
       refine pU 15 (some 118) [16, 13] rfl rfl HT_ ?_
       refine pU 16 (some 119) [17, 12] rfl rfl HT_ ?_
       refine pU 17 (some 120) [18, 11] rfl rfl HT_ ?_
       refine pU 18 (some 121) [19, 10] rfl rfl HT_ ?_
       refine pU 19 (some 122) [20, 9] rfl rfl HT_ ?_
       refine pU 20 (some 123) [21, 8] rfl rfl HT_ ?_
       refine pU 21 (some 124) [22, 7] rfl rfl HT_ ?_
       refine pU 22 (some 125) [23, 6] rfl rfl HT_ ?_
       refine pU 23 (some 126) [24, 5] rfl rfl HT_ ?_
       refine pU 24 (some 127) [25, 4] rfl rfl HT_ ?_
       refine pU 25 (some 128) [26, 3] rfl rfl HT_ ?_
       refine pU 26 (some 129) [27, 2] rfl rfl HT_ ?_
       refine pU 27 (some 130) [28, 1] rfl rfl HT_ ?_
       refine pV 28 (some 131) [29] rfl rfl HT_ ?_
       refine done_ (done_of HT_.out (by kernel_rfl)) ?_
       try go_wp2
       go_ret
       exact ⟨tE, tH1 HB GE475.out⟩
     rw [if_neg c53] at H
     exact absurd H (by simp)
   rw [if_neg c52] at H
   have c52b0 : (x18_3 == 0) = false := beq_eq_false_iff_ne.mpr c52
   have c52b1 : (x18_3 != 0) = true := bne_iff_ne.mpr c52
   by_cases c75 : x18_3 > 0
   · rw [if_pos c75] at H
     have c75b0 : decide (0 < x18_3) = true := decide_eq_true c75
     clear c75
     obtain ⟨ji76, hji76⟩ : ∃ j_ : Int, (wrap64 (x18_3 - 1)) = j_ := ⟨_, rfl⟩
     replace H : (if 0 ≤ (ji76) then (if (ji76) < (t476.length : Int) then (if 0 ≤ x18_3 then (if x18_3 < (t476.length : Int) then ((spec_IsAllowed.f k3 t463 t464 t467 t470 t471 t472 (rd t476 (ji76)) (rd t476 x18_3)).bind fun t501 => (if t501 = true then (laws_FnMoves.l0 k3 t476 t482 t483 t485 x15_27 (wrap64 (x18_3 + 1)) t463 t464 t467 t470 t471 t472) else (some false))) else (none)) else (none)) else (none)) else (none)) = some r := by first | (rw [hji76] at H; exact H) | (simp only [hji76] at H ⊢; exact H)
     have hji76w : (IntKind.i64.wrap (x18_3 - 1)) = ji76 := (i64_w _).trans hji76
     by_cases c77 : 0 ≤ (ji76)
     · rw [if_pos c77] at H
       have c77b0 : decide (0 ≤ (ji76)) = true := decide_eq_true c77
       clear c77
       by_cases c78 : (ji76) < (t476.length : Int)
       · rw [if_pos c78] at H
         have c78b0 : decide ((ji76) < (t476.length : Int)) = true := decide_eq_true c78
         clear c78
         by_cases c79 : 0 ≤ x18_3
         · rw [if_pos c79] at H
           have c79b0 : decide (0 ≤ x18_3) = true := decide_eq_true c79
           clear c79
           by_cases c80 : x18_3 < (t476.length : Int)
           · rw [if_pos c80] at H
             have c80b0 : decide (x18_3 < (t476.length : Int)) = true := decide_eq_true c80
             clear c80
             replace H := Option.bind_eq_some_iff.mp H
             obtain ⟨t501, A810, H⟩ := H
             replace H : (if t501 = true then (laws_FnMoves.l0 k3 t476 t482 t483 t485 x15_27 (wrap64 (x18_3 + 1)) t463 t464 t467 t470 t471 t472) else (some false)) = some r := H
             have A81 := Aside0.mk A810
             clear A810
             by_cases c82 : t501 = true
             · subst c82
               have H1 : (laws_FnMoves.l0 k3 t476 t482 t483 t485 x15_27 (wrap64 (x18_3 + 1)) t463 t464 t467 t470 t471 t472) = some r := by rw [if_pos rfl] at H; exact H
               clear H
               have H := H1
               clear H1
               have H' := Aside0.mk H
               clear H
               try go_wp2
               replace HO_6 := Aside0.mk (Kd.R_drew HO_6.out)
               replace HO_13 := Aside0.mk (Kd.R_drew HO_13.out)
               replace HO_476001 := Aside0.mk (Kd.R_drew HO_476001.out)
               replace HO_476002 := Aside0.mk (Kd.R_drew HO_476002.out)
               replace HO_476005 := Aside0.mk (Kd.N_drew HO_476005.out)
               replace BK475 := Aside0.mk (blk_drew BK475.out)
               replace HB := Aside0.mk (below_drew1 HB.out)
               have p499 : 0 ≤ ((ji76) : Int) := of_decide_eq_true tA
               have q499 : (ji76) < (t476.length : Int) := of_decide_eq_true tA
               obtain ⟨ad499, e499, hx499_0⟩ := Kd.at_int (Kd.R_reads' HO_6.out).2.2 (ji76) p499 q499
               cases e499
               replace p499 := eq_true p499
               replace q499 := eq_true q499
               have p500 : 0 ≤ (x18_3 : Int) := of_decide_eq_true tA
               have q500 : x18_3 < (t476.length : Int) := of_decide_eq_true tA
               obtain ⟨ad500, e500, hx500_0⟩ := Kd.at_int (Kd.R_reads' HO_6.out).2.2 x18_3 p500 q500
               obtain rfl : ad499 = ad500 := (by injection e500)
               replace p500 := eq_true p500
               replace q500 := eq_true q500
               refine start_ (n := 29) (S := fun w' => w'.cell? ⟨gb475, 0, none⟩ = some (.string t463) ∧ w'.cell? ⟨gb475, 1, none⟩ = some (.slice Ao14 t464.length co14) ∧ w'.cell? ⟨gb475, 2, none⟩ = some (.slice Ao15 t467.length co15) ∧ w'.cell? ⟨gb475, 3, none⟩ = some (.int .i64 t470) ∧ w'.cell? ⟨gb475, 4, none⟩ = some (.int .i64 t471) ∧ w'.cell? ⟨gb475, 5, none⟩ = some (.slice Ao16 t472.length co16) ∧ w'.cell? (ad499.add ((ji76)).toNat) = some (.int .i64 (rd t476 (ji76))) ∧ w'.cell? (ad499.add (x18_3).toNat) = some (.int .i64 (rd t476 x18_3))) (ds := []) (bq [0, 29]) (by kernel_rfl) rfl rfl ⟨(blk_cell BK475.out 0).trans rfl, (blk_cell BK475.out 1).trans rfl, (blk_cell BK475.out 2).trans rfl, (blk_cell BK475.out 3).trans rfl, (blk_cell BK475.out 4).trans rfl, (blk_cell BK475.out 5).trans rfl, hx499_0, hx500_0⟩ (fun hHeld => ?_); refine with_tabW laws_FnMoves.tab24 laws_FnMoves.bits24 (fun HT_ HW_ => ?_)
               generalize wr.drew = w83 at HO_6 HO_13 HO_476001 HO_476002 HO_476005 BK475 HB hx499_0 hx500_0 hHeld ⊢
               refine pV 0 (some 103) [1, 28] rfl rfl HT_ ?_
               refine pV 1 (some 104) [2, 27] rfl rfl HT_ ?_
               refine pV 2 (some 105) [3, 26] rfl rfl HT_ ?_
               refine pU 3 (some 106) [4, 25] rfl rfl HT_ ?_
               refine pU 4 (some 107) [5, 24] rfl rfl HT_ ?_
               refine pU 5 (some 108) [6, 23] rfl rfl HT_ ?_
               refine pU 6 (some 109) [7, 22] rfl rfl HT_ ?_
               refine pU 7 (some 110) [8, 21] rfl rfl HT_ ?_
               refine pU 8 (some 111) [9, 20] rfl rfl HT_ ?_
               refine pU 9 (some 112) [10, 19] rfl rfl HT_ ?_
               refine pV 10 (some 113) [11, 18] rfl rfl HT_ ?_
               refine pV 11 (some 114) [12, 17] rfl rfl HT_ ?_
               refine pV 12 (some 115) [13, 16] rfl rfl HT_ ?_
               refine pV 13 (some 116) [14, 15] rfl rfl HT_ ?_
               refine pV 14 (some 117) [15, 14] rfl rfl HT_ ?_
               refine pV 16 (some 119) [15, 1, 1, 12] rfl rfl HT_ ?_
               refine pV 17 (some 120) [15, 1, 2, 11] rfl rfl HT_ ?_
               refine pV 18 (some 121) [15, 1, 3, 10] rfl rfl HT_ ?_
               refine pV 19 (some 122) [15, 1, 4, 9] rfl rfl HT_ ?_
               refine pV 21 (some 124) [15, 1, 4, 1, 1, 7] rfl rfl HT_ ?_
               refine pV 22 (some 125) [15, 1, 4, 1, 2, 6] rfl rfl HT_ ?_
               refine pV 23 (some 126) [15, 1, 4, 1, 3, 5] rfl rfl HT_ ?_
               refine pT 15 (some 118) (bq [20, 1, 3, 5]) rfl rfl HT_ HW_ hHeld ?_
               refine pT 20 (some 123) (bq [24, 5]) rfl rfl HT_ HW_ hHeld ?_
               refine pT 24 (some 127) (bq [25, 4]) rfl rfl HT_ HW_ hHeld ?_
               refine pO 25 (some 128) (bq [26, 3]) rfl rfl HT_ (fun K hK => ?_)
               refine goes_ Try.func88 (by kernel_rfl) rfl #[.agg #[.string t463, .slice Ao14 t464.length co14, .slice Ao15 t467.length co15, .int .i64 t470, .int .i64 t471, .slice Ao16 t472.length co16], .int .i64 (rd t476 (ji76)), .int .i64 (rd t476 x18_3)] (by rfl) rfl rfl (by (try simp only [List.map_toArray, List.map_cons, List.map_nil]); first | done | (simp only [hji76]; rfl) | rfl | (simp only [List.length_drop, List.length_take]; rfl)) ?_
               with_reducible refine (spec_IsAllowed.calls k3 t463 _ _ t464 _ _ t467 t470 t471 _ _ t472 (rd t476 (ji76)) (rd t476 x18_3) true _ ?side1 ?side2 ?side3 ?side4 ?side5 ?side6 A81.out).mono ?_
               (case side1 => exact tC (Kd.R_reads' HO_476001.out).2.2)
               (case side2 => exact (Kd.R_reads' HO_476001.out).2.1)
               (case side3 => exact tC (Kd.R_reads' HO_476002.out).2.2)
               (case side4 => exact (Kd.R_reads' HO_476002.out).2.1)
               (case side5 => repeat (first | exact (Kd.N_reads' HO_476005.out).2.2 | (with_reducible refine Kd.C_alloc ?_ _) | (with_reducible refine Kd.C_drewN ?_ _) | (with_reducible refine Kd.C_drew ?_)))
               (case side6 => exact (Kd.N_reads' HO_476005.out).2.1)
               rintro e w84 ⟨rfl, hb⟩
               have HS6_ := (hb.cell (World.block_lt_of_cell? _ _ (hHeld.2.2.2.2.2.2.1))).trans (hHeld.2.2.2.2.2.2.1)
               have HS7_ := (hb.cell (World.block_lt_of_cell? _ _ (hHeld.2.2.2.2.2.2.2))).trans (hHeld.2.2.2.2.2.2.2)
               refine ⟨_, rfl, ?_⟩
               replace HO_6 := Aside0.mk (Kd.R_below (tR HO_6) hb)
               replace HO_13 := Aside0.mk (Kd.R_below (tR HO_13) hb)
               replace HO_476001 := Aside0.mk (Kd.R_below (tR HO_476001) hb)
               replace HO_476002 := Aside0.mk (Kd.R_below (tR HO_476002) hb)
               replace HO_476005 := Aside0.mk (Kd.N_below (tN HO_476005) hb)
               replace BK475 := tbB BK475 hb
               replace HB := Aside0.mk (below_step (tH1 HB GE475.out) hb)
               (try clear hb)
               (try clear hb2)
               (try clear hk)
               (try clear hi)
               refine hK.out _ _ ⟨(blk_cell BK475.out 0).trans rfl, (blk_cell BK475.out 1).trans rfl, (blk_cell BK475.out 2).trans rfl, (blk_cell BK475.out 3).trans rfl, (blk_cell BK475.out 4).trans rfl, (blk_cell BK475.out 5).trans rfl, HS6_, HS7_⟩ (fun hHeld => ?_)
               clear hK K
               refine nO (some 128) ?_
               refine pV 26 (some 129) [27, 2] rfl rfl HT_ ?_
               refine pV 27 (some 130) [28, 1] rfl rfl HT_ ?_
               refine pV 28 (some 131) [29] rfl rfl HT_ ?_
               refine done_ (done_of HT_.out (by kernel_rfl)) ?_
               try go_wp2
               go_roundg k3
               case measure => have := HJ9.out; have := HJ27.out; have := HK3.out; omega
               case rel => exact ⟨(wrap64 (x18_3 + 1)), tq, H', ⟨by have := HJ9.out; have := HJ27.out; have := HK3.out; omega⟩, ⟨tR HO_6⟩, ⟨tR HO_13⟩, ⟨tR HO_476001⟩, ⟨tR HO_476002⟩, ⟨tN HO_476005⟩, ⟨tB BK475⟩, ⟨tH1 HB GE475.out⟩⟩
             replace c82 := Bool.eq_false_iff.mpr c82
             subst c82
             have H1 : (some false) = some r := by rw [if_neg (show ¬ (false = true) by decide)] at H; exact H
             clear H
             have H := H1
             clear H1
             obtain rfl := Option.some.inj H
             try go_wp2
             replace HO_6 := Aside0.mk (Kd.R_drew HO_6.out)
             replace HO_13 := Aside0.mk (Kd.R_drew HO_13.out)
             replace HO_476001 := Aside0.mk (Kd.R_drew HO_476001.out)
             replace HO_476002 := Aside0.mk (Kd.R_drew HO_476002.out)
             replace HO_476005 := Aside0.mk (Kd.N_drew HO_476005.out)
             replace BK475 := Aside0.mk (blk_drew BK475.out)
             replace HB := Aside0.mk (below_drew1 HB.out)
             have p499 : 0 ≤ ((ji76) : Int) := of_decide_eq_true tA
             have q499 : (ji76) < (t476.length : Int) := of_decide_eq_true tA
             obtain ⟨ad499, e499, hx499_0⟩ := Kd.at_int (Kd.R_reads' HO_6.out).2.2 (ji76) p499 q499
             cases e499
             replace p499 := eq_true p499
             replace q499 := eq_true q499
             have p500 : 0 ≤ (x18_3 : Int) := of_decide_eq_true tA
             have q500 : x18_3 < (t476.length : Int) := of_decide_eq_true tA
             obtain ⟨ad500, e500, hx500_0⟩ := Kd.at_int (Kd.R_reads' HO_6.out).2.2 x18_3 p500 q500
             obtain rfl : ad499 = ad500 := (by injection e500)
             replace p500 := eq_true p500
             replace q500 := eq_true q500
             refine start_ (n := 29) (S := fun w' => w'.cell? ⟨gb475, 0, none⟩ = some (.string t463) ∧ w'.cell? ⟨gb475, 1, none⟩ = some (.slice Ao14 t464.length co14) ∧ w'.cell? ⟨gb475, 2, none⟩ = some (.slice Ao15 t467.length co15) ∧ w'.cell? ⟨gb475, 3, none⟩ = some (.int .i64 t470) ∧ w'.cell? ⟨gb475, 4, none⟩ = some (.int .i64 t471) ∧ w'.cell? ⟨gb475, 5, none⟩ = some (.slice Ao16 t472.length co16) ∧ w'.cell? (ad499.add ((ji76)).toNat) = some (.int .i64 (rd t476 (ji76))) ∧ w'.cell? (ad499.add (x18_3).toNat) = some (.int .i64 (rd t476 x18_3))) (ds := []) (bq [0, 29]) (by kernel_rfl) rfl rfl ⟨(blk_cell BK475.out 0).trans rfl, (blk_cell BK475.out 1).trans rfl, (blk_cell BK475.out 2).trans rfl, (blk_cell BK475.out 3).trans rfl, (blk_cell BK475.out 4).trans rfl, (blk_cell BK475.out 5).trans rfl, hx499_0, hx500_0⟩ (fun hHeld => ?_); refine with_tabW laws_FnMoves.tab24 laws_FnMoves.bits24 (fun HT_ HW_ => ?_)
             generalize wr.drew = w85 at HO_6 HO_13 HO_476001 HO_476002 HO_476005 BK475 HB hx499_0 hx500_0 hHeld ⊢
             refine pV 0 (some 103) [1, 28] rfl rfl HT_ ?_
             refine pV 1 (some 104) [2, 27] rfl rfl HT_ ?_
             refine pV 2 (some 105) [3, 26] rfl rfl HT_ ?_
             refine pU 3 (some 106) [4, 25] rfl rfl HT_ ?_
             refine pU 4 (some 107) [5, 24] rfl rfl HT_ ?_
             refine pU 5 (some 108) [6, 23] rfl rfl HT_ ?_
             refine pU 6 (some 109) [7, 22] rfl rfl HT_ ?_
             refine pU 7 (some 110) [8, 21] rfl rfl HT_ ?_
             refine pU 8 (some 111) [9, 20] rfl rfl HT_ ?_
             refine pU 9 (some 112) [10, 19] rfl rfl HT_ ?_
             refine pV 10 (some 113) [11, 18] rfl rfl HT_ ?_
             refine pV 11 (some 114) [12, 17] rfl rfl HT_ ?_
             refine pV 12 (some 115) [13, 16] rfl rfl HT_ ?_
             refine pV 13 (some 116) [14, 15] rfl rfl HT_ ?_
             refine pV 14 (some 117) [15, 14] rfl rfl HT_ ?_
             refine pV 16 (some 119) [15, 1, 1, 12] rfl rfl HT_ ?_
             refine pV 17 (some 120) [15, 1, 2, 11] rfl rfl HT_ ?_
             refine pV 18 (some 121) [15, 1, 3, 10] rfl rfl HT_ ?_
             refine pV 19 (some 122) [15, 1, 4, 9] rfl rfl HT_ ?_
             refine pV 21 (some 124) [15, 1, 4, 1, 1, 7] rfl rfl HT_ ?_
             refine pV 22 (some 125) [15, 1, 4, 1, 2, 6] rfl rfl HT_ ?_
             refine pV 23 (some 126) [15, 1, 4, 1, 3, 5] rfl rfl HT_ ?_
             refine pT 15 (some 118) (bq [20, 1, 3, 5]) rfl rfl HT_ HW_ hHeld ?_
             refine pT 20 (some 123) (bq [24, 5]) rfl rfl HT_ HW_ hHeld ?_
             refine pT 24 (some 127) (bq [25, 4]) rfl rfl HT_ HW_ hHeld ?_
             refine pO 25 (some 128) (bq [26, 3]) rfl rfl HT_ (fun K hK => ?_)
             refine goes_ Try.func88 (by kernel_rfl) rfl #[.agg #[.string t463, .slice Ao14 t464.length co14, .slice Ao15 t467.length co15, .int .i64 t470, .int .i64 t471, .slice Ao16 t472.length co16], .int .i64 (rd t476 (ji76)), .int .i64 (rd t476 x18_3)] (by rfl) rfl rfl (by (try simp only [List.map_toArray, List.map_cons, List.map_nil]); first | done | (simp only [hji76]; rfl) | rfl | (simp only [List.length_drop, List.length_take]; rfl)) ?_
             with_reducible refine (spec_IsAllowed.calls k3 t463 _ _ t464 _ _ t467 t470 t471 _ _ t472 (rd t476 (ji76)) (rd t476 x18_3) false _ ?side1 ?side2 ?side3 ?side4 ?side5 ?side6 A81.out).mono ?_
             (case side1 => exact tC (Kd.R_reads' HO_476001.out).2.2)
             (case side2 => exact (Kd.R_reads' HO_476001.out).2.1)
             (case side3 => exact tC (Kd.R_reads' HO_476002.out).2.2)
             (case side4 => exact (Kd.R_reads' HO_476002.out).2.1)
             (case side5 => repeat (first | exact (Kd.N_reads' HO_476005.out).2.2 | (with_reducible refine Kd.C_alloc ?_ _) | (with_reducible refine Kd.C_drewN ?_ _) | (with_reducible refine Kd.C_drew ?_)))
             (case side6 => exact (Kd.N_reads' HO_476005.out).2.1)
             rintro e w86 ⟨rfl, hb⟩
             have HS6_ := (hb.cell (World.block_lt_of_cell? _ _ (hHeld.2.2.2.2.2.2.1))).trans (hHeld.2.2.2.2.2.2.1)
             have HS7_ := (hb.cell (World.block_lt_of_cell? _ _ (hHeld.2.2.2.2.2.2.2))).trans (hHeld.2.2.2.2.2.2.2)
             refine ⟨_, rfl, ?_⟩
             replace HO_6 := Aside0.mk (Kd.R_below (tR HO_6) hb)
             replace HO_13 := Aside0.mk (Kd.R_below (tR HO_13) hb)
             replace HO_476001 := Aside0.mk (Kd.R_below (tR HO_476001) hb)
             replace HO_476002 := Aside0.mk (Kd.R_below (tR HO_476002) hb)
             replace HO_476005 := Aside0.mk (Kd.N_below (tN HO_476005) hb)
             replace BK475 := tbB BK475 hb
             replace HB := Aside0.mk (below_step (tH1 HB GE475.out) hb)
             (try clear hb)
             (try clear hb2)
             (try clear hk)
             (try clear hi)
             refine hK.out _ _ ⟨(blk_cell BK475.out 0).trans rfl, (blk_cell BK475.out 1).trans rfl, (blk_cell BK475.out 2).trans rfl, (blk_cell BK475.out 3).trans rfl, (blk_cell BK475.out 4).trans rfl, (blk_cell BK475.out 5).trans rfl, HS6_, HS7_⟩ (fun hHeld => ?_)
             clear hK K
             refine nO (some 128) ?_
             refine pV 26 (some 129) [27, 2] rfl rfl HT_ ?_
             refine pV 27 (some 130) [28, 1] rfl rfl HT_ ?_
             refine pV 28 (some 131) [29] rfl rfl HT_ ?_
             refine done_ (done_of HT_.out (by kernel_rfl)) ?_
             try go_wp2
             go_ret
             exact ⟨by first | rfl | (simp [errW_none, errW_some] <;> rfl) | (simp only [← hji76]; first | rfl | (simp [errW_none, errW_some] <;> rfl)) | (simp [*, errW_none, errW_some] <;> rfl), tH1 HB GE475.out⟩
           rw [if_neg c80] at H
           exact absurd H (by simp)
         rw [if_neg c79] at H
         exact absurd H (by simp)
       rw [if_neg c78] at H
       exact absurd H (by simp)
     rw [if_neg c77] at H
     exact absurd H (by simp)
   rw [if_neg c75] at H
   have c75b0 : decide (0 < x18_3) = false := decide_eq_false c75
   clear c75
   have H' := Aside0.mk H
   clear H
   try go_wp2
   replace HO_6 := Aside0.mk (Kd.R_drew HO_6.out)
   replace HO_13 := Aside0.mk (Kd.R_drew HO_13.out)
   replace HO_476001 := Aside0.mk (Kd.R_drew HO_476001.out)
   replace HO_476002 := Aside0.mk (Kd.R_drew HO_476002.out)
   replace HO_476005 := Aside0.mk (Kd.N_drew HO_476005.out)
   replace BK475 := Aside0.mk (blk_drew BK475.out)
   replace HB := Aside0.mk (below_drew1 HB.out)
   refine start_ (n := 29) (S := fun w' => True) (ds := []) (bq [0, 29]) (by kernel_rfl) rfl rfl trivial (fun hHeld => ?_); refine with_tabW laws_FnMoves.tab24 laws_FnMoves.bits24 (fun HT_ HW_ => ?_)
   generalize wr.drew = w87 at HO_6 HO_13 HO_476001 HO_476002 HO_476005 BK475 HB hHeld ⊢
   refine pV 0 (some 103) [1, 28] rfl rfl HT_ ?_
   refine pV 1 (some 104) [2, 27] rfl rfl HT_ ?_
   refine pV 2 (some 105) [3, 26] rfl rfl HT_ ?_
   refine pU 3 (some 106) [4, 25] rfl rfl HT_ ?_
   refine pU 4 (some 107) [5, 24] rfl rfl HT_ ?_
   refine pU 5 (some 108) [6, 23] rfl rfl HT_ ?_
   refine pU 6 (some 109) [7, 22] rfl rfl HT_ ?_
   refine pU 7 (some 110) [8, 21] rfl rfl HT_ ?_
   refine pU 8 (some 111) [9, 20] rfl rfl HT_ ?_
   refine pU 9 (some 112) [10, 19] rfl rfl HT_ ?_
   refine pV 10 (some 113) [11, 18] rfl rfl HT_ ?_
   refine pV 11 (some 114) [12, 17] rfl rfl HT_ ?_
   refine pV 12 (some 115) [13, 16] rfl rfl HT_ ?_
   refine pV 13 (some 116) [14, 15] rfl rfl HT_ ?_
   refine pV 14 (some 117) [15, 14] rfl rfl HT_ ?_
   refine pU 15 (some 118) [16, 13] rfl rfl HT_ ?_
   refine pU 16 (some 119) [17, 12] rfl rfl HT_ ?_
   refine pU 17 (some 120) [18, 11] rfl rfl HT_ ?_
   refine pU 18 (some 121) [19, 10] rfl rfl HT_ ?_
   refine pU 19 (some 122) [20, 9] rfl rfl HT_ ?_
   refine pU 20 (some 123) [21, 8] rfl rfl HT_ ?_
   refine pU 21 (some 124) [22, 7] rfl rfl HT_ ?_
   refine pU 22 (some 125) [23, 6] rfl rfl HT_ ?_
   refine pU 23 (some 126) [24, 5] rfl rfl HT_ ?_
   refine pU 24 (some 127) [25, 4] rfl rfl HT_ ?_
   refine pU 25 (some 128) [26, 3] rfl rfl HT_ ?_
   refine pU 26 (some 129) [27, 2] rfl rfl HT_ ?_
   refine pV 27 (some 130) [28, 1] rfl rfl HT_ ?_
   refine pV 28 (some 131) [29] rfl rfl HT_ ?_
   refine done_ (done_of HT_.out (by kernel_rfl)) ?_
   try go_wp2
   go_roundg k3
   case measure => have := HJ9.out; have := HJ27.out; have := HK3.out; omega
   case rel => exact ⟨(wrap64 (x18_3 + 1)), tq, H', ⟨by have := HJ9.out; have := HJ27.out; have := HK3.out; omega⟩, ⟨tR HO_6⟩, ⟨tR HO_13⟩, ⟨tR HO_476001⟩, ⟨tR HO_476002⟩, ⟨tN HO_476005⟩, ⟨tB BK475⟩, ⟨tH1 HB GE475.out⟩⟩
 rw [if_neg c51] at H
 have c51b0 : decide (x18_3 < x15_27) = false := decide_eq_false c51
 clear c51
 have H' := Aside0.mk H
 clear H
 go_wp2
 go_loopg [10, 11, 19] k3 (fun kq v10 v11 v19 w' => ∃ (x10_4 : Int) (x11_4 : Int) (x19_4 : Int), v10 = .int .i64 x10_4 ∧ v11 = .int .i64 x11_4 ∧ v19 = .int .i64 x19_4 ∧ Aside0 (laws_FnMoves.l1 kq t476 x10_4 x11_4 x19_4 t463 t464 t467 t470 t471 t472 = some r) ∧ Aside0 (kq ≤ k3) ∧ Aside0 (Kd.R (Kd.int .i64) 2 w' w.heap.size (fun k_ => some k_ ≠ ((.slice Ao14 t464.length co14) : Value).ownBlock ∧ some k_ ≠ ((.slice Ao15 t467.length co15) : Value).ownBlock) (.slice Ao19 t476.length co19) t476) ∧ Aside0 (Kd.R (Kd.int .i64) 2 w' w.heap.size (fun k_ => some k_ ≠ ((.slice Ao19 t476.length co19) : Value).ownBlock ∧ some k_ ≠ ((.slice Ao15 t467.length co15) : Value).ownBlock) (.slice Ao14 t464.length co14) t464) ∧ Aside0 (Kd.R (Kd.int .i64) 2 w' w.heap.size (fun k_ => some k_ ≠ ((.slice Ao19 t476.length co19) : Value).ownBlock ∧ some k_ ≠ ((.slice Ao14 t464.length co14) : Value).ownBlock) (.slice Ao15 t467.length co15) t467) ∧ Aside0 (Kd.N (Kd.slice 2 (Kd.int .i64)) 24 w' w.heap.size (fun k_ => some k_ ≠ ((.slice Ao19 t476.length co19) : Value).ownBlock ∧ some k_ ≠ ((.slice Ao14 t464.length co14) : Value).ownBlock ∧ some k_ ≠ ((.slice Ao15 t467.length co15) : Value).ownBlock ∧ k_ ≠ gb475) (.slice Ao16 t472.length co16) t472) ∧ Aside0 (w'.heap[gb475]? = some (.cells #[.string t463, (.slice Ao14 t464.length co14), (.slice Ao15 t467.length co15), .int .i64 t470, .int .i64 t471, (.slice Ao16 t472.length co16)] 27 (0, 0))) ∧ Aside0 (Below w.heap.size w w'))
 case atStart => exact ⟨(t482), (t483), (0), tq, tq, tq, H', ⟨Nat.le_refl _⟩, ⟨by (with_reducible repeat (first | apply qra | apply qrn | apply qrd)); exact Kd.R_mono HO_6.out (fun _ hk => ⟨hk.2.1, hk.2.2⟩)⟩, ⟨by (with_reducible repeat (first | apply qra | apply qrn | apply qrd)); exact Kd.R_mono HO_476001.out (fun _ hk => ⟨hk.1, hk.2.2⟩)⟩, ⟨by (with_reducible repeat (first | apply qra | apply qrn | apply qrd)); exact Kd.R_mono HO_476002.out (fun _ hk => ⟨hk.1, hk.2.2⟩)⟩, ⟨by (with_reducible repeat (first | apply Kd.N_alloc | apply Kd.N_drewN | apply Kd.N_drew)); exact Kd.N_mono HO_476005.out (fun _ hk => ⟨hk.1, ⟨hk.2.2.1, ⟨hk.2.2.2.1, hk.2.2.2.2⟩⟩⟩)⟩, ⟨tB BK475⟩, ⟨tH1 HB GE475.out⟩⟩
 case round =>
 clear H'
 try clear p2
 try clear p4
 try clear q4
 try clear hx4
 try clear c5
 try clear p5
 try clear q5
 try clear hx5
 try clear p6
 try clear c7
 try clear c8
 try clear p49
 try clear q49
 try clear hx49
 try clear p50
 try clear q50
 try clear hx50
 try clear c51
 try clear c51b0
 try clear p64
 try clear c75
 try clear c75b0
 try clear c77
 try clear c78
 try clear c79
 try clear c80
 try clear c82
 try clear hx499_0
 try clear hx500_0
 try clear p499
 try clear p500
 try clear q499
 try clear q500
 obtain ⟨x10_4, x11_4, x19_4, rfl, rfl, rfl, HA, HK4, HO_6, HO_476001, HO_476002, HO_476005, BK475, HB⟩ := hrel
 cases gk with
 | zero => exact absurd HA.out (by simp [laws_FnMoves.l1])
 | succ k4 =>
 have H := HA.out
 clear HA
 simp only [laws_FnMoves.l1] at H
 by_cases c88 : x19_4 < (t476.length : Int)
 · rw [if_pos c88] at H
   have c88b0 : decide (x19_4 < (t476.length : Int)) = true := decide_eq_true c88
   clear c88
   by_cases c89 : 0 ≤ x19_4
   · rw [if_pos c89] at H
     have c89b0 : decide (0 ≤ x19_4) = true := decide_eq_true c89
     clear c89
     replace H := Option.bind_eq_some_iff.mp H
     obtain ⟨t503, A900, H⟩ := H
     replace H : (if t503 = t470 then (laws_FnMoves.l1 k4 t476 (wrap64 (x10_4 - 1)) x11_4 (wrap64 (x19_4 + 1)) t463 t464 t467 t470 t471 t472) else (if t503 = t471 then (laws_FnMoves.l1 k4 t476 x10_4 (wrap64 (x11_4 - 1)) (wrap64 (x19_4 + 1)) t463 t464 t467 t470 t471 t472) else (laws_FnMoves.l1 k4 t476 x10_4 x11_4 (wrap64 (x19_4 + 1)) t463 t464 t467 t470 t471 t472))) = some r := H
     have A90 := Aside0.mk A900
     clear A900
     by_cases c91 : t503 = t470
     · rw [if_pos c91] at H
       have c91b0 : (t503 == t470) = true := beq_iff_eq.mpr c91
       have c91b1 : (t503 != t470) = false := bne_eq_false_iff_eq.mpr c91
       clear c91
       have H' := Aside0.mk H
       clear H
       have p502 : 0 ≤ (x19_4 : Int) := of_decide_eq_true tA
       have q502 : x19_4 < (t476.length : Int) := of_decide_eq_true tA
       obtain ⟨ad502, e502, hx502_0⟩ := Kd.at_int (Kd.R_reads' HO_6.out).2.2 x19_4 p502 q502
       cases e502
       replace p502 := eq_true p502
       replace q502 := eq_true q502
       go_wp2_with (first | ((with_reducible refine gate_callee (f := 87) rfl ?_); refine gL_ (some 142) rfl rfl Try.func87 #[.int .i64 (rd t476 x19_4)] rfl ?_; (with_reducible refine (spec_ToneOf.calls (rd t476 x19_4) t503 _ A90.out).mono ?_); rintro e w' ⟨rfl, ⟨nd, rfl⟩⟩; refine ⟨_, rfl, ?_⟩; have hcz92_0 : wr.cell? ⟨gb475, 0, none⟩ = some (.string t463) := (blk_cell BK475.out 0).trans rfl; have hcz92_1 : wr.cell? ⟨gb475, 1, none⟩ = some (.slice Ao14 t464.length co14) := (blk_cell BK475.out 1).trans rfl; have hcz92_2 : wr.cell? ⟨gb475, 2, none⟩ = some (.slice Ao15 t467.length co15) := (blk_cell BK475.out 2).trans rfl; have hcz92_3 : wr.cell? ⟨gb475, 3, none⟩ = some (.int .i64 t470) := (blk_cell BK475.out 3).trans rfl; have hcz92_4 : wr.cell? ⟨gb475, 4, none⟩ = some (.int .i64 t471) := (blk_cell BK475.out 4).trans rfl; have hcz92_5 : wr.cell? ⟨gb475, 5, none⟩ = some (.slice Ao16 t472.length co16) := (blk_cell BK475.out 5).trans rfl; have hfz92_0 := blk_frozen BK475.out 0; have hfz92_1 := blk_frozen BK475.out 1; have hfz92_2 := blk_frozen BK475.out 2; have hfz92_3 := blk_frozen BK475.out 3; have hfz92_4 := blk_frozen BK475.out 4; have hfz92_5 := blk_frozen BK475.out 5))
       go_roundg k4
       case measure => have := HJ9.out; have := HJ27.out; have := HK3.out; have := HK4.out; omega
       case rel => exact ⟨(wrap64 (x10_4 - 1)), (x11_4), (wrap64 (x19_4 + 1)), tq, tq, tq, H', ⟨by have := HJ9.out; have := HJ27.out; have := HK3.out; have := HK4.out; omega⟩, ⟨tR HO_6⟩, ⟨tR HO_476001⟩, ⟨tR HO_476002⟩, ⟨tN HO_476005⟩, ⟨tB BK475⟩, ⟨tH1 HB GE475.out⟩⟩
     rw [if_neg c91] at H
     have c91b0 : (t503 == t470) = false := beq_eq_false_iff_ne.mpr c91
     have c91b1 : (t503 != t470) = true := bne_iff_ne.mpr c91
     by_cases c93 : t503 = t471
     · rw [if_pos c93] at H
       have c93b0 : (t503 == t471) = true := beq_iff_eq.mpr c93
       have c93b1 : (t503 != t471) = false := bne_eq_false_iff_eq.mpr c93
       clear c93
       have H' := Aside0.mk H
       clear H
       have p502 : 0 ≤ (x19_4 : Int) := of_decide_eq_true tA
       have q502 : x19_4 < (t476.length : Int) := of_decide_eq_true tA
       obtain ⟨ad502, e502, hx502_0⟩ := Kd.at_int (Kd.R_reads' HO_6.out).2.2 x19_4 p502 q502
       cases e502
       replace p502 := eq_true p502
       replace q502 := eq_true q502
       go_wp2_with (first | ((with_reducible refine gate_callee (f := 87) rfl ?_); refine gL_ (some 142) rfl rfl Try.func87 #[.int .i64 (rd t476 x19_4)] rfl ?_; (with_reducible refine (spec_ToneOf.calls (rd t476 x19_4) t503 _ A90.out).mono ?_); rintro e w' ⟨rfl, ⟨nd, rfl⟩⟩; refine ⟨_, rfl, ?_⟩; have hcz94_0 : wr.cell? ⟨gb475, 0, none⟩ = some (.string t463) := (blk_cell BK475.out 0).trans rfl; have hcz94_1 : wr.cell? ⟨gb475, 1, none⟩ = some (.slice Ao14 t464.length co14) := (blk_cell BK475.out 1).trans rfl; have hcz94_2 : wr.cell? ⟨gb475, 2, none⟩ = some (.slice Ao15 t467.length co15) := (blk_cell BK475.out 2).trans rfl; have hcz94_3 : wr.cell? ⟨gb475, 3, none⟩ = some (.int .i64 t470) := (blk_cell BK475.out 3).trans rfl; have hcz94_4 : wr.cell? ⟨gb475, 4, none⟩ = some (.int .i64 t471) := (blk_cell BK475.out 4).trans rfl; have hcz94_5 : wr.cell? ⟨gb475, 5, none⟩ = some (.slice Ao16 t472.length co16) := (blk_cell BK475.out 5).trans rfl; have hfz94_0 := blk_frozen BK475.out 0; have hfz94_1 := blk_frozen BK475.out 1; have hfz94_2 := blk_frozen BK475.out 2; have hfz94_3 := blk_frozen BK475.out 3; have hfz94_4 := blk_frozen BK475.out 4; have hfz94_5 := blk_frozen BK475.out 5))
       go_roundg k4
       case measure => have := HJ9.out; have := HJ27.out; have := HK3.out; have := HK4.out; omega
       case rel => exact ⟨(x10_4), (wrap64 (x11_4 - 1)), (wrap64 (x19_4 + 1)), tq, tq, tq, H', ⟨by have := HJ9.out; have := HJ27.out; have := HK3.out; have := HK4.out; omega⟩, ⟨tR HO_6⟩, ⟨tR HO_476001⟩, ⟨tR HO_476002⟩, ⟨tN HO_476005⟩, ⟨tB BK475⟩, ⟨tH1 HB GE475.out⟩⟩
     rw [if_neg c93] at H
     have c93b0 : (t503 == t471) = false := beq_eq_false_iff_ne.mpr c93
     have c93b1 : (t503 != t471) = true := bne_iff_ne.mpr c93
     have H' := Aside0.mk H
     clear H
     have p502 : 0 ≤ (x19_4 : Int) := of_decide_eq_true tA
     have q502 : x19_4 < (t476.length : Int) := of_decide_eq_true tA
     obtain ⟨ad502, e502, hx502_0⟩ := Kd.at_int (Kd.R_reads' HO_6.out).2.2 x19_4 p502 q502
     cases e502
     replace p502 := eq_true p502
     replace q502 := eq_true q502
     go_wp2_with (first | ((with_reducible refine gate_callee (f := 87) rfl ?_); refine gL_ (some 142) rfl rfl Try.func87 #[.int .i64 (rd t476 x19_4)] rfl ?_; (with_reducible refine (spec_ToneOf.calls (rd t476 x19_4) t503 _ A90.out).mono ?_); rintro e w' ⟨rfl, ⟨nd, rfl⟩⟩; refine ⟨_, rfl, ?_⟩; have hcz95_0 : wr.cell? ⟨gb475, 0, none⟩ = some (.string t463) := (blk_cell BK475.out 0).trans rfl; have hcz95_1 : wr.cell? ⟨gb475, 1, none⟩ = some (.slice Ao14 t464.length co14) := (blk_cell BK475.out 1).trans rfl; have hcz95_2 : wr.cell? ⟨gb475, 2, none⟩ = some (.slice Ao15 t467.length co15) := (blk_cell BK475.out 2).trans rfl; have hcz95_3 : wr.cell? ⟨gb475, 3, none⟩ = some (.int .i64 t470) := (blk_cell BK475.out 3).trans rfl; have hcz95_4 : wr.cell? ⟨gb475, 4, none⟩ = some (.int .i64 t471) := (blk_cell BK475.out 4).trans rfl; have hcz95_5 : wr.cell? ⟨gb475, 5, none⟩ = some (.slice Ao16 t472.length co16) := (blk_cell BK475.out 5).trans rfl; have hfz95_0 := blk_frozen BK475.out 0; have hfz95_1 := blk_frozen BK475.out 1; have hfz95_2 := blk_frozen BK475.out 2; have hfz95_3 := blk_frozen BK475.out 3; have hfz95_4 := blk_frozen BK475.out 4; have hfz95_5 := blk_frozen BK475.out 5))
     go_roundg k4
     case measure => have := HJ9.out; have := HJ27.out; have := HK3.out; have := HK4.out; omega
     case rel => exact ⟨(x10_4), (x11_4), (wrap64 (x19_4 + 1)), tq, tq, tq, H', ⟨by have := HJ9.out; have := HJ27.out; have := HK3.out; have := HK4.out; omega⟩, ⟨tR HO_6⟩, ⟨tR HO_476001⟩, ⟨tR HO_476002⟩, ⟨tN HO_476005⟩, ⟨tB BK475⟩, ⟨tH1 HB GE475.out⟩⟩
   rw [if_neg c89] at H
   exact absurd H (by simp)
 rw [if_neg c88] at H
 have c88b0 : decide (x19_4 < (t476.length : Int)) = false := decide_eq_false c88
 clear c88
 by_cases c96 : x10_4 = 0
 · rw [if_pos c96] at H
   have c96b0 : (x10_4 == 0) = true := beq_iff_eq.mpr c96
   have c96b1 : (x10_4 != 0) = false := bne_eq_false_iff_eq.mpr c96
   clear c96
   obtain rfl := Option.some.inj H
   go_wp2
   go_ret
   exact ⟨tE, tH1 HB GE475.out⟩
 rw [if_neg c96] at H
 have c96b0 : (x10_4 == 0) = false := beq_eq_false_iff_ne.mpr c96
 have c96b1 : (x10_4 != 0) = true := bne_iff_ne.mpr c96
 obtain rfl := Option.some.inj H
 go_wp2
 go_ret
 exact ⟨tE, tH1 HB GE475.out⟩

/-- THE ONE PURE STATEMENT of laws_FnMoves: yours. -/
def laws_FnMoves.Pure : Prop := ∀ (l0 : List Int) (l1 : List Int), (l0.length ≤ maxLen ∧ ∀ y0 ∈ l0, (Lit.int .u8 y0).wf = true) → (l1.length ≤ maxLen ∧ ∀ y0 ∈ l1, (Lit.int .u8 y0).wf = true) → ∃ k, laws_FnMoves.f k l0 l1 = some true
theorem laws_FnMoves.walk (P : laws_FnMoves.Pure) (A0 : Option Addr) (c0 : Nat) (l0 : List Int) (A1 : Option Addr) (c1 : Nat) (l1 : List Int) (w : World) (hr0 : Kd.C (Kd.int .u8) w A0 l0.length l0) (hc0 : l0.length ≤ c0) (hr1 : Kd.C (Kd.int .u8) w A1 l1.length l1) (hc1 : l1.length ≤ c1) (hk0 : (l0.length ≤ maxLen ∧ ∀ y0 ∈ l0, (Lit.int .u8 y0).wf = true)) (hk1 : (l1.length ≤ maxLen ∧ ∀ y0 ∈ l1, (Lit.int .u8 y0).wf = true)) :
 Calls Try.prog 10 #[.slice A0 l0.length c0, .slice A1 l1.length c1] w fun e w' => e = .returned (.bool true) ∧ Below w.heap.size w w' := by
 obtain ⟨k, h⟩ := P l0 l1 hk0 hk1
 refine (laws_FnMoves.calls k _ _ l0 _ _ l1 true w hr0 hc0 hr1 hc1 h).mono ?_
 rintro e w' ⟨rfl, hd⟩
 exact ⟨rfl, hd⟩

end Go.Proofs.Ytbedlmlofnphkaa.PZ
