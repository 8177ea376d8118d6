/-
  No cell of these rows narrows 'for every input' (looked for: loops, veiled, ifaces, maps, wideKeys, modest, calm, conditions, laid).
  DERIVED. THE GIVEN ROWS OF THIS SEAT. 7 by the template 'for every input the law returns true; each argument reads behind the call as it read before'; 0 by the template 'total and deterministic' (their statements: YtomeeimjlagbbaaTotals.lean).
  GIVEN WITH THE SEED: the statements are not yours to turn. If you find one false, say at which input.
  Laid BY PROGRAM, IN A SANDBOX (cutbox-rows.mjs): the forced cells as the released guide's own fill.sh prints them over the translation 51fe1d8169ccb434… (all of the seat's roots in one cut). By AI agents, Wed Nov 11 2026. No macro, syntax, notation, axiom, sorry.
-/
import Derived.Test.YtomeeimjlagbbaaChecked
import GoSem.Claim
import GoSem.ClaimJoined
import GoSem.ClaimMapViews
import Derived.JoinedTies
import Derived.KernelRfl
namespace Go.Proofs.Ytomeeimjlagbbaa
/- THE CELL 'sum', in the pinned program and in every row, IS THE sha256 OF THE DUMP (.gsa) THAT YtomeeimjlagbbaaProg.lean LOADS. Nothing in Lean hashes anything: it is a label: what it is worth is what the hold of that sum in a sandbox is worth. -/
noncomputable def Try.pinned : Pinned := { name := "ytomeeimjlagbbaa", sum := "51fe1d8169ccb4347389cbdd006b5365856e2765b1032064f8c7400a8887f4a9", checked := Try.checked }
namespace Rows
def none {H : Type} : Left H := { results := [], args := [] }

/-- 'laws.FnStages': WHATEVER THE INPUT: true; the input reads as it did. -/
def fnStagesSpec : ChangeSpec := { name := "fnStages", fn := fun _ => fun
  | [d1, d2] => { results := [.lit (.bool true)], args := [d1, d2] }
  | _ => none }
def fnStagesRow : OpenClaim := { program := "ytomeeimjlagbbaa", sum := "51fe1d8169ccb4347389cbdd006b5365856e2765b1032064f8c7400a8887f4a9", func := "loop.example/g01033/laws.FnStages", spec := "fnStages", apart := false }
def FnStagesSaid : Prop := fnStagesRow.holds Try.pinned (OpenSpec.ofChange fnStagesSpec)

/-- ITS FALSE NEIGHBOUR: 'it returns false'. Refute it at one input. -/
def fnStagesWrong : ChangeSpec := { name := "fnStages", fn := fun _ => fun
  | [d1, d2] => { results := [.lit (.bool false)], args := [d1, d2] }
  | _ => none }
def FnStagesWrongFalsely : Prop := fnStagesRow.holds Try.pinned (OpenSpec.ofChange fnStagesWrong)

/-- 'laws.FnHours': WHATEVER THE INPUT: true; the input reads as it did. -/
def fnHoursSpec : ChangeSpec := { name := "fnHours", fn := fun _ => fun
  | [d1, d2] => { results := [.lit (.bool true)], args := [d1, d2] }
  | _ => none }
def fnHoursRow : OpenClaim := { program := "ytomeeimjlagbbaa", sum := "51fe1d8169ccb4347389cbdd006b5365856e2765b1032064f8c7400a8887f4a9", func := "loop.example/g01033/laws.FnHours", spec := "fnHours", apart := false }
def FnHoursSaid : Prop := fnHoursRow.holds Try.pinned (OpenSpec.ofChange fnHoursSpec)

/-- ITS FALSE NEIGHBOUR: 'it returns false'. Refute it at one input. -/
def fnHoursWrong : ChangeSpec := { name := "fnHours", fn := fun _ => fun
  | [d1, d2] => { results := [.lit (.bool false)], args := [d1, d2] }
  | _ => none }
def FnHoursWrongFalsely : Prop := fnHoursRow.holds Try.pinned (OpenSpec.ofChange fnHoursWrong)

/-- 'laws.FnCuts': WHATEVER THE INPUT: true; the input reads as it did. -/
def fnCutsSpec : ChangeSpec := { name := "fnCuts", fn := fun _ => fun
  | [d1, d2] => { results := [.lit (.bool true)], args := [d1, d2] }
  | _ => none }
def fnCutsRow : OpenClaim := { program := "ytomeeimjlagbbaa", sum := "51fe1d8169ccb4347389cbdd006b5365856e2765b1032064f8c7400a8887f4a9", func := "loop.example/g01033/laws.FnCuts", spec := "fnCuts", unfollowed := true, recurses := true, apart := false }
def FnCutsSaid : Prop := fnCutsRow.holds Try.pinned (OpenSpec.ofChange fnCutsSpec)

/-- ITS FALSE NEIGHBOUR: 'it returns false'. Refute it at one input. -/
def fnCutsWrong : ChangeSpec := { name := "fnCuts", fn := fun _ => fun
  | [d1, d2] => { results := [.lit (.bool false)], args := [d1, d2] }
  | _ => none }
def FnCutsWrongFalsely : Prop := fnCutsRow.holds Try.pinned (OpenSpec.ofChange fnCutsWrong)

/-- 'laws.FnRotations': WHATEVER THE INPUT: true; the input reads as it did. -/
def fnRotationsSpec : ChangeSpec := { name := "fnRotations", fn := fun _ => fun
  | [d1, d2] => { results := [.lit (.bool true)], args := [d1, d2] }
  | _ => none }
def fnRotationsRow : OpenClaim := { program := "ytomeeimjlagbbaa", sum := "51fe1d8169ccb4347389cbdd006b5365856e2765b1032064f8c7400a8887f4a9", func := "loop.example/g01033/laws.FnRotations", spec := "fnRotations", unfollowed := true, recurses := true, apart := false }
def FnRotationsSaid : Prop := fnRotationsRow.holds Try.pinned (OpenSpec.ofChange fnRotationsSpec)

/-- ITS FALSE NEIGHBOUR: 'it returns false'. Refute it at one input. -/
def fnRotationsWrong : ChangeSpec := { name := "fnRotations", fn := fun _ => fun
  | [d1, d2] => { results := [.lit (.bool false)], args := [d1, d2] }
  | _ => none }
def FnRotationsWrongFalsely : Prop := fnRotationsRow.holds Try.pinned (OpenSpec.ofChange fnRotationsWrong)

/-- 'laws.FnDrones': WHATEVER THE INPUT: true; the input reads as it did. -/
def fnDronesSpec : ChangeSpec := { name := "fnDrones", fn := fun _ => fun
  | [d1, d2] => { results := [.lit (.bool true)], args := [d1, d2] }
  | _ => none }
def fnDronesRow : OpenClaim := { program := "ytomeeimjlagbbaa", sum := "51fe1d8169ccb4347389cbdd006b5365856e2765b1032064f8c7400a8887f4a9", func := "loop.example/g01033/laws.FnDrones", spec := "fnDrones", unfollowed := true, recurses := true, apart := false }
def FnDronesSaid : Prop := fnDronesRow.holds Try.pinned (OpenSpec.ofChange fnDronesSpec)

/-- ITS FALSE NEIGHBOUR: 'it returns false'. Refute it at one input. -/
def fnDronesWrong : ChangeSpec := { name := "fnDrones", fn := fun _ => fun
  | [d1, d2] => { results := [.lit (.bool false)], args := [d1, d2] }
  | _ => none }
def FnDronesWrongFalsely : Prop := fnDronesRow.holds Try.pinned (OpenSpec.ofChange fnDronesWrong)

/-- 'laws.FnPhrases': WHATEVER THE INPUT: true; the input reads as it did. -/
def fnPhrasesSpec : ChangeSpec := { name := "fnPhrases", fn := fun _ => fun
  | [d1, d2] => { results := [.lit (.bool true)], args := [d1, d2] }
  | _ => none }
def fnPhrasesRow : OpenClaim := { program := "ytomeeimjlagbbaa", sum := "51fe1d8169ccb4347389cbdd006b5365856e2765b1032064f8c7400a8887f4a9", func := "loop.example/g01033/laws.FnPhrases", spec := "fnPhrases", unfollowed := true, recurses := true, apart := false }
def FnPhrasesSaid : Prop := fnPhrasesRow.holds Try.pinned (OpenSpec.ofChange fnPhrasesSpec)

/-- ITS FALSE NEIGHBOUR: 'it returns false'. Refute it at one input. -/
def fnPhrasesWrong : ChangeSpec := { name := "fnPhrases", fn := fun _ => fun
  | [d1, d2] => { results := [.lit (.bool false)], args := [d1, d2] }
  | _ => none }
def FnPhrasesWrongFalsely : Prop := fnPhrasesRow.holds Try.pinned (OpenSpec.ofChange fnPhrasesWrong)

/-- 'laws.FnCurves': WHATEVER THE INPUT: true; the input reads as it did. -/
def fnCurvesSpec : ChangeSpec := { name := "fnCurves", fn := fun _ => fun
  | [d1, d2] => { results := [.lit (.bool true)], args := [d1, d2] }
  | _ => none }
def fnCurvesRow : OpenClaim := { program := "ytomeeimjlagbbaa", sum := "51fe1d8169ccb4347389cbdd006b5365856e2765b1032064f8c7400a8887f4a9", func := "loop.example/g01033/laws.FnCurves", spec := "fnCurves", unfollowed := true, recurses := true, apart := false }
def FnCurvesSaid : Prop := fnCurvesRow.holds Try.pinned (OpenSpec.ofChange fnCurvesSpec)

/-- ITS FALSE NEIGHBOUR: 'it returns false'. Refute it at one input. -/
def fnCurvesWrong : ChangeSpec := { name := "fnCurves", fn := fun _ => fun
  | [d1, d2] => { results := [.lit (.bool false)], args := [d1, d2] }
  | _ => none }
def FnCurvesWrongFalsely : Prop := fnCurvesRow.holds Try.pinned (OpenSpec.ofChange fnCurvesWrong)

/- THE SECOND FORM. 'bulk': how many values and letters a reading holds, each counted each time it is reached (what is shared counts as often as it is met; a slice's spare places count too). A statement '..UptoSaid' is the law's where the arguments, and the package variables that the reading takes, are together of bulk at most 1048576: NARROWER than '..Said'. Prove '..Said' where nothing that the law and all that it calls make is longer than what came in: it says more and counts as full. Else prove '..UptoSaid'. A law counts once. -/
mutual
def uptoBulk {H : Type} : DataW H → Nat
  | .lit (.string bytes) => bytes.length + 1
  | .lit _ => 1
  | .nil => 1
  | .ptr d => uptoBulk d + 1
  | .slice elems spare => uptoBulkAll elems + uptoBulkAll spare + 1
  | .agg parts => uptoBulkAll parts + 1
  | .iface _ d => uptoBulk d + 1
  | .map entries => uptoBulkEntries entries + 1
  | .held _ => 1
def uptoBulkAll {H : Type} : List (DataW H) → Nat
  | [] => 0
  | d :: r => uptoBulk d + uptoBulkAll r
def uptoBulkEntries {H : Type} : List (Lit × DataW H) → Nat
  | [] => 0
  | x :: r => uptoBulkEntry x + uptoBulkEntries r
def uptoBulkEntry {H : Type} : Lit × DataW H → Nat
  | (.string bytes, d) => bytes.length + uptoBulk d + 1
  | (_, d) => uptoBulk d + 1
 end
def uptoSmall : (H : Type) → List (DataW H) → Bool := fun _ ds => decide (uptoBulkAll ds ≤ 1048576)
def OpenSpec.upto (s : _root_.Go.ChangeSpec) : _root_.Go.OpenSpec := { _root_.Go.OpenSpec.ofChange s with cond := some uptoSmall }

/-- 'laws.FnStages', WHERE WHAT IT READS IS OF BULK AT MOST 1048576: true; the input reads as it did. -/
def fnStagesUptoRow : OpenClaim := { program := "ytomeeimjlagbbaa", sum := "51fe1d8169ccb4347389cbdd006b5365856e2765b1032064f8c7400a8887f4a9", func := "loop.example/g01033/laws.FnStages", spec := "fnStages", apart := false, narrowed := true }
def FnStagesUptoSaid : Prop := fnStagesUptoRow.holds Try.pinned (OpenSpec.upto fnStagesSpec)

/-- 'laws.FnHours', WHERE WHAT IT READS IS OF BULK AT MOST 1048576: true; the input reads as it did. -/
def fnHoursUptoRow : OpenClaim := { program := "ytomeeimjlagbbaa", sum := "51fe1d8169ccb4347389cbdd006b5365856e2765b1032064f8c7400a8887f4a9", func := "loop.example/g01033/laws.FnHours", spec := "fnHours", apart := false, narrowed := true }
def FnHoursUptoSaid : Prop := fnHoursUptoRow.holds Try.pinned (OpenSpec.upto fnHoursSpec)

/-- 'laws.FnCuts', WHERE WHAT IT READS IS OF BULK AT MOST 1048576: true; the input reads as it did. -/
def fnCutsUptoRow : OpenClaim := { program := "ytomeeimjlagbbaa", sum := "51fe1d8169ccb4347389cbdd006b5365856e2765b1032064f8c7400a8887f4a9", func := "loop.example/g01033/laws.FnCuts", spec := "fnCuts", unfollowed := true, recurses := true, apart := false, narrowed := true }
def FnCutsUptoSaid : Prop := fnCutsUptoRow.holds Try.pinned (OpenSpec.upto fnCutsSpec)

/-- 'laws.FnRotations', WHERE WHAT IT READS IS OF BULK AT MOST 1048576: true; the input reads as it did. -/
def fnRotationsUptoRow : OpenClaim := { program := "ytomeeimjlagbbaa", sum := "51fe1d8169ccb4347389cbdd006b5365856e2765b1032064f8c7400a8887f4a9", func := "loop.example/g01033/laws.FnRotations", spec := "fnRotations", unfollowed := true, recurses := true, apart := false, narrowed := true }
def FnRotationsUptoSaid : Prop := fnRotationsUptoRow.holds Try.pinned (OpenSpec.upto fnRotationsSpec)

/-- 'laws.FnDrones', WHERE WHAT IT READS IS OF BULK AT MOST 1048576: true; the input reads as it did. -/
def fnDronesUptoRow : OpenClaim := { program := "ytomeeimjlagbbaa", sum := "51fe1d8169ccb4347389cbdd006b5365856e2765b1032064f8c7400a8887f4a9", func := "loop.example/g01033/laws.FnDrones", spec := "fnDrones", unfollowed := true, recurses := true, apart := false, narrowed := true }
def FnDronesUptoSaid : Prop := fnDronesUptoRow.holds Try.pinned (OpenSpec.upto fnDronesSpec)

/-- 'laws.FnPhrases', WHERE WHAT IT READS IS OF BULK AT MOST 1048576: true; the input reads as it did. -/
def fnPhrasesUptoRow : OpenClaim := { program := "ytomeeimjlagbbaa", sum := "51fe1d8169ccb4347389cbdd006b5365856e2765b1032064f8c7400a8887f4a9", func := "loop.example/g01033/laws.FnPhrases", spec := "fnPhrases", unfollowed := true, recurses := true, apart := false, narrowed := true }
def FnPhrasesUptoSaid : Prop := fnPhrasesUptoRow.holds Try.pinned (OpenSpec.upto fnPhrasesSpec)

/-- 'laws.FnCurves', WHERE WHAT IT READS IS OF BULK AT MOST 1048576: true; the input reads as it did. -/
def fnCurvesUptoRow : OpenClaim := { program := "ytomeeimjlagbbaa", sum := "51fe1d8169ccb4347389cbdd006b5365856e2765b1032064f8c7400a8887f4a9", func := "loop.example/g01033/laws.FnCurves", spec := "fnCurves", unfollowed := true, recurses := true, apart := false, narrowed := true }
def FnCurvesUptoSaid : Prop := fnCurvesUptoRow.holds Try.pinned (OpenSpec.upto fnCurvesSpec)

end Rows
end Go.Proofs.Ytomeeimjlagbbaa
