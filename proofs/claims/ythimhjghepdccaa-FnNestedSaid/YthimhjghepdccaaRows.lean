/-
  No cell of these rows narrows 'for every input' (looked for: loops, veiled, ifaces, maps, wideKeys, modest, calm, conditions, laid).
  DERIVED. THE GIVEN ROWS OF THIS SEAT. 12 by the template 'for every input the law returns true; each argument reads behind the call as it read before'; 0 by the template 'total and deterministic' (their statements: YthimhjghepdccaaTotals.lean).
  GIVEN WITH THE SEED: the statements are not yours to turn. If you find one false, say at which input.
  Laid BY PROGRAM, IN A SANDBOX (cutbox-rows.mjs): the forced cells as the released guide's own fill.sh prints them over the translation f1c2a54e2da00e02… (all of the seat's roots in one cut). By AI agents, Wed Nov 11 2026. No macro, syntax, notation, axiom, sorry.
-/
import Derived.Test.YthimhjghepdccaaChecked
import GoSem.Claim
import GoSem.ClaimJoined
import GoSem.ClaimMapViews
import Derived.JoinedTies
import Derived.KernelRfl
namespace Go.Proofs.Ythimhjghepdccaa
/- THE CELL 'sum', in the pinned program and in every row, IS THE sha256 OF THE DUMP (.gsa) THAT YthimhjghepdccaaProg.lean LOADS. Nothing in Lean hashes anything: it is a label: what it is worth is what the hold of that sum in a sandbox is worth. -/
noncomputable def Try.pinned : Pinned := { name := "ythimhjghepdccaa", sum := "f1c2a54e2da00e02586084ed062a152501eb6d1bafb50cea94dd9f6d9fbc7159", checked := Try.checked }
namespace Rows
def none {H : Type} : Left H := { results := [], args := [] }

/-- 'laws.FnExactEndsOnSam': WHATEVER THE INPUT: true; the input reads as it did. -/
def fnExactEndsOnSamSpec : ChangeSpec := { name := "fnExactEndsOnSam", fn := fun _ => fun
  | [d1, d2, d3, d4] => { results := [.lit (.bool true)], args := [d1, d2, d3, d4] }
  | _ => none }
def fnExactEndsOnSamRow : OpenClaim := { program := "ythimhjghepdccaa", sum := "f1c2a54e2da00e02586084ed062a152501eb6d1bafb50cea94dd9f6d9fbc7159", func := "loop.example/g01033/laws.FnExactEndsOnSam", spec := "fnExactEndsOnSam", unfollowed := true, recurses := true, apart := false }
def FnExactEndsOnSamSaid : Prop := fnExactEndsOnSamRow.holds Try.pinned (OpenSpec.ofChange fnExactEndsOnSamSpec)

/-- ITS FALSE NEIGHBOUR: 'it returns false'. Refute it at one input. -/
def fnExactEndsOnSamWrong : ChangeSpec := { name := "fnExactEndsOnSam", fn := fun _ => fun
  | [d1, d2, d3, d4] => { results := [.lit (.bool false)], args := [d1, d2, d3, d4] }
  | _ => none }
def FnExactEndsOnSamWrongFalsely : Prop := fnExactEndsOnSamRow.holds Try.pinned (OpenSpec.ofChange fnExactEndsOnSamWrong)

/-- 'laws.FnExactIsCadence': WHATEVER THE INPUT: true; the input reads as it did. -/
def fnExactIsCadenceSpec : ChangeSpec := { name := "fnExactIsCadence", fn := fun _ => fun
  | [d1, d2, d3, d4, d5] => { results := [.lit (.bool true)], args := [d1, d2, d3, d4, d5] }
  | _ => none }
def fnExactIsCadenceRow : OpenClaim := { program := "ythimhjghepdccaa", sum := "f1c2a54e2da00e02586084ed062a152501eb6d1bafb50cea94dd9f6d9fbc7159", func := "loop.example/g01033/laws.FnExactIsCadence", spec := "fnExactIsCadence", unfollowed := true, recurses := true, apart := false }
def FnExactIsCadenceSaid : Prop := fnExactIsCadenceRow.holds Try.pinned (OpenSpec.ofChange fnExactIsCadenceSpec)

/-- ITS FALSE NEIGHBOUR: 'it returns false'. Refute it at one input. -/
def fnExactIsCadenceWrong : ChangeSpec := { name := "fnExactIsCadence", fn := fun _ => fun
  | [d1, d2, d3, d4, d5] => { results := [.lit (.bool false)], args := [d1, d2, d3, d4, d5] }
  | _ => none }
def FnExactIsCadenceWrongFalsely : Prop := fnExactIsCadenceRow.holds Try.pinned (OpenSpec.ofChange fnExactIsCadenceWrong)

/-- 'laws.FnExactCadenceStart': WHATEVER THE INPUT: true; the input reads as it did. -/
def fnExactCadenceStartSpec : ChangeSpec := { name := "fnExactCadenceStart", fn := fun _ => fun
  | [d1, d2, d3, d4] => { results := [.lit (.bool true)], args := [d1, d2, d3, d4] }
  | _ => none }
def fnExactCadenceStartRow : OpenClaim := { program := "ythimhjghepdccaa", sum := "f1c2a54e2da00e02586084ed062a152501eb6d1bafb50cea94dd9f6d9fbc7159", func := "loop.example/g01033/laws.FnExactCadenceStart", spec := "fnExactCadenceStart", unfollowed := true, recurses := true, apart := false }
def FnExactCadenceStartSaid : Prop := fnExactCadenceStartRow.holds Try.pinned (OpenSpec.ofChange fnExactCadenceStartSpec)

/-- ITS FALSE NEIGHBOUR: 'it returns false'. Refute it at one input. -/
def fnExactCadenceStartWrong : ChangeSpec := { name := "fnExactCadenceStart", fn := fun _ => fun
  | [d1, d2, d3, d4] => { results := [.lit (.bool false)], args := [d1, d2, d3, d4] }
  | _ => none }
def FnExactCadenceStartWrongFalsely : Prop := fnExactCadenceStartRow.holds Try.pinned (OpenSpec.ofChange fnExactCadenceStartWrong)

/-- 'laws.FnExactNestedStart': WHATEVER THE INPUT: true; the input reads as it did. -/
def fnExactNestedStartSpec : ChangeSpec := { name := "fnExactNestedStart", fn := fun _ => fun
  | [d1, d2, d3, d4, d5] => { results := [.lit (.bool true)], args := [d1, d2, d3, d4, d5] }
  | _ => none }
def fnExactNestedStartRow : OpenClaim := { program := "ythimhjghepdccaa", sum := "f1c2a54e2da00e02586084ed062a152501eb6d1bafb50cea94dd9f6d9fbc7159", func := "loop.example/g01033/laws.FnExactNestedStart", spec := "fnExactNestedStart", unfollowed := true, recurses := true, apart := false }
def FnExactNestedStartSaid : Prop := fnExactNestedStartRow.holds Try.pinned (OpenSpec.ofChange fnExactNestedStartSpec)

/-- ITS FALSE NEIGHBOUR: 'it returns false'. Refute it at one input. -/
def fnExactNestedStartWrong : ChangeSpec := { name := "fnExactNestedStart", fn := fun _ => fun
  | [d1, d2, d3, d4, d5] => { results := [.lit (.bool false)], args := [d1, d2, d3, d4, d5] }
  | _ => none }
def FnExactNestedStartWrongFalsely : Prop := fnExactNestedStartRow.holds Try.pinned (OpenSpec.ofChange fnExactNestedStartWrong)

/-- 'laws.FnExactGapFor': WHATEVER THE INPUT: true; the input reads as it did. -/
def fnExactGapForSpec : ChangeSpec := { name := "fnExactGapFor", fn := fun _ => fun
  | [d1, d2, d3, d4] => { results := [.lit (.bool true)], args := [d1, d2, d3, d4] }
  | _ => none }
def fnExactGapForRow : OpenClaim := { program := "ythimhjghepdccaa", sum := "f1c2a54e2da00e02586084ed062a152501eb6d1bafb50cea94dd9f6d9fbc7159", func := "loop.example/g01033/laws.FnExactGapFor", spec := "fnExactGapFor", unfollowed := true, recurses := true, apart := false }
def FnExactGapForSaid : Prop := fnExactGapForRow.holds Try.pinned (OpenSpec.ofChange fnExactGapForSpec)

/-- ITS FALSE NEIGHBOUR: 'it returns false'. Refute it at one input. -/
def fnExactGapForWrong : ChangeSpec := { name := "fnExactGapFor", fn := fun _ => fun
  | [d1, d2, d3, d4] => { results := [.lit (.bool false)], args := [d1, d2, d3, d4] }
  | _ => none }
def FnExactGapForWrongFalsely : Prop := fnExactGapForRow.holds Try.pinned (OpenSpec.ofChange fnExactGapForWrong)

/-- 'laws.FnExactPhraseFor': WHATEVER THE INPUT: true; the input reads as it did. -/
def fnExactPhraseForSpec : ChangeSpec := { name := "fnExactPhraseFor", fn := fun _ => fun
  | [d1, d2, d3, d4] => { results := [.lit (.bool true)], args := [d1, d2, d3, d4] }
  | _ => none }
def fnExactPhraseForRow : OpenClaim := { program := "ythimhjghepdccaa", sum := "f1c2a54e2da00e02586084ed062a152501eb6d1bafb50cea94dd9f6d9fbc7159", func := "loop.example/g01033/laws.FnExactPhraseFor", spec := "fnExactPhraseFor", unfollowed := true, recurses := true, apart := false }
def FnExactPhraseForSaid : Prop := fnExactPhraseForRow.holds Try.pinned (OpenSpec.ofChange fnExactPhraseForSpec)

/-- ITS FALSE NEIGHBOUR: 'it returns false'. Refute it at one input. -/
def fnExactPhraseForWrong : ChangeSpec := { name := "fnExactPhraseFor", fn := fun _ => fun
  | [d1, d2, d3, d4] => { results := [.lit (.bool false)], args := [d1, d2, d3, d4] }
  | _ => none }
def FnExactPhraseForWrongFalsely : Prop := fnExactPhraseForRow.holds Try.pinned (OpenSpec.ofChange fnExactPhraseForWrong)

/-- 'laws.FnExactSamsPassed': WHATEVER THE INPUT: true; the input reads as it did. -/
def fnExactSamsPassedSpec : ChangeSpec := { name := "fnExactSamsPassed", fn := fun _ => fun
  | [d1, d2, d3, d4, d5] => { results := [.lit (.bool true)], args := [d1, d2, d3, d4, d5] }
  | _ => none }
def fnExactSamsPassedRow : OpenClaim := { program := "ythimhjghepdccaa", sum := "f1c2a54e2da00e02586084ed062a152501eb6d1bafb50cea94dd9f6d9fbc7159", func := "loop.example/g01033/laws.FnExactSamsPassed", spec := "fnExactSamsPassed", unfollowed := true, recurses := true, apart := false }
def FnExactSamsPassedSaid : Prop := fnExactSamsPassedRow.holds Try.pinned (OpenSpec.ofChange fnExactSamsPassedSpec)

/-- ITS FALSE NEIGHBOUR: 'it returns false'. Refute it at one input. -/
def fnExactSamsPassedWrong : ChangeSpec := { name := "fnExactSamsPassed", fn := fun _ => fun
  | [d1, d2, d3, d4, d5] => { results := [.lit (.bool false)], args := [d1, d2, d3, d4, d5] }
  | _ => none }
def FnExactSamsPassedWrongFalsely : Prop := fnExactSamsPassedRow.holds Try.pinned (OpenSpec.ofChange fnExactSamsPassedWrong)

/-- 'laws.FnExactCountCadences': WHATEVER THE INPUT: true; the input reads as it did. -/
def fnExactCountCadencesSpec : ChangeSpec := { name := "fnExactCountCadences", fn := fun _ => fun
  | [d1, d2, d3, d4, d5] => { results := [.lit (.bool true)], args := [d1, d2, d3, d4, d5] }
  | _ => none }
def fnExactCountCadencesRow : OpenClaim := { program := "ythimhjghepdccaa", sum := "f1c2a54e2da00e02586084ed062a152501eb6d1bafb50cea94dd9f6d9fbc7159", func := "loop.example/g01033/laws.FnExactCountCadences", spec := "fnExactCountCadences", unfollowed := true, recurses := true, apart := false }
def FnExactCountCadencesSaid : Prop := fnExactCountCadencesRow.holds Try.pinned (OpenSpec.ofChange fnExactCountCadencesSpec)

/-- ITS FALSE NEIGHBOUR: 'it returns false'. Refute it at one input. -/
def fnExactCountCadencesWrong : ChangeSpec := { name := "fnExactCountCadences", fn := fun _ => fun
  | [d1, d2, d3, d4, d5] => { results := [.lit (.bool false)], args := [d1, d2, d3, d4, d5] }
  | _ => none }
def FnExactCountCadencesWrongFalsely : Prop := fnExactCountCadencesRow.holds Try.pinned (OpenSpec.ofChange fnExactCountCadencesWrong)

/-- 'laws.FnExactCountNested': WHATEVER THE INPUT: true; the input reads as it did. -/
def fnExactCountNestedSpec : ChangeSpec := { name := "fnExactCountNested", fn := fun _ => fun
  | [d1, d2, d3, d4, d5, d6] => { results := [.lit (.bool true)], args := [d1, d2, d3, d4, d5, d6] }
  | _ => none }
def fnExactCountNestedRow : OpenClaim := { program := "ythimhjghepdccaa", sum := "f1c2a54e2da00e02586084ed062a152501eb6d1bafb50cea94dd9f6d9fbc7159", func := "loop.example/g01033/laws.FnExactCountNested", spec := "fnExactCountNested", unfollowed := true, recurses := true, apart := false }
def FnExactCountNestedSaid : Prop := fnExactCountNestedRow.holds Try.pinned (OpenSpec.ofChange fnExactCountNestedSpec)

/-- ITS FALSE NEIGHBOUR: 'it returns false'. Refute it at one input. -/
def fnExactCountNestedWrong : ChangeSpec := { name := "fnExactCountNested", fn := fun _ => fun
  | [d1, d2, d3, d4, d5, d6] => { results := [.lit (.bool false)], args := [d1, d2, d3, d4, d5, d6] }
  | _ => none }
def FnExactCountNestedWrongFalsely : Prop := fnExactCountNestedRow.holds Try.pinned (OpenSpec.ofChange fnExactCountNestedWrong)

/-- 'laws.FnExactPlacesOf': WHATEVER THE INPUT: true; the input reads as it did. -/
def fnExactPlacesOfSpec : ChangeSpec := { name := "fnExactPlacesOf", fn := fun _ => fun
  | [d1, d2, d3, d4, d5] => { results := [.lit (.bool true)], args := [d1, d2, d3, d4, d5] }
  | _ => none }
def fnExactPlacesOfRow : OpenClaim := { program := "ythimhjghepdccaa", sum := "f1c2a54e2da00e02586084ed062a152501eb6d1bafb50cea94dd9f6d9fbc7159", func := "loop.example/g01033/laws.FnExactPlacesOf", spec := "fnExactPlacesOf", unfollowed := true, recurses := true, apart := false }
def FnExactPlacesOfSaid : Prop := fnExactPlacesOfRow.holds Try.pinned (OpenSpec.ofChange fnExactPlacesOfSpec)

/-- ITS FALSE NEIGHBOUR: 'it returns false'. Refute it at one input. -/
def fnExactPlacesOfWrong : ChangeSpec := { name := "fnExactPlacesOf", fn := fun _ => fun
  | [d1, d2, d3, d4, d5] => { results := [.lit (.bool false)], args := [d1, d2, d3, d4, d5] }
  | _ => none }
def FnExactPlacesOfWrongFalsely : Prop := fnExactPlacesOfRow.holds Try.pinned (OpenSpec.ofChange fnExactPlacesOfWrong)

/-- 'laws.FnNested': WHATEVER THE INPUT: true; the input reads as it did. -/
def fnNestedSpec : ChangeSpec := { name := "fnNested", fn := fun _ => fun
  | [d1, d2] => { results := [.lit (.bool true)], args := [d1, d2] }
  | _ => none }
def fnNestedRow : OpenClaim := { program := "ythimhjghepdccaa", sum := "f1c2a54e2da00e02586084ed062a152501eb6d1bafb50cea94dd9f6d9fbc7159", func := "loop.example/g01033/laws.FnNested", spec := "fnNested", unfollowed := true, recurses := true, apart := false }
def FnNestedSaid : Prop := fnNestedRow.holds Try.pinned (OpenSpec.ofChange fnNestedSpec)

/-- ITS FALSE NEIGHBOUR: 'it returns false'. Refute it at one input. -/
def fnNestedWrong : ChangeSpec := { name := "fnNested", fn := fun _ => fun
  | [d1, d2] => { results := [.lit (.bool false)], args := [d1, d2] }
  | _ => none }
def FnNestedWrongFalsely : Prop := fnNestedRow.holds Try.pinned (OpenSpec.ofChange fnNestedWrong)

/-- 'laws.FnExactListCadences': WHATEVER THE INPUT: true; the input reads as it did. -/
def fnExactListCadencesSpec : ChangeSpec := { name := "fnExactListCadences", fn := fun _ => fun
  | [d1, d2, d3, d4, d5] => { results := [.lit (.bool true)], args := [d1, d2, d3, d4, d5] }
  | _ => none }
def fnExactListCadencesRow : OpenClaim := { program := "ythimhjghepdccaa", sum := "f1c2a54e2da00e02586084ed062a152501eb6d1bafb50cea94dd9f6d9fbc7159", func := "loop.example/g01033/laws.FnExactListCadences", spec := "fnExactListCadences", unfollowed := true, recurses := true, apart := false }
def FnExactListCadencesSaid : Prop := fnExactListCadencesRow.holds Try.pinned (OpenSpec.ofChange fnExactListCadencesSpec)

/-- ITS FALSE NEIGHBOUR: 'it returns false'. Refute it at one input. -/
def fnExactListCadencesWrong : ChangeSpec := { name := "fnExactListCadences", fn := fun _ => fun
  | [d1, d2, d3, d4, d5] => { results := [.lit (.bool false)], args := [d1, d2, d3, d4, d5] }
  | _ => none }
def FnExactListCadencesWrongFalsely : Prop := fnExactListCadencesRow.holds Try.pinned (OpenSpec.ofChange fnExactListCadencesWrong)

/- THE SECOND FORM. 'bulk': how many values and letters a reading holds, each counted each time it is reached (what is shared counts as often as it is met; a slice's spare places count too). A statement '..UptoSaid' is the law's where the arguments, and the package variables that the reading takes, are together of bulk at most 1048576: NARROWER than '..Said'. Prove '..Said' where nothing that the law and all that it calls make is longer than what came in: it says more and counts as full. Else prove '..UptoSaid'. A law counts once. -/
mutual
def uptoBulk {H : Type} : DataW H → Nat
  | .lit (.string bytes) => bytes.length + 1
  | .lit _ => 1
  | .nil => 1
  | .ptr d => uptoBulk d + 1
  | .slice elems spare => uptoBulkAll elems + uptoBulkAll spare + 1
  | .agg parts => uptoBulkAll parts + 1
  | .iface _ d => uptoBulk d + 1
  | .map entries => uptoBulkEntries entries + 1
  | .held _ => 1
def uptoBulkAll {H : Type} : List (DataW H) → Nat
  | [] => 0
  | d :: r => uptoBulk d + uptoBulkAll r
def uptoBulkEntries {H : Type} : List (Lit × DataW H) → Nat
  | [] => 0
  | x :: r => uptoBulkEntry x + uptoBulkEntries r
def uptoBulkEntry {H : Type} : Lit × DataW H → Nat
  | (.string bytes, d) => bytes.length + uptoBulk d + 1
  | (_, d) => uptoBulk d + 1
 end
def uptoSmall : (H : Type) → List (DataW H) → Bool := fun _ ds => decide (uptoBulkAll ds ≤ 1048576)
def OpenSpec.upto (s : _root_.Go.ChangeSpec) : _root_.Go.OpenSpec := { _root_.Go.OpenSpec.ofChange s with cond := some uptoSmall }

/-- 'laws.FnExactEndsOnSam', WHERE WHAT IT READS IS OF BULK AT MOST 1048576: true; the input reads as it did. -/
def fnExactEndsOnSamUptoRow : OpenClaim := { program := "ythimhjghepdccaa", sum := "f1c2a54e2da00e02586084ed062a152501eb6d1bafb50cea94dd9f6d9fbc7159", func := "loop.example/g01033/laws.FnExactEndsOnSam", spec := "fnExactEndsOnSam", unfollowed := true, recurses := true, apart := false, narrowed := true }
def FnExactEndsOnSamUptoSaid : Prop := fnExactEndsOnSamUptoRow.holds Try.pinned (OpenSpec.upto fnExactEndsOnSamSpec)

/-- 'laws.FnExactIsCadence', WHERE WHAT IT READS IS OF BULK AT MOST 1048576: true; the input reads as it did. -/
def fnExactIsCadenceUptoRow : OpenClaim := { program := "ythimhjghepdccaa", sum := "f1c2a54e2da00e02586084ed062a152501eb6d1bafb50cea94dd9f6d9fbc7159", func := "loop.example/g01033/laws.FnExactIsCadence", spec := "fnExactIsCadence", unfollowed := true, recurses := true, apart := false, narrowed := true }
def FnExactIsCadenceUptoSaid : Prop := fnExactIsCadenceUptoRow.holds Try.pinned (OpenSpec.upto fnExactIsCadenceSpec)

/-- 'laws.FnExactCadenceStart', WHERE WHAT IT READS IS OF BULK AT MOST 1048576: true; the input reads as it did. -/
def fnExactCadenceStartUptoRow : OpenClaim := { program := "ythimhjghepdccaa", sum := "f1c2a54e2da00e02586084ed062a152501eb6d1bafb50cea94dd9f6d9fbc7159", func := "loop.example/g01033/laws.FnExactCadenceStart", spec := "fnExactCadenceStart", unfollowed := true, recurses := true, apart := false, narrowed := true }
def FnExactCadenceStartUptoSaid : Prop := fnExactCadenceStartUptoRow.holds Try.pinned (OpenSpec.upto fnExactCadenceStartSpec)

/-- 'laws.FnExactNestedStart', WHERE WHAT IT READS IS OF BULK AT MOST 1048576: true; the input reads as it did. -/
def fnExactNestedStartUptoRow : OpenClaim := { program := "ythimhjghepdccaa", sum := "f1c2a54e2da00e02586084ed062a152501eb6d1bafb50cea94dd9f6d9fbc7159", func := "loop.example/g01033/laws.FnExactNestedStart", spec := "fnExactNestedStart", unfollowed := true, recurses := true, apart := false, narrowed := true }
def FnExactNestedStartUptoSaid : Prop := fnExactNestedStartUptoRow.holds Try.pinned (OpenSpec.upto fnExactNestedStartSpec)

/-- 'laws.FnExactGapFor', WHERE WHAT IT READS IS OF BULK AT MOST 1048576: true; the input reads as it did. -/
def fnExactGapForUptoRow : OpenClaim := { program := "ythimhjghepdccaa", sum := "f1c2a54e2da00e02586084ed062a152501eb6d1bafb50cea94dd9f6d9fbc7159", func := "loop.example/g01033/laws.FnExactGapFor", spec := "fnExactGapFor", unfollowed := true, recurses := true, apart := false, narrowed := true }
def FnExactGapForUptoSaid : Prop := fnExactGapForUptoRow.holds Try.pinned (OpenSpec.upto fnExactGapForSpec)

/-- 'laws.FnExactPhraseFor', WHERE WHAT IT READS IS OF BULK AT MOST 1048576: true; the input reads as it did. -/
def fnExactPhraseForUptoRow : OpenClaim := { program := "ythimhjghepdccaa", sum := "f1c2a54e2da00e02586084ed062a152501eb6d1bafb50cea94dd9f6d9fbc7159", func := "loop.example/g01033/laws.FnExactPhraseFor", spec := "fnExactPhraseFor", unfollowed := true, recurses := true, apart := false, narrowed := true }
def FnExactPhraseForUptoSaid : Prop := fnExactPhraseForUptoRow.holds Try.pinned (OpenSpec.upto fnExactPhraseForSpec)

/-- 'laws.FnExactSamsPassed', WHERE WHAT IT READS IS OF BULK AT MOST 1048576: true; the input reads as it did. -/
def fnExactSamsPassedUptoRow : OpenClaim := { program := "ythimhjghepdccaa", sum := "f1c2a54e2da00e02586084ed062a152501eb6d1bafb50cea94dd9f6d9fbc7159", func := "loop.example/g01033/laws.FnExactSamsPassed", spec := "fnExactSamsPassed", unfollowed := true, recurses := true, apart := false, narrowed := true }
def FnExactSamsPassedUptoSaid : Prop := fnExactSamsPassedUptoRow.holds Try.pinned (OpenSpec.upto fnExactSamsPassedSpec)

/-- 'laws.FnExactCountCadences', WHERE WHAT IT READS IS OF BULK AT MOST 1048576: true; the input reads as it did. -/
def fnExactCountCadencesUptoRow : OpenClaim := { program := "ythimhjghepdccaa", sum := "f1c2a54e2da00e02586084ed062a152501eb6d1bafb50cea94dd9f6d9fbc7159", func := "loop.example/g01033/laws.FnExactCountCadences", spec := "fnExactCountCadences", unfollowed := true, recurses := true, apart := false, narrowed := true }
def FnExactCountCadencesUptoSaid : Prop := fnExactCountCadencesUptoRow.holds Try.pinned (OpenSpec.upto fnExactCountCadencesSpec)

/-- 'laws.FnExactCountNested', WHERE WHAT IT READS IS OF BULK AT MOST 1048576: true; the input reads as it did. -/
def fnExactCountNestedUptoRow : OpenClaim := { program := "ythimhjghepdccaa", sum := "f1c2a54e2da00e02586084ed062a152501eb6d1bafb50cea94dd9f6d9fbc7159", func := "loop.example/g01033/laws.FnExactCountNested", spec := "fnExactCountNested", unfollowed := true, recurses := true, apart := false, narrowed := true }
def FnExactCountNestedUptoSaid : Prop := fnExactCountNestedUptoRow.holds Try.pinned (OpenSpec.upto fnExactCountNestedSpec)

/-- 'laws.FnExactPlacesOf', WHERE WHAT IT READS IS OF BULK AT MOST 1048576: true; the input reads as it did. -/
def fnExactPlacesOfUptoRow : OpenClaim := { program := "ythimhjghepdccaa", sum := "f1c2a54e2da00e02586084ed062a152501eb6d1bafb50cea94dd9f6d9fbc7159", func := "loop.example/g01033/laws.FnExactPlacesOf", spec := "fnExactPlacesOf", unfollowed := true, recurses := true, apart := false, narrowed := true }
def FnExactPlacesOfUptoSaid : Prop := fnExactPlacesOfUptoRow.holds Try.pinned (OpenSpec.upto fnExactPlacesOfSpec)

/-- 'laws.FnNested', WHERE WHAT IT READS IS OF BULK AT MOST 1048576: true; the input reads as it did. -/
def fnNestedUptoRow : OpenClaim := { program := "ythimhjghepdccaa", sum := "f1c2a54e2da00e02586084ed062a152501eb6d1bafb50cea94dd9f6d9fbc7159", func := "loop.example/g01033/laws.FnNested", spec := "fnNested", unfollowed := true, recurses := true, apart := false, narrowed := true }
def FnNestedUptoSaid : Prop := fnNestedUptoRow.holds Try.pinned (OpenSpec.upto fnNestedSpec)

/-- 'laws.FnExactListCadences', WHERE WHAT IT READS IS OF BULK AT MOST 1048576: true; the input reads as it did. -/
def fnExactListCadencesUptoRow : OpenClaim := { program := "ythimhjghepdccaa", sum := "f1c2a54e2da00e02586084ed062a152501eb6d1bafb50cea94dd9f6d9fbc7159", func := "loop.example/g01033/laws.FnExactListCadences", spec := "fnExactListCadences", unfollowed := true, recurses := true, apart := false, narrowed := true }
def FnExactListCadencesUptoSaid : Prop := fnExactListCadencesUptoRow.holds Try.pinned (OpenSpec.upto fnExactListCadencesSpec)

end Rows
end Go.Proofs.Ythimhjghepdccaa
