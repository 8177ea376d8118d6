/-
  No cell of these rows narrows 'for every input' (looked for: loops, veiled, ifaces, maps, wideKeys, modest, calm, conditions, laid).
  DERIVED. THE GIVEN ROWS OF THIS SEAT. 10 by the template 'for every input the law returns true; each argument reads behind the call as it read before'; 0 by the template 'total and deterministic' (their statements: YtfelkjbfeenmbaaTotals.lean).
  GIVEN WITH THE SEED: the statements are not yours to turn. If you find one false, say at which input.
  Laid BY PROGRAM, IN A SANDBOX (cutbox-rows.mjs): the forced cells as the released guide's own fill.sh prints them over the translation 761d63e64ff6d14f… (all of the seat's roots in one cut). By AI agents, Wed Nov 11 2026. No macro, syntax, notation, axiom, sorry.
-/
import Derived.Test.YtfelkjbfeenmbaaChecked
import GoSem.Claim
import GoSem.ClaimJoined
import GoSem.ClaimMapViews
import Derived.JoinedTies
import Derived.KernelRfl
namespace Go.Proofs.Ytfelkjbfeenmbaa
/- THE CELL 'sum', in the pinned program and in every row, IS THE sha256 OF THE DUMP (.gsa) THAT YtfelkjbfeenmbaaProg.lean LOADS. Nothing in Lean hashes anything: it is a label: what it is worth is what the hold of that sum in a sandbox is worth. -/
noncomputable def Try.pinned : Pinned := { name := "ytfelkjbfeenmbaa", sum := "761d63e64ff6d14f6fc950d98e3fe6376c6378aa929fe0e31e2436e76586ad48", checked := Try.checked }
namespace Rows
def none {H : Type} : Left H := { results := [], args := [] }

/-- 'laws.FnExactValidSyllable': WHATEVER THE INPUT: true; the input reads as it did. -/
def fnExactValidSyllableSpec : ChangeSpec := { name := "fnExactValidSyllable", fn := fun _ => fun
  | [d] => { results := [.lit (.bool true)], args := [d] }
  | _ => none }
def fnExactValidSyllableRow : OpenClaim := { program := "ytfelkjbfeenmbaa", sum := "761d63e64ff6d14f6fc950d98e3fe6376c6378aa929fe0e31e2436e76586ad48", func := "loop.example/g01033/laws.FnExactValidSyllable", spec := "fnExactValidSyllable", plainKeys := false, apart := false }
def FnExactValidSyllableSaid : Prop := fnExactValidSyllableRow.holds Try.pinned (OpenSpec.ofChange fnExactValidSyllableSpec)

/-- ITS FALSE NEIGHBOUR: 'it returns false'. Refute it at one input. -/
def fnExactValidSyllableWrong : ChangeSpec := { name := "fnExactValidSyllable", fn := fun _ => fun
  | [d] => { results := [.lit (.bool false)], args := [d] }
  | _ => none }
def FnExactValidSyllableWrongFalsely : Prop := fnExactValidSyllableRow.holds Try.pinned (OpenSpec.ofChange fnExactValidSyllableWrong)

/-- 'laws.FnExactValidSyllables': WHATEVER THE INPUT: true; the input reads as it did. -/
def fnExactValidSyllablesSpec : ChangeSpec := { name := "fnExactValidSyllables", fn := fun _ => fun
  | [d] => { results := [.lit (.bool true)], args := [d] }
  | _ => none }
def fnExactValidSyllablesRow : OpenClaim := { program := "ytfelkjbfeenmbaa", sum := "761d63e64ff6d14f6fc950d98e3fe6376c6378aa929fe0e31e2436e76586ad48", func := "loop.example/g01033/laws.FnExactValidSyllables", spec := "fnExactValidSyllables", plainKeys := false, apart := false }
def FnExactValidSyllablesSaid : Prop := fnExactValidSyllablesRow.holds Try.pinned (OpenSpec.ofChange fnExactValidSyllablesSpec)

/-- ITS FALSE NEIGHBOUR: 'it returns false'. Refute it at one input. -/
def fnExactValidSyllablesWrong : ChangeSpec := { name := "fnExactValidSyllables", fn := fun _ => fun
  | [d] => { results := [.lit (.bool false)], args := [d] }
  | _ => none }
def FnExactValidSyllablesWrongFalsely : Prop := fnExactValidSyllablesRow.holds Try.pinned (OpenSpec.ofChange fnExactValidSyllablesWrong)

/-- 'laws.FnExactSyllableNamed': WHATEVER THE INPUT: true; the input reads as it did. -/
def fnExactSyllableNamedSpec : ChangeSpec := { name := "fnExactSyllableNamed", fn := fun _ => fun
  | [d1, d2] => { results := [.lit (.bool true)], args := [d1, d2] }
  | _ => none }
def fnExactSyllableNamedRow : OpenClaim := { program := "ytfelkjbfeenmbaa", sum := "761d63e64ff6d14f6fc950d98e3fe6376c6378aa929fe0e31e2436e76586ad48", func := "loop.example/g01033/laws.FnExactSyllableNamed", spec := "fnExactSyllableNamed", unfollowed := true, recurses := true, plainKeys := false, apart := false }
def FnExactSyllableNamedSaid : Prop := fnExactSyllableNamedRow.holds Try.pinned (OpenSpec.ofChange fnExactSyllableNamedSpec)

/-- ITS FALSE NEIGHBOUR: 'it returns false'. Refute it at one input. -/
def fnExactSyllableNamedWrong : ChangeSpec := { name := "fnExactSyllableNamed", fn := fun _ => fun
  | [d1, d2] => { results := [.lit (.bool false)], args := [d1, d2] }
  | _ => none }
def FnExactSyllableNamedWrongFalsely : Prop := fnExactSyllableNamedRow.holds Try.pinned (OpenSpec.ofChange fnExactSyllableNamedWrong)

/-- 'laws.FnExactComposedUnits': WHATEVER THE INPUT: true; the input reads as it did. -/
def fnExactComposedUnitsSpec : ChangeSpec := { name := "fnExactComposedUnits", fn := fun _ => fun
  | [d1, d2] => { results := [.lit (.bool true)], args := [d1, d2] }
  | _ => none }
def fnExactComposedUnitsRow : OpenClaim := { program := "ytfelkjbfeenmbaa", sum := "761d63e64ff6d14f6fc950d98e3fe6376c6378aa929fe0e31e2436e76586ad48", func := "loop.example/g01033/laws.FnExactComposedUnits", spec := "fnExactComposedUnits", unfollowed := true, recurses := true, plainKeys := false, apart := false }
def FnExactComposedUnitsSaid : Prop := fnExactComposedUnitsRow.holds Try.pinned (OpenSpec.ofChange fnExactComposedUnitsSpec)

/-- ITS FALSE NEIGHBOUR: 'it returns false'. Refute it at one input. -/
def fnExactComposedUnitsWrong : ChangeSpec := { name := "fnExactComposedUnits", fn := fun _ => fun
  | [d1, d2] => { results := [.lit (.bool false)], args := [d1, d2] }
  | _ => none }
def FnExactComposedUnitsWrongFalsely : Prop := fnExactComposedUnitsRow.holds Try.pinned (OpenSpec.ofChange fnExactComposedUnitsWrong)

/-- 'laws.FnExactHandsOf': WHATEVER THE INPUT: true; the input reads as it did. -/
def fnExactHandsOfSpec : ChangeSpec := { name := "fnExactHandsOf", fn := fun _ => fun
  | [d1, d2] => { results := [.lit (.bool true)], args := [d1, d2] }
  | _ => none }
def fnExactHandsOfRow : OpenClaim := { program := "ytfelkjbfeenmbaa", sum := "761d63e64ff6d14f6fc950d98e3fe6376c6378aa929fe0e31e2436e76586ad48", func := "loop.example/g01033/laws.FnExactHandsOf", spec := "fnExactHandsOf", unfollowed := true, recurses := true, plainKeys := false, apart := false }
def FnExactHandsOfSaid : Prop := fnExactHandsOfRow.holds Try.pinned (OpenSpec.ofChange fnExactHandsOfSpec)

/-- ITS FALSE NEIGHBOUR: 'it returns false'. Refute it at one input. -/
def fnExactHandsOfWrong : ChangeSpec := { name := "fnExactHandsOf", fn := fun _ => fun
  | [d1, d2] => { results := [.lit (.bool false)], args := [d1, d2] }
  | _ => none }
def FnExactHandsOfWrongFalsely : Prop := fnExactHandsOfRow.holds Try.pinned (OpenSpec.ofChange fnExactHandsOfWrong)

/-- 'laws.FnExactCountOf': WHATEVER THE INPUT: true; the input reads as it did. -/
def fnExactCountOfSpec : ChangeSpec := { name := "fnExactCountOf", fn := fun _ => fun
  | [d1, d2] => { results := [.lit (.bool true)], args := [d1, d2] }
  | _ => none }
def fnExactCountOfRow : OpenClaim := { program := "ytfelkjbfeenmbaa", sum := "761d63e64ff6d14f6fc950d98e3fe6376c6378aa929fe0e31e2436e76586ad48", func := "loop.example/g01033/laws.FnExactCountOf", spec := "fnExactCountOf", unfollowed := true, recurses := true, plainKeys := false, apart := false }
def FnExactCountOfSaid : Prop := fnExactCountOfRow.holds Try.pinned (OpenSpec.ofChange fnExactCountOfSpec)

/-- ITS FALSE NEIGHBOUR: 'it returns false'. Refute it at one input. -/
def fnExactCountOfWrong : ChangeSpec := { name := "fnExactCountOf", fn := fun _ => fun
  | [d1, d2] => { results := [.lit (.bool false)], args := [d1, d2] }
  | _ => none }
def FnExactCountOfWrongFalsely : Prop := fnExactCountOfRow.holds Try.pinned (OpenSpec.ofChange fnExactCountOfWrong)

/-- 'laws.FnExactLongestRun': WHATEVER THE INPUT: true; the input reads as it did. -/
def fnExactLongestRunSpec : ChangeSpec := { name := "fnExactLongestRun", fn := fun _ => fun
  | [d1, d2] => { results := [.lit (.bool true)], args := [d1, d2] }
  | _ => none }
def fnExactLongestRunRow : OpenClaim := { program := "ytfelkjbfeenmbaa", sum := "761d63e64ff6d14f6fc950d98e3fe6376c6378aa929fe0e31e2436e76586ad48", func := "loop.example/g01033/laws.FnExactLongestRun", spec := "fnExactLongestRun", unfollowed := true, recurses := true, plainKeys := false, apart := false }
def FnExactLongestRunSaid : Prop := fnExactLongestRunRow.holds Try.pinned (OpenSpec.ofChange fnExactLongestRunSpec)

/-- ITS FALSE NEIGHBOUR: 'it returns false'. Refute it at one input. -/
def fnExactLongestRunWrong : ChangeSpec := { name := "fnExactLongestRun", fn := fun _ => fun
  | [d1, d2] => { results := [.lit (.bool false)], args := [d1, d2] }
  | _ => none }
def FnExactLongestRunWrongFalsely : Prop := fnExactLongestRunRow.holds Try.pinned (OpenSpec.ofChange fnExactLongestRunWrong)

/-- 'laws.FnExactIsPlayable': WHATEVER THE INPUT: true; the input reads as it did. -/
def fnExactIsPlayableSpec : ChangeSpec := { name := "fnExactIsPlayable", fn := fun _ => fun
  | [d1, d2, d3] => { results := [.lit (.bool true)], args := [d1, d2, d3] }
  | _ => none }
def fnExactIsPlayableRow : OpenClaim := { program := "ytfelkjbfeenmbaa", sum := "761d63e64ff6d14f6fc950d98e3fe6376c6378aa929fe0e31e2436e76586ad48", func := "loop.example/g01033/laws.FnExactIsPlayable", spec := "fnExactIsPlayable", unfollowed := true, recurses := true, plainKeys := false, apart := false }
def FnExactIsPlayableSaid : Prop := fnExactIsPlayableRow.holds Try.pinned (OpenSpec.ofChange fnExactIsPlayableSpec)

/-- ITS FALSE NEIGHBOUR: 'it returns false'. Refute it at one input. -/
def fnExactIsPlayableWrong : ChangeSpec := { name := "fnExactIsPlayable", fn := fun _ => fun
  | [d1, d2, d3] => { results := [.lit (.bool false)], args := [d1, d2, d3] }
  | _ => none }
def FnExactIsPlayableWrongFalsely : Prop := fnExactIsPlayableRow.holds Try.pinned (OpenSpec.ofChange fnExactIsPlayableWrong)

/-- 'laws.FnExactFirstComposed': WHATEVER THE INPUT: true; the input reads as it did. -/
def fnExactFirstComposedSpec : ChangeSpec := { name := "fnExactFirstComposed", fn := fun _ => fun
  | [d1, d2, d3] => { results := [.lit (.bool true)], args := [d1, d2, d3] }
  | _ => none }
def fnExactFirstComposedRow : OpenClaim := { program := "ytfelkjbfeenmbaa", sum := "761d63e64ff6d14f6fc950d98e3fe6376c6378aa929fe0e31e2436e76586ad48", func := "loop.example/g01033/laws.FnExactFirstComposed", spec := "fnExactFirstComposed", recurses := true, plainKeys := false, apart := false }
def FnExactFirstComposedSaid : Prop := fnExactFirstComposedRow.holds Try.pinned (OpenSpec.ofChange fnExactFirstComposedSpec)

/-- ITS FALSE NEIGHBOUR: 'it returns false'. Refute it at one input. -/
def fnExactFirstComposedWrong : ChangeSpec := { name := "fnExactFirstComposed", fn := fun _ => fun
  | [d1, d2, d3] => { results := [.lit (.bool false)], args := [d1, d2, d3] }
  | _ => none }
def FnExactFirstComposedWrongFalsely : Prop := fnExactFirstComposedRow.holds Try.pinned (OpenSpec.ofChange fnExactFirstComposedWrong)

/-- 'laws.FnExactComposedText': WHATEVER THE INPUT: true; the input reads as it did. -/
def fnExactComposedTextSpec : ChangeSpec := { name := "fnExactComposedText", fn := fun _ => fun
  | [d1, d2] => { results := [.lit (.bool true)], args := [d1, d2] }
  | _ => none }
def fnExactComposedTextRow : OpenClaim := { program := "ytfelkjbfeenmbaa", sum := "761d63e64ff6d14f6fc950d98e3fe6376c6378aa929fe0e31e2436e76586ad48", func := "loop.example/g01033/laws.FnExactComposedText", spec := "fnExactComposedText", inPlace := ["internal/abi.NoEscape", "internal/bytealg.MakeNoZero"], unfollowed := true, recurses := true, plainKeys := false, apart := false }
def FnExactComposedTextSaid : Prop := fnExactComposedTextRow.holds Try.pinned (OpenSpec.ofChange fnExactComposedTextSpec)

/-- ITS FALSE NEIGHBOUR: 'it returns false'. Refute it at one input. -/
def fnExactComposedTextWrong : ChangeSpec := { name := "fnExactComposedText", fn := fun _ => fun
  | [d1, d2] => { results := [.lit (.bool false)], args := [d1, d2] }
  | _ => none }
def FnExactComposedTextWrongFalsely : Prop := fnExactComposedTextRow.holds Try.pinned (OpenSpec.ofChange fnExactComposedTextWrong)

/- THE SECOND FORM. 'bulk': how many values and letters a reading holds, each counted each time it is reached (what is shared counts as often as it is met; a slice's spare places count too). A statement '..UptoSaid' is the law's where the arguments, and the package variables that the reading takes, are together of bulk at most 1048576: NARROWER than '..Said'. Prove '..Said' where nothing that the law and all that it calls make is longer than what came in: it says more and counts as full. Else prove '..UptoSaid'. A law counts once. -/
mutual
def uptoBulk {H : Type} : DataW H → Nat
  | .lit (.string bytes) => bytes.length + 1
  | .lit _ => 1
  | .nil => 1
  | .ptr d => uptoBulk d + 1
  | .slice elems spare => uptoBulkAll elems + uptoBulkAll spare + 1
  | .agg parts => uptoBulkAll parts + 1
  | .iface _ d => uptoBulk d + 1
  | .map entries => uptoBulkEntries entries + 1
  | .held _ => 1
def uptoBulkAll {H : Type} : List (DataW H) → Nat
  | [] => 0
  | d :: r => uptoBulk d + uptoBulkAll r
def uptoBulkEntries {H : Type} : List (Lit × DataW H) → Nat
  | [] => 0
  | x :: r => uptoBulkEntry x + uptoBulkEntries r
def uptoBulkEntry {H : Type} : Lit × DataW H → Nat
  | (.string bytes, d) => bytes.length + uptoBulk d + 1
  | (_, d) => uptoBulk d + 1
 end
def uptoSmall : (H : Type) → List (DataW H) → Bool := fun _ ds => decide (uptoBulkAll ds ≤ 1048576)
def OpenSpec.upto (s : _root_.Go.ChangeSpec) : _root_.Go.OpenSpec := { _root_.Go.OpenSpec.ofChange s with cond := some uptoSmall }

/-- 'laws.FnExactValidSyllable', WHERE WHAT IT READS IS OF BULK AT MOST 1048576: true; the input reads as it did. -/
def fnExactValidSyllableUptoRow : OpenClaim := { program := "ytfelkjbfeenmbaa", sum := "761d63e64ff6d14f6fc950d98e3fe6376c6378aa929fe0e31e2436e76586ad48", func := "loop.example/g01033/laws.FnExactValidSyllable", spec := "fnExactValidSyllable", plainKeys := false, apart := false, narrowed := true }
def FnExactValidSyllableUptoSaid : Prop := fnExactValidSyllableUptoRow.holds Try.pinned (OpenSpec.upto fnExactValidSyllableSpec)

/-- 'laws.FnExactValidSyllables', WHERE WHAT IT READS IS OF BULK AT MOST 1048576: true; the input reads as it did. -/
def fnExactValidSyllablesUptoRow : OpenClaim := { program := "ytfelkjbfeenmbaa", sum := "761d63e64ff6d14f6fc950d98e3fe6376c6378aa929fe0e31e2436e76586ad48", func := "loop.example/g01033/laws.FnExactValidSyllables", spec := "fnExactValidSyllables", plainKeys := false, apart := false, narrowed := true }
def FnExactValidSyllablesUptoSaid : Prop := fnExactValidSyllablesUptoRow.holds Try.pinned (OpenSpec.upto fnExactValidSyllablesSpec)

/-- 'laws.FnExactSyllableNamed', WHERE WHAT IT READS IS OF BULK AT MOST 1048576: true; the input reads as it did. -/
def fnExactSyllableNamedUptoRow : OpenClaim := { program := "ytfelkjbfeenmbaa", sum := "761d63e64ff6d14f6fc950d98e3fe6376c6378aa929fe0e31e2436e76586ad48", func := "loop.example/g01033/laws.FnExactSyllableNamed", spec := "fnExactSyllableNamed", unfollowed := true, recurses := true, plainKeys := false, apart := false, narrowed := true }
def FnExactSyllableNamedUptoSaid : Prop := fnExactSyllableNamedUptoRow.holds Try.pinned (OpenSpec.upto fnExactSyllableNamedSpec)

/-- 'laws.FnExactComposedUnits', WHERE WHAT IT READS IS OF BULK AT MOST 1048576: true; the input reads as it did. -/
def fnExactComposedUnitsUptoRow : OpenClaim := { program := "ytfelkjbfeenmbaa", sum := "761d63e64ff6d14f6fc950d98e3fe6376c6378aa929fe0e31e2436e76586ad48", func := "loop.example/g01033/laws.FnExactComposedUnits", spec := "fnExactComposedUnits", unfollowed := true, recurses := true, plainKeys := false, apart := false, narrowed := true }
def FnExactComposedUnitsUptoSaid : Prop := fnExactComposedUnitsUptoRow.holds Try.pinned (OpenSpec.upto fnExactComposedUnitsSpec)

/-- 'laws.FnExactHandsOf', WHERE WHAT IT READS IS OF BULK AT MOST 1048576: true; the input reads as it did. -/
def fnExactHandsOfUptoRow : OpenClaim := { program := "ytfelkjbfeenmbaa", sum := "761d63e64ff6d14f6fc950d98e3fe6376c6378aa929fe0e31e2436e76586ad48", func := "loop.example/g01033/laws.FnExactHandsOf", spec := "fnExactHandsOf", unfollowed := true, recurses := true, plainKeys := false, apart := false, narrowed := true }
def FnExactHandsOfUptoSaid : Prop := fnExactHandsOfUptoRow.holds Try.pinned (OpenSpec.upto fnExactHandsOfSpec)

/-- 'laws.FnExactCountOf', WHERE WHAT IT READS IS OF BULK AT MOST 1048576: true; the input reads as it did. -/
def fnExactCountOfUptoRow : OpenClaim := { program := "ytfelkjbfeenmbaa", sum := "761d63e64ff6d14f6fc950d98e3fe6376c6378aa929fe0e31e2436e76586ad48", func := "loop.example/g01033/laws.FnExactCountOf", spec := "fnExactCountOf", unfollowed := true, recurses := true, plainKeys := false, apart := false, narrowed := true }
def FnExactCountOfUptoSaid : Prop := fnExactCountOfUptoRow.holds Try.pinned (OpenSpec.upto fnExactCountOfSpec)

/-- 'laws.FnExactLongestRun', WHERE WHAT IT READS IS OF BULK AT MOST 1048576: true; the input reads as it did. -/
def fnExactLongestRunUptoRow : OpenClaim := { program := "ytfelkjbfeenmbaa", sum := "761d63e64ff6d14f6fc950d98e3fe6376c6378aa929fe0e31e2436e76586ad48", func := "loop.example/g01033/laws.FnExactLongestRun", spec := "fnExactLongestRun", unfollowed := true, recurses := true, plainKeys := false, apart := false, narrowed := true }
def FnExactLongestRunUptoSaid : Prop := fnExactLongestRunUptoRow.holds Try.pinned (OpenSpec.upto fnExactLongestRunSpec)

/-- 'laws.FnExactIsPlayable', WHERE WHAT IT READS IS OF BULK AT MOST 1048576: true; the input reads as it did. -/
def fnExactIsPlayableUptoRow : OpenClaim := { program := "ytfelkjbfeenmbaa", sum := "761d63e64ff6d14f6fc950d98e3fe6376c6378aa929fe0e31e2436e76586ad48", func := "loop.example/g01033/laws.FnExactIsPlayable", spec := "fnExactIsPlayable", unfollowed := true, recurses := true, plainKeys := false, apart := false, narrowed := true }
def FnExactIsPlayableUptoSaid : Prop := fnExactIsPlayableUptoRow.holds Try.pinned (OpenSpec.upto fnExactIsPlayableSpec)

/-- 'laws.FnExactFirstComposed', WHERE WHAT IT READS IS OF BULK AT MOST 1048576: true; the input reads as it did. -/
def fnExactFirstComposedUptoRow : OpenClaim := { program := "ytfelkjbfeenmbaa", sum := "761d63e64ff6d14f6fc950d98e3fe6376c6378aa929fe0e31e2436e76586ad48", func := "loop.example/g01033/laws.FnExactFirstComposed", spec := "fnExactFirstComposed", recurses := true, plainKeys := false, apart := false, narrowed := true }
def FnExactFirstComposedUptoSaid : Prop := fnExactFirstComposedUptoRow.holds Try.pinned (OpenSpec.upto fnExactFirstComposedSpec)

/-- 'laws.FnExactComposedText', WHERE WHAT IT READS IS OF BULK AT MOST 1048576: true; the input reads as it did. -/
def fnExactComposedTextUptoRow : OpenClaim := { program := "ytfelkjbfeenmbaa", sum := "761d63e64ff6d14f6fc950d98e3fe6376c6378aa929fe0e31e2436e76586ad48", func := "loop.example/g01033/laws.FnExactComposedText", spec := "fnExactComposedText", inPlace := ["internal/abi.NoEscape", "internal/bytealg.MakeNoZero"], unfollowed := true, recurses := true, plainKeys := false, apart := false, narrowed := true }
def FnExactComposedTextUptoSaid : Prop := fnExactComposedTextUptoRow.holds Try.pinned (OpenSpec.upto fnExactComposedTextSpec)

end Rows
end Go.Proofs.Ytfelkjbfeenmbaa
