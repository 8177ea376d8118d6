/-
  No cell of these rows narrows 'for every input' (looked for: loops, veiled, ifaces, maps, wideKeys, modest, calm, conditions, laid).
  DERIVED. THE GIVEN ROWS OF THIS SEAT. 5 by the template 'for every input the law returns true; each argument reads behind the call as it read before'; 0 by the template 'total and deterministic' (their statements: YticifedehhnjhaaTotals.lean).
  GIVEN WITH THE SEED: the statements are not yours to turn. If you find one false, say at which input.
  Laid BY PROGRAM, IN A SANDBOX (cutbox-rows.mjs): the forced cells as the released guide's own fill.sh prints them over the translation 7516e17aaafa12b1… (all of the seat's roots in one cut). By AI agents, Wed Nov 11 2026. No macro, syntax, notation, axiom, sorry.
-/
import Derived.Test.YticifedehhnjhaaChecked
import GoSem.Claim
import GoSem.ClaimJoined
import GoSem.ClaimMapViews
import Derived.JoinedTies
import Derived.KernelRfl
namespace Go.Proofs.Yticifedehhnjhaa
/- THE CELL 'sum', in the pinned program and in every row, IS THE sha256 OF THE DUMP (.gsa) THAT YticifedehhnjhaaProg.lean LOADS. Nothing in Lean hashes anything: it is a label: what it is worth is what the hold of that sum in a sandbox is worth. -/
noncomputable def Try.pinned : Pinned := { name := "yticifedehhnjhaa", sum := "7516e17aaafa12b1ef4f4973342dc27f6c35b6f47ed57add8c42b827ad08d01d", checked := Try.checked }
namespace Rows
def none {H : Type} : Left H := { results := [], args := [] }

/-- 'laws.FnSearch': WHATEVER THE INPUT: true; the input reads as it did. -/
def fnSearchSpec : ChangeSpec := { name := "fnSearch", fn := fun _ => fun
  | [d1, d2] => { results := [.lit (.bool true)], args := [d1, d2] }
  | _ => none }
def fnSearchRow : OpenClaim := { program := "yticifedehhnjhaa", sum := "7516e17aaafa12b1ef4f4973342dc27f6c35b6f47ed57add8c42b827ad08d01d", func := "loop.example/g01033/laws.FnSearch", spec := "fnSearch", unfollowed := true, recurses := true, apart := false }
def FnSearchSaid : Prop := fnSearchRow.holds Try.pinned (OpenSpec.ofChange fnSearchSpec)

/-- ITS FALSE NEIGHBOUR: 'it returns false'. Refute it at one input. -/
def fnSearchWrong : ChangeSpec := { name := "fnSearch", fn := fun _ => fun
  | [d1, d2] => { results := [.lit (.bool false)], args := [d1, d2] }
  | _ => none }
def FnSearchWrongFalsely : Prop := fnSearchRow.holds Try.pinned (OpenSpec.ofChange fnSearchWrong)

/-- 'laws.FnExactBestProgramme': WHATEVER THE INPUT: true; the input reads as it did. -/
def fnExactBestProgrammeSpec : ChangeSpec := { name := "fnExactBestProgramme", fn := fun _ => fun
  | [d1, d2, d3, d4, d5] => { results := [.lit (.bool true)], args := [d1, d2, d3, d4, d5] }
  | _ => none }
def fnExactBestProgrammeRow : OpenClaim := { program := "yticifedehhnjhaa", sum := "7516e17aaafa12b1ef4f4973342dc27f6c35b6f47ed57add8c42b827ad08d01d", func := "loop.example/g01033/laws.FnExactBestProgramme", spec := "fnExactBestProgramme", recurses := true, apart := false }
def FnExactBestProgrammeSaid : Prop := fnExactBestProgrammeRow.holds Try.pinned (OpenSpec.ofChange fnExactBestProgrammeSpec)

/-- ITS FALSE NEIGHBOUR: 'it returns false'. Refute it at one input. -/
def fnExactBestProgrammeWrong : ChangeSpec := { name := "fnExactBestProgramme", fn := fun _ => fun
  | [d1, d2, d3, d4, d5] => { results := [.lit (.bool false)], args := [d1, d2, d3, d4, d5] }
  | _ => none }
def FnExactBestProgrammeWrongFalsely : Prop := fnExactBestProgrammeRow.holds Try.pinned (OpenSpec.ofChange fnExactBestProgrammeWrong)

/-- 'laws.FnProgrammes': WHATEVER THE INPUT: true; the input reads as it did. -/
def fnProgrammesSpec : ChangeSpec := { name := "fnProgrammes", fn := fun _ => fun
  | [d] => { results := [.lit (.bool true)], args := [d] }
  | _ => none }
def fnProgrammesRow : OpenClaim := { program := "yticifedehhnjhaa", sum := "7516e17aaafa12b1ef4f4973342dc27f6c35b6f47ed57add8c42b827ad08d01d", func := "loop.example/g01033/laws.FnProgrammes", spec := "fnProgrammes", recurses := true, apart := false }
def FnProgrammesSaid : Prop := fnProgrammesRow.holds Try.pinned (OpenSpec.ofChange fnProgrammesSpec)

/-- ITS FALSE NEIGHBOUR: 'it returns false'. Refute it at one input. -/
def fnProgrammesWrong : ChangeSpec := { name := "fnProgrammes", fn := fun _ => fun
  | [d] => { results := [.lit (.bool false)], args := [d] }
  | _ => none }
def FnProgrammesWrongFalsely : Prop := fnProgrammesRow.holds Try.pinned (OpenSpec.ofChange fnProgrammesWrong)

/-- 'laws.FnCovers': WHATEVER THE INPUT: true; the input reads as it did. -/
def fnCoversSpec : ChangeSpec := { name := "fnCovers", fn := fun _ => fun
  | [d1, d2] => { results := [.lit (.bool true)], args := [d1, d2] }
  | _ => none }
def fnCoversRow : OpenClaim := { program := "yticifedehhnjhaa", sum := "7516e17aaafa12b1ef4f4973342dc27f6c35b6f47ed57add8c42b827ad08d01d", func := "loop.example/g01033/laws.FnCovers", spec := "fnCovers", unfollowed := true, recurses := true, apart := false }
def FnCoversSaid : Prop := fnCoversRow.holds Try.pinned (OpenSpec.ofChange fnCoversSpec)

/-- ITS FALSE NEIGHBOUR: 'it returns false'. Refute it at one input. -/
def fnCoversWrong : ChangeSpec := { name := "fnCovers", fn := fun _ => fun
  | [d1, d2] => { results := [.lit (.bool false)], args := [d1, d2] }
  | _ => none }
def FnCoversWrongFalsely : Prop := fnCoversRow.holds Try.pinned (OpenSpec.ofChange fnCoversWrong)

/-- 'laws.FnNearness': WHATEVER THE INPUT: true; the input reads as it did. -/
def fnNearnessSpec : ChangeSpec := { name := "fnNearness", fn := fun _ => fun
  | [d1, d2] => { results := [.lit (.bool true)], args := [d1, d2] }
  | _ => none }
def fnNearnessRow : OpenClaim := { program := "yticifedehhnjhaa", sum := "7516e17aaafa12b1ef4f4973342dc27f6c35b6f47ed57add8c42b827ad08d01d", func := "loop.example/g01033/laws.FnNearness", spec := "fnNearness", unfollowed := true, recurses := true, apart := false }
def FnNearnessSaid : Prop := fnNearnessRow.holds Try.pinned (OpenSpec.ofChange fnNearnessSpec)

/-- ITS FALSE NEIGHBOUR: 'it returns false'. Refute it at one input. -/
def fnNearnessWrong : ChangeSpec := { name := "fnNearness", fn := fun _ => fun
  | [d1, d2] => { results := [.lit (.bool false)], args := [d1, d2] }
  | _ => none }
def FnNearnessWrongFalsely : Prop := fnNearnessRow.holds Try.pinned (OpenSpec.ofChange fnNearnessWrong)

/- THE SECOND FORM. 'bulk': how many values and letters a reading holds, each counted each time it is reached (what is shared counts as often as it is met; a slice's spare places count too). A statement '..UptoSaid' is the law's where the arguments, and the package variables that the reading takes, are together of bulk at most 1048576: NARROWER than '..Said'. Prove '..Said' where nothing that the law and all that it calls make is longer than what came in: it says more and counts as full. Else prove '..UptoSaid'. A law counts once. -/
mutual
def uptoBulk {H : Type} : DataW H → Nat
  | .lit (.string bytes) => bytes.length + 1
  | .lit _ => 1
  | .nil => 1
  | .ptr d => uptoBulk d + 1
  | .slice elems spare => uptoBulkAll elems + uptoBulkAll spare + 1
  | .agg parts => uptoBulkAll parts + 1
  | .iface _ d => uptoBulk d + 1
  | .map entries => uptoBulkEntries entries + 1
  | .held _ => 1
def uptoBulkAll {H : Type} : List (DataW H) → Nat
  | [] => 0
  | d :: r => uptoBulk d + uptoBulkAll r
def uptoBulkEntries {H : Type} : List (Lit × DataW H) → Nat
  | [] => 0
  | x :: r => uptoBulkEntry x + uptoBulkEntries r
def uptoBulkEntry {H : Type} : Lit × DataW H → Nat
  | (.string bytes, d) => bytes.length + uptoBulk d + 1
  | (_, d) => uptoBulk d + 1
 end
def uptoSmall : (H : Type) → List (DataW H) → Bool := fun _ ds => decide (uptoBulkAll ds ≤ 1048576)
def OpenSpec.upto (s : _root_.Go.ChangeSpec) : _root_.Go.OpenSpec := { _root_.Go.OpenSpec.ofChange s with cond := some uptoSmall }

/-- 'laws.FnSearch', WHERE WHAT IT READS IS OF BULK AT MOST 1048576: true; the input reads as it did. -/
def fnSearchUptoRow : OpenClaim := { program := "yticifedehhnjhaa", sum := "7516e17aaafa12b1ef4f4973342dc27f6c35b6f47ed57add8c42b827ad08d01d", func := "loop.example/g01033/laws.FnSearch", spec := "fnSearch", unfollowed := true, recurses := true, apart := false, narrowed := true }
def FnSearchUptoSaid : Prop := fnSearchUptoRow.holds Try.pinned (OpenSpec.upto fnSearchSpec)

/-- 'laws.FnExactBestProgramme', WHERE WHAT IT READS IS OF BULK AT MOST 1048576: true; the input reads as it did. -/
def fnExactBestProgrammeUptoRow : OpenClaim := { program := "yticifedehhnjhaa", sum := "7516e17aaafa12b1ef4f4973342dc27f6c35b6f47ed57add8c42b827ad08d01d", func := "loop.example/g01033/laws.FnExactBestProgramme", spec := "fnExactBestProgramme", recurses := true, apart := false, narrowed := true }
def FnExactBestProgrammeUptoSaid : Prop := fnExactBestProgrammeUptoRow.holds Try.pinned (OpenSpec.upto fnExactBestProgrammeSpec)

/-- 'laws.FnProgrammes', WHERE WHAT IT READS IS OF BULK AT MOST 1048576: true; the input reads as it did. -/
def fnProgrammesUptoRow : OpenClaim := { program := "yticifedehhnjhaa", sum := "7516e17aaafa12b1ef4f4973342dc27f6c35b6f47ed57add8c42b827ad08d01d", func := "loop.example/g01033/laws.FnProgrammes", spec := "fnProgrammes", recurses := true, apart := false, narrowed := true }
def FnProgrammesUptoSaid : Prop := fnProgrammesUptoRow.holds Try.pinned (OpenSpec.upto fnProgrammesSpec)

/-- 'laws.FnCovers', WHERE WHAT IT READS IS OF BULK AT MOST 1048576: true; the input reads as it did. -/
def fnCoversUptoRow : OpenClaim := { program := "yticifedehhnjhaa", sum := "7516e17aaafa12b1ef4f4973342dc27f6c35b6f47ed57add8c42b827ad08d01d", func := "loop.example/g01033/laws.FnCovers", spec := "fnCovers", unfollowed := true, recurses := true, apart := false, narrowed := true }
def FnCoversUptoSaid : Prop := fnCoversUptoRow.holds Try.pinned (OpenSpec.upto fnCoversSpec)

/-- 'laws.FnNearness', WHERE WHAT IT READS IS OF BULK AT MOST 1048576: true; the input reads as it did. -/
def fnNearnessUptoRow : OpenClaim := { program := "yticifedehhnjhaa", sum := "7516e17aaafa12b1ef4f4973342dc27f6c35b6f47ed57add8c42b827ad08d01d", func := "loop.example/g01033/laws.FnNearness", spec := "fnNearness", unfollowed := true, recurses := true, apart := false, narrowed := true }
def FnNearnessUptoSaid : Prop := fnNearnessUptoRow.holds Try.pinned (OpenSpec.upto fnNearnessSpec)

end Rows
end Go.Proofs.Yticifedehhnjhaa
