/-
  No cell of these rows narrows 'for every input' (looked for: loops, veiled, ifaces, maps, wideKeys, modest, calm, conditions, laid).
  DERIVED. THE GIVEN ROWS OF THIS SEAT. 6 by the template 'for every input the law returns true; each argument reads behind the call as it read before'; 0 by the template 'total and deterministic' (their statements: YtojmfjhbfcnecaaTotals.lean).
  GIVEN WITH THE SEED: the statements are not yours to turn. If you find one false, say at which input.
  Laid BY PROGRAM, IN A SANDBOX (cutbox-rows.mjs): the forced cells as the released guide's own fill.sh prints them over the translation b75c05a846a0307b… (all of the seat's roots in one cut). By AI agents, Wed Nov 11 2026. No macro, syntax, notation, axiom, sorry.
-/
import Derived.Test.YtojmfjhbfcnecaaChecked
import GoSem.Claim
import GoSem.ClaimJoined
import GoSem.ClaimMapViews
import Derived.JoinedTies
import Derived.KernelRfl
namespace Go.Proofs.Ytojmfjhbfcnecaa
/- THE CELL 'sum', in the pinned program and in every row, IS THE sha256 OF THE DUMP (.gsa) THAT YtojmfjhbfcnecaaProg.lean LOADS. Nothing in Lean hashes anything: it is a label: what it is worth is what the hold of that sum in a sandbox is worth. -/
noncomputable def Try.pinned : Pinned := { name := "ytojmfjhbfcnecaa", sum := "b75c05a846a0307bc7616be1d869ef7ccbb17976472ab6c9fe40d080f111906d", checked := Try.checked }
namespace Rows
def none {H : Type} : Left H := { results := [], args := [] }

/-- 'laws.FnExactPossibleRagas': WHATEVER THE INPUT: true; the input reads as it did. -/
def fnExactPossibleRagasSpec : ChangeSpec := { name := "fnExactPossibleRagas", fn := fun _ => fun
  | [d1, d2] => { results := [.lit (.bool true)], args := [d1, d2] }
  | _ => none }
def fnExactPossibleRagasRow : OpenClaim := { program := "ytojmfjhbfcnecaa", sum := "b75c05a846a0307bc7616be1d869ef7ccbb17976472ab6c9fe40d080f111906d", func := "loop.example/g01033/laws.FnExactPossibleRagas", spec := "fnExactPossibleRagas", unfollowed := true, recurses := true, apart := false }
def FnExactPossibleRagasSaid : Prop := fnExactPossibleRagasRow.holds Try.pinned (OpenSpec.ofChange fnExactPossibleRagasSpec)

/-- ITS FALSE NEIGHBOUR: 'it returns false'. Refute it at one input. -/
def fnExactPossibleRagasWrong : ChangeSpec := { name := "fnExactPossibleRagas", fn := fun _ => fun
  | [d1, d2] => { results := [.lit (.bool false)], args := [d1, d2] }
  | _ => none }
def FnExactPossibleRagasWrongFalsely : Prop := fnExactPossibleRagasRow.holds Try.pinned (OpenSpec.ofChange fnExactPossibleRagasWrong)

/-- 'laws.FnExactGroupRagas': WHATEVER THE INPUT: true; the input reads as it did. -/
def fnExactGroupRagasSpec : ChangeSpec := { name := "fnExactGroupRagas", fn := fun _ => fun
  | [d1, d2] => { results := [.lit (.bool true)], args := [d1, d2] }
  | _ => none }
def fnExactGroupRagasRow : OpenClaim := { program := "ytojmfjhbfcnecaa", sum := "b75c05a846a0307bc7616be1d869ef7ccbb17976472ab6c9fe40d080f111906d", func := "loop.example/g01033/laws.FnExactGroupRagas", spec := "fnExactGroupRagas", unfollowed := true, recurses := true, apart := false }
def FnExactGroupRagasSaid : Prop := fnExactGroupRagasRow.holds Try.pinned (OpenSpec.ofChange fnExactGroupRagasSpec)

/-- ITS FALSE NEIGHBOUR: 'it returns false'. Refute it at one input. -/
def fnExactGroupRagasWrong : ChangeSpec := { name := "fnExactGroupRagas", fn := fun _ => fun
  | [d1, d2] => { results := [.lit (.bool false)], args := [d1, d2] }
  | _ => none }
def FnExactGroupRagasWrongFalsely : Prop := fnExactGroupRagasRow.holds Try.pinned (OpenSpec.ofChange fnExactGroupRagasWrong)

/-- 'laws.FnPatterns': WHATEVER THE INPUT: true; the input reads as it did. -/
def fnPatternsSpec : ChangeSpec := { name := "fnPatterns", fn := fun _ => fun
  | [d1, d2] => { results := [.lit (.bool true)], args := [d1, d2] }
  | _ => none }
def fnPatternsRow : OpenClaim := { program := "ytojmfjhbfcnecaa", sum := "b75c05a846a0307bc7616be1d869ef7ccbb17976472ab6c9fe40d080f111906d", func := "loop.example/g01033/laws.FnPatterns", spec := "fnPatterns", unfollowed := true, recurses := true, apart := false }
def FnPatternsSaid : Prop := fnPatternsRow.holds Try.pinned (OpenSpec.ofChange fnPatternsSpec)

/-- ITS FALSE NEIGHBOUR: 'it returns false'. Refute it at one input. -/
def fnPatternsWrong : ChangeSpec := { name := "fnPatterns", fn := fun _ => fun
  | [d1, d2] => { results := [.lit (.bool false)], args := [d1, d2] }
  | _ => none }
def FnPatternsWrongFalsely : Prop := fnPatternsRow.holds Try.pinned (OpenSpec.ofChange fnPatternsWrong)

/-- 'laws.FnNumbering': WHATEVER THE INPUT: true; the input reads as it did. -/
def fnNumberingSpec : ChangeSpec := { name := "fnNumbering", fn := fun _ => fun
  | [d1, d2] => { results := [.lit (.bool true)], args := [d1, d2] }
  | _ => none }
def fnNumberingRow : OpenClaim := { program := "ytojmfjhbfcnecaa", sum := "b75c05a846a0307bc7616be1d869ef7ccbb17976472ab6c9fe40d080f111906d", func := "loop.example/g01033/laws.FnNumbering", spec := "fnNumbering", unfollowed := true, recurses := true, apart := false }
def FnNumberingSaid : Prop := fnNumberingRow.holds Try.pinned (OpenSpec.ofChange fnNumberingSpec)

/-- ITS FALSE NEIGHBOUR: 'it returns false'. Refute it at one input. -/
def fnNumberingWrong : ChangeSpec := { name := "fnNumbering", fn := fun _ => fun
  | [d1, d2] => { results := [.lit (.bool false)], args := [d1, d2] }
  | _ => none }
def FnNumberingWrongFalsely : Prop := fnNumberingRow.holds Try.pinned (OpenSpec.ofChange fnNumberingWrong)

/-- 'laws.FnProducts': WHATEVER THE INPUT: true; the input reads as it did. -/
def fnProductsSpec : ChangeSpec := { name := "fnProducts", fn := fun _ => fun
  | [d1, d2] => { results := [.lit (.bool true)], args := [d1, d2] }
  | _ => none }
def fnProductsRow : OpenClaim := { program := "ytojmfjhbfcnecaa", sum := "b75c05a846a0307bc7616be1d869ef7ccbb17976472ab6c9fe40d080f111906d", func := "loop.example/g01033/laws.FnProducts", spec := "fnProducts", unfollowed := true, recurses := true, apart := false }
def FnProductsSaid : Prop := fnProductsRow.holds Try.pinned (OpenSpec.ofChange fnProductsSpec)

/-- ITS FALSE NEIGHBOUR: 'it returns false'. Refute it at one input. -/
def fnProductsWrong : ChangeSpec := { name := "fnProducts", fn := fun _ => fun
  | [d1, d2] => { results := [.lit (.bool false)], args := [d1, d2] }
  | _ => none }
def FnProductsWrongFalsely : Prop := fnProductsRow.holds Try.pinned (OpenSpec.ofChange fnProductsWrong)

/-- 'laws.FnGrowth': WHATEVER THE INPUT: true; the input reads as it did. -/
def fnGrowthSpec : ChangeSpec := { name := "fnGrowth", fn := fun _ => fun
  | [d1, d2] => { results := [.lit (.bool true)], args := [d1, d2] }
  | _ => none }
def fnGrowthRow : OpenClaim := { program := "ytojmfjhbfcnecaa", sum := "b75c05a846a0307bc7616be1d869ef7ccbb17976472ab6c9fe40d080f111906d", func := "loop.example/g01033/laws.FnGrowth", spec := "fnGrowth", unfollowed := true, recurses := true, apart := false }
def FnGrowthSaid : Prop := fnGrowthRow.holds Try.pinned (OpenSpec.ofChange fnGrowthSpec)

/-- ITS FALSE NEIGHBOUR: 'it returns false'. Refute it at one input. -/
def fnGrowthWrong : ChangeSpec := { name := "fnGrowth", fn := fun _ => fun
  | [d1, d2] => { results := [.lit (.bool false)], args := [d1, d2] }
  | _ => none }
def FnGrowthWrongFalsely : Prop := fnGrowthRow.holds Try.pinned (OpenSpec.ofChange fnGrowthWrong)

/- THE SECOND FORM. 'bulk': how many values and letters a reading holds, each counted each time it is reached (what is shared counts as often as it is met; a slice's spare places count too). A statement '..UptoSaid' is the law's where the arguments, and the package variables that the reading takes, are together of bulk at most 1048576: NARROWER than '..Said'. Prove '..Said' where nothing that the law and all that it calls make is longer than what came in: it says more and counts as full. Else prove '..UptoSaid'. A law counts once. -/
mutual
def uptoBulk {H : Type} : DataW H → Nat
  | .lit (.string bytes) => bytes.length + 1
  | .lit _ => 1
  | .nil => 1
  | .ptr d => uptoBulk d + 1
  | .slice elems spare => uptoBulkAll elems + uptoBulkAll spare + 1
  | .agg parts => uptoBulkAll parts + 1
  | .iface _ d => uptoBulk d + 1
  | .map entries => uptoBulkEntries entries + 1
  | .held _ => 1
def uptoBulkAll {H : Type} : List (DataW H) → Nat
  | [] => 0
  | d :: r => uptoBulk d + uptoBulkAll r
def uptoBulkEntries {H : Type} : List (Lit × DataW H) → Nat
  | [] => 0
  | x :: r => uptoBulkEntry x + uptoBulkEntries r
def uptoBulkEntry {H : Type} : Lit × DataW H → Nat
  | (.string bytes, d) => bytes.length + uptoBulk d + 1
  | (_, d) => uptoBulk d + 1
 end
def uptoSmall : (H : Type) → List (DataW H) → Bool := fun _ ds => decide (uptoBulkAll ds ≤ 1048576)
def OpenSpec.upto (s : _root_.Go.ChangeSpec) : _root_.Go.OpenSpec := { _root_.Go.OpenSpec.ofChange s with cond := some uptoSmall }

/-- 'laws.FnExactPossibleRagas', WHERE WHAT IT READS IS OF BULK AT MOST 1048576: true; the input reads as it did. -/
def fnExactPossibleRagasUptoRow : OpenClaim := { program := "ytojmfjhbfcnecaa", sum := "b75c05a846a0307bc7616be1d869ef7ccbb17976472ab6c9fe40d080f111906d", func := "loop.example/g01033/laws.FnExactPossibleRagas", spec := "fnExactPossibleRagas", unfollowed := true, recurses := true, apart := false, narrowed := true }
def FnExactPossibleRagasUptoSaid : Prop := fnExactPossibleRagasUptoRow.holds Try.pinned (OpenSpec.upto fnExactPossibleRagasSpec)

/-- 'laws.FnExactGroupRagas', WHERE WHAT IT READS IS OF BULK AT MOST 1048576: true; the input reads as it did. -/
def fnExactGroupRagasUptoRow : OpenClaim := { program := "ytojmfjhbfcnecaa", sum := "b75c05a846a0307bc7616be1d869ef7ccbb17976472ab6c9fe40d080f111906d", func := "loop.example/g01033/laws.FnExactGroupRagas", spec := "fnExactGroupRagas", unfollowed := true, recurses := true, apart := false, narrowed := true }
def FnExactGroupRagasUptoSaid : Prop := fnExactGroupRagasUptoRow.holds Try.pinned (OpenSpec.upto fnExactGroupRagasSpec)

/-- 'laws.FnPatterns', WHERE WHAT IT READS IS OF BULK AT MOST 1048576: true; the input reads as it did. -/
def fnPatternsUptoRow : OpenClaim := { program := "ytojmfjhbfcnecaa", sum := "b75c05a846a0307bc7616be1d869ef7ccbb17976472ab6c9fe40d080f111906d", func := "loop.example/g01033/laws.FnPatterns", spec := "fnPatterns", unfollowed := true, recurses := true, apart := false, narrowed := true }
def FnPatternsUptoSaid : Prop := fnPatternsUptoRow.holds Try.pinned (OpenSpec.upto fnPatternsSpec)

/-- 'laws.FnNumbering', WHERE WHAT IT READS IS OF BULK AT MOST 1048576: true; the input reads as it did. -/
def fnNumberingUptoRow : OpenClaim := { program := "ytojmfjhbfcnecaa", sum := "b75c05a846a0307bc7616be1d869ef7ccbb17976472ab6c9fe40d080f111906d", func := "loop.example/g01033/laws.FnNumbering", spec := "fnNumbering", unfollowed := true, recurses := true, apart := false, narrowed := true }
def FnNumberingUptoSaid : Prop := fnNumberingUptoRow.holds Try.pinned (OpenSpec.upto fnNumberingSpec)

/-- 'laws.FnProducts', WHERE WHAT IT READS IS OF BULK AT MOST 1048576: true; the input reads as it did. -/
def fnProductsUptoRow : OpenClaim := { program := "ytojmfjhbfcnecaa", sum := "b75c05a846a0307bc7616be1d869ef7ccbb17976472ab6c9fe40d080f111906d", func := "loop.example/g01033/laws.FnProducts", spec := "fnProducts", unfollowed := true, recurses := true, apart := false, narrowed := true }
def FnProductsUptoSaid : Prop := fnProductsUptoRow.holds Try.pinned (OpenSpec.upto fnProductsSpec)

/-- 'laws.FnGrowth', WHERE WHAT IT READS IS OF BULK AT MOST 1048576: true; the input reads as it did. -/
def fnGrowthUptoRow : OpenClaim := { program := "ytojmfjhbfcnecaa", sum := "b75c05a846a0307bc7616be1d869ef7ccbb17976472ab6c9fe40d080f111906d", func := "loop.example/g01033/laws.FnGrowth", spec := "fnGrowth", unfollowed := true, recurses := true, apart := false, narrowed := true }
def FnGrowthUptoSaid : Prop := fnGrowthUptoRow.holds Try.pinned (OpenSpec.upto fnGrowthSpec)

end Rows
end Go.Proofs.Ytojmfjhbfcnecaa
