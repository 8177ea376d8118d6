/-
  NARROWER THAN 'FOR EVERY INPUT', by the rows' own cells (each row's printed sentence says how): FnExactSplitWords: laid · FnExactSyllablesText: laid · FnExactTalaText: laid · FnExactReadComposed: laid · FnCents: laid · FnBeats: laid · FnRatios: laid · FnRagas: laid · FnBasics: laid.
  DERIVED. THE GIVEN ROWS OF THIS SEAT. 9 by the template 'for every input the law returns true; each argument reads behind the call as it read before'; 0 by the template 'total and deterministic' (their statements: YtmeflmlejcmckaaDoorTotals.lean).
  GIVEN WITH THE SEED: the statements are not yours to turn. If you find one false, say at which input.
  Laid BY PROGRAM, IN A SANDBOX (cutbox-rows.mjs): the forced cells as the released guide's own fill.sh prints them over the translation 90bc6f9699db84c4… (all of the seat's roots in one cut). By AI agents, Wed Nov 11 2026. No macro, syntax, notation, axiom, sorry.
-/
import Derived.Test.YtmeflmlejcmckaaDoorChecked
import GoSem.PinnedTables
import GoSem.Claim
import GoSem.ClaimJoined
import GoSem.ClaimMapViews
import Derived.JoinedTies
import Derived.KernelRfl
namespace Go.Proofs.YtmeflmlejcmckaaDoor
/- THE CELL 'sum', in the pinned program and in every row, IS THE sha256 OF THE DUMP (.gsa) THAT YtmeflmlejcmckaaDoorProg.lean LOADS. Nothing in Lean hashes anything: it is a label: what it is worth is what the hold of that sum in a sandbox is worth. -/
noncomputable def Tryd.pinned : Pinned := { name := "ytmeflmlejcmckaadoor", sum := "90bc6f9699db84c415d48ba9a5c25170ae68ba88fac2cf7f1febdbaa589fdb1b", checked := Tryd.checked }
namespace Rows
def none {H : Type} : Left H := { results := [], args := [] }

/- WHAT THE LISTED PACKAGE-LEVEL VARIABLES READ AS WHEN THE CALL BEGINS. Each datum BY PROGRAM (the guide's laid-datum.mjs) off the statement by which the dump's own 'gosem.cut.vars' lays the variable. In a bare row this is a premise. The card (YtmeflmlejcmckaaDoorCards.lean) ties it to the program's text. -/
def laid_unicode_utf8_acceptRanges {H : Type} : DataW H := .agg [.agg [.lit (.int .u8 128), .lit (.int .u8 191)], .agg [.lit (.int .u8 160), .lit (.int .u8 191)], .agg [.lit (.int .u8 128), .lit (.int .u8 159)], .agg [.lit (.int .u8 144), .lit (.int .u8 191)], .agg [.lit (.int .u8 128), .lit (.int .u8 143)], .agg [.lit (.int .u8 0), .lit (.int .u8 0)], .agg [.lit (.int .u8 0), .lit (.int .u8 0)], .agg [.lit (.int .u8 0), .lit (.int .u8 0)], .agg [.lit (.int .u8 0), .lit (.int .u8 0)], .agg [.lit (.int .u8 0), .lit (.int .u8 0)], .agg [.lit (.int .u8 0), .lit (.int .u8 0)], .agg [.lit (.int .u8 0), .lit (.int .u8 0)], .agg [.lit (.int .u8 0), .lit (.int .u8 0)], .agg [.lit (.int .u8 0), .lit (.int .u8 0)], .agg [.lit (.int .u8 0), .lit (.int .u8 0)], .agg [.lit (.int .u8 0), .lit (.int .u8 0)]]
/-- One of Go's own tables, pinned by name: the form's constant. -/
def laid_unicode_utf8_first : DataW Unit := Go.Pinned.utf8First
def laid_math_bits_deBruijn32tab {H : Type} : DataW H := .agg [.lit (.int .u8 0), .lit (.int .u8 1), .lit (.int .u8 28), .lit (.int .u8 2), .lit (.int .u8 29), .lit (.int .u8 14), .lit (.int .u8 24), .lit (.int .u8 3), .lit (.int .u8 30), .lit (.int .u8 22), .lit (.int .u8 20), .lit (.int .u8 15), .lit (.int .u8 25), .lit (.int .u8 17), .lit (.int .u8 4), .lit (.int .u8 8), .lit (.int .u8 31), .lit (.int .u8 27), .lit (.int .u8 13), .lit (.int .u8 23), .lit (.int .u8 21), .lit (.int .u8 19), .lit (.int .u8 16), .lit (.int .u8 7), .lit (.int .u8 26), .lit (.int .u8 12), .lit (.int .u8 18), .lit (.int .u8 6), .lit (.int .u8 11), .lit (.int .u8 5), .lit (.int .u8 10), .lit (.int .u8 9)]
def laid_math_bits_deBruijn64tab {H : Type} : DataW H := .agg [.lit (.int .u8 0), .lit (.int .u8 1), .lit (.int .u8 56), .lit (.int .u8 2), .lit (.int .u8 57), .lit (.int .u8 49), .lit (.int .u8 28), .lit (.int .u8 3), .lit (.int .u8 61), .lit (.int .u8 58), .lit (.int .u8 42), .lit (.int .u8 50), .lit (.int .u8 38), .lit (.int .u8 29), .lit (.int .u8 17), .lit (.int .u8 4), .lit (.int .u8 62), .lit (.int .u8 47), .lit (.int .u8 59), .lit (.int .u8 36), .lit (.int .u8 45), .lit (.int .u8 43), .lit (.int .u8 51), .lit (.int .u8 22), .lit (.int .u8 53), .lit (.int .u8 39), .lit (.int .u8 33), .lit (.int .u8 30), .lit (.int .u8 24), .lit (.int .u8 18), .lit (.int .u8 12), .lit (.int .u8 5), .lit (.int .u8 63), .lit (.int .u8 55), .lit (.int .u8 48), .lit (.int .u8 27), .lit (.int .u8 60), .lit (.int .u8 41), .lit (.int .u8 37), .lit (.int .u8 16), .lit (.int .u8 46), .lit (.int .u8 35), .lit (.int .u8 44), .lit (.int .u8 21), .lit (.int .u8 52), .lit (.int .u8 32), .lit (.int .u8 23), .lit (.int .u8 11), .lit (.int .u8 54), .lit (.int .u8 26), .lit (.int .u8 40), .lit (.int .u8 15), .lit (.int .u8 34), .lit (.int .u8 20), .lit (.int .u8 31), .lit (.int .u8 10), .lit (.int .u8 25), .lit (.int .u8 14), .lit (.int .u8 19), .lit (.int .u8 9), .lit (.int .u8 13), .lit (.int .u8 8), .lit (.int .u8 7), .lit (.int .u8 6)]
def laid_internal_strconv_uint64pow10 {H : Type} : DataW H := .agg [.lit (.int .u64 1), .lit (.int .u64 10), .lit (.int .u64 100), .lit (.int .u64 1000), .lit (.int .u64 10000), .lit (.int .u64 100000), .lit (.int .u64 1000000), .lit (.int .u64 10000000), .lit (.int .u64 100000000), .lit (.int .u64 1000000000), .lit (.int .u64 10000000000), .lit (.int .u64 100000000000), .lit (.int .u64 1000000000000), .lit (.int .u64 10000000000000), .lit (.int .u64 100000000000000), .lit (.int .u64 1000000000000000), .lit (.int .u64 10000000000000000), .lit (.int .u64 100000000000000000), .lit (.int .u64 1000000000000000000), .lit (.int .u64 10000000000000000000)]
def laid_loop_example_g01033_impl_centsTable {H : Type} : DataW H := .agg [.lit (.int .i64 0), .lit (.int .i64 5327), .lit (.int .i64 10496), .lit (.int .i64 15514), .lit (.int .i64 20391), .lit (.int .i64 25134), .lit (.int .i64 29751), .lit (.int .i64 34248), .lit (.int .i64 38631), .lit (.int .i64 42906), .lit (.int .i64 47078), .lit (.int .i64 51152), .lit (.int .i64 55132), .lit (.int .i64 59022), .lit (.int .i64 62827), .lit (.int .i64 66551), .lit (.int .i64 70196), .lit (.int .i64 73765), .lit (.int .i64 77263), .lit (.int .i64 80691), .lit (.int .i64 84053), .lit (.int .i64 87350), .lit (.int .i64 90587), .lit (.int .i64 93763), .lit (.int .i64 96883), .lit (.int .i64 99947), .lit (.int .i64 102958), .lit (.int .i64 105917), .lit (.int .i64 108827), .lit (.int .i64 111688), .lit (.int .i64 114504), .lit (.int .i64 117274), .lit (.int .i64 120000)]
def laid_strconv_ErrRange {H : Type} : DataW H := .iface "*errors.errorString" (.ptr (.agg [.lit (.string [118, 97, 108, 117, 101, 32, 111, 117, 116, 32, 111, 102, 32, 114, 97, 110, 103, 101])]))
def laid_strconv_ErrSyntax {H : Type} : DataW H := .iface "*errors.errorString" (.ptr (.agg [.lit (.string [105, 110, 118, 97, 108, 105, 100, 32, 115, 121, 110, 116, 97, 120])]))

/-- 'laws.FnExactSplitWords': WHATEVER THE INPUT: true; the input reads as it did. -/
def fnExactSplitWordsSpec : ChangeSpec := { name := "fnExactSplitWords", fn := fun _ => fun
  | [d] => { results := [.lit (.bool true)], args := [d] }
  | _ => none }
def fnExactSplitWordsRow : OpenClaim := { program := "ytmeflmlejcmckaadoor", sum := "90bc6f9699db84c415d48ba9a5c25170ae68ba88fac2cf7f1febdbaa589fdb1b", func := "loop.example/g01033/laws.FnExactSplitWords", spec := "fnExactSplitWords", inPlace := ["internal/bytealg.CountString", "internal/bytealg.IndexByteString", "internal/bytealg.IndexString"], named := ["unicode/utf8.first", "unicode/utf8.acceptRanges", "internal/bytealg.MaxLen"], apart := false, laid := [("unicode/utf8.acceptRanges", laid_unicode_utf8_acceptRanges), ("unicode/utf8.first", laid_unicode_utf8_first)] }
def FnExactSplitWordsSaid : Prop := fnExactSplitWordsRow.holds Tryd.pinned (OpenSpec.ofChange fnExactSplitWordsSpec)

/-- ITS FALSE NEIGHBOUR: 'it returns false'. Refute it at one input. -/
def fnExactSplitWordsWrong : ChangeSpec := { name := "fnExactSplitWords", fn := fun _ => fun
  | [d] => { results := [.lit (.bool false)], args := [d] }
  | _ => none }
def FnExactSplitWordsWrongFalsely : Prop := fnExactSplitWordsRow.holds Tryd.pinned (OpenSpec.ofChange fnExactSplitWordsWrong)

/-- 'laws.FnExactSyllablesText': WHATEVER THE INPUT: true; the input reads as it did. -/
def fnExactSyllablesTextSpec : ChangeSpec := { name := "fnExactSyllablesText", fn := fun _ => fun
  | [d] => { results := [.lit (.bool true)], args := [d] }
  | _ => none }
def fnExactSyllablesTextRow : OpenClaim := { program := "ytmeflmlejcmckaadoor", sum := "90bc6f9699db84c415d48ba9a5c25170ae68ba88fac2cf7f1febdbaa589fdb1b", func := "loop.example/g01033/laws.FnExactSyllablesText", spec := "fnExactSyllablesText", inPlace := ["internal/abi.NoEscape", "internal/bytealg.MakeNoZero"], named := ["internal/strconv.uint64pow10", "math/bits.deBruijn32tab", "math/bits.deBruijn64tab"], apart := false, laid := [("math/bits.deBruijn32tab", laid_math_bits_deBruijn32tab), ("math/bits.deBruijn64tab", laid_math_bits_deBruijn64tab), ("internal/strconv.uint64pow10", laid_internal_strconv_uint64pow10)] }
def FnExactSyllablesTextSaid : Prop := fnExactSyllablesTextRow.holds Tryd.pinned (OpenSpec.ofChange fnExactSyllablesTextSpec)

/-- ITS FALSE NEIGHBOUR: 'it returns false'. Refute it at one input. -/
def fnExactSyllablesTextWrong : ChangeSpec := { name := "fnExactSyllablesText", fn := fun _ => fun
  | [d] => { results := [.lit (.bool false)], args := [d] }
  | _ => none }
def FnExactSyllablesTextWrongFalsely : Prop := fnExactSyllablesTextRow.holds Tryd.pinned (OpenSpec.ofChange fnExactSyllablesTextWrong)

/-- 'laws.FnExactTalaText': WHATEVER THE INPUT: true; the input reads as it did. -/
def fnExactTalaTextSpec : ChangeSpec := { name := "fnExactTalaText", fn := fun _ => fun
  | [d] => { results := [.lit (.bool true)], args := [d] }
  | _ => none }
def fnExactTalaTextRow : OpenClaim := { program := "ytmeflmlejcmckaadoor", sum := "90bc6f9699db84c415d48ba9a5c25170ae68ba88fac2cf7f1febdbaa589fdb1b", func := "loop.example/g01033/laws.FnExactTalaText", spec := "fnExactTalaText", unfollowed := true, recurses := true, named := ["internal/strconv.uint64pow10", "math/bits.deBruijn32tab", "math/bits.deBruijn64tab"], apart := false, laid := [("math/bits.deBruijn32tab", laid_math_bits_deBruijn32tab), ("math/bits.deBruijn64tab", laid_math_bits_deBruijn64tab), ("internal/strconv.uint64pow10", laid_internal_strconv_uint64pow10)] }
def FnExactTalaTextSaid : Prop := fnExactTalaTextRow.holds Tryd.pinned (OpenSpec.ofChange fnExactTalaTextSpec)

/-- ITS FALSE NEIGHBOUR: 'it returns false'. Refute it at one input. -/
def fnExactTalaTextWrong : ChangeSpec := { name := "fnExactTalaText", fn := fun _ => fun
  | [d] => { results := [.lit (.bool false)], args := [d] }
  | _ => none }
def FnExactTalaTextWrongFalsely : Prop := fnExactTalaTextRow.holds Tryd.pinned (OpenSpec.ofChange fnExactTalaTextWrong)

/-- 'laws.FnExactReadComposed': WHATEVER THE INPUT: true; the input reads as it did. -/
def fnExactReadComposedSpec : ChangeSpec := { name := "fnExactReadComposed", fn := fun _ => fun
  | [d1, d2] => { results := [.lit (.bool true)], args := [d1, d2] }
  | _ => none }
def fnExactReadComposedRow : OpenClaim := { program := "ytmeflmlejcmckaadoor", sum := "90bc6f9699db84c415d48ba9a5c25170ae68ba88fac2cf7f1febdbaa589fdb1b", func := "loop.example/g01033/laws.FnExactReadComposed", spec := "fnExactReadComposed", inPlace := ["internal/bytealg.CountString", "internal/bytealg.IndexByteString", "internal/bytealg.IndexString"], unfollowed := true, recurses := true, named := ["unicode/utf8.first", "unicode/utf8.acceptRanges", "internal/bytealg.MaxLen"], apart := false, laid := [("unicode/utf8.acceptRanges", laid_unicode_utf8_acceptRanges), ("unicode/utf8.first", laid_unicode_utf8_first)] }
def FnExactReadComposedSaid : Prop := fnExactReadComposedRow.holds Tryd.pinned (OpenSpec.ofChange fnExactReadComposedSpec)

/-- ITS FALSE NEIGHBOUR: 'it returns false'. Refute it at one input. -/
def fnExactReadComposedWrong : ChangeSpec := { name := "fnExactReadComposed", fn := fun _ => fun
  | [d1, d2] => { results := [.lit (.bool false)], args := [d1, d2] }
  | _ => none }
def FnExactReadComposedWrongFalsely : Prop := fnExactReadComposedRow.holds Tryd.pinned (OpenSpec.ofChange fnExactReadComposedWrong)

/-- 'laws.FnCents': WHATEVER THE INPUT: true; the input reads as it did. -/
def fnCentsSpec : ChangeSpec := { name := "fnCents", vars := ["loop.example/g01033/impl.centsTable"], fn := fun _ => fun
  | [d1, d2, g1] => { results := [.lit (.bool true)], args := [d1, d2], vars := [g1] }
  | _ => none }
def fnCentsRow : OpenClaim := { program := "ytmeflmlejcmckaadoor", sum := "90bc6f9699db84c415d48ba9a5c25170ae68ba88fac2cf7f1febdbaa589fdb1b", func := "loop.example/g01033/laws.FnCents", spec := "fnCents", named := ["loop.example/g01033/impl.centsTable"], apart := false, laid := [("loop.example/g01033/impl.centsTable", laid_loop_example_g01033_impl_centsTable)] }
def FnCentsSaid : Prop := fnCentsRow.holds Tryd.pinned (OpenSpec.ofChange fnCentsSpec)

/-- ITS FALSE NEIGHBOUR: 'it returns false'. Refute it at one input. -/
def fnCentsWrong : ChangeSpec := { name := "fnCents", vars := ["loop.example/g01033/impl.centsTable"], fn := fun _ => fun
  | [d1, d2, g1] => { results := [.lit (.bool false)], args := [d1, d2], vars := [g1] }
  | _ => none }
def FnCentsWrongFalsely : Prop := fnCentsRow.holds Tryd.pinned (OpenSpec.ofChange fnCentsWrong)

/-- 'laws.FnBeats': WHATEVER THE INPUT: true; the input reads as it did. -/
def fnBeatsSpec : ChangeSpec := { name := "fnBeats", vars := ["loop.example/g01033/impl.centsTable"], fn := fun _ => fun
  | [d1, d2, g1] => { results := [.lit (.bool true)], args := [d1, d2], vars := [g1] }
  | _ => none }
def fnBeatsRow : OpenClaim := { program := "ytmeflmlejcmckaadoor", sum := "90bc6f9699db84c415d48ba9a5c25170ae68ba88fac2cf7f1febdbaa589fdb1b", func := "loop.example/g01033/laws.FnBeats", spec := "fnBeats", unfollowed := true, recurses := true, named := ["loop.example/g01033/impl.centsTable"], apart := false, laid := [("loop.example/g01033/impl.centsTable", laid_loop_example_g01033_impl_centsTable)] }
def FnBeatsSaid : Prop := fnBeatsRow.holds Tryd.pinned (OpenSpec.ofChange fnBeatsSpec)

/-- ITS FALSE NEIGHBOUR: 'it returns false'. Refute it at one input. -/
def fnBeatsWrong : ChangeSpec := { name := "fnBeats", vars := ["loop.example/g01033/impl.centsTable"], fn := fun _ => fun
  | [d1, d2, g1] => { results := [.lit (.bool false)], args := [d1, d2], vars := [g1] }
  | _ => none }
def FnBeatsWrongFalsely : Prop := fnBeatsRow.holds Tryd.pinned (OpenSpec.ofChange fnBeatsWrong)

/-- 'laws.FnRatios': WHATEVER THE INPUT: true; the input reads as it did. -/
def fnRatiosSpec : ChangeSpec := { name := "fnRatios", fn := fun _ => fun
  | [d1, d2] => { results := [.lit (.bool true)], args := [d1, d2] }
  | _ => none }
def fnRatiosRow : OpenClaim := { program := "ytmeflmlejcmckaadoor", sum := "90bc6f9699db84c415d48ba9a5c25170ae68ba88fac2cf7f1febdbaa589fdb1b", func := "loop.example/g01033/laws.FnRatios", spec := "fnRatios", inPlace := ["internal/bytealg.IndexByteString", "internal/bytealg.IndexString"], named := ["internal/strconv.uint64pow10", "math/bits.deBruijn32tab", "math/bits.deBruijn64tab", "internal/bytealg.MaxLen", "strconv.ErrSyntax", "strconv.ErrRange"], apart := false, laid := [("math/bits.deBruijn32tab", laid_math_bits_deBruijn32tab), ("math/bits.deBruijn64tab", laid_math_bits_deBruijn64tab), ("internal/strconv.uint64pow10", laid_internal_strconv_uint64pow10), ("strconv.ErrRange", laid_strconv_ErrRange), ("strconv.ErrSyntax", laid_strconv_ErrSyntax)] }
def FnRatiosSaid : Prop := fnRatiosRow.holds Tryd.pinned (OpenSpec.ofChange fnRatiosSpec)

/-- ITS FALSE NEIGHBOUR: 'it returns false'. Refute it at one input. -/
def fnRatiosWrong : ChangeSpec := { name := "fnRatios", fn := fun _ => fun
  | [d1, d2] => { results := [.lit (.bool false)], args := [d1, d2] }
  | _ => none }
def FnRatiosWrongFalsely : Prop := fnRatiosRow.holds Tryd.pinned (OpenSpec.ofChange fnRatiosWrong)

/-- 'laws.FnRagas': WHATEVER THE INPUT: true; the input reads as it did. -/
def fnRagasSpec : ChangeSpec := { name := "fnRagas", fn := fun _ => fun
  | [d1, d2] => { results := [.lit (.bool true)], args := [d1, d2] }
  | _ => none }
def fnRagasRow : OpenClaim := { program := "ytmeflmlejcmckaadoor", sum := "90bc6f9699db84c415d48ba9a5c25170ae68ba88fac2cf7f1febdbaa589fdb1b", func := "loop.example/g01033/laws.FnRagas", spec := "fnRagas", inPlace := ["internal/bytealg.CountString", "internal/bytealg.IndexByteString", "internal/bytealg.IndexString"], unfollowed := true, recurses := true, named := ["unicode/utf8.first", "unicode/utf8.acceptRanges", "internal/bytealg.MaxLen"], apart := false, laid := [("unicode/utf8.acceptRanges", laid_unicode_utf8_acceptRanges), ("unicode/utf8.first", laid_unicode_utf8_first)] }
def FnRagasSaid : Prop := fnRagasRow.holds Tryd.pinned (OpenSpec.ofChange fnRagasSpec)

/-- ITS FALSE NEIGHBOUR: 'it returns false'. Refute it at one input. -/
def fnRagasWrong : ChangeSpec := { name := "fnRagas", fn := fun _ => fun
  | [d1, d2] => { results := [.lit (.bool false)], args := [d1, d2] }
  | _ => none }
def FnRagasWrongFalsely : Prop := fnRagasRow.holds Tryd.pinned (OpenSpec.ofChange fnRagasWrong)

/-- 'laws.FnBasics': WHATEVER THE INPUT: true; the input reads as it did. -/
def fnBasicsSpec : ChangeSpec := { name := "fnBasics", fn := fun _ => fun
  | [d1, d2] => { results := [.lit (.bool true)], args := [d1, d2] }
  | _ => none }
def fnBasicsRow : OpenClaim := { program := "ytmeflmlejcmckaadoor", sum := "90bc6f9699db84c415d48ba9a5c25170ae68ba88fac2cf7f1febdbaa589fdb1b", func := "loop.example/g01033/laws.FnBasics", spec := "fnBasics", inPlace := ["internal/abi.NoEscape", "internal/bytealg.MakeNoZero", "internal/bytealg.CountString", "internal/bytealg.IndexByteString", "internal/bytealg.IndexString"], unfollowed := true, recurses := true, named := ["internal/strconv.uint64pow10", "math/bits.deBruijn32tab", "math/bits.deBruijn64tab", "unicode/utf8.first", "unicode/utf8.acceptRanges", "internal/bytealg.MaxLen", "strconv.ErrSyntax", "strconv.ErrRange"], apart := false, laid := [("math/bits.deBruijn32tab", laid_math_bits_deBruijn32tab), ("math/bits.deBruijn64tab", laid_math_bits_deBruijn64tab), ("internal/strconv.uint64pow10", laid_internal_strconv_uint64pow10), ("unicode/utf8.acceptRanges", laid_unicode_utf8_acceptRanges), ("strconv.ErrRange", laid_strconv_ErrRange), ("strconv.ErrSyntax", laid_strconv_ErrSyntax), ("unicode/utf8.first", laid_unicode_utf8_first)] }
def FnBasicsSaid : Prop := fnBasicsRow.holds Tryd.pinned (OpenSpec.ofChange fnBasicsSpec)

/-- ITS FALSE NEIGHBOUR: 'it returns false'. Refute it at one input. -/
def fnBasicsWrong : ChangeSpec := { name := "fnBasics", fn := fun _ => fun
  | [d1, d2] => { results := [.lit (.bool false)], args := [d1, d2] }
  | _ => none }
def FnBasicsWrongFalsely : Prop := fnBasicsRow.holds Tryd.pinned (OpenSpec.ofChange fnBasicsWrong)

/- THE SECOND FORM. 'bulk': how many values and letters a reading holds, each counted each time it is reached (what is shared counts as often as it is met; a slice's spare places count too). A statement '..UptoSaid' is the law's where the arguments, and the package variables that the reading takes, are together of bulk at most 1048576: NARROWER than '..Said'. Prove '..Said' where nothing that the law and all that it calls make is longer than what came in: it says more and counts as full. Else prove '..UptoSaid'. A law counts once. -/
mutual
def uptoBulk {H : Type} : DataW H → Nat
  | .lit (.string bytes) => bytes.length + 1
  | .lit _ => 1
  | .nil => 1
  | .ptr d => uptoBulk d + 1
  | .slice elems spare => uptoBulkAll elems + uptoBulkAll spare + 1
  | .agg parts => uptoBulkAll parts + 1
  | .iface _ d => uptoBulk d + 1
  | .map entries => uptoBulkEntries entries + 1
  | .held _ => 1
def uptoBulkAll {H : Type} : List (DataW H) → Nat
  | [] => 0
  | d :: r => uptoBulk d + uptoBulkAll r
def uptoBulkEntries {H : Type} : List (Lit × DataW H) → Nat
  | [] => 0
  | x :: r => uptoBulkEntry x + uptoBulkEntries r
def uptoBulkEntry {H : Type} : Lit × DataW H → Nat
  | (.string bytes, d) => bytes.length + uptoBulk d + 1
  | (_, d) => uptoBulk d + 1
 end
def uptoSmall : (H : Type) → List (DataW H) → Bool := fun _ ds => decide (uptoBulkAll ds ≤ 1048576)
def OpenSpec.upto (s : _root_.Go.ChangeSpec) : _root_.Go.OpenSpec := { _root_.Go.OpenSpec.ofChange s with cond := some uptoSmall }

/-- 'laws.FnExactSplitWords', WHERE WHAT IT READS IS OF BULK AT MOST 1048576: true; the input reads as it did. -/
def fnExactSplitWordsUptoRow : OpenClaim := { program := "ytmeflmlejcmckaadoor", sum := "90bc6f9699db84c415d48ba9a5c25170ae68ba88fac2cf7f1febdbaa589fdb1b", func := "loop.example/g01033/laws.FnExactSplitWords", spec := "fnExactSplitWords", inPlace := ["internal/bytealg.CountString", "internal/bytealg.IndexByteString", "internal/bytealg.IndexString"], named := ["unicode/utf8.first", "unicode/utf8.acceptRanges", "internal/bytealg.MaxLen"], apart := false, laid := [("unicode/utf8.acceptRanges", laid_unicode_utf8_acceptRanges), ("unicode/utf8.first", laid_unicode_utf8_first)], narrowed := true }
def FnExactSplitWordsUptoSaid : Prop := fnExactSplitWordsUptoRow.holds Tryd.pinned (OpenSpec.upto fnExactSplitWordsSpec)

/-- 'laws.FnExactSyllablesText', WHERE WHAT IT READS IS OF BULK AT MOST 1048576: true; the input reads as it did. -/
def fnExactSyllablesTextUptoRow : OpenClaim := { program := "ytmeflmlejcmckaadoor", sum := "90bc6f9699db84c415d48ba9a5c25170ae68ba88fac2cf7f1febdbaa589fdb1b", func := "loop.example/g01033/laws.FnExactSyllablesText", spec := "fnExactSyllablesText", inPlace := ["internal/abi.NoEscape", "internal/bytealg.MakeNoZero"], named := ["internal/strconv.uint64pow10", "math/bits.deBruijn32tab", "math/bits.deBruijn64tab"], apart := false, laid := [("math/bits.deBruijn32tab", laid_math_bits_deBruijn32tab), ("math/bits.deBruijn64tab", laid_math_bits_deBruijn64tab), ("internal/strconv.uint64pow10", laid_internal_strconv_uint64pow10)], narrowed := true }
def FnExactSyllablesTextUptoSaid : Prop := fnExactSyllablesTextUptoRow.holds Tryd.pinned (OpenSpec.upto fnExactSyllablesTextSpec)

/-- 'laws.FnExactTalaText', WHERE WHAT IT READS IS OF BULK AT MOST 1048576: true; the input reads as it did. -/
def fnExactTalaTextUptoRow : OpenClaim := { program := "ytmeflmlejcmckaadoor", sum := "90bc6f9699db84c415d48ba9a5c25170ae68ba88fac2cf7f1febdbaa589fdb1b", func := "loop.example/g01033/laws.FnExactTalaText", spec := "fnExactTalaText", unfollowed := true, recurses := true, named := ["internal/strconv.uint64pow10", "math/bits.deBruijn32tab", "math/bits.deBruijn64tab"], apart := false, laid := [("math/bits.deBruijn32tab", laid_math_bits_deBruijn32tab), ("math/bits.deBruijn64tab", laid_math_bits_deBruijn64tab), ("internal/strconv.uint64pow10", laid_internal_strconv_uint64pow10)], narrowed := true }
def FnExactTalaTextUptoSaid : Prop := fnExactTalaTextUptoRow.holds Tryd.pinned (OpenSpec.upto fnExactTalaTextSpec)

/-- 'laws.FnExactReadComposed', WHERE WHAT IT READS IS OF BULK AT MOST 1048576: true; the input reads as it did. -/
def fnExactReadComposedUptoRow : OpenClaim := { program := "ytmeflmlejcmckaadoor", sum := "90bc6f9699db84c415d48ba9a5c25170ae68ba88fac2cf7f1febdbaa589fdb1b", func := "loop.example/g01033/laws.FnExactReadComposed", spec := "fnExactReadComposed", inPlace := ["internal/bytealg.CountString", "internal/bytealg.IndexByteString", "internal/bytealg.IndexString"], unfollowed := true, recurses := true, named := ["unicode/utf8.first", "unicode/utf8.acceptRanges", "internal/bytealg.MaxLen"], apart := false, laid := [("unicode/utf8.acceptRanges", laid_unicode_utf8_acceptRanges), ("unicode/utf8.first", laid_unicode_utf8_first)], narrowed := true }
def FnExactReadComposedUptoSaid : Prop := fnExactReadComposedUptoRow.holds Tryd.pinned (OpenSpec.upto fnExactReadComposedSpec)

/-- 'laws.FnCents', WHERE WHAT IT READS IS OF BULK AT MOST 1048576: true; the input reads as it did. -/
def fnCentsUptoRow : OpenClaim := { program := "ytmeflmlejcmckaadoor", sum := "90bc6f9699db84c415d48ba9a5c25170ae68ba88fac2cf7f1febdbaa589fdb1b", func := "loop.example/g01033/laws.FnCents", spec := "fnCents", named := ["loop.example/g01033/impl.centsTable"], apart := false, laid := [("loop.example/g01033/impl.centsTable", laid_loop_example_g01033_impl_centsTable)], narrowed := true }
def FnCentsUptoSaid : Prop := fnCentsUptoRow.holds Tryd.pinned (OpenSpec.upto fnCentsSpec)

/-- 'laws.FnBeats', WHERE WHAT IT READS IS OF BULK AT MOST 1048576: true; the input reads as it did. -/
def fnBeatsUptoRow : OpenClaim := { program := "ytmeflmlejcmckaadoor", sum := "90bc6f9699db84c415d48ba9a5c25170ae68ba88fac2cf7f1febdbaa589fdb1b", func := "loop.example/g01033/laws.FnBeats", spec := "fnBeats", unfollowed := true, recurses := true, named := ["loop.example/g01033/impl.centsTable"], apart := false, laid := [("loop.example/g01033/impl.centsTable", laid_loop_example_g01033_impl_centsTable)], narrowed := true }
def FnBeatsUptoSaid : Prop := fnBeatsUptoRow.holds Tryd.pinned (OpenSpec.upto fnBeatsSpec)

/-- 'laws.FnRatios', WHERE WHAT IT READS IS OF BULK AT MOST 1048576: true; the input reads as it did. -/
def fnRatiosUptoRow : OpenClaim := { program := "ytmeflmlejcmckaadoor", sum := "90bc6f9699db84c415d48ba9a5c25170ae68ba88fac2cf7f1febdbaa589fdb1b", func := "loop.example/g01033/laws.FnRatios", spec := "fnRatios", inPlace := ["internal/bytealg.IndexByteString", "internal/bytealg.IndexString"], named := ["internal/strconv.uint64pow10", "math/bits.deBruijn32tab", "math/bits.deBruijn64tab", "internal/bytealg.MaxLen", "strconv.ErrSyntax", "strconv.ErrRange"], apart := false, laid := [("math/bits.deBruijn32tab", laid_math_bits_deBruijn32tab), ("math/bits.deBruijn64tab", laid_math_bits_deBruijn64tab), ("internal/strconv.uint64pow10", laid_internal_strconv_uint64pow10), ("strconv.ErrRange", laid_strconv_ErrRange), ("strconv.ErrSyntax", laid_strconv_ErrSyntax)], narrowed := true }
def FnRatiosUptoSaid : Prop := fnRatiosUptoRow.holds Tryd.pinned (OpenSpec.upto fnRatiosSpec)

/-- 'laws.FnRagas', WHERE WHAT IT READS IS OF BULK AT MOST 1048576: true; the input reads as it did. -/
def fnRagasUptoRow : OpenClaim := { program := "ytmeflmlejcmckaadoor", sum := "90bc6f9699db84c415d48ba9a5c25170ae68ba88fac2cf7f1febdbaa589fdb1b", func := "loop.example/g01033/laws.FnRagas", spec := "fnRagas", inPlace := ["internal/bytealg.CountString", "internal/bytealg.IndexByteString", "internal/bytealg.IndexString"], unfollowed := true, recurses := true, named := ["unicode/utf8.first", "unicode/utf8.acceptRanges", "internal/bytealg.MaxLen"], apart := false, laid := [("unicode/utf8.acceptRanges", laid_unicode_utf8_acceptRanges), ("unicode/utf8.first", laid_unicode_utf8_first)], narrowed := true }
def FnRagasUptoSaid : Prop := fnRagasUptoRow.holds Tryd.pinned (OpenSpec.upto fnRagasSpec)

/-- 'laws.FnBasics', WHERE WHAT IT READS IS OF BULK AT MOST 1048576: true; the input reads as it did. -/
def fnBasicsUptoRow : OpenClaim := { program := "ytmeflmlejcmckaadoor", sum := "90bc6f9699db84c415d48ba9a5c25170ae68ba88fac2cf7f1febdbaa589fdb1b", func := "loop.example/g01033/laws.FnBasics", spec := "fnBasics", inPlace := ["internal/abi.NoEscape", "internal/bytealg.MakeNoZero", "internal/bytealg.CountString", "internal/bytealg.IndexByteString", "internal/bytealg.IndexString"], unfollowed := true, recurses := true, named := ["internal/strconv.uint64pow10", "math/bits.deBruijn32tab", "math/bits.deBruijn64tab", "unicode/utf8.first", "unicode/utf8.acceptRanges", "internal/bytealg.MaxLen", "strconv.ErrSyntax", "strconv.ErrRange"], apart := false, laid := [("math/bits.deBruijn32tab", laid_math_bits_deBruijn32tab), ("math/bits.deBruijn64tab", laid_math_bits_deBruijn64tab), ("internal/strconv.uint64pow10", laid_internal_strconv_uint64pow10), ("unicode/utf8.acceptRanges", laid_unicode_utf8_acceptRanges), ("strconv.ErrRange", laid_strconv_ErrRange), ("strconv.ErrSyntax", laid_strconv_ErrSyntax), ("unicode/utf8.first", laid_unicode_utf8_first)], narrowed := true }
def FnBasicsUptoSaid : Prop := fnBasicsUptoRow.holds Tryd.pinned (OpenSpec.upto fnBasicsSpec)

end Rows
end Go.Proofs.YtmeflmlejcmckaaDoor
