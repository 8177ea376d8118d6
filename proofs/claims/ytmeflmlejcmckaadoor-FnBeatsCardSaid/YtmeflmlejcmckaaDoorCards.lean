/-
  DERIVED. GIVEN WITH THE SEED: THE CARDS: each row of YtmeflmlejcmckaaDoorRows.lean that lists a variable, with what it lists TIED to the program's text (the seventh form; the later family's looks); each row that meets fmt, with fmt's text TOLD by the authors' own Lean function (tested against real Go, not proved from fmt's source: count such statements apart). THE CARD IS WHAT COUNTS. Prove the row's statement (the work); the ties are given (YtmeflmlejcmckaaDoorTie.lean); close each card by the builder's one call (the guide's Derived/Test/ToyasCard.lean, 'card_holds'). Laid BY PROGRAM, IN A SANDBOX (cutbox-door.mjs). By AI agents, Wed Nov 11 2026. No macro, syntax, notation, axiom, sorry.
-/
import Derived.Test.YtmeflmlejcmckaaDoorRows
import GoSem.ClaimSeven
namespace Go.Proofs.YtmeflmlejcmckaaDoor
namespace Rows

/-- THE TIED CARD OF 'laws.FnExactSplitWords'. -/
def fnExactSplitWordsCard : Claim7 := { stood := { row := fnExactSplitWordsRow, standIns := [], harness := (true, "05da8b09e544b3547aac6141f0cd5e38a046572b141b0a44bf5f013e5c78c6fd"), looks := true }, kinds := [], alts := [], laidByText := true, laidKinds := [.data, .pinned], laidTests := true, laidLooks := .later }
def FnExactSplitWordsCardSaid : Prop := Claim7.holds Tryd.pinned (.plain (OpenSpec.ofChange fnExactSplitWordsSpec)) fnExactSplitWordsCard

/-- THE TIED CARD OF 'laws.FnExactSyllablesText'. -/
def fnExactSyllablesTextCard : Claim7 := { stood := { row := fnExactSyllablesTextRow, standIns := [], harness := (true, "05da8b09e544b3547aac6141f0cd5e38a046572b141b0a44bf5f013e5c78c6fd"), looks := true }, kinds := [], alts := [], laidByText := true, laidKinds := [.data, .data, .data], laidTests := true, laidLooks := .later }
def FnExactSyllablesTextCardSaid : Prop := Claim7.holds Tryd.pinned (.plain (OpenSpec.ofChange fnExactSyllablesTextSpec)) fnExactSyllablesTextCard

/-- THE TIED CARD OF 'laws.FnExactTalaText'. -/
def fnExactTalaTextCard : Claim7 := { stood := { row := fnExactTalaTextRow, standIns := [], harness := (true, "05da8b09e544b3547aac6141f0cd5e38a046572b141b0a44bf5f013e5c78c6fd"), looks := true }, kinds := [], alts := [], laidByText := true, laidKinds := [.data, .data, .data], laidTests := true, laidLooks := .later }
def FnExactTalaTextCardSaid : Prop := Claim7.holds Tryd.pinned (.plain (OpenSpec.ofChange fnExactTalaTextSpec)) fnExactTalaTextCard

/-- THE TIED CARD OF 'laws.FnExactReadComposed'. -/
def fnExactReadComposedCard : Claim7 := { stood := { row := fnExactReadComposedRow, standIns := [], harness := (true, "05da8b09e544b3547aac6141f0cd5e38a046572b141b0a44bf5f013e5c78c6fd"), looks := true }, kinds := [], alts := [], laidByText := true, laidKinds := [.data, .pinned], laidTests := true, laidLooks := .later }
def FnExactReadComposedCardSaid : Prop := Claim7.holds Tryd.pinned (.plain (OpenSpec.ofChange fnExactReadComposedSpec)) fnExactReadComposedCard

/-- THE TIED CARD OF 'laws.FnCents'. -/
def fnCentsCard : Claim7 := { stood := { row := fnCentsRow, standIns := [], harness := (true, "05da8b09e544b3547aac6141f0cd5e38a046572b141b0a44bf5f013e5c78c6fd"), looks := true }, kinds := [], alts := [], laidByText := true, laidKinds := [.data], laidTests := true, laidLooks := .later }
def FnCentsCardSaid : Prop := Claim7.holds Tryd.pinned (.plain (OpenSpec.ofChange fnCentsSpec)) fnCentsCard

/-- THE TIED CARD OF 'laws.FnBeats'. -/
def fnBeatsCard : Claim7 := { stood := { row := fnBeatsRow, standIns := [], harness := (true, "05da8b09e544b3547aac6141f0cd5e38a046572b141b0a44bf5f013e5c78c6fd"), looks := true }, kinds := [], alts := [], laidByText := true, laidKinds := [.data], laidTests := true, laidLooks := .later }
def FnBeatsCardSaid : Prop := Claim7.holds Tryd.pinned (.plain (OpenSpec.ofChange fnBeatsSpec)) fnBeatsCard

/-- THE TIED CARD OF 'laws.FnRatios'. -/
def fnRatiosCard : Claim7 := { stood := { row := fnRatiosRow, standIns := [], harness := (true, "05da8b09e544b3547aac6141f0cd5e38a046572b141b0a44bf5f013e5c78c6fd"), looks := true }, kinds := [], alts := [], laidByText := true, laidKinds := [.data, .data, .data, .sentinel, .sentinel], laidTests := true, laidLooks := .later }
def FnRatiosCardSaid : Prop := Claim7.holds Tryd.pinned (.plain (OpenSpec.ofChange fnRatiosSpec)) fnRatiosCard

/-- THE TIED CARD OF 'laws.FnRagas'. -/
def fnRagasCard : Claim7 := { stood := { row := fnRagasRow, standIns := [], harness := (true, "05da8b09e544b3547aac6141f0cd5e38a046572b141b0a44bf5f013e5c78c6fd"), looks := true }, kinds := [], alts := [], laidByText := true, laidKinds := [.data, .pinned], laidTests := true, laidLooks := .later }
def FnRagasCardSaid : Prop := Claim7.holds Tryd.pinned (.plain (OpenSpec.ofChange fnRagasSpec)) fnRagasCard

/-- THE TIED CARD OF 'laws.FnBasics'. -/
def fnBasicsCard : Claim7 := { stood := { row := fnBasicsRow, standIns := [], harness := (true, "05da8b09e544b3547aac6141f0cd5e38a046572b141b0a44bf5f013e5c78c6fd"), looks := true }, kinds := [], alts := [], laidByText := true, laidKinds := [.data, .data, .data, .data, .sentinel, .sentinel, .pinned], laidTests := true, laidLooks := .later }
def FnBasicsCardSaid : Prop := Claim7.holds Tryd.pinned (.plain (OpenSpec.ofChange fnBasicsSpec)) fnBasicsCard

/-- THE SECOND FORM's CARD OF 'laws.FnExactSplitWords'. -/
def fnExactSplitWordsUptoCard : Claim7 := { stood := { row := fnExactSplitWordsUptoRow, standIns := [], harness := (true, "05da8b09e544b3547aac6141f0cd5e38a046572b141b0a44bf5f013e5c78c6fd"), looks := true }, kinds := [], alts := [], laidByText := true, laidKinds := [.data, .pinned], laidTests := true, laidLooks := .later }
def FnExactSplitWordsUptoCardSaid : Prop := Claim7.holds Tryd.pinned (.plain (OpenSpec.upto fnExactSplitWordsSpec)) fnExactSplitWordsUptoCard

/-- THE SECOND FORM's CARD OF 'laws.FnExactSyllablesText'. -/
def fnExactSyllablesTextUptoCard : Claim7 := { stood := { row := fnExactSyllablesTextUptoRow, standIns := [], harness := (true, "05da8b09e544b3547aac6141f0cd5e38a046572b141b0a44bf5f013e5c78c6fd"), looks := true }, kinds := [], alts := [], laidByText := true, laidKinds := [.data, .data, .data], laidTests := true, laidLooks := .later }
def FnExactSyllablesTextUptoCardSaid : Prop := Claim7.holds Tryd.pinned (.plain (OpenSpec.upto fnExactSyllablesTextSpec)) fnExactSyllablesTextUptoCard

/-- THE SECOND FORM's CARD OF 'laws.FnExactTalaText'. -/
def fnExactTalaTextUptoCard : Claim7 := { stood := { row := fnExactTalaTextUptoRow, standIns := [], harness := (true, "05da8b09e544b3547aac6141f0cd5e38a046572b141b0a44bf5f013e5c78c6fd"), looks := true }, kinds := [], alts := [], laidByText := true, laidKinds := [.data, .data, .data], laidTests := true, laidLooks := .later }
def FnExactTalaTextUptoCardSaid : Prop := Claim7.holds Tryd.pinned (.plain (OpenSpec.upto fnExactTalaTextSpec)) fnExactTalaTextUptoCard

/-- THE SECOND FORM's CARD OF 'laws.FnExactReadComposed'. -/
def fnExactReadComposedUptoCard : Claim7 := { stood := { row := fnExactReadComposedUptoRow, standIns := [], harness := (true, "05da8b09e544b3547aac6141f0cd5e38a046572b141b0a44bf5f013e5c78c6fd"), looks := true }, kinds := [], alts := [], laidByText := true, laidKinds := [.data, .pinned], laidTests := true, laidLooks := .later }
def FnExactReadComposedUptoCardSaid : Prop := Claim7.holds Tryd.pinned (.plain (OpenSpec.upto fnExactReadComposedSpec)) fnExactReadComposedUptoCard

/-- THE SECOND FORM's CARD OF 'laws.FnCents'. -/
def fnCentsUptoCard : Claim7 := { stood := { row := fnCentsUptoRow, standIns := [], harness := (true, "05da8b09e544b3547aac6141f0cd5e38a046572b141b0a44bf5f013e5c78c6fd"), looks := true }, kinds := [], alts := [], laidByText := true, laidKinds := [.data], laidTests := true, laidLooks := .later }
def FnCentsUptoCardSaid : Prop := Claim7.holds Tryd.pinned (.plain (OpenSpec.upto fnCentsSpec)) fnCentsUptoCard

/-- THE SECOND FORM's CARD OF 'laws.FnBeats'. -/
def fnBeatsUptoCard : Claim7 := { stood := { row := fnBeatsUptoRow, standIns := [], harness := (true, "05da8b09e544b3547aac6141f0cd5e38a046572b141b0a44bf5f013e5c78c6fd"), looks := true }, kinds := [], alts := [], laidByText := true, laidKinds := [.data], laidTests := true, laidLooks := .later }
def FnBeatsUptoCardSaid : Prop := Claim7.holds Tryd.pinned (.plain (OpenSpec.upto fnBeatsSpec)) fnBeatsUptoCard

/-- THE SECOND FORM's CARD OF 'laws.FnRatios'. -/
def fnRatiosUptoCard : Claim7 := { stood := { row := fnRatiosUptoRow, standIns := [], harness := (true, "05da8b09e544b3547aac6141f0cd5e38a046572b141b0a44bf5f013e5c78c6fd"), looks := true }, kinds := [], alts := [], laidByText := true, laidKinds := [.data, .data, .data, .sentinel, .sentinel], laidTests := true, laidLooks := .later }
def FnRatiosUptoCardSaid : Prop := Claim7.holds Tryd.pinned (.plain (OpenSpec.upto fnRatiosSpec)) fnRatiosUptoCard

/-- THE SECOND FORM's CARD OF 'laws.FnRagas'. -/
def fnRagasUptoCard : Claim7 := { stood := { row := fnRagasUptoRow, standIns := [], harness := (true, "05da8b09e544b3547aac6141f0cd5e38a046572b141b0a44bf5f013e5c78c6fd"), looks := true }, kinds := [], alts := [], laidByText := true, laidKinds := [.data, .pinned], laidTests := true, laidLooks := .later }
def FnRagasUptoCardSaid : Prop := Claim7.holds Tryd.pinned (.plain (OpenSpec.upto fnRagasSpec)) fnRagasUptoCard

/-- THE SECOND FORM's CARD OF 'laws.FnBasics'. -/
def fnBasicsUptoCard : Claim7 := { stood := { row := fnBasicsUptoRow, standIns := [], harness := (true, "05da8b09e544b3547aac6141f0cd5e38a046572b141b0a44bf5f013e5c78c6fd"), looks := true }, kinds := [], alts := [], laidByText := true, laidKinds := [.data, .data, .data, .data, .sentinel, .sentinel, .pinned], laidTests := true, laidLooks := .later }
def FnBasicsUptoCardSaid : Prop := Claim7.holds Tryd.pinned (.plain (OpenSpec.upto fnBasicsSpec)) fnBasicsUptoCard
end Rows
end Go.Proofs.YtmeflmlejcmckaaDoor
