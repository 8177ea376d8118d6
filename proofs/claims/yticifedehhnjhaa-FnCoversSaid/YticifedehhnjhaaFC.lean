/- The functions that the law reaches, as functions on plain values. -/
import Derived.Test.YticifedehhnjhaaEC
namespace Go.Proofs.Yticifedehhnjhaa.F
set_option linter.unusedVariables false
set_option maxRecDepth 100000
open Go Go.Proofs.Yticifedehhnjhaa.Eng
noncomputable def laws_FnCovers (n : Nat) (a0 : List (Int)) (a1 : List (Int)) : Option (Bool) := evN CFG n (.call ⟨6, [.cv false [.v (.sl (.int .u8)) a0], .cv false [.v (.sl (.int .u8)) a1]]⟩)
noncomputable def laws_b10Long (n : Nat) (a0 : List (Int)) : Option (Bool) := evN CFG n (.call ⟨27, [.cv false [.v (.sl (.int .u8)) a0]]⟩)
noncomputable def spec_DrawFewestPhrases (n : Nat) (a0 : List (Int)) : Option ((List (Int) × (List (List (Int)) × Int))) := evN CFG n (.call ⟨33, [.cv false [.v (.sl (.int .u8)) a0]]⟩)
noncomputable def impl_FewestPhrases (n : Nat) (a0 : List (Int)) (a1 : List (List (Int))) (a2 : Int) : Option ((List (Int) × Int)) := evN CFG n (.call ⟨34, [.cv false [.v (.sl (.int .i64)) a0], .cv false [.v (.sl (.sl (.int .i64))) a1], .cv false [.v (.int .i64) a2]]⟩)
noncomputable def spec_CoveredBy (n : Nat) (a0 : List (Int)) (a1 : List (List (Int))) : Option ((List (Int) × Int)) := evN CFG n (.call ⟨35, [.cv false [.v (.sl (.int .i64)) a0], .cv false [.v (.sl (.sl (.int .i64))) a1]]⟩)
noncomputable def laws_b10Rises (n : Nat) (a0 : List (Int)) (a1 : Int) : Option (Bool) := evN CFG n (.call ⟨36, [.cv false [.v (.sl (.int .i64)) a0], .cv false [.v (.int .i64) a1]]⟩)
noncomputable def laws_FnCovers_r10 (n : Nat) (x0 : List (Int)) (x1 : List (Int)) (x5 : List (Int)) (x6 : List (List (Int))) (x8 : List (Int)) (x10 : List (Int)) (x12 : Int) : Option (Bool) := evN CFG n (.run 6 [0, 0] (tdo CFG 6 10) (mkSt [(.tm 0, .tm 0 (.cv false [.v (.sl (.int .u8)) x0])), (.tm 1, .tm 0 (.cv false [.v (.sl (.int .u8)) x1])), (.tm 5, .tm 0 (.cv false [.own (.int .i64) x5])), (.tm 6, .tm 0 (.cv false [.own (.sl (.int .i64)) x6])), (.tm 8, .tm 0 (.cv false [.own (.int .i64) x8])), (.tm 10, .tm 0 (.cv false [.own (.int .i64) x10])), (.tm 12, .tm 0 (.cv false [.v (.int .i64) x12]))]))
noncomputable def laws_FnCovers_r21 (n : Nat) (x0 : List (Int)) (x1 : List (Int)) : Option (Bool) := evN CFG n (.run 6 [0, 0] (tdo CFG 6 21) (mkSt [(.tm 0, .tm 0 (.cv false [.v (.sl (.int .u8)) x0])), (.tm 1, .tm 0 (.cv false [.v (.sl (.int .u8)) x1]))]))
noncomputable def spec_l00From (n : Nat) (a0 : List (Int)) : Option ((List (Int) × (Int × Int))) := evN CFG n (.call ⟨48, [.cv false [.v (.sl (.int .u8)) a0]]⟩)
noncomputable def spec_l06DrawPitches (n : Nat) (p0_0 : List (Int)) (p0_1 : Int) (p0_2 : Int) : Option ((List (Int) × (List (Int) × (Int × Int)))) := evN CFG n (.call ⟨83, [.io [.v (.sl (.int .u8)) p0_0, .v (.int .i64) p0_1, .v (.int .u64) p0_2]]⟩)
noncomputable def spec_l06Draw (n : Nat) (p0_0 : List (Int)) (p0_1 : Int) (p0_2 : Int) : Option ((List (List (Int)) × (List (Int) × (Int × Int)))) := evN CFG n (.call ⟨84, [.io [.v (.sl (.int .u8)) p0_0, .v (.int .i64) p0_1, .v (.int .u64) p0_2]]⟩)
noncomputable def spec_l00Src_among (n : Nat) (p0_0 : List (Int)) (p0_1 : Int) (p0_2 : Int) (a1 : List (Int)) : Option ((Int × (List (Int) × (Int × Int)))) := evN CFG n (.call ⟨85, [.io [.v (.sl (.int .u8)) p0_0, .v (.int .i64) p0_1, .v (.int .u64) p0_2], .cv false [.v (.sl (.int .i64)) a1]]⟩)
noncomputable def impl_ValidPhrases (n : Nat) (a0 : List (List (Int))) : Option (Bool) := evN CFG n (.call ⟨86, [.cv false [.v (.sl (.sl (.int .i64))) a0]]⟩)
noncomputable def impl_pitchesOk (n : Nat) (a0 : List (Int)) : Option (Bool) := evN CFG n (.call ⟨54, [.cv false [.v (.sl (.int .i64)) a0]]⟩)
noncomputable def impl_budgetValid (n : Nat) (a0 : Int) : Option (Bool) := evN CFG n (.call ⟨87, [.cv false [.v (.int .i64) a0]]⟩)
noncomputable def impl_coveredSet (n : Nat) (a0 : List (Int)) (a1 : List (List (Int))) : Option (Int) := evN CFG n (.call ⟨88, [.cv false [.v (.sl (.int .i64)) a0], .cv false [.v (.sl (.sl (.int .i64))) a1]]⟩)
noncomputable def impl_FewestPhrases_r9 (n : Nat) (x0 : List (Int)) (x29 : List (List (Int))) (x30 : Int) (x31 : Int) (b8_0 : List (Int)) (b8_1 : Int) (b8_2 : Int) (b8_3 : List (Int)) : Option ((List (Int) × Int)) := evN CFG n (.run 34 [0, 0, 0] (tdo CFG 34 9) (mkSt [(.tm 0, .tm 0 (.cv false [.v (.sl (.int .i64)) x0])), (.tm 8, .tm 0 (.cv false [.pb 8 0 0])), (.tm 29, .tm 0 (.cv false [.v (.sl (.sl (.int .i64))) x29])), (.tm 30, .tm 0 (.cv false [.v (.int .i64) x30])), (.tm 31, .tm 0 (.cv false [.v (.int .i64) x31])), (.bx 8, .bx 0 [(0, .own (.int .u64) b8_0), (0, .v (.int .u64) b8_1), (0, .v (.int .i64) b8_2), (0, .own (.int .i64) b8_3)])]))
noncomputable def spec_l06Ok (n : Nat) (a0 : List (List (Int))) : Option (Bool) := evN CFG n (.call ⟨90, [.cv false [.v (.sl (.sl (.int .i64))) a0]]⟩)
noncomputable def spec_l05Pitches (n : Nat) (a0 : List (Int)) : Option (Bool) := evN CFG n (.call ⟨58, [.cv false [.v (.sl (.int .i64)) a0]]⟩)
noncomputable def spec_l06Covered (n : Nat) (a0 : List (Int)) (a1 : List (List (Int))) : Option (List (Bool)) := evN CFG n (.call ⟨91, [.cv false [.v (.sl (.int .i64)) a0], .cv false [.v (.sl (.sl (.int .i64))) a1]]⟩)
noncomputable def spec_CoveredBy_r8 (n : Nat) (x6 : List (Bool)) (x7 : List (Int)) (x8 : Int) : Option ((List (Int) × Int)) := evN CFG n (.run 35 [0, 0] (tdo CFG 35 8) (mkSt [(.tm 6, .tm 0 (.cv false [.own .bool x6])), (.tm 7, .tm 0 (.cv false [.own (.int .i64) x7])), (.tm 8, .tm 0 (.cv false [.v (.int .i64) x8]))]))
noncomputable def laws_b10Rises_r2 (n : Nat) (x0 : List (Int)) (x1 : Int) (x5 : Int) : Option (Bool) := evN CFG n (.run 36 [0, 0] (tdo CFG 36 2) (mkSt [(.tm 0, .tm 0 (.cv false [.v (.sl (.int .i64)) x0])), (.tm 1, .tm 0 (.cv false [.v (.int .i64) x1])), (.tm 5, .tm 0 (.cv false [.v (.int .i64) x5]))]))
noncomputable def laws_FnCovers_r14 (n : Nat) (x0 : List (Int)) (x1 : List (Int)) (x5 : List (Int)) (x6 : List (List (Int))) (x8 : List (Int)) (x10 : List (Int)) (x12 : Int) (x13 : List (List (Int))) (x14 : Int) : Option (Bool) := evN CFG n (.run 6 [0, 0] (tdo CFG 6 14) (mkSt [(.tm 0, .tm 0 (.cv false [.v (.sl (.int .u8)) x0])), (.tm 1, .tm 0 (.cv false [.v (.sl (.int .u8)) x1])), (.tm 5, .tm 0 (.cv false [.own (.int .i64) x5])), (.tm 6, .tm 0 (.cv false [.own (.sl (.int .i64)) x6])), (.tm 8, .tm 0 (.cv false [.own (.int .i64) x8])), (.tm 10, .tm 0 (.cv false [.own (.int .i64) x10])), (.tm 12, .tm 0 (.cv false [.v (.int .i64) x12])), (.tm 13, .tm 0 (.cv false [.own (.sl (.int .i64)) x13])), (.tm 14, .tm 0 (.cv false [.v (.int .i64) x14]))]))
noncomputable def spec_DrawFrequentPhrase (n : Nat) (a0 : List (Int)) : Option ((List (Int) × Int)) := evN CFG n (.call ⟨37, [.cv false [.v (.sl (.int .u8)) a0]]⟩)
noncomputable def impl_FrequentPhrase (n : Nat) (a0 : List (Int)) (a1 : Int) : Option ((List (Int) × (Int × Int))) := evN CFG n (.call ⟨38, [.cv false [.v (.sl (.int .i64)) a0], .cv false [.v (.int .i64) a1]]⟩)
noncomputable def spec_FindPhrase (n : Nat) (a0 : List (Int)) (a1 : List (Int)) : Option ((List (Int) × Int)) := evN CFG n (.call ⟨39, [.cv false [.v (.sl (.int .i64)) a0], .cv false [.v (.sl (.int .i64)) a1]]⟩)
noncomputable def laws_b10At (n : Nat) (a0 : List (Int)) (a1 : Int) (a2 : Int) : Option (Int) := evN CFG n (.call ⟨40, [.cv false [.v (.sl (.int .u8)) a0], .cv false [.v (.int .i64) a1], .cv false [.v (.int .i64) a2]]⟩)
noncomputable def spec_l00Src_pick (n : Nat) (p0_0 : List (Int)) (p0_1 : Int) (p0_2 : Int) (a1 : Int) : Option ((Int × (List (Int) × (Int × Int)))) := evN CFG n (.call ⟨109, [.io [.v (.sl (.int .u8)) p0_0, .v (.int .i64) p0_1, .v (.int .u64) p0_2], .cv false [.v (.int .i64) a1]]⟩)
noncomputable def spec_l06DrawPitches_r3 (n : Nat) (x3 : List (Int)) (x4 : Int) (b0_0 : List (Int)) (b0_1 : Int) (b0_2 : Int) : Option ((List (Int) × (List (Int) × (Int × Int)))) := evN CFG n (.run 83 [1] (tdo CFG 83 3) (mkSt [(.tm 0, .tm 0 (.cv false [.pb 0 0 0])), (.tm 3, .tm 0 (.cv false [.own (.int .i64) x3])), (.tm 4, .tm 0 (.cv false [.v (.int .i64) x4])), (.bx 0, .bx 0 [(0, .v (.sl (.int .u8)) b0_0), (0, .v (.int .i64) b0_1), (0, .v (.int .u64) b0_2)])]))
noncomputable def spec_l06DrawOk (n : Nat) (p0_0 : List (Int)) (p0_1 : Int) (p0_2 : Int) : Option ((List (List (Int)) × (List (Int) × (Int × Int)))) := evN CFG n (.call ⟨136, [.io [.v (.sl (.int .u8)) p0_0, .v (.int .i64) p0_1, .v (.int .u64) p0_2]]⟩)
noncomputable def spec_l06BentPhrase (n : Nat) (p0_0 : List (Int)) (p0_1 : Int) (p0_2 : Int) : Option ((List (Int) × (List (Int) × (Int × Int)))) := evN CFG n (.call ⟨137, [.io [.v (.sl (.int .u8)) p0_0, .v (.int .i64) p0_1, .v (.int .u64) p0_2]]⟩)
noncomputable def spec_l06Draw_r9 (n : Nat) (x3 : List (List (Int))) (x4 : Int) (x5 : Int) (b0_0 : List (Int)) (b0_1 : Int) (b0_2 : Int) : Option ((List (List (Int)) × (List (Int) × (Int × Int)))) := evN CFG n (.run 84 [1] (tdo CFG 84 9) (mkSt [(.tm 3, .tm 0 (.cv false [.own (.sl (.int .i64)) x3])), (.tm 4, .tm 0 (.cv false [.v (.int .i64) x4])), (.tm 5, .tm 0 (.cv false [.v (.int .i64) x5])), (.bx 0, .bx 0 [(0, .v (.sl (.int .u8)) b0_0), (0, .v (.int .i64) b0_1), (0, .v (.int .u64) b0_2)])]))
noncomputable def impl_ValidPhrases_r4 (n : Nat) (x0 : List (List (Int))) (x8 : List (List (Int))) (x9 : Int) (x10 : Int) : Option (Bool) := evN CFG n (.run 86 [0] (tdo CFG 86 4) (mkSt [(.tm 0, .tm 0 (.cv false [.v (.sl (.sl (.int .i64))) x0])), (.tm 8, .tm 0 (.cv false [.v (.sl (.sl (.int .i64))) x8])), (.tm 9, .tm 0 (.cv false [.v (.int .i64) x9])), (.tm 10, .tm 0 (.cv false [.v (.int .i64) x10]))]))
noncomputable def impl_allWithin (n : Nat) (a0 : List (Int)) (a1 : Int) (a2 : Int) : Option (Bool) := evN CFG n (.call ⟨114, [.cv false [.v (.sl (.int .i64)) a0], .cv false [.v (.int .i64) a1], .cv false [.v (.int .i64) a2]]⟩)
noncomputable def impl_within (n : Nat) (a0 : Int) (a1 : Int) (a2 : Int) : Option (Bool) := evN CFG n (.call ⟨92, [.cv false [.v (.int .i64) a0], .cv false [.v (.int .i64) a1], .cv false [.v (.int .i64) a2]]⟩)
noncomputable def impl_coveredSet_r3 (n : Nat) (x0 : List (Int)) (x5 : Int) (x11 : List (List (Int))) (x12 : Int) (x13 : Int) : Option (Int) := evN CFG n (.run 88 [0, 0] (tdo CFG 88 3) (mkSt [(.tm 0, .tm 0 (.cv false [.v (.sl (.int .i64)) x0])), (.tm 5, .tm 0 (.cv false [.v (.int .u64) x5])), (.tm 11, .tm 0 (.cv false [.v (.sl (.sl (.int .i64))) x11])), (.tm 12, .tm 0 (.cv false [.v (.int .i64) x12])), (.tm 13, .tm 0 (.cv false [.v (.int .i64) x13]))]))
noncomputable def impl_FewestPhrases_r15 (n : Nat) (x11 : Int) (b8_0 : List (Int)) (b8_1 : Int) (b8_2 : Int) (b8_3 : List (Int)) : Option ((List (Int) × Int)) := evN CFG n (.run 34 [0, 0, 0] (tdo CFG 34 15) (mkSt [(.tm 8, .tm 0 (.cv false [.pb 8 0 0])), (.tm 11, .tm 0 (.cv false [.v (.int .i64) x11])), (.bx 8, .bx 0 [(0, .own (.int .u64) b8_0), (0, .v (.int .u64) b8_1), (0, .v (.int .i64) b8_2), (0, .own (.int .i64) b8_3)])]))
noncomputable def spec_l06Ok_r2 (n : Nat) (x0 : List (List (Int))) (x3 : Int) : Option (Bool) := evN CFG n (.run 90 [0] (tdo CFG 90 2) (mkSt [(.tm 0, .tm 0 (.cv false [.v (.sl (.sl (.int .i64))) x0])), (.tm 3, .tm 0 (.cv false [.v (.int .i64) x3]))]))
noncomputable def spec_l05Pitches_r2 (n : Nat) (x0 : List (Int)) (x3 : Int) : Option (Bool) := evN CFG n (.run 58 [0] (tdo CFG 58 2) (mkSt [(.tm 0, .tm 0 (.cv false [.v (.sl (.int .i64)) x0])), (.tm 3, .tm 0 (.cv false [.v (.int .i64) x3]))]))
noncomputable def spec_l06Covered_r3 (n : Nat) (x0 : List (Int)) (x1 : List (List (Int))) (x5 : List (Bool)) (x6 : Int) : Option (List (Bool)) := evN CFG n (.run 91 [0, 0] (tdo CFG 91 3) (mkSt [(.tm 0, .tm 0 (.cv false [.v (.sl (.int .i64)) x0])), (.tm 1, .tm 0 (.cv false [.v (.sl (.sl (.int .i64))) x1])), (.tm 5, .tm 0 (.cv false [.own .bool x5])), (.tm 6, .tm 0 (.cv false [.v (.int .i64) x6]))]))
noncomputable def impl_FrequentPhrase_r8 (n : Nat) (x0 : List (Int)) (x1 : Int) (x7 : List (Int)) (x8 : Int) (x9 : Int) : Option ((List (Int) × (Int × Int))) := evN CFG n (.run 38 [0, 0] (tdo CFG 38 8) (mkSt [(.tm 0, .tm 0 (.cv false [.v (.sl (.int .i64)) x0])), (.tm 1, .tm 0 (.cv false [.v (.int .i64) x1])), (.tm 7, .tm 0 (.cv false [.own (.int .i64) x7])), (.tm 8, .tm 0 (.cv false [.v (.int .i64) x8])), (.tm 9, .tm 0 (.cv false [.v (.int .i64) x9]))]))
noncomputable def spec_l06Ask (n : Nat) (a0 : List (Int)) (a1 : List (Int)) : Option (Int) := evN CFG n (.call ⟨95, [.cv false [.v (.sl (.int .i64)) a0], .cv false [.v (.sl (.int .i64)) a1]]⟩)
noncomputable def spec_l06Find (n : Nat) (a0 : List (Int)) (a1 : List (Int)) : Option (List (Int)) := evN CFG n (.call ⟨96, [.cv false [.v (.sl (.int .i64)) a0], .cv false [.v (.sl (.int .i64)) a1]]⟩)
noncomputable def spec_l00Src_next (n : Nat) (p0_0 : List (Int)) (p0_1 : Int) (p0_2 : Int) : Option ((Int × (List (Int) × (Int × Int)))) := evN CFG n (.call ⟨152, [.io [.v (.sl (.int .u8)) p0_0, .v (.int .i64) p0_1, .v (.int .u64) p0_2]]⟩)
noncomputable def spec_l06DrawPhrase (n : Nat) (p0_0 : List (Int)) (p0_1 : Int) (p0_2 : Int) : Option ((List (Int) × (List (Int) × (Int × Int)))) := evN CFG n (.call ⟨135, [.io [.v (.sl (.int .u8)) p0_0, .v (.int .i64) p0_1, .v (.int .u64) p0_2]]⟩)
noncomputable def spec_l06DrawPitches_r11 (n : Nat) (x3 : List (Int)) (x5 : Int) (b0_0 : List (Int)) (b0_1 : Int) (b0_2 : Int) : Option ((List (Int) × (List (Int) × (Int × Int)))) := evN CFG n (.run 83 [1] (tdo CFG 83 11) (mkSt [(.tm 3, .tm 0 (.cv false [.own (.int .i64) x3])), (.tm 5, .tm 0 (.cv false [.v (.int .i64) x5])), (.bx 0, .bx 0 [(0, .v (.sl (.int .u8)) b0_0), (0, .v (.int .i64) b0_1), (0, .v (.int .u64) b0_2)])]))
noncomputable def spec_l06DrawOk_r3 (n : Nat) (x3 : List (List (Int))) (x4 : Int) (b0_0 : List (Int)) (b0_1 : Int) (b0_2 : Int) : Option ((List (List (Int)) × (List (Int) × (Int × Int)))) := evN CFG n (.run 136 [1] (tdo CFG 136 3) (mkSt [(.tm 0, .tm 0 (.cv false [.pb 0 0 0])), (.tm 3, .tm 0 (.cv false [.own (.sl (.int .i64)) x3])), (.tm 4, .tm 0 (.cv false [.v (.int .i64) x4])), (.bx 0, .bx 0 [(0, .v (.sl (.int .u8)) b0_0), (0, .v (.int .i64) b0_1), (0, .v (.int .u64) b0_2)])]))
noncomputable def spec_l06BentPhrase_r9 (n : Nat) (x3 : List (Int)) (x4 : Int) (b0_0 : List (Int)) (b0_1 : Int) (b0_2 : Int) : Option ((List (Int) × (List (Int) × (Int × Int)))) := evN CFG n (.run 137 [1] (tdo CFG 137 9) (mkSt [(.tm 3, .tm 0 (.cv false [.own (.int .i64) x3])), (.tm 4, .tm 0 (.cv false [.v (.int .i64) x4])), (.bx 0, .bx 0 [(0, .v (.sl (.int .u8)) b0_0), (0, .v (.int .i64) b0_1), (0, .v (.int .u64) b0_2)])]))
noncomputable def impl_phraseOk (n : Nat) (a0 : List (Int)) : Option (Bool) := evN CFG n (.call ⟨138, [.cv false [.v (.sl (.int .i64)) a0]]⟩)
noncomputable def slices_Compare_int64_int64 (n : Nat) (a0 : List (Int)) (a1 : List (Int)) : Option (Int) := evN CFG n (.call ⟨93, [.cv false [.v (.sl (.int .i64)) a0], .cv false [.v (.sl (.int .i64)) a1]]⟩)
noncomputable def slices_ContainsFunc_int64_int64_i0 (n : Nat) (a0 : List (Int)) (a1c0 : Int) (a1c1 : Int) : Option (Bool) := evN CFG n (.call ⟨156, [.cv false [.v (.sl (.int .i64)) a0], .cv false [.fn 157 [⟨(.int .i64), a1c0⟩, ⟨(.int .i64), a1c1⟩]]]⟩)
noncomputable def impl_occurrences (n : Nat) (a0 : List (Int)) (a1 : List (Int)) : Option (List (Int)) := evN CFG n (.call ⟨60, [.cv false [.v (.sl (.int .i64)) a0], .cv false [.v (.sl (.int .i64)) a1]]⟩)
noncomputable def impl_coveredSet_r6 (n : Nat) (x0 : List (Int)) (x5 : Int) (x7 : List (Int)) (x11 : List (List (Int))) (x12 : Int) (x13 : Int) (x19 : List (Int)) (x20 : Int) (x21 : Int) : Option (Int) := evN CFG n (.run 88 [0, 0] (tdo CFG 88 6) (mkSt [(.tm 0, .tm 0 (.cv false [.v (.sl (.int .i64)) x0])), (.tm 5, .tm 0 (.cv false [.v (.int .u64) x5])), (.tm 7, .tm 0 (.cv false [.v (.sl (.int .i64)) x7])), (.tm 11, .tm 0 (.cv false [.v (.sl (.sl (.int .i64))) x11])), (.tm 12, .tm 0 (.cv false [.v (.int .i64) x12])), (.tm 13, .tm 0 (.cv false [.v (.int .i64) x13])), (.tm 19, .tm 0 (.cv false [.own (.int .i64) x19])), (.tm 20, .tm 0 (.cv false [.v (.int .i64) x20])), (.tm 21, .tm 0 (.cv false [.v (.int .i64) x21]))]))
noncomputable def impl_phraseSearch_extend (n : Nat) (p0_0 : List (Int)) (p0_1 : Int) (p0_2 : Int) (p0_3 : List (Int)) (a1 : Int) (a2 : Int) (a3 : Int) : Option ((Bool × (List (Int) × (Int × (Int × List (Int)))))) := evN CFG n (.call ⟨89, [.io [.own (.int .u64) p0_0, .v (.int .u64) p0_1, .v (.int .i64) p0_2, .own (.int .i64) p0_3], .cv false [.v (.int .i64) a1], .cv false [.v (.int .i64) a2], .cv false [.v (.int .u64) a3]]⟩)
noncomputable def spec_l06Phrase (n : Nat) (a0 : List (Int)) : Option (Bool) := evN CFG n (.call ⟨139, [.cv false [.v (.sl (.int .i64)) a0]]⟩)
noncomputable def spec_l06Before (n : Nat) (a0 : List (Int)) (a1 : List (Int)) : Option (Bool) := evN CFG n (.call ⟨140, [.cv false [.v (.sl (.int .i64)) a0], .cv false [.v (.sl (.int .i64)) a1]]⟩)
noncomputable def spec_l03Pitch (n : Nat) (a0 : Int) : Option (Bool) := evN CFG n (.call ⟨119, [.cv false [.v (.int .i64) a0]]⟩)
noncomputable def spec_l06Covered_r7 (n : Nat) (x0 : List (Int)) (x1 : List (List (Int))) (x5 : List (Bool)) (x6 : Int) (x7 : List (Int)) (x8 : Int) : Option (List (Bool)) := evN CFG n (.run 91 [0, 0] (tdo CFG 91 7) (mkSt [(.tm 0, .tm 0 (.cv false [.v (.sl (.int .i64)) x0])), (.tm 1, .tm 0 (.cv false [.v (.sl (.sl (.int .i64))) x1])), (.tm 5, .tm 0 (.cv false [.own .bool x5])), (.tm 6, .tm 0 (.cv false [.v (.int .i64) x6])), (.tm 7, .tm 0 (.cv false [.own (.int .i64) x7])), (.tm 8, .tm 0 (.cv false [.v (.int .i64) x8]))]))
noncomputable def impl_FrequentPhrase_r8v1 (n : Nat) (x0 : List (Int)) (x1 : Int) (x7 : List (Int)) (x8 : Int) (x9 : Int) : Option ((List (Int) × (Int × Int))) := evN CFG n (.run 38 [0, 0] (tdo CFG 38 8) (mkSt [(.tm 0, .tm 0 (.cv false [.v (.sl (.int .i64)) x0])), (.tm 1, .tm 0 (.cv false [.v (.int .i64) x1])), (.tm 7, .tm 0 (.cv false [.v (.sl (.int .i64)) x7])), (.tm 8, .tm 0 (.cv false [.v (.int .i64) x8])), (.tm 9, .tm 0 (.cv false [.v (.int .i64) x9]))]))
noncomputable def slices_Clone_int64_int64 (n : Nat) (a0 : List (Int)) : Option (List (Int)) := evN CFG n (.call ⟨94, [.cv false [.v (.sl (.int .i64)) a0]]⟩)
noncomputable def spec_l06Find_r3 (n : Nat) (x0 : List (Int)) (x1 : List (Int)) (x5 : List (Int)) (x6 : Int) : Option (List (Int)) := evN CFG n (.run 96 [0, 0] (tdo CFG 96 3) (mkSt [(.tm 0, .tm 0 (.cv false [.v (.sl (.int .i64)) x0])), (.tm 1, .tm 0 (.cv false [.v (.sl (.int .i64)) x1])), (.tm 5, .tm 0 (.cv false [.own (.int .i64) x5])), (.tm 6, .tm 0 (.cv false [.v (.int .i64) x6]))]))
noncomputable def spec_l00Src_next_r4 (n : Nat) (x3 : Int) (b0_0 : List (Int)) (b0_1 : Int) (b0_2 : Int) : Option ((Int × (List (Int) × (Int × Int)))) := evN CFG n (.run 152 [1] (tdo CFG 152 4) (mkSt [(.tm 0, .tm 0 (.cv false [.pb 0 0 0])), (.tm 3, .tm 0 (.cv false [.v (.int .i64) x3])), (.bx 0, .bx 0 [(0, .v (.sl (.int .u8)) b0_0), (0, .v (.int .i64) b0_1), (0, .v (.int .u64) b0_2)])]))
noncomputable def spec_l06DrawPhrase_r3 (n : Nat) (x3 : List (Int)) (x4 : Int) (b0_0 : List (Int)) (b0_1 : Int) (b0_2 : Int) : Option ((List (Int) × (List (Int) × (Int × Int)))) := evN CFG n (.run 135 [1] (tdo CFG 135 3) (mkSt [(.tm 0, .tm 0 (.cv false [.pb 0 0 0])), (.tm 3, .tm 0 (.cv false [.own (.int .i64) x3])), (.tm 4, .tm 0 (.cv false [.v (.int .i64) x4])), (.bx 0, .bx 0 [(0, .v (.sl (.int .u8)) b0_0), (0, .v (.int .i64) b0_1), (0, .v (.int .u64) b0_2)])]))
noncomputable def spec_l06Put (n : Nat) (a0 : List (List (Int))) (a1 : List (Int)) : Option (List (List (Int))) := evN CFG n (.call ⟨167, [.cv false [.v (.sl (.sl (.int .i64))) a0], .cv false [.v (.sl (.int .i64)) a1]]⟩)
noncomputable def slices_Compare_int64_int64_r2 (n : Nat) (x0 : List (Int)) (x1 : List (Int)) (x9 : List (Int)) (x10 : Int) (x11 : Int) : Option (Int) := evN CFG n (.run 93 [0, 0] (tdo CFG 93 2) (mkSt [(.tm 0, .tm 0 (.cv false [.v (.sl (.int .i64)) x0])), (.tm 1, .tm 0 (.cv false [.v (.sl (.int .i64)) x1])), (.tm 9, .tm 0 (.cv false [.v (.sl (.int .i64)) x9])), (.tm 10, .tm 0 (.cv false [.v (.int .i64) x10])), (.tm 11, .tm 0 (.cv false [.v (.int .i64) x11]))]))
noncomputable def slices_IndexFunc_int64_int64_i0 (n : Nat) (a0 : List (Int)) (a1c0 : Int) (a1c1 : Int) : Option (Int) := evN CFG n (.call ⟨178, [.cv false [.v (.sl (.int .i64)) a0], .cv false [.fn 157 [⟨(.int .i64), a1c0⟩, ⟨(.int .i64), a1c1⟩]]]⟩)
noncomputable def impl_occurrences_r3 (n : Nat) (x0 : List (Int)) (x1 : List (Int)) (x5 : List (Int)) (x6 : Int) : Option (List (Int)) := evN CFG n (.run 60 [0, 0] (tdo CFG 60 3) (mkSt [(.tm 0, .tm 0 (.cv false [.v (.sl (.int .i64)) x0])), (.tm 1, .tm 0 (.cv false [.v (.sl (.int .i64)) x1])), (.tm 5, .tm 0 (.cv false [.own (.int .i64) x5])), (.tm 6, .tm 0 (.cv false [.v (.int .i64) x6]))]))
noncomputable def impl_coveredSet_r9 (n : Nat) (x0 : List (Int)) (x5 : Int) (x7 : List (Int)) (x9 : Int) (x11 : List (List (Int))) (x12 : Int) (x13 : Int) (x19 : List (Int)) (x20 : Int) (x21 : Int) (x26 : Int) (x27 : Int) : Option (Int) := evN CFG n (.run 88 [0, 0] (tdo CFG 88 9) (mkSt [(.tm 0, .tm 0 (.cv false [.v (.sl (.int .i64)) x0])), (.tm 5, .tm 0 (.cv false [.v (.int .u64) x5])), (.tm 7, .tm 0 (.cv false [.v (.sl (.int .i64)) x7])), (.tm 9, .tm 0 (.cv false [.v (.int .i64) x9])), (.tm 11, .tm 0 (.cv false [.v (.sl (.sl (.int .i64))) x11])), (.tm 12, .tm 0 (.cv false [.v (.int .i64) x12])), (.tm 13, .tm 0 (.cv false [.v (.int .i64) x13])), (.tm 19, .tm 0 (.cv false [.own (.int .i64) x19])), (.tm 20, .tm 0 (.cv false [.v (.int .i64) x20])), (.tm 21, .tm 0 (.cv false [.v (.int .i64) x21])), (.tm 26, .tm 0 (.cv false [.v (.int .i64) x26])), (.tm 27, .tm 0 (.cv false [.v (.int .i64) x27]))]))
noncomputable def impl_phraseSearch_extend_r5 (n : Nat) (x2 : Int) (x3 : Int) (x9 : Int) (b0_0 : List (Int)) (b0_1 : Int) (b0_2 : Int) (b0_3 : List (Int)) : Option ((Bool × (List (Int) × (Int × (Int × List (Int)))))) := evN CFG n (.run 89 [1, 0, 0, 0] (tdo CFG 89 5) (mkSt [(.tm 0, .tm 0 (.cv false [.pb 0 0 0])), (.tm 2, .tm 0 (.cv false [.v (.int .i64) x2])), (.tm 3, .tm 0 (.cv false [.v (.int .u64) x3])), (.tm 9, .tm 0 (.cv false [.v (.int .i64) x9])), (.bx 0, .bx 0 [(0, .own (.int .u64) b0_0), (0, .v (.int .u64) b0_1), (0, .v (.int .i64) b0_2), (0, .own (.int .i64) b0_3)])]))
noncomputable def spec_l06Before_r2 (n : Nat) (x0 : List (Int)) (x1 : List (Int)) (x5 : Int) : Option (Bool) := evN CFG n (.run 140 [0, 0] (tdo CFG 140 2) (mkSt [(.tm 0, .tm 0 (.cv false [.v (.sl (.int .i64)) x0])), (.tm 1, .tm 0 (.cv false [.v (.sl (.int .i64)) x1])), (.tm 5, .tm 0 (.cv false [.v (.int .i64) x5]))]))
noncomputable def spec_l00In (n : Nat) (a0 : Int) (a1 : Int) (a2 : Int) : Option (Bool) := evN CFG n (.call ⟨118, [.cv false [.v (.int .i64) a0], .cv false [.v (.int .i64) a1], .cv false [.v (.int .i64) a2]]⟩)
noncomputable def spec_l06Covered_r10 (n : Nat) (x0 : List (Int)) (x1 : List (List (Int))) (x5 : List (Bool)) (x6 : Int) (x7 : List (Int)) (x8 : Int) (x9 : Int) : Option (List (Bool)) := evN CFG n (.run 91 [0, 0] (tdo CFG 91 10) (mkSt [(.tm 0, .tm 0 (.cv false [.v (.sl (.int .i64)) x0])), (.tm 1, .tm 0 (.cv false [.v (.sl (.sl (.int .i64))) x1])), (.tm 5, .tm 0 (.cv false [.own .bool x5])), (.tm 6, .tm 0 (.cv false [.v (.int .i64) x6])), (.tm 7, .tm 0 (.cv false [.own (.int .i64) x7])), (.tm 8, .tm 0 (.cv false [.v (.int .i64) x8])), (.tm 9, .tm 0 (.cv false [.v (.int .i64) x9]))]))
noncomputable def spec_l06Occurs (n : Nat) (a0 : List (Int)) (a1 : List (Int)) (a2 : Int) : Option (Bool) := evN CFG n (.call ⟨142, [.cv false [.v (.sl (.int .i64)) a0], .cv false [.v (.sl (.int .i64)) a1], .cv false [.v (.int .i64) a2]]⟩)
noncomputable def spec_l06Put_r4 (n : Nat) (x0 : List (List (Int))) (x1 : List (Int)) (x5 : List (List (Int))) (x6 : Bool) (x7 : Int) : Option (List (List (Int))) := evN CFG n (.run 167 [0, 0] (tdo CFG 167 4) (mkSt [(.tm 0, .tm 0 (.cv false [.v (.sl (.sl (.int .i64))) x0])), (.tm 1, .tm 0 (.cv false [.v (.sl (.int .i64)) x1])), (.tm 5, .tm 0 (.cv false [.own (.sl (.int .i64)) x5])), (.tm 6, .tm 0 (.cv false [.v .bool x6])), (.tm 7, .tm 0 (.cv false [.v (.int .i64) x7]))]))
noncomputable def cmp_Compare_int64 (n : Nat) (a0 : Int) (a1 : Int) : Option (Int) := evN CFG n (.call ⟨141, [.cv false [.v (.int .i64) a0], .cv false [.v (.int .i64) a1]]⟩)
noncomputable def slices_IndexFunc_int64_int64_i0_r2 (n : Nat) (x0 : List (Int)) (x1c0 : Int) (x1c1 : Int) (x7 : Int) (x8 : Int) : Option (Int) := evN CFG n (.run 178 [0, 0] (tdo CFG 178 2) (mkSt [(.tm 0, .tm 0 (.cv false [.v (.sl (.int .i64)) x0])), (.tm 1, .tm 0 (.cv false [.fn 157 [⟨(.int .i64), x1c0⟩, ⟨(.int .i64), x1c1⟩]])), (.tm 7, .tm 0 (.cv false [.v (.int .i64) x7])), (.tm 8, .tm 0 (.cv false [.v (.int .i64) x8]))]))
noncomputable def slices_Equal_int64_int64 (n : Nat) (a0 : List (Int)) (a1 : List (Int)) : Option (Bool) := evN CFG n (.call ⟨123, [.cv false [.v (.sl (.int .i64)) a0], .cv false [.v (.sl (.int .i64)) a1]]⟩)
noncomputable def spec_l06Occurs_r4 (n : Nat) (x0 : List (Int)) (x1 : List (Int)) (x2 : Int) (x7 : Int) : Option (Bool) := evN CFG n (.run 142 [0, 0, 0] (tdo CFG 142 4) (mkSt [(.tm 0, .tm 0 (.cv false [.v (.sl (.int .i64)) x0])), (.tm 1, .tm 0 (.cv false [.v (.sl (.int .i64)) x1])), (.tm 2, .tm 0 (.cv false [.v (.int .i64) x2])), (.tm 7, .tm 0 (.cv false [.v (.int .i64) x7]))]))
noncomputable def spec_l00Same (n : Nat) (a0 : List (Int)) (a1 : List (Int)) : Option (Bool) := evN CFG n (.call ⟨179, [.cv false [.v (.sl (.int .i64)) a0], .cv false [.v (.sl (.int .i64)) a1]]⟩)
noncomputable def spec_l06Put_r8 (n : Nat) (x0 : List (List (Int))) (x1 : List (Int)) (x5 : List (List (Int))) (x6 : Bool) (x7 : Int) : Option (List (List (Int))) := evN CFG n (.run 167 [0, 0] (tdo CFG 167 8) (mkSt [(.tm 0, .tm 0 (.cv false [.v (.sl (.sl (.int .i64))) x0])), (.tm 1, .tm 0 (.cv false [.v (.sl (.int .i64)) x1])), (.tm 5, .tm 0 (.cv false [.own (.sl (.int .i64)) x5])), (.tm 6, .tm 0 (.cv false [.v .bool x6])), (.tm 7, .tm 0 (.cv false [.v (.int .i64) x7]))]))
noncomputable def cmp_isNaN_int64 (n : Nat) (a0 : Int) : Option (Bool) := evN CFG n (.call ⟨168, [.cv false [.v (.int .i64) a0]]⟩)
noncomputable def impl_allWithin_1 (n : Nat) (a0 : Int) (a1 : Int) (a2 : Int) : Option (Bool) := evN CFG n (.call ⟨157, [.cv false [.v (.int .i64) a0], .cv false [.ps (.int .i64) a1], .cv false [.ps (.int .i64) a2]]⟩)
noncomputable def slices_Equal_int64_int64_r4 (n : Nat) (x0 : List (Int)) (x1 : List (Int)) (x12 : Int) (x13 : Int) : Option (Bool) := evN CFG n (.run 123 [0, 0] (tdo CFG 123 4) (mkSt [(.tm 0, .tm 0 (.cv false [.v (.sl (.int .i64)) x0])), (.tm 1, .tm 0 (.cv false [.v (.sl (.int .i64)) x1])), (.tm 12, .tm 0 (.cv false [.v (.int .i64) x12])), (.tm 13, .tm 0 (.cv false [.v (.int .i64) x13]))]))
noncomputable def spec_l00Same_r4 (n : Nat) (x0 : List (Int)) (x1 : List (Int)) (x5 : Int) : Option (Bool) := evN CFG n (.run 179 [0, 0] (tdo CFG 179 4) (mkSt [(.tm 0, .tm 0 (.cv false [.v (.sl (.int .i64)) x0])), (.tm 1, .tm 0 (.cv false [.v (.sl (.int .i64)) x1])), (.tm 5, .tm 0 (.cv false [.v (.int .i64) x5]))]))
theorem laws_FnCovers_up {a0 : List (Int)} {a1 : List (Int)} {n m : Nat} {x : Bool} (h : laws_FnCovers n a0 a1 = some x) (hm : n ≤ m) : laws_FnCovers m a0 a1 = some x := evN_mono (C := CFG) (t := .call ⟨6, [.cv false [.v (.sl (.int .u8)) a0], .cv false [.v (.sl (.int .u8)) a1]]⟩) (x := x) h hm
theorem laws_b10Long_up {a0 : List (Int)} {n m : Nat} {x : Bool} (h : laws_b10Long n a0 = some x) (hm : n ≤ m) : laws_b10Long m a0 = some x := evN_mono (C := CFG) (t := .call ⟨27, [.cv false [.v (.sl (.int .u8)) a0]]⟩) (x := x) h hm
theorem spec_DrawFewestPhrases_up {a0 : List (Int)} {n m : Nat} {x : (List (Int) × (List (List (Int)) × Int))} (h : spec_DrawFewestPhrases n a0 = some x) (hm : n ≤ m) : spec_DrawFewestPhrases m a0 = some x := evN_mono (C := CFG) (t := .call ⟨33, [.cv false [.v (.sl (.int .u8)) a0]]⟩) (x := x) h hm
theorem impl_FewestPhrases_up {a0 : List (Int)} {a1 : List (List (Int))} {a2 : Int} {n m : Nat} {x : (List (Int) × Int)} (h : impl_FewestPhrases n a0 a1 a2 = some x) (hm : n ≤ m) : impl_FewestPhrases m a0 a1 a2 = some x := evN_mono (C := CFG) (t := .call ⟨34, [.cv false [.v (.sl (.int .i64)) a0], .cv false [.v (.sl (.sl (.int .i64))) a1], .cv false [.v (.int .i64) a2]]⟩) (x := x) h hm
theorem spec_CoveredBy_up {a0 : List (Int)} {a1 : List (List (Int))} {n m : Nat} {x : (List (Int) × Int)} (h : spec_CoveredBy n a0 a1 = some x) (hm : n ≤ m) : spec_CoveredBy m a0 a1 = some x := evN_mono (C := CFG) (t := .call ⟨35, [.cv false [.v (.sl (.int .i64)) a0], .cv false [.v (.sl (.sl (.int .i64))) a1]]⟩) (x := x) h hm
theorem laws_b10Rises_up {a0 : List (Int)} {a1 : Int} {n m : Nat} {x : Bool} (h : laws_b10Rises n a0 a1 = some x) (hm : n ≤ m) : laws_b10Rises m a0 a1 = some x := evN_mono (C := CFG) (t := .call ⟨36, [.cv false [.v (.sl (.int .i64)) a0], .cv false [.v (.int .i64) a1]]⟩) (x := x) h hm
theorem spec_l00From_up {a0 : List (Int)} {n m : Nat} {x : (List (Int) × (Int × Int))} (h : spec_l00From n a0 = some x) (hm : n ≤ m) : spec_l00From m a0 = some x := evN_mono (C := CFG) (t := .call ⟨48, [.cv false [.v (.sl (.int .u8)) a0]]⟩) (x := x) h hm
theorem spec_l06DrawPitches_up {p0_0 : List (Int)} {p0_1 : Int} {p0_2 : Int} {n m : Nat} {x : (List (Int) × (List (Int) × (Int × Int)))} (h : spec_l06DrawPitches n p0_0 p0_1 p0_2 = some x) (hm : n ≤ m) : spec_l06DrawPitches m p0_0 p0_1 p0_2 = some x := evN_mono (C := CFG) (t := .call ⟨83, [.io [.v (.sl (.int .u8)) p0_0, .v (.int .i64) p0_1, .v (.int .u64) p0_2]]⟩) (x := x) h hm
theorem spec_l06Draw_up {p0_0 : List (Int)} {p0_1 : Int} {p0_2 : Int} {n m : Nat} {x : (List (List (Int)) × (List (Int) × (Int × Int)))} (h : spec_l06Draw n p0_0 p0_1 p0_2 = some x) (hm : n ≤ m) : spec_l06Draw m p0_0 p0_1 p0_2 = some x := evN_mono (C := CFG) (t := .call ⟨84, [.io [.v (.sl (.int .u8)) p0_0, .v (.int .i64) p0_1, .v (.int .u64) p0_2]]⟩) (x := x) h hm
theorem spec_l00Src_among_up {p0_0 : List (Int)} {p0_1 : Int} {p0_2 : Int} {a1 : List (Int)} {n m : Nat} {x : (Int × (List (Int) × (Int × Int)))} (h : spec_l00Src_among n p0_0 p0_1 p0_2 a1 = some x) (hm : n ≤ m) : spec_l00Src_among m p0_0 p0_1 p0_2 a1 = some x := evN_mono (C := CFG) (t := .call ⟨85, [.io [.v (.sl (.int .u8)) p0_0, .v (.int .i64) p0_1, .v (.int .u64) p0_2], .cv false [.v (.sl (.int .i64)) a1]]⟩) (x := x) h hm
theorem impl_ValidPhrases_up {a0 : List (List (Int))} {n m : Nat} {x : Bool} (h : impl_ValidPhrases n a0 = some x) (hm : n ≤ m) : impl_ValidPhrases m a0 = some x := evN_mono (C := CFG) (t := .call ⟨86, [.cv false [.v (.sl (.sl (.int .i64))) a0]]⟩) (x := x) h hm
theorem impl_pitchesOk_up {a0 : List (Int)} {n m : Nat} {x : Bool} (h : impl_pitchesOk n a0 = some x) (hm : n ≤ m) : impl_pitchesOk m a0 = some x := evN_mono (C := CFG) (t := .call ⟨54, [.cv false [.v (.sl (.int .i64)) a0]]⟩) (x := x) h hm
theorem impl_budgetValid_up {a0 : Int} {n m : Nat} {x : Bool} (h : impl_budgetValid n a0 = some x) (hm : n ≤ m) : impl_budgetValid m a0 = some x := evN_mono (C := CFG) (t := .call ⟨87, [.cv false [.v (.int .i64) a0]]⟩) (x := x) h hm
theorem impl_coveredSet_up {a0 : List (Int)} {a1 : List (List (Int))} {n m : Nat} {x : Int} (h : impl_coveredSet n a0 a1 = some x) (hm : n ≤ m) : impl_coveredSet m a0 a1 = some x := evN_mono (C := CFG) (t := .call ⟨88, [.cv false [.v (.sl (.int .i64)) a0], .cv false [.v (.sl (.sl (.int .i64))) a1]]⟩) (x := x) h hm
theorem spec_l06Ok_up {a0 : List (List (Int))} {n m : Nat} {x : Bool} (h : spec_l06Ok n a0 = some x) (hm : n ≤ m) : spec_l06Ok m a0 = some x := evN_mono (C := CFG) (t := .call ⟨90, [.cv false [.v (.sl (.sl (.int .i64))) a0]]⟩) (x := x) h hm
theorem spec_l05Pitches_up {a0 : List (Int)} {n m : Nat} {x : Bool} (h : spec_l05Pitches n a0 = some x) (hm : n ≤ m) : spec_l05Pitches m a0 = some x := evN_mono (C := CFG) (t := .call ⟨58, [.cv false [.v (.sl (.int .i64)) a0]]⟩) (x := x) h hm
theorem spec_l06Covered_up {a0 : List (Int)} {a1 : List (List (Int))} {n m : Nat} {x : List (Bool)} (h : spec_l06Covered n a0 a1 = some x) (hm : n ≤ m) : spec_l06Covered m a0 a1 = some x := evN_mono (C := CFG) (t := .call ⟨91, [.cv false [.v (.sl (.int .i64)) a0], .cv false [.v (.sl (.sl (.int .i64))) a1]]⟩) (x := x) h hm
theorem spec_DrawFrequentPhrase_up {a0 : List (Int)} {n m : Nat} {x : (List (Int) × Int)} (h : spec_DrawFrequentPhrase n a0 = some x) (hm : n ≤ m) : spec_DrawFrequentPhrase m a0 = some x := evN_mono (C := CFG) (t := .call ⟨37, [.cv false [.v (.sl (.int .u8)) a0]]⟩) (x := x) h hm
theorem impl_FrequentPhrase_up {a0 : List (Int)} {a1 : Int} {n m : Nat} {x : (List (Int) × (Int × Int))} (h : impl_FrequentPhrase n a0 a1 = some x) (hm : n ≤ m) : impl_FrequentPhrase m a0 a1 = some x := evN_mono (C := CFG) (t := .call ⟨38, [.cv false [.v (.sl (.int .i64)) a0], .cv false [.v (.int .i64) a1]]⟩) (x := x) h hm
theorem spec_FindPhrase_up {a0 : List (Int)} {a1 : List (Int)} {n m : Nat} {x : (List (Int) × Int)} (h : spec_FindPhrase n a0 a1 = some x) (hm : n ≤ m) : spec_FindPhrase m a0 a1 = some x := evN_mono (C := CFG) (t := .call ⟨39, [.cv false [.v (.sl (.int .i64)) a0], .cv false [.v (.sl (.int .i64)) a1]]⟩) (x := x) h hm
theorem laws_b10At_up {a0 : List (Int)} {a1 : Int} {a2 : Int} {n m : Nat} {x : Int} (h : laws_b10At n a0 a1 a2 = some x) (hm : n ≤ m) : laws_b10At m a0 a1 a2 = some x := evN_mono (C := CFG) (t := .call ⟨40, [.cv false [.v (.sl (.int .u8)) a0], .cv false [.v (.int .i64) a1], .cv false [.v (.int .i64) a2]]⟩) (x := x) h hm
theorem spec_l00Src_pick_up {p0_0 : List (Int)} {p0_1 : Int} {p0_2 : Int} {a1 : Int} {n m : Nat} {x : (Int × (List (Int) × (Int × Int)))} (h : spec_l00Src_pick n p0_0 p0_1 p0_2 a1 = some x) (hm : n ≤ m) : spec_l00Src_pick m p0_0 p0_1 p0_2 a1 = some x := evN_mono (C := CFG) (t := .call ⟨109, [.io [.v (.sl (.int .u8)) p0_0, .v (.int .i64) p0_1, .v (.int .u64) p0_2], .cv false [.v (.int .i64) a1]]⟩) (x := x) h hm
theorem spec_l06DrawOk_up {p0_0 : List (Int)} {p0_1 : Int} {p0_2 : Int} {n m : Nat} {x : (List (List (Int)) × (List (Int) × (Int × Int)))} (h : spec_l06DrawOk n p0_0 p0_1 p0_2 = some x) (hm : n ≤ m) : spec_l06DrawOk m p0_0 p0_1 p0_2 = some x := evN_mono (C := CFG) (t := .call ⟨136, [.io [.v (.sl (.int .u8)) p0_0, .v (.int .i64) p0_1, .v (.int .u64) p0_2]]⟩) (x := x) h hm
theorem spec_l06BentPhrase_up {p0_0 : List (Int)} {p0_1 : Int} {p0_2 : Int} {n m : Nat} {x : (List (Int) × (List (Int) × (Int × Int)))} (h : spec_l06BentPhrase n p0_0 p0_1 p0_2 = some x) (hm : n ≤ m) : spec_l06BentPhrase m p0_0 p0_1 p0_2 = some x := evN_mono (C := CFG) (t := .call ⟨137, [.io [.v (.sl (.int .u8)) p0_0, .v (.int .i64) p0_1, .v (.int .u64) p0_2]]⟩) (x := x) h hm
theorem impl_allWithin_up {a0 : List (Int)} {a1 : Int} {a2 : Int} {n m : Nat} {x : Bool} (h : impl_allWithin n a0 a1 a2 = some x) (hm : n ≤ m) : impl_allWithin m a0 a1 a2 = some x := evN_mono (C := CFG) (t := .call ⟨114, [.cv false [.v (.sl (.int .i64)) a0], .cv false [.v (.int .i64) a1], .cv false [.v (.int .i64) a2]]⟩) (x := x) h hm
theorem impl_within_up {a0 : Int} {a1 : Int} {a2 : Int} {n m : Nat} {x : Bool} (h : impl_within n a0 a1 a2 = some x) (hm : n ≤ m) : impl_within m a0 a1 a2 = some x := evN_mono (C := CFG) (t := .call ⟨92, [.cv false [.v (.int .i64) a0], .cv false [.v (.int .i64) a1], .cv false [.v (.int .i64) a2]]⟩) (x := x) h hm
theorem spec_l06Ask_up {a0 : List (Int)} {a1 : List (Int)} {n m : Nat} {x : Int} (h : spec_l06Ask n a0 a1 = some x) (hm : n ≤ m) : spec_l06Ask m a0 a1 = some x := evN_mono (C := CFG) (t := .call ⟨95, [.cv false [.v (.sl (.int .i64)) a0], .cv false [.v (.sl (.int .i64)) a1]]⟩) (x := x) h hm
theorem spec_l06Find_up {a0 : List (Int)} {a1 : List (Int)} {n m : Nat} {x : List (Int)} (h : spec_l06Find n a0 a1 = some x) (hm : n ≤ m) : spec_l06Find m a0 a1 = some x := evN_mono (C := CFG) (t := .call ⟨96, [.cv false [.v (.sl (.int .i64)) a0], .cv false [.v (.sl (.int .i64)) a1]]⟩) (x := x) h hm
theorem spec_l00Src_next_up {p0_0 : List (Int)} {p0_1 : Int} {p0_2 : Int} {n m : Nat} {x : (Int × (List (Int) × (Int × Int)))} (h : spec_l00Src_next n p0_0 p0_1 p0_2 = some x) (hm : n ≤ m) : spec_l00Src_next m p0_0 p0_1 p0_2 = some x := evN_mono (C := CFG) (t := .call ⟨152, [.io [.v (.sl (.int .u8)) p0_0, .v (.int .i64) p0_1, .v (.int .u64) p0_2]]⟩) (x := x) h hm
theorem spec_l06DrawPhrase_up {p0_0 : List (Int)} {p0_1 : Int} {p0_2 : Int} {n m : Nat} {x : (List (Int) × (List (Int) × (Int × Int)))} (h : spec_l06DrawPhrase n p0_0 p0_1 p0_2 = some x) (hm : n ≤ m) : spec_l06DrawPhrase m p0_0 p0_1 p0_2 = some x := evN_mono (C := CFG) (t := .call ⟨135, [.io [.v (.sl (.int .u8)) p0_0, .v (.int .i64) p0_1, .v (.int .u64) p0_2]]⟩) (x := x) h hm
theorem impl_phraseOk_up {a0 : List (Int)} {n m : Nat} {x : Bool} (h : impl_phraseOk n a0 = some x) (hm : n ≤ m) : impl_phraseOk m a0 = some x := evN_mono (C := CFG) (t := .call ⟨138, [.cv false [.v (.sl (.int .i64)) a0]]⟩) (x := x) h hm
theorem slices_Compare_int64_int64_up {a0 : List (Int)} {a1 : List (Int)} {n m : Nat} {x : Int} (h : slices_Compare_int64_int64 n a0 a1 = some x) (hm : n ≤ m) : slices_Compare_int64_int64 m a0 a1 = some x := evN_mono (C := CFG) (t := .call ⟨93, [.cv false [.v (.sl (.int .i64)) a0], .cv false [.v (.sl (.int .i64)) a1]]⟩) (x := x) h hm
theorem slices_ContainsFunc_int64_int64_i0_up {a0 : List (Int)} {a1c0 : Int} {a1c1 : Int} {n m : Nat} {x : Bool} (h : slices_ContainsFunc_int64_int64_i0 n a0 a1c0 a1c1 = some x) (hm : n ≤ m) : slices_ContainsFunc_int64_int64_i0 m a0 a1c0 a1c1 = some x := evN_mono (C := CFG) (t := .call ⟨156, [.cv false [.v (.sl (.int .i64)) a0], .cv false [.fn 157 [⟨(.int .i64), a1c0⟩, ⟨(.int .i64), a1c1⟩]]]⟩) (x := x) h hm
theorem impl_occurrences_up {a0 : List (Int)} {a1 : List (Int)} {n m : Nat} {x : List (Int)} (h : impl_occurrences n a0 a1 = some x) (hm : n ≤ m) : impl_occurrences m a0 a1 = some x := evN_mono (C := CFG) (t := .call ⟨60, [.cv false [.v (.sl (.int .i64)) a0], .cv false [.v (.sl (.int .i64)) a1]]⟩) (x := x) h hm
theorem impl_phraseSearch_extend_up {p0_0 : List (Int)} {p0_1 : Int} {p0_2 : Int} {p0_3 : List (Int)} {a1 : Int} {a2 : Int} {a3 : Int} {n m : Nat} {x : (Bool × (List (Int) × (Int × (Int × List (Int)))))} (h : impl_phraseSearch_extend n p0_0 p0_1 p0_2 p0_3 a1 a2 a3 = some x) (hm : n ≤ m) : impl_phraseSearch_extend m p0_0 p0_1 p0_2 p0_3 a1 a2 a3 = some x := evN_mono (C := CFG) (t := .call ⟨89, [.io [.own (.int .u64) p0_0, .v (.int .u64) p0_1, .v (.int .i64) p0_2, .own (.int .i64) p0_3], .cv false [.v (.int .i64) a1], .cv false [.v (.int .i64) a2], .cv false [.v (.int .u64) a3]]⟩) (x := x) h hm
theorem spec_l06Phrase_up {a0 : List (Int)} {n m : Nat} {x : Bool} (h : spec_l06Phrase n a0 = some x) (hm : n ≤ m) : spec_l06Phrase m a0 = some x := evN_mono (C := CFG) (t := .call ⟨139, [.cv false [.v (.sl (.int .i64)) a0]]⟩) (x := x) h hm
theorem spec_l06Before_up {a0 : List (Int)} {a1 : List (Int)} {n m : Nat} {x : Bool} (h : spec_l06Before n a0 a1 = some x) (hm : n ≤ m) : spec_l06Before m a0 a1 = some x := evN_mono (C := CFG) (t := .call ⟨140, [.cv false [.v (.sl (.int .i64)) a0], .cv false [.v (.sl (.int .i64)) a1]]⟩) (x := x) h hm
theorem spec_l03Pitch_up {a0 : Int} {n m : Nat} {x : Bool} (h : spec_l03Pitch n a0 = some x) (hm : n ≤ m) : spec_l03Pitch m a0 = some x := evN_mono (C := CFG) (t := .call ⟨119, [.cv false [.v (.int .i64) a0]]⟩) (x := x) h hm
theorem slices_Clone_int64_int64_up {a0 : List (Int)} {n m : Nat} {x : List (Int)} (h : slices_Clone_int64_int64 n a0 = some x) (hm : n ≤ m) : slices_Clone_int64_int64 m a0 = some x := evN_mono (C := CFG) (t := .call ⟨94, [.cv false [.v (.sl (.int .i64)) a0]]⟩) (x := x) h hm
theorem spec_l06Put_up {a0 : List (List (Int))} {a1 : List (Int)} {n m : Nat} {x : List (List (Int))} (h : spec_l06Put n a0 a1 = some x) (hm : n ≤ m) : spec_l06Put m a0 a1 = some x := evN_mono (C := CFG) (t := .call ⟨167, [.cv false [.v (.sl (.sl (.int .i64))) a0], .cv false [.v (.sl (.int .i64)) a1]]⟩) (x := x) h hm
theorem slices_IndexFunc_int64_int64_i0_up {a0 : List (Int)} {a1c0 : Int} {a1c1 : Int} {n m : Nat} {x : Int} (h : slices_IndexFunc_int64_int64_i0 n a0 a1c0 a1c1 = some x) (hm : n ≤ m) : slices_IndexFunc_int64_int64_i0 m a0 a1c0 a1c1 = some x := evN_mono (C := CFG) (t := .call ⟨178, [.cv false [.v (.sl (.int .i64)) a0], .cv false [.fn 157 [⟨(.int .i64), a1c0⟩, ⟨(.int .i64), a1c1⟩]]]⟩) (x := x) h hm
theorem spec_l00In_up {a0 : Int} {a1 : Int} {a2 : Int} {n m : Nat} {x : Bool} (h : spec_l00In n a0 a1 a2 = some x) (hm : n ≤ m) : spec_l00In m a0 a1 a2 = some x := evN_mono (C := CFG) (t := .call ⟨118, [.cv false [.v (.int .i64) a0], .cv false [.v (.int .i64) a1], .cv false [.v (.int .i64) a2]]⟩) (x := x) h hm
theorem spec_l06Occurs_up {a0 : List (Int)} {a1 : List (Int)} {a2 : Int} {n m : Nat} {x : Bool} (h : spec_l06Occurs n a0 a1 a2 = some x) (hm : n ≤ m) : spec_l06Occurs m a0 a1 a2 = some x := evN_mono (C := CFG) (t := .call ⟨142, [.cv false [.v (.sl (.int .i64)) a0], .cv false [.v (.sl (.int .i64)) a1], .cv false [.v (.int .i64) a2]]⟩) (x := x) h hm
theorem cmp_Compare_int64_up {a0 : Int} {a1 : Int} {n m : Nat} {x : Int} (h : cmp_Compare_int64 n a0 a1 = some x) (hm : n ≤ m) : cmp_Compare_int64 m a0 a1 = some x := evN_mono (C := CFG) (t := .call ⟨141, [.cv false [.v (.int .i64) a0], .cv false [.v (.int .i64) a1]]⟩) (x := x) h hm
theorem slices_Equal_int64_int64_up {a0 : List (Int)} {a1 : List (Int)} {n m : Nat} {x : Bool} (h : slices_Equal_int64_int64 n a0 a1 = some x) (hm : n ≤ m) : slices_Equal_int64_int64 m a0 a1 = some x := evN_mono (C := CFG) (t := .call ⟨123, [.cv false [.v (.sl (.int .i64)) a0], .cv false [.v (.sl (.int .i64)) a1]]⟩) (x := x) h hm
theorem spec_l00Same_up {a0 : List (Int)} {a1 : List (Int)} {n m : Nat} {x : Bool} (h : spec_l00Same n a0 a1 = some x) (hm : n ≤ m) : spec_l00Same m a0 a1 = some x := evN_mono (C := CFG) (t := .call ⟨179, [.cv false [.v (.sl (.int .i64)) a0], .cv false [.v (.sl (.int .i64)) a1]]⟩) (x := x) h hm
theorem cmp_isNaN_int64_up {a0 : Int} {n m : Nat} {x : Bool} (h : cmp_isNaN_int64 n a0 = some x) (hm : n ≤ m) : cmp_isNaN_int64 m a0 = some x := evN_mono (C := CFG) (t := .call ⟨168, [.cv false [.v (.int .i64) a0]]⟩) (x := x) h hm
theorem impl_allWithin_1_up {a0 : Int} {a1 : Int} {a2 : Int} {n m : Nat} {x : Bool} (h : impl_allWithin_1 n a0 a1 a2 = some x) (hm : n ≤ m) : impl_allWithin_1 m a0 a1 a2 = some x := evN_mono (C := CFG) (t := .call ⟨157, [.cv false [.v (.int .i64) a0], .cv false [.ps (.int .i64) a1], .cv false [.ps (.int .i64) a2]]⟩) (x := x) h hm
theorem laws_FnCovers_eq (n : Nat) (a0 : List (Int)) (a1 : List (Int)) : laws_FnCovers (n + 1) a0 a1 =
  (laws_b10Long n a0).bind fun r1 => 
   if r1 = true then (some true)
    else ((laws_b10Long n a1).bind fun r3 => 
     if r3 = true then (some true)
      else ((spec_DrawFewestPhrases n a0).bind fun r5 => 
       (impl_FewestPhrases n r5.1 r5.2.1 r5.2.2).bind fun r6 => 
        if (vEq r6.2 (0 : Int)) = true then ((spec_CoveredBy n r5.1 r5.2.1).bind fun r8 => 
          if (vNot (vEq r8.2 (0 : Int))) = true then (some false)
           else ((laws_b10Rises n r6.1 (vLen r5.2.1)).bind fun r10 => 
            if (vNot r10) = true then (some false)
             else (laws_FnCovers_r10 n a0 a1 r5.1 r5.2.1 r6.1 r8.1 (-1 : Int))))
         else (laws_FnCovers_r21 n a0 a1))) := by kernel_rfl
theorem laws_b10Long_eq (n : Nat) (a0 : List (Int)) : laws_b10Long (n + 1) a0 =
  some (vLt (1048576 : Int) (vLen a0)) := by kernel_rfl
theorem spec_DrawFewestPhrases_eq (n : Nat) (a0 : List (Int)) : spec_DrawFewestPhrases (n + 1) a0 =
  (spec_l00From n a0).bind fun r1 => 
   (spec_l06DrawPitches n r1.1 r1.2.1 r1.2.2).bind fun r2 => 
    (spec_l06Draw n r2.2.1 r2.2.2.1 r2.2.2.2).bind fun r3 => 
     (spec_l00Src_among n r3.2.1 r3.2.2.1 r3.2.2.2 ((1 : Int) :: ((4 : Int) :: ((16 : Int) :: ((100 : Int) :: ((20000 : Int) :: ((0 : Int) :: ((20001 : Int) :: ([] : List (Int)))))))))).bind fun r4 => 
      some (r2.1, (r3.1, r4.1)) := by kernel_rfl
theorem impl_FewestPhrases_eq (n : Nat) (a0 : List (Int)) (a1 : List (List (Int))) (a2 : Int) : impl_FewestPhrases (n + 1) a0 a1 a2 =
  (impl_ValidPhrases n a1).bind fun r1 => 
   if (vNot r1) = true then (some (([] : List (Int)), (1 : Int)))
    else ((impl_pitchesOk n a0).bind fun r3 => 
     if (vNot r3) = true then (some (([] : List (Int)), (7 : Int)))
      else ((impl_budgetValid n a2).bind fun r5 => 
       if (vNot r5) = true then (some (([] : List (Int)), (2 : Int)))
        else ((impl_coveredSet n a0 a1).bind fun r7 => 
         impl_FewestPhrases_r9 n a0 a1 (vLen a1) (0 : Int) ([] : List (Int)) r7 a2 ([] : List (Int))))) := by kernel_rfl
theorem spec_CoveredBy_eq (n : Nat) (a0 : List (Int)) (a1 : List (List (Int))) : spec_CoveredBy (n + 1) a0 a1 =
  (spec_l06Ok n a1).bind fun r1 => 
   if (vNot r1) = true then (some (([] : List (Int)), (1 : Int)))
    else ((spec_l05Pitches n a0).bind fun r3 => 
     if (vNot r3) = true then (some (([] : List (Int)), (7 : Int)))
      else ((spec_l06Covered n a0 a1).bind fun r5 => 
       spec_CoveredBy_r8 n r5 ([] : List (Int)) (0 : Int))) := by kernel_rfl
theorem laws_b10Rises_eq (n : Nat) (a0 : List (Int)) (a1 : Int) : laws_b10Rises (n + 1) a0 a1 =
  laws_b10Rises_r2 n a0 a1 (0 : Int) := by kernel_rfl
theorem laws_FnCovers_r10_eq (n : Nat) (x0 : List (Int)) (x1 : List (Int)) (x5 : List (Int)) (x6 : List (List (Int))) (x8 : List (Int)) (x10 : List (Int)) (x12 : Int) : laws_FnCovers_r10 (n + 1) x0 x1 x5 x6 x8 x10 x12 =
  if (vLt x12 (vLen x8)) = true then (laws_FnCovers_r14 n x0 x1 x5 x6 x8 x10 x12 ([] : List (List (Int))) (0 : Int))
   else (laws_FnCovers_r21 n x0 x1) := by kernel_rfl
theorem laws_FnCovers_r21_eq (n : Nat) (x0 : List (Int)) (x1 : List (Int)) : laws_FnCovers_r21 (n + 1) x0 x1 =
  (spec_DrawFrequentPhrase n x1).bind fun r1 => 
   (impl_FrequentPhrase n r1.1 r1.2).bind fun r2 => 
    if (vNot (vEq r2.2.2 (0 : Int))) = true then (if (vEq (vLen r2.1) (0 : Int)) = true then (some (vEq r2.2.1 (0 : Int)))
      else (some false))
     else ((spec_FindPhrase n r1.1 r2.1).bind fun r4 => 
      if (vNot (vEq (vLen r2.1) r1.2)) = true then (some false)
       else (if (vNot (vEq r4.2 (0 : Int))) = true then (some false)
        else (if (vNot (vEq (vLen r4.1) r2.2.1)) = true then (some false)
         else (if (vLt r2.2.1 (1 : Int)) = true then (some false)
          else ((laws_b10At n x0 (0 : Int) (wAdd .i64 (wSub .i64 (vLen r1.1) r1.2) (1 : Int))).bind fun r9 => 
           if (vLt (vLen r1.1) (wAdd .i64 r9 r1.2)) = true then (some false)
            else (if (cutOk r9 (wAdd .i64 r9 r1.2) (vLen r1.1)) = true then ((spec_FindPhrase n r1.1 (cut r1.1 r9 (wAdd .i64 r9 r1.2))).bind fun r12 => 
              if (vEq r12.2 (0 : Int)) = true then (some (vLe (vLen r12.1) r2.2.1))
               else (some false))
             else (none))))))) := by kernel_rfl
theorem spec_l00From_eq (n : Nat) (a0 : List (Int)) : spec_l00From (n + 1) a0 =
  some (a0, ((0 : Int), (0 : Int))) := by kernel_rfl
theorem spec_l06DrawPitches_eq (n : Nat) (p0_0 : List (Int)) (p0_1 : Int) (p0_2 : Int) : spec_l06DrawPitches (n + 1) p0_0 p0_1 p0_2 =
  (spec_l00Src_pick n p0_0 p0_1 p0_2 (6 : Int)).bind fun r1 => 
   spec_l06DrawPitches_r3 n ([] : List (Int)) r1.1 r1.2.1 r1.2.2.1 r1.2.2.2 := by kernel_rfl
theorem spec_l06Draw_eq (n : Nat) (p0_0 : List (Int)) (p0_1 : Int) (p0_2 : Int) : spec_l06Draw (n + 1) p0_0 p0_1 p0_2 =
  (spec_l06DrawOk n p0_0 p0_1 p0_2).bind fun r1 => 
   (spec_l00Src_pick n r1.2.1 r1.2.2.1 r1.2.2.2 (20 : Int)).bind fun r2 => 
    if (vEq r2.1 (0 : Int)) = true then ((spec_l06BentPhrase n r2.2.1 r2.2.2.1 r2.2.2.2).bind fun r4 => 
      if (appOk (vLen r1.1) (vLen (r4.1 :: ([] : List (List (Int))))) 24) = true then (some ((vApp r1.1 (r4.1 :: ([] : List (List (Int))))), (r4.2.1, (r4.2.2.1, r4.2.2.2))))
       else (none))
     else (if (vEq r2.1 (1 : Int)) = true then ((spec_l00Src_among n r2.2.1 r2.2.2.1 r2.2.2.2 ((12 : Int) :: ((13 : Int) :: ([] : List (Int))))).bind fun r5 => 
       spec_l06Draw_r9 n ([] : List (List (Int))) r5.1 (0 : Int) r5.2.1 r5.2.2.1 r5.2.2.2)
      else (some (r1.1, (r2.2.1, (r2.2.2.1, r2.2.2.2))))) := by kernel_rfl
theorem spec_l00Src_among_eq (n : Nat) (p0_0 : List (Int)) (p0_1 : Int) (p0_2 : Int) (a1 : List (Int)) : spec_l00Src_among (n + 1) p0_0 p0_1 p0_2 a1 =
  (spec_l00Src_pick n p0_0 p0_1 p0_2 (vLen a1)).bind fun r1 => 
   if (inR r1.1 (vLen a1)) = true then (some ((vGet a1 r1.1 (0 : Int)), (r1.2.1, (r1.2.2.1, r1.2.2.2))))
    else (none) := by kernel_rfl
theorem impl_ValidPhrases_eq (n : Nat) (a0 : List (List (Int))) : impl_ValidPhrases (n + 1) a0 =
  if (vLt (12 : Int) (vLen a0)) = true then (some false)
   else (impl_ValidPhrases_r4 n a0 a0 (vLen a0) (0 : Int)) := by kernel_rfl
theorem impl_pitchesOk_eq (n : Nat) (a0 : List (Int)) : impl_pitchesOk (n + 1) a0 =
  if (vLe (vLen a0) (64 : Int)) = true then ((impl_allWithin n a0 (-12 : Int) (23 : Int)).bind fun r2 => 
    some r2)
   else (some false) := by kernel_rfl
theorem impl_budgetValid_eq (n : Nat) (a0 : Int) : impl_budgetValid (n + 1) a0 =
  (impl_within n a0 (1 : Int) (20000 : Int)).bind fun r1 => 
   some r1 := by kernel_rfl
theorem impl_coveredSet_eq (n : Nat) (a0 : List (Int)) (a1 : List (List (Int))) : impl_coveredSet (n + 1) a0 a1 =
  impl_coveredSet_r3 n a0 (0 : Int) a1 (vLen a1) (0 : Int) := by kernel_rfl
theorem impl_FewestPhrases_r9_eq (n : Nat) (x0 : List (Int)) (x29 : List (List (Int))) (x30 : Int) (x31 : Int) (b8_0 : List (Int)) (b8_1 : Int) (b8_2 : Int) (b8_3 : List (Int)) : impl_FewestPhrases_r9 (n + 1) x0 x29 x30 x31 b8_0 b8_1 b8_2 b8_3 =
  if (vLt x31 x30) = true then (if (inR x31 (vLen x29)) = true then ((impl_coveredSet n x0 ((vGet x29 x31 ([] : List (Int))) :: ([] : List (List (Int))))).bind fun r3 => 
     if (appOk (vLen b8_0) (vLen (r3 :: ([] : List (Int)))) 8) = true then (impl_FewestPhrases_r9 n x0 x29 x30 (wAdd .i64 x31 (1 : Int)) (vApp b8_0 (r3 :: ([] : List (Int)))) b8_1 b8_2 b8_3)
      else (none))
    else (none))
   else (impl_FewestPhrases_r15 n (0 : Int) b8_0 b8_1 b8_2 b8_3) := by kernel_rfl
theorem spec_l06Ok_eq (n : Nat) (a0 : List (List (Int))) : spec_l06Ok (n + 1) a0 =
  spec_l06Ok_r2 n a0 (0 : Int) := by kernel_rfl
theorem spec_l05Pitches_eq (n : Nat) (a0 : List (Int)) : spec_l05Pitches (n + 1) a0 =
  spec_l05Pitches_r2 n a0 (0 : Int) := by kernel_rfl
theorem spec_l06Covered_eq (n : Nat) (a0 : List (Int)) (a1 : List (List (Int))) : spec_l06Covered (n + 1) a0 a1 =
  if (makeOk (vLen a0) (vLen a0) 1) = true then (spec_l06Covered_r3 n a0 a1 (vRep (vLen a0) false) (0 : Int))
   else (none) := by kernel_rfl
theorem spec_CoveredBy_r8_eq (n : Nat) (x6 : List (Bool)) (x7 : List (Int)) (x8 : Int) : spec_CoveredBy_r8 (n + 1) x6 x7 x8 =
  if (vLt x8 (vLen x6)) = true then (if (inR x8 (vLen x6)) = true then (if (vGet x6 x8 false) = true then (if (appOk (vLen x7) (vLen (x8 :: ([] : List (Int)))) 8) = true then (spec_CoveredBy_r8 n x6 (vApp x7 (x8 :: ([] : List (Int)))) (wAdd .i64 x8 (1 : Int)))
      else (none))
     else (spec_CoveredBy_r8 n x6 x7 (wAdd .i64 x8 (1 : Int))))
    else (none))
   else (some (x7, (0 : Int))) := by kernel_rfl
theorem laws_b10Rises_r2_eq (n : Nat) (x0 : List (Int)) (x1 : Int) (x5 : Int) : laws_b10Rises_r2 (n + 1) x0 x1 x5 =
  if (vLt x5 (vLen x0)) = true then (if (inR x5 (vLen x0)) = true then (if (vLt (vGet x0 x5 (0 : Int)) (0 : Int)) = true then (some false)
     else (if (inR x5 (vLen x0)) = true then (if (vLe x1 (vGet x0 x5 (0 : Int))) = true then (some false)
       else (if (vLt (0 : Int) x5) = true then (if (inR (wSub .i64 x5 (1 : Int)) (vLen x0)) = true then (if (inR x5 (vLen x0)) = true then (if (vLe (vGet x0 x5 (0 : Int)) (vGet x0 (wSub .i64 x5 (1 : Int)) (0 : Int))) = true then (some false)
           else (laws_b10Rises_r2 n x0 x1 (wAdd .i64 x5 (1 : Int))))
          else (none))
         else (none))
        else (laws_b10Rises_r2 n x0 x1 (wAdd .i64 x5 (1 : Int)))))
      else (none)))
    else (none))
   else (some true) := by kernel_rfl
theorem laws_FnCovers_r14_eq (n : Nat) (x0 : List (Int)) (x1 : List (Int)) (x5 : List (Int)) (x6 : List (List (Int))) (x8 : List (Int)) (x10 : List (Int)) (x12 : Int) (x13 : List (List (Int))) (x14 : Int) : laws_FnCovers_r14 (n + 1) x0 x1 x5 x6 x8 x10 x12 x13 x14 =
  if (vLt x14 (vLen x8)) = true then (if (vNot (vEq x14 x12)) = true then (if (inR x14 (vLen x8)) = true then (if (inR (vGet x8 x14 (0 : Int)) (vLen x6)) = true then (if (appOk (vLen x13) (vLen ((vGet x6 (vGet x8 x14 (0 : Int)) ([] : List (Int))) :: ([] : List (List (Int))))) 24) = true then (laws_FnCovers_r14 n x0 x1 x5 x6 x8 x10 x12 (vApp x13 ((vGet x6 (vGet x8 x14 (0 : Int)) ([] : List (Int))) :: ([] : List (List (Int))))) (wAdd .i64 x14 (1 : Int)))
       else (none))
      else (none))
     else (none))
    else (laws_FnCovers_r14 n x0 x1 x5 x6 x8 x10 x12 x13 (wAdd .i64 x14 (1 : Int))))
   else ((spec_CoveredBy n x5 x13).bind fun r2 => 
    if (vNot (vEq r2.2 (0 : Int))) = true then (some false)
     else (if (vNot (vBq (vEq (vLen r2.1) (vLen x10)) (vLt x12 (0 : Int)))) = true then (some false)
      else (laws_FnCovers_r10 n x0 x1 x5 x6 x8 x10 (wAdd .i64 x12 (1 : Int))))) := by kernel_rfl
theorem spec_DrawFrequentPhrase_eq (n : Nat) (a0 : List (Int)) : spec_DrawFrequentPhrase (n + 1) a0 =
  (spec_l00From n a0).bind fun r1 => 
   (spec_l06DrawPitches n r1.1 r1.2.1 r1.2.2).bind fun r2 => 
    (spec_l00Src_among n r2.2.1 r2.2.2.1 r2.2.2.2 ((2 : Int) :: ((2 : Int) :: ((3 : Int) :: ((4 : Int) :: ((8 : Int) :: ((9 : Int) :: ((1 : Int) :: ([] : List (Int)))))))))).bind fun r3 => 
     some (r2.1, r3.1) := by kernel_rfl
theorem impl_FrequentPhrase_eq (n : Nat) (a0 : List (Int)) (a1 : Int) : impl_FrequentPhrase (n + 1) a0 a1 =
  (impl_pitchesOk n a0).bind fun r1 => 
   if (vNot r1) = true then (some (([] : List (Int)), ((0 : Int), (7 : Int))))
    else ((impl_within n a1 (2 : Int) (8 : Int)).bind fun r3 => 
     if (vNot r3) = true then (some (([] : List (Int)), ((0 : Int), (2 : Int))))
      else (impl_FrequentPhrase_r8 n a0 a1 ([] : List (Int)) (0 : Int) (0 : Int))) := by kernel_rfl
theorem spec_FindPhrase_eq (n : Nat) (a0 : List (Int)) (a1 : List (Int)) : spec_FindPhrase (n + 1) a0 a1 =
  (spec_l06Ask n a0 a1).bind fun r1 => 
   if (vNot (vEq r1 (0 : Int))) = true then (some (([] : List (Int)), r1))
    else ((spec_l06Find n a0 a1).bind fun r3 => 
     some (r3, (0 : Int))) := by kernel_rfl
theorem laws_b10At_eq (n : Nat) (a0 : List (Int)) (a1 : Int) (a2 : Int) : laws_b10At (n + 1) a0 a1 a2 =
  if (vLe a2 (1 : Int)) = true then (some (0 : Int))
   else (if (vLt a1 (vLen a0)) = true then (if (inR a1 (vLen a0)) = true then (if (vEq a2 (0 : Int)) = true then (none)
      else (some (vRem (wConv .i64 (vGet a0 a1 (0 : Int))) a2)))
     else (none))
    else (if (vEq a2 (0 : Int)) = true then (none)
     else (some (vRem (wAdd .i64 (wMul .i64 a1 (37 : Int)) (11 : Int)) a2)))) := by kernel_rfl
theorem spec_l00Src_pick_eq (n : Nat) (p0_0 : List (Int)) (p0_1 : Int) (p0_2 : Int) (a1 : Int) : spec_l00Src_pick (n + 1) p0_0 p0_1 p0_2 a1 =
  if (vLe a1 (1 : Int)) = true then (some ((0 : Int), (p0_0, (p0_1, p0_2))))
   else ((spec_l00Src_next n p0_0 p0_1 p0_2).bind fun r2 => 
    if (vLt (200 : Int) a1) = true then ((spec_l00Src_next n r2.2.1 r2.2.2.1 r2.2.2.2).bind fun r4 => 
      if (vEq a1 (0 : Int)) = true then (none)
       else (some ((vRem (wAdd .i64 (wMul .i64 r2.1 (256 : Int)) r4.1) a1), (r4.2.1, (r4.2.2.1, r4.2.2.2)))))
     else (if (vEq a1 (0 : Int)) = true then (none)
      else (some ((vRem r2.1 a1), (r2.2.1, (r2.2.2.1, r2.2.2.2)))))) := by kernel_rfl
theorem spec_l06DrawPitches_r3_eq (n : Nat) (x3 : List (Int)) (x4 : Int) (b0_0 : List (Int)) (b0_1 : Int) (b0_2 : Int) : spec_l06DrawPitches_r3 (n + 1) x3 x4 b0_0 b0_1 b0_2 =
  if (vLt (0 : Int) x4) = true then ((spec_l06DrawPhrase n b0_0 b0_1 b0_2).bind fun r2 => 
    if (appOk (vLen x3) (vLen r2.1) 8) = true then (spec_l06DrawPitches_r3 n (vApp x3 r2.1) (wSub .i64 x4 (1 : Int)) r2.2.1 r2.2.2.1 r2.2.2.2)
     else (none))
   else ((spec_l00Src_pick n b0_0 b0_1 b0_2 (24 : Int)).bind fun r2 => 
    if (vEq r2.1 (0 : Int)) = true then ((spec_l00Src_among n r2.2.1 r2.2.2.1 r2.2.2.2 ((-13 : Int) :: ((24 : Int) :: ([] : List (Int))))).bind fun r4 => 
      if (appOk (vLen x3) (vLen (r4.1 :: ([] : List (Int)))) 8) = true then (some ((vApp x3 (r4.1 :: ([] : List (Int)))), (r4.2.1, (r4.2.2.1, r4.2.2.2))))
       else (none))
     else (if (vEq r2.1 (1 : Int)) = true then ((spec_l00Src_among n r2.2.1 r2.2.2.1 r2.2.2.2 ((64 : Int) :: ((65 : Int) :: ([] : List (Int))))).bind fun r5 => 
       spec_l06DrawPitches_r11 n x3 r5.1 r5.2.1 r5.2.2.1 r5.2.2.2)
      else (some (x3, (r2.2.1, (r2.2.2.1, r2.2.2.2)))))) := by kernel_rfl
theorem spec_l06DrawOk_eq (n : Nat) (p0_0 : List (Int)) (p0_1 : Int) (p0_2 : Int) : spec_l06DrawOk (n + 1) p0_0 p0_1 p0_2 =
  (spec_l00Src_pick n p0_0 p0_1 p0_2 (5 : Int)).bind fun r1 => 
   spec_l06DrawOk_r3 n ([] : List (List (Int))) r1.1 r1.2.1 r1.2.2.1 r1.2.2.2 := by kernel_rfl
theorem spec_l06BentPhrase_eq (n : Nat) (p0_0 : List (Int)) (p0_1 : Int) (p0_2 : Int) : spec_l06BentPhrase (n + 1) p0_0 p0_1 p0_2 =
  (spec_l06DrawPhrase n p0_0 p0_1 p0_2).bind fun r1 => 
   (spec_l00Src_pick n r1.2.1 r1.2.2.1 r1.2.2.2 (20 : Int)).bind fun r2 => 
    if (vEq r2.1 (0 : Int)) = true then (if (cutOk (0 : Int) (1 : Int) (vLen r1.1)) = true then (some ((cut r1.1 (0 : Int) (1 : Int)), (r2.2.1, (r2.2.2.1, r2.2.2.2))))
      else (none))
     else (if (vEq r2.1 (1 : Int)) = true then ((spec_l00Src_among n r2.2.1 r2.2.2.1 r2.2.2.2 ((-13 : Int) :: ((-12 : Int) :: ((23 : Int) :: ((24 : Int) :: ([] : List (Int))))))).bind fun r5 => 
       if (inR (0 : Int) (vLen r1.1)) = true then (some ((vSet r1.1 (0 : Int) r5.1), (r5.2.1, (r5.2.2.1, r5.2.2.2))))
        else (none))
      else (if (vEq r2.1 (2 : Int)) = true then ((spec_l00Src_among n r2.2.1 r2.2.2.1 r2.2.2.2 ((8 : Int) :: ((9 : Int) :: ([] : List (Int))))).bind fun r6 => 
        spec_l06BentPhrase_r9 n r1.1 r6.1 r6.2.1 r6.2.2.1 r6.2.2.2)
       else (some (r1.1, (r2.2.1, (r2.2.2.1, r2.2.2.2)))))) := by kernel_rfl
theorem spec_l06Draw_r9_eq (n : Nat) (x3 : List (List (Int))) (x4 : Int) (x5 : Int) (b0_0 : List (Int)) (b0_1 : Int) (b0_2 : Int) : spec_l06Draw_r9 (n + 1) x3 x4 x5 b0_0 b0_1 b0_2 =
  if (vLt x5 x4) = true then (if (appOk (vLen x3) (vLen ((x5 :: (x5 :: ([] : List (Int)))) :: ([] : List (List (Int))))) 24) = true then (spec_l06Draw_r9 n (vApp x3 ((x5 :: (x5 :: ([] : List (Int)))) :: ([] : List (List (Int))))) x4 (wAdd .i64 x5 (1 : Int)) b0_0 b0_1 b0_2)
    else (none))
   else (some (x3, (b0_0, (b0_1, b0_2)))) := by kernel_rfl
theorem impl_ValidPhrases_r4_eq (n : Nat) (x0 : List (List (Int))) (x8 : List (List (Int))) (x9 : Int) (x10 : Int) : impl_ValidPhrases_r4 (n + 1) x0 x8 x9 x10 =
  if (vLt x10 x9) = true then (if (inR x10 (vLen x8)) = true then ((impl_phraseOk n (vGet x8 x10 ([] : List (Int)))).bind fun r3 => 
     if (vNot r3) = true then (some false)
      else (if (vLt (0 : Int) x10) = true then (if (inR (wSub .i64 x10 (1 : Int)) (vLen x0)) = true then ((slices_Compare_int64_int64 n (vGet x0 (wSub .i64 x10 (1 : Int)) ([] : List (Int))) (vGet x8 x10 ([] : List (Int)))).bind fun r7 => 
         if (vLe (0 : Int) r7) = true then (some false)
          else (impl_ValidPhrases_r4 n x0 x8 x9 (wAdd .i64 x10 (1 : Int))))
        else (none))
       else (impl_ValidPhrases_r4 n x0 x8 x9 (wAdd .i64 x10 (1 : Int)))))
    else (none))
   else (some true) := by kernel_rfl
theorem impl_allWithin_eq (n : Nat) (a0 : List (Int)) (a1 : Int) (a2 : Int) : impl_allWithin (n + 1) a0 a1 a2 =
  (slices_ContainsFunc_int64_int64_i0 n a0 a1 a2).bind fun r1 => 
   some (vNot r1) := by kernel_rfl
theorem impl_within_eq (n : Nat) (a0 : Int) (a1 : Int) (a2 : Int) : impl_within (n + 1) a0 a1 a2 =
  if (vLe a1 a0) = true then (some (vLe a0 a2))
   else (some false) := by kernel_rfl
theorem impl_coveredSet_r3_eq (n : Nat) (x0 : List (Int)) (x5 : Int) (x11 : List (List (Int))) (x12 : Int) (x13 : Int) : impl_coveredSet_r3 (n + 1) x0 x5 x11 x12 x13 =
  if (vLt x13 x12) = true then (if (inR x13 (vLen x11)) = true then ((impl_occurrences n x0 (vGet x11 x13 ([] : List (Int)))).bind fun r3 => 
     impl_coveredSet_r6 n x0 x5 (vGet x11 x13 ([] : List (Int))) x11 x12 x13 r3 (vLen r3) (0 : Int))
    else (none))
   else (some x5) := by kernel_rfl
theorem impl_FewestPhrases_r15_eq (n : Nat) (x11 : Int) (b8_0 : List (Int)) (b8_1 : Int) (b8_2 : Int) (b8_3 : List (Int)) : impl_FewestPhrases_r15 (n + 1) x11 b8_0 b8_1 b8_2 b8_3 =
  (impl_phraseSearch_extend n b8_0 b8_1 b8_2 b8_3 (0 : Int) x11 (0 : Int)).bind fun r1 => 
   if r1.1 = true then (some (r1.2.2.2.2, (0 : Int)))
    else (if (vLt r1.2.2.2.1 (0 : Int)) = true then (some (([] : List (Int)), (5 : Int)))
     else (impl_FewestPhrases_r15 n (wAdd .i64 x11 (1 : Int)) r1.2.1 r1.2.2.1 r1.2.2.2.1 r1.2.2.2.2)) := by kernel_rfl
theorem spec_l06Ok_r2_eq (n : Nat) (x0 : List (List (Int))) (x3 : Int) : spec_l06Ok_r2 (n + 1) x0 x3 =
  if (vLt x3 (vLen x0)) = true then (if (inR x3 (vLen x0)) = true then ((spec_l06Phrase n (vGet x0 x3 ([] : List (Int)))).bind fun r3 => 
     if (vNot r3) = true then (some false)
      else (if (vLt (0 : Int) x3) = true then (if (inR (wSub .i64 x3 (1 : Int)) (vLen x0)) = true then (if (inR x3 (vLen x0)) = true then ((spec_l06Before n (vGet x0 (wSub .i64 x3 (1 : Int)) ([] : List (Int))) (vGet x0 x3 ([] : List (Int)))).bind fun r8 => 
          if (vNot r8) = true then (some false)
           else (spec_l06Ok_r2 n x0 (wAdd .i64 x3 (1 : Int))))
         else (none))
        else (none))
       else (spec_l06Ok_r2 n x0 (wAdd .i64 x3 (1 : Int)))))
    else (none))
   else (some (vLe (vLen x0) (12 : Int))) := by kernel_rfl
theorem spec_l05Pitches_r2_eq (n : Nat) (x0 : List (Int)) (x3 : Int) : spec_l05Pitches_r2 (n + 1) x0 x3 =
  if (vLt x3 (vLen x0)) = true then (if (inR x3 (vLen x0)) = true then ((spec_l03Pitch n (vGet x0 x3 (0 : Int))).bind fun r3 => 
     if (vNot r3) = true then (some false)
      else (spec_l05Pitches_r2 n x0 (wAdd .i64 x3 (1 : Int))))
    else (none))
   else (some (vLe (vLen x0) (64 : Int))) := by kernel_rfl
theorem spec_l06Covered_r3_eq (n : Nat) (x0 : List (Int)) (x1 : List (List (Int))) (x5 : List (Bool)) (x6 : Int) : spec_l06Covered_r3 (n + 1) x0 x1 x5 x6 =
  if (vLt x6 (vLen x1)) = true then (if (inR x6 (vLen x1)) = true then ((spec_l06Find n x0 (vGet x1 x6 ([] : List (Int)))).bind fun r3 => 
     spec_l06Covered_r7 n x0 x1 x5 x6 r3 (0 : Int))
    else (none))
   else (some x5) := by kernel_rfl
theorem impl_FrequentPhrase_r8_eq (n : Nat) (x0 : List (Int)) (x1 : Int) (x7 : List (Int)) (x8 : Int) (x9 : Int) : impl_FrequentPhrase_r8 (n + 1) x0 x1 x7 x8 x9 =
  if (vLe (wAdd .i64 x9 x1) (vLen x0)) = true then (if (cutOk x9 (wAdd .i64 x9 x1) (vLen x0)) = true then ((impl_occurrences n x0 (cut x0 x9 (wAdd .i64 x9 x1))).bind fun r3 => 
     if (vLt x8 (vLen r3)) = true then (impl_FrequentPhrase_r8v1 n x0 x1 (cut x0 x9 (wAdd .i64 x9 x1)) (vLen r3) (wAdd .i64 x9 (1 : Int)))
      else (if (vEq (vLen r3) x8) = true then ((slices_Compare_int64_int64 n (cut x0 x9 (wAdd .i64 x9 x1)) x7).bind fun r6 => 
        if (vLt r6 (0 : Int)) = true then (impl_FrequentPhrase_r8v1 n x0 x1 (cut x0 x9 (wAdd .i64 x9 x1)) (vLen r3) (wAdd .i64 x9 (1 : Int)))
         else (impl_FrequentPhrase_r8 n x0 x1 x7 x8 (wAdd .i64 x9 (1 : Int))))
       else (impl_FrequentPhrase_r8 n x0 x1 x7 x8 (wAdd .i64 x9 (1 : Int)))))
    else (none))
   else (if (vEq x8 (0 : Int)) = true then (some (([] : List (Int)), ((0 : Int), (3 : Int))))
    else ((slices_Clone_int64_int64 n x7).bind fun r3 => 
     some (r3, (x8, (0 : Int))))) := by kernel_rfl
theorem spec_l06Ask_eq (n : Nat) (a0 : List (Int)) (a1 : List (Int)) : spec_l06Ask (n + 1) a0 a1 =
  (spec_l06Phrase n a1).bind fun r1 => 
   if (vNot r1) = true then (some (1 : Int))
    else ((spec_l05Pitches n a0).bind fun r3 => 
     if (vNot r3) = true then (some (7 : Int))
      else (some (0 : Int))) := by kernel_rfl
theorem spec_l06Find_eq (n : Nat) (a0 : List (Int)) (a1 : List (Int)) : spec_l06Find (n + 1) a0 a1 =
  spec_l06Find_r3 n a0 a1 ([] : List (Int)) (0 : Int) := by kernel_rfl
theorem spec_l00Src_next_eq (n : Nat) (p0_0 : List (Int)) (p0_1 : Int) (p0_2 : Int) : spec_l00Src_next (n + 1) p0_0 p0_1 p0_2 =
  if (vLt p0_1 (vLen p0_0)) = true then (if (inR p0_1 (vLen p0_0)) = true then (spec_l00Src_next_r4 n (wConv .i64 (vGet p0_0 p0_1 (0 : Int))) p0_0 p0_1 p0_2)
    else (none))
   else (spec_l00Src_next_r4 n (0 : Int) p0_0 p0_1 p0_2) := by kernel_rfl
theorem spec_l06DrawPhrase_eq (n : Nat) (p0_0 : List (Int)) (p0_1 : Int) (p0_2 : Int) : spec_l06DrawPhrase (n + 1) p0_0 p0_1 p0_2 =
  (spec_l00Src_pick n p0_0 p0_1 p0_2 (3 : Int)).bind fun r1 => 
   spec_l06DrawPhrase_r3 n ([] : List (Int)) (wAdd .i64 r1.1 (1 : Int)) r1.2.1 r1.2.2.1 r1.2.2.2 := by kernel_rfl
theorem spec_l06DrawPitches_r11_eq (n : Nat) (x3 : List (Int)) (x5 : Int) (b0_0 : List (Int)) (b0_1 : Int) (b0_2 : Int) : spec_l06DrawPitches_r11 (n + 1) x3 x5 b0_0 b0_1 b0_2 =
  if (vLt (vLen x3) x5) = true then (if (appOk (vLen x3) (vLen ((0 : Int) :: ([] : List (Int)))) 8) = true then (spec_l06DrawPitches_r11 n (vApp x3 ((0 : Int) :: ([] : List (Int)))) x5 b0_0 b0_1 b0_2)
    else (none))
   else (some (x3, (b0_0, (b0_1, b0_2)))) := by kernel_rfl
theorem spec_l06DrawOk_r3_eq (n : Nat) (x3 : List (List (Int))) (x4 : Int) (b0_0 : List (Int)) (b0_1 : Int) (b0_2 : Int) : spec_l06DrawOk_r3 (n + 1) x3 x4 b0_0 b0_1 b0_2 =
  if (vLt (0 : Int) x4) = true then ((spec_l06DrawPhrase n b0_0 b0_1 b0_2).bind fun r2 => 
    (spec_l06Put n x3 r2.1).bind fun r3 => 
     spec_l06DrawOk_r3 n r3 (wSub .i64 x4 (1 : Int)) r2.2.1 r2.2.2.1 r2.2.2.2)
   else (some (x3, (b0_0, (b0_1, b0_2)))) := by kernel_rfl
theorem spec_l06BentPhrase_r9_eq (n : Nat) (x3 : List (Int)) (x4 : Int) (b0_0 : List (Int)) (b0_1 : Int) (b0_2 : Int) : spec_l06BentPhrase_r9 (n + 1) x3 x4 b0_0 b0_1 b0_2 =
  if (vLt (vLen x3) x4) = true then (if (appOk (vLen x3) (vLen ((5 : Int) :: ([] : List (Int)))) 8) = true then (spec_l06BentPhrase_r9 n (vApp x3 ((5 : Int) :: ([] : List (Int)))) x4 b0_0 b0_1 b0_2)
    else (none))
   else (some (x3, (b0_0, (b0_1, b0_2)))) := by kernel_rfl
theorem impl_phraseOk_eq (n : Nat) (a0 : List (Int)) : impl_phraseOk (n + 1) a0 =
  if (vLe (2 : Int) (vLen a0)) = true then (if (vLe (vLen a0) (8 : Int)) = true then ((impl_allWithin n a0 (-12 : Int) (23 : Int)).bind fun r3 => 
     some r3)
    else (some false))
   else (some false) := by kernel_rfl
theorem slices_Compare_int64_int64_eq (n : Nat) (a0 : List (Int)) (a1 : List (Int)) : slices_Compare_int64_int64 (n + 1) a0 a1 =
  slices_Compare_int64_int64_r2 n a0 a1 a0 (vLen a0) (0 : Int) := by kernel_rfl
theorem slices_ContainsFunc_int64_int64_i0_eq (n : Nat) (a0 : List (Int)) (a1c0 : Int) (a1c1 : Int) : slices_ContainsFunc_int64_int64_i0 (n + 1) a0 a1c0 a1c1 =
  (slices_IndexFunc_int64_int64_i0 n a0 a1c0 a1c1).bind fun r1 => 
   some (vLe (0 : Int) r1) := by kernel_rfl
theorem impl_occurrences_eq (n : Nat) (a0 : List (Int)) (a1 : List (Int)) : impl_occurrences (n + 1) a0 a1 =
  impl_occurrences_r3 n a0 a1 ([] : List (Int)) (0 : Int) := by kernel_rfl
theorem impl_coveredSet_r6_eq (n : Nat) (x0 : List (Int)) (x5 : Int) (x7 : List (Int)) (x11 : List (List (Int))) (x12 : Int) (x13 : Int) (x19 : List (Int)) (x20 : Int) (x21 : Int) : impl_coveredSet_r6 (n + 1) x0 x5 x7 x11 x12 x13 x19 x20 x21 =
  if (vLt x21 x20) = true then (if (inR x21 (vLen x19)) = true then (impl_coveredSet_r9 n x0 x5 x7 (vGet x19 x21 (0 : Int)) x11 x12 x13 x19 x20 x21 (vLen x7) (0 : Int))
    else (none))
   else (impl_coveredSet_r3 n x0 x5 x11 x12 (wAdd .i64 x13 (1 : Int))) := by kernel_rfl
theorem impl_phraseSearch_extend_eq (n : Nat) (p0_0 : List (Int)) (p0_1 : Int) (p0_2 : Int) (p0_3 : List (Int)) (a1 : Int) (a2 : Int) (a3 : Int) : impl_phraseSearch_extend (n + 1) p0_0 p0_1 p0_2 p0_3 a1 a2 a3 =
  if (vEq a2 (0 : Int)) = true then (if (vLe (0 : Int) (wSub .i64 p0_2 (1 : Int))) = true then (some ((vEq a3 p0_1), (p0_0, (p0_1, ((wSub .i64 p0_2 (1 : Int)), p0_3)))))
    else (some (false, (p0_0, (p0_1, ((wSub .i64 p0_2 (1 : Int)), p0_3))))))
   else (impl_phraseSearch_extend_r5 n a2 a3 a1 p0_0 p0_1 p0_2 p0_3) := by kernel_rfl
theorem spec_l06Phrase_eq (n : Nat) (a0 : List (Int)) : spec_l06Phrase (n + 1) a0 =
  (spec_l05Pitches n a0).bind fun r1 => 
   if r1 = true then (if (vLe (2 : Int) (vLen a0)) = true then (some (vLe (vLen a0) (8 : Int)))
     else (some false))
    else (some false) := by kernel_rfl
theorem spec_l06Before_eq (n : Nat) (a0 : List (Int)) (a1 : List (Int)) : spec_l06Before (n + 1) a0 a1 =
  spec_l06Before_r2 n a0 a1 (0 : Int) := by kernel_rfl
theorem spec_l03Pitch_eq (n : Nat) (a0 : Int) : spec_l03Pitch (n + 1) a0 =
  (spec_l00In n a0 (-12 : Int) (23 : Int)).bind fun r1 => 
   some r1 := by kernel_rfl
theorem spec_l06Covered_r7_eq (n : Nat) (x0 : List (Int)) (x1 : List (List (Int))) (x5 : List (Bool)) (x6 : Int) (x7 : List (Int)) (x8 : Int) : spec_l06Covered_r7 (n + 1) x0 x1 x5 x6 x7 x8 =
  if (vLt x8 (vLen x7)) = true then (spec_l06Covered_r10 n x0 x1 x5 x6 x7 x8 (0 : Int))
   else (spec_l06Covered_r3 n x0 x1 x5 (wAdd .i64 x6 (1 : Int))) := by kernel_rfl
theorem impl_FrequentPhrase_r8v1_eq (n : Nat) (x0 : List (Int)) (x1 : Int) (x7 : List (Int)) (x8 : Int) (x9 : Int) : impl_FrequentPhrase_r8v1 (n + 1) x0 x1 x7 x8 x9 =
  if (vLe (wAdd .i64 x9 x1) (vLen x0)) = true then (if (cutOk x9 (wAdd .i64 x9 x1) (vLen x0)) = true then ((impl_occurrences n x0 (cut x0 x9 (wAdd .i64 x9 x1))).bind fun r3 => 
     if (vLt x8 (vLen r3)) = true then (impl_FrequentPhrase_r8v1 n x0 x1 (cut x0 x9 (wAdd .i64 x9 x1)) (vLen r3) (wAdd .i64 x9 (1 : Int)))
      else (if (vEq (vLen r3) x8) = true then ((slices_Compare_int64_int64 n (cut x0 x9 (wAdd .i64 x9 x1)) x7).bind fun r6 => 
        if (vLt r6 (0 : Int)) = true then (impl_FrequentPhrase_r8v1 n x0 x1 (cut x0 x9 (wAdd .i64 x9 x1)) (vLen r3) (wAdd .i64 x9 (1 : Int)))
         else (impl_FrequentPhrase_r8v1 n x0 x1 x7 x8 (wAdd .i64 x9 (1 : Int))))
       else (impl_FrequentPhrase_r8v1 n x0 x1 x7 x8 (wAdd .i64 x9 (1 : Int)))))
    else (none))
   else (if (vEq x8 (0 : Int)) = true then (some (([] : List (Int)), ((0 : Int), (3 : Int))))
    else ((slices_Clone_int64_int64 n x7).bind fun r3 => 
     some (r3, (x8, (0 : Int))))) := by kernel_rfl
theorem slices_Clone_int64_int64_eq (n : Nat) (a0 : List (Int)) : slices_Clone_int64_int64 (n + 1) a0 =
  if (vEq (vLen a0) (0 : Int)) = true then (agree [.own (.int .i64)] (some ([] : List (Int)))
    (if (appOk (vLen ([] : List (Int))) (vLen a0) 8) = true then (some (vApp ([] : List (Int)) a0))
     else (none)))
   else (if (appOk (vLen ([] : List (Int))) (vLen a0) 8) = true then (some (vApp ([] : List (Int)) a0))
    else (none)) := by kernel_rfl
theorem spec_l06Find_r3_eq (n : Nat) (x0 : List (Int)) (x1 : List (Int)) (x5 : List (Int)) (x6 : Int) : spec_l06Find_r3 (n + 1) x0 x1 x5 x6 =
  if (vLt x6 (vLen x0)) = true then ((spec_l06Occurs n x0 x1 x6).bind fun r2 => 
    if r2 = true then (if (appOk (vLen x5) (vLen (x6 :: ([] : List (Int)))) 8) = true then (spec_l06Find_r3 n x0 x1 (vApp x5 (x6 :: ([] : List (Int)))) (wAdd .i64 x6 (1 : Int)))
      else (none))
     else (spec_l06Find_r3 n x0 x1 x5 (wAdd .i64 x6 (1 : Int))))
   else (some x5) := by kernel_rfl
theorem spec_l00Src_next_r4_eq (n : Nat) (x3 : Int) (b0_0 : List (Int)) (b0_1 : Int) (b0_2 : Int) : spec_l00Src_next_r4 (n + 1) x3 b0_0 b0_1 b0_2 =
  if (vLe (wAdd .i64 b0_1 (1 : Int)) (vLen b0_0)) = true then (some (x3, (b0_0, ((wAdd .i64 b0_1 (1 : Int)), (wAdd .u64 (wAdd .u64 (wMul .u64 b0_2 (6364136223846793005 : Int)) (wConv .u64 x3)) (1442695040888963407 : Int))))))
   else (if (vLt (40 : Int) (0 : Int)) = true then (none)
    else (some ((wConv .i64 (wAnd .u64 (vShr .u64 (wAdd .u64 (wAdd .u64 (wMul .u64 b0_2 (6364136223846793005 : Int)) (wConv .u64 x3)) (1442695040888963407 : Int)) (40 : Int)) (255 : Int))), (b0_0, ((wAdd .i64 b0_1 (1 : Int)), (wAdd .u64 (wAdd .u64 (wMul .u64 b0_2 (6364136223846793005 : Int)) (wConv .u64 x3)) (1442695040888963407 : Int))))))) := by kernel_rfl
theorem spec_l06DrawPhrase_r3_eq (n : Nat) (x3 : List (Int)) (x4 : Int) (b0_0 : List (Int)) (b0_1 : Int) (b0_2 : Int) : spec_l06DrawPhrase_r3 (n + 1) x3 x4 b0_0 b0_1 b0_2 =
  if (vLe (0 : Int) x4) = true then ((spec_l00Src_among n b0_0 b0_1 b0_2 ((0 : Int) :: ((2 : Int) :: ((4 : Int) :: ((7 : Int) :: ((0 : Int) :: ((2 : Int) :: ([] : List (Int))))))))).bind fun r2 => 
    if (appOk (vLen x3) (vLen (r2.1 :: ([] : List (Int)))) 8) = true then (spec_l06DrawPhrase_r3 n (vApp x3 (r2.1 :: ([] : List (Int)))) (wSub .i64 x4 (1 : Int)) r2.2.1 r2.2.2.1 r2.2.2.2)
     else (none))
   else (some (x3, (b0_0, (b0_1, b0_2)))) := by kernel_rfl
theorem spec_l06Put_eq (n : Nat) (a0 : List (List (Int))) (a1 : List (Int)) : spec_l06Put (n + 1) a0 a1 =
  spec_l06Put_r4 n a0 a1 ([] : List (List (Int))) false (0 : Int) := by kernel_rfl
theorem slices_Compare_int64_int64_r2_eq (n : Nat) (x0 : List (Int)) (x1 : List (Int)) (x9 : List (Int)) (x10 : Int) (x11 : Int) : slices_Compare_int64_int64_r2 (n + 1) x0 x1 x9 x10 x11 =
  if (vLt x11 x10) = true then (if (inR x11 (vLen x9)) = true then (if (vLe (vLen x1) x11) = true then (some (1 : Int))
     else (if (inR x11 (vLen x1)) = true then ((cmp_Compare_int64 n (vGet x9 x11 (0 : Int)) (vGet x1 x11 (0 : Int))).bind fun r5 => 
       if (vNot (vEq r5 (0 : Int))) = true then (some r5)
        else (slices_Compare_int64_int64_r2 n x0 x1 x9 x10 (wAdd .i64 x11 (1 : Int))))
      else (none)))
    else (none))
   else (if (vLt (vLen x0) (vLen x1)) = true then (some (-1 : Int))
    else (some (0 : Int))) := by kernel_rfl
theorem slices_IndexFunc_int64_int64_i0_eq (n : Nat) (a0 : List (Int)) (a1c0 : Int) (a1c1 : Int) : slices_IndexFunc_int64_int64_i0 (n + 1) a0 a1c0 a1c1 =
  slices_IndexFunc_int64_int64_i0_r2 n a0 a1c0 a1c1 (vLen a0) (0 : Int) := by kernel_rfl
theorem impl_occurrences_r3_eq (n : Nat) (x0 : List (Int)) (x1 : List (Int)) (x5 : List (Int)) (x6 : Int) : impl_occurrences_r3 (n + 1) x0 x1 x5 x6 =
  if (vLe (wAdd .i64 x6 (vLen x1)) (vLen x0)) = true then (if (cutOk x6 (wAdd .i64 x6 (vLen x1)) (vLen x0)) = true then ((slices_Equal_int64_int64 n (cut x0 x6 (wAdd .i64 x6 (vLen x1))) x1).bind fun r3 => 
     if r3 = true then (if (appOk (vLen x5) (vLen (x6 :: ([] : List (Int)))) 8) = true then (impl_occurrences_r3 n x0 x1 (vApp x5 (x6 :: ([] : List (Int)))) (wAdd .i64 x6 (1 : Int)))
       else (none))
      else (impl_occurrences_r3 n x0 x1 x5 (wAdd .i64 x6 (1 : Int))))
    else (none))
   else (some x5) := by kernel_rfl
theorem impl_coveredSet_r9_eq (n : Nat) (x0 : List (Int)) (x5 : Int) (x7 : List (Int)) (x9 : Int) (x11 : List (List (Int))) (x12 : Int) (x13 : Int) (x19 : List (Int)) (x20 : Int) (x21 : Int) (x26 : Int) (x27 : Int) : impl_coveredSet_r9 (n + 1) x0 x5 x7 x9 x11 x12 x13 x19 x20 x21 x26 x27 =
  if (vLt x27 x26) = true then (if (vLt (wAdd .i64 x9 x27) (0 : Int)) = true then (none)
    else (impl_coveredSet_r9 n x0 (wOr .u64 x5 (wShl .u64 (1 : Int) (wAdd .i64 x9 x27))) x7 x9 x11 x12 x13 x19 x20 x21 x26 (wAdd .i64 x27 (1 : Int))))
   else (impl_coveredSet_r6 n x0 x5 x7 x11 x12 x13 x19 x20 (wAdd .i64 x21 (1 : Int))) := by kernel_rfl
theorem impl_phraseSearch_extend_r5_eq (n : Nat) (x2 : Int) (x3 : Int) (x9 : Int) (b0_0 : List (Int)) (b0_1 : Int) (b0_2 : Int) (b0_3 : List (Int)) : impl_phraseSearch_extend_r5 (n + 1) x2 x3 x9 b0_0 b0_1 b0_2 b0_3 =
  if (vLe (wAdd .i64 x9 x2) (vLen b0_0)) = true then (if (appOk (vLen b0_3) (vLen (x9 :: ([] : List (Int)))) 8) = true then (if (inR x9 (vLen b0_0)) = true then ((impl_phraseSearch_extend n b0_0 b0_1 b0_2 (vApp b0_3 (x9 :: ([] : List (Int)))) (wAdd .i64 x9 (1 : Int)) (wSub .i64 x2 (1 : Int)) (wOr .u64 x3 (vGet b0_0 x9 (0 : Int)))).bind fun r4 => 
      if r4.1 = true then (some (true, (r4.2.1, (r4.2.2.1, (r4.2.2.2.1, r4.2.2.2.2)))))
       else (if (cutOk (0 : Int) (wSub .i64 (vLen r4.2.2.2.2) (1 : Int)) (vLen r4.2.2.2.2)) = true then (if (vLt r4.2.2.2.1 (0 : Int)) = true then (some (false, (r4.2.1, (r4.2.2.1, (r4.2.2.2.1, (cut r4.2.2.2.2 (0 : Int) (wSub .i64 (vLen r4.2.2.2.2) (1 : Int))))))))
         else (impl_phraseSearch_extend_r5 n x2 x3 (wAdd .i64 x9 (1 : Int)) r4.2.1 r4.2.2.1 r4.2.2.2.1 (cut r4.2.2.2.2 (0 : Int) (wSub .i64 (vLen r4.2.2.2.2) (1 : Int)))))
        else (none)))
     else (none))
    else (none))
   else (some (false, (b0_0, (b0_1, (b0_2, b0_3))))) := by kernel_rfl
theorem spec_l06Before_r2_eq (n : Nat) (x0 : List (Int)) (x1 : List (Int)) (x5 : Int) : spec_l06Before_r2 (n + 1) x0 x1 x5 =
  if (vLt x5 (vLen x0)) = true then (if (vLt x5 (vLen x1)) = true then (if (inR x5 (vLen x0)) = true then (if (inR x5 (vLen x1)) = true then (if (vNot (vEq (vGet x0 x5 (0 : Int)) (vGet x1 x5 (0 : Int)))) = true then (if (inR x5 (vLen x0)) = true then (if (inR x5 (vLen x1)) = true then (some (vLt (vGet x0 x5 (0 : Int)) (vGet x1 x5 (0 : Int))))
         else (none))
        else (none))
       else (spec_l06Before_r2 n x0 x1 (wAdd .i64 x5 (1 : Int))))
      else (none))
     else (none))
    else (some (vLt (vLen x0) (vLen x1))))
   else (some (vLt (vLen x0) (vLen x1))) := by kernel_rfl
theorem spec_l00In_eq (n : Nat) (a0 : Int) (a1 : Int) (a2 : Int) : spec_l00In (n + 1) a0 a1 a2 =
  if (vLe a1 a0) = true then (some (vLe a0 a2))
   else (some false) := by kernel_rfl
theorem spec_l06Covered_r10_eq (n : Nat) (x0 : List (Int)) (x1 : List (List (Int))) (x5 : List (Bool)) (x6 : Int) (x7 : List (Int)) (x8 : Int) (x9 : Int) : spec_l06Covered_r10 (n + 1) x0 x1 x5 x6 x7 x8 x9 =
  if (inR x6 (vLen x1)) = true then (if (vLt x9 (vLen (vGet x1 x6 ([] : List (Int))))) = true then (if (inR x8 (vLen x7)) = true then (if (inR (wAdd .i64 (vGet x7 x8 (0 : Int)) x9) (vLen x5)) = true then (spec_l06Covered_r10 n x0 x1 (vSet x5 (wAdd .i64 (vGet x7 x8 (0 : Int)) x9) true) x6 x7 x8 (wAdd .i64 x9 (1 : Int)))
      else (none))
     else (none))
    else (spec_l06Covered_r7 n x0 x1 x5 x6 x7 (wAdd .i64 x8 (1 : Int))))
   else (none) := by kernel_rfl
theorem spec_l06Occurs_eq (n : Nat) (a0 : List (Int)) (a1 : List (Int)) (a2 : Int) : spec_l06Occurs (n + 1) a0 a1 a2 =
  if (vLt (vLen a0) (wAdd .i64 a2 (vLen a1))) = true then (some false)
   else (spec_l06Occurs_r4 n a0 a1 a2 (0 : Int)) := by kernel_rfl
theorem spec_l06Put_r4_eq (n : Nat) (x0 : List (List (Int))) (x1 : List (Int)) (x5 : List (List (Int))) (x6 : Bool) (x7 : Int) : spec_l06Put_r4 (n + 1) x0 x1 x5 x6 x7 =
  if (vLt x7 (vLen x0)) = true then (if (inR x7 (vLen x0)) = true then ((spec_l00Same n (vGet x0 x7 ([] : List (Int))) x1).bind fun r3 => 
     if r3 = true then (spec_l06Put_r8 n x0 x1 x5 true x7)
      else (spec_l06Put_r8 n x0 x1 x5 x6 x7))
    else (none))
   else (if (vNot x6) = true then (if (appOk (vLen x5) (vLen (x1 :: ([] : List (List (Int))))) 24) = true then (some (vApp x5 (x1 :: ([] : List (List (Int))))))
     else (none))
    else (some x5)) := by kernel_rfl
theorem cmp_Compare_int64_eq (n : Nat) (a0 : Int) (a1 : Int) : cmp_Compare_int64 (n + 1) a0 a1 =
  (cmp_isNaN_int64 n a0).bind fun r1 => 
   (cmp_isNaN_int64 n a1).bind fun r2 => 
    if r1 = true then (if r2 = true then (some (0 : Int))
      else (some (-1 : Int)))
     else (if r2 = true then (some (1 : Int))
      else (if (vLt a0 a1) = true then (some (-1 : Int))
       else (if (vLt a1 a0) = true then (some (1 : Int))
        else (some (0 : Int))))) := by kernel_rfl
theorem slices_IndexFunc_int64_int64_i0_r2_eq (n : Nat) (x0 : List (Int)) (x1c0 : Int) (x1c1 : Int) (x7 : Int) (x8 : Int) : slices_IndexFunc_int64_int64_i0_r2 (n + 1) x0 x1c0 x1c1 x7 x8 =
  if (vLt x8 x7) = true then (if (inR x8 (vLen x0)) = true then ((impl_allWithin_1 n (vGet x0 x8 (0 : Int)) x1c0 x1c1).bind fun r3 => 
     if r3 = true then (some x8)
      else (slices_IndexFunc_int64_int64_i0_r2 n x0 x1c0 x1c1 x7 (wAdd .i64 x8 (1 : Int))))
    else (none))
   else (some (-1 : Int)) := by kernel_rfl
theorem slices_Equal_int64_int64_eq (n : Nat) (a0 : List (Int)) (a1 : List (Int)) : slices_Equal_int64_int64 (n + 1) a0 a1 =
  if (vNot (vEq (vLen a0) (vLen a1))) = true then (some false)
   else (slices_Equal_int64_int64_r4 n a0 a1 (vLen a0) (0 : Int)) := by kernel_rfl
theorem spec_l06Occurs_r4_eq (n : Nat) (x0 : List (Int)) (x1 : List (Int)) (x2 : Int) (x7 : Int) : spec_l06Occurs_r4 (n + 1) x0 x1 x2 x7 =
  if (vLt x7 (vLen x1)) = true then (if (inR (wAdd .i64 x2 x7) (vLen x0)) = true then (if (inR x7 (vLen x1)) = true then (if (vNot (vEq (vGet x0 (wAdd .i64 x2 x7) (0 : Int)) (vGet x1 x7 (0 : Int)))) = true then (some false)
      else (spec_l06Occurs_r4 n x0 x1 x2 (wAdd .i64 x7 (1 : Int))))
     else (none))
    else (none))
   else (some true) := by kernel_rfl
theorem spec_l00Same_eq (n : Nat) (a0 : List (Int)) (a1 : List (Int)) : spec_l00Same (n + 1) a0 a1 =
  if (vNot (vEq (vLen a0) (vLen a1))) = true then (some false)
   else (spec_l00Same_r4 n a0 a1 (0 : Int)) := by kernel_rfl
theorem spec_l06Put_r8_eq (n : Nat) (x0 : List (List (Int))) (x1 : List (Int)) (x5 : List (List (Int))) (x6 : Bool) (x7 : Int) : spec_l06Put_r8 (n + 1) x0 x1 x5 x6 x7 =
  if (vNot x6) = true then (if (inR x7 (vLen x0)) = true then ((spec_l06Before n x1 (vGet x0 x7 ([] : List (Int)))).bind fun r3 => 
     if r3 = true then (if (appOk (vLen x5) (vLen (x1 :: ([] : List (List (Int))))) 24) = true then (if (inR x7 (vLen x0)) = true then (if (appOk (vLen (vApp x5 (x1 :: ([] : List (List (Int)))))) (vLen ((vGet x0 x7 ([] : List (Int))) :: ([] : List (List (Int))))) 24) = true then (spec_l06Put_r4 n x0 x1 (vApp (vApp x5 (x1 :: ([] : List (List (Int))))) ((vGet x0 x7 ([] : List (Int))) :: ([] : List (List (Int))))) true (wAdd .i64 x7 (1 : Int)))
         else (none))
        else (none))
       else (none))
      else (if (inR x7 (vLen x0)) = true then (if (appOk (vLen x5) (vLen ((vGet x0 x7 ([] : List (Int))) :: ([] : List (List (Int))))) 24) = true then (spec_l06Put_r4 n x0 x1 (vApp x5 ((vGet x0 x7 ([] : List (Int))) :: ([] : List (List (Int))))) x6 (wAdd .i64 x7 (1 : Int)))
        else (none))
       else (none)))
    else (none))
   else (if (inR x7 (vLen x0)) = true then (if (appOk (vLen x5) (vLen ((vGet x0 x7 ([] : List (Int))) :: ([] : List (List (Int))))) 24) = true then (spec_l06Put_r4 n x0 x1 (vApp x5 ((vGet x0 x7 ([] : List (Int))) :: ([] : List (List (Int))))) x6 (wAdd .i64 x7 (1 : Int)))
     else (none))
    else (none)) := by kernel_rfl
theorem cmp_isNaN_int64_eq (n : Nat) (a0 : Int) : cmp_isNaN_int64 (n + 1) a0 =
  some (vNot (vEq a0 a0)) := by kernel_rfl
theorem impl_allWithin_1_eq (n : Nat) (a0 : Int) (a1 : Int) (a2 : Int) : impl_allWithin_1 (n + 1) a0 a1 a2 =
  (impl_within n a0 a1 a2).bind fun r1 => 
   some (vNot r1) := by kernel_rfl
theorem slices_Equal_int64_int64_r4_eq (n : Nat) (x0 : List (Int)) (x1 : List (Int)) (x12 : Int) (x13 : Int) : slices_Equal_int64_int64_r4 (n + 1) x0 x1 x12 x13 =
  if (vLt x13 x12) = true then (if (inR x13 (vLen x0)) = true then (if (inR x13 (vLen x1)) = true then (if (vNot (vEq (vGet x0 x13 (0 : Int)) (vGet x1 x13 (0 : Int)))) = true then (some false)
      else (slices_Equal_int64_int64_r4 n x0 x1 x12 (wAdd .i64 x13 (1 : Int))))
     else (none))
    else (none))
   else (some true) := by kernel_rfl
theorem spec_l00Same_r4_eq (n : Nat) (x0 : List (Int)) (x1 : List (Int)) (x5 : Int) : spec_l00Same_r4 (n + 1) x0 x1 x5 =
  if (vLt x5 (vLen x0)) = true then (if (inR x5 (vLen x0)) = true then (if (inR x5 (vLen x1)) = true then (if (vNot (vEq (vGet x0 x5 (0 : Int)) (vGet x1 x5 (0 : Int)))) = true then (some false)
      else (spec_l00Same_r4 n x0 x1 (wAdd .i64 x5 (1 : Int))))
     else (none))
    else (none))
   else (some true) := by kernel_rfl
end Go.Proofs.Yticifedehhnjhaa.F
