/- The functions that the law reaches, as functions on plain values. -/
import Derived.Test.YticifedehhnjhaaEC
namespace Go.Proofs.Yticifedehhnjhaa.F
set_option linter.unusedVariables false
set_option maxRecDepth 100000
open Go Go.Proofs.Yticifedehhnjhaa.Eng
noncomputable def laws_FnProgrammes (n : Nat) (a0 : List (Int)) : Option (Bool) := evN CFG n (.call ⟨5, [.cv false [.v (.sl (.int .u8)) a0]]⟩)
noncomputable def laws_b10Long (n : Nat) (a0 : List (Int)) : Option (Bool) := evN CFG n (.call ⟨27, [.cv false [.v (.sl (.int .u8)) a0]]⟩)
noncomputable def spec_DrawBestProgramme (n : Nat) (a0 : List (Int)) : Option ((List ((ByteArray × (Int × (Int × (Int × (Int × Int)))))) × (Int × (Int × (Int × Int))))) := evN CFG n (.call ⟨28, [.cv false [.v (.sl (.int .u8)) a0]]⟩)
noncomputable def impl_BestProgramme (n : Nat) (a0 : List ((ByteArray × (Int × (Int × (Int × (Int × Int))))))) (a1 : Int) (a2 : Int) (a3 : Int) (a4 : Int) : Option ((List (Int) × (Int × Int))) := evN CFG n (.call ⟨21, [.cv false [.v (.sl (.pair .str (.pair (.int .i64) (.pair (.int .i64) (.pair (.int .i64) (.pair (.int .i64) (.int .i64))))))) a0], .cv false [.v (.int .i64) a1], .cv false [.v (.int .i64) a2], .cv false [.v (.int .i64) a3], .cv false [.v (.int .i64) a4]]⟩)
noncomputable def impl_CountProgrammes (n : Nat) (a0 : List ((ByteArray × (Int × (Int × (Int × (Int × Int))))))) (a1 : Int) (a2 : Int) (a3 : Int) (a4 : Int) : Option ((Int × Int)) := evN CFG n (.call ⟨29, [.cv false [.v (.sl (.pair .str (.pair (.int .i64) (.pair (.int .i64) (.pair (.int .i64) (.pair (.int .i64) (.int .i64))))))) a0], .cv false [.v (.int .i64) a1], .cv false [.v (.int .i64) a2], .cv false [.v (.int .i64) a3], .cv false [.v (.int .i64) a4]]⟩)
noncomputable def impl_WorthOf (n : Nat) (a0 : List ((ByteArray × (Int × (Int × (Int × (Int × Int))))))) (a1 : List (Int)) : Option ((Int × Int)) := evN CFG n (.call ⟨30, [.cv false [.v (.sl (.pair .str (.pair (.int .i64) (.pair (.int .i64) (.pair (.int .i64) (.pair (.int .i64) (.int .i64))))))) a0], .cv false [.v (.sl (.int .i64)) a1]]⟩)
noncomputable def impl_EndOf (n : Nat) (a0 : List ((ByteArray × (Int × (Int × (Int × (Int × Int))))))) (a1 : List (Int)) (a2 : Int) (a3 : Int) : Option ((Int × Int)) := evN CFG n (.call ⟨31, [.cv false [.v (.sl (.pair .str (.pair (.int .i64) (.pair (.int .i64) (.pair (.int .i64) (.pair (.int .i64) (.int .i64))))))) a0], .cv false [.v (.sl (.int .i64)) a1], .cv false [.v (.int .i64) a2], .cv false [.v (.int .i64) a3]]⟩)
noncomputable def spec_IsProgramme (n : Nat) (a0 : List ((ByteArray × (Int × (Int × (Int × (Int × Int))))))) (a1 : List (Int)) (a2 : Int) (a3 : Int) (a4 : Int) : Option (Bool) := evN CFG n (.call ⟨32, [.cv false [.v (.sl (.pair .str (.pair (.int .i64) (.pair (.int .i64) (.pair (.int .i64) (.pair (.int .i64) (.int .i64))))))) a0], .cv false [.v (.sl (.int .i64)) a1], .cv false [.v (.int .i64) a2], .cv false [.v (.int .i64) a3], .cv false [.v (.int .i64) a4]]⟩)
noncomputable def laws_FnProgrammes_r16 (n : Nat) (x3 : List ((ByteArray × (Int × (Int × (Int × (Int × Int))))))) (x4 : Int) (x5 : Int) (x6 : Int) (x9 : Int) (x11 : Int) (x17 : Int) (x18 : Int) : Option (Bool) := evN CFG n (.run 5 [0] (tdo CFG 5 16) (mkSt [(.tm 3, .tm 0 (.cv false [.v (.sl (.pair .str (.pair (.int .i64) (.pair (.int .i64) (.pair (.int .i64) (.pair (.int .i64) (.int .i64))))))) x3])), (.tm 4, .tm 0 (.cv false [.v (.int .i64) x4])), (.tm 5, .tm 0 (.cv false [.v (.int .i64) x5])), (.tm 6, .tm 0 (.cv false [.v (.int .i64) x6])), (.tm 9, .tm 0 (.cv false [.v (.int .i64) x9])), (.tm 11, .tm 0 (.cv false [.v (.int .i64) x11])), (.tm 17, .tm 0 (.cv false [.v (.int .i64) x17])), (.tm 18, .tm 0 (.cv false [.v (.int .i64) x18]))]))
noncomputable def spec_l00From (n : Nat) (a0 : List (Int)) : Option ((List (Int) × (Int × Int))) := evN CFG n (.call ⟨48, [.cv false [.v (.sl (.int .u8)) a0]]⟩)
noncomputable def spec_l08DrawList (n : Nat) (p0_0 : List (Int)) (p0_1 : Int) (p0_2 : Int) : Option ((List ((ByteArray × (Int × (Int × (Int × (Int × Int)))))) × (List (Int) × (Int × Int)))) := evN CFG n (.call ⟨67, [.io [.v (.sl (.int .u8)) p0_0, .v (.int .i64) p0_1, .v (.int .u64) p0_2]]⟩)
noncomputable def spec_l08DrawMinute (n : Nat) (p0_0 : List (Int)) (p0_1 : Int) (p0_2 : Int) : Option ((Int × (List (Int) × (Int × Int)))) := evN CFG n (.call ⟨68, [.io [.v (.sl (.int .u8)) p0_0, .v (.int .i64) p0_1, .v (.int .u64) p0_2]]⟩)
noncomputable def spec_l08DrawUntil (n : Nat) (p0_0 : List (Int)) (p0_1 : Int) (p0_2 : Int) (a1 : Int) : Option ((Int × (List (Int) × (Int × Int)))) := evN CFG n (.call ⟨69, [.io [.v (.sl (.int .u8)) p0_0, .v (.int .i64) p0_1, .v (.int .u64) p0_2], .cv false [.v (.int .i64) a1]]⟩)
noncomputable def spec_l08DrawSeason (n : Nat) (p0_0 : List (Int)) (p0_1 : Int) (p0_2 : Int) : Option ((Int × (List (Int) × (Int × Int)))) := evN CFG n (.call ⟨70, [.io [.v (.sl (.int .u8)) p0_0, .v (.int .i64) p0_1, .v (.int .u64) p0_2]]⟩)
noncomputable def spec_l08DrawBudget (n : Nat) (p0_0 : List (Int)) (p0_1 : Int) (p0_2 : Int) : Option ((Int × (List (Int) × (Int × Int)))) := evN CFG n (.call ⟨71, [.io [.v (.sl (.int .u8)) p0_0, .v (.int .i64) p0_1, .v (.int .u64) p0_2]]⟩)
noncomputable def impl_programmes (n : Nat) (a0 : List ((ByteArray × (Int × (Int × (Int × (Int × Int))))))) (a1 : Int) (a2 : Int) (a3 : Int) (a4 : Int) : Option ((List ((ByteArray × (Int × (Int × (Int × (Int × Int)))))) × (Int × (Int × (Int × (List (Int) × (List (Int) × (Int × Int)))))))) := evN CFG n (.call ⟨64, [.cv false [.v (.sl (.pair .str (.pair (.int .i64) (.pair (.int .i64) (.pair (.int .i64) (.pair (.int .i64) (.int .i64))))))) a0], .cv false [.v (.int .i64) a1], .cv false [.v (.int .i64) a2], .cv false [.v (.int .i64) a3], .cv false [.v (.int .i64) a4]]⟩)
noncomputable def impl_ValidItems (n : Nat) (a0 : List ((ByteArray × (Int × (Int × (Int × (Int × Int))))))) : Option (Bool) := evN CFG n (.call ⟨72, [.cv false [.v (.sl (.pair .str (.pair (.int .i64) (.pair (.int .i64) (.pair (.int .i64) (.pair (.int .i64) (.int .i64))))))) a0]]⟩)
noncomputable def impl_orderOk_impl_Item (n : Nat) (a0 : List ((ByteArray × (Int × (Int × (Int × (Int × Int))))))) (a1 : List (Int)) : Option (Bool) := evN CFG n (.call ⟨73, [.cv false [.v (.sl (.pair .str (.pair (.int .i64) (.pair (.int .i64) (.pair (.int .i64) (.pair (.int .i64) (.int .i64))))))) a0], .cv false [.v (.sl (.int .i64)) a1]]⟩)
noncomputable def impl_WorthOf_r7 (n : Nat) (x0 : List ((ByteArray × (Int × (Int × (Int × (Int × Int))))))) (x6 : Int) (x18 : List (Int)) (x19 : Int) (x20 : Int) : Option ((Int × Int)) := evN CFG n (.run 30 [0, 0] (tdo CFG 30 7) (mkSt [(.tm 0, .tm 0 (.cv false [.v (.sl (.pair .str (.pair (.int .i64) (.pair (.int .i64) (.pair (.int .i64) (.pair (.int .i64) (.int .i64))))))) x0])), (.tm 6, .tm 0 (.cv false [.v (.int .i64) x6])), (.tm 18, .tm 0 (.cv false [.v (.sl (.int .i64)) x18])), (.tm 19, .tm 0 (.cv false [.v (.int .i64) x19])), (.tm 20, .tm 0 (.cv false [.v (.int .i64) x20]))]))
noncomputable def impl_minuteOk (n : Nat) (a0 : Int) : Option (Bool) := evN CFG n (.call ⟨74, [.cv false [.v (.int .i64) a0]]⟩)
noncomputable def impl_seasonOk (n : Nat) (a0 : Int) : Option (Bool) := evN CFG n (.call ⟨75, [.cv false [.v (.int .i64) a0]]⟩)
noncomputable def impl_endOf (n : Nat) (a0 : List ((ByteArray × (Int × (Int × (Int × (Int × Int))))))) (a1 : List (Int)) (a2 : Int) (a3 : Int) : Option ((Int × Bool)) := evN CFG n (.call ⟨76, [.cv false [.v (.sl (.pair .str (.pair (.int .i64) (.pair (.int .i64) (.pair (.int .i64) (.pair (.int .i64) (.int .i64))))))) a0], .cv false [.v (.sl (.int .i64)) a1], .cv false [.v (.int .i64) a2], .cv false [.v (.int .i64) a3]]⟩)
noncomputable def spec_l08Ok (n : Nat) (a0 : List ((ByteArray × (Int × (Int × (Int × (Int × Int))))))) : Option (Bool) := evN CFG n (.call ⟨77, [.cv false [.v (.sl (.pair .str (.pair (.int .i64) (.pair (.int .i64) (.pair (.int .i64) (.pair (.int .i64) (.int .i64))))))) a0]]⟩)
noncomputable def spec_l08Minute (n : Nat) (a0 : Int) : Option (Bool) := evN CFG n (.call ⟨78, [.cv false [.v (.int .i64) a0]]⟩)
noncomputable def spec_l08Season (n : Nat) (a0 : Int) : Option (Bool) := evN CFG n (.call ⟨79, [.cv false [.v (.int .i64) a0]]⟩)
noncomputable def spec_l08Until (n : Nat) (a0 : Int) (a1 : Int) : Option (Bool) := evN CFG n (.call ⟨80, [.cv false [.v (.int .i64) a0], .cv false [.v (.int .i64) a1]]⟩)
noncomputable def spec_l08Order (n : Nat) (a0 : List ((ByteArray × (Int × (Int × (Int × (Int × Int))))))) (a1 : List (Int)) : Option (Bool) := evN CFG n (.call ⟨81, [.cv false [.v (.sl (.pair .str (.pair (.int .i64) (.pair (.int .i64) (.pair (.int .i64) (.pair (.int .i64) (.int .i64))))))) a0], .cv false [.v (.sl (.int .i64)) a1]]⟩)
noncomputable def spec_l08End (n : Nat) (a0 : List ((ByteArray × (Int × (Int × (Int × (Int × Int))))))) (a1 : List (Int)) (a2 : Int) (a3 : Int) : Option ((Int × Bool)) := evN CFG n (.call ⟨82, [.cv false [.v (.sl (.pair .str (.pair (.int .i64) (.pair (.int .i64) (.pair (.int .i64) (.pair (.int .i64) (.int .i64))))))) a0], .cv false [.v (.sl (.int .i64)) a1], .cv false [.v (.int .i64) a2], .cv false [.v (.int .i64) a3]]⟩)
noncomputable def spec_l08DrawList_r4 (n : Nat) (x3 : List (ByteArray)) (x4 : List ((ByteArray × (Int × (Int × (Int × (Int × Int))))))) (x5 : Int) (b0_0 : List (Int)) (b0_1 : Int) (b0_2 : Int) : Option ((List ((ByteArray × (Int × (Int × (Int × (Int × Int)))))) × (List (Int) × (Int × Int)))) := evN CFG n (.run 67 [1] (tdo CFG 67 4) (mkSt [(.tm 0, .tm 0 (.cv false [.pb 0 0 0])), (.tm 3, .tm 0 (.cv false [.own .str x3])), (.tm 4, .tm 0 (.cv false [.own (.pair .str (.pair (.int .i64) (.pair (.int .i64) (.pair (.int .i64) (.pair (.int .i64) (.int .i64)))))) x4])), (.tm 5, .tm 0 (.cv false [.v (.int .i64) x5])), (.bx 0, .bx 0 [(0, .v (.sl (.int .u8)) b0_0), (0, .v (.int .i64) b0_1), (0, .v (.int .u64) b0_2)])]))
noncomputable def spec_l00Src_one (n : Nat) (p0_0 : List (Int)) (p0_1 : Int) (p0_2 : Int) (a1 : Int) : Option ((Bool × (List (Int) × (Int × Int)))) := evN CFG n (.call ⟨103, [.io [.v (.sl (.int .u8)) p0_0, .v (.int .i64) p0_1, .v (.int .u64) p0_2], .cv false [.v (.int .i64) a1]]⟩)
noncomputable def spec_l00Src_among (n : Nat) (p0_0 : List (Int)) (p0_1 : Int) (p0_2 : Int) (a1 : List (Int)) : Option ((Int × (List (Int) × (Int × Int)))) := evN CFG n (.call ⟨85, [.io [.v (.sl (.int .u8)) p0_0, .v (.int .i64) p0_1, .v (.int .u64) p0_2], .cv false [.v (.sl (.int .i64)) a1]]⟩)
noncomputable def spec_l00Src_pick (n : Nat) (p0_0 : List (Int)) (p0_1 : Int) (p0_2 : Int) (a1 : Int) : Option ((Int × (List (Int) × (Int × Int)))) := evN CFG n (.call ⟨109, [.io [.v (.sl (.int .u8)) p0_0, .v (.int .i64) p0_1, .v (.int .u64) p0_2], .cv false [.v (.int .i64) a1]]⟩)
noncomputable def impl_within (n : Nat) (a0 : Int) (a1 : Int) (a2 : Int) : Option (Bool) := evN CFG n (.call ⟨92, [.cv false [.v (.int .i64) a0], .cv false [.v (.int .i64) a1], .cv false [.v (.int .i64) a2]]⟩)
noncomputable def impl_budgetValid (n : Nat) (a0 : Int) : Option (Bool) := evN CFG n (.call ⟨87, [.cv false [.v (.int .i64) a0]]⟩)
noncomputable def impl_programmeSearch_visit (n : Nat) (p0_0 : List ((ByteArray × (Int × (Int × (Int × (Int × Int))))))) (p0_1 : Int) (p0_2 : Int) (p0_3 : Int) (p0_4 : List (Int)) (p0_5 : List (Int)) (p0_6 : Int) (a1 : Int) (a2 : Int) : Option ((List ((ByteArray × (Int × (Int × (Int × (Int × Int)))))) × (Int × (Int × (Int × (List (Int) × (List (Int) × Int))))))) := evN CFG n (.call ⟨125, [.io [.v (.sl (.pair .str (.pair (.int .i64) (.pair (.int .i64) (.pair (.int .i64) (.pair (.int .i64) (.int .i64))))))) p0_0, .v (.int .i64) p0_1, .v (.int .i64) p0_2, .v (.int .i64) p0_3, .own (.int .i64) p0_4, .own (.int .i64) p0_5, .v (.int .i64) p0_6], .cv false [.v (.int .i64) a1], .cv false [.v (.int .i64) a2]]⟩)
noncomputable def impl_ValidItems_r4 (n : Nat) (x0 : List ((ByteArray × (Int × (Int × (Int × (Int × Int))))))) (x8 : List ((ByteArray × (Int × (Int × (Int × (Int × Int))))))) (x9 : Int) (x10 : Int) : Option (Bool) := evN CFG n (.run 72 [0] (tdo CFG 72 4) (mkSt [(.tm 0, .tm 0 (.cv false [.v (.sl (.pair .str (.pair (.int .i64) (.pair (.int .i64) (.pair (.int .i64) (.pair (.int .i64) (.int .i64))))))) x0])), (.tm 8, .tm 0 (.cv false [.v (.sl (.pair .str (.pair (.int .i64) (.pair (.int .i64) (.pair (.int .i64) (.pair (.int .i64) (.int .i64))))))) x8])), (.tm 9, .tm 0 (.cv false [.v (.int .i64) x9])), (.tm 10, .tm 0 (.cv false [.v (.int .i64) x10]))]))
noncomputable def impl_orderOk_impl_Item_r2 (n : Nat) (x0 : List ((ByteArray × (Int × (Int × (Int × (Int × Int))))))) (x1 : List (Int)) (x7 : List (Int)) (x8 : Int) (x9 : Int) : Option (Bool) := evN CFG n (.run 73 [0, 0] (tdo CFG 73 2) (mkSt [(.tm 0, .tm 0 (.cv false [.v (.sl (.pair .str (.pair (.int .i64) (.pair (.int .i64) (.pair (.int .i64) (.pair (.int .i64) (.int .i64))))))) x0])), (.tm 1, .tm 0 (.cv false [.v (.sl (.int .i64)) x1])), (.tm 7, .tm 0 (.cv false [.v (.sl (.int .i64)) x7])), (.tm 8, .tm 0 (.cv false [.v (.int .i64) x8])), (.tm 9, .tm 0 (.cv false [.v (.int .i64) x9]))]))
noncomputable def impl_endOf_r2 (n : Nat) (x0 : List ((ByteArray × (Int × (Int × (Int × (Int × Int))))))) (x2 : Int) (x3 : Int) (x12 : List (Int)) (x13 : Int) (x14 : Int) : Option ((Int × Bool)) := evN CFG n (.run 76 [0, 0, 0, 0] (tdo CFG 76 2) (mkSt [(.tm 0, .tm 0 (.cv false [.v (.sl (.pair .str (.pair (.int .i64) (.pair (.int .i64) (.pair (.int .i64) (.pair (.int .i64) (.int .i64))))))) x0])), (.tm 2, .tm 0 (.cv false [.v (.int .i64) x2])), (.tm 3, .tm 0 (.cv false [.v (.int .i64) x3])), (.tm 12, .tm 0 (.cv false [.v (.sl (.int .i64)) x12])), (.tm 13, .tm 0 (.cv false [.v (.int .i64) x13])), (.tm 14, .tm 0 (.cv false [.v (.int .i64) x14]))]))
noncomputable def spec_l08Ok_r2 (n : Nat) (x0 : List ((ByteArray × (Int × (Int × (Int × (Int × Int))))))) (x3 : Int) : Option (Bool) := evN CFG n (.run 77 [0] (tdo CFG 77 2) (mkSt [(.tm 0, .tm 0 (.cv false [.v (.sl (.pair .str (.pair (.int .i64) (.pair (.int .i64) (.pair (.int .i64) (.pair (.int .i64) (.int .i64))))))) x0])), (.tm 3, .tm 0 (.cv false [.v (.int .i64) x3]))]))
noncomputable def spec_l00In (n : Nat) (a0 : Int) (a1 : Int) (a2 : Int) : Option (Bool) := evN CFG n (.call ⟨118, [.cv false [.v (.int .i64) a0], .cv false [.v (.int .i64) a1], .cv false [.v (.int .i64) a2]]⟩)
noncomputable def spec_l08Order_r2 (n : Nat) (x0 : List ((ByteArray × (Int × (Int × (Int × (Int × Int))))))) (x1 : List (Int)) (x5 : Int) : Option (Bool) := evN CFG n (.run 81 [0, 0] (tdo CFG 81 2) (mkSt [(.tm 0, .tm 0 (.cv false [.v (.sl (.pair .str (.pair (.int .i64) (.pair (.int .i64) (.pair (.int .i64) (.pair (.int .i64) (.int .i64))))))) x0])), (.tm 1, .tm 0 (.cv false [.v (.sl (.int .i64)) x1])), (.tm 5, .tm 0 (.cv false [.v (.int .i64) x5]))]))
noncomputable def spec_l08End_r3 (n : Nat) (x0 : List ((ByteArray × (Int × (Int × (Int × (Int × Int))))))) (x1 : List (Int)) (x3 : Int) (x10 : Int) (x11 : Int) : Option ((Int × Bool)) := evN CFG n (.run 82 [0, 0, 0, 0] (tdo CFG 82 3) (mkSt [(.tm 0, .tm 0 (.cv false [.v (.sl (.pair .str (.pair (.int .i64) (.pair (.int .i64) (.pair (.int .i64) (.pair (.int .i64) (.int .i64))))))) x0])), (.tm 1, .tm 0 (.cv false [.v (.sl (.int .i64)) x1])), (.tm 3, .tm 0 (.cv false [.v (.int .i64) x3])), (.tm 10, .tm 0 (.cv false [.v (.int .i64) x10])), (.tm 11, .tm 0 (.cv false [.v (.int .i64) x11]))]))
noncomputable def spec_l08DrawOne (n : Nat) (p0_0 : List (Int)) (p0_1 : Int) (p0_2 : Int) (a1 : ByteArray) : Option ((ByteArray × (Int × (Int × (Int × (Int × (Int × (List (Int) × (Int × Int))))))))) := evN CFG n (.call ⟨126, [.io [.v (.sl (.int .u8)) p0_0, .v (.int .i64) p0_1, .v (.int .u64) p0_2], .cv false [.v .str a1]]⟩)
noncomputable def spec_l08Bend (n : Nat) (p0_0 : List (Int)) (p0_1 : Int) (p0_2 : Int) (a1_0 : ByteArray) (a1_1 : Int) (a1_2 : Int) (a1_3 : Int) (a1_4 : Int) (a1_5 : Int) : Option ((ByteArray × (Int × (Int × (Int × (Int × (Int × (List (Int) × (Int × Int))))))))) := evN CFG n (.call ⟨127, [.io [.v (.sl (.int .u8)) p0_0, .v (.int .i64) p0_1, .v (.int .u64) p0_2], .cv true [.v .str a1_0, .v (.int .i64) a1_1, .v (.int .i64) a1_2, .v (.int .i64) a1_3, .v (.int .i64) a1_4, .v (.int .i64) a1_5]]⟩)
noncomputable def spec_l08DrawList_r15 (n : Nat) (x4 : List ((ByteArray × (Int × (Int × (Int × (Int × Int))))))) (x6 : Int) (x7 : Int) (b0_0 : List (Int)) (b0_1 : Int) (b0_2 : Int) : Option ((List ((ByteArray × (Int × (Int × (Int × (Int × Int)))))) × (List (Int) × (Int × Int)))) := evN CFG n (.run 67 [1] (tdo CFG 67 15) (mkSt [(.tm 4, .tm 0 (.cv false [.own (.pair .str (.pair (.int .i64) (.pair (.int .i64) (.pair (.int .i64) (.pair (.int .i64) (.int .i64)))))) x4])), (.tm 6, .tm 0 (.cv false [.v (.int .i64) x6])), (.tm 7, .tm 0 (.cv false [.v (.int .i64) x7])), (.bx 0, .bx 0 [(0, .v (.sl (.int .u8)) b0_0), (0, .v (.int .i64) b0_1), (0, .v (.int .u64) b0_2)])]))
noncomputable def spec_l00Src_next (n : Nat) (p0_0 : List (Int)) (p0_1 : Int) (p0_2 : Int) : Option ((Int × (List (Int) × (Int × Int)))) := evN CFG n (.call ⟨152, [.io [.v (.sl (.int .u8)) p0_0, .v (.int .i64) p0_1, .v (.int .u64) p0_2]]⟩)
noncomputable def slices_Clone_int64_int64 (n : Nat) (a0 : List (Int)) : Option (List (Int)) := evN CFG n (.call ⟨94, [.cv false [.v (.sl (.int .i64)) a0]]⟩)
noncomputable def impl_programmeSearch_visit_r3 (n : Nat) (x1 : Int) (x2 : Int) (x29 : List ((ByteArray × (Int × (Int × (Int × (Int × Int))))))) (x30 : Int) (x31 : Int) (b0_0 : List ((ByteArray × (Int × (Int × (Int × (Int × Int))))))) (b0_1 : Int) (b0_2 : Int) (b0_3 : Int) (b0_4 : List (Int)) (b0_5 : List (Int)) (b0_6 : Int) : Option ((List ((ByteArray × (Int × (Int × (Int × (Int × Int)))))) × (Int × (Int × (Int × (List (Int) × (List (Int) × Int))))))) := evN CFG n (.run 125 [1, 0, 0] (tdo CFG 125 3) (mkSt [(.tm 0, .tm 0 (.cv false [.pb 0 0 0])), (.tm 1, .tm 0 (.cv false [.v (.int .i64) x1])), (.tm 2, .tm 0 (.cv false [.v (.int .i64) x2])), (.tm 29, .tm 0 (.cv false [.v (.sl (.pair .str (.pair (.int .i64) (.pair (.int .i64) (.pair (.int .i64) (.pair (.int .i64) (.int .i64))))))) x29])), (.tm 30, .tm 0 (.cv false [.v (.int .i64) x30])), (.tm 31, .tm 0 (.cv false [.v (.int .i64) x31])), (.bx 0, .bx 0 [(0, .v (.sl (.pair .str (.pair (.int .i64) (.pair (.int .i64) (.pair (.int .i64) (.pair (.int .i64) (.int .i64))))))) b0_0), (0, .v (.int .i64) b0_1), (0, .v (.int .i64) b0_2), (0, .v (.int .i64) b0_3), (0, .own (.int .i64) b0_4), (0, .own (.int .i64) b0_5), (0, .v (.int .i64) b0_6)])]))
noncomputable def impl_ValidItem (n : Nat) (a0_0 : ByteArray) (a0_1 : Int) (a0_2 : Int) (a0_3 : Int) (a0_4 : Int) (a0_5 : Int) : Option (Bool) := evN CFG n (.call ⟨128, [.cv true [.v .str a0_0, .v (.int .i64) a0_1, .v (.int .i64) a0_2, .v (.int .i64) a0_3, .v (.int .i64) a0_4, .v (.int .i64) a0_5]]⟩)
noncomputable def impl_indexValid_impl_Item (n : Nat) (a0 : List ((ByteArray × (Int × (Int × (Int × (Int × Int))))))) (a1 : Int) : Option (Bool) := evN CFG n (.call ⟨129, [.cv false [.v (.sl (.pair .str (.pair (.int .i64) (.pair (.int .i64) (.pair (.int .i64) (.pair (.int .i64) (.int .i64))))))) a0], .cv false [.v (.int .i64) a1]]⟩)
noncomputable def slices_Contains_int64_int64 (n : Nat) (a0 : List (Int)) (a1 : Int) : Option (Bool) := evN CFG n (.call ⟨130, [.cv false [.v (.sl (.int .i64)) a0], .cv false [.v (.int .i64) a1]]⟩)
noncomputable def impl_Item_fits (n : Nat) (a0_0 : ByteArray) (a0_1 : Int) (a0_2 : Int) (a0_3 : Int) (a0_4 : Int) (a0_5 : Int) (a1 : Int) (a2 : Int) : Option (Bool) := evN CFG n (.call ⟨131, [.cv true [.v .str a0_0, .v (.int .i64) a0_1, .v (.int .i64) a0_2, .v (.int .i64) a0_3, .v (.int .i64) a0_4, .v (.int .i64) a0_5], .cv false [.v (.int .i64) a1], .cv false [.v (.int .i64) a2]]⟩)
noncomputable def spec_l08One (n : Nat) (a0 : (ByteArray × (Int × (Int × (Int × (Int × Int)))))) : Option (Bool) := evN CFG n (.call ⟨132, [.cv false [.ps (.pair .str (.pair (.int .i64) (.pair (.int .i64) (.pair (.int .i64) (.pair (.int .i64) (.int .i64)))))) a0]]⟩)
noncomputable def spec_l00Has (n : Nat) (a0 : List (Int)) (a1 : Int) : Option (Bool) := evN CFG n (.call ⟨133, [.cv false [.v (.sl (.int .i64)) a0], .cv false [.v (.int .i64) a1]]⟩)
noncomputable def spec_l08Fits (n : Nat) (a0 : (ByteArray × (Int × (Int × (Int × (Int × Int)))))) (a1 : Int) (a2 : Int) : Option (Bool) := evN CFG n (.call ⟨134, [.cv false [.ps (.pair .str (.pair (.int .i64) (.pair (.int .i64) (.pair (.int .i64) (.pair (.int .i64) (.int .i64)))))) a0], .cv false [.v (.int .i64) a1], .cv false [.v (.int .i64) a2]]⟩)
noncomputable def spec_l00Src_next_r4 (n : Nat) (x3 : Int) (b0_0 : List (Int)) (b0_1 : Int) (b0_2 : Int) : Option ((Int × (List (Int) × (Int × Int)))) := evN CFG n (.run 152 [1] (tdo CFG 152 4) (mkSt [(.tm 0, .tm 0 (.cv false [.pb 0 0 0])), (.tm 3, .tm 0 (.cv false [.v (.int .i64) x3])), (.bx 0, .bx 0 [(0, .v (.sl (.int .u8)) b0_0), (0, .v (.int .i64) b0_1), (0, .v (.int .u64) b0_2)])]))
noncomputable def impl_IsName (n : Nat) (a0 : ByteArray) : Option (Bool) := evN CFG n (.call ⟨144, [.cv false [.v .str a0]]⟩)
noncomputable def slices_Index_int64_int64 (n : Nat) (a0 : List (Int)) (a1 : Int) : Option (Int) := evN CFG n (.call ⟨166, [.cv false [.v (.sl (.int .i64)) a0], .cv false [.v (.int .i64) a1]]⟩)
noncomputable def impl_Item_fits_r3 (n : Nat) (x1 : Int) (b3_0 : ByteArray) (b3_1 : Int) (b3_2 : Int) (b3_3 : Int) (b3_4 : Int) (b3_5 : Int) : Option (Bool) := evN CFG n (.run 131 [0, 0, 0] (tdo CFG 131 3) (mkSt [(.tm 1, .tm 0 (.cv false [.v (.int .i64) x1])), (.tm 3, .tm 0 (.cv false [.pb 3 0 0])), (.bx 3, .bx 0 [(0, .v .str b3_0), (0, .v (.int .i64) b3_1), (0, .v (.int .i64) b3_2), (0, .v (.int .i64) b3_3), (0, .v (.int .i64) b3_4), (0, .v (.int .i64) b3_5)])]))
noncomputable def spec_l01Name (n : Nat) (a0 : ByteArray) : Option (Bool) := evN CFG n (.call ⟨115, [.cv false [.v .str a0]]⟩)
noncomputable def spec_l00Has_r2 (n : Nat) (x0 : List (Int)) (x1 : Int) (x5 : Int) : Option (Bool) := evN CFG n (.run 133 [0, 0] (tdo CFG 133 2) (mkSt [(.tm 0, .tm 0 (.cv false [.v (.sl (.int .i64)) x0])), (.tm 1, .tm 0 (.cv false [.v (.int .i64) x1])), (.tm 5, .tm 0 (.cv false [.v (.int .i64) x5]))]))
noncomputable def spec_l08Fits_r4 (n : Nat) (x0 : (ByteArray × (Int × (Int × (Int × (Int × Int)))))) (x7 : Int) : Option (Bool) := evN CFG n (.run 134 [0, 0, 0] (tdo CFG 134 4) (mkSt [(.tm 0, .tm 0 (.cv false [.ps (.pair .str (.pair (.int .i64) (.pair (.int .i64) (.pair (.int .i64) (.pair (.int .i64) (.int .i64)))))) x0])), (.tm 7, .tm 0 (.cv false [.v (.int .i64) x7]))]))
noncomputable def impl_onlyNameBytes (n : Nat) (a0 : ByteArray) : Option (Bool) := evN CFG n (.call ⟨169, [.cv false [.v .str a0]]⟩)
noncomputable def slices_Index_int64_int64_r2 (n : Nat) (x0 : List (Int)) (x1 : Int) (x7 : Int) (x8 : Int) : Option (Int) := evN CFG n (.run 166 [0, 0] (tdo CFG 166 2) (mkSt [(.tm 0, .tm 0 (.cv false [.v (.sl (.int .i64)) x0])), (.tm 1, .tm 0 (.cv false [.v (.int .i64) x1])), (.tm 7, .tm 0 (.cv false [.v (.int .i64) x7])), (.tm 8, .tm 0 (.cv false [.v (.int .i64) x8]))]))
noncomputable def spec_l01Small (n : Nat) (a0 : Int) : Option (Bool) := evN CFG n (.call ⟨158, [.cv false [.v (.int .u8) a0]]⟩)
noncomputable def spec_l01Name_r4 (n : Nat) (x0 : ByteArray) (x3 : Int) : Option (Bool) := evN CFG n (.run 115 [0] (tdo CFG 115 4) (mkSt [(.tm 0, .tm 0 (.cv false [.v .str x0])), (.tm 3, .tm 0 (.cv false [.v (.int .i64) x3]))]))
noncomputable def impl_onlyNameBytes_r2 (n : Nat) (x0 : ByteArray) (x6 : Int) (x7 : Int) : Option (Bool) := evN CFG n (.run 169 [0] (tdo CFG 169 2) (mkSt [(.tm 0, .tm 0 (.cv false [.v .str x0])), (.tm 6, .tm 0 (.cv false [.v (.int .i64) x6])), (.tm 7, .tm 0 (.cv false [.v (.int .i64) x7]))]))
noncomputable def spec_l01Digit (n : Nat) (a0 : Int) : Option (Bool) := evN CFG n (.call ⟨159, [.cv false [.v (.int .u8) a0]]⟩)
theorem laws_FnProgrammes_up {a0 : List (Int)} {n m : Nat} {x : Bool} (h : laws_FnProgrammes n a0 = some x) (hm : n ≤ m) : laws_FnProgrammes m a0 = some x := evN_mono (C := CFG) (t := .call ⟨5, [.cv false [.v (.sl (.int .u8)) a0]]⟩) (x := x) h hm
theorem laws_b10Long_up {a0 : List (Int)} {n m : Nat} {x : Bool} (h : laws_b10Long n a0 = some x) (hm : n ≤ m) : laws_b10Long m a0 = some x := evN_mono (C := CFG) (t := .call ⟨27, [.cv false [.v (.sl (.int .u8)) a0]]⟩) (x := x) h hm
theorem spec_DrawBestProgramme_up {a0 : List (Int)} {n m : Nat} {x : (List ((ByteArray × (Int × (Int × (Int × (Int × Int)))))) × (Int × (Int × (Int × Int))))} (h : spec_DrawBestProgramme n a0 = some x) (hm : n ≤ m) : spec_DrawBestProgramme m a0 = some x := evN_mono (C := CFG) (t := .call ⟨28, [.cv false [.v (.sl (.int .u8)) a0]]⟩) (x := x) h hm
theorem impl_BestProgramme_up {a0 : List ((ByteArray × (Int × (Int × (Int × (Int × Int))))))} {a1 : Int} {a2 : Int} {a3 : Int} {a4 : Int} {n m : Nat} {x : (List (Int) × (Int × Int))} (h : impl_BestProgramme n a0 a1 a2 a3 a4 = some x) (hm : n ≤ m) : impl_BestProgramme m a0 a1 a2 a3 a4 = some x := evN_mono (C := CFG) (t := .call ⟨21, [.cv false [.v (.sl (.pair .str (.pair (.int .i64) (.pair (.int .i64) (.pair (.int .i64) (.pair (.int .i64) (.int .i64))))))) a0], .cv false [.v (.int .i64) a1], .cv false [.v (.int .i64) a2], .cv false [.v (.int .i64) a3], .cv false [.v (.int .i64) a4]]⟩) (x := x) h hm
theorem impl_CountProgrammes_up {a0 : List ((ByteArray × (Int × (Int × (Int × (Int × Int))))))} {a1 : Int} {a2 : Int} {a3 : Int} {a4 : Int} {n m : Nat} {x : (Int × Int)} (h : impl_CountProgrammes n a0 a1 a2 a3 a4 = some x) (hm : n ≤ m) : impl_CountProgrammes m a0 a1 a2 a3 a4 = some x := evN_mono (C := CFG) (t := .call ⟨29, [.cv false [.v (.sl (.pair .str (.pair (.int .i64) (.pair (.int .i64) (.pair (.int .i64) (.pair (.int .i64) (.int .i64))))))) a0], .cv false [.v (.int .i64) a1], .cv false [.v (.int .i64) a2], .cv false [.v (.int .i64) a3], .cv false [.v (.int .i64) a4]]⟩) (x := x) h hm
theorem impl_WorthOf_up {a0 : List ((ByteArray × (Int × (Int × (Int × (Int × Int))))))} {a1 : List (Int)} {n m : Nat} {x : (Int × Int)} (h : impl_WorthOf n a0 a1 = some x) (hm : n ≤ m) : impl_WorthOf m a0 a1 = some x := evN_mono (C := CFG) (t := .call ⟨30, [.cv false [.v (.sl (.pair .str (.pair (.int .i64) (.pair (.int .i64) (.pair (.int .i64) (.pair (.int .i64) (.int .i64))))))) a0], .cv false [.v (.sl (.int .i64)) a1]]⟩) (x := x) h hm
theorem impl_EndOf_up {a0 : List ((ByteArray × (Int × (Int × (Int × (Int × Int))))))} {a1 : List (Int)} {a2 : Int} {a3 : Int} {n m : Nat} {x : (Int × Int)} (h : impl_EndOf n a0 a1 a2 a3 = some x) (hm : n ≤ m) : impl_EndOf m a0 a1 a2 a3 = some x := evN_mono (C := CFG) (t := .call ⟨31, [.cv false [.v (.sl (.pair .str (.pair (.int .i64) (.pair (.int .i64) (.pair (.int .i64) (.pair (.int .i64) (.int .i64))))))) a0], .cv false [.v (.sl (.int .i64)) a1], .cv false [.v (.int .i64) a2], .cv false [.v (.int .i64) a3]]⟩) (x := x) h hm
theorem spec_IsProgramme_up {a0 : List ((ByteArray × (Int × (Int × (Int × (Int × Int))))))} {a1 : List (Int)} {a2 : Int} {a3 : Int} {a4 : Int} {n m : Nat} {x : Bool} (h : spec_IsProgramme n a0 a1 a2 a3 a4 = some x) (hm : n ≤ m) : spec_IsProgramme m a0 a1 a2 a3 a4 = some x := evN_mono (C := CFG) (t := .call ⟨32, [.cv false [.v (.sl (.pair .str (.pair (.int .i64) (.pair (.int .i64) (.pair (.int .i64) (.pair (.int .i64) (.int .i64))))))) a0], .cv false [.v (.sl (.int .i64)) a1], .cv false [.v (.int .i64) a2], .cv false [.v (.int .i64) a3], .cv false [.v (.int .i64) a4]]⟩) (x := x) h hm
theorem spec_l00From_up {a0 : List (Int)} {n m : Nat} {x : (List (Int) × (Int × Int))} (h : spec_l00From n a0 = some x) (hm : n ≤ m) : spec_l00From m a0 = some x := evN_mono (C := CFG) (t := .call ⟨48, [.cv false [.v (.sl (.int .u8)) a0]]⟩) (x := x) h hm
theorem spec_l08DrawList_up {p0_0 : List (Int)} {p0_1 : Int} {p0_2 : Int} {n m : Nat} {x : (List ((ByteArray × (Int × (Int × (Int × (Int × Int)))))) × (List (Int) × (Int × Int)))} (h : spec_l08DrawList n p0_0 p0_1 p0_2 = some x) (hm : n ≤ m) : spec_l08DrawList m p0_0 p0_1 p0_2 = some x := evN_mono (C := CFG) (t := .call ⟨67, [.io [.v (.sl (.int .u8)) p0_0, .v (.int .i64) p0_1, .v (.int .u64) p0_2]]⟩) (x := x) h hm
theorem spec_l08DrawMinute_up {p0_0 : List (Int)} {p0_1 : Int} {p0_2 : Int} {n m : Nat} {x : (Int × (List (Int) × (Int × Int)))} (h : spec_l08DrawMinute n p0_0 p0_1 p0_2 = some x) (hm : n ≤ m) : spec_l08DrawMinute m p0_0 p0_1 p0_2 = some x := evN_mono (C := CFG) (t := .call ⟨68, [.io [.v (.sl (.int .u8)) p0_0, .v (.int .i64) p0_1, .v (.int .u64) p0_2]]⟩) (x := x) h hm
theorem spec_l08DrawUntil_up {p0_0 : List (Int)} {p0_1 : Int} {p0_2 : Int} {a1 : Int} {n m : Nat} {x : (Int × (List (Int) × (Int × Int)))} (h : spec_l08DrawUntil n p0_0 p0_1 p0_2 a1 = some x) (hm : n ≤ m) : spec_l08DrawUntil m p0_0 p0_1 p0_2 a1 = some x := evN_mono (C := CFG) (t := .call ⟨69, [.io [.v (.sl (.int .u8)) p0_0, .v (.int .i64) p0_1, .v (.int .u64) p0_2], .cv false [.v (.int .i64) a1]]⟩) (x := x) h hm
theorem spec_l08DrawSeason_up {p0_0 : List (Int)} {p0_1 : Int} {p0_2 : Int} {n m : Nat} {x : (Int × (List (Int) × (Int × Int)))} (h : spec_l08DrawSeason n p0_0 p0_1 p0_2 = some x) (hm : n ≤ m) : spec_l08DrawSeason m p0_0 p0_1 p0_2 = some x := evN_mono (C := CFG) (t := .call ⟨70, [.io [.v (.sl (.int .u8)) p0_0, .v (.int .i64) p0_1, .v (.int .u64) p0_2]]⟩) (x := x) h hm
theorem spec_l08DrawBudget_up {p0_0 : List (Int)} {p0_1 : Int} {p0_2 : Int} {n m : Nat} {x : (Int × (List (Int) × (Int × Int)))} (h : spec_l08DrawBudget n p0_0 p0_1 p0_2 = some x) (hm : n ≤ m) : spec_l08DrawBudget m p0_0 p0_1 p0_2 = some x := evN_mono (C := CFG) (t := .call ⟨71, [.io [.v (.sl (.int .u8)) p0_0, .v (.int .i64) p0_1, .v (.int .u64) p0_2]]⟩) (x := x) h hm
theorem impl_programmes_up {a0 : List ((ByteArray × (Int × (Int × (Int × (Int × Int))))))} {a1 : Int} {a2 : Int} {a3 : Int} {a4 : Int} {n m : Nat} {x : (List ((ByteArray × (Int × (Int × (Int × (Int × Int)))))) × (Int × (Int × (Int × (List (Int) × (List (Int) × (Int × Int)))))))} (h : impl_programmes n a0 a1 a2 a3 a4 = some x) (hm : n ≤ m) : impl_programmes m a0 a1 a2 a3 a4 = some x := evN_mono (C := CFG) (t := .call ⟨64, [.cv false [.v (.sl (.pair .str (.pair (.int .i64) (.pair (.int .i64) (.pair (.int .i64) (.pair (.int .i64) (.int .i64))))))) a0], .cv false [.v (.int .i64) a1], .cv false [.v (.int .i64) a2], .cv false [.v (.int .i64) a3], .cv false [.v (.int .i64) a4]]⟩) (x := x) h hm
theorem impl_ValidItems_up {a0 : List ((ByteArray × (Int × (Int × (Int × (Int × Int))))))} {n m : Nat} {x : Bool} (h : impl_ValidItems n a0 = some x) (hm : n ≤ m) : impl_ValidItems m a0 = some x := evN_mono (C := CFG) (t := .call ⟨72, [.cv false [.v (.sl (.pair .str (.pair (.int .i64) (.pair (.int .i64) (.pair (.int .i64) (.pair (.int .i64) (.int .i64))))))) a0]]⟩) (x := x) h hm
theorem impl_orderOk_impl_Item_up {a0 : List ((ByteArray × (Int × (Int × (Int × (Int × Int))))))} {a1 : List (Int)} {n m : Nat} {x : Bool} (h : impl_orderOk_impl_Item n a0 a1 = some x) (hm : n ≤ m) : impl_orderOk_impl_Item m a0 a1 = some x := evN_mono (C := CFG) (t := .call ⟨73, [.cv false [.v (.sl (.pair .str (.pair (.int .i64) (.pair (.int .i64) (.pair (.int .i64) (.pair (.int .i64) (.int .i64))))))) a0], .cv false [.v (.sl (.int .i64)) a1]]⟩) (x := x) h hm
theorem impl_minuteOk_up {a0 : Int} {n m : Nat} {x : Bool} (h : impl_minuteOk n a0 = some x) (hm : n ≤ m) : impl_minuteOk m a0 = some x := evN_mono (C := CFG) (t := .call ⟨74, [.cv false [.v (.int .i64) a0]]⟩) (x := x) h hm
theorem impl_seasonOk_up {a0 : Int} {n m : Nat} {x : Bool} (h : impl_seasonOk n a0 = some x) (hm : n ≤ m) : impl_seasonOk m a0 = some x := evN_mono (C := CFG) (t := .call ⟨75, [.cv false [.v (.int .i64) a0]]⟩) (x := x) h hm
theorem impl_endOf_up {a0 : List ((ByteArray × (Int × (Int × (Int × (Int × Int))))))} {a1 : List (Int)} {a2 : Int} {a3 : Int} {n m : Nat} {x : (Int × Bool)} (h : impl_endOf n a0 a1 a2 a3 = some x) (hm : n ≤ m) : impl_endOf m a0 a1 a2 a3 = some x := evN_mono (C := CFG) (t := .call ⟨76, [.cv false [.v (.sl (.pair .str (.pair (.int .i64) (.pair (.int .i64) (.pair (.int .i64) (.pair (.int .i64) (.int .i64))))))) a0], .cv false [.v (.sl (.int .i64)) a1], .cv false [.v (.int .i64) a2], .cv false [.v (.int .i64) a3]]⟩) (x := x) h hm
theorem spec_l08Ok_up {a0 : List ((ByteArray × (Int × (Int × (Int × (Int × Int))))))} {n m : Nat} {x : Bool} (h : spec_l08Ok n a0 = some x) (hm : n ≤ m) : spec_l08Ok m a0 = some x := evN_mono (C := CFG) (t := .call ⟨77, [.cv false [.v (.sl (.pair .str (.pair (.int .i64) (.pair (.int .i64) (.pair (.int .i64) (.pair (.int .i64) (.int .i64))))))) a0]]⟩) (x := x) h hm
theorem spec_l08Minute_up {a0 : Int} {n m : Nat} {x : Bool} (h : spec_l08Minute n a0 = some x) (hm : n ≤ m) : spec_l08Minute m a0 = some x := evN_mono (C := CFG) (t := .call ⟨78, [.cv false [.v (.int .i64) a0]]⟩) (x := x) h hm
theorem spec_l08Season_up {a0 : Int} {n m : Nat} {x : Bool} (h : spec_l08Season n a0 = some x) (hm : n ≤ m) : spec_l08Season m a0 = some x := evN_mono (C := CFG) (t := .call ⟨79, [.cv false [.v (.int .i64) a0]]⟩) (x := x) h hm
theorem spec_l08Until_up {a0 : Int} {a1 : Int} {n m : Nat} {x : Bool} (h : spec_l08Until n a0 a1 = some x) (hm : n ≤ m) : spec_l08Until m a0 a1 = some x := evN_mono (C := CFG) (t := .call ⟨80, [.cv false [.v (.int .i64) a0], .cv false [.v (.int .i64) a1]]⟩) (x := x) h hm
theorem spec_l08Order_up {a0 : List ((ByteArray × (Int × (Int × (Int × (Int × Int))))))} {a1 : List (Int)} {n m : Nat} {x : Bool} (h : spec_l08Order n a0 a1 = some x) (hm : n ≤ m) : spec_l08Order m a0 a1 = some x := evN_mono (C := CFG) (t := .call ⟨81, [.cv false [.v (.sl (.pair .str (.pair (.int .i64) (.pair (.int .i64) (.pair (.int .i64) (.pair (.int .i64) (.int .i64))))))) a0], .cv false [.v (.sl (.int .i64)) a1]]⟩) (x := x) h hm
theorem spec_l08End_up {a0 : List ((ByteArray × (Int × (Int × (Int × (Int × Int))))))} {a1 : List (Int)} {a2 : Int} {a3 : Int} {n m : Nat} {x : (Int × Bool)} (h : spec_l08End n a0 a1 a2 a3 = some x) (hm : n ≤ m) : spec_l08End m a0 a1 a2 a3 = some x := evN_mono (C := CFG) (t := .call ⟨82, [.cv false [.v (.sl (.pair .str (.pair (.int .i64) (.pair (.int .i64) (.pair (.int .i64) (.pair (.int .i64) (.int .i64))))))) a0], .cv false [.v (.sl (.int .i64)) a1], .cv false [.v (.int .i64) a2], .cv false [.v (.int .i64) a3]]⟩) (x := x) h hm
theorem spec_l00Src_one_up {p0_0 : List (Int)} {p0_1 : Int} {p0_2 : Int} {a1 : Int} {n m : Nat} {x : (Bool × (List (Int) × (Int × Int)))} (h : spec_l00Src_one n p0_0 p0_1 p0_2 a1 = some x) (hm : n ≤ m) : spec_l00Src_one m p0_0 p0_1 p0_2 a1 = some x := evN_mono (C := CFG) (t := .call ⟨103, [.io [.v (.sl (.int .u8)) p0_0, .v (.int .i64) p0_1, .v (.int .u64) p0_2], .cv false [.v (.int .i64) a1]]⟩) (x := x) h hm
theorem spec_l00Src_among_up {p0_0 : List (Int)} {p0_1 : Int} {p0_2 : Int} {a1 : List (Int)} {n m : Nat} {x : (Int × (List (Int) × (Int × Int)))} (h : spec_l00Src_among n p0_0 p0_1 p0_2 a1 = some x) (hm : n ≤ m) : spec_l00Src_among m p0_0 p0_1 p0_2 a1 = some x := evN_mono (C := CFG) (t := .call ⟨85, [.io [.v (.sl (.int .u8)) p0_0, .v (.int .i64) p0_1, .v (.int .u64) p0_2], .cv false [.v (.sl (.int .i64)) a1]]⟩) (x := x) h hm
theorem spec_l00Src_pick_up {p0_0 : List (Int)} {p0_1 : Int} {p0_2 : Int} {a1 : Int} {n m : Nat} {x : (Int × (List (Int) × (Int × Int)))} (h : spec_l00Src_pick n p0_0 p0_1 p0_2 a1 = some x) (hm : n ≤ m) : spec_l00Src_pick m p0_0 p0_1 p0_2 a1 = some x := evN_mono (C := CFG) (t := .call ⟨109, [.io [.v (.sl (.int .u8)) p0_0, .v (.int .i64) p0_1, .v (.int .u64) p0_2], .cv false [.v (.int .i64) a1]]⟩) (x := x) h hm
theorem impl_within_up {a0 : Int} {a1 : Int} {a2 : Int} {n m : Nat} {x : Bool} (h : impl_within n a0 a1 a2 = some x) (hm : n ≤ m) : impl_within m a0 a1 a2 = some x := evN_mono (C := CFG) (t := .call ⟨92, [.cv false [.v (.int .i64) a0], .cv false [.v (.int .i64) a1], .cv false [.v (.int .i64) a2]]⟩) (x := x) h hm
theorem impl_budgetValid_up {a0 : Int} {n m : Nat} {x : Bool} (h : impl_budgetValid n a0 = some x) (hm : n ≤ m) : impl_budgetValid m a0 = some x := evN_mono (C := CFG) (t := .call ⟨87, [.cv false [.v (.int .i64) a0]]⟩) (x := x) h hm
theorem impl_programmeSearch_visit_up {p0_0 : List ((ByteArray × (Int × (Int × (Int × (Int × Int))))))} {p0_1 : Int} {p0_2 : Int} {p0_3 : Int} {p0_4 : List (Int)} {p0_5 : List (Int)} {p0_6 : Int} {a1 : Int} {a2 : Int} {n m : Nat} {x : (List ((ByteArray × (Int × (Int × (Int × (Int × Int)))))) × (Int × (Int × (Int × (List (Int) × (List (Int) × Int))))))} (h : impl_programmeSearch_visit n p0_0 p0_1 p0_2 p0_3 p0_4 p0_5 p0_6 a1 a2 = some x) (hm : n ≤ m) : impl_programmeSearch_visit m p0_0 p0_1 p0_2 p0_3 p0_4 p0_5 p0_6 a1 a2 = some x := evN_mono (C := CFG) (t := .call ⟨125, [.io [.v (.sl (.pair .str (.pair (.int .i64) (.pair (.int .i64) (.pair (.int .i64) (.pair (.int .i64) (.int .i64))))))) p0_0, .v (.int .i64) p0_1, .v (.int .i64) p0_2, .v (.int .i64) p0_3, .own (.int .i64) p0_4, .own (.int .i64) p0_5, .v (.int .i64) p0_6], .cv false [.v (.int .i64) a1], .cv false [.v (.int .i64) a2]]⟩) (x := x) h hm
theorem spec_l00In_up {a0 : Int} {a1 : Int} {a2 : Int} {n m : Nat} {x : Bool} (h : spec_l00In n a0 a1 a2 = some x) (hm : n ≤ m) : spec_l00In m a0 a1 a2 = some x := evN_mono (C := CFG) (t := .call ⟨118, [.cv false [.v (.int .i64) a0], .cv false [.v (.int .i64) a1], .cv false [.v (.int .i64) a2]]⟩) (x := x) h hm
theorem spec_l08DrawOne_up {p0_0 : List (Int)} {p0_1 : Int} {p0_2 : Int} {a1 : ByteArray} {n m : Nat} {x : (ByteArray × (Int × (Int × (Int × (Int × (Int × (List (Int) × (Int × Int))))))))} (h : spec_l08DrawOne n p0_0 p0_1 p0_2 a1 = some x) (hm : n ≤ m) : spec_l08DrawOne m p0_0 p0_1 p0_2 a1 = some x := evN_mono (C := CFG) (t := .call ⟨126, [.io [.v (.sl (.int .u8)) p0_0, .v (.int .i64) p0_1, .v (.int .u64) p0_2], .cv false [.v .str a1]]⟩) (x := x) h hm
theorem spec_l08Bend_up {p0_0 : List (Int)} {p0_1 : Int} {p0_2 : Int} {a1_0 : ByteArray} {a1_1 : Int} {a1_2 : Int} {a1_3 : Int} {a1_4 : Int} {a1_5 : Int} {n m : Nat} {x : (ByteArray × (Int × (Int × (Int × (Int × (Int × (List (Int) × (Int × Int))))))))} (h : spec_l08Bend n p0_0 p0_1 p0_2 a1_0 a1_1 a1_2 a1_3 a1_4 a1_5 = some x) (hm : n ≤ m) : spec_l08Bend m p0_0 p0_1 p0_2 a1_0 a1_1 a1_2 a1_3 a1_4 a1_5 = some x := evN_mono (C := CFG) (t := .call ⟨127, [.io [.v (.sl (.int .u8)) p0_0, .v (.int .i64) p0_1, .v (.int .u64) p0_2], .cv true [.v .str a1_0, .v (.int .i64) a1_1, .v (.int .i64) a1_2, .v (.int .i64) a1_3, .v (.int .i64) a1_4, .v (.int .i64) a1_5]]⟩) (x := x) h hm
theorem spec_l00Src_next_up {p0_0 : List (Int)} {p0_1 : Int} {p0_2 : Int} {n m : Nat} {x : (Int × (List (Int) × (Int × Int)))} (h : spec_l00Src_next n p0_0 p0_1 p0_2 = some x) (hm : n ≤ m) : spec_l00Src_next m p0_0 p0_1 p0_2 = some x := evN_mono (C := CFG) (t := .call ⟨152, [.io [.v (.sl (.int .u8)) p0_0, .v (.int .i64) p0_1, .v (.int .u64) p0_2]]⟩) (x := x) h hm
theorem slices_Clone_int64_int64_up {a0 : List (Int)} {n m : Nat} {x : List (Int)} (h : slices_Clone_int64_int64 n a0 = some x) (hm : n ≤ m) : slices_Clone_int64_int64 m a0 = some x := evN_mono (C := CFG) (t := .call ⟨94, [.cv false [.v (.sl (.int .i64)) a0]]⟩) (x := x) h hm
theorem impl_ValidItem_up {a0_0 : ByteArray} {a0_1 : Int} {a0_2 : Int} {a0_3 : Int} {a0_4 : Int} {a0_5 : Int} {n m : Nat} {x : Bool} (h : impl_ValidItem n a0_0 a0_1 a0_2 a0_3 a0_4 a0_5 = some x) (hm : n ≤ m) : impl_ValidItem m a0_0 a0_1 a0_2 a0_3 a0_4 a0_5 = some x := evN_mono (C := CFG) (t := .call ⟨128, [.cv true [.v .str a0_0, .v (.int .i64) a0_1, .v (.int .i64) a0_2, .v (.int .i64) a0_3, .v (.int .i64) a0_4, .v (.int .i64) a0_5]]⟩) (x := x) h hm
theorem impl_indexValid_impl_Item_up {a0 : List ((ByteArray × (Int × (Int × (Int × (Int × Int))))))} {a1 : Int} {n m : Nat} {x : Bool} (h : impl_indexValid_impl_Item n a0 a1 = some x) (hm : n ≤ m) : impl_indexValid_impl_Item m a0 a1 = some x := evN_mono (C := CFG) (t := .call ⟨129, [.cv false [.v (.sl (.pair .str (.pair (.int .i64) (.pair (.int .i64) (.pair (.int .i64) (.pair (.int .i64) (.int .i64))))))) a0], .cv false [.v (.int .i64) a1]]⟩) (x := x) h hm
theorem slices_Contains_int64_int64_up {a0 : List (Int)} {a1 : Int} {n m : Nat} {x : Bool} (h : slices_Contains_int64_int64 n a0 a1 = some x) (hm : n ≤ m) : slices_Contains_int64_int64 m a0 a1 = some x := evN_mono (C := CFG) (t := .call ⟨130, [.cv false [.v (.sl (.int .i64)) a0], .cv false [.v (.int .i64) a1]]⟩) (x := x) h hm
theorem impl_Item_fits_up {a0_0 : ByteArray} {a0_1 : Int} {a0_2 : Int} {a0_3 : Int} {a0_4 : Int} {a0_5 : Int} {a1 : Int} {a2 : Int} {n m : Nat} {x : Bool} (h : impl_Item_fits n a0_0 a0_1 a0_2 a0_3 a0_4 a0_5 a1 a2 = some x) (hm : n ≤ m) : impl_Item_fits m a0_0 a0_1 a0_2 a0_3 a0_4 a0_5 a1 a2 = some x := evN_mono (C := CFG) (t := .call ⟨131, [.cv true [.v .str a0_0, .v (.int .i64) a0_1, .v (.int .i64) a0_2, .v (.int .i64) a0_3, .v (.int .i64) a0_4, .v (.int .i64) a0_5], .cv false [.v (.int .i64) a1], .cv false [.v (.int .i64) a2]]⟩) (x := x) h hm
theorem spec_l08One_up {a0 : (ByteArray × (Int × (Int × (Int × (Int × Int)))))} {n m : Nat} {x : Bool} (h : spec_l08One n a0 = some x) (hm : n ≤ m) : spec_l08One m a0 = some x := evN_mono (C := CFG) (t := .call ⟨132, [.cv false [.ps (.pair .str (.pair (.int .i64) (.pair (.int .i64) (.pair (.int .i64) (.pair (.int .i64) (.int .i64)))))) a0]]⟩) (x := x) h hm
theorem spec_l00Has_up {a0 : List (Int)} {a1 : Int} {n m : Nat} {x : Bool} (h : spec_l00Has n a0 a1 = some x) (hm : n ≤ m) : spec_l00Has m a0 a1 = some x := evN_mono (C := CFG) (t := .call ⟨133, [.cv false [.v (.sl (.int .i64)) a0], .cv false [.v (.int .i64) a1]]⟩) (x := x) h hm
theorem spec_l08Fits_up {a0 : (ByteArray × (Int × (Int × (Int × (Int × Int)))))} {a1 : Int} {a2 : Int} {n m : Nat} {x : Bool} (h : spec_l08Fits n a0 a1 a2 = some x) (hm : n ≤ m) : spec_l08Fits m a0 a1 a2 = some x := evN_mono (C := CFG) (t := .call ⟨134, [.cv false [.ps (.pair .str (.pair (.int .i64) (.pair (.int .i64) (.pair (.int .i64) (.pair (.int .i64) (.int .i64)))))) a0], .cv false [.v (.int .i64) a1], .cv false [.v (.int .i64) a2]]⟩) (x := x) h hm
theorem impl_IsName_up {a0 : ByteArray} {n m : Nat} {x : Bool} (h : impl_IsName n a0 = some x) (hm : n ≤ m) : impl_IsName m a0 = some x := evN_mono (C := CFG) (t := .call ⟨144, [.cv false [.v .str a0]]⟩) (x := x) h hm
theorem slices_Index_int64_int64_up {a0 : List (Int)} {a1 : Int} {n m : Nat} {x : Int} (h : slices_Index_int64_int64 n a0 a1 = some x) (hm : n ≤ m) : slices_Index_int64_int64 m a0 a1 = some x := evN_mono (C := CFG) (t := .call ⟨166, [.cv false [.v (.sl (.int .i64)) a0], .cv false [.v (.int .i64) a1]]⟩) (x := x) h hm
theorem spec_l01Name_up {a0 : ByteArray} {n m : Nat} {x : Bool} (h : spec_l01Name n a0 = some x) (hm : n ≤ m) : spec_l01Name m a0 = some x := evN_mono (C := CFG) (t := .call ⟨115, [.cv false [.v .str a0]]⟩) (x := x) h hm
theorem impl_onlyNameBytes_up {a0 : ByteArray} {n m : Nat} {x : Bool} (h : impl_onlyNameBytes n a0 = some x) (hm : n ≤ m) : impl_onlyNameBytes m a0 = some x := evN_mono (C := CFG) (t := .call ⟨169, [.cv false [.v .str a0]]⟩) (x := x) h hm
theorem spec_l01Small_up {a0 : Int} {n m : Nat} {x : Bool} (h : spec_l01Small n a0 = some x) (hm : n ≤ m) : spec_l01Small m a0 = some x := evN_mono (C := CFG) (t := .call ⟨158, [.cv false [.v (.int .u8) a0]]⟩) (x := x) h hm
theorem spec_l01Digit_up {a0 : Int} {n m : Nat} {x : Bool} (h : spec_l01Digit n a0 = some x) (hm : n ≤ m) : spec_l01Digit m a0 = some x := evN_mono (C := CFG) (t := .call ⟨159, [.cv false [.v (.int .u8) a0]]⟩) (x := x) h hm
theorem laws_FnProgrammes_eq (n : Nat) (a0 : List (Int)) : laws_FnProgrammes (n + 1) a0 =
  (laws_b10Long n a0).bind fun r1 => 
   if r1 = true then (some true)
    else ((spec_DrawBestProgramme n a0).bind fun r3 => 
     (impl_BestProgramme n r3.1 r3.2.1 r3.2.2.1 r3.2.2.2.1 r3.2.2.2.2).bind fun r4 => 
      (impl_CountProgrammes n r3.1 r3.2.1 r3.2.2.1 r3.2.2.2.1 r3.2.2.2.2).bind fun r5 => 
       if (vNot (vEq r4.2.2 r5.2)) = true then (some false)
        else (if (vNot (vEq r4.2.2 (0 : Int))) = true then (if (vEq (vLen r4.1) (0 : Int)) = true then (some (vEq r5.1 (0 : Int)))
          else (some false))
         else ((impl_WorthOf n r3.1 r4.1).bind fun r8 => 
          (impl_EndOf n r3.1 r4.1 r3.2.1 r3.2.2.2.1).bind fun r9 => 
           (spec_IsProgramme n r3.1 r4.1 r3.2.1 r3.2.2.1 r3.2.2.2.1).bind fun r10 => 
            if (vNot r10) = true then (some false)
             else (if (vNot (vEq r8.2 (0 : Int))) = true then (some false)
              else (if (vNot (vEq r8.1 r4.2.1)) = true then (some false)
               else (if (vNot (vEq r9.2 (0 : Int))) = true then (some false)
                else (if (vLt r3.2.2.1 r9.1) = true then (some false)
                 else (if (vLt r9.1 r3.2.1) = true then (some false)
                  else (if (vLt r5.1 (wAdd .i64 (vLen r4.1) (1 : Int))) = true then (some false)
                   else (laws_FnProgrammes_r16 n r3.1 r3.2.1 r3.2.2.1 r3.2.2.2.1 r4.2.1 r5.1 (1 : Int) (0 : Int))))))))))) := by kernel_rfl
theorem laws_b10Long_eq (n : Nat) (a0 : List (Int)) : laws_b10Long (n + 1) a0 =
  some (vLt (1048576 : Int) (vLen a0)) := by kernel_rfl
theorem spec_DrawBestProgramme_eq (n : Nat) (a0 : List (Int)) : spec_DrawBestProgramme (n + 1) a0 =
  (spec_l00From n a0).bind fun r1 => 
   (spec_l08DrawList n r1.1 r1.2.1 r1.2.2).bind fun r2 => 
    (spec_l08DrawMinute n r2.2.1 r2.2.2.1 r2.2.2.2).bind fun r3 => 
     (spec_l08DrawUntil n r3.2.1 r3.2.2.1 r3.2.2.2 r3.1).bind fun r4 => 
      (spec_l08DrawSeason n r4.2.1 r4.2.2.1 r4.2.2.2).bind fun r5 => 
       (spec_l08DrawBudget n r5.2.1 r5.2.2.1 r5.2.2.2).bind fun r6 => 
        some (r2.1, (r3.1, (r4.1, (r5.1, r6.1)))) := by kernel_rfl
theorem impl_BestProgramme_eq (n : Nat) (a0 : List ((ByteArray × (Int × (Int × (Int × (Int × Int))))))) (a1 : Int) (a2 : Int) (a3 : Int) (a4 : Int) : impl_BestProgramme (n + 1) a0 a1 a2 a3 a4 =
  (impl_programmes n a0 a1 a2 a3 a4).bind fun r1 => 
   if (vNot (vEq r1.2.2.2.2.2.2.2 (0 : Int))) = true then (some (([] : List (Int)), ((0 : Int), r1.2.2.2.2.2.2.2)))
    else (some (r1.2.2.2.2.2.1, (r1.2.2.2.2.2.2.1, (0 : Int)))) := by kernel_rfl
theorem impl_CountProgrammes_eq (n : Nat) (a0 : List ((ByteArray × (Int × (Int × (Int × (Int × Int))))))) (a1 : Int) (a2 : Int) (a3 : Int) (a4 : Int) : impl_CountProgrammes (n + 1) a0 a1 a2 a3 a4 =
  (impl_programmes n a0 a1 a2 a3 a4).bind fun r1 => 
   if (vNot (vEq r1.2.2.2.2.2.2.2 (0 : Int))) = true then (some ((0 : Int), r1.2.2.2.2.2.2.2))
    else (some ((wAdd .i64 (wSub .i64 a4 r1.2.2.2.1) (1 : Int)), (0 : Int))) := by kernel_rfl
theorem impl_WorthOf_eq (n : Nat) (a0 : List ((ByteArray × (Int × (Int × (Int × (Int × Int))))))) (a1 : List (Int)) : impl_WorthOf (n + 1) a0 a1 =
  (impl_ValidItems n a0).bind fun r1 => 
   if (vNot r1) = true then (some ((0 : Int), (1 : Int)))
    else ((impl_orderOk_impl_Item n a0 a1).bind fun r3 => 
     if (vNot r3) = true then (some ((0 : Int), (7 : Int)))
      else (impl_WorthOf_r7 n a0 (0 : Int) a1 (vLen a1) (0 : Int))) := by kernel_rfl
theorem impl_EndOf_eq (n : Nat) (a0 : List ((ByteArray × (Int × (Int × (Int × (Int × Int))))))) (a1 : List (Int)) (a2 : Int) (a3 : Int) : impl_EndOf (n + 1) a0 a1 a2 a3 =
  (impl_ValidItems n a0).bind fun r1 => 
   if (vNot r1) = true then (some ((0 : Int), (1 : Int)))
    else ((impl_minuteOk n a2).bind fun r3 => 
     if (vNot r3) = true then (some ((0 : Int), (2 : Int)))
      else ((impl_seasonOk n a3).bind fun r5 => 
       if (vNot r5) = true then (some ((0 : Int), (2 : Int)))
        else ((impl_orderOk_impl_Item n a0 a1).bind fun r7 => 
         if (vNot r7) = true then (some ((0 : Int), (7 : Int)))
          else ((impl_endOf n a0 a1 a2 a3).bind fun r9 => 
           if (vNot r9.2) = true then (some ((0 : Int), (6 : Int)))
            else (some (r9.1, (0 : Int))))))) := by kernel_rfl
theorem spec_IsProgramme_eq (n : Nat) (a0 : List ((ByteArray × (Int × (Int × (Int × (Int × Int))))))) (a1 : List (Int)) (a2 : Int) (a3 : Int) (a4 : Int) : spec_IsProgramme (n + 1) a0 a1 a2 a3 a4 =
  (spec_l08Ok n a0).bind fun r1 => 
   if (vNot r1) = true then (some false)
    else ((spec_l08Minute n a2).bind fun r3 => 
     if (vNot r3) = true then (some false)
      else ((spec_l08Season n a4).bind fun r5 => 
       if (vNot r5) = true then (some false)
        else ((spec_l08Until n a2 a3).bind fun r7 => 
         if (vNot r7) = true then (some false)
          else ((spec_l08Order n a0 a1).bind fun r9 => 
           if (vNot r9) = true then (some false)
            else ((spec_l08End n a0 a1 a2 a4).bind fun r11 => 
             if r11.2 = true then (some (vLe r11.1 a3))
              else (some false)))))) := by kernel_rfl
theorem laws_FnProgrammes_r16_eq (n : Nat) (x3 : List ((ByteArray × (Int × (Int × (Int × (Int × Int))))))) (x4 : Int) (x5 : Int) (x6 : Int) (x9 : Int) (x11 : Int) (x17 : Int) (x18 : Int) : laws_FnProgrammes_r16 (n + 1) x3 x4 x5 x6 x9 x11 x17 x18 =
  if (vLt x18 (vLen x3)) = true then ((spec_IsProgramme n x3 (x18 :: ([] : List (Int))) x4 x5 x6).bind fun r2 => 
    if r2 = true then (if (inR x18 (vLen x3)) = true then (if (vLt x9 (vGet x3 x18 ((⟨#[]⟩ : ByteArray), ((0 : Int), ((0 : Int), ((0 : Int), ((0 : Int), (0 : Int))))))).2.2.2.2.2) = true then (some false)
       else (laws_FnProgrammes_r16 n x3 x4 x5 x6 x9 x11 (wAdd .i64 x17 (1 : Int)) (wAdd .i64 x18 (1 : Int))))
      else (none))
     else (laws_FnProgrammes_r16 n x3 x4 x5 x6 x9 x11 x17 (wAdd .i64 x18 (1 : Int))))
   else (some (vLe x17 x11)) := by kernel_rfl
theorem spec_l00From_eq (n : Nat) (a0 : List (Int)) : spec_l00From (n + 1) a0 =
  some (a0, ((0 : Int), (0 : Int))) := by kernel_rfl
theorem spec_l08DrawList_eq (n : Nat) (p0_0 : List (Int)) (p0_1 : Int) (p0_2 : Int) : spec_l08DrawList (n + 1) p0_0 p0_1 p0_2 =
  spec_l08DrawList_r4 n ((⟨#[98, 104, 97, 105, 114, 97, 118]⟩ : ByteArray) :: ((⟨#[100, 101, 115, 104]⟩ : ByteArray) :: ((⟨#[107, 97, 102, 105]⟩ : ByteArray) :: ((⟨#[115, 111, 104, 110, 105]⟩ : ByteArray) :: ((⟨#[121, 97, 109, 97, 110]⟩ : ByteArray) :: ([] : List (ByteArray))))))) ([] : List ((ByteArray × (Int × (Int × (Int × (Int × Int))))))) (0 : Int) p0_0 p0_1 p0_2 := by kernel_rfl
theorem spec_l08DrawMinute_eq (n : Nat) (p0_0 : List (Int)) (p0_1 : Int) (p0_2 : Int) : spec_l08DrawMinute (n + 1) p0_0 p0_1 p0_2 =
  (spec_l00Src_one n p0_0 p0_1 p0_2 (9 : Int)).bind fun r1 => 
   if r1.1 = true then ((spec_l00Src_among n r1.2.1 r1.2.2.1 r1.2.2.2 ((-1 : Int) :: ((0 : Int) :: ((1439 : Int) :: ((1440 : Int) :: ([] : List (Int))))))).bind fun r3 => 
     some (r3.1, (r3.2.1, (r3.2.2.1, r3.2.2.2))))
    else ((spec_l00Src_pick n r1.2.1 r1.2.2.1 r1.2.2.2 (48 : Int)).bind fun r3 => 
     some ((wMul .i64 (30 : Int) r3.1), (r3.2.1, (r3.2.2.1, r3.2.2.2)))) := by kernel_rfl
theorem spec_l08DrawUntil_eq (n : Nat) (p0_0 : List (Int)) (p0_1 : Int) (p0_2 : Int) (a1 : Int) : spec_l08DrawUntil (n + 1) p0_0 p0_1 p0_2 a1 =
  (spec_l00Src_one n p0_0 p0_1 p0_2 (9 : Int)).bind fun r1 => 
   if r1.1 = true then ((spec_l00Src_among n r1.2.1 r1.2.2.1 r1.2.2.2 ((-1 : Int) :: ((0 : Int) :: ((1440 : Int) :: ((1441 : Int) :: ([] : List (Int))))))).bind fun r3 => 
     some ((wAdd .i64 a1 r3.1), (r3.2.1, (r3.2.2.1, r3.2.2.2))))
    else ((spec_l00Src_pick n r1.2.1 r1.2.2.1 r1.2.2.2 (30 : Int)).bind fun r3 => 
     some ((wAdd .i64 a1 (wMul .i64 (30 : Int) r3.1)), (r3.2.1, (r3.2.2.1, r3.2.2.2)))) := by kernel_rfl
theorem spec_l08DrawSeason_eq (n : Nat) (p0_0 : List (Int)) (p0_1 : Int) (p0_2 : Int) : spec_l08DrawSeason (n + 1) p0_0 p0_1 p0_2 =
  (spec_l00Src_among n p0_0 p0_1 p0_2 ((0 : Int) :: ((1 : Int) :: ((5 : Int) :: ((0 : Int) :: ((1 : Int) :: ((6 : Int) :: ((-1 : Int) :: ((2 : Int) :: ([] : List (Int))))))))))).bind fun r1 => 
   some (r1.1, (r1.2.1, (r1.2.2.1, r1.2.2.2))) := by kernel_rfl
theorem spec_l08DrawBudget_eq (n : Nat) (p0_0 : List (Int)) (p0_1 : Int) (p0_2 : Int) : spec_l08DrawBudget (n + 1) p0_0 p0_1 p0_2 =
  (spec_l00Src_one n p0_0 p0_1 p0_2 (6 : Int)).bind fun r1 => 
   if r1.1 = true then ((spec_l00Src_among n r1.2.1 r1.2.2.1 r1.2.2.2 ((0 : Int) :: ((1 : Int) :: ((5 : Int) :: ((20000 : Int) :: ((20001 : Int) :: ([] : List (Int)))))))).bind fun r3 => 
     some (r3.1, (r3.2.1, (r3.2.2.1, r3.2.2.2))))
    else ((spec_l00Src_pick n r1.2.1 r1.2.2.1 r1.2.2.2 (400 : Int)).bind fun r3 => 
     some ((wAdd .i64 r3.1 (1 : Int)), (r3.2.1, (r3.2.2.1, r3.2.2.2)))) := by kernel_rfl
theorem impl_programmes_eq (n : Nat) (a0 : List ((ByteArray × (Int × (Int × (Int × (Int × Int))))))) (a1 : Int) (a2 : Int) (a3 : Int) (a4 : Int) : impl_programmes (n + 1) a0 a1 a2 a3 a4 =
  (impl_ValidItems n a0).bind fun r1 => 
   if (vNot r1) = true then (some (([] : List ((ByteArray × (Int × (Int × (Int × (Int × Int))))))), ((0 : Int), ((0 : Int), ((0 : Int), (([] : List (Int)), (([] : List (Int)), ((0 : Int), (1 : Int)))))))))
    else ((impl_minuteOk n a1).bind fun r3 => 
     if (vNot r3) = true then (some (([] : List ((ByteArray × (Int × (Int × (Int × (Int × Int))))))), ((0 : Int), ((0 : Int), ((0 : Int), (([] : List (Int)), (([] : List (Int)), ((0 : Int), (2 : Int)))))))))
      else ((impl_seasonOk n a3).bind fun r5 => 
       if (vNot r5) = true then (some (([] : List ((ByteArray × (Int × (Int × (Int × (Int × Int))))))), ((0 : Int), ((0 : Int), ((0 : Int), (([] : List (Int)), (([] : List (Int)), ((0 : Int), (2 : Int)))))))))
        else ((impl_within n a2 a1 (wAdd .i64 a1 (1440 : Int))).bind fun r7 => 
         if (vNot r7) = true then (some (([] : List ((ByteArray × (Int × (Int × (Int × (Int × Int))))))), ((0 : Int), ((0 : Int), ((0 : Int), (([] : List (Int)), (([] : List (Int)), ((0 : Int), (2 : Int)))))))))
          else ((impl_budgetValid n a4).bind fun r9 => 
           if (vNot r9) = true then (some (([] : List ((ByteArray × (Int × (Int × (Int × (Int × Int))))))), ((0 : Int), ((0 : Int), ((0 : Int), (([] : List (Int)), (([] : List (Int)), ((0 : Int), (2 : Int)))))))))
            else ((impl_programmeSearch_visit n a0 a2 a3 a4 ([] : List (Int)) ([] : List (Int)) (0 : Int) a1 (0 : Int)).bind fun r11 => 
             if (vLt r11.2.2.2.1 (0 : Int)) = true then (some (([] : List ((ByteArray × (Int × (Int × (Int × (Int × Int))))))), ((0 : Int), ((0 : Int), ((0 : Int), (([] : List (Int)), (([] : List (Int)), ((0 : Int), (5 : Int)))))))))
              else (some (r11.1, (r11.2.1, (r11.2.2.1, (r11.2.2.2.1, (r11.2.2.2.2.1, (r11.2.2.2.2.2.1, (r11.2.2.2.2.2.2, (0 : Int)))))))))))))) := by kernel_rfl
theorem impl_ValidItems_eq (n : Nat) (a0 : List ((ByteArray × (Int × (Int × (Int × (Int × Int))))))) : impl_ValidItems (n + 1) a0 =
  if (vLt (12 : Int) (vLen a0)) = true then (some false)
   else (impl_ValidItems_r4 n a0 a0 (vLen a0) (0 : Int)) := by kernel_rfl
theorem impl_orderOk_impl_Item_eq (n : Nat) (a0 : List ((ByteArray × (Int × (Int × (Int × (Int × Int))))))) (a1 : List (Int)) : impl_orderOk_impl_Item (n + 1) a0 a1 =
  impl_orderOk_impl_Item_r2 n a0 a1 a1 (vLen a1) (0 : Int) := by kernel_rfl
theorem impl_WorthOf_r7_eq (n : Nat) (x0 : List ((ByteArray × (Int × (Int × (Int × (Int × Int))))))) (x6 : Int) (x18 : List (Int)) (x19 : Int) (x20 : Int) : impl_WorthOf_r7 (n + 1) x0 x6 x18 x19 x20 =
  if (vLt x20 x19) = true then (if (inR x20 (vLen x18)) = true then (if (inR (vGet x18 x20 (0 : Int)) (vLen x0)) = true then (impl_WorthOf_r7 n x0 (wAdd .i64 x6 (vGet x0 (vGet x18 x20 (0 : Int)) ((⟨#[]⟩ : ByteArray), ((0 : Int), ((0 : Int), ((0 : Int), ((0 : Int), (0 : Int))))))).2.2.2.2.2) x18 x19 (wAdd .i64 x20 (1 : Int)))
     else (none))
    else (none))
   else (some (x6, (0 : Int))) := by kernel_rfl
theorem impl_minuteOk_eq (n : Nat) (a0 : Int) : impl_minuteOk (n + 1) a0 =
  (impl_within n a0 (0 : Int) (1439 : Int)).bind fun r1 => 
   some r1 := by kernel_rfl
theorem impl_seasonOk_eq (n : Nat) (a0 : Int) : impl_seasonOk (n + 1) a0 =
  (impl_within n a0 (0 : Int) (5 : Int)).bind fun r1 => 
   some r1 := by kernel_rfl
theorem impl_endOf_eq (n : Nat) (a0 : List ((ByteArray × (Int × (Int × (Int × (Int × Int))))))) (a1 : List (Int)) (a2 : Int) (a3 : Int) : impl_endOf (n + 1) a0 a1 a2 a3 =
  impl_endOf_r2 n a0 a2 a3 a1 (vLen a1) (0 : Int) := by kernel_rfl
theorem spec_l08Ok_eq (n : Nat) (a0 : List ((ByteArray × (Int × (Int × (Int × (Int × Int))))))) : spec_l08Ok (n + 1) a0 =
  spec_l08Ok_r2 n a0 (0 : Int) := by kernel_rfl
theorem spec_l08Minute_eq (n : Nat) (a0 : Int) : spec_l08Minute (n + 1) a0 =
  (spec_l00In n a0 (0 : Int) (1439 : Int)).bind fun r1 => 
   some r1 := by kernel_rfl
theorem spec_l08Season_eq (n : Nat) (a0 : Int) : spec_l08Season (n + 1) a0 =
  (spec_l00In n a0 (0 : Int) (5 : Int)).bind fun r1 => 
   some r1 := by kernel_rfl
theorem spec_l08Until_eq (n : Nat) (a0 : Int) (a1 : Int) : spec_l08Until (n + 1) a0 a1 =
  (spec_l00In n a1 a0 (wAdd .i64 a0 (1440 : Int))).bind fun r1 => 
   some r1 := by kernel_rfl
theorem spec_l08Order_eq (n : Nat) (a0 : List ((ByteArray × (Int × (Int × (Int × (Int × Int))))))) (a1 : List (Int)) : spec_l08Order (n + 1) a0 a1 =
  spec_l08Order_r2 n a0 a1 (0 : Int) := by kernel_rfl
theorem spec_l08End_eq (n : Nat) (a0 : List ((ByteArray × (Int × (Int × (Int × (Int × Int))))))) (a1 : List (Int)) (a2 : Int) (a3 : Int) : spec_l08End (n + 1) a0 a1 a2 a3 =
  spec_l08End_r3 n a0 a1 a3 a2 (0 : Int) := by kernel_rfl
theorem spec_l08DrawList_r4_eq (n : Nat) (x3 : List (ByteArray)) (x4 : List ((ByteArray × (Int × (Int × (Int × (Int × Int))))))) (x5 : Int) (b0_0 : List (Int)) (b0_1 : Int) (b0_2 : Int) : spec_l08DrawList_r4 (n + 1) x3 x4 x5 b0_0 b0_1 b0_2 =
  if (vLt x5 (vLen x3)) = true then ((spec_l00Src_one n b0_0 b0_1 b0_2 (3 : Int)).bind fun r2 => 
    if (vNot r2.1) = true then (if (inR x5 (vLen x3)) = true then ((spec_l08DrawOne n r2.2.1 r2.2.2.1 r2.2.2.2 (vGet x3 x5 (⟨#[]⟩ : ByteArray))).bind fun r5 => 
       if (appOk (vLen x4) (vLen ((r5.1, (r5.2.1, (r5.2.2.1, (r5.2.2.2.1, (r5.2.2.2.2.1, r5.2.2.2.2.2.1))))) :: ([] : List ((ByteArray × (Int × (Int × (Int × (Int × Int))))))))) 56) = true then (spec_l08DrawList_r4 n x3 (vApp x4 ((r5.1, (r5.2.1, (r5.2.2.1, (r5.2.2.2.1, (r5.2.2.2.2.1, r5.2.2.2.2.2.1))))) :: ([] : List ((ByteArray × (Int × (Int × (Int × (Int × Int))))))))) (wAdd .i64 x5 (1 : Int)) r5.2.2.2.2.2.2.1 r5.2.2.2.2.2.2.2.1 r5.2.2.2.2.2.2.2.2)
        else (none))
      else (none))
     else (spec_l08DrawList_r4 n x3 x4 (wAdd .i64 x5 (1 : Int)) r2.2.1 r2.2.2.1 r2.2.2.2))
   else ((spec_l00Src_pick n b0_0 b0_1 b0_2 (20 : Int)).bind fun r2 => 
    if (vEq r2.1 (0 : Int)) = true then ((spec_l08DrawOne n r2.2.1 r2.2.2.1 r2.2.2.2 (⟨#[122, 122]⟩ : ByteArray)).bind fun r4 => 
      (spec_l08Bend n r4.2.2.2.2.2.2.1 r4.2.2.2.2.2.2.2.1 r4.2.2.2.2.2.2.2.2 r4.1 r4.2.1 r4.2.2.1 r4.2.2.2.1 r4.2.2.2.2.1 r4.2.2.2.2.2.1).bind fun r5 => 
       if (appOk (vLen x4) (vLen ((r5.1, (r5.2.1, (r5.2.2.1, (r5.2.2.2.1, (r5.2.2.2.2.1, r5.2.2.2.2.2.1))))) :: ([] : List ((ByteArray × (Int × (Int × (Int × (Int × Int))))))))) 56) = true then (some ((vApp x4 ((r5.1, (r5.2.1, (r5.2.2.1, (r5.2.2.2.1, (r5.2.2.2.2.1, r5.2.2.2.2.2.1))))) :: ([] : List ((ByteArray × (Int × (Int × (Int × (Int × Int))))))))), (r5.2.2.2.2.2.2.1, (r5.2.2.2.2.2.2.2.1, r5.2.2.2.2.2.2.2.2))))
        else (none))
     else (if (vEq r2.1 (1 : Int)) = true then ((spec_l00Src_among n r2.2.1 r2.2.2.1 r2.2.2.2 ((12 : Int) :: ((13 : Int) :: ([] : List (Int))))).bind fun r5 => 
       spec_l08DrawList_r15 n ([] : List ((ByteArray × (Int × (Int × (Int × (Int × Int))))))) r5.1 (0 : Int) r5.2.1 r5.2.2.1 r5.2.2.2)
      else (some (x4, (r2.2.1, (r2.2.2.1, r2.2.2.2)))))) := by kernel_rfl
theorem spec_l00Src_one_eq (n : Nat) (p0_0 : List (Int)) (p0_1 : Int) (p0_2 : Int) (a1 : Int) : spec_l00Src_one (n + 1) p0_0 p0_1 p0_2 a1 =
  (spec_l00Src_pick n p0_0 p0_1 p0_2 a1).bind fun r1 => 
   some ((vEq r1.1 (0 : Int)), (r1.2.1, (r1.2.2.1, r1.2.2.2))) := by kernel_rfl
theorem spec_l00Src_among_eq (n : Nat) (p0_0 : List (Int)) (p0_1 : Int) (p0_2 : Int) (a1 : List (Int)) : spec_l00Src_among (n + 1) p0_0 p0_1 p0_2 a1 =
  (spec_l00Src_pick n p0_0 p0_1 p0_2 (vLen a1)).bind fun r1 => 
   if (inR r1.1 (vLen a1)) = true then (some ((vGet a1 r1.1 (0 : Int)), (r1.2.1, (r1.2.2.1, r1.2.2.2))))
    else (none) := by kernel_rfl
theorem spec_l00Src_pick_eq (n : Nat) (p0_0 : List (Int)) (p0_1 : Int) (p0_2 : Int) (a1 : Int) : spec_l00Src_pick (n + 1) p0_0 p0_1 p0_2 a1 =
  if (vLe a1 (1 : Int)) = true then (some ((0 : Int), (p0_0, (p0_1, p0_2))))
   else ((spec_l00Src_next n p0_0 p0_1 p0_2).bind fun r2 => 
    if (vLt (200 : Int) a1) = true then ((spec_l00Src_next n r2.2.1 r2.2.2.1 r2.2.2.2).bind fun r4 => 
      if (vEq a1 (0 : Int)) = true then (none)
       else (some ((vRem (wAdd .i64 (wMul .i64 r2.1 (256 : Int)) r4.1) a1), (r4.2.1, (r4.2.2.1, r4.2.2.2)))))
     else (if (vEq a1 (0 : Int)) = true then (none)
      else (some ((vRem r2.1 a1), (r2.2.1, (r2.2.2.1, r2.2.2.2)))))) := by kernel_rfl
theorem impl_within_eq (n : Nat) (a0 : Int) (a1 : Int) (a2 : Int) : impl_within (n + 1) a0 a1 a2 =
  if (vLe a1 a0) = true then (some (vLe a0 a2))
   else (some false) := by kernel_rfl
theorem impl_budgetValid_eq (n : Nat) (a0 : Int) : impl_budgetValid (n + 1) a0 =
  (impl_within n a0 (1 : Int) (20000 : Int)).bind fun r1 => 
   some r1 := by kernel_rfl
theorem impl_programmeSearch_visit_eq (n : Nat) (p0_0 : List ((ByteArray × (Int × (Int × (Int × (Int × Int))))))) (p0_1 : Int) (p0_2 : Int) (p0_3 : Int) (p0_4 : List (Int)) (p0_5 : List (Int)) (p0_6 : Int) (a1 : Int) (a2 : Int) : impl_programmeSearch_visit (n + 1) p0_0 p0_1 p0_2 p0_3 p0_4 p0_5 p0_6 a1 a2 =
  if (vLt p0_6 a2) = true then ((slices_Clone_int64_int64 n p0_4).bind fun r2 => 
    impl_programmeSearch_visit_r3 n a1 a2 p0_0 (vLen p0_0) (0 : Int) p0_0 p0_1 p0_2 p0_3 p0_4 r2 a2)
   else (impl_programmeSearch_visit_r3 n a1 a2 p0_0 (vLen p0_0) (0 : Int) p0_0 p0_1 p0_2 p0_3 p0_4 p0_5 p0_6) := by kernel_rfl
theorem impl_ValidItems_r4_eq (n : Nat) (x0 : List ((ByteArray × (Int × (Int × (Int × (Int × Int))))))) (x8 : List ((ByteArray × (Int × (Int × (Int × (Int × Int))))))) (x9 : Int) (x10 : Int) : impl_ValidItems_r4 (n + 1) x0 x8 x9 x10 =
  if (vLt x10 x9) = true then (if (inR x10 (vLen x8)) = true then ((impl_ValidItem n (vGet x8 x10 ((⟨#[]⟩ : ByteArray), ((0 : Int), ((0 : Int), ((0 : Int), ((0 : Int), (0 : Int))))))).1 (vGet x8 x10 ((⟨#[]⟩ : ByteArray), ((0 : Int), ((0 : Int), ((0 : Int), ((0 : Int), (0 : Int))))))).2.1 (vGet x8 x10 ((⟨#[]⟩ : ByteArray), ((0 : Int), ((0 : Int), ((0 : Int), ((0 : Int), (0 : Int))))))).2.2.1 (vGet x8 x10 ((⟨#[]⟩ : ByteArray), ((0 : Int), ((0 : Int), ((0 : Int), ((0 : Int), (0 : Int))))))).2.2.2.1 (vGet x8 x10 ((⟨#[]⟩ : ByteArray), ((0 : Int), ((0 : Int), ((0 : Int), ((0 : Int), (0 : Int))))))).2.2.2.2.1 (vGet x8 x10 ((⟨#[]⟩ : ByteArray), ((0 : Int), ((0 : Int), ((0 : Int), ((0 : Int), (0 : Int))))))).2.2.2.2.2).bind fun r3 => 
     if (vNot r3) = true then (some false)
      else (if (vLt (0 : Int) x10) = true then (if (inR (wSub .i64 x10 (1 : Int)) (vLen x0)) = true then (if (sLe (vGet x8 x10 ((⟨#[]⟩ : ByteArray), ((0 : Int), ((0 : Int), ((0 : Int), ((0 : Int), (0 : Int))))))).1 (vGet x0 (wSub .i64 x10 (1 : Int)) ((⟨#[]⟩ : ByteArray), ((0 : Int), ((0 : Int), ((0 : Int), ((0 : Int), (0 : Int))))))).1) = true then (some false)
         else (impl_ValidItems_r4 n x0 x8 x9 (wAdd .i64 x10 (1 : Int))))
        else (none))
       else (impl_ValidItems_r4 n x0 x8 x9 (wAdd .i64 x10 (1 : Int)))))
    else (none))
   else (some true) := by kernel_rfl
theorem impl_orderOk_impl_Item_r2_eq (n : Nat) (x0 : List ((ByteArray × (Int × (Int × (Int × (Int × Int))))))) (x1 : List (Int)) (x7 : List (Int)) (x8 : Int) (x9 : Int) : impl_orderOk_impl_Item_r2 (n + 1) x0 x1 x7 x8 x9 =
  if (vLt x9 x8) = true then (if (inR x9 (vLen x7)) = true then ((impl_indexValid_impl_Item n x0 (vGet x7 x9 (0 : Int))).bind fun r3 => 
     if (vNot r3) = true then (some false)
      else (if (cutOk (0 : Int) x9 (vLen x1)) = true then ((slices_Contains_int64_int64 n (cut x1 (0 : Int) x9) (vGet x7 x9 (0 : Int))).bind fun r6 => 
        if r6 = true then (some false)
         else (impl_orderOk_impl_Item_r2 n x0 x1 x7 x8 (wAdd .i64 x9 (1 : Int))))
       else (none)))
    else (none))
   else (some true) := by kernel_rfl
theorem impl_endOf_r2_eq (n : Nat) (x0 : List ((ByteArray × (Int × (Int × (Int × (Int × Int))))))) (x2 : Int) (x3 : Int) (x12 : List (Int)) (x13 : Int) (x14 : Int) : impl_endOf_r2 (n + 1) x0 x2 x3 x12 x13 x14 =
  if (vLt x14 x13) = true then (if (inR x14 (vLen x12)) = true then (if (inR (vGet x12 x14 (0 : Int)) (vLen x0)) = true then (if (vEq (1440 : Int) (0 : Int)) = true then (none)
      else ((impl_Item_fits n (vGet x0 (vGet x12 x14 (0 : Int)) ((⟨#[]⟩ : ByteArray), ((0 : Int), ((0 : Int), ((0 : Int), ((0 : Int), (0 : Int))))))).1 (vGet x0 (vGet x12 x14 (0 : Int)) ((⟨#[]⟩ : ByteArray), ((0 : Int), ((0 : Int), ((0 : Int), ((0 : Int), (0 : Int))))))).2.1 (vGet x0 (vGet x12 x14 (0 : Int)) ((⟨#[]⟩ : ByteArray), ((0 : Int), ((0 : Int), ((0 : Int), ((0 : Int), (0 : Int))))))).2.2.1 (vGet x0 (vGet x12 x14 (0 : Int)) ((⟨#[]⟩ : ByteArray), ((0 : Int), ((0 : Int), ((0 : Int), ((0 : Int), (0 : Int))))))).2.2.2.1 (vGet x0 (vGet x12 x14 (0 : Int)) ((⟨#[]⟩ : ByteArray), ((0 : Int), ((0 : Int), ((0 : Int), ((0 : Int), (0 : Int))))))).2.2.2.2.1 (vGet x0 (vGet x12 x14 (0 : Int)) ((⟨#[]⟩ : ByteArray), ((0 : Int), ((0 : Int), ((0 : Int), ((0 : Int), (0 : Int))))))).2.2.2.2.2 (vRem x2 (1440 : Int)) x3).bind fun r5 => 
       if (vNot r5) = true then (some ((0 : Int), false))
        else (if (inR (vGet x12 x14 (0 : Int)) (vLen x0)) = true then (impl_endOf_r2 n x0 (wAdd .i64 x2 (vGet x0 (vGet x12 x14 (0 : Int)) ((⟨#[]⟩ : ByteArray), ((0 : Int), ((0 : Int), ((0 : Int), ((0 : Int), (0 : Int))))))).2.2.2.2.1) x3 x12 x13 (wAdd .i64 x14 (1 : Int)))
         else (none))))
     else (none))
    else (none))
   else (some (x2, true)) := by kernel_rfl
theorem spec_l08Ok_r2_eq (n : Nat) (x0 : List ((ByteArray × (Int × (Int × (Int × (Int × Int))))))) (x3 : Int) : spec_l08Ok_r2 (n + 1) x0 x3 =
  if (vLt x3 (vLen x0)) = true then (if (inR x3 (vLen x0)) = true then ((spec_l08One n (vGet x0 x3 ((⟨#[]⟩ : ByteArray), ((0 : Int), ((0 : Int), ((0 : Int), ((0 : Int), (0 : Int)))))))).bind fun r3 => 
     if (vNot r3) = true then (some false)
      else (if (vLt (0 : Int) x3) = true then (if (inR (wSub .i64 x3 (1 : Int)) (vLen x0)) = true then (if (inR x3 (vLen x0)) = true then (if (vNot (sLt (vGet x0 (wSub .i64 x3 (1 : Int)) ((⟨#[]⟩ : ByteArray), ((0 : Int), ((0 : Int), ((0 : Int), ((0 : Int), (0 : Int))))))).1 (vGet x0 x3 ((⟨#[]⟩ : ByteArray), ((0 : Int), ((0 : Int), ((0 : Int), ((0 : Int), (0 : Int))))))).1)) = true then (some false)
          else (spec_l08Ok_r2 n x0 (wAdd .i64 x3 (1 : Int))))
         else (none))
        else (none))
       else (spec_l08Ok_r2 n x0 (wAdd .i64 x3 (1 : Int)))))
    else (none))
   else (some (vLe (vLen x0) (12 : Int))) := by kernel_rfl
theorem spec_l00In_eq (n : Nat) (a0 : Int) (a1 : Int) (a2 : Int) : spec_l00In (n + 1) a0 a1 a2 =
  if (vLe a1 a0) = true then (some (vLe a0 a2))
   else (some false) := by kernel_rfl
theorem spec_l08Order_r2_eq (n : Nat) (x0 : List ((ByteArray × (Int × (Int × (Int × (Int × Int))))))) (x1 : List (Int)) (x5 : Int) : spec_l08Order_r2 (n + 1) x0 x1 x5 =
  if (vLt x5 (vLen x1)) = true then (if (inR x5 (vLen x1)) = true then ((spec_l00In n (vGet x1 x5 (0 : Int)) (0 : Int) (wSub .i64 (vLen x0) (1 : Int))).bind fun r3 => 
     if (vNot r3) = true then (some false)
      else (if (cutOk (0 : Int) x5 (vLen x1)) = true then (if (inR x5 (vLen x1)) = true then ((spec_l00Has n (cut x1 (0 : Int) x5) (vGet x1 x5 (0 : Int))).bind fun r7 => 
         if r7 = true then (some false)
          else (spec_l08Order_r2 n x0 x1 (wAdd .i64 x5 (1 : Int))))
        else (none))
       else (none)))
    else (none))
   else (some true) := by kernel_rfl
theorem spec_l08End_r3_eq (n : Nat) (x0 : List ((ByteArray × (Int × (Int × (Int × (Int × Int))))))) (x1 : List (Int)) (x3 : Int) (x10 : Int) (x11 : Int) : spec_l08End_r3 (n + 1) x0 x1 x3 x10 x11 =
  if (vLt x11 (vLen x1)) = true then (if (inR x11 (vLen x1)) = true then (if (inR (vGet x1 x11 (0 : Int)) (vLen x0)) = true then ((spec_l08Fits n (vGet x0 (vGet x1 x11 (0 : Int)) ((⟨#[]⟩ : ByteArray), ((0 : Int), ((0 : Int), ((0 : Int), ((0 : Int), (0 : Int))))))) x10 x3).bind fun r4 => 
      if (vNot r4) = true then (some ((0 : Int), false))
       else (spec_l08End_r3 n x0 x1 x3 (wAdd .i64 x10 (vGet x0 (vGet x1 x11 (0 : Int)) ((⟨#[]⟩ : ByteArray), ((0 : Int), ((0 : Int), ((0 : Int), ((0 : Int), (0 : Int))))))).2.2.2.2.1) (wAdd .i64 x11 (1 : Int))))
     else (none))
    else (none))
   else (some (x10, true)) := by kernel_rfl
theorem spec_l08DrawOne_eq (n : Nat) (p0_0 : List (Int)) (p0_1 : Int) (p0_2 : Int) (a1 : ByteArray) : spec_l08DrawOne (n + 1) p0_0 p0_1 p0_2 a1 =
  (spec_l00Src_pick n p0_0 p0_1 p0_2 (24 : Int)).bind fun r1 => 
   (spec_l00Src_among n r1.2.1 r1.2.2.1 r1.2.2.2 ((-1 : Int) :: ((-1 : Int) :: ((0 : Int) :: ((1 : Int) :: ((5 : Int) :: ([] : List (Int)))))))).bind fun r2 => 
    (spec_l00Src_pick n r2.2.1 r2.2.2.1 r2.2.2.2 (20 : Int)).bind fun r3 => 
     if (vEq (1440 : Int) (0 : Int)) = true then (none)
      else ((spec_l00Src_pick n r3.2.1 r3.2.2.1 r3.2.2.2 (9 : Int)).bind fun r5 => 
       (spec_l00Src_pick n r5.2.1 r5.2.2.1 r5.2.2.2 (200 : Int)).bind fun r6 => 
        some (a1, ((wMul .i64 (60 : Int) r1.1), ((vRem (wAdd .i64 (wMul .i64 (60 : Int) r1.1) (wMul .i64 (60 : Int) (wAdd .i64 (1 : Int) r3.1))) (1440 : Int)), (r2.1, ((wAdd .i64 (20 : Int) (wMul .i64 (10 : Int) r5.1)), (r6.1, (r6.2.1, (r6.2.2.1, r6.2.2.2))))))))) := by kernel_rfl
theorem spec_l08Bend_eq (n : Nat) (p0_0 : List (Int)) (p0_1 : Int) (p0_2 : Int) (a1_0 : ByteArray) (a1_1 : Int) (a1_2 : Int) (a1_3 : Int) (a1_4 : Int) (a1_5 : Int) : spec_l08Bend (n + 1) p0_0 p0_1 p0_2 a1_0 a1_1 a1_2 a1_3 a1_4 a1_5 =
  (spec_l00Src_pick n p0_0 p0_1 p0_2 (22 : Int)).bind fun r1 => 
   if (vEq r1.1 (0 : Int)) = true then ((spec_l00Src_among n r1.2.1 r1.2.2.1 r1.2.2.2 ((-1 : Int) :: ((1439 : Int) :: ((1440 : Int) :: ([] : List (Int)))))).bind fun r3 => 
     some (a1_0, (r3.1, (a1_2, (a1_3, (a1_4, (a1_5, (r3.2.1, (r3.2.2.1, r3.2.2.2)))))))))
    else (if (vEq r1.1 (1 : Int)) = true then ((spec_l00Src_among n r1.2.1 r1.2.2.1 r1.2.2.2 ((-1 : Int) :: ((1439 : Int) :: ((1440 : Int) :: (a1_1 :: ([] : List (Int))))))).bind fun r4 => 
      some (a1_0, (a1_1, (r4.1, (a1_3, (a1_4, (a1_5, (r4.2.1, (r4.2.2.1, r4.2.2.2)))))))))
     else (if (vEq r1.1 (2 : Int)) = true then ((spec_l00Src_among n r1.2.1 r1.2.2.1 r1.2.2.2 ((-2 : Int) :: ((5 : Int) :: ((6 : Int) :: ([] : List (Int)))))).bind fun r5 => 
       some (a1_0, (a1_1, (a1_2, (r5.1, (a1_4, (a1_5, (r5.2.1, (r5.2.2.1, r5.2.2.2)))))))))
      else (if (vEq r1.1 (3 : Int)) = true then ((spec_l00Src_among n r1.2.1 r1.2.2.1 r1.2.2.2 ((0 : Int) :: ((1 : Int) :: ((240 : Int) :: ((241 : Int) :: ([] : List (Int))))))).bind fun r6 => 
        some (a1_0, (a1_1, (a1_2, (a1_3, (r6.1, (a1_5, (r6.2.1, (r6.2.2.1, r6.2.2.2)))))))))
       else (if (vEq r1.1 (4 : Int)) = true then ((spec_l00Src_among n r1.2.1 r1.2.2.1 r1.2.2.2 ((-1 : Int) :: ((0 : Int) :: ((1000 : Int) :: ((1001 : Int) :: ([] : List (Int))))))).bind fun r7 => 
         some (a1_0, (a1_1, (a1_2, (a1_3, (a1_4, (r7.1, (r7.2.1, (r7.2.2.1, r7.2.2.2)))))))))
        else (some (a1_0, (a1_1, (a1_2, (a1_3, (a1_4, (a1_5, (r1.2.1, (r1.2.2.1, r1.2.2.2))))))))))))) := by kernel_rfl
theorem spec_l08DrawList_r15_eq (n : Nat) (x4 : List ((ByteArray × (Int × (Int × (Int × (Int × Int))))))) (x6 : Int) (x7 : Int) (b0_0 : List (Int)) (b0_1 : Int) (b0_2 : Int) : spec_l08DrawList_r15 (n + 1) x4 x6 x7 b0_0 b0_1 b0_2 =
  if (vLt x7 x6) = true then (if (sBig (⟨#[110]⟩ : ByteArray) (sOf ((wConv .u8 (wAdd .i64 (97 : Int) x7)) :: ([] : List (Int))))) = true then (none)
    else (if (appOk (vLen x4) (vLen (((sApp (⟨#[110]⟩ : ByteArray) (sOf ((wConv .u8 (wAdd .i64 (97 : Int) x7)) :: ([] : List (Int))))), ((0 : Int), ((60 : Int), ((-1 : Int), ((240 : Int), x7))))) :: ([] : List ((ByteArray × (Int × (Int × (Int × (Int × Int))))))))) 56) = true then (spec_l08DrawList_r15 n (vApp x4 (((sApp (⟨#[110]⟩ : ByteArray) (sOf ((wConv .u8 (wAdd .i64 (97 : Int) x7)) :: ([] : List (Int))))), ((0 : Int), ((60 : Int), ((-1 : Int), ((240 : Int), x7))))) :: ([] : List ((ByteArray × (Int × (Int × (Int × (Int × Int))))))))) x6 (wAdd .i64 x7 (1 : Int)) b0_0 b0_1 b0_2)
     else (none)))
   else (some (x4, (b0_0, (b0_1, b0_2)))) := by kernel_rfl
theorem spec_l00Src_next_eq (n : Nat) (p0_0 : List (Int)) (p0_1 : Int) (p0_2 : Int) : spec_l00Src_next (n + 1) p0_0 p0_1 p0_2 =
  if (vLt p0_1 (vLen p0_0)) = true then (if (inR p0_1 (vLen p0_0)) = true then (spec_l00Src_next_r4 n (wConv .i64 (vGet p0_0 p0_1 (0 : Int))) p0_0 p0_1 p0_2)
    else (none))
   else (spec_l00Src_next_r4 n (0 : Int) p0_0 p0_1 p0_2) := by kernel_rfl
theorem slices_Clone_int64_int64_eq (n : Nat) (a0 : List (Int)) : slices_Clone_int64_int64 (n + 1) a0 =
  if (vEq (vLen a0) (0 : Int)) = true then (agree [.own (.int .i64)] (some ([] : List (Int)))
    (if (appOk (vLen ([] : List (Int))) (vLen a0) 8) = true then (some (vApp ([] : List (Int)) a0))
     else (none)))
   else (if (appOk (vLen ([] : List (Int))) (vLen a0) 8) = true then (some (vApp ([] : List (Int)) a0))
    else (none)) := by kernel_rfl
theorem impl_programmeSearch_visit_r3_eq (n : Nat) (x1 : Int) (x2 : Int) (x29 : List ((ByteArray × (Int × (Int × (Int × (Int × Int))))))) (x30 : Int) (x31 : Int) (b0_0 : List ((ByteArray × (Int × (Int × (Int × (Int × Int))))))) (b0_1 : Int) (b0_2 : Int) (b0_3 : Int) (b0_4 : List (Int)) (b0_5 : List (Int)) (b0_6 : Int) : impl_programmeSearch_visit_r3 (n + 1) x1 x2 x29 x30 x31 b0_0 b0_1 b0_2 b0_3 b0_4 b0_5 b0_6 =
  if (vLt x31 x30) = true then (if (inR x31 (vLen x29)) = true then ((slices_Contains_int64_int64 n b0_4 x31).bind fun r3 => 
     if r3 = true then (impl_programmeSearch_visit_r3 n x1 x2 x29 x30 (wAdd .i64 x31 (1 : Int)) b0_0 b0_1 b0_2 b0_3 b0_4 b0_5 b0_6)
      else (if (vEq (1440 : Int) (0 : Int)) = true then (none)
       else ((impl_Item_fits n (vGet x29 x31 ((⟨#[]⟩ : ByteArray), ((0 : Int), ((0 : Int), ((0 : Int), ((0 : Int), (0 : Int))))))).1 (vGet x29 x31 ((⟨#[]⟩ : ByteArray), ((0 : Int), ((0 : Int), ((0 : Int), ((0 : Int), (0 : Int))))))).2.1 (vGet x29 x31 ((⟨#[]⟩ : ByteArray), ((0 : Int), ((0 : Int), ((0 : Int), ((0 : Int), (0 : Int))))))).2.2.1 (vGet x29 x31 ((⟨#[]⟩ : ByteArray), ((0 : Int), ((0 : Int), ((0 : Int), ((0 : Int), (0 : Int))))))).2.2.2.1 (vGet x29 x31 ((⟨#[]⟩ : ByteArray), ((0 : Int), ((0 : Int), ((0 : Int), ((0 : Int), (0 : Int))))))).2.2.2.2.1 (vGet x29 x31 ((⟨#[]⟩ : ByteArray), ((0 : Int), ((0 : Int), ((0 : Int), ((0 : Int), (0 : Int))))))).2.2.2.2.2 (vRem x1 (1440 : Int)) b0_2).bind fun r6 => 
        if (vNot r6) = true then (impl_programmeSearch_visit_r3 n x1 x2 x29 x30 (wAdd .i64 x31 (1 : Int)) b0_0 b0_1 b0_2 b0_3 b0_4 b0_5 b0_6)
         else (if (vLt b0_1 (wAdd .i64 x1 (vGet x29 x31 ((⟨#[]⟩ : ByteArray), ((0 : Int), ((0 : Int), ((0 : Int), ((0 : Int), (0 : Int))))))).2.2.2.2.1)) = true then (impl_programmeSearch_visit_r3 n x1 x2 x29 x30 (wAdd .i64 x31 (1 : Int)) b0_0 b0_1 b0_2 b0_3 b0_4 b0_5 b0_6)
          else (if (vLt (wSub .i64 b0_3 (1 : Int)) (0 : Int)) = true then (some (b0_0, (b0_1, (b0_2, ((wSub .i64 b0_3 (1 : Int)), (b0_4, (b0_5, b0_6)))))))
           else (if (appOk (vLen b0_4) (vLen (x31 :: ([] : List (Int)))) 8) = true then ((impl_programmeSearch_visit n b0_0 b0_1 b0_2 (wSub .i64 b0_3 (1 : Int)) (vApp b0_4 (x31 :: ([] : List (Int)))) b0_5 b0_6 (wAdd .i64 x1 (vGet x29 x31 ((⟨#[]⟩ : ByteArray), ((0 : Int), ((0 : Int), ((0 : Int), ((0 : Int), (0 : Int))))))).2.2.2.2.1) (wAdd .i64 x2 (vGet x29 x31 ((⟨#[]⟩ : ByteArray), ((0 : Int), ((0 : Int), ((0 : Int), ((0 : Int), (0 : Int))))))).2.2.2.2.2)).bind fun r11 => 
             if (cutOk (0 : Int) (wSub .i64 (vLen r11.2.2.2.2.1) (1 : Int)) (vLen r11.2.2.2.2.1)) = true then (if (vLt r11.2.2.2.1 (0 : Int)) = true then (some (r11.1, (r11.2.1, (r11.2.2.1, (r11.2.2.2.1, ((cut r11.2.2.2.2.1 (0 : Int) (wSub .i64 (vLen r11.2.2.2.2.1) (1 : Int))), (r11.2.2.2.2.2.1, r11.2.2.2.2.2.2)))))))
               else (impl_programmeSearch_visit_r3 n x1 x2 x29 x30 (wAdd .i64 x31 (1 : Int)) r11.1 r11.2.1 r11.2.2.1 r11.2.2.2.1 (cut r11.2.2.2.2.1 (0 : Int) (wSub .i64 (vLen r11.2.2.2.2.1) (1 : Int))) r11.2.2.2.2.2.1 r11.2.2.2.2.2.2))
              else (none))
            else (none)))))))
    else (none))
   else (some (b0_0, (b0_1, (b0_2, (b0_3, (b0_4, (b0_5, b0_6))))))) := by kernel_rfl
theorem impl_ValidItem_eq (n : Nat) (a0_0 : ByteArray) (a0_1 : Int) (a0_2 : Int) (a0_3 : Int) (a0_4 : Int) (a0_5 : Int) : impl_ValidItem (n + 1) a0_0 a0_1 a0_2 a0_3 a0_4 a0_5 =
  (impl_IsName n a0_0).bind fun r1 => 
   if r1 = true then ((impl_minuteOk n a0_1).bind fun r3 => 
     if r3 = true then ((impl_minuteOk n a0_2).bind fun r5 => 
       if r5 = true then (if (vNot (vEq a0_1 a0_2)) = true then ((impl_within n a0_3 (-1 : Int) (5 : Int)).bind fun r8 => 
          if r8 = true then ((impl_within n a0_4 (1 : Int) (240 : Int)).bind fun r10 => 
            if r10 = true then ((impl_within n a0_5 (0 : Int) (1000 : Int)).bind fun r12 => 
              some r12)
             else (some false))
           else (some false))
         else (some false))
        else (some false))
      else (some false))
    else (some false) := by kernel_rfl
theorem impl_indexValid_impl_Item_eq (n : Nat) (a0 : List ((ByteArray × (Int × (Int × (Int × (Int × Int))))))) (a1 : Int) : impl_indexValid_impl_Item (n + 1) a0 a1 =
  (impl_within n a1 (0 : Int) (wSub .i64 (vLen a0) (1 : Int))).bind fun r1 => 
   some r1 := by kernel_rfl
theorem slices_Contains_int64_int64_eq (n : Nat) (a0 : List (Int)) (a1 : Int) : slices_Contains_int64_int64 (n + 1) a0 a1 =
  (slices_Index_int64_int64 n a0 a1).bind fun r1 => 
   some (vLe (0 : Int) r1) := by kernel_rfl
theorem impl_Item_fits_eq (n : Nat) (a0_0 : ByteArray) (a0_1 : Int) (a0_2 : Int) (a0_3 : Int) (a0_4 : Int) (a0_5 : Int) (a1 : Int) (a2 : Int) : impl_Item_fits (n + 1) a0_0 a0_1 a0_2 a0_3 a0_4 a0_5 a1 a2 =
  if (vNot (vEq a0_3 (-1 : Int))) = true then (if (vNot (vEq a0_3 a2)) = true then (some false)
    else (impl_Item_fits_r3 n a1 a0_0 a0_1 a0_2 a0_3 a0_4 a0_5))
   else (impl_Item_fits_r3 n a1 a0_0 a0_1 a0_2 a0_3 a0_4 a0_5) := by kernel_rfl
theorem spec_l08One_eq (n : Nat) (a0 : (ByteArray × (Int × (Int × (Int × (Int × Int)))))) : spec_l08One (n + 1) a0 =
  (spec_l01Name n a0.1).bind fun r1 => 
   if r1 = true then ((spec_l08Minute n a0.2.1).bind fun r3 => 
     if r3 = true then ((spec_l08Minute n a0.2.2.1).bind fun r5 => 
       if r5 = true then (if (vNot (vEq a0.2.1 a0.2.2.1)) = true then ((spec_l00In n a0.2.2.2.1 (-1 : Int) (5 : Int)).bind fun r8 => 
          if r8 = true then ((spec_l00In n a0.2.2.2.2.1 (1 : Int) (240 : Int)).bind fun r10 => 
            if r10 = true then ((spec_l00In n a0.2.2.2.2.2 (0 : Int) (1000 : Int)).bind fun r12 => 
              some r12)
             else (some false))
           else (some false))
         else (some false))
        else (some false))
      else (some false))
    else (some false) := by kernel_rfl
theorem spec_l00Has_eq (n : Nat) (a0 : List (Int)) (a1 : Int) : spec_l00Has (n + 1) a0 a1 =
  spec_l00Has_r2 n a0 a1 (0 : Int) := by kernel_rfl
theorem spec_l08Fits_eq (n : Nat) (a0 : (ByteArray × (Int × (Int × (Int × (Int × Int)))))) (a1 : Int) (a2 : Int) : spec_l08Fits (n + 1) a0 a1 a2 =
  if (vEq (1440 : Int) (0 : Int)) = true then (none)
   else (if (vLe (0 : Int) a0.2.2.2.1) = true then (if (vNot (vEq a0.2.2.2.1 a2)) = true then (some false)
     else (spec_l08Fits_r4 n a0 (vRem a1 (1440 : Int))))
    else (spec_l08Fits_r4 n a0 (vRem a1 (1440 : Int)))) := by kernel_rfl
theorem spec_l00Src_next_r4_eq (n : Nat) (x3 : Int) (b0_0 : List (Int)) (b0_1 : Int) (b0_2 : Int) : spec_l00Src_next_r4 (n + 1) x3 b0_0 b0_1 b0_2 =
  if (vLe (wAdd .i64 b0_1 (1 : Int)) (vLen b0_0)) = true then (some (x3, (b0_0, ((wAdd .i64 b0_1 (1 : Int)), (wAdd .u64 (wAdd .u64 (wMul .u64 b0_2 (6364136223846793005 : Int)) (wConv .u64 x3)) (1442695040888963407 : Int))))))
   else (if (vLt (40 : Int) (0 : Int)) = true then (none)
    else (some ((wConv .i64 (wAnd .u64 (vShr .u64 (wAdd .u64 (wAdd .u64 (wMul .u64 b0_2 (6364136223846793005 : Int)) (wConv .u64 x3)) (1442695040888963407 : Int)) (40 : Int)) (255 : Int))), (b0_0, ((wAdd .i64 b0_1 (1 : Int)), (wAdd .u64 (wAdd .u64 (wMul .u64 b0_2 (6364136223846793005 : Int)) (wConv .u64 x3)) (1442695040888963407 : Int))))))) := by kernel_rfl
theorem impl_IsName_eq (n : Nat) (a0 : ByteArray) : impl_IsName (n + 1) a0 =
  if (vLt (sLen a0) (1 : Int)) = true then (some false)
   else (if (vLt (10 : Int) (sLen a0)) = true then (some false)
    else (if (inR (0 : Int) (sLen a0)) = true then (if (vLt (byteAt a0 (0 : Int)) (97 : Int)) = true then (some false)
      else (if (inR (0 : Int) (sLen a0)) = true then (if (vLt (122 : Int) (byteAt a0 (0 : Int))) = true then (some false)
        else ((impl_onlyNameBytes n a0).bind fun r7 => 
         some r7))
       else (none)))
     else (none))) := by kernel_rfl
theorem slices_Index_int64_int64_eq (n : Nat) (a0 : List (Int)) (a1 : Int) : slices_Index_int64_int64 (n + 1) a0 a1 =
  slices_Index_int64_int64_r2 n a0 a1 (vLen a0) (0 : Int) := by kernel_rfl
theorem impl_Item_fits_r3_eq (n : Nat) (x1 : Int) (b3_0 : ByteArray) (b3_1 : Int) (b3_2 : Int) (b3_3 : Int) (b3_4 : Int) (b3_5 : Int) : impl_Item_fits_r3 (n + 1) x1 b3_0 b3_1 b3_2 b3_3 b3_4 b3_5 =
  if (vLt b3_1 b3_2) = true then (if (vLe b3_1 x1) = true then (some (vLt x1 b3_2))
    else (some false))
   else (if (vLe b3_1 x1) = true then (some true)
    else (some (vLt x1 b3_2))) := by kernel_rfl
theorem spec_l01Name_eq (n : Nat) (a0 : ByteArray) : spec_l01Name (n + 1) a0 =
  if (sEq a0 (⟨#[]⟩ : ByteArray)) = true then (some false)
   else (if (vLt (10 : Int) (sLen a0)) = true then (some false)
    else (if (inR (0 : Int) (sLen a0)) = true then ((spec_l01Small n (byteAt a0 (0 : Int))).bind fun r4 => 
      if (vNot r4) = true then (some false)
       else (spec_l01Name_r4 n a0 (0 : Int)))
     else (none))) := by kernel_rfl
theorem spec_l00Has_r2_eq (n : Nat) (x0 : List (Int)) (x1 : Int) (x5 : Int) : spec_l00Has_r2 (n + 1) x0 x1 x5 =
  if (vLt x5 (vLen x0)) = true then (if (inR x5 (vLen x0)) = true then (if (vEq (vGet x0 x5 (0 : Int)) x1) = true then (some true)
     else (spec_l00Has_r2 n x0 x1 (wAdd .i64 x5 (1 : Int))))
    else (none))
   else (some false) := by kernel_rfl
theorem spec_l08Fits_r4_eq (n : Nat) (x0 : (ByteArray × (Int × (Int × (Int × (Int × Int)))))) (x7 : Int) : spec_l08Fits_r4 (n + 1) x0 x7 =
  if (vLt x0.2.1 x0.2.2.1) = true then (if (vLe x0.2.1 x7) = true then (some (vLt x7 x0.2.2.1))
    else (some false))
   else (if (vLe x0.2.1 x7) = true then (some true)
    else (some (vLt x7 x0.2.2.1))) := by kernel_rfl
theorem impl_onlyNameBytes_eq (n : Nat) (a0 : ByteArray) : impl_onlyNameBytes (n + 1) a0 =
  impl_onlyNameBytes_r2 n a0 (sLen a0) (0 : Int) := by kernel_rfl
theorem slices_Index_int64_int64_r2_eq (n : Nat) (x0 : List (Int)) (x1 : Int) (x7 : Int) (x8 : Int) : slices_Index_int64_int64_r2 (n + 1) x0 x1 x7 x8 =
  if (vLt x8 x7) = true then (if (inR x8 (vLen x0)) = true then (if (vEq x1 (vGet x0 x8 (0 : Int))) = true then (some x8)
     else (slices_Index_int64_int64_r2 n x0 x1 x7 (wAdd .i64 x8 (1 : Int))))
    else (none))
   else (some (-1 : Int)) := by kernel_rfl
theorem spec_l01Small_eq (n : Nat) (a0 : Int) : spec_l01Small (n + 1) a0 =
  if (vLe (97 : Int) a0) = true then (some (vLe a0 (122 : Int)))
   else (some false) := by kernel_rfl
theorem spec_l01Name_r4_eq (n : Nat) (x0 : ByteArray) (x3 : Int) : spec_l01Name_r4 (n + 1) x0 x3 =
  if (vLt x3 (sLen x0)) = true then (if (inR x3 (sLen x0)) = true then ((spec_l01Small n (byteAt x0 x3)).bind fun r3 => 
     if (vNot r3) = true then (if (inR x3 (sLen x0)) = true then ((spec_l01Digit n (byteAt x0 x3)).bind fun r6 => 
        if (vNot r6) = true then (some false)
         else (spec_l01Name_r4 n x0 (wAdd .i64 x3 (1 : Int))))
       else (none))
      else (spec_l01Name_r4 n x0 (wAdd .i64 x3 (1 : Int))))
    else (none))
   else (some true) := by kernel_rfl
theorem impl_onlyNameBytes_r2_eq (n : Nat) (x0 : ByteArray) (x6 : Int) (x7 : Int) : impl_onlyNameBytes_r2 (n + 1) x0 x6 x7 =
  if (vLt x7 x6) = true then (if (inR x7 (sLen x0)) = true then (if (vLt (byteAt x0 x7) (97 : Int)) = true then (if (vLt (byteAt x0 x7) (48 : Int)) = true then (some false)
      else (if (vLt (57 : Int) (byteAt x0 x7)) = true then (some false)
       else (impl_onlyNameBytes_r2 n x0 x6 (wAdd .i64 x7 (1 : Int)))))
     else (if (vLt (122 : Int) (byteAt x0 x7)) = true then (if (vLt (byteAt x0 x7) (48 : Int)) = true then (some false)
       else (if (vLt (57 : Int) (byteAt x0 x7)) = true then (some false)
        else (impl_onlyNameBytes_r2 n x0 x6 (wAdd .i64 x7 (1 : Int)))))
      else (impl_onlyNameBytes_r2 n x0 x6 (wAdd .i64 x7 (1 : Int)))))
    else (none))
   else (some true) := by kernel_rfl
theorem spec_l01Digit_eq (n : Nat) (a0 : Int) : spec_l01Digit (n + 1) a0 =
  if (vLe (48 : Int) a0) = true then (some (vLe a0 (57 : Int)))
   else (some false) := by kernel_rfl
end Go.Proofs.Yticifedehhnjhaa.F
