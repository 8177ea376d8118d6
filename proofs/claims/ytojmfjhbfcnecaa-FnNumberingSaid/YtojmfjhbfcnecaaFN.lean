/- The functions that the law reaches, as functions on plain values. -/
import Derived.Test.YtojmfjhbfcnecaaEC
namespace Go.Proofs.Ytojmfjhbfcnecaa.F
set_option linter.unusedVariables false
set_option maxRecDepth 100000
open Go Go.Proofs.Ytojmfjhbfcnecaa.Eng
noncomputable def laws_FnNumbering (n : Nat) (a0 : List (Int)) (a1 : List (Int)) : Option (Bool) := evN CFG n (.call ⟨6, [.cv false [.v (.sl (.int .u8)) a0], .cv false [.v (.sl (.int .u8)) a1]]⟩)
noncomputable def laws_r8Long (n : Nat) (a0 : List (Int)) (a1 : List (Int)) : Option (Bool) := evN CFG n (.call ⟨34, [.cv false [.v (.sl (.int .u8)) a0], .cv false [.v (.sl (.int .u8)) a1]]⟩)
noncomputable def spec_R8Grammar (n : Nat) (a0 : List (Int)) : Option ((Int × (Int × (List (Int) × List ((Int × (Int × Int))))))) := evN CFG n (.call ⟨35, [.cv false [.v (.sl (.int .u8)) a0]]⟩)
noncomputable def laws_r8At (n : Nat) (a0 : List (Int)) (a1 : Int) (a2 : Int) : Option (Int) := evN CFG n (.call ⟨36, [.cv false [.v (.sl (.int .u8)) a0], .cv false [.v (.int .i64) a1], .cv false [.v (.int .i64) a2]]⟩)
noncomputable def impl_CountMelodies (n : Nat) (a0_0 : Int) (a0_1 : Int) (a0_2 : List (Int)) (a0_3 : List ((Int × (Int × Int)))) (a1 : Int) : Option ((Int × Int)) := evN CFG n (.call ⟨37, [.cv true [.v (.int .i64) a0_0, .v (.int .i64) a0_1, .v (.sl (.int .i64)) a0_2, .v (.sl (.pair (.int .i64) (.pair (.int .i64) (.int .i64)))) a0_3], .cv false [.v (.int .i64) a1]]⟩)
noncomputable def impl_NumberedMelody (n : Nat) (a0_0 : Int) (a0_1 : Int) (a0_2 : List (Int)) (a0_3 : List ((Int × (Int × Int)))) (a1 : Int) (a2 : Int) : Option ((List (Int) × Int)) := evN CFG n (.call ⟨38, [.cv true [.v (.int .i64) a0_0, .v (.int .i64) a0_1, .v (.sl (.int .i64)) a0_2, .v (.sl (.pair (.int .i64) (.pair (.int .i64) (.int .i64)))) a0_3], .cv false [.v (.int .i64) a1], .cv false [.v (.int .i64) a2]]⟩)
noncomputable def laws_r8Wide (n : Nat) (a0 : List (Int)) (a1 : Int) (a2 : Int) : Option (Int) := evN CFG n (.call ⟨39, [.cv false [.v (.sl (.int .u8)) a0], .cv false [.v (.int .i64) a1], .cv false [.v (.int .i64) a2]]⟩)
noncomputable def impl_MelodyNumber (n : Nat) (a0_0 : Int) (a0_1 : Int) (a0_2 : List (Int)) (a0_3 : List ((Int × (Int × Int)))) (a1 : List (Int)) : Option ((Int × Int)) := evN CFG n (.call ⟨40, [.cv true [.v (.int .i64) a0_0, .v (.int .i64) a0_1, .v (.sl (.int .i64)) a0_2, .v (.sl (.pair (.int .i64) (.pair (.int .i64) (.int .i64)))) a0_3], .cv false [.v (.sl (.int .i64)) a1]]⟩)
noncomputable def spec_Accepts (n : Nat) (a0_0 : Int) (a0_1 : Int) (a0_2 : List (Int)) (a0_3 : List ((Int × (Int × Int)))) (a1 : List (Int)) : Option (Bool) := evN CFG n (.call ⟨41, [.cv true [.v (.int .i64) a0_0, .v (.int .i64) a0_1, .v (.sl (.int .i64)) a0_2, .v (.sl (.pair (.int .i64) (.pair (.int .i64) (.int .i64)))) a0_3], .cv false [.v (.sl (.int .i64)) a1]]⟩)
noncomputable def laws_FnNumbering_r22 (n : Nat) (x12 : List (Int)) (x16 : List (Int)) (x18 : Int) : Option (Bool) := evN CFG n (.run 6 [0, 0] (tdo CFG 6 22) (mkSt [(.tm 12, .tm 0 (.cv false [.own (.int .i64) x12])), (.tm 16, .tm 0 (.cv false [.own (.int .i64) x16])), (.tm 18, .tm 0 (.cv false [.v (.int .i64) x18]))]))
noncomputable def spec_l00From (n : Nat) (a0 : List (Int)) : Option ((List (Int) × (Int × Int))) := evN CFG n (.call ⟨79, [.cv false [.v (.sl (.int .u8)) a0]]⟩)
noncomputable def spec_l07Draw (n : Nat) (p0_0 : List (Int)) (p0_1 : Int) (p0_2 : Int) : Option ((Int × (Int × (List (Int) × (List ((Int × (Int × Int))) × (List (Int) × (Int × Int))))))) := evN CFG n (.call ⟨97, [.io [.v (.sl (.int .u8)) p0_0, .v (.int .i64) p0_1, .v (.int .u64) p0_2]]⟩)
noncomputable def impl_ValidGrammar (n : Nat) (a0_0 : Int) (a0_1 : Int) (a0_2 : List (Int)) (a0_3 : List ((Int × (Int × Int)))) : Option (Bool) := evN CFG n (.call ⟨98, [.cv true [.v (.int .i64) a0_0, .v (.int .i64) a0_1, .v (.sl (.int .i64)) a0_2, .v (.sl (.pair (.int .i64) (.pair (.int .i64) (.int .i64)))) a0_3]]⟩)
noncomputable def impl_within (n : Nat) (a0 : Int) (a1 : Int) (a2 : Int) : Option (Bool) := evN CFG n (.call ⟨86, [.cv false [.v (.int .i64) a0], .cv false [.v (.int .i64) a1], .cv false [.v (.int .i64) a2]]⟩)
noncomputable def impl_Grammar_counts (n : Nat) (a0_0 : Int) (a0_1 : Int) (a0_2 : List (Int)) (a0_3 : List ((Int × (Int × Int)))) (a1 : Int) : Option (List (List (Int))) := evN CFG n (.call ⟨99, [.cv true [.v (.int .i64) a0_0, .v (.int .i64) a0_1, .v (.sl (.int .i64)) a0_2, .v (.sl (.pair (.int .i64) (.pair (.int .i64) (.int .i64)))) a0_3], .cv false [.v (.int .i64) a1]]⟩)
noncomputable def impl_NumberedMelody_r11 (n : Nat) (x2 : Int) (x8 : List (List (Int))) (x9 : List (Int)) (x10 : Int) (x11 : Int) (b3_0 : Int) (b3_1 : Int) (b3_2 : List (Int)) (b3_3 : List ((Int × (Int × Int)))) : Option ((List (Int) × Int)) := evN CFG n (.run 38 [0, 0, 0] (tdo CFG 38 11) (mkSt [(.tm 2, .tm 0 (.cv false [.v (.int .i64) x2])), (.tm 3, .tm 0 (.cv false [.pb 3 0 0])), (.tm 8, .tm 0 (.cv false [.own (.sl (.int .i64)) x8])), (.tm 9, .tm 0 (.cv false [.own (.int .i64) x9])), (.tm 10, .tm 0 (.cv false [.v (.int .i64) x10])), (.tm 11, .tm 0 (.cv false [.v (.int .i64) x11])), (.bx 3, .bx 0 [(0, .v (.int .i64) b3_0), (0, .v (.int .i64) b3_1), (0, .v (.sl (.int .i64)) b3_2), (0, .v (.sl (.pair (.int .i64) (.pair (.int .i64) (.int .i64)))) b3_3)])]))
noncomputable def impl_Accepts (n : Nat) (a0_0 : Int) (a0_1 : Int) (a0_2 : List (Int)) (a0_3 : List ((Int × (Int × Int)))) (a1 : List (Int)) : Option (Bool) := evN CFG n (.call ⟨101, [.cv true [.v (.int .i64) a0_0, .v (.int .i64) a0_1, .v (.sl (.int .i64)) a0_2, .v (.sl (.pair (.int .i64) (.pair (.int .i64) (.int .i64)))) a0_3], .cv false [.v (.sl (.int .i64)) a1]]⟩)
noncomputable def impl_MelodyNumber_r10 (n : Nat) (x6 : Int) (x7 : List (List (Int))) (x8 : Int) (x9 : Int) (x33 : List (Int)) (x34 : Int) (x35 : Int) (b2_0 : Int) (b2_1 : Int) (b2_2 : List (Int)) (b2_3 : List ((Int × (Int × Int)))) : Option ((Int × Int)) := evN CFG n (.run 40 [0, 0] (tdo CFG 40 10) (mkSt [(.tm 2, .tm 0 (.cv false [.pb 2 0 0])), (.tm 6, .tm 0 (.cv false [.v (.int .i64) x6])), (.tm 7, .tm 0 (.cv false [.own (.sl (.int .i64)) x7])), (.tm 8, .tm 0 (.cv false [.v (.int .i64) x8])), (.tm 9, .tm 0 (.cv false [.v (.int .i64) x9])), (.tm 33, .tm 0 (.cv false [.v (.sl (.int .i64)) x33])), (.tm 34, .tm 0 (.cv false [.v (.int .i64) x34])), (.tm 35, .tm 0 (.cv false [.v (.int .i64) x35])), (.bx 2, .bx 0 [(0, .v (.int .i64) b2_0), (0, .v (.int .i64) b2_1), (0, .v (.sl (.int .i64)) b2_2), (0, .v (.sl (.pair (.int .i64) (.pair (.int .i64) (.int .i64)))) b2_3)])]))
noncomputable def spec_l07Ok (n : Nat) (p0_0 : Int) (p0_1 : Int) (p0_2 : List (Int)) (p0_3 : List ((Int × (Int × Int)))) : Option ((Bool × (Int × (Int × (List (Int) × List ((Int × (Int × Int)))))))) := evN CFG n (.call ⟨102, [.io [.v (.int .i64) p0_0, .v (.int .i64) p0_1, .v (.sl (.int .i64)) p0_2, .v (.sl (.pair (.int .i64) (.pair (.int .i64) (.int .i64)))) p0_3]]⟩)
noncomputable def spec_l07Accepts (n : Nat) (p0_0 : Int) (p0_1 : Int) (p0_2 : List (Int)) (p0_3 : List ((Int × (Int × Int)))) (a1 : List (Int)) : Option ((Bool × (Int × (Int × (List (Int) × List ((Int × (Int × Int)))))))) := evN CFG n (.call ⟨103, [.io [.v (.int .i64) p0_0, .v (.int .i64) p0_1, .v (.sl (.int .i64)) p0_2, .v (.sl (.pair (.int .i64) (.pair (.int .i64) (.int .i64)))) p0_3], .cv false [.v (.sl (.int .i64)) a1]]⟩)
noncomputable def spec_l00Src_one (n : Nat) (p0_0 : List (Int)) (p0_1 : Int) (p0_2 : Int) (a1 : Int) : Option ((Bool × (List (Int) × (Int × Int)))) := evN CFG n (.call ⟨92, [.io [.v (.sl (.int .u8)) p0_0, .v (.int .i64) p0_1, .v (.int .u64) p0_2], .cv false [.v (.int .i64) a1]]⟩)
noncomputable def spec_l05Draw (n : Nat) (p0_0 : List (Int)) (p0_1 : Int) (p0_2 : Int) : Option ((ByteArray × (List (Int) × (List (Int) × (Int × (Int × (List (List (Int)) × (List (Int) × (Int × Int))))))))) := evN CFG n (.call ⟨110, [.io [.v (.sl (.int .u8)) p0_0, .v (.int .i64) p0_1, .v (.int .u64) p0_2]]⟩)
noncomputable def spec_l00Src_pick (n : Nat) (p0_0 : List (Int)) (p0_1 : Int) (p0_2 : Int) (a1 : Int) : Option ((Int × (List (Int) × (Int × Int)))) := evN CFG n (.call ⟨93, [.io [.v (.sl (.int .u8)) p0_0, .v (.int .i64) p0_1, .v (.int .u64) p0_2], .cv false [.v (.int .i64) a1]]⟩)
noncomputable def spec_l07Of (n : Nat) (p0_0 : ByteArray) (p0_1 : List (Int)) (p0_2 : List (Int)) (p0_3 : Int) (p0_4 : Int) (p0_5 : List (List (Int))) (a1 : Int) (a2 : Int) : Option ((Int × (Int × (List (Int) × (List ((Int × (Int × Int))) × (ByteArray × (List (Int) × (List (Int) × (Int × (Int × List (List (Int)))))))))))) := evN CFG n (.call ⟨153, [.io [.v .str p0_0, .v (.sl (.int .i64)) p0_1, .v (.sl (.int .i64)) p0_2, .v (.int .i64) p0_3, .v (.int .i64) p0_4, .v (.sl (.sl (.int .i64))) p0_5], .cv false [.v (.int .i64) a1], .cv false [.v (.int .i64) a2]]⟩)
noncomputable def spec_l07Draw_r7 (n : Nat) (b0_0 : List (Int)) (b0_1 : Int) (b0_2 : Int) (b2_0 : Int) (b2_1 : Int) (b2_2 : List (Int)) (b2_3 : List ((Int × (Int × Int)))) : Option ((Int × (Int × (List (Int) × (List ((Int × (Int × Int))) × (List (Int) × (Int × Int))))))) := evN CFG n (.run 97 [1] (tdo CFG 97 7) (mkSt [(.tm 0, .tm 0 (.cv false [.pb 0 0 0])), (.tm 2, .tm 0 (.cv false [.pb 2 0 0])), (.bx 0, .bx 0 [(0, .v (.sl (.int .u8)) b0_0), (0, .v (.int .i64) b0_1), (0, .v (.int .u64) b0_2)]), (.bx 2, .bx 0 [(0, .v (.int .i64) b2_0), (0, .v (.int .i64) b2_1), (0, .own (.int .i64) b2_2), (0, .own (.pair (.int .i64) (.pair (.int .i64) (.int .i64))) b2_3)])]))
noncomputable def impl_Grammar_hasState (n : Nat) (a0_0 : Int) (a0_1 : Int) (a0_2 : List (Int)) (a0_3 : List ((Int × (Int × Int)))) (a1 : Int) : Option (Bool) := evN CFG n (.call ⟨154, [.cv true [.v (.int .i64) a0_0, .v (.int .i64) a0_1, .v (.sl (.int .i64)) a0_2, .v (.sl (.pair (.int .i64) (.pair (.int .i64) (.int .i64)))) a0_3], .cv false [.v (.int .i64) a1]]⟩)
noncomputable def impl_increasing (n : Nat) (a0 : List (Int)) : Option (Bool) := evN CFG n (.call ⟨144, [.cv false [.v (.sl (.int .i64)) a0]]⟩)
noncomputable def impl_allWithin (n : Nat) (a0 : List (Int)) (a1 : Int) (a2 : Int) : Option (Bool) := evN CFG n (.call ⟨137, [.cv false [.v (.sl (.int .i64)) a0], .cv false [.v (.int .i64) a1], .cv false [.v (.int .i64) a2]]⟩)
noncomputable def impl_ValidGrammar_r4 (n : Nat) (x38 : List ((Int × (Int × Int)))) (x39 : Int) (x40 : Int) (b1_0 : Int) (b1_1 : Int) (b1_2 : List (Int)) (b1_3 : List ((Int × (Int × Int)))) : Option (Bool) := evN CFG n (.run 98 [0] (tdo CFG 98 4) (mkSt [(.tm 1, .tm 0 (.cv false [.pb 1 0 0])), (.tm 38, .tm 0 (.cv false [.v (.sl (.pair (.int .i64) (.pair (.int .i64) (.int .i64)))) x38])), (.tm 39, .tm 0 (.cv false [.v (.int .i64) x39])), (.tm 40, .tm 0 (.cv false [.v (.int .i64) x40])), (.bx 1, .bx 0 [(0, .v (.int .i64) b1_0), (0, .v (.int .i64) b1_1), (0, .v (.sl (.int .i64)) b1_2), (0, .v (.sl (.pair (.int .i64) (.pair (.int .i64) (.int .i64)))) b1_3)])]))
noncomputable def impl_Grammar_counts_r3 (n : Nat) (x1 : Int) (x5 : List (Int)) (x17 : List (Int)) (x18 : Int) (x19 : Int) (b2_0 : Int) (b2_1 : Int) (b2_2 : List (Int)) (b2_3 : List ((Int × (Int × Int)))) : Option (List (List (Int))) := evN CFG n (.run 99 [0, 0] (tdo CFG 99 3) (mkSt [(.tm 1, .tm 0 (.cv false [.v (.int .i64) x1])), (.tm 2, .tm 0 (.cv false [.pb 2 0 0])), (.tm 5, .tm 0 (.cv false [.own (.int .i64) x5])), (.tm 17, .tm 0 (.cv false [.v (.sl (.int .i64)) x17])), (.tm 18, .tm 0 (.cv false [.v (.int .i64) x18])), (.tm 19, .tm 0 (.cv false [.v (.int .i64) x19])), (.bx 2, .bx 0 [(0, .v (.int .i64) b2_0), (0, .v (.int .i64) b2_1), (0, .v (.sl (.int .i64)) b2_2), (0, .v (.sl (.pair (.int .i64) (.pair (.int .i64) (.int .i64)))) b2_3)])]))
noncomputable def impl_Grammar_arcsOf (n : Nat) (a0_0 : Int) (a0_1 : Int) (a0_2 : List (Int)) (a0_3 : List ((Int × (Int × Int)))) (a1 : Int) : Option (List ((Int × (Int × Int)))) := evN CFG n (.call ⟨100, [.cv true [.v (.int .i64) a0_0, .v (.int .i64) a0_1, .v (.sl (.int .i64)) a0_2, .v (.sl (.pair (.int .i64) (.pair (.int .i64) (.int .i64)))) a0_3], .cv false [.v (.int .i64) a1]]⟩)
noncomputable def impl_NumberedMelody_r14 (n : Nat) (x2 : Int) (x8 : List (List (Int))) (x9 : List (Int)) (x10 : Int) (x11 : Int) (x49 : List ((Int × (Int × Int)))) (x50 : Int) (x51 : Int) (b3_0 : Int) (b3_1 : Int) (b3_2 : List (Int)) (b3_3 : List ((Int × (Int × Int)))) : Option ((List (Int) × Int)) := evN CFG n (.run 38 [0, 0, 0] (tdo CFG 38 14) (mkSt [(.tm 2, .tm 0 (.cv false [.v (.int .i64) x2])), (.tm 3, .tm 0 (.cv false [.pb 3 0 0])), (.tm 8, .tm 0 (.cv false [.own (.sl (.int .i64)) x8])), (.tm 9, .tm 0 (.cv false [.own (.int .i64) x9])), (.tm 10, .tm 0 (.cv false [.v (.int .i64) x10])), (.tm 11, .tm 0 (.cv false [.v (.int .i64) x11])), (.tm 49, .tm 0 (.cv false [.own (.pair (.int .i64) (.pair (.int .i64) (.int .i64))) x49])), (.tm 50, .tm 0 (.cv false [.v (.int .i64) x50])), (.tm 51, .tm 0 (.cv false [.v (.int .i64) x51])), (.bx 3, .bx 0 [(0, .v (.int .i64) b3_0), (0, .v (.int .i64) b3_1), (0, .v (.sl (.int .i64)) b3_2), (0, .v (.sl (.pair (.int .i64) (.pair (.int .i64) (.int .i64)))) b3_3)])]))
noncomputable def impl_Grammar_follow (n : Nat) (a0_0 : Int) (a0_1 : Int) (a0_2 : List (Int)) (a0_3 : List ((Int × (Int × Int)))) (a1 : List (Int)) : Option ((Int × Int)) := evN CFG n (.call ⟨156, [.cv true [.v (.int .i64) a0_0, .v (.int .i64) a0_1, .v (.sl (.int .i64)) a0_2, .v (.sl (.pair (.int .i64) (.pair (.int .i64) (.int .i64)))) a0_3], .cv false [.v (.sl (.int .i64)) a1]]⟩)
noncomputable def impl_Grammar_isFinal (n : Nat) (a0_0 : Int) (a0_1 : Int) (a0_2 : List (Int)) (a0_3 : List ((Int × (Int × Int)))) (a1 : Int) : Option (Bool) := evN CFG n (.call ⟨105, [.cv true [.v (.int .i64) a0_0, .v (.int .i64) a0_1, .v (.sl (.int .i64)) a0_2, .v (.sl (.pair (.int .i64) (.pair (.int .i64) (.int .i64)))) a0_3], .cv false [.v (.int .i64) a1]]⟩)
noncomputable def impl_MelodyNumber_r13 (n : Nat) (x6 : Int) (x7 : List (List (Int))) (x8 : Int) (x9 : Int) (x10 : Int) (x11 : Int) (x33 : List (Int)) (x34 : Int) (x35 : Int) (x42 : List ((Int × (Int × Int)))) (x43 : Int) (x44 : Int) (b2_0 : Int) (b2_1 : Int) (b2_2 : List (Int)) (b2_3 : List ((Int × (Int × Int)))) : Option ((Int × Int)) := evN CFG n (.run 40 [0, 0] (tdo CFG 40 13) (mkSt [(.tm 2, .tm 0 (.cv false [.pb 2 0 0])), (.tm 6, .tm 0 (.cv false [.v (.int .i64) x6])), (.tm 7, .tm 0 (.cv false [.own (.sl (.int .i64)) x7])), (.tm 8, .tm 0 (.cv false [.v (.int .i64) x8])), (.tm 9, .tm 0 (.cv false [.v (.int .i64) x9])), (.tm 10, .tm 0 (.cv false [.v (.int .i64) x10])), (.tm 11, .tm 0 (.cv false [.v (.int .i64) x11])), (.tm 33, .tm 0 (.cv false [.v (.sl (.int .i64)) x33])), (.tm 34, .tm 0 (.cv false [.v (.int .i64) x34])), (.tm 35, .tm 0 (.cv false [.v (.int .i64) x35])), (.tm 42, .tm 0 (.cv false [.own (.pair (.int .i64) (.pair (.int .i64) (.int .i64))) x42])), (.tm 43, .tm 0 (.cv false [.v (.int .i64) x43])), (.tm 44, .tm 0 (.cv false [.v (.int .i64) x44])), (.bx 2, .bx 0 [(0, .v (.int .i64) b2_0), (0, .v (.int .i64) b2_1), (0, .v (.sl (.int .i64)) b2_2), (0, .v (.sl (.pair (.int .i64) (.pair (.int .i64) (.int .i64)))) b2_3)])]))
noncomputable def spec_l00In (n : Nat) (a0 : Int) (a1 : Int) (a2 : Int) : Option (Bool) := evN CFG n (.call ⟨109, [.cv false [.v (.int .i64) a0], .cv false [.v (.int .i64) a1], .cv false [.v (.int .i64) a2]]⟩)
noncomputable def spec_l00Rises (n : Nat) (a0 : List (Int)) (a1 : Int) (a2 : Int) : Option (Bool) := evN CFG n (.call ⟨157, [.cv false [.v (.sl (.int .i64)) a0], .cv false [.v (.int .i64) a1], .cv false [.v (.int .i64) a2]]⟩)
noncomputable def spec_l07Ok_r4 (n : Nat) (x3 : Int) (b0_0 : Int) (b0_1 : Int) (b0_2 : List (Int)) (b0_3 : List ((Int × (Int × Int)))) : Option ((Bool × (Int × (Int × (List (Int) × List ((Int × (Int × Int)))))))) := evN CFG n (.run 102 [1] (tdo CFG 102 4) (mkSt [(.tm 0, .tm 0 (.cv false [.pb 0 0 0])), (.tm 3, .tm 0 (.cv false [.v (.int .i64) x3])), (.bx 0, .bx 0 [(0, .v (.int .i64) b0_0), (0, .v (.int .i64) b0_1), (0, .v (.sl (.int .i64)) b0_2), (0, .v (.sl (.pair (.int .i64) (.pair (.int .i64) (.int .i64)))) b0_3)])]))
noncomputable def spec_l07Run (n : Nat) (p0_0 : Int) (p0_1 : Int) (p0_2 : List (Int)) (p0_3 : List ((Int × (Int × Int)))) (a1 : List (Int)) : Option ((Int × (Int × (Int × (Int × (List (Int) × List ((Int × (Int × Int))))))))) := evN CFG n (.call ⟨158, [.io [.v (.int .i64) p0_0, .v (.int .i64) p0_1, .v (.sl (.int .i64)) p0_2, .v (.sl (.pair (.int .i64) (.pair (.int .i64) (.int .i64)))) p0_3], .cv false [.v (.sl (.int .i64)) a1]]⟩)
noncomputable def spec_l00Has (n : Nat) (a0 : List (Int)) (a1 : Int) : Option (Bool) := evN CFG n (.call ⟨133, [.cv false [.v (.sl (.int .i64)) a0], .cv false [.v (.int .i64) a1]]⟩)
noncomputable def spec_l00Src_text (n : Nat) (p0_0 : List (Int)) (p0_1 : Int) (p0_2 : Int) (a1 : List (ByteArray)) : Option ((ByteArray × (List (Int) × (Int × Int)))) := evN CFG n (.call ⟨159, [.io [.v (.sl (.int .u8)) p0_0, .v (.int .i64) p0_1, .v (.int .u64) p0_2], .cv false [.v (.sl .str) a1]]⟩)
noncomputable def spec_l05Read (n : Nat) (a0 : ByteArray) : Option ((ByteArray × (List (Int) × (List (Int) × (Int × (Int × (List (List (Int)) × Bool))))))) := evN CFG n (.call ⟨160, [.cv false [.v .str a0]]⟩)
noncomputable def spec_l05Draw_r4 (n : Nat) (b0_0 : List (Int)) (b0_1 : Int) (b0_2 : Int) (b2_0 : ByteArray) (b2_1 : List (Int)) (b2_2 : List (Int)) (b2_3 : Int) (b2_4 : Int) (b2_5 : List (List (Int))) (b4_0 : ByteArray) (b4_1 : List (Int)) (b4_2 : List (Int)) (b4_3 : Int) (b4_4 : Int) (b4_5 : List (List (Int))) : Option ((ByteArray × (List (Int) × (List (Int) × (Int × (Int × (List (List (Int)) × (List (Int) × (Int × Int))))))))) := evN CFG n (.run 110 [1] (tdo CFG 110 4) (mkSt [(.tm 0, .tm 0 (.cv false [.pb 0 0 0])), (.tm 2, .tm 0 (.cv false [.pb 2 0 0])), (.tm 4, .tm 0 (.cv false [.pb 4 0 0])), (.bx 0, .bx 0 [(0, .v (.sl (.int .u8)) b0_0), (0, .v (.int .i64) b0_1), (0, .v (.int .u64) b0_2)]), (.bx 2, .bx 0 [(0, .v .str b2_0), (0, .own (.int .i64) b2_1), (0, .own (.int .i64) b2_2), (0, .v (.int .i64) b2_3), (0, .v (.int .i64) b2_4), (0, .own (.sl (.int .i64)) b2_5)]), (.bx 4, .bx 0 [(0, .v .str b4_0), (0, .v (.sl (.int .i64)) b4_1), (0, .v (.sl (.int .i64)) b4_2), (0, .v (.int .i64) b4_3), (0, .v (.int .i64) b4_4), (0, .v (.sl (.sl (.int .i64))) b4_5)])]))
noncomputable def spec_l05Draw_r11 (n : Nat) (b0_0 : List (Int)) (b0_1 : Int) (b0_2 : Int) (b2_0 : ByteArray) (b2_1 : List (Int)) (b2_2 : List (Int)) (b2_3 : Int) (b2_4 : Int) (b2_5 : List (List (Int))) (b4_0 : ByteArray) (b4_1 : List (Int)) (b4_2 : List (Int)) (b4_3 : Int) (b4_4 : Int) (b4_5 : List (List (Int))) : Option ((ByteArray × (List (Int) × (List (Int) × (Int × (Int × (List (List (Int)) × (List (Int) × (Int × Int))))))))) := evN CFG n (.run 110 [1] (tdo CFG 110 11) (mkSt [(.tm 0, .tm 0 (.cv false [.pb 0 0 0])), (.tm 2, .tm 0 (.cv false [.pb 2 0 0])), (.tm 4, .tm 0 (.cv false [.pb 4 0 0])), (.bx 0, .bx 0 [(0, .v (.sl (.int .u8)) b0_0), (0, .v (.int .i64) b0_1), (0, .v (.int .u64) b0_2)]), (.bx 2, .bx 0 [(0, .v .str b2_0), (0, .own (.int .i64) b2_1), (0, .own (.int .i64) b2_2), (0, .v (.int .i64) b2_3), (0, .v (.int .i64) b2_4), (0, .own (.sl (.int .i64)) b2_5)]), (.bx 4, .bx 0 [(0, .v .str b4_0), (0, .v (.sl (.int .i64)) b4_1), (0, .v (.sl (.int .i64)) b4_2), (0, .v (.int .i64) b4_3), (0, .v (.int .i64) b4_4), (0, .v (.sl (.sl (.int .i64))) b4_5)])]))
noncomputable def spec_l00Src_next (n : Nat) (p0_0 : List (Int)) (p0_1 : Int) (p0_2 : Int) : Option ((Int × (List (Int) × (Int × Int)))) := evN CFG n (.call ⟨151, [.io [.v (.sl (.int .u8)) p0_0, .v (.int .i64) p0_1, .v (.int .u64) p0_2]]⟩)
noncomputable def spec_l07Of_r3 (n : Nat) (x2 : Int) (x7 : List (Int)) (x8 : Int) (b0_0 : ByteArray) (b0_1 : List (Int)) (b0_2 : List (Int)) (b0_3 : Int) (b0_4 : Int) (b0_5 : List (List (Int))) (b6_0 : Int) (b6_1 : Int) (b6_2 : List (Int)) (b6_3 : List ((Int × (Int × Int)))) : Option ((Int × (Int × (List (Int) × (List ((Int × (Int × Int))) × (ByteArray × (List (Int) × (List (Int) × (Int × (Int × List (List (Int)))))))))))) := evN CFG n (.run 153 [1, 0, 0] (tdo CFG 153 3) (mkSt [(.tm 0, .tm 0 (.cv false [.pb 0 0 0])), (.tm 2, .tm 0 (.cv false [.v (.int .i64) x2])), (.tm 6, .tm 0 (.cv false [.pb 6 0 0])), (.tm 7, .tm 0 (.cv false [.own (.int .i64) x7])), (.tm 8, .tm 0 (.cv false [.v (.int .i64) x8])), (.bx 0, .bx 0 [(0, .v .str b0_0), (0, .v (.sl (.int .i64)) b0_1), (0, .v (.sl (.int .i64)) b0_2), (0, .v (.int .i64) b0_3), (0, .v (.int .i64) b0_4), (0, .v (.sl (.sl (.int .i64))) b0_5)]), (.bx 6, .bx 0 [(0, .v (.int .i64) b6_0), (0, .v (.int .i64) b6_1), (0, .own (.int .i64) b6_2), (0, .own (.pair (.int .i64) (.pair (.int .i64) (.int .i64))) b6_3)])]))
noncomputable def spec_l07Draw_r10 (n : Nat) (x7 : Int) (b0_0 : List (Int)) (b0_1 : Int) (b0_2 : Int) (b2_0 : Int) (b2_1 : Int) (b2_2 : List (Int)) (b2_3 : List ((Int × (Int × Int)))) (b6_0 : Int) (b6_1 : Int) (b6_2 : List (Int)) (b6_3 : List ((Int × (Int × Int)))) : Option ((Int × (Int × (List (Int) × (List ((Int × (Int × Int))) × (List (Int) × (Int × Int))))))) := evN CFG n (.run 97 [1] (tdo CFG 97 10) (mkSt [(.tm 0, .tm 0 (.cv false [.pb 0 0 0])), (.tm 2, .tm 0 (.cv false [.pb 2 0 0])), (.tm 6, .tm 0 (.cv false [.pb 6 0 0])), (.tm 7, .tm 0 (.cv false [.v (.int .i64) x7])), (.bx 0, .bx 0 [(0, .v (.sl (.int .u8)) b0_0), (0, .v (.int .i64) b0_1), (0, .v (.int .u64) b0_2)]), (.bx 2, .bx 0 [(0, .v (.int .i64) b2_0), (0, .v (.int .i64) b2_1), (0, .own (.int .i64) b2_2), (0, .own (.pair (.int .i64) (.pair (.int .i64) (.int .i64))) b2_3)]), (.bx 6, .bx 0 [(0, .v (.int .i64) b6_0), (0, .v (.int .i64) b6_1), (0, .own (.int .i64) b6_2), (0, .own (.pair (.int .i64) (.pair (.int .i64) (.int .i64))) b6_3)])]))
noncomputable def impl_increasing_r2 (n : Nat) (x0 : List (Int)) (x3 : Int) : Option (Bool) := evN CFG n (.run 144 [0] (tdo CFG 144 2) (mkSt [(.tm 0, .tm 0 (.cv false [.v (.sl (.int .i64)) x0])), (.tm 3, .tm 0 (.cv false [.v (.int .i64) x3]))]))
noncomputable def slices_ContainsFunc_int64_int64_i0 (n : Nat) (a0 : List (Int)) (a1c0 : Int) (a1c1 : Int) : Option (Bool) := evN CFG n (.call ⟨67, [.cv false [.v (.sl (.int .i64)) a0], .cv false [.fn 174 [⟨(.int .i64), a1c0⟩, ⟨(.int .i64), a1c1⟩]]]⟩)
noncomputable def impl_pitchOk (n : Nat) (a0 : Int) : Option (Bool) := evN CFG n (.call ⟨147, [.cv false [.v (.int .i64) a0]]⟩)
noncomputable def impl_compareArcs (n : Nat) (a0_0 : Int) (a0_1 : Int) (a0_2 : Int) (a1_0 : Int) (a1_1 : Int) (a1_2 : Int) : Option (Int) := evN CFG n (.call ⟨155, [.cv true [.v (.int .i64) a0_0, .v (.int .i64) a0_1, .v (.int .i64) a0_2], .cv true [.v (.int .i64) a1_0, .v (.int .i64) a1_1, .v (.int .i64) a1_2]]⟩)
noncomputable def impl_Grammar_counts_r9 (n : Nat) (x8 : List (List (Int))) (x29 : Int) (x30 : Int) (b2_0 : Int) (b2_1 : Int) (b2_2 : List (Int)) (b2_3 : List ((Int × (Int × Int)))) : Option (List (List (Int))) := evN CFG n (.run 99 [0, 0] (tdo CFG 99 9) (mkSt [(.tm 2, .tm 0 (.cv false [.pb 2 0 0])), (.tm 8, .tm 0 (.cv false [.own (.sl (.int .i64)) x8])), (.tm 29, .tm 0 (.cv false [.v (.int .i64) x29])), (.tm 30, .tm 0 (.cv false [.v (.int .i64) x30])), (.bx 2, .bx 0 [(0, .v (.int .i64) b2_0), (0, .v (.int .i64) b2_1), (0, .v (.sl (.int .i64)) b2_2), (0, .v (.sl (.pair (.int .i64) (.pair (.int .i64) (.int .i64)))) b2_3)])]))
noncomputable def impl_Grammar_arcsOf_r3 (n : Nat) (x1 : Int) (x5 : List ((Int × (Int × Int)))) (x9 : List ((Int × (Int × Int)))) (x10 : Int) (x11 : Int) : Option (List ((Int × (Int × Int)))) := evN CFG n (.run 100 [0, 0] (tdo CFG 100 3) (mkSt [(.tm 1, .tm 0 (.cv false [.v (.int .i64) x1])), (.tm 5, .tm 0 (.cv false [.own (.pair (.int .i64) (.pair (.int .i64) (.int .i64))) x5])), (.tm 9, .tm 0 (.cv false [.v (.sl (.pair (.int .i64) (.pair (.int .i64) (.int .i64)))) x9])), (.tm 10, .tm 0 (.cv false [.v (.int .i64) x10])), (.tm 11, .tm 0 (.cv false [.v (.int .i64) x11]))]))
noncomputable def impl_Grammar_follow_r3 (n : Nat) (x1 : List (Int)) (x6 : Int) (x13 : List (Int)) (x14 : Int) (x15 : Int) (b2_0 : Int) (b2_1 : Int) (b2_2 : List (Int)) (b2_3 : List ((Int × (Int × Int)))) : Option ((Int × Int)) := evN CFG n (.run 156 [0, 0] (tdo CFG 156 3) (mkSt [(.tm 1, .tm 0 (.cv false [.v (.sl (.int .i64)) x1])), (.tm 2, .tm 0 (.cv false [.pb 2 0 0])), (.tm 6, .tm 0 (.cv false [.v (.int .i64) x6])), (.tm 13, .tm 0 (.cv false [.v (.sl (.int .i64)) x13])), (.tm 14, .tm 0 (.cv false [.v (.int .i64) x14])), (.tm 15, .tm 0 (.cv false [.v (.int .i64) x15])), (.bx 2, .bx 0 [(0, .v (.int .i64) b2_0), (0, .v (.int .i64) b2_1), (0, .v (.sl (.int .i64)) b2_2), (0, .v (.sl (.pair (.int .i64) (.pair (.int .i64) (.int .i64)))) b2_3)])]))
noncomputable def slices_Contains_int64_int64 (n : Nat) (a0 : List (Int)) (a1 : Int) : Option (Bool) := evN CFG n (.call ⟨139, [.cv false [.v (.sl (.int .i64)) a0], .cv false [.v (.int .i64) a1]]⟩)
noncomputable def spec_l00Rises_r2 (n : Nat) (x0 : List (Int)) (x1 : Int) (x2 : Int) (x7 : Int) : Option (Bool) := evN CFG n (.run 157 [0, 0, 0] (tdo CFG 157 2) (mkSt [(.tm 0, .tm 0 (.cv false [.v (.sl (.int .i64)) x0])), (.tm 1, .tm 0 (.cv false [.v (.int .i64) x1])), (.tm 2, .tm 0 (.cv false [.v (.int .i64) x2])), (.tm 7, .tm 0 (.cv false [.v (.int .i64) x7]))]))
noncomputable def spec_l03Pitch (n : Nat) (a0 : Int) : Option (Bool) := evN CFG n (.call ⟨131, [.cv false [.v (.int .i64) a0]]⟩)
noncomputable def spec_l07Run_r3 (n : Nat) (x1 : List (Int)) (x6 : Int) (x7 : Int) (b0_0 : Int) (b0_1 : Int) (b0_2 : List (Int)) (b0_3 : List ((Int × (Int × Int)))) : Option ((Int × (Int × (Int × (Int × (List (Int) × List ((Int × (Int × Int))))))))) := evN CFG n (.run 158 [1, 0] (tdo CFG 158 3) (mkSt [(.tm 0, .tm 0 (.cv false [.pb 0 0 0])), (.tm 1, .tm 0 (.cv false [.v (.sl (.int .i64)) x1])), (.tm 6, .tm 0 (.cv false [.v (.int .i64) x6])), (.tm 7, .tm 0 (.cv false [.v (.int .i64) x7])), (.bx 0, .bx 0 [(0, .v (.int .i64) b0_0), (0, .v (.int .i64) b0_1), (0, .v (.sl (.int .i64)) b0_2), (0, .v (.sl (.pair (.int .i64) (.pair (.int .i64) (.int .i64)))) b0_3)])]))
noncomputable def spec_l00Has_r2 (n : Nat) (x0 : List (Int)) (x1 : Int) (x5 : Int) : Option (Bool) := evN CFG n (.run 133 [0, 0] (tdo CFG 133 2) (mkSt [(.tm 0, .tm 0 (.cv false [.v (.sl (.int .i64)) x0])), (.tm 1, .tm 0 (.cv false [.v (.int .i64) x1])), (.tm 5, .tm 0 (.cv false [.v (.int .i64) x5]))]))
noncomputable def spec_l01Split (n : Nat) (a0 : ByteArray) (a1 : Int) : Option (List (ByteArray)) := evN CFG n (.call ⟨183, [.cv false [.v .str a0], .cv false [.v (.int .u8) a1]]⟩)
noncomputable def spec_l03Read (n : Nat) (a0 : ByteArray) : Option ((List (Int) × Bool)) := evN CFG n (.call ⟨177, [.cv false [.v .str a0]]⟩)
noncomputable def spec_l05Two (n : Nat) (a0 : ByteArray) : Option ((List (Int) × Bool)) := evN CFG n (.call ⟨184, [.cv false [.v .str a0]]⟩)
noncomputable def spec_l05Read_r11 (n : Nat) (x4 : List (ByteArray)) (x12 : Int) (b2_0 : ByteArray) (b2_1 : List (Int)) (b2_2 : List (Int)) (b2_3 : Int) (b2_4 : Int) (b2_5 : List (List (Int))) (b11_0 : ByteArray) (b11_1 : List (Int)) (b11_2 : List (Int)) (b11_3 : Int) (b11_4 : Int) (b11_5 : List (List (Int))) : Option ((ByteArray × (List (Int) × (List (Int) × (Int × (Int × (List (List (Int)) × Bool))))))) := evN CFG n (.run 160 [0] (tdo CFG 160 11) (mkSt [(.tm 2, .tm 0 (.cv false [.pb 2 0 0])), (.tm 4, .tm 0 (.cv false [.own .str x4])), (.tm 11, .tm 0 (.cv false [.pb 11 0 0])), (.tm 12, .tm 0 (.cv false [.v (.int .i64) x12])), (.bx 2, .bx 0 [(0, .v .str b2_0), (0, .own (.int .i64) b2_1), (0, .own (.int .i64) b2_2), (0, .v (.int .i64) b2_3), (0, .v (.int .i64) b2_4), (0, .own (.sl (.int .i64)) b2_5)]), (.bx 11, .bx 0 [(0, .v .str b11_0), (0, .own (.int .i64) b11_1), (0, .own (.int .i64) b11_2), (0, .v (.int .i64) b11_3), (0, .v (.int .i64) b11_4), (0, .own (.sl (.int .i64)) b11_5)])]))
noncomputable def spec_l03Draw (n : Nat) (p0_0 : List (Int)) (p0_1 : Int) (p0_2 : Int) : Option ((List (Int) × (List (Int) × (Int × Int)))) := evN CFG n (.call ⟨143, [.io [.v (.sl (.int .u8)) p0_0, .v (.int .i64) p0_1, .v (.int .u64) p0_2]]⟩)
noncomputable def spec_l05Draw_r11v1 (n : Nat) (b0_0 : List (Int)) (b0_1 : Int) (b0_2 : Int) (b2_0 : ByteArray) (b2_1 : List (Int)) (b2_2 : List (Int)) (b2_3 : Int) (b2_4 : Int) (b2_5 : List (List (Int))) (b4_0 : ByteArray) (b4_1 : List (Int)) (b4_2 : List (Int)) (b4_3 : Int) (b4_4 : Int) (b4_5 : List (List (Int))) : Option ((ByteArray × (List (Int) × (List (Int) × (Int × (Int × (List (List (Int)) × (List (Int) × (Int × Int))))))))) := evN CFG n (.run 110 [1] (tdo CFG 110 11) (mkSt [(.tm 0, .tm 0 (.cv false [.pb 0 0 0])), (.tm 2, .tm 0 (.cv false [.pb 2 0 0])), (.tm 4, .tm 0 (.cv false [.pb 4 0 0])), (.bx 0, .bx 0 [(0, .v (.sl (.int .u8)) b0_0), (0, .v (.int .i64) b0_1), (0, .v (.int .u64) b0_2)]), (.bx 2, .bx 0 [(0, .v .str b2_0), (0, .own (.int .i64) b2_1), (0, .own (.int .i64) b2_2), (0, .v (.int .i64) b2_3), (0, .v (.int .i64) b2_4), (0, .own (.sl (.int .i64)) b2_5)]), (.bx 4, .bx 0 [(0, .v .str b4_0), (0, .own (.int .i64) b4_1), (0, .own (.int .i64) b4_2), (0, .v (.int .i64) b4_3), (0, .v (.int .i64) b4_4), (0, .own (.sl (.int .i64)) b4_5)])]))
noncomputable def spec_l00Src_next_r4 (n : Nat) (x3 : Int) (b0_0 : List (Int)) (b0_1 : Int) (b0_2 : Int) : Option ((Int × (List (Int) × (Int × Int)))) := evN CFG n (.run 151 [1] (tdo CFG 151 4) (mkSt [(.tm 0, .tm 0 (.cv false [.pb 0 0 0])), (.tm 3, .tm 0 (.cv false [.v (.int .i64) x3])), (.bx 0, .bx 0 [(0, .v (.sl (.int .u8)) b0_0), (0, .v (.int .i64) b0_1), (0, .v (.int .u64) b0_2)])]))
noncomputable def spec_l03Tone (n : Nat) (a0 : Int) : Option (Int) := evN CFG n (.call ⟨63, [.cv false [.v (.int .i64) a0]]⟩)
noncomputable def spec_l05Tone (n : Nat) (p0_0 : ByteArray) (p0_1 : List (Int)) (p0_2 : List (Int)) (p0_3 : Int) (p0_4 : Int) (p0_5 : List (List (Int))) (a1 : Int) : Option ((Bool × (ByteArray × (List (Int) × (List (Int) × (Int × (Int × List (List (Int))))))))) := evN CFG n (.call ⟨62, [.io [.v .str p0_0, .v (.sl (.int .i64)) p0_1, .v (.sl (.int .i64)) p0_2, .v (.int .i64) p0_3, .v (.int .i64) p0_4, .v (.sl (.sl (.int .i64))) p0_5], .cv false [.v (.int .i64) a1]]⟩)
noncomputable def spec_l07Of_r9 (n : Nat) (x7 : List (Int)) (x10 : Int) (b0_0 : ByteArray) (b0_1 : List (Int)) (b0_2 : List (Int)) (b0_3 : Int) (b0_4 : Int) (b0_5 : List (List (Int))) (b6_0 : Int) (b6_1 : Int) (b6_2 : List (Int)) (b6_3 : List ((Int × (Int × Int)))) (b9_0 : Int) (b9_1 : Int) (b9_2 : List (Int)) (b9_3 : List ((Int × (Int × Int)))) : Option ((Int × (Int × (List (Int) × (List ((Int × (Int × Int))) × (ByteArray × (List (Int) × (List (Int) × (Int × (Int × List (List (Int)))))))))))) := evN CFG n (.run 153 [1, 0, 0] (tdo CFG 153 9) (mkSt [(.tm 0, .tm 0 (.cv false [.pb 0 0 0])), (.tm 6, .tm 0 (.cv false [.pb 6 0 0])), (.tm 7, .tm 0 (.cv false [.own (.int .i64) x7])), (.tm 9, .tm 0 (.cv false [.pb 9 0 0])), (.tm 10, .tm 0 (.cv false [.v (.int .i64) x10])), (.bx 0, .bx 0 [(0, .v .str b0_0), (0, .v (.sl (.int .i64)) b0_1), (0, .v (.sl (.int .i64)) b0_2), (0, .v (.int .i64) b0_3), (0, .v (.int .i64) b0_4), (0, .v (.sl (.sl (.int .i64))) b0_5)]), (.bx 6, .bx 0 [(0, .v (.int .i64) b6_0), (0, .v (.int .i64) b6_1), (0, .own (.int .i64) b6_2), (0, .own (.pair (.int .i64) (.pair (.int .i64) (.int .i64))) b6_3)]), (.bx 9, .bx 0 [(0, .v (.int .i64) b9_0), (0, .v (.int .i64) b9_1), (0, .own (.int .i64) b9_2), (0, .own (.pair (.int .i64) (.pair (.int .i64) (.int .i64))) b9_3)])]))
noncomputable def spec_l07Draw_r15 (n : Nat) (x7 : Int) (x8 : Int) (b0_0 : List (Int)) (b0_1 : Int) (b0_2 : Int) (b2_0 : Int) (b2_1 : Int) (b2_2 : List (Int)) (b2_3 : List ((Int × (Int × Int)))) (b6_0 : Int) (b6_1 : Int) (b6_2 : List (Int)) (b6_3 : List ((Int × (Int × Int)))) : Option ((Int × (Int × (List (Int) × (List ((Int × (Int × Int))) × (List (Int) × (Int × Int))))))) := evN CFG n (.run 97 [1] (tdo CFG 97 15) (mkSt [(.tm 0, .tm 0 (.cv false [.pb 0 0 0])), (.tm 2, .tm 0 (.cv false [.pb 2 0 0])), (.tm 6, .tm 0 (.cv false [.pb 6 0 0])), (.tm 7, .tm 0 (.cv false [.v (.int .i64) x7])), (.tm 8, .tm 0 (.cv false [.v (.int .i64) x8])), (.bx 0, .bx 0 [(0, .v (.sl (.int .u8)) b0_0), (0, .v (.int .i64) b0_1), (0, .v (.int .u64) b0_2)]), (.bx 2, .bx 0 [(0, .v (.int .i64) b2_0), (0, .v (.int .i64) b2_1), (0, .own (.int .i64) b2_2), (0, .own (.pair (.int .i64) (.pair (.int .i64) (.int .i64))) b2_3)]), (.bx 6, .bx 0 [(0, .v (.int .i64) b6_0), (0, .v (.int .i64) b6_1), (0, .own (.int .i64) b6_2), (0, .own (.pair (.int .i64) (.pair (.int .i64) (.int .i64))) b6_3)])]))
noncomputable def slices_IndexFunc_int64_int64_i0 (n : Nat) (a0 : List (Int)) (a1c0 : Int) (a1c1 : Int) : Option (Int) := evN CFG n (.call ⟨138, [.cv false [.v (.sl (.int .i64)) a0], .cv false [.fn 174 [⟨(.int .i64), a1c0⟩, ⟨(.int .i64), a1c1⟩]]]⟩)
noncomputable def cmp_Compare_int64 (n : Nat) (a0 : Int) (a1 : Int) : Option (Int) := evN CFG n (.call ⟨179, [.cv false [.v (.int .i64) a0], .cv false [.v (.int .i64) a1]]⟩)
noncomputable def cmp_Or_int (n : Nat) (a0 : List (Int)) : Option (Int) := evN CFG n (.call ⟨178, [.cv false [.v (.sl (.int .i64)) a0]]⟩)
noncomputable def impl_Grammar_counts_r13 (n : Nat) (x8 : List (List (Int))) (x9 : List (Int)) (x10 : List (Int)) (x29 : Int) (x30 : Int) (x42 : List ((Int × (Int × Int)))) (x43 : Int) (x44 : Int) (b2_0 : Int) (b2_1 : Int) (b2_2 : List (Int)) (b2_3 : List ((Int × (Int × Int)))) : Option (List (List (Int))) := evN CFG n (.run 99 [0, 0] (tdo CFG 99 13) (mkSt [(.tm 2, .tm 0 (.cv false [.pb 2 0 0])), (.tm 8, .tm 0 (.cv false [.own (.sl (.int .i64)) x8])), (.tm 9, .tm 0 (.cv false [.v (.sl (.int .i64)) x9])), (.tm 10, .tm 0 (.cv false [.own (.int .i64) x10])), (.tm 29, .tm 0 (.cv false [.v (.int .i64) x29])), (.tm 30, .tm 0 (.cv false [.v (.int .i64) x30])), (.tm 42, .tm 0 (.cv false [.v (.sl (.pair (.int .i64) (.pair (.int .i64) (.int .i64)))) x42])), (.tm 43, .tm 0 (.cv false [.v (.int .i64) x43])), (.tm 44, .tm 0 (.cv false [.v (.int .i64) x44])), (.bx 2, .bx 0 [(0, .v (.int .i64) b2_0), (0, .v (.int .i64) b2_1), (0, .v (.sl (.int .i64)) b2_2), (0, .v (.sl (.pair (.int .i64) (.pair (.int .i64) (.int .i64)))) b2_3)])]))
noncomputable def slices_IndexFunc_impl_Arc_impl_Arc (n : Nat) (a0 : List ((Int × (Int × Int)))) (a1c0 : Int) : Option (Int) := evN CFG n (.call ⟨180, [.cv false [.v (.sl (.pair (.int .i64) (.pair (.int .i64) (.int .i64)))) a0], .cv false [.fn 181 [⟨(.int .i64), a1c0⟩]]]⟩)
noncomputable def slices_Index_int64_int64 (n : Nat) (a0 : List (Int)) (a1 : Int) : Option (Int) := evN CFG n (.call ⟨148, [.cv false [.v (.sl (.int .i64)) a0], .cv false [.v (.int .i64) a1]]⟩)
noncomputable def spec_l07Step (n : Nat) (p0_0 : Int) (p0_1 : Int) (p0_2 : List (Int)) (p0_3 : List ((Int × (Int × Int)))) (a1 : Int) (a2 : Int) : Option ((Int × (Int × (Int × (List (Int) × List ((Int × (Int × Int)))))))) := evN CFG n (.call ⟨182, [.io [.v (.int .i64) p0_0, .v (.int .i64) p0_1, .v (.sl (.int .i64)) p0_2, .v (.sl (.pair (.int .i64) (.pair (.int .i64) (.int .i64)))) p0_3], .cv false [.v (.int .i64) a1], .cv false [.v (.int .i64) a2]]⟩)
noncomputable def spec_l01Split_r4 (n : Nat) (x0 : ByteArray) (x1 : Int) (x5 : List (ByteArray)) (x6 : Int) (x7 : Int) : Option (List (ByteArray)) := evN CFG n (.run 183 [0, 0] (tdo CFG 183 4) (mkSt [(.tm 0, .tm 0 (.cv false [.v .str x0])), (.tm 1, .tm 0 (.cv false [.v (.int .u8) x1])), (.tm 5, .tm 0 (.cv false [.own .str x5])), (.tm 6, .tm 0 (.cv false [.v (.int .i64) x6])), (.tm 7, .tm 0 (.cv false [.v (.int .i64) x7]))]))
noncomputable def spec_l03Read_r3 (n : Nat) (x0 : ByteArray) (x4 : List (Int)) (x5 : Int) : Option ((List (Int) × Bool)) := evN CFG n (.run 177 [0] (tdo CFG 177 3) (mkSt [(.tm 0, .tm 0 (.cv false [.v .str x0])), (.tm 4, .tm 0 (.cv false [.own (.int .i64) x4])), (.tm 5, .tm 0 (.cv false [.v (.int .i64) x5]))]))
noncomputable def spec_l03Named (n : Nat) (a0 : Int) : Option (Int) := evN CFG n (.call ⟨191, [.cv false [.v (.int .u8) a0]]⟩)
noncomputable def spec_l05Ok (n : Nat) (p0_0 : ByteArray) (p0_1 : List (Int)) (p0_2 : List (Int)) (p0_3 : Int) (p0_4 : Int) (p0_5 : List (List (Int))) : Option ((Bool × (ByteArray × (List (Int) × (List (Int) × (Int × (Int × List (List (Int))))))))) := evN CFG n (.call ⟨130, [.io [.v .str p0_0, .own (.int .i64) p0_1, .own (.int .i64) p0_2, .v (.int .i64) p0_3, .v (.int .i64) p0_4, .own (.sl (.int .i64)) p0_5]]⟩)
noncomputable def spec_l03Draw_r5 (n : Nat) (x4 : List (Int)) (x5 : Int) (b0_0 : List (Int)) (b0_1 : Int) (b0_2 : Int) : Option ((List (Int) × (List (Int) × (Int × Int)))) := evN CFG n (.run 143 [1] (tdo CFG 143 5) (mkSt [(.tm 0, .tm 0 (.cv false [.pb 0 0 0])), (.tm 4, .tm 0 (.cv false [.own (.int .i64) x4])), (.tm 5, .tm 0 (.cv false [.v (.int .i64) x5])), (.bx 0, .bx 0 [(0, .v (.sl (.int .u8)) b0_0), (0, .v (.int .i64) b0_1), (0, .v (.int .u64) b0_2)])]))
noncomputable def spec_l07Of_r15 (n : Nat) (x7 : List (Int)) (x11 : Int) (b0_0 : ByteArray) (b0_1 : List (Int)) (b0_2 : List (Int)) (b0_3 : Int) (b0_4 : Int) (b0_5 : List (List (Int))) (b6_0 : Int) (b6_1 : Int) (b6_2 : List (Int)) (b6_3 : List ((Int × (Int × Int)))) (b9_0 : Int) (b9_1 : Int) (b9_2 : List (Int)) (b9_3 : List ((Int × (Int × Int)))) : Option ((Int × (Int × (List (Int) × (List ((Int × (Int × Int))) × (ByteArray × (List (Int) × (List (Int) × (Int × (Int × List (List (Int)))))))))))) := evN CFG n (.run 153 [1, 0, 0] (tdo CFG 153 15) (mkSt [(.tm 0, .tm 0 (.cv false [.pb 0 0 0])), (.tm 6, .tm 0 (.cv false [.pb 6 0 0])), (.tm 7, .tm 0 (.cv false [.own (.int .i64) x7])), (.tm 9, .tm 0 (.cv false [.pb 9 0 0])), (.tm 11, .tm 0 (.cv false [.v (.int .i64) x11])), (.bx 0, .bx 0 [(0, .v .str b0_0), (0, .v (.sl (.int .i64)) b0_1), (0, .v (.sl (.int .i64)) b0_2), (0, .v (.int .i64) b0_3), (0, .v (.int .i64) b0_4), (0, .v (.sl (.sl (.int .i64))) b0_5)]), (.bx 6, .bx 0 [(0, .v (.int .i64) b6_0), (0, .v (.int .i64) b6_1), (0, .own (.int .i64) b6_2), (0, .own (.pair (.int .i64) (.pair (.int .i64) (.int .i64))) b6_3)]), (.bx 9, .bx 0 [(0, .v (.int .i64) b9_0), (0, .v (.int .i64) b9_1), (0, .own (.int .i64) b9_2), (0, .own (.pair (.int .i64) (.pair (.int .i64) (.int .i64))) b9_3)])]))
noncomputable def slices_IndexFunc_int64_int64_i0_r2 (n : Nat) (x0 : List (Int)) (x1c0 : Int) (x1c1 : Int) (x7 : Int) (x8 : Int) : Option (Int) := evN CFG n (.run 138 [0, 0] (tdo CFG 138 2) (mkSt [(.tm 0, .tm 0 (.cv false [.v (.sl (.int .i64)) x0])), (.tm 1, .tm 0 (.cv false [.fn 174 [⟨(.int .i64), x1c0⟩, ⟨(.int .i64), x1c1⟩]])), (.tm 7, .tm 0 (.cv false [.v (.int .i64) x7])), (.tm 8, .tm 0 (.cv false [.v (.int .i64) x8]))]))
noncomputable def cmp_isNaN_int64 (n : Nat) (a0 : Int) : Option (Bool) := evN CFG n (.call ⟨192, [.cv false [.v (.int .i64) a0]]⟩)
noncomputable def cmp_Or_int_r3 (n : Nat) (x3 : Int) (x6 : List (Int)) (x7 : Int) (x8 : Int) : Option (Int) := evN CFG n (.run 178 [0] (tdo CFG 178 3) (mkSt [(.tm 3, .tm 0 (.cv false [.v (.int .i64) x3])), (.tm 6, .tm 0 (.cv false [.v (.sl (.int .i64)) x6])), (.tm 7, .tm 0 (.cv false [.v (.int .i64) x7])), (.tm 8, .tm 0 (.cv false [.v (.int .i64) x8]))]))
noncomputable def slices_IndexFunc_impl_Arc_impl_Arc_r2 (n : Nat) (x0 : List ((Int × (Int × Int)))) (x1c0 : Int) (x7 : Int) (x8 : Int) : Option (Int) := evN CFG n (.run 180 [0, 0] (tdo CFG 180 2) (mkSt [(.tm 0, .tm 0 (.cv false [.v (.sl (.pair (.int .i64) (.pair (.int .i64) (.int .i64)))) x0])), (.tm 1, .tm 0 (.cv false [.fn 181 [⟨(.int .i64), x1c0⟩]])), (.tm 7, .tm 0 (.cv false [.v (.int .i64) x7])), (.tm 8, .tm 0 (.cv false [.v (.int .i64) x8]))]))
noncomputable def slices_Index_int64_int64_r2 (n : Nat) (x0 : List (Int)) (x1 : Int) (x7 : Int) (x8 : Int) : Option (Int) := evN CFG n (.run 148 [0, 0] (tdo CFG 148 2) (mkSt [(.tm 0, .tm 0 (.cv false [.v (.sl (.int .i64)) x0])), (.tm 1, .tm 0 (.cv false [.v (.int .i64) x1])), (.tm 7, .tm 0 (.cv false [.v (.int .i64) x7])), (.tm 8, .tm 0 (.cv false [.v (.int .i64) x8]))]))
noncomputable def spec_l07Step_r2 (n : Nat) (x1 : Int) (x2 : Int) (x7 : Int) (b0_0 : Int) (b0_1 : Int) (b0_2 : List (Int)) (b0_3 : List ((Int × (Int × Int)))) : Option ((Int × (Int × (Int × (List (Int) × List ((Int × (Int × Int)))))))) := evN CFG n (.run 182 [1, 0, 0] (tdo CFG 182 2) (mkSt [(.tm 0, .tm 0 (.cv false [.pb 0 0 0])), (.tm 1, .tm 0 (.cv false [.v (.int .i64) x1])), (.tm 2, .tm 0 (.cv false [.v (.int .i64) x2])), (.tm 7, .tm 0 (.cv false [.v (.int .i64) x7])), (.bx 0, .bx 0 [(0, .v (.int .i64) b0_0), (0, .v (.int .i64) b0_1), (0, .v (.sl (.int .i64)) b0_2), (0, .v (.sl (.pair (.int .i64) (.pair (.int .i64) (.int .i64)))) b0_3)])]))
noncomputable def spec_l03Scale (n : Nat) (a0 : List (Int)) : Option (Bool) := evN CFG n (.call ⟨171, [.cv false [.v (.sl (.int .i64)) a0]]⟩)
noncomputable def spec_l03Names (n : Nat) : Option (ByteArray) := evN CFG n (.call ⟨193, []⟩)
noncomputable def spec_l03Named_r3 (n : Nat) (x0 : Int) (x3 : ByteArray) (x4 : Int) : Option (Int) := evN CFG n (.run 191 [0] (tdo CFG 191 3) (mkSt [(.tm 0, .tm 0 (.cv false [.v (.int .u8) x0])), (.tm 3, .tm 0 (.cv false [.v .str x3])), (.tm 4, .tm 0 (.cv false [.v (.int .i64) x4]))]))
noncomputable def spec_l01Name (n : Nat) (a0 : ByteArray) : Option (Bool) := evN CFG n (.call ⟨170, [.cv false [.v .str a0]]⟩)
noncomputable def spec_l05Tonev1 (n : Nat) (p0_0 : ByteArray) (p0_1 : List (Int)) (p0_2 : List (Int)) (p0_3 : Int) (p0_4 : Int) (p0_5 : List (List (Int))) (a1 : Int) : Option ((Bool × (ByteArray × (List (Int) × (List (Int) × (Int × (Int × List (List (Int))))))))) := evN CFG n (.call ⟨62, [.io [.v .str p0_0, .own (.int .i64) p0_1, .own (.int .i64) p0_2, .v (.int .i64) p0_3, .v (.int .i64) p0_4, .own (.sl (.int .i64)) p0_5], .cv false [.v (.int .i64) a1]]⟩)
noncomputable def spec_l05Pairs (n : Nat) (a0 : List (List (Int))) : Option (Bool) := evN CFG n (.call ⟨172, [.cv false [.v (.sl (.sl (.int .i64))) a0]]⟩)
noncomputable def spec_l07Of_r18 (n : Nat) (x7 : List (Int)) (x11 : Int) (x12 : Int) (b0_0 : ByteArray) (b0_1 : List (Int)) (b0_2 : List (Int)) (b0_3 : Int) (b0_4 : Int) (b0_5 : List (List (Int))) (b6_0 : Int) (b6_1 : Int) (b6_2 : List (Int)) (b6_3 : List ((Int × (Int × Int)))) (b9_0 : Int) (b9_1 : Int) (b9_2 : List (Int)) (b9_3 : List ((Int × (Int × Int)))) : Option ((Int × (Int × (List (Int) × (List ((Int × (Int × Int))) × (ByteArray × (List (Int) × (List (Int) × (Int × (Int × List (List (Int)))))))))))) := evN CFG n (.run 153 [1, 0, 0] (tdo CFG 153 18) (mkSt [(.tm 0, .tm 0 (.cv false [.pb 0 0 0])), (.tm 6, .tm 0 (.cv false [.pb 6 0 0])), (.tm 7, .tm 0 (.cv false [.own (.int .i64) x7])), (.tm 9, .tm 0 (.cv false [.pb 9 0 0])), (.tm 11, .tm 0 (.cv false [.v (.int .i64) x11])), (.tm 12, .tm 0 (.cv false [.v (.int .i64) x12])), (.bx 0, .bx 0 [(0, .v .str b0_0), (0, .v (.sl (.int .i64)) b0_1), (0, .v (.sl (.int .i64)) b0_2), (0, .v (.int .i64) b0_3), (0, .v (.int .i64) b0_4), (0, .v (.sl (.sl (.int .i64))) b0_5)]), (.bx 6, .bx 0 [(0, .v (.int .i64) b6_0), (0, .v (.int .i64) b6_1), (0, .own (.int .i64) b6_2), (0, .own (.pair (.int .i64) (.pair (.int .i64) (.int .i64))) b6_3)]), (.bx 9, .bx 0 [(0, .v (.int .i64) b9_0), (0, .v (.int .i64) b9_1), (0, .own (.int .i64) b9_2), (0, .own (.pair (.int .i64) (.pair (.int .i64) (.int .i64))) b9_3)])]))
noncomputable def impl_allWithin_1 (n : Nat) (a0 : Int) (a1 : Int) (a2 : Int) : Option (Bool) := evN CFG n (.call ⟨174, [.cv false [.v (.int .i64) a0], .cv false [.ps (.int .i64) a1], .cv false [.ps (.int .i64) a2]]⟩)
noncomputable def impl_Grammar_follow_1 (n : Nat) (a0_0 : Int) (a0_1 : Int) (a0_2 : Int) (a1 : Int) : Option (Bool) := evN CFG n (.call ⟨181, [.cv true [.v (.int .i64) a0_0, .v (.int .i64) a0_1, .v (.int .i64) a0_2], .cv false [.ps (.int .i64) a1]]⟩)
noncomputable def spec_l01Small (n : Nat) (a0 : Int) : Option (Bool) := evN CFG n (.call ⟨187, [.cv false [.v (.int .u8) a0]]⟩)
noncomputable def spec_l01Name_r4 (n : Nat) (x0 : ByteArray) (x3 : Int) : Option (Bool) := evN CFG n (.run 170 [0] (tdo CFG 170 4) (mkSt [(.tm 0, .tm 0 (.cv false [.v .str x0])), (.tm 3, .tm 0 (.cv false [.v (.int .i64) x3]))]))
noncomputable def spec_l05Pairs_r2 (n : Nat) (x0 : List (List (Int))) (x3 : Int) : Option (Bool) := evN CFG n (.run 172 [0] (tdo CFG 172 2) (mkSt [(.tm 0, .tm 0 (.cv false [.v (.sl (.sl (.int .i64))) x0])), (.tm 3, .tm 0 (.cv false [.v (.int .i64) x3]))]))
noncomputable def spec_l05Reason (n : Nat) (p0_0 : ByteArray) (p0_1 : List (Int)) (p0_2 : List (Int)) (p0_3 : Int) (p0_4 : Int) (p0_5 : List (List (Int))) (a1 : Int) (a2 : Int) : Option ((Int × (ByteArray × (List (Int) × (List (Int) × (Int × (Int × List (List (Int))))))))) := evN CFG n (.call ⟨132, [.io [.v .str p0_0, .v (.sl (.int .i64)) p0_1, .v (.sl (.int .i64)) p0_2, .v (.int .i64) p0_3, .v (.int .i64) p0_4, .v (.sl (.sl (.int .i64))) p0_5], .cv false [.v (.int .i64) a1], .cv false [.v (.int .i64) a2]]⟩)
noncomputable def spec_l01Digit (n : Nat) (a0 : Int) : Option (Bool) := evN CFG n (.call ⟨188, [.cv false [.v (.int .u8) a0]]⟩)
noncomputable def spec_l05Pair (n : Nat) (a0 : List (Int)) : Option (Bool) := evN CFG n (.call ⟨189, [.cv false [.v (.sl (.int .i64)) a0]]⟩)
noncomputable def spec_l00Max (n : Nat) (a0 : Int) (a1 : Int) : Option (Int) := evN CFG n (.call ⟨77, [.cv false [.v (.int .i64) a0], .cv false [.v (.int .i64) a1]]⟩)
noncomputable def spec_l05Reason_r9 (n : Nat) (x1 : Int) (x2 : Int) (x7 : Int) (x8 : Int) (b0_0 : ByteArray) (b0_1 : List (Int)) (b0_2 : List (Int)) (b0_3 : Int) (b0_4 : Int) (b0_5 : List (List (Int))) : Option ((Int × (ByteArray × (List (Int) × (List (Int) × (Int × (Int × List (List (Int))))))))) := evN CFG n (.run 132 [1, 0, 0] (tdo CFG 132 9) (mkSt [(.tm 0, .tm 0 (.cv false [.pb 0 0 0])), (.tm 1, .tm 0 (.cv false [.v (.int .i64) x1])), (.tm 2, .tm 0 (.cv false [.v (.int .i64) x2])), (.tm 7, .tm 0 (.cv false [.v (.int .i64) x7])), (.tm 8, .tm 0 (.cv false [.v (.int .i64) x8])), (.bx 0, .bx 0 [(0, .v .str b0_0), (0, .v (.sl (.int .i64)) b0_1), (0, .v (.sl (.int .i64)) b0_2), (0, .v (.int .i64) b0_3), (0, .v (.int .i64) b0_4), (0, .v (.sl (.sl (.int .i64))) b0_5)])]))
noncomputable def spec_l05Reason_r12 (n : Nat) (x7 : Int) (x8 : Int) (x9 : Int) (b0_0 : ByteArray) (b0_1 : List (Int)) (b0_2 : List (Int)) (b0_3 : Int) (b0_4 : Int) (b0_5 : List (List (Int))) : Option ((Int × (ByteArray × (List (Int) × (List (Int) × (Int × (Int × List (List (Int))))))))) := evN CFG n (.run 132 [1, 0, 0] (tdo CFG 132 12) (mkSt [(.tm 0, .tm 0 (.cv false [.pb 0 0 0])), (.tm 7, .tm 0 (.cv false [.v (.int .i64) x7])), (.tm 8, .tm 0 (.cv false [.v (.int .i64) x8])), (.tm 9, .tm 0 (.cv false [.v (.int .i64) x9])), (.bx 0, .bx 0 [(0, .v .str b0_0), (0, .v (.sl (.int .i64)) b0_1), (0, .v (.sl (.int .i64)) b0_2), (0, .v (.int .i64) b0_3), (0, .v (.int .i64) b0_4), (0, .v (.sl (.sl (.int .i64))) b0_5)])]))
theorem laws_FnNumbering_up {a0 : List (Int)} {a1 : List (Int)} {n m : Nat} {x : Bool} (h : laws_FnNumbering n a0 a1 = some x) (hm : n ≤ m) : laws_FnNumbering m a0 a1 = some x := evN_mono (C := CFG) (t := .call ⟨6, [.cv false [.v (.sl (.int .u8)) a0], .cv false [.v (.sl (.int .u8)) a1]]⟩) (x := x) h hm
theorem laws_r8Long_up {a0 : List (Int)} {a1 : List (Int)} {n m : Nat} {x : Bool} (h : laws_r8Long n a0 a1 = some x) (hm : n ≤ m) : laws_r8Long m a0 a1 = some x := evN_mono (C := CFG) (t := .call ⟨34, [.cv false [.v (.sl (.int .u8)) a0], .cv false [.v (.sl (.int .u8)) a1]]⟩) (x := x) h hm
theorem spec_R8Grammar_up {a0 : List (Int)} {n m : Nat} {x : (Int × (Int × (List (Int) × List ((Int × (Int × Int))))))} (h : spec_R8Grammar n a0 = some x) (hm : n ≤ m) : spec_R8Grammar m a0 = some x := evN_mono (C := CFG) (t := .call ⟨35, [.cv false [.v (.sl (.int .u8)) a0]]⟩) (x := x) h hm
theorem laws_r8At_up {a0 : List (Int)} {a1 : Int} {a2 : Int} {n m : Nat} {x : Int} (h : laws_r8At n a0 a1 a2 = some x) (hm : n ≤ m) : laws_r8At m a0 a1 a2 = some x := evN_mono (C := CFG) (t := .call ⟨36, [.cv false [.v (.sl (.int .u8)) a0], .cv false [.v (.int .i64) a1], .cv false [.v (.int .i64) a2]]⟩) (x := x) h hm
theorem impl_CountMelodies_up {a0_0 : Int} {a0_1 : Int} {a0_2 : List (Int)} {a0_3 : List ((Int × (Int × Int)))} {a1 : Int} {n m : Nat} {x : (Int × Int)} (h : impl_CountMelodies n a0_0 a0_1 a0_2 a0_3 a1 = some x) (hm : n ≤ m) : impl_CountMelodies m a0_0 a0_1 a0_2 a0_3 a1 = some x := evN_mono (C := CFG) (t := .call ⟨37, [.cv true [.v (.int .i64) a0_0, .v (.int .i64) a0_1, .v (.sl (.int .i64)) a0_2, .v (.sl (.pair (.int .i64) (.pair (.int .i64) (.int .i64)))) a0_3], .cv false [.v (.int .i64) a1]]⟩) (x := x) h hm
theorem impl_NumberedMelody_up {a0_0 : Int} {a0_1 : Int} {a0_2 : List (Int)} {a0_3 : List ((Int × (Int × Int)))} {a1 : Int} {a2 : Int} {n m : Nat} {x : (List (Int) × Int)} (h : impl_NumberedMelody n a0_0 a0_1 a0_2 a0_3 a1 a2 = some x) (hm : n ≤ m) : impl_NumberedMelody m a0_0 a0_1 a0_2 a0_3 a1 a2 = some x := evN_mono (C := CFG) (t := .call ⟨38, [.cv true [.v (.int .i64) a0_0, .v (.int .i64) a0_1, .v (.sl (.int .i64)) a0_2, .v (.sl (.pair (.int .i64) (.pair (.int .i64) (.int .i64)))) a0_3], .cv false [.v (.int .i64) a1], .cv false [.v (.int .i64) a2]]⟩) (x := x) h hm
theorem laws_r8Wide_up {a0 : List (Int)} {a1 : Int} {a2 : Int} {n m : Nat} {x : Int} (h : laws_r8Wide n a0 a1 a2 = some x) (hm : n ≤ m) : laws_r8Wide m a0 a1 a2 = some x := evN_mono (C := CFG) (t := .call ⟨39, [.cv false [.v (.sl (.int .u8)) a0], .cv false [.v (.int .i64) a1], .cv false [.v (.int .i64) a2]]⟩) (x := x) h hm
theorem impl_MelodyNumber_up {a0_0 : Int} {a0_1 : Int} {a0_2 : List (Int)} {a0_3 : List ((Int × (Int × Int)))} {a1 : List (Int)} {n m : Nat} {x : (Int × Int)} (h : impl_MelodyNumber n a0_0 a0_1 a0_2 a0_3 a1 = some x) (hm : n ≤ m) : impl_MelodyNumber m a0_0 a0_1 a0_2 a0_3 a1 = some x := evN_mono (C := CFG) (t := .call ⟨40, [.cv true [.v (.int .i64) a0_0, .v (.int .i64) a0_1, .v (.sl (.int .i64)) a0_2, .v (.sl (.pair (.int .i64) (.pair (.int .i64) (.int .i64)))) a0_3], .cv false [.v (.sl (.int .i64)) a1]]⟩) (x := x) h hm
theorem spec_Accepts_up {a0_0 : Int} {a0_1 : Int} {a0_2 : List (Int)} {a0_3 : List ((Int × (Int × Int)))} {a1 : List (Int)} {n m : Nat} {x : Bool} (h : spec_Accepts n a0_0 a0_1 a0_2 a0_3 a1 = some x) (hm : n ≤ m) : spec_Accepts m a0_0 a0_1 a0_2 a0_3 a1 = some x := evN_mono (C := CFG) (t := .call ⟨41, [.cv true [.v (.int .i64) a0_0, .v (.int .i64) a0_1, .v (.sl (.int .i64)) a0_2, .v (.sl (.pair (.int .i64) (.pair (.int .i64) (.int .i64)))) a0_3], .cv false [.v (.sl (.int .i64)) a1]]⟩) (x := x) h hm
theorem spec_l00From_up {a0 : List (Int)} {n m : Nat} {x : (List (Int) × (Int × Int))} (h : spec_l00From n a0 = some x) (hm : n ≤ m) : spec_l00From m a0 = some x := evN_mono (C := CFG) (t := .call ⟨79, [.cv false [.v (.sl (.int .u8)) a0]]⟩) (x := x) h hm
theorem spec_l07Draw_up {p0_0 : List (Int)} {p0_1 : Int} {p0_2 : Int} {n m : Nat} {x : (Int × (Int × (List (Int) × (List ((Int × (Int × Int))) × (List (Int) × (Int × Int))))))} (h : spec_l07Draw n p0_0 p0_1 p0_2 = some x) (hm : n ≤ m) : spec_l07Draw m p0_0 p0_1 p0_2 = some x := evN_mono (C := CFG) (t := .call ⟨97, [.io [.v (.sl (.int .u8)) p0_0, .v (.int .i64) p0_1, .v (.int .u64) p0_2]]⟩) (x := x) h hm
theorem impl_ValidGrammar_up {a0_0 : Int} {a0_1 : Int} {a0_2 : List (Int)} {a0_3 : List ((Int × (Int × Int)))} {n m : Nat} {x : Bool} (h : impl_ValidGrammar n a0_0 a0_1 a0_2 a0_3 = some x) (hm : n ≤ m) : impl_ValidGrammar m a0_0 a0_1 a0_2 a0_3 = some x := evN_mono (C := CFG) (t := .call ⟨98, [.cv true [.v (.int .i64) a0_0, .v (.int .i64) a0_1, .v (.sl (.int .i64)) a0_2, .v (.sl (.pair (.int .i64) (.pair (.int .i64) (.int .i64)))) a0_3]]⟩) (x := x) h hm
theorem impl_within_up {a0 : Int} {a1 : Int} {a2 : Int} {n m : Nat} {x : Bool} (h : impl_within n a0 a1 a2 = some x) (hm : n ≤ m) : impl_within m a0 a1 a2 = some x := evN_mono (C := CFG) (t := .call ⟨86, [.cv false [.v (.int .i64) a0], .cv false [.v (.int .i64) a1], .cv false [.v (.int .i64) a2]]⟩) (x := x) h hm
theorem impl_Grammar_counts_up {a0_0 : Int} {a0_1 : Int} {a0_2 : List (Int)} {a0_3 : List ((Int × (Int × Int)))} {a1 : Int} {n m : Nat} {x : List (List (Int))} (h : impl_Grammar_counts n a0_0 a0_1 a0_2 a0_3 a1 = some x) (hm : n ≤ m) : impl_Grammar_counts m a0_0 a0_1 a0_2 a0_3 a1 = some x := evN_mono (C := CFG) (t := .call ⟨99, [.cv true [.v (.int .i64) a0_0, .v (.int .i64) a0_1, .v (.sl (.int .i64)) a0_2, .v (.sl (.pair (.int .i64) (.pair (.int .i64) (.int .i64)))) a0_3], .cv false [.v (.int .i64) a1]]⟩) (x := x) h hm
theorem impl_Accepts_up {a0_0 : Int} {a0_1 : Int} {a0_2 : List (Int)} {a0_3 : List ((Int × (Int × Int)))} {a1 : List (Int)} {n m : Nat} {x : Bool} (h : impl_Accepts n a0_0 a0_1 a0_2 a0_3 a1 = some x) (hm : n ≤ m) : impl_Accepts m a0_0 a0_1 a0_2 a0_3 a1 = some x := evN_mono (C := CFG) (t := .call ⟨101, [.cv true [.v (.int .i64) a0_0, .v (.int .i64) a0_1, .v (.sl (.int .i64)) a0_2, .v (.sl (.pair (.int .i64) (.pair (.int .i64) (.int .i64)))) a0_3], .cv false [.v (.sl (.int .i64)) a1]]⟩) (x := x) h hm
theorem spec_l07Ok_up {p0_0 : Int} {p0_1 : Int} {p0_2 : List (Int)} {p0_3 : List ((Int × (Int × Int)))} {n m : Nat} {x : (Bool × (Int × (Int × (List (Int) × List ((Int × (Int × Int)))))))} (h : spec_l07Ok n p0_0 p0_1 p0_2 p0_3 = some x) (hm : n ≤ m) : spec_l07Ok m p0_0 p0_1 p0_2 p0_3 = some x := evN_mono (C := CFG) (t := .call ⟨102, [.io [.v (.int .i64) p0_0, .v (.int .i64) p0_1, .v (.sl (.int .i64)) p0_2, .v (.sl (.pair (.int .i64) (.pair (.int .i64) (.int .i64)))) p0_3]]⟩) (x := x) h hm
theorem spec_l07Accepts_up {p0_0 : Int} {p0_1 : Int} {p0_2 : List (Int)} {p0_3 : List ((Int × (Int × Int)))} {a1 : List (Int)} {n m : Nat} {x : (Bool × (Int × (Int × (List (Int) × List ((Int × (Int × Int)))))))} (h : spec_l07Accepts n p0_0 p0_1 p0_2 p0_3 a1 = some x) (hm : n ≤ m) : spec_l07Accepts m p0_0 p0_1 p0_2 p0_3 a1 = some x := evN_mono (C := CFG) (t := .call ⟨103, [.io [.v (.int .i64) p0_0, .v (.int .i64) p0_1, .v (.sl (.int .i64)) p0_2, .v (.sl (.pair (.int .i64) (.pair (.int .i64) (.int .i64)))) p0_3], .cv false [.v (.sl (.int .i64)) a1]]⟩) (x := x) h hm
theorem spec_l00Src_one_up {p0_0 : List (Int)} {p0_1 : Int} {p0_2 : Int} {a1 : Int} {n m : Nat} {x : (Bool × (List (Int) × (Int × Int)))} (h : spec_l00Src_one n p0_0 p0_1 p0_2 a1 = some x) (hm : n ≤ m) : spec_l00Src_one m p0_0 p0_1 p0_2 a1 = some x := evN_mono (C := CFG) (t := .call ⟨92, [.io [.v (.sl (.int .u8)) p0_0, .v (.int .i64) p0_1, .v (.int .u64) p0_2], .cv false [.v (.int .i64) a1]]⟩) (x := x) h hm
theorem spec_l05Draw_up {p0_0 : List (Int)} {p0_1 : Int} {p0_2 : Int} {n m : Nat} {x : (ByteArray × (List (Int) × (List (Int) × (Int × (Int × (List (List (Int)) × (List (Int) × (Int × Int))))))))} (h : spec_l05Draw n p0_0 p0_1 p0_2 = some x) (hm : n ≤ m) : spec_l05Draw m p0_0 p0_1 p0_2 = some x := evN_mono (C := CFG) (t := .call ⟨110, [.io [.v (.sl (.int .u8)) p0_0, .v (.int .i64) p0_1, .v (.int .u64) p0_2]]⟩) (x := x) h hm
theorem spec_l00Src_pick_up {p0_0 : List (Int)} {p0_1 : Int} {p0_2 : Int} {a1 : Int} {n m : Nat} {x : (Int × (List (Int) × (Int × Int)))} (h : spec_l00Src_pick n p0_0 p0_1 p0_2 a1 = some x) (hm : n ≤ m) : spec_l00Src_pick m p0_0 p0_1 p0_2 a1 = some x := evN_mono (C := CFG) (t := .call ⟨93, [.io [.v (.sl (.int .u8)) p0_0, .v (.int .i64) p0_1, .v (.int .u64) p0_2], .cv false [.v (.int .i64) a1]]⟩) (x := x) h hm
theorem spec_l07Of_up {p0_0 : ByteArray} {p0_1 : List (Int)} {p0_2 : List (Int)} {p0_3 : Int} {p0_4 : Int} {p0_5 : List (List (Int))} {a1 : Int} {a2 : Int} {n m : Nat} {x : (Int × (Int × (List (Int) × (List ((Int × (Int × Int))) × (ByteArray × (List (Int) × (List (Int) × (Int × (Int × List (List (Int)))))))))))} (h : spec_l07Of n p0_0 p0_1 p0_2 p0_3 p0_4 p0_5 a1 a2 = some x) (hm : n ≤ m) : spec_l07Of m p0_0 p0_1 p0_2 p0_3 p0_4 p0_5 a1 a2 = some x := evN_mono (C := CFG) (t := .call ⟨153, [.io [.v .str p0_0, .v (.sl (.int .i64)) p0_1, .v (.sl (.int .i64)) p0_2, .v (.int .i64) p0_3, .v (.int .i64) p0_4, .v (.sl (.sl (.int .i64))) p0_5], .cv false [.v (.int .i64) a1], .cv false [.v (.int .i64) a2]]⟩) (x := x) h hm
theorem impl_Grammar_hasState_up {a0_0 : Int} {a0_1 : Int} {a0_2 : List (Int)} {a0_3 : List ((Int × (Int × Int)))} {a1 : Int} {n m : Nat} {x : Bool} (h : impl_Grammar_hasState n a0_0 a0_1 a0_2 a0_3 a1 = some x) (hm : n ≤ m) : impl_Grammar_hasState m a0_0 a0_1 a0_2 a0_3 a1 = some x := evN_mono (C := CFG) (t := .call ⟨154, [.cv true [.v (.int .i64) a0_0, .v (.int .i64) a0_1, .v (.sl (.int .i64)) a0_2, .v (.sl (.pair (.int .i64) (.pair (.int .i64) (.int .i64)))) a0_3], .cv false [.v (.int .i64) a1]]⟩) (x := x) h hm
theorem impl_increasing_up {a0 : List (Int)} {n m : Nat} {x : Bool} (h : impl_increasing n a0 = some x) (hm : n ≤ m) : impl_increasing m a0 = some x := evN_mono (C := CFG) (t := .call ⟨144, [.cv false [.v (.sl (.int .i64)) a0]]⟩) (x := x) h hm
theorem impl_allWithin_up {a0 : List (Int)} {a1 : Int} {a2 : Int} {n m : Nat} {x : Bool} (h : impl_allWithin n a0 a1 a2 = some x) (hm : n ≤ m) : impl_allWithin m a0 a1 a2 = some x := evN_mono (C := CFG) (t := .call ⟨137, [.cv false [.v (.sl (.int .i64)) a0], .cv false [.v (.int .i64) a1], .cv false [.v (.int .i64) a2]]⟩) (x := x) h hm
theorem impl_Grammar_arcsOf_up {a0_0 : Int} {a0_1 : Int} {a0_2 : List (Int)} {a0_3 : List ((Int × (Int × Int)))} {a1 : Int} {n m : Nat} {x : List ((Int × (Int × Int)))} (h : impl_Grammar_arcsOf n a0_0 a0_1 a0_2 a0_3 a1 = some x) (hm : n ≤ m) : impl_Grammar_arcsOf m a0_0 a0_1 a0_2 a0_3 a1 = some x := evN_mono (C := CFG) (t := .call ⟨100, [.cv true [.v (.int .i64) a0_0, .v (.int .i64) a0_1, .v (.sl (.int .i64)) a0_2, .v (.sl (.pair (.int .i64) (.pair (.int .i64) (.int .i64)))) a0_3], .cv false [.v (.int .i64) a1]]⟩) (x := x) h hm
theorem impl_Grammar_follow_up {a0_0 : Int} {a0_1 : Int} {a0_2 : List (Int)} {a0_3 : List ((Int × (Int × Int)))} {a1 : List (Int)} {n m : Nat} {x : (Int × Int)} (h : impl_Grammar_follow n a0_0 a0_1 a0_2 a0_3 a1 = some x) (hm : n ≤ m) : impl_Grammar_follow m a0_0 a0_1 a0_2 a0_3 a1 = some x := evN_mono (C := CFG) (t := .call ⟨156, [.cv true [.v (.int .i64) a0_0, .v (.int .i64) a0_1, .v (.sl (.int .i64)) a0_2, .v (.sl (.pair (.int .i64) (.pair (.int .i64) (.int .i64)))) a0_3], .cv false [.v (.sl (.int .i64)) a1]]⟩) (x := x) h hm
theorem impl_Grammar_isFinal_up {a0_0 : Int} {a0_1 : Int} {a0_2 : List (Int)} {a0_3 : List ((Int × (Int × Int)))} {a1 : Int} {n m : Nat} {x : Bool} (h : impl_Grammar_isFinal n a0_0 a0_1 a0_2 a0_3 a1 = some x) (hm : n ≤ m) : impl_Grammar_isFinal m a0_0 a0_1 a0_2 a0_3 a1 = some x := evN_mono (C := CFG) (t := .call ⟨105, [.cv true [.v (.int .i64) a0_0, .v (.int .i64) a0_1, .v (.sl (.int .i64)) a0_2, .v (.sl (.pair (.int .i64) (.pair (.int .i64) (.int .i64)))) a0_3], .cv false [.v (.int .i64) a1]]⟩) (x := x) h hm
theorem spec_l00In_up {a0 : Int} {a1 : Int} {a2 : Int} {n m : Nat} {x : Bool} (h : spec_l00In n a0 a1 a2 = some x) (hm : n ≤ m) : spec_l00In m a0 a1 a2 = some x := evN_mono (C := CFG) (t := .call ⟨109, [.cv false [.v (.int .i64) a0], .cv false [.v (.int .i64) a1], .cv false [.v (.int .i64) a2]]⟩) (x := x) h hm
theorem spec_l00Rises_up {a0 : List (Int)} {a1 : Int} {a2 : Int} {n m : Nat} {x : Bool} (h : spec_l00Rises n a0 a1 a2 = some x) (hm : n ≤ m) : spec_l00Rises m a0 a1 a2 = some x := evN_mono (C := CFG) (t := .call ⟨157, [.cv false [.v (.sl (.int .i64)) a0], .cv false [.v (.int .i64) a1], .cv false [.v (.int .i64) a2]]⟩) (x := x) h hm
theorem spec_l07Run_up {p0_0 : Int} {p0_1 : Int} {p0_2 : List (Int)} {p0_3 : List ((Int × (Int × Int)))} {a1 : List (Int)} {n m : Nat} {x : (Int × (Int × (Int × (Int × (List (Int) × List ((Int × (Int × Int))))))))} (h : spec_l07Run n p0_0 p0_1 p0_2 p0_3 a1 = some x) (hm : n ≤ m) : spec_l07Run m p0_0 p0_1 p0_2 p0_3 a1 = some x := evN_mono (C := CFG) (t := .call ⟨158, [.io [.v (.int .i64) p0_0, .v (.int .i64) p0_1, .v (.sl (.int .i64)) p0_2, .v (.sl (.pair (.int .i64) (.pair (.int .i64) (.int .i64)))) p0_3], .cv false [.v (.sl (.int .i64)) a1]]⟩) (x := x) h hm
theorem spec_l00Has_up {a0 : List (Int)} {a1 : Int} {n m : Nat} {x : Bool} (h : spec_l00Has n a0 a1 = some x) (hm : n ≤ m) : spec_l00Has m a0 a1 = some x := evN_mono (C := CFG) (t := .call ⟨133, [.cv false [.v (.sl (.int .i64)) a0], .cv false [.v (.int .i64) a1]]⟩) (x := x) h hm
theorem spec_l00Src_text_up {p0_0 : List (Int)} {p0_1 : Int} {p0_2 : Int} {a1 : List (ByteArray)} {n m : Nat} {x : (ByteArray × (List (Int) × (Int × Int)))} (h : spec_l00Src_text n p0_0 p0_1 p0_2 a1 = some x) (hm : n ≤ m) : spec_l00Src_text m p0_0 p0_1 p0_2 a1 = some x := evN_mono (C := CFG) (t := .call ⟨159, [.io [.v (.sl (.int .u8)) p0_0, .v (.int .i64) p0_1, .v (.int .u64) p0_2], .cv false [.v (.sl .str) a1]]⟩) (x := x) h hm
theorem spec_l05Read_up {a0 : ByteArray} {n m : Nat} {x : (ByteArray × (List (Int) × (List (Int) × (Int × (Int × (List (List (Int)) × Bool))))))} (h : spec_l05Read n a0 = some x) (hm : n ≤ m) : spec_l05Read m a0 = some x := evN_mono (C := CFG) (t := .call ⟨160, [.cv false [.v .str a0]]⟩) (x := x) h hm
theorem spec_l00Src_next_up {p0_0 : List (Int)} {p0_1 : Int} {p0_2 : Int} {n m : Nat} {x : (Int × (List (Int) × (Int × Int)))} (h : spec_l00Src_next n p0_0 p0_1 p0_2 = some x) (hm : n ≤ m) : spec_l00Src_next m p0_0 p0_1 p0_2 = some x := evN_mono (C := CFG) (t := .call ⟨151, [.io [.v (.sl (.int .u8)) p0_0, .v (.int .i64) p0_1, .v (.int .u64) p0_2]]⟩) (x := x) h hm
theorem slices_ContainsFunc_int64_int64_i0_up {a0 : List (Int)} {a1c0 : Int} {a1c1 : Int} {n m : Nat} {x : Bool} (h : slices_ContainsFunc_int64_int64_i0 n a0 a1c0 a1c1 = some x) (hm : n ≤ m) : slices_ContainsFunc_int64_int64_i0 m a0 a1c0 a1c1 = some x := evN_mono (C := CFG) (t := .call ⟨67, [.cv false [.v (.sl (.int .i64)) a0], .cv false [.fn 174 [⟨(.int .i64), a1c0⟩, ⟨(.int .i64), a1c1⟩]]]⟩) (x := x) h hm
theorem impl_pitchOk_up {a0 : Int} {n m : Nat} {x : Bool} (h : impl_pitchOk n a0 = some x) (hm : n ≤ m) : impl_pitchOk m a0 = some x := evN_mono (C := CFG) (t := .call ⟨147, [.cv false [.v (.int .i64) a0]]⟩) (x := x) h hm
theorem impl_compareArcs_up {a0_0 : Int} {a0_1 : Int} {a0_2 : Int} {a1_0 : Int} {a1_1 : Int} {a1_2 : Int} {n m : Nat} {x : Int} (h : impl_compareArcs n a0_0 a0_1 a0_2 a1_0 a1_1 a1_2 = some x) (hm : n ≤ m) : impl_compareArcs m a0_0 a0_1 a0_2 a1_0 a1_1 a1_2 = some x := evN_mono (C := CFG) (t := .call ⟨155, [.cv true [.v (.int .i64) a0_0, .v (.int .i64) a0_1, .v (.int .i64) a0_2], .cv true [.v (.int .i64) a1_0, .v (.int .i64) a1_1, .v (.int .i64) a1_2]]⟩) (x := x) h hm
theorem slices_Contains_int64_int64_up {a0 : List (Int)} {a1 : Int} {n m : Nat} {x : Bool} (h : slices_Contains_int64_int64 n a0 a1 = some x) (hm : n ≤ m) : slices_Contains_int64_int64 m a0 a1 = some x := evN_mono (C := CFG) (t := .call ⟨139, [.cv false [.v (.sl (.int .i64)) a0], .cv false [.v (.int .i64) a1]]⟩) (x := x) h hm
theorem spec_l03Pitch_up {a0 : Int} {n m : Nat} {x : Bool} (h : spec_l03Pitch n a0 = some x) (hm : n ≤ m) : spec_l03Pitch m a0 = some x := evN_mono (C := CFG) (t := .call ⟨131, [.cv false [.v (.int .i64) a0]]⟩) (x := x) h hm
theorem spec_l01Split_up {a0 : ByteArray} {a1 : Int} {n m : Nat} {x : List (ByteArray)} (h : spec_l01Split n a0 a1 = some x) (hm : n ≤ m) : spec_l01Split m a0 a1 = some x := evN_mono (C := CFG) (t := .call ⟨183, [.cv false [.v .str a0], .cv false [.v (.int .u8) a1]]⟩) (x := x) h hm
theorem spec_l03Read_up {a0 : ByteArray} {n m : Nat} {x : (List (Int) × Bool)} (h : spec_l03Read n a0 = some x) (hm : n ≤ m) : spec_l03Read m a0 = some x := evN_mono (C := CFG) (t := .call ⟨177, [.cv false [.v .str a0]]⟩) (x := x) h hm
theorem spec_l05Two_up {a0 : ByteArray} {n m : Nat} {x : (List (Int) × Bool)} (h : spec_l05Two n a0 = some x) (hm : n ≤ m) : spec_l05Two m a0 = some x := evN_mono (C := CFG) (t := .call ⟨184, [.cv false [.v .str a0]]⟩) (x := x) h hm
theorem spec_l03Draw_up {p0_0 : List (Int)} {p0_1 : Int} {p0_2 : Int} {n m : Nat} {x : (List (Int) × (List (Int) × (Int × Int)))} (h : spec_l03Draw n p0_0 p0_1 p0_2 = some x) (hm : n ≤ m) : spec_l03Draw m p0_0 p0_1 p0_2 = some x := evN_mono (C := CFG) (t := .call ⟨143, [.io [.v (.sl (.int .u8)) p0_0, .v (.int .i64) p0_1, .v (.int .u64) p0_2]]⟩) (x := x) h hm
theorem spec_l03Tone_up {a0 : Int} {n m : Nat} {x : Int} (h : spec_l03Tone n a0 = some x) (hm : n ≤ m) : spec_l03Tone m a0 = some x := evN_mono (C := CFG) (t := .call ⟨63, [.cv false [.v (.int .i64) a0]]⟩) (x := x) h hm
theorem spec_l05Tone_up {p0_0 : ByteArray} {p0_1 : List (Int)} {p0_2 : List (Int)} {p0_3 : Int} {p0_4 : Int} {p0_5 : List (List (Int))} {a1 : Int} {n m : Nat} {x : (Bool × (ByteArray × (List (Int) × (List (Int) × (Int × (Int × List (List (Int))))))))} (h : spec_l05Tone n p0_0 p0_1 p0_2 p0_3 p0_4 p0_5 a1 = some x) (hm : n ≤ m) : spec_l05Tone m p0_0 p0_1 p0_2 p0_3 p0_4 p0_5 a1 = some x := evN_mono (C := CFG) (t := .call ⟨62, [.io [.v .str p0_0, .v (.sl (.int .i64)) p0_1, .v (.sl (.int .i64)) p0_2, .v (.int .i64) p0_3, .v (.int .i64) p0_4, .v (.sl (.sl (.int .i64))) p0_5], .cv false [.v (.int .i64) a1]]⟩) (x := x) h hm
theorem slices_IndexFunc_int64_int64_i0_up {a0 : List (Int)} {a1c0 : Int} {a1c1 : Int} {n m : Nat} {x : Int} (h : slices_IndexFunc_int64_int64_i0 n a0 a1c0 a1c1 = some x) (hm : n ≤ m) : slices_IndexFunc_int64_int64_i0 m a0 a1c0 a1c1 = some x := evN_mono (C := CFG) (t := .call ⟨138, [.cv false [.v (.sl (.int .i64)) a0], .cv false [.fn 174 [⟨(.int .i64), a1c0⟩, ⟨(.int .i64), a1c1⟩]]]⟩) (x := x) h hm
theorem cmp_Compare_int64_up {a0 : Int} {a1 : Int} {n m : Nat} {x : Int} (h : cmp_Compare_int64 n a0 a1 = some x) (hm : n ≤ m) : cmp_Compare_int64 m a0 a1 = some x := evN_mono (C := CFG) (t := .call ⟨179, [.cv false [.v (.int .i64) a0], .cv false [.v (.int .i64) a1]]⟩) (x := x) h hm
theorem cmp_Or_int_up {a0 : List (Int)} {n m : Nat} {x : Int} (h : cmp_Or_int n a0 = some x) (hm : n ≤ m) : cmp_Or_int m a0 = some x := evN_mono (C := CFG) (t := .call ⟨178, [.cv false [.v (.sl (.int .i64)) a0]]⟩) (x := x) h hm
theorem slices_IndexFunc_impl_Arc_impl_Arc_up {a0 : List ((Int × (Int × Int)))} {a1c0 : Int} {n m : Nat} {x : Int} (h : slices_IndexFunc_impl_Arc_impl_Arc n a0 a1c0 = some x) (hm : n ≤ m) : slices_IndexFunc_impl_Arc_impl_Arc m a0 a1c0 = some x := evN_mono (C := CFG) (t := .call ⟨180, [.cv false [.v (.sl (.pair (.int .i64) (.pair (.int .i64) (.int .i64)))) a0], .cv false [.fn 181 [⟨(.int .i64), a1c0⟩]]]⟩) (x := x) h hm
theorem slices_Index_int64_int64_up {a0 : List (Int)} {a1 : Int} {n m : Nat} {x : Int} (h : slices_Index_int64_int64 n a0 a1 = some x) (hm : n ≤ m) : slices_Index_int64_int64 m a0 a1 = some x := evN_mono (C := CFG) (t := .call ⟨148, [.cv false [.v (.sl (.int .i64)) a0], .cv false [.v (.int .i64) a1]]⟩) (x := x) h hm
theorem spec_l07Step_up {p0_0 : Int} {p0_1 : Int} {p0_2 : List (Int)} {p0_3 : List ((Int × (Int × Int)))} {a1 : Int} {a2 : Int} {n m : Nat} {x : (Int × (Int × (Int × (List (Int) × List ((Int × (Int × Int)))))))} (h : spec_l07Step n p0_0 p0_1 p0_2 p0_3 a1 a2 = some x) (hm : n ≤ m) : spec_l07Step m p0_0 p0_1 p0_2 p0_3 a1 a2 = some x := evN_mono (C := CFG) (t := .call ⟨182, [.io [.v (.int .i64) p0_0, .v (.int .i64) p0_1, .v (.sl (.int .i64)) p0_2, .v (.sl (.pair (.int .i64) (.pair (.int .i64) (.int .i64)))) p0_3], .cv false [.v (.int .i64) a1], .cv false [.v (.int .i64) a2]]⟩) (x := x) h hm
theorem spec_l03Named_up {a0 : Int} {n m : Nat} {x : Int} (h : spec_l03Named n a0 = some x) (hm : n ≤ m) : spec_l03Named m a0 = some x := evN_mono (C := CFG) (t := .call ⟨191, [.cv false [.v (.int .u8) a0]]⟩) (x := x) h hm
theorem spec_l05Ok_up {p0_0 : ByteArray} {p0_1 : List (Int)} {p0_2 : List (Int)} {p0_3 : Int} {p0_4 : Int} {p0_5 : List (List (Int))} {n m : Nat} {x : (Bool × (ByteArray × (List (Int) × (List (Int) × (Int × (Int × List (List (Int))))))))} (h : spec_l05Ok n p0_0 p0_1 p0_2 p0_3 p0_4 p0_5 = some x) (hm : n ≤ m) : spec_l05Ok m p0_0 p0_1 p0_2 p0_3 p0_4 p0_5 = some x := evN_mono (C := CFG) (t := .call ⟨130, [.io [.v .str p0_0, .own (.int .i64) p0_1, .own (.int .i64) p0_2, .v (.int .i64) p0_3, .v (.int .i64) p0_4, .own (.sl (.int .i64)) p0_5]]⟩) (x := x) h hm
theorem cmp_isNaN_int64_up {a0 : Int} {n m : Nat} {x : Bool} (h : cmp_isNaN_int64 n a0 = some x) (hm : n ≤ m) : cmp_isNaN_int64 m a0 = some x := evN_mono (C := CFG) (t := .call ⟨192, [.cv false [.v (.int .i64) a0]]⟩) (x := x) h hm
theorem spec_l03Scale_up {a0 : List (Int)} {n m : Nat} {x : Bool} (h : spec_l03Scale n a0 = some x) (hm : n ≤ m) : spec_l03Scale m a0 = some x := evN_mono (C := CFG) (t := .call ⟨171, [.cv false [.v (.sl (.int .i64)) a0]]⟩) (x := x) h hm
theorem spec_l03Names_up {n m : Nat} {x : ByteArray} (h : spec_l03Names n = some x) (hm : n ≤ m) : spec_l03Names m = some x := evN_mono (C := CFG) (t := .call ⟨193, []⟩) (x := x) h hm
theorem spec_l01Name_up {a0 : ByteArray} {n m : Nat} {x : Bool} (h : spec_l01Name n a0 = some x) (hm : n ≤ m) : spec_l01Name m a0 = some x := evN_mono (C := CFG) (t := .call ⟨170, [.cv false [.v .str a0]]⟩) (x := x) h hm
theorem spec_l05Tonev1_up {p0_0 : ByteArray} {p0_1 : List (Int)} {p0_2 : List (Int)} {p0_3 : Int} {p0_4 : Int} {p0_5 : List (List (Int))} {a1 : Int} {n m : Nat} {x : (Bool × (ByteArray × (List (Int) × (List (Int) × (Int × (Int × List (List (Int))))))))} (h : spec_l05Tonev1 n p0_0 p0_1 p0_2 p0_3 p0_4 p0_5 a1 = some x) (hm : n ≤ m) : spec_l05Tonev1 m p0_0 p0_1 p0_2 p0_3 p0_4 p0_5 a1 = some x := evN_mono (C := CFG) (t := .call ⟨62, [.io [.v .str p0_0, .own (.int .i64) p0_1, .own (.int .i64) p0_2, .v (.int .i64) p0_3, .v (.int .i64) p0_4, .own (.sl (.int .i64)) p0_5], .cv false [.v (.int .i64) a1]]⟩) (x := x) h hm
theorem spec_l05Pairs_up {a0 : List (List (Int))} {n m : Nat} {x : Bool} (h : spec_l05Pairs n a0 = some x) (hm : n ≤ m) : spec_l05Pairs m a0 = some x := evN_mono (C := CFG) (t := .call ⟨172, [.cv false [.v (.sl (.sl (.int .i64))) a0]]⟩) (x := x) h hm
theorem impl_allWithin_1_up {a0 : Int} {a1 : Int} {a2 : Int} {n m : Nat} {x : Bool} (h : impl_allWithin_1 n a0 a1 a2 = some x) (hm : n ≤ m) : impl_allWithin_1 m a0 a1 a2 = some x := evN_mono (C := CFG) (t := .call ⟨174, [.cv false [.v (.int .i64) a0], .cv false [.ps (.int .i64) a1], .cv false [.ps (.int .i64) a2]]⟩) (x := x) h hm
theorem impl_Grammar_follow_1_up {a0_0 : Int} {a0_1 : Int} {a0_2 : Int} {a1 : Int} {n m : Nat} {x : Bool} (h : impl_Grammar_follow_1 n a0_0 a0_1 a0_2 a1 = some x) (hm : n ≤ m) : impl_Grammar_follow_1 m a0_0 a0_1 a0_2 a1 = some x := evN_mono (C := CFG) (t := .call ⟨181, [.cv true [.v (.int .i64) a0_0, .v (.int .i64) a0_1, .v (.int .i64) a0_2], .cv false [.ps (.int .i64) a1]]⟩) (x := x) h hm
theorem spec_l01Small_up {a0 : Int} {n m : Nat} {x : Bool} (h : spec_l01Small n a0 = some x) (hm : n ≤ m) : spec_l01Small m a0 = some x := evN_mono (C := CFG) (t := .call ⟨187, [.cv false [.v (.int .u8) a0]]⟩) (x := x) h hm
theorem spec_l05Reason_up {p0_0 : ByteArray} {p0_1 : List (Int)} {p0_2 : List (Int)} {p0_3 : Int} {p0_4 : Int} {p0_5 : List (List (Int))} {a1 : Int} {a2 : Int} {n m : Nat} {x : (Int × (ByteArray × (List (Int) × (List (Int) × (Int × (Int × List (List (Int))))))))} (h : spec_l05Reason n p0_0 p0_1 p0_2 p0_3 p0_4 p0_5 a1 a2 = some x) (hm : n ≤ m) : spec_l05Reason m p0_0 p0_1 p0_2 p0_3 p0_4 p0_5 a1 a2 = some x := evN_mono (C := CFG) (t := .call ⟨132, [.io [.v .str p0_0, .v (.sl (.int .i64)) p0_1, .v (.sl (.int .i64)) p0_2, .v (.int .i64) p0_3, .v (.int .i64) p0_4, .v (.sl (.sl (.int .i64))) p0_5], .cv false [.v (.int .i64) a1], .cv false [.v (.int .i64) a2]]⟩) (x := x) h hm
theorem spec_l01Digit_up {a0 : Int} {n m : Nat} {x : Bool} (h : spec_l01Digit n a0 = some x) (hm : n ≤ m) : spec_l01Digit m a0 = some x := evN_mono (C := CFG) (t := .call ⟨188, [.cv false [.v (.int .u8) a0]]⟩) (x := x) h hm
theorem spec_l05Pair_up {a0 : List (Int)} {n m : Nat} {x : Bool} (h : spec_l05Pair n a0 = some x) (hm : n ≤ m) : spec_l05Pair m a0 = some x := evN_mono (C := CFG) (t := .call ⟨189, [.cv false [.v (.sl (.int .i64)) a0]]⟩) (x := x) h hm
theorem spec_l00Max_up {a0 : Int} {a1 : Int} {n m : Nat} {x : Int} (h : spec_l00Max n a0 a1 = some x) (hm : n ≤ m) : spec_l00Max m a0 a1 = some x := evN_mono (C := CFG) (t := .call ⟨77, [.cv false [.v (.int .i64) a0], .cv false [.v (.int .i64) a1]]⟩) (x := x) h hm
theorem laws_FnNumbering_eq (n : Nat) (a0 : List (Int)) (a1 : List (Int)) : laws_FnNumbering (n + 1) a0 a1 =
  (laws_r8Long n a0 a1).bind fun r1 => 
   if r1 = true then (some true)
    else ((spec_R8Grammar n a0).bind fun r3 => 
     (laws_r8At n a1 (0 : Int) (6 : Int)).bind fun r4 => 
      (impl_CountMelodies n r3.1 r3.2.1 r3.2.2.1 r3.2.2.2 r4).bind fun r5 => 
       (impl_NumberedMelody n r3.1 r3.2.1 r3.2.2.1 r3.2.2.2 r4 r5.1).bind fun r6 => 
        if (vNot (vEq r5.2 (0 : Int))) = true then (some false)
         else (if (vLt r5.1 (0 : Int)) = true then (some false)
          else (if (vNot (vEq r6.2 (2 : Int))) = true then (some false)
           else (if (vEq r5.1 (0 : Int)) = true then (some true)
            else ((laws_r8Wide n a1 (1 : Int) (60000 : Int)).bind fun r11 => 
             if (vEq r5.1 (0 : Int)) = true then (none)
              else ((impl_NumberedMelody n r3.1 r3.2.1 r3.2.2.1 r3.2.2.2 r4 (vRem r11 r5.1)).bind fun r13 => 
               (impl_MelodyNumber n r3.1 r3.2.1 r3.2.2.1 r3.2.2.2 r13.1).bind fun r14 => 
                if (vNot (vEq r13.2 (0 : Int))) = true then (some false)
                 else (if (vNot (vEq (vLen r13.1) r4)) = true then (some false)
                  else ((spec_Accepts n r3.1 r3.2.1 r3.2.2.1 r3.2.2.2 r13.1).bind fun r17 => 
                   if (vNot r17) = true then (some false)
                    else (if (vNot (vEq r14.2 (0 : Int))) = true then (some false)
                     else (if (vNot (vEq r14.1 (vRem r11 r5.1))) = true then (some false)
                      else (if (vEq (vRem r11 r5.1) (0 : Int)) = true then (some true)
                      else ((impl_NumberedMelody n r3.1 r3.2.1 r3.2.2.1 r3.2.2.2 r4 (wSub .i64 (vRem r11 r5.1) (1 : Int))).bind fun r22 => 
                      if (vNot (vEq r22.2 (0 : Int))) = true then (some false)
                      else (if (vNot (vEq (vLen r22.1) (vLen r13.1))) = true then (some false)
                      else (laws_FnNumbering_r22 n r13.1 r22.1 (0 : Int))))))))))))))) := by kernel_rfl
theorem laws_r8Long_eq (n : Nat) (a0 : List (Int)) (a1 : List (Int)) : laws_r8Long (n + 1) a0 a1 =
  if (vLt (1048576 : Int) (vLen a0)) = true then (some true)
   else (some (vLt (1048576 : Int) (vLen a1))) := by kernel_rfl
theorem spec_R8Grammar_eq (n : Nat) (a0 : List (Int)) : spec_R8Grammar (n + 1) a0 =
  (spec_l00From n a0).bind fun r1 => 
   (spec_l07Draw n r1.1 r1.2.1 r1.2.2).bind fun r2 => 
    some (r2.1, (r2.2.1, (r2.2.2.1, r2.2.2.2.1))) := by kernel_rfl
theorem laws_r8At_eq (n : Nat) (a0 : List (Int)) (a1 : Int) (a2 : Int) : laws_r8At (n + 1) a0 a1 a2 =
  if (vLe a2 (1 : Int)) = true then (some (0 : Int))
   else (if (vLe (vLen a0) a1) = true then (some (0 : Int))
    else (if (inR a1 (vLen a0)) = true then (if (vEq a2 (0 : Int)) = true then (none)
      else (some (vRem (wConv .i64 (vGet a0 a1 (0 : Int))) a2)))
     else (none))) := by kernel_rfl
theorem impl_CountMelodies_eq (n : Nat) (a0_0 : Int) (a0_1 : Int) (a0_2 : List (Int)) (a0_3 : List ((Int × (Int × Int)))) (a1 : Int) : impl_CountMelodies (n + 1) a0_0 a0_1 a0_2 a0_3 a1 =
  (impl_ValidGrammar n a0_0 a0_1 a0_2 a0_3).bind fun r1 => 
   if (vNot r1) = true then (some ((0 : Int), (1 : Int)))
    else ((impl_within n a1 (0 : Int) (12 : Int)).bind fun r3 => 
     if (vNot r3) = true then (some ((0 : Int), (2 : Int)))
      else ((impl_Grammar_counts n a0_0 a0_1 a0_2 a0_3 a1).bind fun r5 => 
       if (inR a1 (vLen r5)) = true then (if (inR a0_1 (vLen (vGet r5 a1 ([] : List (Int))))) = true then (some ((vGet (vGet r5 a1 ([] : List (Int))) a0_1 (0 : Int)), (0 : Int)))
         else (none))
        else (none))) := by kernel_rfl
theorem impl_NumberedMelody_eq (n : Nat) (a0_0 : Int) (a0_1 : Int) (a0_2 : List (Int)) (a0_3 : List ((Int × (Int × Int)))) (a1 : Int) (a2 : Int) : impl_NumberedMelody (n + 1) a0_0 a0_1 a0_2 a0_3 a1 a2 =
  (impl_ValidGrammar n a0_0 a0_1 a0_2 a0_3).bind fun r1 => 
   if (vNot r1) = true then (some (([] : List (Int)), (1 : Int)))
    else ((impl_within n a1 (0 : Int) (12 : Int)).bind fun r3 => 
     if (vNot r3) = true then (some (([] : List (Int)), (2 : Int)))
      else ((impl_Grammar_counts n a0_0 a0_1 a0_2 a0_3 a1).bind fun r5 => 
       if (inR a1 (vLen r5)) = true then (if (inR a0_1 (vLen (vGet r5 a1 ([] : List (Int))))) = true then ((impl_within n a2 (0 : Int) (wSub .i64 (vGet (vGet r5 a1 ([] : List (Int))) a0_1 (0 : Int)) (1 : Int))).bind fun r8 => 
          if (vNot r8) = true then (some (([] : List (Int)), (2 : Int)))
           else (if (makeOk (0 : Int) a1 8) = true then (impl_NumberedMelody_r11 n a2 r5 (vRep (0 : Int) (0 : Int)) a0_1 (wSub .i64 a1 (1 : Int)) a0_0 a0_1 a0_2 a0_3)
            else (none)))
         else (none))
        else (none))) := by kernel_rfl
theorem laws_r8Wide_eq (n : Nat) (a0 : List (Int)) (a1 : Int) (a2 : Int) : laws_r8Wide (n + 1) a0 a1 a2 =
  (laws_r8At n a0 a1 (256 : Int)).bind fun r1 => 
   (laws_r8At n a0 (wAdd .i64 a1 (1 : Int)) (256 : Int)).bind fun r2 => 
    if (vEq a2 (0 : Int)) = true then (none)
     else (some (vRem (wAdd .i64 (wMul .i64 (256 : Int) r1) r2) a2)) := by kernel_rfl
theorem impl_MelodyNumber_eq (n : Nat) (a0_0 : Int) (a0_1 : Int) (a0_2 : List (Int)) (a0_3 : List ((Int × (Int × Int)))) (a1 : List (Int)) : impl_MelodyNumber (n + 1) a0_0 a0_1 a0_2 a0_3 a1 =
  (impl_ValidGrammar n a0_0 a0_1 a0_2 a0_3).bind fun r1 => 
   if (vNot r1) = true then (some ((0 : Int), (1 : Int)))
    else (if (vLt (12 : Int) (vLen a1)) = true then (some ((0 : Int), (2 : Int)))
     else ((impl_Accepts n a0_0 a0_1 a0_2 a0_3 a1).bind fun r4 => 
      if (vNot r4) = true then (some ((0 : Int), (3 : Int)))
       else ((impl_Grammar_counts n a0_0 a0_1 a0_2 a0_3 (vLen a1)).bind fun r6 => 
        impl_MelodyNumber_r10 n (vLen a1) r6 a0_1 (0 : Int) a1 (vLen a1) (0 : Int) a0_0 a0_1 a0_2 a0_3))) := by kernel_rfl
theorem spec_Accepts_eq (n : Nat) (a0_0 : Int) (a0_1 : Int) (a0_2 : List (Int)) (a0_3 : List ((Int × (Int × Int)))) (a1 : List (Int)) : spec_Accepts (n + 1) a0_0 a0_1 a0_2 a0_3 a1 =
  (spec_l07Ok n a0_0 a0_1 a0_2 a0_3).bind fun r1 => 
   if r1.1 = true then ((spec_l07Accepts n r1.2.1 r1.2.2.1 r1.2.2.2.1 r1.2.2.2.2 a1).bind fun r3 => 
     some r3.1)
    else (some false) := by kernel_rfl
theorem laws_FnNumbering_r22_eq (n : Nat) (x12 : List (Int)) (x16 : List (Int)) (x18 : Int) : laws_FnNumbering_r22 (n + 1) x12 x16 x18 =
  if (vLt x18 (vLen x12)) = true then (if (inR x18 (vLen x16)) = true then (if (inR x18 (vLen x12)) = true then (if (vNot (vEq (vGet x16 x18 (0 : Int)) (vGet x12 x18 (0 : Int)))) = true then (if (inR x18 (vLen x16)) = true then (if (inR x18 (vLen x12)) = true then (some (vLt (vGet x16 x18 (0 : Int)) (vGet x12 x18 (0 : Int))))
        else (none))
       else (none))
      else (laws_FnNumbering_r22 n x12 x16 (wAdd .i64 x18 (1 : Int))))
     else (none))
    else (none))
   else (some false) := by kernel_rfl
theorem spec_l00From_eq (n : Nat) (a0 : List (Int)) : spec_l00From (n + 1) a0 =
  some (a0, ((0 : Int), (0 : Int))) := by kernel_rfl
theorem spec_l07Draw_eq (n : Nat) (p0_0 : List (Int)) (p0_1 : Int) (p0_2 : Int) : spec_l07Draw (n + 1) p0_0 p0_1 p0_2 =
  (spec_l00Src_one n p0_0 p0_1 p0_2 (2 : Int)).bind fun r1 => 
   if r1.1 = true then ((spec_l05Draw n r1.2.1 r1.2.2.1 r1.2.2.2).bind fun r3 => 
     (spec_l00Src_pick n r3.2.2.2.2.2.2.1 r3.2.2.2.2.2.2.2.1 r3.2.2.2.2.2.2.2.2 (6 : Int)).bind fun r4 => 
      (spec_l00Src_pick n r4.2.1 r4.2.2.1 r4.2.2.2 (8 : Int)).bind fun r5 => 
       (spec_l07Of n r3.1 r3.2.1 r3.2.2.1 r3.2.2.2.1 r3.2.2.2.2.1 r3.2.2.2.2.2.1 (wSub .i64 r4.1 (5 : Int)) (wAdd .i64 (wAdd .i64 (wSub .i64 r4.1 (5 : Int)) (4 : Int)) r5.1)).bind fun r6 => 
        (spec_l07Ok n r6.1 r6.2.1 r6.2.2.1 r6.2.2.2.1).bind fun r7 => 
         if r7.1 = true then (some (r7.2.1, (r7.2.2.1, (r7.2.2.2.1, (r7.2.2.2.2, (r5.2.1, (r5.2.2.1, r5.2.2.2)))))))
          else (spec_l07Draw_r7 n r5.2.1 r5.2.2.1 r5.2.2.2 (0 : Int) (0 : Int) ([] : List (Int)) ([] : List ((Int × (Int × Int))))))
    else (spec_l07Draw_r7 n r1.2.1 r1.2.2.1 r1.2.2.2 (0 : Int) (0 : Int) ([] : List (Int)) ([] : List ((Int × (Int × Int))))) := by kernel_rfl
theorem impl_ValidGrammar_eq (n : Nat) (a0_0 : Int) (a0_1 : Int) (a0_2 : List (Int)) (a0_3 : List ((Int × (Int × Int)))) : impl_ValidGrammar (n + 1) a0_0 a0_1 a0_2 a0_3 =
  (impl_within n a0_0 (1 : Int) (32 : Int)).bind fun r1 => 
   if (vNot r1) = true then (some false)
    else ((impl_Grammar_hasState n a0_0 a0_1 a0_2 a0_3 a0_1).bind fun r3 => 
     if (vNot r3) = true then (some false)
      else ((impl_increasing n a0_2).bind fun r5 => 
       if (vNot r5) = true then (some false)
        else ((impl_allWithin n a0_2 (0 : Int) (wSub .i64 a0_0 (1 : Int))).bind fun r7 => 
         if (vNot r7) = true then (some false)
          else (if (vLt (256 : Int) (vLen a0_3)) = true then (some false)
           else (impl_ValidGrammar_r4 n a0_3 (vLen a0_3) (0 : Int) a0_0 a0_1 a0_2 a0_3))))) := by kernel_rfl
theorem impl_within_eq (n : Nat) (a0 : Int) (a1 : Int) (a2 : Int) : impl_within (n + 1) a0 a1 a2 =
  if (vLe a1 a0) = true then (some (vLe a0 a2))
   else (some false) := by kernel_rfl
theorem impl_Grammar_counts_eq (n : Nat) (a0_0 : Int) (a0_1 : Int) (a0_2 : List (Int)) (a0_3 : List ((Int × (Int × Int)))) (a1 : Int) : impl_Grammar_counts (n + 1) a0_0 a0_1 a0_2 a0_3 a1 =
  if (makeOk a0_0 a0_0 8) = true then (impl_Grammar_counts_r3 n a1 (vRep a0_0 (0 : Int)) a0_2 (vLen a0_2) (0 : Int) a0_0 a0_1 a0_2 a0_3)
   else (none) := by kernel_rfl
theorem impl_NumberedMelody_r11_eq (n : Nat) (x2 : Int) (x8 : List (List (Int))) (x9 : List (Int)) (x10 : Int) (x11 : Int) (b3_0 : Int) (b3_1 : Int) (b3_2 : List (Int)) (b3_3 : List ((Int × (Int × Int)))) : impl_NumberedMelody_r11 (n + 1) x2 x8 x9 x10 x11 b3_0 b3_1 b3_2 b3_3 =
  if (vLe (0 : Int) x11) = true then ((impl_Grammar_arcsOf n b3_0 b3_1 b3_2 b3_3 x10).bind fun r2 => 
    impl_NumberedMelody_r14 n x2 x8 x9 x10 x11 r2 (vLen r2) (0 : Int) b3_0 b3_1 b3_2 b3_3)
   else (some (x9, (0 : Int))) := by kernel_rfl
theorem impl_Accepts_eq (n : Nat) (a0_0 : Int) (a0_1 : Int) (a0_2 : List (Int)) (a0_3 : List ((Int × (Int × Int)))) (a1 : List (Int)) : impl_Accepts (n + 1) a0_0 a0_1 a0_2 a0_3 a1 =
  (impl_ValidGrammar n a0_0 a0_1 a0_2 a0_3).bind fun r1 => 
   if (vNot r1) = true then (some false)
    else ((impl_Grammar_follow n a0_0 a0_1 a0_2 a0_3 a1).bind fun r3 => 
     if (vEq r3.2 (vLen a1)) = true then ((impl_Grammar_isFinal n a0_0 a0_1 a0_2 a0_3 r3.1).bind fun r5 => 
       some r5)
      else (some false)) := by kernel_rfl
theorem impl_MelodyNumber_r10_eq (n : Nat) (x6 : Int) (x7 : List (List (Int))) (x8 : Int) (x9 : Int) (x33 : List (Int)) (x34 : Int) (x35 : Int) (b2_0 : Int) (b2_1 : Int) (b2_2 : List (Int)) (b2_3 : List ((Int × (Int × Int)))) : impl_MelodyNumber_r10 (n + 1) x6 x7 x8 x9 x33 x34 x35 b2_0 b2_1 b2_2 b2_3 =
  if (vLt x35 x34) = true then (if (inR x35 (vLen x33)) = true then ((impl_Grammar_arcsOf n b2_0 b2_1 b2_2 b2_3 x8).bind fun r3 => 
     impl_MelodyNumber_r13 n x6 x7 x8 x9 x35 (vGet x33 x35 (0 : Int)) x33 x34 x35 r3 (vLen r3) (0 : Int) b2_0 b2_1 b2_2 b2_3)
    else (none))
   else (some (x9, (0 : Int))) := by kernel_rfl
theorem spec_l07Ok_eq (n : Nat) (p0_0 : Int) (p0_1 : Int) (p0_2 : List (Int)) (p0_3 : List ((Int × (Int × Int)))) : spec_l07Ok (n + 1) p0_0 p0_1 p0_2 p0_3 =
  (spec_l00In n p0_0 (1 : Int) (32 : Int)).bind fun r1 => 
   if (vNot r1) = true then (some (false, (p0_0, (p0_1, (p0_2, p0_3)))))
    else ((spec_l00In n p0_1 (0 : Int) (wSub .i64 p0_0 (1 : Int))).bind fun r3 => 
     if (vNot r3) = true then (some (false, (p0_0, (p0_1, (p0_2, p0_3)))))
      else ((spec_l00Rises n p0_2 (0 : Int) (wSub .i64 p0_0 (1 : Int))).bind fun r5 => 
       if (vNot r5) = true then (some (false, (p0_0, (p0_1, (p0_2, p0_3)))))
        else (if (vLt (256 : Int) (vLen p0_3)) = true then (some (false, (p0_0, (p0_1, (p0_2, p0_3)))))
         else (spec_l07Ok_r4 n (0 : Int) p0_0 p0_1 p0_2 p0_3)))) := by kernel_rfl
theorem spec_l07Accepts_eq (n : Nat) (p0_0 : Int) (p0_1 : Int) (p0_2 : List (Int)) (p0_3 : List ((Int × (Int × Int)))) (a1 : List (Int)) : spec_l07Accepts (n + 1) p0_0 p0_1 p0_2 p0_3 a1 =
  (spec_l07Run n p0_0 p0_1 p0_2 p0_3 a1).bind fun r1 => 
   if (vEq r1.2.1 (vLen a1)) = true then ((spec_l00Has n r1.2.2.2.2.1 r1.1).bind fun r3 => 
     some (r3, (r1.2.2.1, (r1.2.2.2.1, (r1.2.2.2.2.1, r1.2.2.2.2.2)))))
    else (some (false, (r1.2.2.1, (r1.2.2.2.1, (r1.2.2.2.2.1, r1.2.2.2.2.2))))) := by kernel_rfl
theorem spec_l00Src_one_eq (n : Nat) (p0_0 : List (Int)) (p0_1 : Int) (p0_2 : Int) (a1 : Int) : spec_l00Src_one (n + 1) p0_0 p0_1 p0_2 a1 =
  (spec_l00Src_pick n p0_0 p0_1 p0_2 a1).bind fun r1 => 
   some ((vEq r1.1 (0 : Int)), (r1.2.1, (r1.2.2.1, r1.2.2.2))) := by kernel_rfl
theorem spec_l05Draw_eq (n : Nat) (p0_0 : List (Int)) (p0_1 : Int) (p0_2 : Int) : spec_l05Draw (n + 1) p0_0 p0_1 p0_2 =
  (spec_l00Src_text n p0_0 p0_1 p0_2 ((⟨#[98, 104, 117, 112, 97, 108, 105, 32, 83, 82, 71, 80, 68, 32, 83, 82, 71, 80, 68, 32, 71, 68]⟩ : ByteArray) :: ((⟨#[121, 97, 109, 97, 110, 32, 83, 82, 71, 77, 80, 68, 78, 32, 83, 82, 71, 77, 80, 68, 78, 32, 71, 78, 32, 83, 82]⟩ : ByteArray) :: ((⟨#[98, 104, 97, 105, 114, 97, 118, 32, 83, 114, 71, 109, 80, 100, 78, 32, 83, 114, 71, 109, 80, 100, 78, 32, 100, 114]⟩ : ByteArray) :: ((⟨#[100, 101, 115, 104, 32, 83, 82, 109, 80, 78, 32, 83, 82, 71, 109, 80, 68, 110, 32, 82, 80, 32, 71, 82]⟩ : ByteArray) :: ((⟨#[107, 97, 102, 105, 32, 83, 82, 103, 109, 80, 68, 110, 32, 83, 82, 103, 109, 80, 68, 110, 32, 80, 82]⟩ : ByteArray) :: ((⟨#[109, 97, 108, 107, 97, 117, 110, 115, 32, 83, 103, 109, 100, 78, 32, 83, 103, 109, 100, 78, 32, 109, 83]⟩ : ByteArray) :: ([] : List (ByteArray))))))))).bind fun r1 => 
   (spec_l05Read n r1.1).bind fun r2 => 
    if (vNot r2.2.2.2.2.2.2) = true then (spec_l05Draw_r4 n r1.2.1 r1.2.2.1 r1.2.2.2 (⟨#[]⟩ : ByteArray) ([] : List (Int)) ([] : List (Int)) (0 : Int) (0 : Int) ([] : List (List (Int))) r2.1 r2.2.1 r2.2.2.1 r2.2.2.2.1 r2.2.2.2.2.1 r2.2.2.2.2.2.1)
     else ((spec_l00Src_one n r1.2.1 r1.2.2.1 r1.2.2.2 (3 : Int)).bind fun r4 => 
      if r4.1 = true then (spec_l05Draw_r4 n r4.2.1 r4.2.2.1 r4.2.2.2 (⟨#[]⟩ : ByteArray) ([] : List (Int)) ([] : List (Int)) (0 : Int) (0 : Int) ([] : List (List (Int))) r2.1 r2.2.1 r2.2.2.1 r2.2.2.2.1 r2.2.2.2.2.1 r2.2.2.2.2.2.1)
       else (spec_l05Draw_r11 n r4.2.1 r4.2.2.1 r4.2.2.2 (⟨#[]⟩ : ByteArray) ([] : List (Int)) ([] : List (Int)) (0 : Int) (0 : Int) ([] : List (List (Int))) r2.1 r2.2.1 r2.2.2.1 r2.2.2.2.1 r2.2.2.2.2.1 r2.2.2.2.2.2.1)) := by kernel_rfl
theorem spec_l00Src_pick_eq (n : Nat) (p0_0 : List (Int)) (p0_1 : Int) (p0_2 : Int) (a1 : Int) : spec_l00Src_pick (n + 1) p0_0 p0_1 p0_2 a1 =
  if (vLe a1 (1 : Int)) = true then (some ((0 : Int), (p0_0, (p0_1, p0_2))))
   else ((spec_l00Src_next n p0_0 p0_1 p0_2).bind fun r2 => 
    if (vLt (200 : Int) a1) = true then ((spec_l00Src_next n r2.2.1 r2.2.2.1 r2.2.2.2).bind fun r4 => 
      if (vEq a1 (0 : Int)) = true then (none)
       else (some ((vRem (wAdd .i64 (wMul .i64 r2.1 (256 : Int)) r4.1) a1), (r4.2.1, (r4.2.2.1, r4.2.2.2)))))
     else (if (vEq a1 (0 : Int)) = true then (none)
      else (some ((vRem r2.1 a1), (r2.2.1, (r2.2.2.1, r2.2.2.2)))))) := by kernel_rfl
theorem spec_l07Of_eq (n : Nat) (p0_0 : ByteArray) (p0_1 : List (Int)) (p0_2 : List (Int)) (p0_3 : Int) (p0_4 : Int) (p0_5 : List (List (Int))) (a1 : Int) (a2 : Int) : spec_l07Of (n + 1) p0_0 p0_1 p0_2 p0_3 p0_4 p0_5 a1 a2 =
  spec_l07Of_r3 n a2 ([] : List (Int)) a1 p0_0 p0_1 p0_2 p0_3 p0_4 p0_5 (0 : Int) (0 : Int) ([] : List (Int)) ([] : List ((Int × (Int × Int)))) := by kernel_rfl
theorem spec_l07Draw_r7_eq (n : Nat) (b0_0 : List (Int)) (b0_1 : Int) (b0_2 : Int) (b2_0 : Int) (b2_1 : Int) (b2_2 : List (Int)) (b2_3 : List ((Int × (Int × Int)))) : spec_l07Draw_r7 (n + 1) b0_0 b0_1 b0_2 b2_0 b2_1 b2_2 b2_3 =
  (spec_l00Src_pick n b0_0 b0_1 b0_2 (6 : Int)).bind fun r1 => 
   (spec_l00Src_pick n r1.2.1 r1.2.2.1 r1.2.2.2 (wAdd .i64 (1 : Int) r1.1)).bind fun r2 => 
    spec_l07Draw_r10 n (0 : Int) r2.2.1 r2.2.2.1 r2.2.2.2 b2_0 b2_1 b2_2 b2_3 (wAdd .i64 (1 : Int) r1.1) r2.1 ([] : List (Int)) ([] : List ((Int × (Int × Int)))) := by kernel_rfl
theorem impl_Grammar_hasState_eq (n : Nat) (a0_0 : Int) (a0_1 : Int) (a0_2 : List (Int)) (a0_3 : List ((Int × (Int × Int)))) (a1 : Int) : impl_Grammar_hasState (n + 1) a0_0 a0_1 a0_2 a0_3 a1 =
  (impl_within n a1 (0 : Int) (wSub .i64 a0_0 (1 : Int))).bind fun r1 => 
   some r1 := by kernel_rfl
theorem impl_increasing_eq (n : Nat) (a0 : List (Int)) : impl_increasing (n + 1) a0 =
  impl_increasing_r2 n a0 (1 : Int) := by kernel_rfl
theorem impl_allWithin_eq (n : Nat) (a0 : List (Int)) (a1 : Int) (a2 : Int) : impl_allWithin (n + 1) a0 a1 a2 =
  (slices_ContainsFunc_int64_int64_i0 n a0 a1 a2).bind fun r1 => 
   some (vNot r1) := by kernel_rfl
theorem impl_ValidGrammar_r4_eq (n : Nat) (x38 : List ((Int × (Int × Int)))) (x39 : Int) (x40 : Int) (b1_0 : Int) (b1_1 : Int) (b1_2 : List (Int)) (b1_3 : List ((Int × (Int × Int)))) : impl_ValidGrammar_r4 (n + 1) x38 x39 x40 b1_0 b1_1 b1_2 b1_3 =
  if (vLt x40 x39) = true then (if (inR x40 (vLen x38)) = true then ((impl_Grammar_hasState n b1_0 b1_1 b1_2 b1_3 (vGet x38 x40 ((0 : Int), ((0 : Int), (0 : Int)))).1).bind fun r3 => 
     if (vNot r3) = true then (some false)
      else ((impl_Grammar_hasState n b1_0 b1_1 b1_2 b1_3 (vGet x38 x40 ((0 : Int), ((0 : Int), (0 : Int)))).2.2).bind fun r5 => 
       if (vNot r5) = true then (some false)
        else ((impl_pitchOk n (vGet x38 x40 ((0 : Int), ((0 : Int), (0 : Int)))).2.1).bind fun r7 => 
         if (vNot r7) = true then (some false)
          else (if (vLt (0 : Int) x40) = true then (if (inR (wSub .i64 x40 (1 : Int)) (vLen b1_3)) = true then ((impl_compareArcs n (vGet b1_3 (wSub .i64 x40 (1 : Int)) ((0 : Int), ((0 : Int), (0 : Int)))).1 (vGet b1_3 (wSub .i64 x40 (1 : Int)) ((0 : Int), ((0 : Int), (0 : Int)))).2.1 (vGet b1_3 (wSub .i64 x40 (1 : Int)) ((0 : Int), ((0 : Int), (0 : Int)))).2.2 (vGet x38 x40 ((0 : Int), ((0 : Int), (0 : Int)))).1 (vGet x38 x40 ((0 : Int), ((0 : Int), (0 : Int)))).2.1 (vGet x38 x40 ((0 : Int), ((0 : Int), (0 : Int)))).2.2).bind fun r11 => 
             if (vLe (0 : Int) r11) = true then (some false)
              else (impl_ValidGrammar_r4 n x38 x39 (wAdd .i64 x40 (1 : Int)) b1_0 b1_1 b1_2 b1_3))
            else (none))
           else (impl_ValidGrammar_r4 n x38 x39 (wAdd .i64 x40 (1 : Int)) b1_0 b1_1 b1_2 b1_3)))))
    else (none))
   else (some true) := by kernel_rfl
theorem impl_Grammar_counts_r3_eq (n : Nat) (x1 : Int) (x5 : List (Int)) (x17 : List (Int)) (x18 : Int) (x19 : Int) (b2_0 : Int) (b2_1 : Int) (b2_2 : List (Int)) (b2_3 : List ((Int × (Int × Int)))) : impl_Grammar_counts_r3 (n + 1) x1 x5 x17 x18 x19 b2_0 b2_1 b2_2 b2_3 =
  if (vLt x19 x18) = true then (if (inR x19 (vLen x17)) = true then (if (inR (vGet x17 x19 (0 : Int)) (vLen x5)) = true then (impl_Grammar_counts_r3 n x1 (vSet x5 (vGet x17 x19 (0 : Int)) (1 : Int)) x17 x18 (wAdd .i64 x19 (1 : Int)) b2_0 b2_1 b2_2 b2_3)
     else (none))
    else (none))
   else (impl_Grammar_counts_r9 n (x5 :: ([] : List (List (Int)))) x1 (0 : Int) b2_0 b2_1 b2_2 b2_3) := by kernel_rfl
theorem impl_Grammar_arcsOf_eq (n : Nat) (a0_0 : Int) (a0_1 : Int) (a0_2 : List (Int)) (a0_3 : List ((Int × (Int × Int)))) (a1 : Int) : impl_Grammar_arcsOf (n + 1) a0_0 a0_1 a0_2 a0_3 a1 =
  impl_Grammar_arcsOf_r3 n a1 ([] : List ((Int × (Int × Int)))) a0_3 (vLen a0_3) (0 : Int) := by kernel_rfl
theorem impl_NumberedMelody_r14_eq (n : Nat) (x2 : Int) (x8 : List (List (Int))) (x9 : List (Int)) (x10 : Int) (x11 : Int) (x49 : List ((Int × (Int × Int)))) (x50 : Int) (x51 : Int) (b3_0 : Int) (b3_1 : Int) (b3_2 : List (Int)) (b3_3 : List ((Int × (Int × Int)))) : impl_NumberedMelody_r14 (n + 1) x2 x8 x9 x10 x11 x49 x50 x51 b3_0 b3_1 b3_2 b3_3 =
  if (vLt x51 x50) = true then (if (inR x51 (vLen x49)) = true then (if (inR x11 (vLen x8)) = true then (if (inR (vGet x49 x51 ((0 : Int), ((0 : Int), (0 : Int)))).2.2 (vLen (vGet x8 x11 ([] : List (Int))))) = true then (if (vLt x2 (vGet (vGet x8 x11 ([] : List (Int))) (vGet x49 x51 ((0 : Int), ((0 : Int), (0 : Int)))).2.2 (0 : Int))) = true then (if (appOk (vLen x9) (vLen ((vGet x49 x51 ((0 : Int), ((0 : Int), (0 : Int)))).2.1 :: ([] : List (Int)))) 8) = true then (impl_NumberedMelody_r11 n x2 x8 (vApp x9 ((vGet x49 x51 ((0 : Int), ((0 : Int), (0 : Int)))).2.1 :: ([] : List (Int)))) (vGet x49 x51 ((0 : Int), ((0 : Int), (0 : Int)))).2.2 (wSub .i64 x11 (1 : Int)) b3_0 b3_1 b3_2 b3_3)
        else (none))
       else (if (inR x11 (vLen x8)) = true then (if (inR (vGet x49 x51 ((0 : Int), ((0 : Int), (0 : Int)))).2.2 (vLen (vGet x8 x11 ([] : List (Int))))) = true then (impl_NumberedMelody_r14 n (wSub .i64 x2 (vGet (vGet x8 x11 ([] : List (Int))) (vGet x49 x51 ((0 : Int), ((0 : Int), (0 : Int)))).2.2 (0 : Int))) x8 x9 x10 x11 x49 x50 (wAdd .i64 x51 (1 : Int)) b3_0 b3_1 b3_2 b3_3)
         else (none))
        else (none)))
      else (none))
     else (none))
    else (none))
   else (impl_NumberedMelody_r11 n x2 x8 x9 x10 (wSub .i64 x11 (1 : Int)) b3_0 b3_1 b3_2 b3_3) := by kernel_rfl
theorem impl_Grammar_follow_eq (n : Nat) (a0_0 : Int) (a0_1 : Int) (a0_2 : List (Int)) (a0_3 : List ((Int × (Int × Int)))) (a1 : List (Int)) : impl_Grammar_follow (n + 1) a0_0 a0_1 a0_2 a0_3 a1 =
  impl_Grammar_follow_r3 n a1 a0_1 a1 (vLen a1) (0 : Int) a0_0 a0_1 a0_2 a0_3 := by kernel_rfl
theorem impl_Grammar_isFinal_eq (n : Nat) (a0_0 : Int) (a0_1 : Int) (a0_2 : List (Int)) (a0_3 : List ((Int × (Int × Int)))) (a1 : Int) : impl_Grammar_isFinal (n + 1) a0_0 a0_1 a0_2 a0_3 a1 =
  (slices_Contains_int64_int64 n a0_2 a1).bind fun r1 => 
   some r1 := by kernel_rfl
theorem impl_MelodyNumber_r13_eq (n : Nat) (x6 : Int) (x7 : List (List (Int))) (x8 : Int) (x9 : Int) (x10 : Int) (x11 : Int) (x33 : List (Int)) (x34 : Int) (x35 : Int) (x42 : List ((Int × (Int × Int)))) (x43 : Int) (x44 : Int) (b2_0 : Int) (b2_1 : Int) (b2_2 : List (Int)) (b2_3 : List ((Int × (Int × Int)))) : impl_MelodyNumber_r13 (n + 1) x6 x7 x8 x9 x10 x11 x33 x34 x35 x42 x43 x44 b2_0 b2_1 b2_2 b2_3 =
  if (vLt x44 x43) = true then (if (inR x44 (vLen x42)) = true then (if (vEq (vGet x42 x44 ((0 : Int), ((0 : Int), (0 : Int)))).2.1 x11) = true then (impl_MelodyNumber_r10 n x6 x7 (vGet x42 x44 ((0 : Int), ((0 : Int), (0 : Int)))).2.2 x9 x33 x34 (wAdd .i64 x35 (1 : Int)) b2_0 b2_1 b2_2 b2_3)
     else (if (inR (wSub .i64 (wSub .i64 x6 x10) (1 : Int)) (vLen x7)) = true then (if (inR (vGet x42 x44 ((0 : Int), ((0 : Int), (0 : Int)))).2.2 (vLen (vGet x7 (wSub .i64 (wSub .i64 x6 x10) (1 : Int)) ([] : List (Int))))) = true then (impl_MelodyNumber_r13 n x6 x7 x8 (wAdd .i64 x9 (vGet (vGet x7 (wSub .i64 (wSub .i64 x6 x10) (1 : Int)) ([] : List (Int))) (vGet x42 x44 ((0 : Int), ((0 : Int), (0 : Int)))).2.2 (0 : Int))) x10 x11 x33 x34 x35 x42 x43 (wAdd .i64 x44 (1 : Int)) b2_0 b2_1 b2_2 b2_3)
       else (none))
      else (none)))
    else (none))
   else (impl_MelodyNumber_r10 n x6 x7 x8 x9 x33 x34 (wAdd .i64 x35 (1 : Int)) b2_0 b2_1 b2_2 b2_3) := by kernel_rfl
theorem spec_l00In_eq (n : Nat) (a0 : Int) (a1 : Int) (a2 : Int) : spec_l00In (n + 1) a0 a1 a2 =
  if (vLe a1 a0) = true then (some (vLe a0 a2))
   else (some false) := by kernel_rfl
theorem spec_l00Rises_eq (n : Nat) (a0 : List (Int)) (a1 : Int) (a2 : Int) : spec_l00Rises (n + 1) a0 a1 a2 =
  spec_l00Rises_r2 n a0 a1 a2 (0 : Int) := by kernel_rfl
theorem spec_l07Ok_r4_eq (n : Nat) (x3 : Int) (b0_0 : Int) (b0_1 : Int) (b0_2 : List (Int)) (b0_3 : List ((Int × (Int × Int)))) : spec_l07Ok_r4 (n + 1) x3 b0_0 b0_1 b0_2 b0_3 =
  if (vLt x3 (vLen b0_3)) = true then (if (inR x3 (vLen b0_3)) = true then ((spec_l00In n (vGet b0_3 x3 ((0 : Int), ((0 : Int), (0 : Int)))).1 (0 : Int) (wSub .i64 b0_0 (1 : Int))).bind fun r3 => 
     if (vNot r3) = true then (some (false, (b0_0, (b0_1, (b0_2, b0_3)))))
      else ((spec_l03Pitch n (vGet b0_3 x3 ((0 : Int), ((0 : Int), (0 : Int)))).2.1).bind fun r5 => 
       if (vNot r5) = true then (some (false, (b0_0, (b0_1, (b0_2, b0_3)))))
        else ((spec_l00In n (vGet b0_3 x3 ((0 : Int), ((0 : Int), (0 : Int)))).2.2 (0 : Int) (wSub .i64 b0_0 (1 : Int))).bind fun r7 => 
         if (vNot r7) = true then (some (false, (b0_0, (b0_1, (b0_2, b0_3)))))
          else (if (vLt (0 : Int) x3) = true then (if (inR (wSub .i64 x3 (1 : Int)) (vLen b0_3)) = true then (if (vLt (vGet b0_3 x3 ((0 : Int), ((0 : Int), (0 : Int)))).1 (vGet b0_3 (wSub .i64 x3 (1 : Int)) ((0 : Int), ((0 : Int), (0 : Int)))).1) = true then (some (false, (b0_0, (b0_1, (b0_2, b0_3)))))
             else (if (inR (wSub .i64 x3 (1 : Int)) (vLen b0_3)) = true then (if (vEq (vGet b0_3 (wSub .i64 x3 (1 : Int)) ((0 : Int), ((0 : Int), (0 : Int)))).1 (vGet b0_3 x3 ((0 : Int), ((0 : Int), (0 : Int)))).1) = true then (if (inR (wSub .i64 x3 (1 : Int)) (vLen b0_3)) = true then (if (vLe (vGet b0_3 x3 ((0 : Int), ((0 : Int), (0 : Int)))).2.1 (vGet b0_3 (wSub .i64 x3 (1 : Int)) ((0 : Int), ((0 : Int), (0 : Int)))).2.1) = true then (some (false, (b0_0, (b0_1, (b0_2, b0_3)))))
                 else (spec_l07Ok_r4 n (wAdd .i64 x3 (1 : Int)) b0_0 b0_1 b0_2 b0_3))
                else (none))
               else (spec_l07Ok_r4 n (wAdd .i64 x3 (1 : Int)) b0_0 b0_1 b0_2 b0_3))
              else (none)))
            else (none))
           else (spec_l07Ok_r4 n (wAdd .i64 x3 (1 : Int)) b0_0 b0_1 b0_2 b0_3)))))
    else (none))
   else (some (true, (b0_0, (b0_1, (b0_2, b0_3))))) := by kernel_rfl
theorem spec_l07Run_eq (n : Nat) (p0_0 : Int) (p0_1 : Int) (p0_2 : List (Int)) (p0_3 : List ((Int × (Int × Int)))) (a1 : List (Int)) : spec_l07Run (n + 1) p0_0 p0_1 p0_2 p0_3 a1 =
  spec_l07Run_r3 n a1 p0_1 (0 : Int) p0_0 p0_1 p0_2 p0_3 := by kernel_rfl
theorem spec_l00Has_eq (n : Nat) (a0 : List (Int)) (a1 : Int) : spec_l00Has (n + 1) a0 a1 =
  spec_l00Has_r2 n a0 a1 (0 : Int) := by kernel_rfl
theorem spec_l00Src_text_eq (n : Nat) (p0_0 : List (Int)) (p0_1 : Int) (p0_2 : Int) (a1 : List (ByteArray)) : spec_l00Src_text (n + 1) p0_0 p0_1 p0_2 a1 =
  (spec_l00Src_pick n p0_0 p0_1 p0_2 (vLen a1)).bind fun r1 => 
   if (inR r1.1 (vLen a1)) = true then (some ((vGet a1 r1.1 (⟨#[]⟩ : ByteArray)), (r1.2.1, (r1.2.2.1, r1.2.2.2))))
    else (none) := by kernel_rfl
theorem spec_l05Read_eq (n : Nat) (a0 : ByteArray) : spec_l05Read (n + 1) a0 =
  (spec_l01Split n a0 (32 : Int)).bind fun r1 => 
   if (vLt (vLen r1) (4 : Int)) = true then (some ((⟨#[]⟩ : ByteArray), (([] : List (Int)), (([] : List (Int)), ((0 : Int), ((0 : Int), (([] : List (List (Int))), false)))))))
    else (if (inR (1 : Int) (vLen r1)) = true then ((spec_l03Read n (vGet r1 (1 : Int) (⟨#[]⟩ : ByteArray))).bind fun r4 => 
      if (inR (2 : Int) (vLen r1)) = true then ((spec_l03Read n (vGet r1 (2 : Int) (⟨#[]⟩ : ByteArray))).bind fun r6 => 
        if (inR (3 : Int) (vLen r1)) = true then ((spec_l05Two n (vGet r1 (3 : Int) (⟨#[]⟩ : ByteArray))).bind fun r8 => 
          if (vNot r4.2) = true then (some ((⟨#[]⟩ : ByteArray), (([] : List (Int)), (([] : List (Int)), ((0 : Int), ((0 : Int), (([] : List (List (Int))), false)))))))
           else (if (vNot r6.2) = true then (some ((⟨#[]⟩ : ByteArray), (([] : List (Int)), (([] : List (Int)), ((0 : Int), ((0 : Int), (([] : List (List (Int))), false)))))))
            else (if (vNot r8.2) = true then (some ((⟨#[]⟩ : ByteArray), (([] : List (Int)), (([] : List (Int)), ((0 : Int), ((0 : Int), (([] : List (List (Int))), false)))))))
             else (if (inR (0 : Int) (vLen r1)) = true then (if (inR (0 : Int) (vLen r8.1)) = true then (if (inR (1 : Int) (vLen r8.1)) = true then (spec_l05Read_r11 n r1 (4 : Int) (⟨#[]⟩ : ByteArray) ([] : List (Int)) ([] : List (Int)) (0 : Int) (0 : Int) ([] : List (List (Int))) (vGet r1 (0 : Int) (⟨#[]⟩ : ByteArray)) r4.1 r6.1 (vGet r8.1 (0 : Int) (0 : Int)) (vGet r8.1 (1 : Int) (0 : Int)) ([] : List (List (Int))))
                else (none))
               else (none))
              else (none)))))
         else (none))
       else (none))
     else (none)) := by kernel_rfl
theorem spec_l05Draw_r4_eq (n : Nat) (b0_0 : List (Int)) (b0_1 : Int) (b0_2 : Int) (b2_0 : ByteArray) (b2_1 : List (Int)) (b2_2 : List (Int)) (b2_3 : Int) (b2_4 : Int) (b2_5 : List (List (Int))) (b4_0 : ByteArray) (b4_1 : List (Int)) (b4_2 : List (Int)) (b4_3 : Int) (b4_4 : Int) (b4_5 : List (List (Int))) : spec_l05Draw_r4 (n + 1) b0_0 b0_1 b0_2 b2_0 b2_1 b2_2 b2_3 b2_4 b2_5 b4_0 b4_1 b4_2 b4_3 b4_4 b4_5 =
  (spec_l03Draw n b0_0 b0_1 b0_2).bind fun r1 => 
   (spec_l03Draw n r1.2.1 r1.2.2.1 r1.2.2.2).bind fun r2 => 
    (spec_l00Src_pick n r2.2.1 r2.2.2.1 r2.2.2.2 (vLen r1.1)).bind fun r3 => 
     if (inR r3.1 (vLen r1.1)) = true then ((spec_l00Src_pick n r3.2.1 r3.2.2.1 r3.2.2.2 (vLen r2.1)).bind fun r5 => 
       if (inR r5.1 (vLen r2.1)) = true then (if (vEq (vGet r1.1 r3.1 (0 : Int)) (vGet r2.1 r5.1 (0 : Int))) = true then (if (inR (1 : Int) (vLen r1.1)) = true then (spec_l05Draw_r11v1 n r5.2.1 r5.2.2.1 r5.2.2.2 b2_0 b2_1 b2_2 b2_3 b2_4 b2_5 (⟨#[110, 101, 119]⟩ : ByteArray) r1.1 r2.1 (vGet r1.1 (1 : Int) (0 : Int)) (0 : Int) ([] : List (List (Int))))
          else (none))
         else (spec_l05Draw_r11v1 n r5.2.1 r5.2.2.1 r5.2.2.2 b2_0 b2_1 b2_2 b2_3 b2_4 b2_5 (⟨#[110, 101, 119]⟩ : ByteArray) r1.1 r2.1 (vGet r1.1 r3.1 (0 : Int)) (vGet r2.1 r5.1 (0 : Int)) ([] : List (List (Int)))))
        else (none))
      else (none) := by kernel_rfl
theorem spec_l05Draw_r11_eq (n : Nat) (b0_0 : List (Int)) (b0_1 : Int) (b0_2 : Int) (b2_0 : ByteArray) (b2_1 : List (Int)) (b2_2 : List (Int)) (b2_3 : Int) (b2_4 : Int) (b2_5 : List (List (Int))) (b4_0 : ByteArray) (b4_1 : List (Int)) (b4_2 : List (Int)) (b4_3 : Int) (b4_4 : Int) (b4_5 : List (List (Int))) : spec_l05Draw_r11 (n + 1) b0_0 b0_1 b0_2 b2_0 b2_1 b2_2 b2_3 b2_4 b2_5 b4_0 b4_1 b4_2 b4_3 b4_4 b4_5 =
  (spec_l00Src_one n b0_0 b0_1 b0_2 (3 : Int)).bind fun r1 => 
   if r1.1 = true then ((spec_l00Src_pick n r1.2.1 r1.2.2.1 r1.2.2.2 (12 : Int)).bind fun r3 => 
     (spec_l00Src_pick n r3.2.1 r3.2.2.1 r3.2.2.2 (11 : Int)).bind fun r4 => 
      if (vEq (12 : Int) (0 : Int)) = true then (none)
       else (some (b4_0, (b4_1, (b4_2, (b4_3, (b4_4, (((r3.1 :: ((vRem (wAdd .i64 (wAdd .i64 r3.1 (1 : Int)) r4.1) (12 : Int)) :: ([] : List (Int)))) :: ([] : List (List (Int)))), (r4.2.1, (r4.2.2.1, r4.2.2.2))))))))))
    else (some (b4_0, (b4_1, (b4_2, (b4_3, (b4_4, (b4_5, (r1.2.1, (r1.2.2.1, r1.2.2.2))))))))) := by kernel_rfl
theorem spec_l00Src_next_eq (n : Nat) (p0_0 : List (Int)) (p0_1 : Int) (p0_2 : Int) : spec_l00Src_next (n + 1) p0_0 p0_1 p0_2 =
  if (vLt p0_1 (vLen p0_0)) = true then (if (inR p0_1 (vLen p0_0)) = true then (spec_l00Src_next_r4 n (wConv .i64 (vGet p0_0 p0_1 (0 : Int))) p0_0 p0_1 p0_2)
    else (none))
   else (spec_l00Src_next_r4 n (0 : Int) p0_0 p0_1 p0_2) := by kernel_rfl
theorem spec_l07Of_r3_eq (n : Nat) (x2 : Int) (x7 : List (Int)) (x8 : Int) (b0_0 : ByteArray) (b0_1 : List (Int)) (b0_2 : List (Int)) (b0_3 : Int) (b0_4 : Int) (b0_5 : List (List (Int))) (b6_0 : Int) (b6_1 : Int) (b6_2 : List (Int)) (b6_3 : List ((Int × (Int × Int)))) : spec_l07Of_r3 (n + 1) x2 x7 x8 b0_0 b0_1 b0_2 b0_3 b0_4 b0_5 b6_0 b6_1 b6_2 b6_3 =
  if (vLe x8 x2) = true then ((spec_l03Tone n x8).bind fun r2 => 
    (spec_l05Tone n b0_0 b0_1 b0_2 b0_3 b0_4 b0_5 r2).bind fun r3 => 
     if r3.1 = true then (if (appOk (vLen x7) (vLen (x8 :: ([] : List (Int)))) 8) = true then (spec_l07Of_r3 n x2 (vApp x7 (x8 :: ([] : List (Int)))) (wAdd .i64 x8 (1 : Int)) r3.2.1 r3.2.2.1 r3.2.2.2.1 r3.2.2.2.2.1 r3.2.2.2.2.2.1 r3.2.2.2.2.2.2 b6_0 b6_1 b6_2 b6_3)
       else (none))
      else (spec_l07Of_r3 n x2 x7 (wAdd .i64 x8 (1 : Int)) r3.2.1 r3.2.2.1 r3.2.2.2.1 r3.2.2.2.2.1 r3.2.2.2.2.2.1 r3.2.2.2.2.2.2 b6_0 b6_1 b6_2 b6_3))
   else (spec_l07Of_r9 n x7 (0 : Int) b0_0 b0_1 b0_2 b0_3 b0_4 b0_5 b6_0 b6_1 b6_2 b6_3 (wAdd .i64 (vLen x7) (1 : Int)) (0 : Int) ([] : List (Int)) ([] : List ((Int × (Int × Int))))) := by kernel_rfl
theorem spec_l07Draw_r10_eq (n : Nat) (x7 : Int) (b0_0 : List (Int)) (b0_1 : Int) (b0_2 : Int) (b2_0 : Int) (b2_1 : Int) (b2_2 : List (Int)) (b2_3 : List ((Int × (Int × Int)))) (b6_0 : Int) (b6_1 : Int) (b6_2 : List (Int)) (b6_3 : List ((Int × (Int × Int)))) : spec_l07Draw_r10 (n + 1) x7 b0_0 b0_1 b0_2 b2_0 b2_1 b2_2 b2_3 b6_0 b6_1 b6_2 b6_3 =
  if (vLt x7 b6_0) = true then ((spec_l00Src_one n b0_0 b0_1 b0_2 (3 : Int)).bind fun r2 => 
    if r2.1 = true then (if (appOk (vLen b6_2) (vLen (x7 :: ([] : List (Int)))) 8) = true then (spec_l07Draw_r15 n x7 (0 : Int) r2.2.1 r2.2.2.1 r2.2.2.2 b2_0 b2_1 b2_2 b2_3 b6_0 b6_1 (vApp b6_2 (x7 :: ([] : List (Int)))) b6_3)
      else (none))
     else (spec_l07Draw_r15 n x7 (0 : Int) r2.2.1 r2.2.2.1 r2.2.2.2 b2_0 b2_1 b2_2 b2_3 b6_0 b6_1 b6_2 b6_3))
   else (some (b6_0, (b6_1, (b6_2, (b6_3, (b0_0, (b0_1, b0_2))))))) := by kernel_rfl
theorem impl_increasing_r2_eq (n : Nat) (x0 : List (Int)) (x3 : Int) : impl_increasing_r2 (n + 1) x0 x3 =
  if (vLt x3 (vLen x0)) = true then (if (inR x3 (vLen x0)) = true then (if (inR (wSub .i64 x3 (1 : Int)) (vLen x0)) = true then (if (vLe (vGet x0 x3 (0 : Int)) (vGet x0 (wSub .i64 x3 (1 : Int)) (0 : Int))) = true then (some false)
      else (impl_increasing_r2 n x0 (wAdd .i64 x3 (1 : Int))))
     else (none))
    else (none))
   else (some true) := by kernel_rfl
theorem slices_ContainsFunc_int64_int64_i0_eq (n : Nat) (a0 : List (Int)) (a1c0 : Int) (a1c1 : Int) : slices_ContainsFunc_int64_int64_i0 (n + 1) a0 a1c0 a1c1 =
  (slices_IndexFunc_int64_int64_i0 n a0 a1c0 a1c1).bind fun r1 => 
   some (vLe (0 : Int) r1) := by kernel_rfl
theorem impl_pitchOk_eq (n : Nat) (a0 : Int) : impl_pitchOk (n + 1) a0 =
  (impl_within n a0 (-12 : Int) (23 : Int)).bind fun r1 => 
   some r1 := by kernel_rfl
theorem impl_compareArcs_eq (n : Nat) (a0_0 : Int) (a0_1 : Int) (a0_2 : Int) (a1_0 : Int) (a1_1 : Int) (a1_2 : Int) : impl_compareArcs (n + 1) a0_0 a0_1 a0_2 a1_0 a1_1 a1_2 =
  (cmp_Compare_int64 n a0_0 a1_0).bind fun r1 => 
   (cmp_Compare_int64 n a0_1 a1_1).bind fun r2 => 
    (cmp_Or_int n (r1 :: (r2 :: ([] : List (Int))))).bind fun r3 => 
     some r3 := by kernel_rfl
theorem impl_Grammar_counts_r9_eq (n : Nat) (x8 : List (List (Int))) (x29 : Int) (x30 : Int) (b2_0 : Int) (b2_1 : Int) (b2_2 : List (Int)) (b2_3 : List ((Int × (Int × Int)))) : impl_Grammar_counts_r9 (n + 1) x8 x29 x30 b2_0 b2_1 b2_2 b2_3 =
  if (vLt x30 x29) = true then (if (inR (wSub .i64 (vLen x8) (1 : Int)) (vLen x8)) = true then (if (makeOk b2_0 b2_0 8) = true then (impl_Grammar_counts_r13 n x8 (vGet x8 (wSub .i64 (vLen x8) (1 : Int)) ([] : List (Int))) (vRep b2_0 (0 : Int)) x29 x30 b2_3 (vLen b2_3) (0 : Int) b2_0 b2_1 b2_2 b2_3)
     else (none))
    else (none))
   else (some x8) := by kernel_rfl
theorem impl_Grammar_arcsOf_r3_eq (n : Nat) (x1 : Int) (x5 : List ((Int × (Int × Int)))) (x9 : List ((Int × (Int × Int)))) (x10 : Int) (x11 : Int) : impl_Grammar_arcsOf_r3 (n + 1) x1 x5 x9 x10 x11 =
  if (vLt x11 x10) = true then (if (inR x11 (vLen x9)) = true then (if (vEq (vGet x9 x11 ((0 : Int), ((0 : Int), (0 : Int)))).1 x1) = true then (if (appOk (vLen x5) (vLen (((vGet x9 x11 ((0 : Int), ((0 : Int), (0 : Int)))).1, ((vGet x9 x11 ((0 : Int), ((0 : Int), (0 : Int)))).2.1, (vGet x9 x11 ((0 : Int), ((0 : Int), (0 : Int)))).2.2)) :: ([] : List ((Int × (Int × Int)))))) 24) = true then (impl_Grammar_arcsOf_r3 n x1 (vApp x5 (((vGet x9 x11 ((0 : Int), ((0 : Int), (0 : Int)))).1, ((vGet x9 x11 ((0 : Int), ((0 : Int), (0 : Int)))).2.1, (vGet x9 x11 ((0 : Int), ((0 : Int), (0 : Int)))).2.2)) :: ([] : List ((Int × (Int × Int)))))) x9 x10 (wAdd .i64 x11 (1 : Int)))
      else (none))
     else (impl_Grammar_arcsOf_r3 n x1 x5 x9 x10 (wAdd .i64 x11 (1 : Int))))
    else (none))
   else (some x5) := by kernel_rfl
theorem impl_Grammar_follow_r3_eq (n : Nat) (x1 : List (Int)) (x6 : Int) (x13 : List (Int)) (x14 : Int) (x15 : Int) (b2_0 : Int) (b2_1 : Int) (b2_2 : List (Int)) (b2_3 : List ((Int × (Int × Int)))) : impl_Grammar_follow_r3 (n + 1) x1 x6 x13 x14 x15 b2_0 b2_1 b2_2 b2_3 =
  if (vLt x15 x14) = true then (if (inR x15 (vLen x13)) = true then ((impl_Grammar_arcsOf n b2_0 b2_1 b2_2 b2_3 x6).bind fun r3 => 
     (slices_IndexFunc_impl_Arc_impl_Arc n r3 (vGet x13 x15 (0 : Int))).bind fun r4 => 
      if (vLt r4 (0 : Int)) = true then (some (x6, x15))
       else (if (inR r4 (vLen r3)) = true then (impl_Grammar_follow_r3 n x1 (vGet r3 r4 ((0 : Int), ((0 : Int), (0 : Int)))).2.2 x13 x14 (wAdd .i64 x15 (1 : Int)) b2_0 b2_1 b2_2 b2_3)
        else (none)))
    else (none))
   else (some (x6, (vLen x1))) := by kernel_rfl
theorem slices_Contains_int64_int64_eq (n : Nat) (a0 : List (Int)) (a1 : Int) : slices_Contains_int64_int64 (n + 1) a0 a1 =
  (slices_Index_int64_int64 n a0 a1).bind fun r1 => 
   some (vLe (0 : Int) r1) := by kernel_rfl
theorem spec_l00Rises_r2_eq (n : Nat) (x0 : List (Int)) (x1 : Int) (x2 : Int) (x7 : Int) : spec_l00Rises_r2 (n + 1) x0 x1 x2 x7 =
  if (vLt x7 (vLen x0)) = true then (if (inR x7 (vLen x0)) = true then ((spec_l00In n (vGet x0 x7 (0 : Int)) x1 x2).bind fun r3 => 
     if (vNot r3) = true then (some false)
      else (if (vLt (0 : Int) x7) = true then (if (inR (wSub .i64 x7 (1 : Int)) (vLen x0)) = true then (if (inR x7 (vLen x0)) = true then (if (vLe (vGet x0 x7 (0 : Int)) (vGet x0 (wSub .i64 x7 (1 : Int)) (0 : Int))) = true then (some false)
          else (spec_l00Rises_r2 n x0 x1 x2 (wAdd .i64 x7 (1 : Int))))
         else (none))
        else (none))
       else (spec_l00Rises_r2 n x0 x1 x2 (wAdd .i64 x7 (1 : Int)))))
    else (none))
   else (some true) := by kernel_rfl
theorem spec_l03Pitch_eq (n : Nat) (a0 : Int) : spec_l03Pitch (n + 1) a0 =
  (spec_l00In n a0 (-12 : Int) (23 : Int)).bind fun r1 => 
   some r1 := by kernel_rfl
theorem spec_l07Run_r3_eq (n : Nat) (x1 : List (Int)) (x6 : Int) (x7 : Int) (b0_0 : Int) (b0_1 : Int) (b0_2 : List (Int)) (b0_3 : List ((Int × (Int × Int)))) : spec_l07Run_r3 (n + 1) x1 x6 x7 b0_0 b0_1 b0_2 b0_3 =
  if (vLt x7 (vLen x1)) = true then (if (inR x7 (vLen x1)) = true then ((spec_l07Step n b0_0 b0_1 b0_2 b0_3 x6 (vGet x1 x7 (0 : Int))).bind fun r3 => 
     if (vLt r3.1 (0 : Int)) = true then (some (x6, (x7, (r3.2.1, (r3.2.2.1, (r3.2.2.2.1, r3.2.2.2.2))))))
      else (spec_l07Run_r3 n x1 r3.1 (wAdd .i64 x7 (1 : Int)) r3.2.1 r3.2.2.1 r3.2.2.2.1 r3.2.2.2.2))
    else (none))
   else (some (x6, ((vLen x1), (b0_0, (b0_1, (b0_2, b0_3)))))) := by kernel_rfl
theorem spec_l00Has_r2_eq (n : Nat) (x0 : List (Int)) (x1 : Int) (x5 : Int) : spec_l00Has_r2 (n + 1) x0 x1 x5 =
  if (vLt x5 (vLen x0)) = true then (if (inR x5 (vLen x0)) = true then (if (vEq (vGet x0 x5 (0 : Int)) x1) = true then (some true)
     else (spec_l00Has_r2 n x0 x1 (wAdd .i64 x5 (1 : Int))))
    else (none))
   else (some false) := by kernel_rfl
theorem spec_l01Split_eq (n : Nat) (a0 : ByteArray) (a1 : Int) : spec_l01Split (n + 1) a0 a1 =
  spec_l01Split_r4 n a0 a1 ([] : List (ByteArray)) (0 : Int) (0 : Int) := by kernel_rfl
theorem spec_l03Read_eq (n : Nat) (a0 : ByteArray) : spec_l03Read (n + 1) a0 =
  spec_l03Read_r3 n a0 ([] : List (Int)) (0 : Int) := by kernel_rfl
theorem spec_l05Two_eq (n : Nat) (a0 : ByteArray) : spec_l05Two (n + 1) a0 =
  if (vNot (vEq (sLen a0) (2 : Int))) = true then (some (([] : List (Int)), false))
   else (if (inR (0 : Int) (sLen a0)) = true then ((spec_l03Named n (byteAt a0 (0 : Int))).bind fun r3 => 
     if (vLt r3 (0 : Int)) = true then (some (([] : List (Int)), false))
      else (if (inR (1 : Int) (sLen a0)) = true then ((spec_l03Named n (byteAt a0 (1 : Int))).bind fun r6 => 
        if (vLt r6 (0 : Int)) = true then (some (([] : List (Int)), false))
         else (if (inR (0 : Int) (sLen a0)) = true then ((spec_l03Named n (byteAt a0 (0 : Int))).bind fun r9 => 
           if (inR (1 : Int) (sLen a0)) = true then ((spec_l03Named n (byteAt a0 (1 : Int))).bind fun r11 => 
             some ((r9 :: (r11 :: ([] : List (Int)))), true))
            else (none))
          else (none)))
       else (none)))
    else (none)) := by kernel_rfl
theorem spec_l05Read_r11_eq (n : Nat) (x4 : List (ByteArray)) (x12 : Int) (b2_0 : ByteArray) (b2_1 : List (Int)) (b2_2 : List (Int)) (b2_3 : Int) (b2_4 : Int) (b2_5 : List (List (Int))) (b11_0 : ByteArray) (b11_1 : List (Int)) (b11_2 : List (Int)) (b11_3 : Int) (b11_4 : Int) (b11_5 : List (List (Int))) : spec_l05Read_r11 (n + 1) x4 x12 b2_0 b2_1 b2_2 b2_3 b2_4 b2_5 b11_0 b11_1 b11_2 b11_3 b11_4 b11_5 =
  if (vLt x12 (vLen x4)) = true then (if (inR x12 (vLen x4)) = true then ((spec_l05Two n (vGet x4 x12 (⟨#[]⟩ : ByteArray))).bind fun r3 => 
     if (vNot r3.2) = true then (some ((⟨#[]⟩ : ByteArray), (([] : List (Int)), (([] : List (Int)), ((0 : Int), ((0 : Int), (([] : List (List (Int))), false)))))))
      else (if (appOk (vLen b11_5) (vLen (r3.1 :: ([] : List (List (Int))))) 24) = true then (spec_l05Read_r11 n x4 (wAdd .i64 x12 (1 : Int)) b2_0 b2_1 b2_2 b2_3 b2_4 b2_5 b11_0 b11_1 b11_2 b11_3 b11_4 (vApp b11_5 (r3.1 :: ([] : List (List (Int))))))
       else (none)))
    else (none))
   else ((spec_l05Ok n b11_0 b11_1 b11_2 b11_3 b11_4 b11_5).bind fun r2 => 
    if (vNot r2.1) = true then (some ((⟨#[]⟩ : ByteArray), (([] : List (Int)), (([] : List (Int)), ((0 : Int), ((0 : Int), (([] : List (List (Int))), false)))))))
     else (some (r2.2.1, (r2.2.2.1, (r2.2.2.2.1, (r2.2.2.2.2.1, (r2.2.2.2.2.2.1, (r2.2.2.2.2.2.2, true)))))))) := by kernel_rfl
theorem spec_l03Draw_eq (n : Nat) (p0_0 : List (Int)) (p0_1 : Int) (p0_2 : Int) : spec_l03Draw (n + 1) p0_0 p0_1 p0_2 =
  (spec_l00Src_text n p0_0 p0_1 p0_2 ((⟨#[83, 82, 71, 109, 80, 68, 78]⟩ : ByteArray) :: ((⟨#[83, 82, 71, 80, 68]⟩ : ByteArray) :: ((⟨#[83, 114, 71, 109, 80, 100, 78]⟩ : ByteArray) :: ((⟨#[83, 82, 103, 109, 80, 68, 110]⟩ : ByteArray) :: ((⟨#[83, 71, 109, 68, 78]⟩ : ByteArray) :: ((⟨#[83, 82, 71, 77, 80, 68, 78]⟩ : ByteArray) :: ((⟨#[83, 114, 82, 103, 71, 109, 77, 80, 100, 68, 110, 78]⟩ : ByteArray) :: ([] : List (ByteArray)))))))))).bind fun r1 => 
   (spec_l00Src_one n r1.2.1 r1.2.2.1 r1.2.2.2 (3 : Int)).bind fun r2 => 
    if r2.1 = true then (spec_l03Draw_r5 n ((0 : Int) :: ([] : List (Int))) (1 : Int) r2.2.1 r2.2.2.1 r2.2.2.2)
     else ((spec_l03Read n r1.1).bind fun r4 => 
      some (r4.1, (r2.2.1, (r2.2.2.1, r2.2.2.2)))) := by kernel_rfl
theorem spec_l05Draw_r11v1_eq (n : Nat) (b0_0 : List (Int)) (b0_1 : Int) (b0_2 : Int) (b2_0 : ByteArray) (b2_1 : List (Int)) (b2_2 : List (Int)) (b2_3 : Int) (b2_4 : Int) (b2_5 : List (List (Int))) (b4_0 : ByteArray) (b4_1 : List (Int)) (b4_2 : List (Int)) (b4_3 : Int) (b4_4 : Int) (b4_5 : List (List (Int))) : spec_l05Draw_r11v1 (n + 1) b0_0 b0_1 b0_2 b2_0 b2_1 b2_2 b2_3 b2_4 b2_5 b4_0 b4_1 b4_2 b4_3 b4_4 b4_5 =
  (spec_l00Src_one n b0_0 b0_1 b0_2 (3 : Int)).bind fun r1 => 
   if r1.1 = true then ((spec_l00Src_pick n r1.2.1 r1.2.2.1 r1.2.2.2 (12 : Int)).bind fun r3 => 
     (spec_l00Src_pick n r3.2.1 r3.2.2.1 r3.2.2.2 (11 : Int)).bind fun r4 => 
      if (vEq (12 : Int) (0 : Int)) = true then (none)
       else (some (b4_0, (b4_1, (b4_2, (b4_3, (b4_4, (((r3.1 :: ((vRem (wAdd .i64 (wAdd .i64 r3.1 (1 : Int)) r4.1) (12 : Int)) :: ([] : List (Int)))) :: ([] : List (List (Int)))), (r4.2.1, (r4.2.2.1, r4.2.2.2))))))))))
    else (some (b4_0, (b4_1, (b4_2, (b4_3, (b4_4, (b4_5, (r1.2.1, (r1.2.2.1, r1.2.2.2))))))))) := by kernel_rfl
theorem spec_l00Src_next_r4_eq (n : Nat) (x3 : Int) (b0_0 : List (Int)) (b0_1 : Int) (b0_2 : Int) : spec_l00Src_next_r4 (n + 1) x3 b0_0 b0_1 b0_2 =
  if (vLe (wAdd .i64 b0_1 (1 : Int)) (vLen b0_0)) = true then (some (x3, (b0_0, ((wAdd .i64 b0_1 (1 : Int)), (wAdd .u64 (wAdd .u64 (wMul .u64 b0_2 (6364136223846793005 : Int)) (wConv .u64 x3)) (1442695040888963407 : Int))))))
   else (if (vLt (40 : Int) (0 : Int)) = true then (none)
    else (some ((wConv .i64 (wAnd .u64 (vShr .u64 (wAdd .u64 (wAdd .u64 (wMul .u64 b0_2 (6364136223846793005 : Int)) (wConv .u64 x3)) (1442695040888963407 : Int)) (40 : Int)) (255 : Int))), (b0_0, ((wAdd .i64 b0_1 (1 : Int)), (wAdd .u64 (wAdd .u64 (wMul .u64 b0_2 (6364136223846793005 : Int)) (wConv .u64 x3)) (1442695040888963407 : Int))))))) := by kernel_rfl
theorem spec_l03Tone_eq (n : Nat) (a0 : Int) : spec_l03Tone (n + 1) a0 =
  if (vEq (12 : Int) (0 : Int)) = true then (none)
   else (if (vEq (12 : Int) (0 : Int)) = true then (none)
    else (some (vRem (wAdd .i64 (vRem a0 (12 : Int)) (12 : Int)) (12 : Int)))) := by kernel_rfl
theorem spec_l05Tone_eq (n : Nat) (p0_0 : ByteArray) (p0_1 : List (Int)) (p0_2 : List (Int)) (p0_3 : Int) (p0_4 : Int) (p0_5 : List (List (Int))) (a1 : Int) : spec_l05Tone (n + 1) p0_0 p0_1 p0_2 p0_3 p0_4 p0_5 a1 =
  (spec_l00Has n p0_1 a1).bind fun r1 => 
   if r1 = true then (some (true, (p0_0, (p0_1, (p0_2, (p0_3, (p0_4, p0_5)))))))
    else ((spec_l00Has n p0_2 a1).bind fun r3 => 
     some (r3, (p0_0, (p0_1, (p0_2, (p0_3, (p0_4, p0_5))))))) := by kernel_rfl
theorem spec_l07Of_r9_eq (n : Nat) (x7 : List (Int)) (x10 : Int) (b0_0 : ByteArray) (b0_1 : List (Int)) (b0_2 : List (Int)) (b0_3 : Int) (b0_4 : Int) (b0_5 : List (List (Int))) (b6_0 : Int) (b6_1 : Int) (b6_2 : List (Int)) (b6_3 : List ((Int × (Int × Int)))) (b9_0 : Int) (b9_1 : Int) (b9_2 : List (Int)) (b9_3 : List ((Int × (Int × Int)))) : spec_l07Of_r9 (n + 1) x7 x10 b0_0 b0_1 b0_2 b0_3 b0_4 b0_5 b6_0 b6_1 b6_2 b6_3 b9_0 b9_1 b9_2 b9_3 =
  if (vLt x10 (vLen x7)) = true then (if (inR x10 (vLen x7)) = true then (if (appOk (vLen b9_3) (vLen (((0 : Int), ((vGet x7 x10 (0 : Int)), (wAdd .i64 x10 (1 : Int)))) :: ([] : List ((Int × (Int × Int)))))) 24) = true then (if (inR x10 (vLen x7)) = true then ((spec_l03Tone n (vGet x7 x10 (0 : Int))).bind fun r5 => 
       if (vEq r5 (0 : Int)) = true then (if (appOk (vLen b9_2) (vLen ((wAdd .i64 x10 (1 : Int)) :: ([] : List (Int)))) 8) = true then (spec_l07Of_r9 n x7 (wAdd .i64 x10 (1 : Int)) b0_0 b0_1 b0_2 b0_3 b0_4 b0_5 b6_0 b6_1 b6_2 b6_3 b9_0 b9_1 (vApp b9_2 ((wAdd .i64 x10 (1 : Int)) :: ([] : List (Int)))) (vApp b9_3 (((0 : Int), ((vGet x7 x10 (0 : Int)), (wAdd .i64 x10 (1 : Int)))) :: ([] : List ((Int × (Int × Int)))))))
         else (none))
        else (spec_l07Of_r9 n x7 (wAdd .i64 x10 (1 : Int)) b0_0 b0_1 b0_2 b0_3 b0_4 b0_5 b6_0 b6_1 b6_2 b6_3 b9_0 b9_1 b9_2 (vApp b9_3 (((0 : Int), ((vGet x7 x10 (0 : Int)), (wAdd .i64 x10 (1 : Int)))) :: ([] : List ((Int × (Int × Int))))))))
      else (none))
     else (none))
    else (none))
   else (spec_l07Of_r15 n x7 (0 : Int) b0_0 b0_1 b0_2 b0_3 b0_4 b0_5 b6_0 b6_1 b6_2 b6_3 b9_0 b9_1 b9_2 b9_3) := by kernel_rfl
theorem spec_l07Draw_r15_eq (n : Nat) (x7 : Int) (x8 : Int) (b0_0 : List (Int)) (b0_1 : Int) (b0_2 : Int) (b2_0 : Int) (b2_1 : Int) (b2_2 : List (Int)) (b2_3 : List ((Int × (Int × Int)))) (b6_0 : Int) (b6_1 : Int) (b6_2 : List (Int)) (b6_3 : List ((Int × (Int × Int)))) : spec_l07Draw_r15 (n + 1) x7 x8 b0_0 b0_1 b0_2 b2_0 b2_1 b2_2 b2_3 b6_0 b6_1 b6_2 b6_3 =
  if (vLt x8 (8 : Int)) = true then ((spec_l00Src_one n b0_0 b0_1 b0_2 (3 : Int)).bind fun r2 => 
    if r2.1 = true then ((spec_l00Src_pick n r2.2.1 r2.2.2.1 r2.2.2.2 b6_0).bind fun r4 => 
      if (appOk (vLen b6_3) (vLen ((x7, (x8, r4.1)) :: ([] : List ((Int × (Int × Int)))))) 24) = true then (spec_l07Draw_r15 n x7 (wAdd .i64 x8 (1 : Int)) r4.2.1 r4.2.2.1 r4.2.2.2 b2_0 b2_1 b2_2 b2_3 b6_0 b6_1 b6_2 (vApp b6_3 ((x7, (x8, r4.1)) :: ([] : List ((Int × (Int × Int)))))))
       else (none))
     else (spec_l07Draw_r15 n x7 (wAdd .i64 x8 (1 : Int)) r2.2.1 r2.2.2.1 r2.2.2.2 b2_0 b2_1 b2_2 b2_3 b6_0 b6_1 b6_2 b6_3))
   else (spec_l07Draw_r10 n (wAdd .i64 x7 (1 : Int)) b0_0 b0_1 b0_2 b2_0 b2_1 b2_2 b2_3 b6_0 b6_1 b6_2 b6_3) := by kernel_rfl
theorem slices_IndexFunc_int64_int64_i0_eq (n : Nat) (a0 : List (Int)) (a1c0 : Int) (a1c1 : Int) : slices_IndexFunc_int64_int64_i0 (n + 1) a0 a1c0 a1c1 =
  slices_IndexFunc_int64_int64_i0_r2 n a0 a1c0 a1c1 (vLen a0) (0 : Int) := by kernel_rfl
theorem cmp_Compare_int64_eq (n : Nat) (a0 : Int) (a1 : Int) : cmp_Compare_int64 (n + 1) a0 a1 =
  (cmp_isNaN_int64 n a0).bind fun r1 => 
   (cmp_isNaN_int64 n a1).bind fun r2 => 
    if r1 = true then (if r2 = true then (some (0 : Int))
      else (some (-1 : Int)))
     else (if r2 = true then (some (1 : Int))
      else (if (vLt a0 a1) = true then (some (-1 : Int))
       else (if (vLt a1 a0) = true then (some (1 : Int))
        else (some (0 : Int))))) := by kernel_rfl
theorem cmp_Or_int_eq (n : Nat) (a0 : List (Int)) : cmp_Or_int (n + 1) a0 =
  cmp_Or_int_r3 n (0 : Int) a0 (vLen a0) (0 : Int) := by kernel_rfl
theorem impl_Grammar_counts_r13_eq (n : Nat) (x8 : List (List (Int))) (x9 : List (Int)) (x10 : List (Int)) (x29 : Int) (x30 : Int) (x42 : List ((Int × (Int × Int)))) (x43 : Int) (x44 : Int) (b2_0 : Int) (b2_1 : Int) (b2_2 : List (Int)) (b2_3 : List ((Int × (Int × Int)))) : impl_Grammar_counts_r13 (n + 1) x8 x9 x10 x29 x30 x42 x43 x44 b2_0 b2_1 b2_2 b2_3 =
  if (vLt x44 x43) = true then (if (inR x44 (vLen x42)) = true then (if (inR (vGet x42 x44 ((0 : Int), ((0 : Int), (0 : Int)))).1 (vLen x10)) = true then (if (inR (vGet x42 x44 ((0 : Int), ((0 : Int), (0 : Int)))).2.2 (vLen x9)) = true then (if (inR (vGet x42 x44 ((0 : Int), ((0 : Int), (0 : Int)))).1 (vLen x10)) = true then (impl_Grammar_counts_r13 n x8 x9 (vSet x10 (vGet x42 x44 ((0 : Int), ((0 : Int), (0 : Int)))).1 (wAdd .i64 (vGet x10 (vGet x42 x44 ((0 : Int), ((0 : Int), (0 : Int)))).1 (0 : Int)) (vGet x9 (vGet x42 x44 ((0 : Int), ((0 : Int), (0 : Int)))).2.2 (0 : Int)))) x29 x30 x42 x43 (wAdd .i64 x44 (1 : Int)) b2_0 b2_1 b2_2 b2_3)
       else (none))
      else (none))
     else (none))
    else (none))
   else (if (appOk (vLen x8) (vLen (x10 :: ([] : List (List (Int))))) 24) = true then (impl_Grammar_counts_r9 n (vApp x8 (x10 :: ([] : List (List (Int))))) x29 (wAdd .i64 x30 (1 : Int)) b2_0 b2_1 b2_2 b2_3)
    else (none)) := by kernel_rfl
theorem slices_IndexFunc_impl_Arc_impl_Arc_eq (n : Nat) (a0 : List ((Int × (Int × Int)))) (a1c0 : Int) : slices_IndexFunc_impl_Arc_impl_Arc (n + 1) a0 a1c0 =
  slices_IndexFunc_impl_Arc_impl_Arc_r2 n a0 a1c0 (vLen a0) (0 : Int) := by kernel_rfl
theorem slices_Index_int64_int64_eq (n : Nat) (a0 : List (Int)) (a1 : Int) : slices_Index_int64_int64 (n + 1) a0 a1 =
  slices_Index_int64_int64_r2 n a0 a1 (vLen a0) (0 : Int) := by kernel_rfl
theorem spec_l07Step_eq (n : Nat) (p0_0 : Int) (p0_1 : Int) (p0_2 : List (Int)) (p0_3 : List ((Int × (Int × Int)))) (a1 : Int) (a2 : Int) : spec_l07Step (n + 1) p0_0 p0_1 p0_2 p0_3 a1 a2 =
  spec_l07Step_r2 n a1 a2 (0 : Int) p0_0 p0_1 p0_2 p0_3 := by kernel_rfl
theorem spec_l01Split_r4_eq (n : Nat) (x0 : ByteArray) (x1 : Int) (x5 : List (ByteArray)) (x6 : Int) (x7 : Int) : spec_l01Split_r4 (n + 1) x0 x1 x5 x6 x7 =
  if (vLt x7 (sLen x0)) = true then (if (inR x7 (sLen x0)) = true then (if (vEq (byteAt x0 x7) x1) = true then (if (cutOk x6 x7 (sLen x0)) = true then (if (appOk (vLen x5) (vLen ((sCut x0 x6 x7) :: ([] : List (ByteArray)))) 16) = true then (spec_l01Split_r4 n x0 x1 (vApp x5 ((sCut x0 x6 x7) :: ([] : List (ByteArray)))) (wAdd .i64 x7 (1 : Int)) (wAdd .i64 x7 (1 : Int)))
       else (none))
      else (none))
     else (spec_l01Split_r4 n x0 x1 x5 x6 (wAdd .i64 x7 (1 : Int))))
    else (none))
   else (if (cutOk x6 (sLen x0) (sLen x0)) = true then (if (appOk (vLen x5) (vLen ((sCut x0 x6 (sLen x0)) :: ([] : List (ByteArray)))) 16) = true then (some (vApp x5 ((sCut x0 x6 (sLen x0)) :: ([] : List (ByteArray)))))
     else (none))
    else (none)) := by kernel_rfl
theorem spec_l03Read_r3_eq (n : Nat) (x0 : ByteArray) (x4 : List (Int)) (x5 : Int) : spec_l03Read_r3 (n + 1) x0 x4 x5 =
  if (vLt x5 (sLen x0)) = true then (if (inR x5 (sLen x0)) = true then ((spec_l03Named n (byteAt x0 x5)).bind fun r3 => 
     if (appOk (vLen x4) (vLen (r3 :: ([] : List (Int)))) 8) = true then (spec_l03Read_r3 n x0 (vApp x4 (r3 :: ([] : List (Int)))) (wAdd .i64 x5 (1 : Int)))
      else (none))
    else (none))
   else ((spec_l03Scale n x4).bind fun r2 => 
    if (vNot r2) = true then (some (([] : List (Int)), false))
     else (some (x4, true))) := by kernel_rfl
theorem spec_l03Named_eq (n : Nat) (a0 : Int) : spec_l03Named (n + 1) a0 =
  (spec_l03Names n ).bind fun r1 => 
   spec_l03Named_r3 n a0 r1 (0 : Int) := by kernel_rfl
theorem spec_l05Ok_eq (n : Nat) (p0_0 : ByteArray) (p0_1 : List (Int)) (p0_2 : List (Int)) (p0_3 : Int) (p0_4 : Int) (p0_5 : List (List (Int))) : spec_l05Ok (n + 1) p0_0 p0_1 p0_2 p0_3 p0_4 p0_5 =
  (spec_l01Name n p0_0).bind fun r1 => 
   if r1 = true then ((spec_l03Scale n p0_1).bind fun r3 => 
     if r3 = true then ((spec_l03Scale n p0_2).bind fun r5 => 
       if r5 = true then ((spec_l05Tonev1 n p0_0 p0_1 p0_2 p0_3 p0_4 p0_5 p0_3).bind fun r7 => 
         if r7.1 = true then ((spec_l05Tone n r7.2.1 r7.2.2.1 r7.2.2.2.1 r7.2.2.2.2.1 r7.2.2.2.2.2.1 r7.2.2.2.2.2.2 r7.2.2.2.2.2.1).bind fun r9 => 
           if r9.1 = true then (if (vNot (vEq r9.2.2.2.2.1 r9.2.2.2.2.2.1)) = true then ((spec_l05Pairs n r9.2.2.2.2.2.2).bind fun r12 => 
              some (r12, (r9.2.1, (r9.2.2.1, (r9.2.2.2.1, (r9.2.2.2.2.1, (r9.2.2.2.2.2.1, r9.2.2.2.2.2.2)))))))
             else (some (false, (r9.2.1, (r9.2.2.1, (r9.2.2.2.1, (r9.2.2.2.2.1, (r9.2.2.2.2.2.1, r9.2.2.2.2.2.2))))))))
            else (some (false, (r9.2.1, (r9.2.2.1, (r9.2.2.2.1, (r9.2.2.2.2.1, (r9.2.2.2.2.2.1, r9.2.2.2.2.2.2))))))))
          else (some (false, (r7.2.1, (r7.2.2.1, (r7.2.2.2.1, (r7.2.2.2.2.1, (r7.2.2.2.2.2.1, r7.2.2.2.2.2.2))))))))
        else (some (false, (p0_0, (p0_1, (p0_2, (p0_3, (p0_4, p0_5))))))))
      else (some (false, (p0_0, (p0_1, (p0_2, (p0_3, (p0_4, p0_5))))))))
    else (some (false, (p0_0, (p0_1, (p0_2, (p0_3, (p0_4, p0_5))))))) := by kernel_rfl
theorem spec_l03Draw_r5_eq (n : Nat) (x4 : List (Int)) (x5 : Int) (b0_0 : List (Int)) (b0_1 : Int) (b0_2 : Int) : spec_l03Draw_r5 (n + 1) x4 x5 b0_0 b0_1 b0_2 =
  if (vLt x5 (12 : Int)) = true then ((spec_l00Src_one n b0_0 b0_1 b0_2 (2 : Int)).bind fun r2 => 
    if r2.1 = true then (if (appOk (vLen x4) (vLen (x5 :: ([] : List (Int)))) 8) = true then (spec_l03Draw_r5 n (vApp x4 (x5 :: ([] : List (Int)))) (wAdd .i64 x5 (1 : Int)) r2.2.1 r2.2.2.1 r2.2.2.2)
      else (none))
     else (if (vLe (wSub .i64 (12 : Int) x5) (wSub .i64 (5 : Int) (vLen x4))) = true then (if (appOk (vLen x4) (vLen (x5 :: ([] : List (Int)))) 8) = true then (spec_l03Draw_r5 n (vApp x4 (x5 :: ([] : List (Int)))) (wAdd .i64 x5 (1 : Int)) r2.2.1 r2.2.2.1 r2.2.2.2)
       else (none))
      else (spec_l03Draw_r5 n x4 (wAdd .i64 x5 (1 : Int)) r2.2.1 r2.2.2.1 r2.2.2.2)))
   else (some (x4, (b0_0, (b0_1, b0_2)))) := by kernel_rfl
theorem spec_l07Of_r15_eq (n : Nat) (x7 : List (Int)) (x11 : Int) (b0_0 : ByteArray) (b0_1 : List (Int)) (b0_2 : List (Int)) (b0_3 : Int) (b0_4 : Int) (b0_5 : List (List (Int))) (b6_0 : Int) (b6_1 : Int) (b6_2 : List (Int)) (b6_3 : List ((Int × (Int × Int)))) (b9_0 : Int) (b9_1 : Int) (b9_2 : List (Int)) (b9_3 : List ((Int × (Int × Int)))) : spec_l07Of_r15 (n + 1) x7 x11 b0_0 b0_1 b0_2 b0_3 b0_4 b0_5 b6_0 b6_1 b6_2 b6_3 b9_0 b9_1 b9_2 b9_3 =
  if (vLt x11 (vLen x7)) = true then (spec_l07Of_r18 n x7 x11 (0 : Int) b0_0 b0_1 b0_2 b0_3 b0_4 b0_5 b6_0 b6_1 b6_2 b6_3 b9_0 b9_1 b9_2 b9_3)
   else (some (b9_0, (b9_1, (b9_2, (b9_3, (b0_0, (b0_1, (b0_2, (b0_3, (b0_4, b0_5)))))))))) := by kernel_rfl
theorem slices_IndexFunc_int64_int64_i0_r2_eq (n : Nat) (x0 : List (Int)) (x1c0 : Int) (x1c1 : Int) (x7 : Int) (x8 : Int) : slices_IndexFunc_int64_int64_i0_r2 (n + 1) x0 x1c0 x1c1 x7 x8 =
  if (vLt x8 x7) = true then (if (inR x8 (vLen x0)) = true then ((impl_allWithin_1 n (vGet x0 x8 (0 : Int)) x1c0 x1c1).bind fun r3 => 
     if r3 = true then (some x8)
      else (slices_IndexFunc_int64_int64_i0_r2 n x0 x1c0 x1c1 x7 (wAdd .i64 x8 (1 : Int))))
    else (none))
   else (some (-1 : Int)) := by kernel_rfl
theorem cmp_isNaN_int64_eq (n : Nat) (a0 : Int) : cmp_isNaN_int64 (n + 1) a0 =
  some (vNot (vEq a0 a0)) := by kernel_rfl
theorem cmp_Or_int_r3_eq (n : Nat) (x3 : Int) (x6 : List (Int)) (x7 : Int) (x8 : Int) : cmp_Or_int_r3 (n + 1) x3 x6 x7 x8 =
  if (vLt x8 x7) = true then (if (inR x8 (vLen x6)) = true then (if (vNot (vEq (vGet x6 x8 (0 : Int)) x3)) = true then (some (vGet x6 x8 (0 : Int)))
     else (cmp_Or_int_r3 n x3 x6 x7 (wAdd .i64 x8 (1 : Int))))
    else (none))
   else (some x3) := by kernel_rfl
theorem slices_IndexFunc_impl_Arc_impl_Arc_r2_eq (n : Nat) (x0 : List ((Int × (Int × Int)))) (x1c0 : Int) (x7 : Int) (x8 : Int) : slices_IndexFunc_impl_Arc_impl_Arc_r2 (n + 1) x0 x1c0 x7 x8 =
  if (vLt x8 x7) = true then (if (inR x8 (vLen x0)) = true then ((impl_Grammar_follow_1 n (vGet x0 x8 ((0 : Int), ((0 : Int), (0 : Int)))).1 (vGet x0 x8 ((0 : Int), ((0 : Int), (0 : Int)))).2.1 (vGet x0 x8 ((0 : Int), ((0 : Int), (0 : Int)))).2.2 x1c0).bind fun r3 => 
     if r3 = true then (some x8)
      else (slices_IndexFunc_impl_Arc_impl_Arc_r2 n x0 x1c0 x7 (wAdd .i64 x8 (1 : Int))))
    else (none))
   else (some (-1 : Int)) := by kernel_rfl
theorem slices_Index_int64_int64_r2_eq (n : Nat) (x0 : List (Int)) (x1 : Int) (x7 : Int) (x8 : Int) : slices_Index_int64_int64_r2 (n + 1) x0 x1 x7 x8 =
  if (vLt x8 x7) = true then (if (inR x8 (vLen x0)) = true then (if (vEq x1 (vGet x0 x8 (0 : Int))) = true then (some x8)
     else (slices_Index_int64_int64_r2 n x0 x1 x7 (wAdd .i64 x8 (1 : Int))))
    else (none))
   else (some (-1 : Int)) := by kernel_rfl
theorem spec_l07Step_r2_eq (n : Nat) (x1 : Int) (x2 : Int) (x7 : Int) (b0_0 : Int) (b0_1 : Int) (b0_2 : List (Int)) (b0_3 : List ((Int × (Int × Int)))) : spec_l07Step_r2 (n + 1) x1 x2 x7 b0_0 b0_1 b0_2 b0_3 =
  if (vLt x7 (vLen b0_3)) = true then (if (inR x7 (vLen b0_3)) = true then (if (vEq (vGet b0_3 x7 ((0 : Int), ((0 : Int), (0 : Int)))).1 x1) = true then (if (inR x7 (vLen b0_3)) = true then (if (vEq (vGet b0_3 x7 ((0 : Int), ((0 : Int), (0 : Int)))).2.1 x2) = true then (if (inR x7 (vLen b0_3)) = true then (some ((vGet b0_3 x7 ((0 : Int), ((0 : Int), (0 : Int)))).2.2, (b0_0, (b0_1, (b0_2, b0_3)))))
        else (none))
       else (spec_l07Step_r2 n x1 x2 (wAdd .i64 x7 (1 : Int)) b0_0 b0_1 b0_2 b0_3))
      else (none))
     else (spec_l07Step_r2 n x1 x2 (wAdd .i64 x7 (1 : Int)) b0_0 b0_1 b0_2 b0_3))
    else (none))
   else (some ((-1 : Int), (b0_0, (b0_1, (b0_2, b0_3))))) := by kernel_rfl
theorem spec_l03Scale_eq (n : Nat) (a0 : List (Int)) : spec_l03Scale (n + 1) a0 =
  if (vLe (5 : Int) (vLen a0)) = true then ((spec_l00Rises n a0 (0 : Int) (11 : Int)).bind fun r2 => 
    if r2 = true then (if (inR (0 : Int) (vLen a0)) = true then (some (vEq (vGet a0 (0 : Int) (0 : Int)) (0 : Int)))
      else (none))
     else (some false))
   else (some false) := by kernel_rfl
theorem spec_l03Names_eq (n : Nat) : spec_l03Names (n + 1) =
  some (⟨#[83, 114, 82, 103, 71, 109, 77, 80, 100, 68, 110, 78]⟩ : ByteArray) := by kernel_rfl
theorem spec_l03Named_r3_eq (n : Nat) (x0 : Int) (x3 : ByteArray) (x4 : Int) : spec_l03Named_r3 (n + 1) x0 x3 x4 =
  if (vLt x4 (sLen x3)) = true then (if (inR x4 (sLen x3)) = true then (if (vEq (byteAt x3 x4) x0) = true then (some x4)
     else (spec_l03Named_r3 n x0 x3 (wAdd .i64 x4 (1 : Int))))
    else (none))
   else (some (-1 : Int)) := by kernel_rfl
theorem spec_l01Name_eq (n : Nat) (a0 : ByteArray) : spec_l01Name (n + 1) a0 =
  if (sEq a0 (⟨#[]⟩ : ByteArray)) = true then (some false)
   else (if (vLt (10 : Int) (sLen a0)) = true then (some false)
    else (if (inR (0 : Int) (sLen a0)) = true then ((spec_l01Small n (byteAt a0 (0 : Int))).bind fun r4 => 
      if (vNot r4) = true then (some false)
       else (spec_l01Name_r4 n a0 (0 : Int)))
     else (none))) := by kernel_rfl
theorem spec_l05Tonev1_eq (n : Nat) (p0_0 : ByteArray) (p0_1 : List (Int)) (p0_2 : List (Int)) (p0_3 : Int) (p0_4 : Int) (p0_5 : List (List (Int))) (a1 : Int) : spec_l05Tonev1 (n + 1) p0_0 p0_1 p0_2 p0_3 p0_4 p0_5 a1 =
  (spec_l00Has n p0_1 a1).bind fun r1 => 
   if r1 = true then (some (true, (p0_0, (p0_1, (p0_2, (p0_3, (p0_4, p0_5)))))))
    else ((spec_l00Has n p0_2 a1).bind fun r3 => 
     some (r3, (p0_0, (p0_1, (p0_2, (p0_3, (p0_4, p0_5))))))) := by kernel_rfl
theorem spec_l05Pairs_eq (n : Nat) (a0 : List (List (Int))) : spec_l05Pairs (n + 1) a0 =
  spec_l05Pairs_r2 n a0 (0 : Int) := by kernel_rfl
theorem spec_l07Of_r18_eq (n : Nat) (x7 : List (Int)) (x11 : Int) (x12 : Int) (b0_0 : ByteArray) (b0_1 : List (Int)) (b0_2 : List (Int)) (b0_3 : Int) (b0_4 : Int) (b0_5 : List (List (Int))) (b6_0 : Int) (b6_1 : Int) (b6_2 : List (Int)) (b6_3 : List ((Int × (Int × Int)))) (b9_0 : Int) (b9_1 : Int) (b9_2 : List (Int)) (b9_3 : List ((Int × (Int × Int)))) : spec_l07Of_r18 (n + 1) x7 x11 x12 b0_0 b0_1 b0_2 b0_3 b0_4 b0_5 b6_0 b6_1 b6_2 b6_3 b9_0 b9_1 b9_2 b9_3 =
  if (vLt x12 (vLen x7)) = true then (if (inR x11 (vLen x7)) = true then (if (inR x12 (vLen x7)) = true then ((spec_l05Reason n b0_0 b0_1 b0_2 b0_3 b0_4 b0_5 (vGet x7 x11 (0 : Int)) (vGet x7 x12 (0 : Int))).bind fun r4 => 
      if (vEq r4.1 (0 : Int)) = true then (if (inR x12 (vLen x7)) = true then (if (appOk (vLen b9_3) (vLen (((wAdd .i64 x11 (1 : Int)), ((vGet x7 x12 (0 : Int)), (wAdd .i64 x12 (1 : Int)))) :: ([] : List ((Int × (Int × Int)))))) 24) = true then (spec_l07Of_r18 n x7 x11 (wAdd .i64 x12 (1 : Int)) r4.2.1 r4.2.2.1 r4.2.2.2.1 r4.2.2.2.2.1 r4.2.2.2.2.2.1 r4.2.2.2.2.2.2 b6_0 b6_1 b6_2 b6_3 b9_0 b9_1 b9_2 (vApp b9_3 (((wAdd .i64 x11 (1 : Int)), ((vGet x7 x12 (0 : Int)), (wAdd .i64 x12 (1 : Int)))) :: ([] : List ((Int × (Int × Int)))))))
         else (none))
        else (none))
       else (spec_l07Of_r18 n x7 x11 (wAdd .i64 x12 (1 : Int)) r4.2.1 r4.2.2.1 r4.2.2.2.1 r4.2.2.2.2.1 r4.2.2.2.2.2.1 r4.2.2.2.2.2.2 b6_0 b6_1 b6_2 b6_3 b9_0 b9_1 b9_2 b9_3))
     else (none))
    else (none))
   else (spec_l07Of_r15 n x7 (wAdd .i64 x11 (1 : Int)) b0_0 b0_1 b0_2 b0_3 b0_4 b0_5 b6_0 b6_1 b6_2 b6_3 b9_0 b9_1 b9_2 b9_3) := by kernel_rfl
theorem impl_allWithin_1_eq (n : Nat) (a0 : Int) (a1 : Int) (a2 : Int) : impl_allWithin_1 (n + 1) a0 a1 a2 =
  (impl_within n a0 a1 a2).bind fun r1 => 
   some (vNot r1) := by kernel_rfl
theorem impl_Grammar_follow_1_eq (n : Nat) (a0_0 : Int) (a0_1 : Int) (a0_2 : Int) (a1 : Int) : impl_Grammar_follow_1 (n + 1) a0_0 a0_1 a0_2 a1 =
  some (vEq a0_1 a1) := by kernel_rfl
theorem spec_l01Small_eq (n : Nat) (a0 : Int) : spec_l01Small (n + 1) a0 =
  if (vLe (97 : Int) a0) = true then (some (vLe a0 (122 : Int)))
   else (some false) := by kernel_rfl
theorem spec_l01Name_r4_eq (n : Nat) (x0 : ByteArray) (x3 : Int) : spec_l01Name_r4 (n + 1) x0 x3 =
  if (vLt x3 (sLen x0)) = true then (if (inR x3 (sLen x0)) = true then ((spec_l01Small n (byteAt x0 x3)).bind fun r3 => 
     if (vNot r3) = true then (if (inR x3 (sLen x0)) = true then ((spec_l01Digit n (byteAt x0 x3)).bind fun r6 => 
        if (vNot r6) = true then (some false)
         else (spec_l01Name_r4 n x0 (wAdd .i64 x3 (1 : Int))))
       else (none))
      else (spec_l01Name_r4 n x0 (wAdd .i64 x3 (1 : Int))))
    else (none))
   else (some true) := by kernel_rfl
theorem spec_l05Pairs_r2_eq (n : Nat) (x0 : List (List (Int))) (x3 : Int) : spec_l05Pairs_r2 (n + 1) x0 x3 =
  if (vLt x3 (vLen x0)) = true then (if (inR x3 (vLen x0)) = true then ((spec_l05Pair n (vGet x0 x3 ([] : List (Int)))).bind fun r3 => 
     if (vNot r3) = true then (some false)
      else (if (vLt (0 : Int) x3) = true then (if (inR (wSub .i64 x3 (1 : Int)) (vLen x0)) = true then (if (inR (0 : Int) (vLen (vGet x0 (wSub .i64 x3 (1 : Int)) ([] : List (Int))))) = true then (if (inR x3 (vLen x0)) = true then (if (inR (0 : Int) (vLen (vGet x0 x3 ([] : List (Int))))) = true then (if (vLt (vGet (vGet x0 x3 ([] : List (Int))) (0 : Int) (0 : Int)) (vGet (vGet x0 (wSub .i64 x3 (1 : Int)) ([] : List (Int))) (0 : Int) (0 : Int))) = true then (some false)
            else (if (inR (wSub .i64 x3 (1 : Int)) (vLen x0)) = true then (if (inR (0 : Int) (vLen (vGet x0 (wSub .i64 x3 (1 : Int)) ([] : List (Int))))) = true then (if (inR x3 (vLen x0)) = true then (if (inR (0 : Int) (vLen (vGet x0 x3 ([] : List (Int))))) = true then (if (vEq (vGet (vGet x0 (wSub .i64 x3 (1 : Int)) ([] : List (Int))) (0 : Int) (0 : Int)) (vGet (vGet x0 x3 ([] : List (Int))) (0 : Int) (0 : Int))) = true then (if (inR (wSub .i64 x3 (1 : Int)) (vLen x0)) = true then (if (inR (1 : Int) (vLen (vGet x0 (wSub .i64 x3 (1 : Int)) ([] : List (Int))))) = true then (if (inR x3 (vLen x0)) = true then (if (inR (1 : Int) (vLen (vGet x0 x3 ([] : List (Int))))) = true then (if (vLe (vGet (vGet x0 x3 ([] : List (Int))) (1 : Int) (0 : Int)) (vGet (vGet x0 (wSub .i64 x3 (1 : Int)) ([] : List (Int))) (1 : Int) (0 : Int))) = true then (some false)
                      else (spec_l05Pairs_r2 n x0 (wAdd .i64 x3 (1 : Int))))
                     else (none))
                    else (none))
                   else (none))
                  else (none))
                 else (spec_l05Pairs_r2 n x0 (wAdd .i64 x3 (1 : Int))))
                else (none))
               else (none))
              else (none))
             else (none)))
           else (none))
          else (none))
         else (none))
        else (none))
       else (spec_l05Pairs_r2 n x0 (wAdd .i64 x3 (1 : Int)))))
    else (none))
   else (some (vLe (vLen x0) (8 : Int))) := by kernel_rfl
theorem spec_l05Reason_eq (n : Nat) (p0_0 : ByteArray) (p0_1 : List (Int)) (p0_2 : List (Int)) (p0_3 : Int) (p0_4 : Int) (p0_5 : List (List (Int))) (a1 : Int) (a2 : Int) : spec_l05Reason (n + 1) p0_0 p0_1 p0_2 p0_3 p0_4 p0_5 a1 a2 =
  (spec_l03Tone n a1).bind fun r1 => 
   (spec_l03Tone n a2).bind fun r2 => 
    (spec_l05Tone n p0_0 p0_1 p0_2 p0_3 p0_4 p0_5 r1).bind fun r3 => 
     if (vNot r3.1) = true then (some ((1 : Int), (r3.2.1, (r3.2.2.1, (r3.2.2.2.1, (r3.2.2.2.2.1, (r3.2.2.2.2.2.1, r3.2.2.2.2.2.2)))))))
      else ((spec_l05Tone n r3.2.1 r3.2.2.1 r3.2.2.2.1 r3.2.2.2.2.1 r3.2.2.2.2.2.1 r3.2.2.2.2.2.2 r2).bind fun r5 => 
       if (vNot r5.1) = true then (some ((1 : Int), (r5.2.1, (r5.2.2.1, (r5.2.2.2.1, (r5.2.2.2.2.1, (r5.2.2.2.2.2.1, r5.2.2.2.2.2.2)))))))
        else ((spec_l00Max n (wSub .i64 a1 a2) (wSub .i64 a2 a1)).bind fun r7 => 
         if (vLt (12 : Int) r7) = true then (some ((2 : Int), (r5.2.1, (r5.2.2.1, (r5.2.2.2.1, (r5.2.2.2.2.1, (r5.2.2.2.2.2.1, r5.2.2.2.2.2.2)))))))
          else (if (vLt a1 a2) = true then ((spec_l00Has n r5.2.2.1 r2).bind fun r10 => 
            if (vNot r10) = true then (some ((3 : Int), (r5.2.1, (r5.2.2.1, (r5.2.2.2.1, (r5.2.2.2.2.1, (r5.2.2.2.2.2.1, r5.2.2.2.2.2.2)))))))
             else (spec_l05Reason_r9 n a1 a2 r1 r2 r5.2.1 r5.2.2.1 r5.2.2.2.1 r5.2.2.2.2.1 r5.2.2.2.2.2.1 r5.2.2.2.2.2.2))
           else (spec_l05Reason_r9 n a1 a2 r1 r2 r5.2.1 r5.2.2.1 r5.2.2.2.1 r5.2.2.2.2.1 r5.2.2.2.2.2.1 r5.2.2.2.2.2.2)))) := by kernel_rfl
theorem spec_l01Digit_eq (n : Nat) (a0 : Int) : spec_l01Digit (n + 1) a0 =
  if (vLe (48 : Int) a0) = true then (some (vLe a0 (57 : Int)))
   else (some false) := by kernel_rfl
theorem spec_l05Pair_eq (n : Nat) (a0 : List (Int)) : spec_l05Pair (n + 1) a0 =
  if (vEq (vLen a0) (2 : Int)) = true then (if (inR (0 : Int) (vLen a0)) = true then ((spec_l00In n (vGet a0 (0 : Int) (0 : Int)) (0 : Int) (11 : Int)).bind fun r3 => 
     if r3 = true then (if (inR (1 : Int) (vLen a0)) = true then ((spec_l00In n (vGet a0 (1 : Int) (0 : Int)) (0 : Int) (11 : Int)).bind fun r6 => 
        if r6 = true then (if (inR (0 : Int) (vLen a0)) = true then (if (inR (1 : Int) (vLen a0)) = true then (some (vNot (vEq (vGet a0 (0 : Int) (0 : Int)) (vGet a0 (1 : Int) (0 : Int)))))
           else (none))
          else (none))
         else (some false))
       else (none))
      else (some false))
    else (none))
   else (some false) := by kernel_rfl
theorem spec_l00Max_eq (n : Nat) (a0 : Int) (a1 : Int) : spec_l00Max (n + 1) a0 a1 =
  if (vLt a1 a0) = true then (some a0)
   else (some a1) := by kernel_rfl
theorem spec_l05Reason_r9_eq (n : Nat) (x1 : Int) (x2 : Int) (x7 : Int) (x8 : Int) (b0_0 : ByteArray) (b0_1 : List (Int)) (b0_2 : List (Int)) (b0_3 : Int) (b0_4 : Int) (b0_5 : List (List (Int))) : spec_l05Reason_r9 (n + 1) x1 x2 x7 x8 b0_0 b0_1 b0_2 b0_3 b0_4 b0_5 =
  if (vLt x2 x1) = true then ((spec_l00Has n b0_2 x8).bind fun r2 => 
    if (vNot r2) = true then (some ((4 : Int), (b0_0, (b0_1, (b0_2, (b0_3, (b0_4, b0_5)))))))
     else (spec_l05Reason_r12 n x7 x8 (0 : Int) b0_0 b0_1 b0_2 b0_3 b0_4 b0_5))
   else (spec_l05Reason_r12 n x7 x8 (0 : Int) b0_0 b0_1 b0_2 b0_3 b0_4 b0_5) := by kernel_rfl
theorem spec_l05Reason_r12_eq (n : Nat) (x7 : Int) (x8 : Int) (x9 : Int) (b0_0 : ByteArray) (b0_1 : List (Int)) (b0_2 : List (Int)) (b0_3 : Int) (b0_4 : Int) (b0_5 : List (List (Int))) : spec_l05Reason_r12 (n + 1) x7 x8 x9 b0_0 b0_1 b0_2 b0_3 b0_4 b0_5 =
  if (vLt x9 (vLen b0_5)) = true then (if (inR x9 (vLen b0_5)) = true then (if (inR (0 : Int) (vLen (vGet b0_5 x9 ([] : List (Int))))) = true then (if (vEq (vGet (vGet b0_5 x9 ([] : List (Int))) (0 : Int) (0 : Int)) x7) = true then (if (inR x9 (vLen b0_5)) = true then (if (inR (1 : Int) (vLen (vGet b0_5 x9 ([] : List (Int))))) = true then (if (vEq (vGet (vGet b0_5 x9 ([] : List (Int))) (1 : Int) (0 : Int)) x8) = true then (some ((5 : Int), (b0_0, (b0_1, (b0_2, (b0_3, (b0_4, b0_5)))))))
         else (spec_l05Reason_r12 n x7 x8 (wAdd .i64 x9 (1 : Int)) b0_0 b0_1 b0_2 b0_3 b0_4 b0_5))
        else (none))
       else (none))
      else (spec_l05Reason_r12 n x7 x8 (wAdd .i64 x9 (1 : Int)) b0_0 b0_1 b0_2 b0_3 b0_4 b0_5))
     else (none))
    else (none))
   else (some ((0 : Int), (b0_0, (b0_1, (b0_2, (b0_3, (b0_4, b0_5))))))) := by kernel_rfl
end Go.Proofs.Ytojmfjhbfcnecaa.F
