/- The functions of the program as equations on plain data, each checked by the kernel. -/
import Derived.Test.YtnglcnoofkibkaaDoorExa
set_option linter.all false
set_option linter.unusedVariables false
set_option linter.unusedSimpArgs false
namespace Go.Dv.U
open Go Go.Dv Go.Proofs
set_option maxRecDepth 100000
noncomputable def l_FnLines (x0 : (List Int)) : Option (Bool) := (Den CC 3 (bodyT CC 3) ⟨tmOf [(0, .sl (.int .u8) x0)] 0 134, [], 0⟩).bind fun r => prjR GG [.bool] r.1

noncomputable def l_c2Long (x0 : (List Int)) : Option (Bool) := (Den CC 4 (bodyT CC 4) ⟨tmOf [(0, .sl (.int .u8) x0)] 0 6, [], 0⟩).bind fun r => prjR GG [.bool] r.1

noncomputable def s_DrawLogicalLines (x0 : (List Int)) : Option ((List UInt8)) := (Den CC 5 (bodyT CC 5) ⟨tmOf [(0, .sl (.int .u8) x0)] 0 8, [], 0⟩).bind fun r => prjR GG [.str] r.1

noncomputable def i_LogicalLines (x0 : (List UInt8)) : Option ((List TLine) × Int × Int) := (Den CC 6 (bodyT CC 6) ⟨tmOf [(0, .str x0)] 0 51, [], 0⟩).bind fun r => prjR GG [(.sl (.st 28)), (.int .i64), (.int .i64)] r.1

noncomputable def s_LogicalLines (x0 : (List UInt8)) : Option ((List TLine) × Int × Int) := (Den CC 7 (bodyT CC 7) ⟨tmOf [(0, .str x0)] 0 107, [], 0⟩).bind fun r => prjR GG [(.sl (.st 28)), (.int .i64), (.int .i64)] r.1

noncomputable def l_FnLines_L7 (x0 : (List TLine)) (x1 : Int) (x2 : (List TLine)) (x3 : Int) : Option (Bool) := (Den CC 3 (lbl CC 3 7) ⟨tmOf [(4, .sl (.st 28) x0), (6, .int .i64 x1), (7, .sl (.st 28) x2), (9, .int .i64 x3)] 0 134, [], 0⟩).bind fun r => prjR GG [.bool] r.1

noncomputable def l_FnLines_L8 (x0 : (List TLine)) : Option (Bool) := (Den CC 3 (lbl CC 3 8) ⟨tmOf [(4, .sl (.st 28) x0)] 0 134, [], 0⟩).bind fun r => prjR GG [.bool] r.1

noncomputable def s_l01DrawText (x0 : (List Int)) (x1 : Int) (x2 : Int) : Option (((List UInt8)) × (((List Int) × Int × Int × Unit) × Unit)) := (Den CC 10 (bodyT CC 10) ⟨tmOf [(0, .ref 0 0)] 0 45, [.box 49 [.sl (.int .u8) x0, .int .i64 x1, .int .u64 x2] false], 1⟩).bind fun r => prjRB GG [.str] [[.im (.sl (.int .u8)), .im (.int .i64), .im (.int .u64)]] r

noncomputable def i_ValidSource (x0 : (List UInt8)) : Option (Bool) := (Den CC 11 (bodyT CC 11) ⟨tmOf [(0, .str x0)] 0 17, [], 0⟩).bind fun r => prjR GG [.bool] r.1

noncomputable def i_combine (x0 : (List UInt8)) : Option ((List TLine) × Int) := (Den CC 12 (bodyT CC 12) ⟨tmOf [(0, .str x0)] 0 56, [], 0⟩).bind fun r => prjR GG [(.sl (.st 28)), (.int .i64)] r.1

noncomputable def i_LogicalLines_L8 (x0 : (List TLine)) (x1 : Int) (x2 : Int) (x3 : (List TLine)) : Option ((List TLine) × Int × Int) := (Den CC 6 (lbl CC 6 8) ⟨tmOf [(7, .arr 0), (24, .sl (.st 28) x0), (25, .int .i64 x1), (26, .int .i64 x2)] 0 51, [.arr 29 (.st 28) x3 false], 0⟩).bind fun r => prjR GG [(.sl (.st 28)), (.int .i64), (.int .i64)] r.1

noncomputable def s_ValidSource (x0 : (List UInt8)) : Option (Bool) := (Den CC 15 (bodyT CC 15) ⟨tmOf [(0, .str x0)] 0 16, [], 0⟩).bind fun r => prjR GG [.bool] r.1

noncomputable def s_SplitLines (x0 : (List UInt8)) : Option ((List (List UInt8))) := (Den CC 16 (bodyT CC 16) ⟨tmOf [(0, .str x0)] 0 19, [], 0⟩).bind fun r => prjR GG [(.sl .str)] r.1

noncomputable def s_LogicalLines_L6 (x0 : (List (List UInt8))) (x1 : Int) (x2 : (List TLine)) : Option ((List TLine) × Int × Int) := (Den CC 7 (lbl CC 7 6) ⟨tmOf [(5, .arr 0), (6, .sl .str x0), (7, .int .i64 x1)] 0 107, [.arr 29 (.st 28) x2 false], 0⟩).bind fun r => prjR GG [(.sl (.st 28)), (.int .i64), (.int .i64)] r.1

noncomputable def l_FnLines_L11 (x0 : (List TLine)) (x1 : Int) : Option (Bool) := (Den CC 3 (lbl CC 3 11) ⟨tmOf [(4, .sl (.st 28) x0), (10, .int .i64 x1)] 0 134, [], 0⟩).bind fun r => prjR GG [.bool] r.1

noncomputable def s_l00Src_pick (x0 : Int) (x1 : (List Int)) (x2 : Int) (x3 : Int) : Option ((Int) × (((List Int) × Int × Int × Unit) × Unit)) := (Den CC 23 (bodyT CC 23) ⟨tmOf [(0, .ref 0 0), (1, .int .i64 x0)] 0 20, [.box 49 [.sl (.int .u8) x1, .int .i64 x2, .int .u64 x3] false], 1⟩).bind fun r => prjRB GG [(.int .i64)] [[.im (.sl (.int .u8)), .im (.int .i64), .im (.int .u64)]] r

noncomputable def s_l01DrawText_L3 (x0 : (List UInt8)) (x1 : Int) (x2 : (List Int)) (x3 : Int) (x4 : Int) : Option (((List UInt8)) × (((List Int) × Int × Int × Unit) × Unit)) := (Den CC 10 (lbl CC 10 3) ⟨tmOf [(0, .ref 0 0), (3, .str x0), (4, .int .i64 x1)] 0 45, [.box 49 [.sl (.int .u8) x2, .int .i64 x3, .int .u64 x4] false], 1⟩).bind fun r => prjRB GG [.str] [[.im (.sl (.int .u8)), .im (.int .i64), .im (.int .u64)]] r

noncomputable def i_isPlainText (x0 : (List UInt8)) : Option (Bool) := (Den CC 26 (bodyT CC 26) ⟨tmOf [(0, .str x0)] 0 6, [], 0⟩).bind fun r => prjR GG [.bool] r.1

noncomputable def i_SplitLines (x0 : (List UInt8)) : Option ((List (List UInt8))) := (Den CC 28 (bodyT CC 28) ⟨tmOf [(0, .str x0)] 0 8, [], 0⟩).bind fun r => prjR GG [(.sl .str)] r.1

noncomputable def i_combine_L3 (x0 : (List (List UInt8))) (x1 : Int) (x2 : Int) (x3 : (List TLine)) : Option ((List TLine) × Int) := (Den CC 12 (lbl CC 12 3) ⟨tmOf [(4, .arr 0), (10, .sl .str x0), (11, .int .i64 x1), (12, .int .i64 x2)] 0 56, [.arr 29 (.st 28) x3 false], 0⟩).bind fun r => prjR GG [(.sl (.st 28)), (.int .i64)] r.1

noncomputable def i_SplitStatements (x0 : (List UInt8)) : Option ((List (List UInt8))) := (Den CC 13 (bodyT CC 13) ⟨tmOf [(0, .str x0)] 0 50, [], 0⟩).bind fun r => prjR GG [(.sl .str)] r.1

noncomputable def i_LogicalLines_L11 (x0 : (List TLine)) (x1 : Int) (x2 : Int) (x3 : (List (List UInt8))) (x4 : Int) (x5 : Int) (x6 : (List TLine)) (x7 : Int) (x8 : (List UInt8)) : Option ((List TLine) × Int × Int) := (Den CC 6 (lbl CC 6 11) ⟨tmOf [(7, .arr 0), (9, .ref 1 0), (24, .sl (.st 28) x0), (25, .int .i64 x1), (26, .int .i64 x2), (32, .sl .str x3), (33, .int .i64 x4), (34, .int .i64 x5)] 0 51, [.arr 29 (.st 28) x6 false, .box 29 [.int .i64 x7, .str x8] false], 0⟩).bind fun r => prjR GG [(.sl (.st 28)), (.int .i64), (.int .i64)] r.1

noncomputable def s_l01Printable (x0 : (List UInt8)) (x1 : Bool) : Option (Bool) := (Den CC 32 (bodyT CC 32) ⟨tmOf [(0, .str x0), (1, .bool x1)] 0 32, [], 0⟩).bind fun r => prjR GG [.bool] r.1

noncomputable def s_l01Cut (x0 : (List UInt8)) (x1 : Int) : Option ((List (List UInt8))) := (Den CC 33 (bodyT CC 33) ⟨tmOf [(0, .str x0), (1, .int .u8 x1)] 0 35, [], 0⟩).bind fun r => prjR GG [(.sl .str)] r.1

noncomputable def s_IsBlankLine (x0 : (List UInt8)) : Option (Bool) := (Den CC 17 (bodyT CC 17) ⟨tmOf [(0, .str x0)] 0 14, [], 0⟩).bind fun r => prjR GG [.bool] r.1

noncomputable def s_LogicalLines_L7 (x0 : (List (List UInt8))) (x1 : Int) (x2 : (List TLine)) : Option ((List TLine) × Int × Int) := (Den CC 7 (lbl CC 7 7) ⟨tmOf [(5, .arr 0), (6, .sl .str x0), (7, .int .i64 x1)] 0 107, [.arr 29 (.st 28) x2 false], 0⟩).bind fun r => prjR GG [(.sl (.st 28)), (.int .i64), (.int .i64)] r.1

noncomputable def s_IsComment (x0 : (List UInt8)) : Option (Bool) := (Den CC 18 (bodyT CC 18) ⟨tmOf [(0, .str x0)] 0 10, [], 0⟩).bind fun r => prjR GG [.bool] r.1

noncomputable def s_IsContinuation (x0 : (List UInt8)) : Option (Bool) := (Den CC 19 (bodyT CC 19) ⟨tmOf [(0, .str x0)] 0 10, [], 0⟩).bind fun r => prjR GG [.bool] r.1

noncomputable def s_LogicalLines_L18 (x0 : Int) (x1 : (List TLine)) (x2 : (List TLine)) : Option ((List TLine) × Int × Int) := (Den CC 7 (lbl CC 7 18) ⟨tmOf [(5, .arr 0), (10, .arr 1), (11, .int .i64 x0)] 0 107, [.arr 29 (.st 28) x1 false, .arr 29 (.st 28) x2 false], 0⟩).bind fun r => prjR GG [(.sl (.st 28)), (.int .i64), (.int .i64)] r.1

noncomputable def i_JoinLines (x0 : (List TLine)) : Option ((List UInt8)) := (Den CC 8 (bodyT CC 8) ⟨tmOf [(0, .sl (.st 28) x0)] 0 19, [], 0⟩).bind fun r => prjR GG [.str] r.1

noncomputable def l_FnLines_L24 (x0 : (List TLine)) (x1 : (List TLine)) (x2 : Int) : Option (Bool) := (Den CC 3 (lbl CC 3 24) ⟨tmOf [(4, .sl (.st 28) x0), (12, .sl (.st 28) x1), (15, .int .i64 x2)] 0 134, [], 0⟩).bind fun r => prjR GG [.bool] r.1

noncomputable def s_l00Src_next (x0 : (List Int)) (x1 : Int) (x2 : Int) : Option ((Int) × (((List Int) × Int × Int × Unit) × Unit)) := (Den CC 35 (bodyT CC 35) ⟨tmOf [(0, .ref 0 0)] 0 62, [.box 49 [.sl (.int .u8) x0, .int .i64 x1, .int .u64 x2] false], 1⟩).bind fun r => prjRB GG [(.int .i64)] [[.im (.sl (.int .u8)), .im (.int .i64), .im (.int .u64)]] r

noncomputable def s_l01DrawLine (x0 : (List Int)) (x1 : Int) (x2 : Int) : Option (((List UInt8)) × (((List Int) × Int × Int × Unit) × Unit)) := (Den CC 24 (bodyT CC 24) ⟨tmOf [(0, .ref 0 0)] 0 6, [.box 49 [.sl (.int .u8) x0, .int .i64 x1, .int .u64 x2] false], 1⟩).bind fun r => prjRB GG [.str] [[.im (.sl (.int .u8)), .im (.int .i64), .im (.int .u64)]] r

noncomputable def s_l01DrawText_L4 (x0 : (List UInt8)) (x1 : Int) (x2 : (List Int)) (x3 : Int) (x4 : Int) : Option (((List UInt8)) × (((List Int) × Int × Int × Unit) × Unit)) := (Den CC 10 (lbl CC 10 4) ⟨tmOf [(0, .ref 0 0), (3, .str x0), (4, .int .i64 x1)] 0 45, [.box 49 [.sl (.int .u8) x2, .int .i64 x3, .int .u64 x4] false], 1⟩).bind fun r => prjRB GG [.str] [[.im (.sl (.int .u8)), .im (.int .i64), .im (.int .u64)]] r

noncomputable def s_l00Src_one (x0 : Int) (x1 : (List Int)) (x2 : Int) (x3 : Int) : Option ((Bool) × (((List Int) × Int × Int × Unit) × Unit)) := (Den CC 25 (bodyT CC 25) ⟨tmOf [(0, .ref 0 0), (1, .int .i64 x0)] 0 9, [.box 49 [.sl (.int .u8) x1, .int .i64 x2, .int .u64 x3] false], 1⟩).bind fun r => prjRB GG [.bool] [[.im (.sl (.int .u8)), .im (.int .i64), .im (.int .u64)]] r

noncomputable def s_l01DrawText_L18 (x0 : (List UInt8)) (x1 : (List Int)) (x2 : Int) (x3 : Int) : Option (((List UInt8)) × (((List Int) × Int × Int × Unit) × Unit)) := (Den CC 10 (lbl CC 10 18) ⟨tmOf [(3, .str x0)] 0 45, [.box 49 [.sl (.int .u8) x1, .int .i64 x2, .int .u64 x3] false], 1⟩).bind fun r => prjRB GG [.str] [[.im (.sl (.int .u8)), .im (.int .i64), .im (.int .u64)]] r

noncomputable def s_l01DrawText_L15 (x0 : (List UInt8)) (x1 : Int) (x2 : (List Int)) (x3 : Int) (x4 : Int) : Option (((List UInt8)) × (((List Int) × Int × Int × Unit) × Unit)) := (Den CC 10 (lbl CC 10 15) ⟨tmOf [(3, .str x0), (5, .int .i64 x1)] 0 45, [.box 49 [.sl (.int .u8) x2, .int .i64 x3, .int .u64 x4] false], 1⟩).bind fun r => prjRB GG [.str] [[.im (.sl (.int .u8)), .im (.int .i64), .im (.int .u64)]] r

noncomputable def i_areAll_byte__i_isPlain (x0 : (List Int)) : Option (Bool) := (Den CC 37 (bodyT CC 37) ⟨tmOf [(0, .sl (.int .u8) x0), (1, .fn 38 [])] 0 18, [], 0⟩).bind fun r => prjR GG [.bool] r.1

noncomputable def strings_TrimSuffix (x0 : (List UInt8)) (x1 : (List UInt8)) : Option ((List UInt8)) := (Den CC 41 (bodyT CC 41) ⟨tmOf [(0, .str x0), (1, .str x1)] 0 8, [], 0⟩).bind fun r => prjR GG [.str] r.1

noncomputable def i_IsBlankLine (x0 : (List UInt8)) : Option (Bool) := (Den CC 14 (bodyT CC 14) ⟨tmOf [(0, .str x0)] 0 6, [], 0⟩).bind fun r => prjR GG [.bool] r.1

noncomputable def i_combine_L12 (x0 : (List (List UInt8))) (x1 : Int) (x2 : Int) (x3 : (List TLine)) : Option ((List TLine) × Int) := (Den CC 12 (lbl CC 12 12) ⟨tmOf [(4, .arr 0), (10, .sl .str x0), (11, .int .i64 x1), (12, .int .i64 x2)] 0 56, [.arr 29 (.st 28) x3 false], 0⟩).bind fun r => prjR GG [(.sl (.st 28)), (.int .i64)] r.1

noncomputable def i_IsComment (x0 : (List UInt8)) : Option (Bool) := (Den CC 29 (bodyT CC 29) ⟨tmOf [(0, .str x0)] 0 5, [], 0⟩).bind fun r => prjR GG [.bool] r.1

noncomputable def i_IsContinuation (x0 : (List UInt8)) : Option (Bool) := (Den CC 30 (bodyT CC 30) ⟨tmOf [(0, .str x0)] 0 5, [], 0⟩).bind fun r => prjR GG [.bool] r.1

noncomputable def i_SplitStatements_L3 (x0 : (List UInt8)) (x1 : Int) (x2 : Int) (x3 : Int) (x4 : Int) (x5 : (List (List UInt8))) : Option ((List (List UInt8))) := (Den CC 13 (lbl CC 13 3) ⟨tmOf [(0, .str x0), (3, .arr 0), (4, .int .i64 x1), (5, .int .u8 x2), (10, .int .i64 x3), (11, .int .i64 x4)] 0 50, [.arr 9 .str x5 false], 0⟩).bind fun r => prjR GG [(.sl .str)] r.1

noncomputable def s_l01Printable_L2 (x0 : (List UInt8)) (x1 : Bool) (x2 : Int) : Option (Bool) := (Den CC 32 (lbl CC 32 2) ⟨tmOf [(0, .str x0), (1, .bool x1), (5, .int .i64 x2)] 0 32, [], 0⟩).bind fun r => prjR GG [.bool] r.1

noncomputable def s_l01Cut_L4 (x0 : (List UInt8)) (x1 : Int) (x2 : Int) (x3 : Int) (x4 : (List (List UInt8))) : Option ((List (List UInt8))) := (Den CC 33 (lbl CC 33 4) ⟨tmOf [(0, .str x0), (1, .int .u8 x1), (5, .arr 0), (6, .int .i64 x2), (7, .int .i64 x3)] 0 35, [.arr 9 .str x4 false], 0⟩).bind fun r => prjR GG [(.sl .str)] r.1

noncomputable def s_IsBlankLine_L2 (x0 : (List UInt8)) (x1 : Int) : Option (Bool) := (Den CC 17 (lbl CC 17 2) ⟨tmOf [(0, .str x0), (3, .int .i64 x1)] 0 14, [], 0⟩).bind fun r => prjR GG [.bool] r.1

noncomputable def s_SplitStatements (x0 : (List UInt8)) : Option ((List (List UInt8))) := (Den CC 20 (bodyT CC 20) ⟨tmOf [(0, .str x0)] 0 50, [], 0⟩).bind fun r => prjR GG [(.sl .str)] r.1

noncomputable def s_LogicalLines_L22 (x0 : Int) (x1 : (List (List UInt8))) (x2 : Int) (x3 : (List TLine)) (x4 : (List TLine)) : Option ((List TLine) × Int × Int) := (Den CC 7 (lbl CC 7 22) ⟨tmOf [(5, .arr 0), (10, .arr 1), (11, .int .i64 x0), (12, .sl .str x1), (13, .int .i64 x2)] 0 107, [.arr 29 (.st 28) x3 false, .arr 29 (.st 28) x4 false], 0⟩).bind fun r => prjR GG [(.sl (.st 28)), (.int .i64), (.int .i64)] r.1

noncomputable def i_JoinLines_L3 (x0 : (List TLine)) (x1 : Int) (x2 : Int) (x3 : (List Int)) : Option ((List UInt8)) := (Den CC 8 (lbl CC 8 3) ⟨tmOf [(3, .ref 0 0), (7, .sl (.st 28) x0), (8, .int .i64 x1), (9, .int .i64 x2)] 0 19, [.box 41 [.nilp, .arr 1] false, .arr 5 (.int .u8) x3 false], 0⟩).bind fun r => prjR GG [.str] r.1

noncomputable def s_l00Src_text (x0 : (List (List UInt8))) (x1 : (List Int)) (x2 : Int) (x3 : Int) : Option (((List UInt8)) × (((List Int) × Int × Int × Unit) × Unit)) := (Den CC 36 (bodyT CC 36) ⟨tmOf [(0, .ref 0 0), (1, .sl .str x0)] 0 12, [.box 49 [.sl (.int .u8) x1, .int .i64 x2, .int .u64 x3] false], 1⟩).bind fun r => prjRB GG [.str] [[.im (.sl (.int .u8)), .im (.int .i64), .im (.int .u64)]] r

noncomputable def i_areAll_byte_L2__i_isPlain (x0 : (List Int)) (x1 : Int) (x2 : Int) : Option (Bool) := (Den CC 37 (lbl CC 37 2) ⟨tmOf [(1, .fn 38 []), (7, .sl (.int .u8) x0), (8, .int .i64 x1), (9, .int .i64 x2)] 0 18, [], 0⟩).bind fun r => prjR GG [.bool] r.1

noncomputable def internal_stringslite_TrimSuffix (x0 : (List UInt8)) (x1 : (List UInt8)) : Option ((List UInt8)) := (Den CC 56 (bodyT CC 56) ⟨tmOf [(0, .str x0), (1, .str x1)] 0 16, [], 0⟩).bind fun r => prjR GG [.str] r.1

noncomputable def strings_HasPrefix (x0 : (List UInt8)) (x1 : (List UInt8)) : Option (Bool) := (Den CC 42 (bodyT CC 42) ⟨tmOf [(0, .str x0), (1, .str x1)] 0 8, [], 0⟩).bind fun r => prjR GG [.bool] r.1

noncomputable def i_SplitStatements_L14 (x0 : (List UInt8)) (x1 : Int) (x2 : Int) (x3 : Int) (x4 : Int) (x5 : (List (List UInt8))) : Option ((List (List UInt8))) := (Den CC 13 (lbl CC 13 14) ⟨tmOf [(0, .str x0), (3, .arr 0), (4, .int .i64 x1), (5, .int .u8 x2), (10, .int .i64 x3), (11, .int .i64 x4)] 0 50, [.arr 9 .str x5 false], 0⟩).bind fun r => prjR GG [(.sl .str)] r.1

noncomputable def s_l01Printable_L5 : Option (Bool) := (Den CC 32 (lbl CC 32 5) ⟨tmOf [] 0 32, [], 0⟩).bind fun r => prjR GG [.bool] r.1

noncomputable def s_l01Printable_L3 (x0 : (List UInt8)) (x1 : Bool) (x2 : Int) : Option (Bool) := (Den CC 32 (lbl CC 32 3) ⟨tmOf [(0, .str x0), (1, .bool x1), (5, .int .i64 x2)] 0 32, [], 0⟩).bind fun r => prjR GG [.bool] r.1

noncomputable def s_SplitStatements_L5 (x0 : (List UInt8)) (x1 : Int) (x2 : Int) (x3 : Int) (x4 : (List (List UInt8))) : Option ((List (List UInt8))) := (Den CC 20 (lbl CC 20 5) ⟨tmOf [(0, .str x0), (3, .arr 0), (4, .int .i64 x1), (5, .int .u8 x2), (6, .int .i64 x3)] 0 50, [.arr 9 .str x4 false], 0⟩).bind fun r => prjR GG [(.sl .str)] r.1

noncomputable def i_JoinLines_L3_v1 (x0 : (List TLine)) (x1 : Int) (x2 : Int) (x3 : (List Int)) : Option ((List UInt8)) := (Den CC 8 (lbl CC 8 3) ⟨tmOf [(3, .ref 0 0), (7, .sl (.st 28) x0), (8, .int .i64 x1), (9, .int .i64 x2)] 0 19, [.box 41 [.ref 0 0, .arr 1] false, .arr 5 (.int .u8) x3 false], 0⟩).bind fun r => prjR GG [.str] r.1

noncomputable def i_isPlain (x0 : Int) : Option (Bool) := (Den CC 38 (bodyT CC 38) ⟨tmOf [(0, .int .u8 x0)] 0 9, [], 0⟩).bind fun r => prjR GG [.bool] r.1

noncomputable def internal_stringslite_HasSuffix (x0 : (List UInt8)) (x1 : (List UInt8)) : Option (Bool) := (Den CC 67 (bodyT CC 67) ⟨tmOf [(0, .str x0), (1, .str x1)] 0 21, [], 0⟩).bind fun r => prjR GG [.bool] r.1

noncomputable def internal_stringslite_HasPrefix (x0 : (List UInt8)) (x1 : (List UInt8)) : Option (Bool) := (Den CC 57 (bodyT CC 57) ⟨tmOf [(0, .str x0), (1, .str x1)] 0 18, [], 0⟩).bind fun r => prjR GG [.bool] r.1

noncomputable def s_SplitStatements_L6 (x0 : (List UInt8)) (x1 : Int) (x2 : Int) (x3 : Int) (x4 : (List (List UInt8))) : Option ((List (List UInt8))) := (Den CC 20 (lbl CC 20 6) ⟨tmOf [(0, .str x0), (3, .arr 0), (4, .int .i64 x1), (5, .int .u8 x2), (6, .int .i64 x3)] 0 50, [.arr 9 .str x4 false], 0⟩).bind fun r => prjR GG [(.sl .str)] r.1

theorem l_FnLines_eq (x0 : (List Int)) : l_FnLines x0 = (l_c2Long x0).bind fun r200 => if r200 = true then some (true) else (s_DrawLogicalLines x0).bind fun r198 => (i_LogicalLines r198).bind fun r197 => (s_LogicalLines r198).bind fun r196 => if (Prod.snd (Prod.snd r197) != 0) = true then l_FnLines_L7 (Prod.fst r197) (Prod.snd (Prod.snd r197)) (Prod.fst r196) (Prod.snd (Prod.snd r196)) else if (Prod.snd (Prod.snd r197) != Prod.snd (Prod.snd r196)) = true then l_FnLines_L7 (Prod.fst r197) (Prod.snd (Prod.snd r197)) (Prod.fst r196) (Prod.snd (Prod.snd r196)) else if (len (Prod.fst r197) != len (Prod.fst r196)) = true then l_FnLines_L7 (Prod.fst r197) (Prod.snd (Prod.snd r197)) (Prod.fst r196) (Prod.snd (Prod.snd r196)) else l_FnLines_L8 (Prod.fst r197) :=
  (den_run CC 3 (bodyT CC 3) ⟨tmOf [(0, .sl (.int .u8) x0)] 0 134, [], 0⟩ fun r => prjR GG [.bool] r.1).trans (by kernel_rfl)

theorem l_c2Long_eq (x0 : (List Int)) : l_c2Long x0 = some (decide (len x0 > 1048576)) :=
  (den_run CC 4 (bodyT CC 4) ⟨tmOf [(0, .sl (.int .u8) x0)] 0 6, [], 0⟩ fun r => prjR GG [.bool] r.1).trans (by kernel_rfl)

theorem s_DrawLogicalLines_eq (x0 : (List Int)) : s_DrawLogicalLines x0 = (s_l01DrawText x0 0 0).bind fun r200 => some (Prod.fst r200) :=
  (den_run CC 5 (bodyT CC 5) ⟨tmOf [(0, .sl (.int .u8) x0)] 0 8, [], 0⟩ fun r => prjR GG [.str] r.1).trans (by kernel_rfl)

theorem i_LogicalLines_eq (x0 : (List UInt8)) : i_LogicalLines x0 = (i_ValidSource x0).bind fun r200 => if (!r200) = true then some (([]), 0, 1) else (i_combine x0).bind fun r198 => if (decide (Prod.snd r198 > 0)) = true then some (([]), (Prod.snd r198), 2) else i_LogicalLines_L8 (Prod.fst r198) (len (Prod.fst r198)) 0 ([]) :=
  (den_run CC 6 (bodyT CC 6) ⟨tmOf [(0, .str x0)] 0 51, [], 0⟩ fun r => prjR GG [(.sl (.st 28)), (.int .i64), (.int .i64)] r.1).trans (by kernel_rfl)

theorem s_LogicalLines_eq (x0 : (List UInt8)) : s_LogicalLines x0 = (s_ValidSource x0).bind fun r200 => if (!r200) = true then some (([]), 0, 1) else (s_SplitLines x0).bind fun r198 => s_LogicalLines_L6 r198 0 ([]) :=
  (den_run CC 7 (bodyT CC 7) ⟨tmOf [(0, .str x0)] 0 107, [], 0⟩ fun r => prjR GG [(.sl (.st 28)), (.int .i64), (.int .i64)] r.1).trans (by kernel_rfl)

theorem l_FnLines_L7_eq (x0 : (List TLine)) (x1 : Int) (x2 : (List TLine)) (x3 : Int) : l_FnLines_L7 x0 x1 x2 x3 = if (x1 == x3) = true then some (len x0 == len x2) else some (false) :=
  (den_run CC 3 (lbl CC 3 7) ⟨tmOf [(4, .sl (.st 28) x0), (6, .int .i64 x1), (7, .sl (.st 28) x2), (9, .int .i64 x3)] 0 134, [], 0⟩ fun r => prjR GG [.bool] r.1).trans (by kernel_rfl)

theorem l_FnLines_L8_eq (x0 : (List TLine)) : l_FnLines_L8 x0 = if (decide (len x0 > 120)) = true then some (true) else l_FnLines_L11 x0 0 :=
  (den_run CC 3 (lbl CC 3 8) ⟨tmOf [(4, .sl (.st 28) x0)] 0 134, [], 0⟩ fun r => prjR GG [.bool] r.1).trans (by kernel_rfl)

theorem s_l01DrawText_eq (x0 : (List Int)) (x1 : Int) (x2 : Int) : s_l01DrawText x0 x1 x2 = (s_l00Src_pick 7 x0 x1 x2).bind fun r200 => s_l01DrawText_L3 [] (Prod.fst r200) (Prod.fst (Prod.fst (Prod.snd r200))) (Prod.fst (Prod.snd (Prod.fst (Prod.snd r200)))) (Prod.fst (Prod.snd (Prod.snd (Prod.fst (Prod.snd r200))))) :=
  (den_run CC 10 (bodyT CC 10) ⟨tmOf [(0, .ref 0 0)] 0 45, [.box 49 [.sl (.int .u8) x0, .int .i64 x1, .int .u64 x2] false], 1⟩ fun r => prjRB GG [.str] [[.im (.sl (.int .u8)), .im (.int .i64), .im (.int .u64)]] r).trans (by kernel_rfl)

theorem i_ValidSource_eq (x0 : (List UInt8)) : i_ValidSource x0 = if (decide (len x0 ≤ 4000)) = true then ((replAllS x0 ([10]) ([])) : Option (List UInt8)).bind fun y199 => (i_isPlainText y199).bind fun r198 => if r198 = true then (i_SplitLines x0).bind fun r196 => some (decide (len r196 ≤ 120)) else some (false) else some (false) :=
  (den_run CC 11 (bodyT CC 11) ⟨tmOf [(0, .str x0)] 0 17, [], 0⟩ fun r => prjR GG [.bool] r.1).trans (by kernel_rfl)

theorem i_combine_eq (x0 : (List UInt8)) : i_combine x0 = (i_SplitLines x0).bind fun r200 => i_combine_L3 r200 (len r200) 0 ([]) :=
  (den_run CC 12 (bodyT CC 12) ⟨tmOf [(0, .str x0)] 0 56, [], 0⟩ fun r => prjR GG [(.sl (.st 28)), (.int .i64)] r.1).trans (by kernel_rfl)

theorem i_LogicalLines_L8_eq (x0 : (List TLine)) (x1 : Int) (x2 : Int) (x3 : (List TLine)) : i_LogicalLines_L8 x0 x1 x2 x3 = if (decide (x2 < x1)) = true then ((idx x0 x2) : Option TLine).bind fun y199 => (i_SplitStatements y199.fText).bind fun r198 => i_LogicalLines_L11 x0 x1 x2 r198 (len r198) 0 x3 y199.fNumber y199.fText else some ((x3), 0, 0) :=
  (den_run CC 6 (lbl CC 6 8) ⟨tmOf [(7, .arr 0), (24, .sl (.st 28) x0), (25, .int .i64 x1), (26, .int .i64 x2)] 0 51, [.arr 29 (.st 28) x3 false], 0⟩ fun r => prjR GG [(.sl (.st 28)), (.int .i64), (.int .i64)] r.1).trans (by kernel_rfl)

theorem s_ValidSource_eq (x0 : (List UInt8)) : s_ValidSource x0 = if (decide (len x0 ≤ 4000)) = true then (s_l01Printable x0 (true)).bind fun r199 => if r199 = true then (s_SplitLines x0).bind fun r197 => some (decide (len r197 ≤ 120)) else some (false) else some (false) :=
  (den_run CC 15 (bodyT CC 15) ⟨tmOf [(0, .str x0)] 0 16, [], 0⟩ fun r => prjR GG [.bool] r.1).trans (by kernel_rfl)

theorem s_SplitLines_eq (x0 : (List UInt8)) : s_SplitLines x0 = (s_l01Cut x0 10).bind fun r200 => ((idx r200 (w64 (len r200 - 1))) : Option (List UInt8)).bind fun y199 => if (y199 == []) = true then ((cut r200 0 (Option.getD (Option.some (w64 (len r200 - 1))) (len r200))) : Option (List (List UInt8))).bind fun y197 => some y197 else some r200 :=
  (den_run CC 16 (bodyT CC 16) ⟨tmOf [(0, .str x0)] 0 19, [], 0⟩ fun r => prjR GG [(.sl .str)] r.1).trans (by kernel_rfl)

theorem s_LogicalLines_L6_eq (x0 : (List (List UInt8))) (x1 : Int) (x2 : (List TLine)) : s_LogicalLines_L6 x0 x1 x2 = if (decide (x1 < len x0)) = true then ((idx x0 x1) : Option (List UInt8)).bind fun y199 => (s_IsBlankLine y199).bind fun r198 => if r198 = true then s_LogicalLines_L7 x0 x1 x2 else (s_IsComment y199).bind fun r196 => if r196 = true then s_LogicalLines_L7 x0 x1 x2 else (s_IsContinuation y199).bind fun r194 => if r194 = true then if (len x2 == 0) = true then some (([]), (w64 (x1 + 1)), 2) else ((idx x2 (w64 (len x2 - 1))) : Option TLine).bind fun y191 => ((x2[Int.toNat (w64 (len x2 - 1))]?) : Option TLine).bind fun y190 => ((cut y199 1 (Option.getD Option.none (len y199))) : Option (List UInt8)).bind fun y189 => ((app ([32]) y189) : Option (List UInt8)).bind fun y188 => ((app y190.fText y188) : Option (List UInt8)).bind fun y187 => ((idx x2 (w64 (len x2 - 1))) : Option TLine).bind fun y186 => ((x2[Int.toNat (w64 (len x2 - 1))]?) : Option TLine).bind fun y185 => s_LogicalLines_L7 x0 x1 (upd x2 (Int.toNat (w64 (len x2 - 1))) (TLine.mk y185.fNumber y187)) else ((app x2 [TLine.mk (w64 (x1 + 1)) y199]) : Option (List TLine)).bind fun y192 => s_LogicalLines_L7 x0 x1 y192 else s_LogicalLines_L18 0 x2 ([]) :=
  (den_run CC 7 (lbl CC 7 6) ⟨tmOf [(5, .arr 0), (6, .sl .str x0), (7, .int .i64 x1)] 0 107, [.arr 29 (.st 28) x2 false], 0⟩ fun r => prjR GG [(.sl (.st 28)), (.int .i64), (.int .i64)] r.1).trans (by kernel_rfl)

theorem l_FnLines_L11_eq (x0 : (List TLine)) (x1 : Int) : l_FnLines_L11 x0 x1 = if (decide (x1 < len x0)) = true then ((idx x0 x1) : Option TLine).bind fun y199 => if (y199.fText == []) = true then some (false) else ((idx x0 x1) : Option TLine).bind fun y197 => ((idx y197.fText 0) : Option UInt8).bind fun y196 => if (ib y196 == 42) = true then some (true) else ((idx x0 x1) : Option TLine).bind fun y194 => ((idx y194.fText 0) : Option UInt8).bind fun y193 => if (ib y193 == 43) = true then some (true) else l_FnLines_L11 x0 (w64 (x1 + 1)) else (i_JoinLines x0).bind fun r199 => if (decide (len r199 > 4000)) = true then some (true) else (i_LogicalLines r199).bind fun r197 => if (Prod.snd (Prod.snd r197) != 0) = true then some (false) else if (len (Prod.fst r197) != len x0) = true then some (false) else l_FnLines_L24 x0 (Prod.fst r197) 0 :=
  (den_run CC 3 (lbl CC 3 11) ⟨tmOf [(4, .sl (.st 28) x0), (10, .int .i64 x1)] 0 134, [], 0⟩ fun r => prjR GG [.bool] r.1).trans (by kernel_rfl)

theorem s_l00Src_pick_eq (x0 : Int) (x1 : (List Int)) (x2 : Int) (x3 : Int) : s_l00Src_pick x0 x1 x2 x3 = if (decide (x0 ≤ 1)) = true then some ((0), (((x1), (x2), (x3), ()), ())) else (s_l00Src_next x1 x2 x3).bind fun r199 => if (decide (x0 > 200)) = true then (s_l00Src_next (Prod.fst (Prod.fst (Prod.snd r199))) (Prod.fst (Prod.snd (Prod.fst (Prod.snd r199)))) (Prod.fst (Prod.snd (Prod.snd (Prod.fst (Prod.snd r199)))))).bind fun r197 => ((rem (w64 (w64 (Prod.fst r199 * 256) + Prod.fst r197)) x0) : Option Int).bind fun y196 => some ((y196), (((Prod.fst (Prod.fst (Prod.snd r197))), (Prod.fst (Prod.snd (Prod.fst (Prod.snd r197)))), (Prod.fst (Prod.snd (Prod.snd (Prod.fst (Prod.snd r197))))), ()), ())) else ((rem (Prod.fst r199) x0) : Option Int).bind fun y197 => some ((y197), (((Prod.fst (Prod.fst (Prod.snd r199))), (Prod.fst (Prod.snd (Prod.fst (Prod.snd r199)))), (Prod.fst (Prod.snd (Prod.snd (Prod.fst (Prod.snd r199))))), ()), ())) :=
  (den_run CC 23 (bodyT CC 23) ⟨tmOf [(0, .ref 0 0), (1, .int .i64 x0)] 0 20, [.box 49 [.sl (.int .u8) x1, .int .i64 x2, .int .u64 x3] false], 1⟩ fun r => prjRB GG [(.int .i64)] [[.im (.sl (.int .u8)), .im (.int .i64), .im (.int .u64)]] r).trans (by kernel_rfl)

theorem s_l01DrawText_L3_eq (x0 : (List UInt8)) (x1 : Int) (x2 : (List Int)) (x3 : Int) (x4 : Int) : s_l01DrawText_L3 x0 x1 x2 x3 x4 = if (decide (x1 > 0)) = true then (s_l01DrawLine x2 x3 x4).bind fun r199 => ((app x0 (Prod.fst r199)) : Option (List UInt8)).bind fun y198 => if (decide (x1 > 1)) = true then ((app y198 ([10])) : Option (List UInt8)).bind fun y196 => s_l01DrawText_L4 y196 x1 (Prod.fst (Prod.fst (Prod.snd r199))) (Prod.fst (Prod.snd (Prod.fst (Prod.snd r199)))) (Prod.fst (Prod.snd (Prod.snd (Prod.fst (Prod.snd r199))))) else (s_l00Src_one 2 (Prod.fst (Prod.fst (Prod.snd r199))) (Prod.fst (Prod.snd (Prod.fst (Prod.snd r199)))) (Prod.fst (Prod.snd (Prod.snd (Prod.fst (Prod.snd r199)))))).bind fun r196 => if (Prod.fst r196) = true then ((app y198 ([10])) : Option (List UInt8)).bind fun y194 => s_l01DrawText_L4 y194 x1 (Prod.fst (Prod.fst (Prod.snd r196))) (Prod.fst (Prod.snd (Prod.fst (Prod.snd r196)))) (Prod.fst (Prod.snd (Prod.snd (Prod.fst (Prod.snd r196))))) else s_l01DrawText_L4 y198 x1 (Prod.fst (Prod.fst (Prod.snd r196))) (Prod.fst (Prod.snd (Prod.fst (Prod.snd r196)))) (Prod.fst (Prod.snd (Prod.snd (Prod.fst (Prod.snd r196))))) else (s_l00Src_pick 20 x2 x3 x4).bind fun r199 => if (Prod.fst r199 == 0) = true then ((app x0 ([9])) : Option (List UInt8)).bind fun y197 => s_l01DrawText_L18 y197 (Prod.fst (Prod.fst (Prod.snd r199))) (Prod.fst (Prod.snd (Prod.fst (Prod.snd r199)))) (Prod.fst (Prod.snd (Prod.snd (Prod.fst (Prod.snd r199))))) else if (Prod.fst r199 == 1) = true then ((mk 5 0) : Option (List Int)).bind fun y196 => ((app x0 (List.map (fun (n : Int) ↦ UInt8.ofNat (Int.toNat n)) y196)) : Option (List UInt8)).bind fun y195 => s_l01DrawText_L18 y195 (Prod.fst (Prod.fst (Prod.snd r199))) (Prod.fst (Prod.snd (Prod.fst (Prod.snd r199)))) (Prod.fst (Prod.snd (Prod.snd (Prod.fst (Prod.snd r199))))) else if (Prod.fst r199 == 2) = true then s_l01DrawText_L15 x0 0 (Prod.fst (Prod.fst (Prod.snd r199))) (Prod.fst (Prod.snd (Prod.fst (Prod.snd r199)))) (Prod.fst (Prod.snd (Prod.snd (Prod.fst (Prod.snd r199))))) else s_l01DrawText_L18 x0 (Prod.fst (Prod.fst (Prod.snd r199))) (Prod.fst (Prod.snd (Prod.fst (Prod.snd r199)))) (Prod.fst (Prod.snd (Prod.snd (Prod.fst (Prod.snd r199))))) :=
  (den_run CC 10 (lbl CC 10 3) ⟨tmOf [(0, .ref 0 0), (3, .str x0), (4, .int .i64 x1)] 0 45, [.box 49 [.sl (.int .u8) x2, .int .i64 x3, .int .u64 x4] false], 1⟩ fun r => prjRB GG [.str] [[.im (.sl (.int .u8)), .im (.int .i64), .im (.int .u64)]] r).trans (by kernel_rfl)

theorem i_isPlainText_eq (x0 : (List UInt8)) : i_isPlainText x0 = (i_areAll_byte__i_isPlain (List.map (fun (b : UInt8) ↦ ib b) x0)).bind fun r200 => some r200 :=
  (den_run CC 26 (bodyT CC 26) ⟨tmOf [(0, .str x0)] 0 6, [], 0⟩ fun r => prjR GG [.bool] r.1).trans (by kernel_rfl)

theorem i_SplitLines_eq (x0 : (List UInt8)) : i_SplitLines x0 = if (x0 == []) = true then some ([]) else (strings_TrimSuffix x0 [10]).bind fun r199 => ((splitS r199 ([10])) : Option (List (List UInt8))).bind fun y198 => some y198 :=
  (den_run CC 28 (bodyT CC 28) ⟨tmOf [(0, .str x0)] 0 8, [], 0⟩ fun r => prjR GG [(.sl .str)] r.1).trans (by kernel_rfl)

theorem i_combine_L3_eq (x0 : (List (List UInt8))) (x1 : Int) (x2 : Int) (x3 : (List TLine)) : i_combine_L3 x0 x1 x2 x3 = if (decide (x2 < x1)) = true then ((idx x0 x2) : Option (List UInt8)).bind fun y199 => (i_IsBlankLine y199).bind fun r198 => if r198 = true then i_combine_L12 x0 x1 x2 x3 else (i_IsComment y199).bind fun r196 => if r196 = true then i_combine_L12 x0 x1 x2 x3 else (i_IsContinuation y199).bind fun r194 => if (!r194) = true then ((app x3 [TLine.mk (w64 (x2 + 1)) y199]) : Option (List TLine)).bind fun y192 => i_combine_L12 x0 x1 x2 y192 else if (len x3 == 0) = true then some (([]), (w64 (x2 + 1))) else ((idx x3 (w64 (len x3 - 1))) : Option TLine).bind fun y191 => ((x3[Int.toNat (w64 (len x3 - 1))]?) : Option TLine).bind fun y190 => ((cut y199 1 (Option.getD Option.none (len y199))) : Option (List UInt8)).bind fun y189 => ((app ([32]) y189) : Option (List UInt8)).bind fun y188 => ((app y190.fText y188) : Option (List UInt8)).bind fun y187 => ((idx x3 (w64 (len x3 - 1))) : Option TLine).bind fun y186 => ((x3[Int.toNat (w64 (len x3 - 1))]?) : Option TLine).bind fun y185 => i_combine_L12 x0 x1 x2 (upd x3 (Int.toNat (w64 (len x3 - 1))) (TLine.mk y185.fNumber y187)) else some ((x3), 0) :=
  (den_run CC 12 (lbl CC 12 3) ⟨tmOf [(4, .arr 0), (10, .sl .str x0), (11, .int .i64 x1), (12, .int .i64 x2)] 0 56, [.arr 29 (.st 28) x3 false], 0⟩ fun r => prjR GG [(.sl (.st 28)), (.int .i64)] r.1).trans (by kernel_rfl)

theorem i_SplitStatements_eq (x0 : (List UInt8)) : i_SplitStatements x0 = i_SplitStatements_L3 x0 0 0 (len x0) 0 ([]) :=
  (den_run CC 13 (bodyT CC 13) ⟨tmOf [(0, .str x0)] 0 50, [], 0⟩ fun r => prjR GG [(.sl .str)] r.1).trans (by kernel_rfl)

theorem i_LogicalLines_L11_eq (x0 : (List TLine)) (x1 : Int) (x2 : Int) (x3 : (List (List UInt8))) (x4 : Int) (x5 : Int) (x6 : (List TLine)) (x7 : Int) (x8 : (List UInt8)) : i_LogicalLines_L11 x0 x1 x2 x3 x4 x5 x6 x7 x8 = if (decide (x5 < x4)) = true then ((idx x3 x5) : Option (List UInt8)).bind fun y199 => (i_IsBlankLine y199).bind fun r198 => if (!r198) = true then ((app x6 [TLine.mk x7 y199]) : Option (List TLine)).bind fun y196 => i_LogicalLines_L11 x0 x1 x2 x3 x4 (w64 (x5 + 1)) y196 x7 x8 else i_LogicalLines_L11 x0 x1 x2 x3 x4 (w64 (x5 + 1)) x6 x7 x8 else i_LogicalLines_L8 x0 x1 (w64 (x2 + 1)) x6 :=
  (den_run CC 6 (lbl CC 6 11) ⟨tmOf [(7, .arr 0), (9, .ref 1 0), (24, .sl (.st 28) x0), (25, .int .i64 x1), (26, .int .i64 x2), (32, .sl .str x3), (33, .int .i64 x4), (34, .int .i64 x5)] 0 51, [.arr 29 (.st 28) x6 false, .box 29 [.int .i64 x7, .str x8] false], 0⟩ fun r => prjR GG [(.sl (.st 28)), (.int .i64), (.int .i64)] r.1).trans (by kernel_rfl)

theorem s_l01Printable_eq (x0 : (List UInt8)) (x1 : Bool) : s_l01Printable x0 x1 = s_l01Printable_L2 x0 x1 0 :=
  (den_run CC 32 (bodyT CC 32) ⟨tmOf [(0, .str x0), (1, .bool x1)] 0 32, [], 0⟩ fun r => prjR GG [.bool] r.1).trans (by kernel_rfl)

theorem s_l01Cut_eq (x0 : (List UInt8)) (x1 : Int) : s_l01Cut x0 x1 = s_l01Cut_L4 x0 x1 0 0 ([]) :=
  (den_run CC 33 (bodyT CC 33) ⟨tmOf [(0, .str x0), (1, .int .u8 x1)] 0 35, [], 0⟩ fun r => prjR GG [(.sl .str)] r.1).trans (by kernel_rfl)

theorem s_IsBlankLine_eq (x0 : (List UInt8)) : s_IsBlankLine x0 = s_IsBlankLine_L2 x0 0 :=
  (den_run CC 17 (bodyT CC 17) ⟨tmOf [(0, .str x0)] 0 14, [], 0⟩ fun r => prjR GG [.bool] r.1).trans (by kernel_rfl)

theorem s_LogicalLines_L7_eq (x0 : (List (List UInt8))) (x1 : Int) (x2 : (List TLine)) : s_LogicalLines_L7 x0 x1 x2 = s_LogicalLines_L6 x0 (w64 (x1 + 1)) x2 :=
  (den_run CC 7 (lbl CC 7 7) ⟨tmOf [(5, .arr 0), (6, .sl .str x0), (7, .int .i64 x1)] 0 107, [.arr 29 (.st 28) x2 false], 0⟩ fun r => prjR GG [(.sl (.st 28)), (.int .i64), (.int .i64)] r.1).trans (by kernel_rfl)

theorem s_IsComment_eq (x0 : (List UInt8)) : s_IsComment x0 = if (!x0 == []) = true then ((idx x0 0) : Option UInt8).bind fun y199 => some (ib y199 == 42) else some (false) :=
  (den_run CC 18 (bodyT CC 18) ⟨tmOf [(0, .str x0)] 0 10, [], 0⟩ fun r => prjR GG [.bool] r.1).trans (by kernel_rfl)

theorem s_IsContinuation_eq (x0 : (List UInt8)) : s_IsContinuation x0 = if (!x0 == []) = true then ((idx x0 0) : Option UInt8).bind fun y199 => some (ib y199 == 43) else some (false) :=
  (den_run CC 19 (bodyT CC 19) ⟨tmOf [(0, .str x0)] 0 10, [], 0⟩ fun r => prjR GG [.bool] r.1).trans (by kernel_rfl)

theorem s_LogicalLines_L18_eq (x0 : Int) (x1 : (List TLine)) (x2 : (List TLine)) : s_LogicalLines_L18 x0 x1 x2 = if (decide (x0 < len x1)) = true then ((idx x1 x0) : Option TLine).bind fun y199 => ((x1[Int.toNat x0]?) : Option TLine).bind fun y198 => (s_SplitStatements y198.fText).bind fun r197 => s_LogicalLines_L22 x0 r197 0 x1 x2 else some ((x2), 0, 0) :=
  (den_run CC 7 (lbl CC 7 18) ⟨tmOf [(5, .arr 0), (10, .arr 1), (11, .int .i64 x0)] 0 107, [.arr 29 (.st 28) x1 false, .arr 29 (.st 28) x2 false], 0⟩ fun r => prjR GG [(.sl (.st 28)), (.int .i64), (.int .i64)] r.1).trans (by kernel_rfl)

theorem i_JoinLines_eq (x0 : (List TLine)) : i_JoinLines x0 = i_JoinLines_L3 x0 (len x0) 0 ([]) :=
  (den_run CC 8 (bodyT CC 8) ⟨tmOf [(0, .sl (.st 28) x0)] 0 19, [], 0⟩ fun r => prjR GG [.str] r.1).trans (by kernel_rfl)

theorem l_FnLines_L24_eq (x0 : (List TLine)) (x1 : (List TLine)) (x2 : Int) : l_FnLines_L24 x0 x1 x2 = if (decide (x2 < len x0)) = true then ((idx x1 x2) : Option TLine).bind fun y199 => ((idx x0 x2) : Option TLine).bind fun y198 => if (!y199.fText == y198.fText) = true then some (false) else ((idx x1 x2) : Option TLine).bind fun y196 => if (y196.fNumber != w64 (x2 + 1)) = true then some (false) else l_FnLines_L24 x0 x1 (w64 (x2 + 1)) else some (true) :=
  (den_run CC 3 (lbl CC 3 24) ⟨tmOf [(4, .sl (.st 28) x0), (12, .sl (.st 28) x1), (15, .int .i64 x2)] 0 134, [], 0⟩ fun r => prjR GG [.bool] r.1).trans (by kernel_rfl)

theorem s_l00Src_next_eq (x0 : (List Int)) (x1 : Int) (x2 : Int) : s_l00Src_next x0 x1 x2 = if (decide (x1 < len x0)) = true then ((idx x0 x1) : Option Int).bind fun y199 => if (decide (w64 (x1 + 1) ≤ len x0)) = true then some (((w64 y199)), (((x0), (w64 (x1 + 1)), (Go.IntKind.wrap Go.IntKind.u64 (Go.IntKind.wrap Go.IntKind.u64 (Go.IntKind.wrap Go.IntKind.u64 (x2 * 6364136223846793005) + Go.IntKind.wrap Go.IntKind.u64 (w64 y199)) + 1442695040888963407)), ()), ())) else ((shr Go.IntKind.u64 (Go.IntKind.wrap Go.IntKind.u64 (Go.IntKind.wrap Go.IntKind.u64 (Go.IntKind.wrap Go.IntKind.u64 (x2 * 6364136223846793005) + Go.IntKind.wrap Go.IntKind.u64 (w64 y199)) + 1442695040888963407)) 40) : Option Int).bind fun y197 => some (((w64 (bitsOp Go.BinOp.and Go.IntKind.u64 y197 255))), (((x0), (w64 (x1 + 1)), (Go.IntKind.wrap Go.IntKind.u64 (Go.IntKind.wrap Go.IntKind.u64 (Go.IntKind.wrap Go.IntKind.u64 (x2 * 6364136223846793005) + Go.IntKind.wrap Go.IntKind.u64 (w64 y199)) + 1442695040888963407)), ()), ())) else if (decide (w64 (x1 + 1) ≤ len x0)) = true then some ((0), (((x0), (w64 (x1 + 1)), (Go.IntKind.wrap Go.IntKind.u64 (Go.IntKind.wrap Go.IntKind.u64 (Go.IntKind.wrap Go.IntKind.u64 (x2 * 6364136223846793005) + Go.IntKind.wrap Go.IntKind.u64 0) + 1442695040888963407)), ()), ())) else ((shr Go.IntKind.u64 (Go.IntKind.wrap Go.IntKind.u64 (Go.IntKind.wrap Go.IntKind.u64 (Go.IntKind.wrap Go.IntKind.u64 (x2 * 6364136223846793005) + Go.IntKind.wrap Go.IntKind.u64 0) + 1442695040888963407)) 40) : Option Int).bind fun y198 => some (((w64 (bitsOp Go.BinOp.and Go.IntKind.u64 y198 255))), (((x0), (w64 (x1 + 1)), (Go.IntKind.wrap Go.IntKind.u64 (Go.IntKind.wrap Go.IntKind.u64 (Go.IntKind.wrap Go.IntKind.u64 (x2 * 6364136223846793005) + Go.IntKind.wrap Go.IntKind.u64 0) + 1442695040888963407)), ()), ())) :=
  (den_run CC 35 (bodyT CC 35) ⟨tmOf [(0, .ref 0 0)] 0 62, [.box 49 [.sl (.int .u8) x0, .int .i64 x1, .int .u64 x2] false], 1⟩ fun r => prjRB GG [(.int .i64)] [[.im (.sl (.int .u8)), .im (.int .i64), .im (.int .u64)]] r).trans (by kernel_rfl)

theorem s_l01DrawLine_eq (x0 : (List Int)) (x1 : Int) (x2 : Int) : s_l01DrawLine x0 x1 x2 = (s_l00Src_text ([[32, 65, 32, 61, 32, 49], [76, 32, 66, 32, 67], [], [32, 32, 32], [42, 32, 110, 111, 116, 101], [43, 32, 109, 111, 114, 101], [32, 88, 32, 61, 32, 39, 97, 59, 98, 39, 59, 89, 32, 90], [59, 59], [32, 39, 32, 111, 112, 101, 110], [65, 59, 66, 59, 67], [32, 80, 32, 61, 32, 34, 105, 116, 39, 115, 34], [69, 78, 68]]) x0 x1 x2).bind fun r200 => some (((Prod.fst r200)), (((Prod.fst (Prod.fst (Prod.snd r200))), (Prod.fst (Prod.snd (Prod.fst (Prod.snd r200)))), (Prod.fst (Prod.snd (Prod.snd (Prod.fst (Prod.snd r200))))), ()), ())) :=
  (den_run CC 24 (bodyT CC 24) ⟨tmOf [(0, .ref 0 0)] 0 6, [.box 49 [.sl (.int .u8) x0, .int .i64 x1, .int .u64 x2] false], 1⟩ fun r => prjRB GG [.str] [[.im (.sl (.int .u8)), .im (.int .i64), .im (.int .u64)]] r).trans (by kernel_rfl)

theorem s_l01DrawText_L4_eq (x0 : (List UInt8)) (x1 : Int) (x2 : (List Int)) (x3 : Int) (x4 : Int) : s_l01DrawText_L4 x0 x1 x2 x3 x4 = s_l01DrawText_L3 x0 (w64 (x1 - 1)) x2 x3 x4 :=
  (den_run CC 10 (lbl CC 10 4) ⟨tmOf [(0, .ref 0 0), (3, .str x0), (4, .int .i64 x1)] 0 45, [.box 49 [.sl (.int .u8) x2, .int .i64 x3, .int .u64 x4] false], 1⟩ fun r => prjRB GG [.str] [[.im (.sl (.int .u8)), .im (.int .i64), .im (.int .u64)]] r).trans (by kernel_rfl)

theorem s_l00Src_one_eq (x0 : Int) (x1 : (List Int)) (x2 : Int) (x3 : Int) : s_l00Src_one x0 x1 x2 x3 = (s_l00Src_pick x0 x1 x2 x3).bind fun r200 => some (((Prod.fst r200 == 0)), (((Prod.fst (Prod.fst (Prod.snd r200))), (Prod.fst (Prod.snd (Prod.fst (Prod.snd r200)))), (Prod.fst (Prod.snd (Prod.snd (Prod.fst (Prod.snd r200))))), ()), ())) :=
  (den_run CC 25 (bodyT CC 25) ⟨tmOf [(0, .ref 0 0), (1, .int .i64 x0)] 0 9, [.box 49 [.sl (.int .u8) x1, .int .i64 x2, .int .u64 x3] false], 1⟩ fun r => prjRB GG [.bool] [[.im (.sl (.int .u8)), .im (.int .i64), .im (.int .u64)]] r).trans (by kernel_rfl)

theorem s_l01DrawText_L18_eq (x0 : (List UInt8)) (x1 : (List Int)) (x2 : Int) (x3 : Int) : s_l01DrawText_L18 x0 x1 x2 x3 = some ((x0), (((x1), (x2), (x3), ()), ())) :=
  (den_run CC 10 (lbl CC 10 18) ⟨tmOf [(3, .str x0)] 0 45, [.box 49 [.sl (.int .u8) x1, .int .i64 x2, .int .u64 x3] false], 1⟩ fun r => prjRB GG [.str] [[.im (.sl (.int .u8)), .im (.int .i64), .im (.int .u64)]] r).trans (by kernel_rfl)

theorem s_l01DrawText_L15_eq (x0 : (List UInt8)) (x1 : Int) (x2 : (List Int)) (x3 : Int) (x4 : Int) : s_l01DrawText_L15 x0 x1 x2 x3 x4 = if (decide (x1 < 130)) = true then ((app x0 ([10])) : Option (List UInt8)).bind fun y199 => s_l01DrawText_L15 y199 (w64 (x1 + 1)) x2 x3 x4 else s_l01DrawText_L18 x0 x2 x3 x4 :=
  (den_run CC 10 (lbl CC 10 15) ⟨tmOf [(3, .str x0), (5, .int .i64 x1)] 0 45, [.box 49 [.sl (.int .u8) x2, .int .i64 x3, .int .u64 x4] false], 1⟩ fun r => prjRB GG [.str] [[.im (.sl (.int .u8)), .im (.int .i64), .im (.int .u64)]] r).trans (by kernel_rfl)

theorem i_areAll_byte__i_isPlain_eq (x0 : (List Int)) : i_areAll_byte__i_isPlain x0 = i_areAll_byte_L2__i_isPlain x0 (len x0) 0 :=
  (den_run CC 37 (bodyT CC 37) ⟨tmOf [(0, .sl (.int .u8) x0), (1, .fn 38 [])] 0 18, [], 0⟩ fun r => prjR GG [.bool] r.1).trans (by kernel_rfl)

theorem strings_TrimSuffix_eq (x0 : (List UInt8)) (x1 : (List UInt8)) : strings_TrimSuffix x0 x1 = (internal_stringslite_TrimSuffix x0 x1).bind fun r200 => some r200 :=
  (den_run CC 41 (bodyT CC 41) ⟨tmOf [(0, .str x0), (1, .str x1)] 0 8, [], 0⟩ fun r => prjR GG [.str] r.1).trans (by kernel_rfl)

theorem i_IsBlankLine_eq (x0 : (List UInt8)) : i_IsBlankLine x0 = ((trimS x0 ([32])) : Option (List UInt8)).bind fun y200 => some (y200 == []) :=
  (den_run CC 14 (bodyT CC 14) ⟨tmOf [(0, .str x0)] 0 6, [], 0⟩ fun r => prjR GG [.bool] r.1).trans (by kernel_rfl)

theorem i_combine_L12_eq (x0 : (List (List UInt8))) (x1 : Int) (x2 : Int) (x3 : (List TLine)) : i_combine_L12 x0 x1 x2 x3 = i_combine_L3 x0 x1 (w64 (x2 + 1)) x3 :=
  (den_run CC 12 (lbl CC 12 12) ⟨tmOf [(4, .arr 0), (10, .sl .str x0), (11, .int .i64 x1), (12, .int .i64 x2)] 0 56, [.arr 29 (.st 28) x3 false], 0⟩ fun r => prjR GG [(.sl (.st 28)), (.int .i64)] r.1).trans (by kernel_rfl)

theorem i_IsComment_eq (x0 : (List UInt8)) : i_IsComment x0 = (strings_HasPrefix x0 [42]).bind fun r200 => some r200 :=
  (den_run CC 29 (bodyT CC 29) ⟨tmOf [(0, .str x0)] 0 5, [], 0⟩ fun r => prjR GG [.bool] r.1).trans (by kernel_rfl)

theorem i_IsContinuation_eq (x0 : (List UInt8)) : i_IsContinuation x0 = (strings_HasPrefix x0 [43]).bind fun r200 => some r200 :=
  (den_run CC 30 (bodyT CC 30) ⟨tmOf [(0, .str x0)] 0 5, [], 0⟩ fun r => prjR GG [.bool] r.1).trans (by kernel_rfl)

theorem i_SplitStatements_L3_eq (x0 : (List UInt8)) (x1 : Int) (x2 : Int) (x3 : Int) (x4 : Int) (x5 : (List (List UInt8))) : i_SplitStatements_L3 x0 x1 x2 x3 x4 x5 = if (decide (x4 < x3)) = true then ((idx x0 x4) : Option UInt8).bind fun y199 => if (x2 != 0) = true then if (ib y199 == x2) = true then i_SplitStatements_L14 x0 x1 0 x3 x4 x5 else i_SplitStatements_L14 x0 x1 x2 x3 x4 x5 else if (ib y199 == 39) = true then i_SplitStatements_L14 x0 x1 (ib y199) x3 x4 x5 else if (ib y199 == 34) = true then i_SplitStatements_L14 x0 x1 (ib y199) x3 x4 x5 else if (ib y199 == 59) = true then ((cut x0 x1 (Option.getD (Option.some x4) (len x0))) : Option (List UInt8)).bind fun y194 => ((app x5 [y194]) : Option (List (List UInt8))).bind fun y193 => i_SplitStatements_L14 x0 (w64 (x4 + 1)) x2 x3 x4 y193 else i_SplitStatements_L14 x0 x1 x2 x3 x4 x5 else ((cut x0 x1 (Option.getD Option.none (len x0))) : Option (List UInt8)).bind fun y199 => ((app x5 [y199]) : Option (List (List UInt8))).bind fun y198 => some y198 :=
  (den_run CC 13 (lbl CC 13 3) ⟨tmOf [(0, .str x0), (3, .arr 0), (4, .int .i64 x1), (5, .int .u8 x2), (10, .int .i64 x3), (11, .int .i64 x4)] 0 50, [.arr 9 .str x5 false], 0⟩ fun r => prjR GG [(.sl .str)] r.1).trans (by kernel_rfl)

theorem s_l01Printable_L2_eq (x0 : (List UInt8)) (x1 : Bool) (x2 : Int) : s_l01Printable_L2 x0 x1 x2 = if (decide (x2 < len x0)) = true then ((idx x0 x2) : Option UInt8).bind fun y199 => if (decide (ib y199 < 32)) = true then if x1 = true then ((idx x0 x2) : Option UInt8).bind fun y196 => if (!ib y196 == 10) = true then s_l01Printable_L5 else s_l01Printable_L3 x0 x1 x2 else s_l01Printable_L5 else ((idx x0 x2) : Option UInt8).bind fun y197 => if (decide (ib y197 > 126)) = true then if x1 = true then ((idx x0 x2) : Option UInt8).bind fun y194 => if (!ib y194 == 10) = true then s_l01Printable_L5 else s_l01Printable_L3 x0 x1 x2 else s_l01Printable_L5 else s_l01Printable_L3 x0 x1 x2 else some (true) :=
  (den_run CC 32 (lbl CC 32 2) ⟨tmOf [(0, .str x0), (1, .bool x1), (5, .int .i64 x2)] 0 32, [], 0⟩ fun r => prjR GG [.bool] r.1).trans (by kernel_rfl)

theorem s_l01Cut_L4_eq (x0 : (List UInt8)) (x1 : Int) (x2 : Int) (x3 : Int) (x4 : (List (List UInt8))) : s_l01Cut_L4 x0 x1 x2 x3 x4 = if (decide (x3 < len x0)) = true then ((idx x0 x3) : Option UInt8).bind fun y199 => if (ib y199 == x1) = true then ((cut x0 x2 (Option.getD (Option.some x3) (len x0))) : Option (List UInt8)).bind fun y197 => ((app x4 [y197]) : Option (List (List UInt8))).bind fun y196 => s_l01Cut_L4 x0 x1 (w64 (x3 + 1)) (w64 (x3 + 1)) y196 else s_l01Cut_L4 x0 x1 x2 (w64 (x3 + 1)) x4 else ((cut x0 x2 (Option.getD Option.none (len x0))) : Option (List UInt8)).bind fun y199 => ((app x4 [y199]) : Option (List (List UInt8))).bind fun y198 => some y198 :=
  (den_run CC 33 (lbl CC 33 4) ⟨tmOf [(0, .str x0), (1, .int .u8 x1), (5, .arr 0), (6, .int .i64 x2), (7, .int .i64 x3)] 0 35, [.arr 9 .str x4 false], 0⟩ fun r => prjR GG [(.sl .str)] r.1).trans (by kernel_rfl)

theorem s_IsBlankLine_L2_eq (x0 : (List UInt8)) (x1 : Int) : s_IsBlankLine_L2 x0 x1 = if (decide (x1 < len x0)) = true then ((idx x0 x1) : Option UInt8).bind fun y199 => if (ib y199 != 32) = true then some (false) else s_IsBlankLine_L2 x0 (w64 (x1 + 1)) else some (true) :=
  (den_run CC 17 (lbl CC 17 2) ⟨tmOf [(0, .str x0), (3, .int .i64 x1)] 0 14, [], 0⟩ fun r => prjR GG [.bool] r.1).trans (by kernel_rfl)

theorem s_SplitStatements_eq (x0 : (List UInt8)) : s_SplitStatements x0 = s_SplitStatements_L5 x0 0 0 0 ([]) :=
  (den_run CC 20 (bodyT CC 20) ⟨tmOf [(0, .str x0)] 0 50, [], 0⟩ fun r => prjR GG [(.sl .str)] r.1).trans (by kernel_rfl)

theorem s_LogicalLines_L22_eq (x0 : Int) (x1 : (List (List UInt8))) (x2 : Int) (x3 : (List TLine)) (x4 : (List TLine)) : s_LogicalLines_L22 x0 x1 x2 x3 x4 = if (decide (x2 < len x1)) = true then ((idx x1 x2) : Option (List UInt8)).bind fun y199 => (s_IsBlankLine y199).bind fun r198 => if (!r198) = true then ((idx x3 x0) : Option TLine).bind fun y196 => ((x3[Int.toNat x0]?) : Option TLine).bind fun y195 => ((idx x1 x2) : Option (List UInt8)).bind fun y194 => ((app x4 [TLine.mk y195.fNumber y194]) : Option (List TLine)).bind fun y193 => s_LogicalLines_L22 x0 x1 (w64 (x2 + 1)) x3 y193 else s_LogicalLines_L22 x0 x1 (w64 (x2 + 1)) x3 x4 else s_LogicalLines_L18 (w64 (x0 + 1)) x3 x4 :=
  (den_run CC 7 (lbl CC 7 22) ⟨tmOf [(5, .arr 0), (10, .arr 1), (11, .int .i64 x0), (12, .sl .str x1), (13, .int .i64 x2)] 0 107, [.arr 29 (.st 28) x3 false, .arr 29 (.st 28) x4 false], 0⟩ fun r => prjR GG [(.sl (.st 28)), (.int .i64), (.int .i64)] r.1).trans (by kernel_rfl)

theorem i_JoinLines_L3_eq (x0 : (List TLine)) (x1 : Int) (x2 : Int) (x3 : (List Int)) : i_JoinLines_L3 x0 x1 x2 x3 = if (decide (x2 < x1)) = true then ((idx x0 x2) : Option TLine).bind fun y199 => ((app y199.fText ([10])) : Option (List UInt8)).bind fun y198 => ((app x3 (List.map (fun (b : UInt8) ↦ ib b) y198)) : Option (List Int)).bind fun y197 => i_JoinLines_L3_v1 x0 x1 (w64 (x2 + 1)) y197 else ((bytesOf x3) : Option (List UInt8)).bind fun y199 => some y199 :=
  (den_run CC 8 (lbl CC 8 3) ⟨tmOf [(3, .ref 0 0), (7, .sl (.st 28) x0), (8, .int .i64 x1), (9, .int .i64 x2)] 0 19, [.box 41 [.nilp, .arr 1] false, .arr 5 (.int .u8) x3 false], 0⟩ fun r => prjR GG [.str] r.1).trans (by kernel_rfl)

theorem s_l00Src_text_eq (x0 : (List (List UInt8))) (x1 : (List Int)) (x2 : Int) (x3 : Int) : s_l00Src_text x0 x1 x2 x3 = (s_l00Src_pick (len x0) x1 x2 x3).bind fun r200 => ((idx x0 (Prod.fst r200)) : Option (List UInt8)).bind fun y199 => some ((y199), (((Prod.fst (Prod.fst (Prod.snd r200))), (Prod.fst (Prod.snd (Prod.fst (Prod.snd r200)))), (Prod.fst (Prod.snd (Prod.snd (Prod.fst (Prod.snd r200))))), ()), ())) :=
  (den_run CC 36 (bodyT CC 36) ⟨tmOf [(0, .ref 0 0), (1, .sl .str x0)] 0 12, [.box 49 [.sl (.int .u8) x1, .int .i64 x2, .int .u64 x3] false], 1⟩ fun r => prjRB GG [.str] [[.im (.sl (.int .u8)), .im (.int .i64), .im (.int .u64)]] r).trans (by kernel_rfl)

theorem i_areAll_byte_L2__i_isPlain_eq (x0 : (List Int)) (x1 : Int) (x2 : Int) : i_areAll_byte_L2__i_isPlain x0 x1 x2 = if (decide (x2 < x1)) = true then ((idx x0 x2) : Option Int).bind fun y199 => (i_isPlain y199).bind fun r198 => if (!r198) = true then some (false) else i_areAll_byte_L2__i_isPlain x0 x1 (w64 (x2 + 1)) else some (true) :=
  (den_run CC 37 (lbl CC 37 2) ⟨tmOf [(1, .fn 38 []), (7, .sl (.int .u8) x0), (8, .int .i64 x1), (9, .int .i64 x2)] 0 18, [], 0⟩ fun r => prjR GG [.bool] r.1).trans (by kernel_rfl)

theorem internal_stringslite_TrimSuffix_eq (x0 : (List UInt8)) (x1 : (List UInt8)) : internal_stringslite_TrimSuffix x0 x1 = (internal_stringslite_HasSuffix x0 x1).bind fun r200 => if r200 = true then ((cut x0 0 (Option.getD (Option.some (w64 (len x0 - len x1))) (len x0))) : Option (List UInt8)).bind fun y198 => some y198 else some x0 :=
  (den_run CC 56 (bodyT CC 56) ⟨tmOf [(0, .str x0), (1, .str x1)] 0 16, [], 0⟩ fun r => prjR GG [.str] r.1).trans (by kernel_rfl)

theorem strings_HasPrefix_eq (x0 : (List UInt8)) (x1 : (List UInt8)) : strings_HasPrefix x0 x1 = (internal_stringslite_HasPrefix x0 x1).bind fun r200 => some r200 :=
  (den_run CC 42 (bodyT CC 42) ⟨tmOf [(0, .str x0), (1, .str x1)] 0 8, [], 0⟩ fun r => prjR GG [.bool] r.1).trans (by kernel_rfl)

theorem i_SplitStatements_L14_eq (x0 : (List UInt8)) (x1 : Int) (x2 : Int) (x3 : Int) (x4 : Int) (x5 : (List (List UInt8))) : i_SplitStatements_L14 x0 x1 x2 x3 x4 x5 = i_SplitStatements_L3 x0 x1 x2 x3 (w64 (x4 + 1)) x5 :=
  (den_run CC 13 (lbl CC 13 14) ⟨tmOf [(0, .str x0), (3, .arr 0), (4, .int .i64 x1), (5, .int .u8 x2), (10, .int .i64 x3), (11, .int .i64 x4)] 0 50, [.arr 9 .str x5 false], 0⟩ fun r => prjR GG [(.sl .str)] r.1).trans (by kernel_rfl)

theorem s_l01Printable_L5_eq : s_l01Printable_L5 = some (false) :=
  (den_run CC 32 (lbl CC 32 5) ⟨tmOf [] 0 32, [], 0⟩ fun r => prjR GG [.bool] r.1).trans (by kernel_rfl)

theorem s_l01Printable_L3_eq (x0 : (List UInt8)) (x1 : Bool) (x2 : Int) : s_l01Printable_L3 x0 x1 x2 = s_l01Printable_L2 x0 x1 (w64 (x2 + 1)) :=
  (den_run CC 32 (lbl CC 32 3) ⟨tmOf [(0, .str x0), (1, .bool x1), (5, .int .i64 x2)] 0 32, [], 0⟩ fun r => prjR GG [.bool] r.1).trans (by kernel_rfl)

theorem s_SplitStatements_L5_eq (x0 : (List UInt8)) (x1 : Int) (x2 : Int) (x3 : Int) (x4 : (List (List UInt8))) : s_SplitStatements_L5 x0 x1 x2 x3 x4 = if (decide (x3 < len x0)) = true then ((idx x0 x3) : Option UInt8).bind fun y199 => if (x2 != 0) = true then if (ib y199 == x2) = true then s_SplitStatements_L6 x0 x1 0 x3 x4 else s_SplitStatements_L6 x0 x1 x2 x3 x4 else if (ib y199 == 39) = true then s_SplitStatements_L6 x0 x1 (ib y199) x3 x4 else if (ib y199 == 34) = true then s_SplitStatements_L6 x0 x1 (ib y199) x3 x4 else if (ib y199 == 59) = true then ((cut x0 x1 (Option.getD (Option.some x3) (len x0))) : Option (List UInt8)).bind fun y194 => ((app x4 [y194]) : Option (List (List UInt8))).bind fun y193 => s_SplitStatements_L6 x0 (w64 (x3 + 1)) x2 x3 y193 else s_SplitStatements_L6 x0 x1 x2 x3 x4 else ((cut x0 x1 (Option.getD Option.none (len x0))) : Option (List UInt8)).bind fun y199 => ((app x4 [y199]) : Option (List (List UInt8))).bind fun y198 => some y198 :=
  (den_run CC 20 (lbl CC 20 5) ⟨tmOf [(0, .str x0), (3, .arr 0), (4, .int .i64 x1), (5, .int .u8 x2), (6, .int .i64 x3)] 0 50, [.arr 9 .str x4 false], 0⟩ fun r => prjR GG [(.sl .str)] r.1).trans (by kernel_rfl)

theorem i_JoinLines_L3_v1_eq (x0 : (List TLine)) (x1 : Int) (x2 : Int) (x3 : (List Int)) : i_JoinLines_L3_v1 x0 x1 x2 x3 = if (decide (x2 < x1)) = true then ((idx x0 x2) : Option TLine).bind fun y199 => ((app y199.fText ([10])) : Option (List UInt8)).bind fun y198 => ((app x3 (List.map (fun (b : UInt8) ↦ ib b) y198)) : Option (List Int)).bind fun y197 => i_JoinLines_L3_v1 x0 x1 (w64 (x2 + 1)) y197 else ((bytesOf x3) : Option (List UInt8)).bind fun y199 => some y199 :=
  (den_run CC 8 (lbl CC 8 3) ⟨tmOf [(3, .ref 0 0), (7, .sl (.st 28) x0), (8, .int .i64 x1), (9, .int .i64 x2)] 0 19, [.box 41 [.ref 0 0, .arr 1] false, .arr 5 (.int .u8) x3 false], 0⟩ fun r => prjR GG [.str] r.1).trans (by kernel_rfl)

theorem i_isPlain_eq (x0 : Int) : i_isPlain x0 = if (decide (x0 ≥ 32)) = true then some (decide (x0 ≤ 126)) else some (false) :=
  (den_run CC 38 (bodyT CC 38) ⟨tmOf [(0, .int .u8 x0)] 0 9, [], 0⟩ fun r => prjR GG [.bool] r.1).trans (by kernel_rfl)

theorem internal_stringslite_HasSuffix_eq (x0 : (List UInt8)) (x1 : (List UInt8)) : internal_stringslite_HasSuffix x0 x1 = if (decide (len x0 ≥ len x1)) = true then ((cut x0 (w64 (len x0 - len x1)) (Option.getD Option.none (len x0))) : Option (List UInt8)).bind fun y199 => some (y199 == x1) else some (false) :=
  (den_run CC 67 (bodyT CC 67) ⟨tmOf [(0, .str x0), (1, .str x1)] 0 21, [], 0⟩ fun r => prjR GG [.bool] r.1).trans (by kernel_rfl)

theorem internal_stringslite_HasPrefix_eq (x0 : (List UInt8)) (x1 : (List UInt8)) : internal_stringslite_HasPrefix x0 x1 = if (decide (len x0 ≥ len x1)) = true then ((cut x0 0 (Option.getD (Option.some (len x1)) (len x0))) : Option (List UInt8)).bind fun y199 => some (y199 == x1) else some (false) :=
  (den_run CC 57 (bodyT CC 57) ⟨tmOf [(0, .str x0), (1, .str x1)] 0 18, [], 0⟩ fun r => prjR GG [.bool] r.1).trans (by kernel_rfl)

theorem s_SplitStatements_L6_eq (x0 : (List UInt8)) (x1 : Int) (x2 : Int) (x3 : Int) (x4 : (List (List UInt8))) : s_SplitStatements_L6 x0 x1 x2 x3 x4 = s_SplitStatements_L5 x0 x1 x2 (w64 (x3 + 1)) x4 :=
  (den_run CC 20 (lbl CC 20 6) ⟨tmOf [(0, .str x0), (3, .arr 0), (4, .int .i64 x1), (5, .int .u8 x2), (6, .int .i64 x3)] 0 50, [.arr 9 .str x4 false], 0⟩ fun r => prjR GG [(.sl .str)] r.1).trans (by kernel_rfl)
end Go.Dv.U
