/- The functions of the program as equations on plain data, each checked by the kernel. -/
import Derived.Test.YtipebmooajoklaaDoorExa
set_option linter.all false
set_option linter.unusedVariables false
set_option linter.unusedSimpArgs false
namespace Go.Dv.U
open Go Go.Dv Go.Proofs
set_option maxRecDepth 100000
noncomputable def l_FnTokens (x0 : (List Int)) : Option (Bool) := (Den CC 3 (bodyT CC 3) ⟨tmOf [(0, .sl (.int .u8) x0)] 0 93, [], 0⟩).bind fun r => prjR GG [.bool] r.1

noncomputable def l_c2Long (x0 : (List Int)) : Option (Bool) := (Den CC 4 (bodyT CC 4) ⟨tmOf [(0, .sl (.int .u8) x0)] 0 6, [], 0⟩).bind fun r => prjR GG [.bool] r.1

noncomputable def s_DrawScanTokens (x0 : (List Int)) : Option ((List UInt8)) := (Den CC 5 (bodyT CC 5) ⟨tmOf [(0, .sl (.int .u8) x0)] 0 8, [], 0⟩).bind fun r => prjR GG [.str] r.1

noncomputable def i_ScanTokens (x0 : (List UInt8)) : Option ((List TToken) × Int × Int) := (Den CC 6 (bodyT CC 6) ⟨tmOf [(0, .str x0)] 0 81, [], 0⟩).bind fun r => prjR GG [(.sl (.st 29)), (.int .i64), (.int .i64)] r.1

noncomputable def s_ScanTokens (x0 : (List UInt8)) : Option ((List TToken) × Int × Int) := (Den CC 7 (bodyT CC 7) ⟨tmOf [(0, .str x0)] 0 19, [], 0⟩).bind fun r => prjR GG [(.sl (.st 29)), (.int .i64), (.int .i64)] r.1

noncomputable def l_FnTokens_L7 (x0 : (List TToken)) (x1 : Int) (x2 : (List TToken)) (x3 : Int) : Option (Bool) := (Den CC 3 (lbl CC 3 7) ⟨tmOf [(4, .sl (.st 29) x0), (6, .int .i64 x1), (7, .sl (.st 29) x2), (9, .int .i64 x3)] 0 93, [], 0⟩).bind fun r => prjR GG [.bool] r.1

noncomputable def l_FnTokens_L8 (x0 : (List TToken)) : Option (Bool) := (Den CC 3 (lbl CC 3 8) ⟨tmOf [(4, .sl (.st 29) x0)] 0 93, [], 0⟩).bind fun r => prjR GG [.bool] r.1

noncomputable def s_l02DrawText (x0 : (List Int)) (x1 : Int) (x2 : Int) : Option (((List UInt8)) × (((List Int) × Int × Int × Unit) × Unit)) := (Den CC 11 (bodyT CC 11) ⟨tmOf [(0, .ref 0 0)] 0 51, [.box 56 [.sl (.int .u8) x0, .int .i64 x1, .int .u64 x2] false], 1⟩).bind fun r => prjRB GG [.str] [[.im (.sl (.int .u8)), .im (.int .i64), .im (.int .u64)]] r

noncomputable def i_isPlainText (x0 : (List UInt8)) : Option (Bool) := (Den CC 12 (bodyT CC 12) ⟨tmOf [(0, .str x0)] 0 6, [], 0⟩).bind fun r => prjR GG [.bool] r.1

noncomputable def i_ScanTokens_L5 (x0 : (List UInt8)) (x1 : Int) (x2 : (List TToken)) : Option ((List TToken) × Int × Int) := (Den CC 6 (lbl CC 6 5) ⟨tmOf [(0, .str x0), (5, .arr 0), (6, .int .i64 x1)] 0 81, [.arr 30 (.st 29) x2 false], 0⟩).bind fun r => prjR GG [(.sl (.st 29)), (.int .i64), (.int .i64)] r.1

noncomputable def s_l01Printable (x0 : (List UInt8)) (x1 : Bool) : Option (Bool) := (Den CC 18 (bodyT CC 18) ⟨tmOf [(0, .str x0), (1, .bool x1)] 0 32, [], 0⟩).bind fun r => prjR GG [.bool] r.1

noncomputable def s_l02Scan (x0 : (List UInt8)) : Option ((List TToken) × Int × Int) := (Den CC 19 (bodyT CC 19) ⟨tmOf [(0, .str x0)] 0 64, [], 0⟩).bind fun r => prjR GG [(.sl (.st 29)), (.int .i64), (.int .i64)] r.1

noncomputable def i_PrintTokens (x0 : (List TToken)) : Option ((List UInt8)) := (Den CC 8 (bodyT CC 8) ⟨tmOf [(0, .sl (.st 29) x0)] 0 37, [], 0⟩).bind fun r => prjR GG [.str] r.1

noncomputable def l_FnTokens_L12 (x0 : (List TToken)) (x1 : (List TToken)) (x2 : Int) : Option (Bool) := (Den CC 3 (lbl CC 3 12) ⟨tmOf [(4, .sl (.st 29) x0), (10, .sl (.st 29) x1), (13, .int .i64 x2)] 0 93, [], 0⟩).bind fun r => prjR GG [.bool] r.1

noncomputable def s_l00Src_pick (x0 : Int) (x1 : (List Int)) (x2 : Int) (x3 : Int) : Option ((Int) × (((List Int) × Int × Int × Unit) × Unit)) := (Den CC 29 (bodyT CC 29) ⟨tmOf [(0, .ref 0 0), (1, .int .i64 x0)] 0 20, [.box 56 [.sl (.int .u8) x1, .int .i64 x2, .int .u64 x3] false], 1⟩).bind fun r => prjRB GG [(.int .i64)] [[.im (.sl (.int .u8)), .im (.int .i64), .im (.int .u64)]] r

noncomputable def s_l02DrawText_L3 (x0 : (List UInt8)) (x1 : Int) (x2 : (List Int)) (x3 : Int) (x4 : Int) : Option (((List UInt8)) × (((List Int) × Int × Int × Unit) × Unit)) := (Den CC 11 (lbl CC 11 3) ⟨tmOf [(0, .ref 0 0), (3, .str x0), (4, .int .i64 x1)] 0 51, [.box 56 [.sl (.int .u8) x2, .int .i64 x3, .int .u64 x4] false], 1⟩).bind fun r => prjRB GG [.str] [[.im (.sl (.int .u8)), .im (.int .i64), .im (.int .u64)]] r

noncomputable def i_areAll_byte__i_isPlain (x0 : (List Int)) : Option (Bool) := (Den CC 32 (bodyT CC 32) ⟨tmOf [(0, .sl (.int .u8) x0), (1, .fn 33 [])] 0 18, [], 0⟩).bind fun r => prjR GG [.bool] r.1

noncomputable def i_span__i_ScanTokens_c1 (x0 : (List UInt8)) (x1 : Int) : Option (Int) := (Den CC 13 (bodyT CC 13) ⟨tmOf [(0, .str x0), (1, .int .i64 x1), (2, .fn 14 [])] 0 25, [], 0⟩).bind fun r => prjR GG [(.int .i64)] r.1

noncomputable def i_scanToken (x0 : (List UInt8)) (x1 : Int) : Option (TToken × Int × Bool) := (Den CC 15 (bodyT CC 15) ⟨tmOf [(0, .str x0), (1, .int .i64 x1)] 0 101, [], 0⟩).bind fun r => prjR GG [(.st 29), (.int .i64), .bool] r.1

noncomputable def i_unless (x0 : Bool) (x1 : Int) : Option (Int) := (Den CC 17 (bodyT CC 17) ⟨tmOf [(0, .bool x0), (1, .int .i64 x1)] 0 7, [], 0⟩).bind fun r => prjR GG [(.int .i64)] r.1

noncomputable def i_first (x0 : (List Int)) : Option (Int) := (Den CC 16 (bodyT CC 16) ⟨tmOf [(0, .sl (.int .i64) x0)] 0 15, [], 0⟩).bind fun r => prjR GG [(.int .i64)] r.1

noncomputable def i_ScanTokens_L16 (x0 : (List UInt8)) (x1 : Int) (x2 : (List TToken)) (x3 : Int) (x4 : Int) (x5 : (List UInt8)) (x6 : Bool) (x7 : Bool) : Option ((List TToken) × Int × Int) := (Den CC 6 (lbl CC 6 16) ⟨tmOf [(0, .str x0), (5, .arr 0), (6, .int .i64 x1), (8, .ref 1 0)] 0 81, [.arr 30 (.st 29) x2 false, .box 30 [.int .i64 x3, .int .i64 x4, .str x5, .bool x6, .bool x7] false], 0⟩).bind fun r => prjR GG [(.sl (.st 29)), (.int .i64), (.int .i64)] r.1

noncomputable def s_l01Printable_L2 (x0 : (List UInt8)) (x1 : Bool) (x2 : Int) : Option (Bool) := (Den CC 18 (lbl CC 18 2) ⟨tmOf [(0, .str x0), (1, .bool x1), (5, .int .i64 x2)] 0 32, [], 0⟩).bind fun r => prjR GG [.bool] r.1

noncomputable def s_l02Scan_L4 (x0 : (List UInt8)) (x1 : Int) (x2 : Bool) (x3 : (List TToken)) : Option ((List TToken) × Int × Int) := (Den CC 19 (lbl CC 19 4) ⟨tmOf [(0, .str x0), (5, .arr 0), (6, .int .i64 x1), (7, .bool x2)] 0 64, [.arr 30 (.st 29) x3 false], 0⟩).bind fun r => prjR GG [(.sl (.st 29)), (.int .i64), (.int .i64)] r.1

noncomputable def i_areAll_impl_Token__i_ValidToken (x0 : (List TToken)) : Option (Bool) := (Den CC 20 (bodyT CC 20) ⟨tmOf [(0, .sl (.st 29) x0), (1, .fn 9 [])] 0 18, [], 0⟩).bind fun r => prjR GG [.bool] r.1

noncomputable def i_PrintTokens_L5 (x0 : (List TToken)) (x1 : (List TToken)) (x2 : Int) (x3 : Int) (x4 : (List Int)) : Option ((List UInt8)) := (Den CC 8 (lbl CC 8 5) ⟨tmOf [(0, .sl (.st 29) x0), (3, .ref 0 0), (10, .sl (.st 29) x1), (11, .int .i64 x2), (12, .int .i64 x3)] 0 37, [.box 46 [.nilp, .arr 1] false, .arr 5 (.int .u8) x4 false], 0⟩).bind fun r => prjR GG [.str] r.1

noncomputable def i_ValidToken (x0 : TToken) : Option (Bool) := (Den CC 9 (bodyT CC 9) ⟨tmOf [(0, .st 29 x0)] 0 58, [], 0⟩).bind fun r => prjR GG [.bool] r.1

noncomputable def s_l00Src_next (x0 : (List Int)) (x1 : Int) (x2 : Int) : Option ((Int) × (((List Int) × Int × Int × Unit) × Unit)) := (Den CC 45 (bodyT CC 45) ⟨tmOf [(0, .ref 0 0)] 0 62, [.box 56 [.sl (.int .u8) x0, .int .i64 x1, .int .u64 x2] false], 1⟩).bind fun r => prjRB GG [(.int .i64)] [[.im (.sl (.int .u8)), .im (.int .i64), .im (.int .u64)]] r

noncomputable def s_l00Src_text (x0 : (List (List UInt8))) (x1 : (List Int)) (x2 : Int) (x3 : Int) : Option (((List UInt8)) × (((List Int) × Int × Int × Unit) × Unit)) := (Den CC 30 (bodyT CC 30) ⟨tmOf [(0, .ref 0 0), (1, .sl .str x0)] 0 12, [.box 56 [.sl (.int .u8) x1, .int .i64 x2, .int .u64 x3] false], 1⟩).bind fun r => prjRB GG [.str] [[.im (.sl (.int .u8)), .im (.int .i64), .im (.int .u64)]] r

noncomputable def s_l00Src_one (x0 : Int) (x1 : (List Int)) (x2 : Int) (x3 : Int) : Option ((Bool) × (((List Int) × Int × Int × Unit) × Unit)) := (Den CC 31 (bodyT CC 31) ⟨tmOf [(0, .ref 0 0), (1, .int .i64 x0)] 0 9, [.box 56 [.sl (.int .u8) x1, .int .i64 x2, .int .u64 x3] false], 1⟩).bind fun r => prjRB GG [.bool] [[.im (.sl (.int .u8)), .im (.int .i64), .im (.int .u64)]] r

noncomputable def s_l02DrawText_L22 (x0 : (List UInt8)) (x1 : (List Int)) (x2 : Int) (x3 : Int) : Option (((List UInt8)) × (((List Int) × Int × Int × Unit) × Unit)) := (Den CC 11 (lbl CC 11 22) ⟨tmOf [(3, .str x0)] 0 51, [.box 56 [.sl (.int .u8) x1, .int .i64 x2, .int .u64 x3] false], 1⟩).bind fun r => prjRB GG [.str] [[.im (.sl (.int .u8)), .im (.int .i64), .im (.int .u64)]] r

noncomputable def s_l02DrawText_L19 (x0 : (List UInt8)) (x1 : Int) (x2 : (List Int)) (x3 : Int) (x4 : Int) : Option (((List UInt8)) × (((List Int) × Int × Int × Unit) × Unit)) := (Den CC 11 (lbl CC 11 19) ⟨tmOf [(0, .ref 0 0), (3, .str x0), (5, .int .i64 x1)] 0 51, [.box 56 [.sl (.int .u8) x2, .int .i64 x3, .int .u64 x4] false], 1⟩).bind fun r => prjRB GG [.str] [[.im (.sl (.int .u8)), .im (.int .i64), .im (.int .u64)]] r

noncomputable def i_areAll_byte_L2__i_isPlain (x0 : (List Int)) (x1 : Int) (x2 : Int) : Option (Bool) := (Den CC 32 (lbl CC 32 2) ⟨tmOf [(1, .fn 33 []), (7, .sl (.int .u8) x0), (8, .int .i64 x1), (9, .int .i64 x2)] 0 18, [], 0⟩).bind fun r => prjR GG [.bool] r.1

noncomputable def i_span_L2__i_ScanTokens_c1 (x0 : (List UInt8)) (x1 : Int) (x2 : Int) : Option (Int) := (Den CC 13 (lbl CC 13 2) ⟨tmOf [(0, .str x0), (1, .int .i64 x1), (2, .fn 14 []), (7, .int .i64 x2)] 0 25, [], 0⟩).bind fun r => prjR GG [(.int .i64)] r.1

noncomputable def i_isLetter (x0 : Int) : Option (Bool) := (Den CC 34 (bodyT CC 34) ⟨tmOf [(0, .int .u8 x0)] 0 17, [], 0⟩).bind fun r => prjR GG [.bool] r.1

noncomputable def i_span__i_isNameByte (x0 : (List UInt8)) (x1 : Int) : Option (Int) := (Den CC 13 (bodyT CC 13) ⟨tmOf [(0, .str x0), (1, .int .i64 x1), (2, .fn 35 [])] 0 25, [], 0⟩).bind fun r => prjR GG [(.int .i64)] r.1

noncomputable def i_isDigit (x0 : Int) : Option (Bool) := (Den CC 36 (bodyT CC 36) ⟨tmOf [(0, .int .u8 x0)] 0 9, [], 0⟩).bind fun r => prjR GG [.bool] r.1

noncomputable def i_span__i_isDigit (x0 : (List UInt8)) (x1 : Int) : Option (Int) := (Den CC 13 (bodyT CC 13) ⟨tmOf [(0, .str x0), (1, .int .i64 x1), (2, .fn 36 [])] 0 25, [], 0⟩).bind fun r => prjR GG [(.int .i64)] r.1

noncomputable def i_span__i_scanToken_c1 (x0 : (List UInt8)) (x1 : Int) (x2 : Int) : Option (Int) := (Den CC 13 (bodyT CC 13) ⟨tmOf [(0, .str x0), (1, .int .i64 x1), (2, .fn 38 [.pc [.int .u8 x2]])] 0 25, [], 0⟩).bind fun r => prjR GG [(.int .i64)] r.1

noncomputable def i_first_L2 (x0 : (List Int)) (x1 : Int) (x2 : Int) : Option (Int) := (Den CC 16 (lbl CC 16 2) ⟨tmOf [(5, .sl (.int .i64) x0), (6, .int .i64 x1), (7, .int .i64 x2)] 0 15, [], 0⟩).bind fun r => prjR GG [(.int .i64)] r.1

noncomputable def s_l01Printable_L5 : Option (Bool) := (Den CC 18 (lbl CC 18 5) ⟨tmOf [] 0 32, [], 0⟩).bind fun r => prjR GG [.bool] r.1

noncomputable def s_l01Printable_L3 (x0 : (List UInt8)) (x1 : Bool) (x2 : Int) : Option (Bool) := (Den CC 18 (lbl CC 18 3) ⟨tmOf [(0, .str x0), (1, .bool x1), (5, .int .i64 x2)] 0 32, [], 0⟩).bind fun r => prjR GG [.bool] r.1

noncomputable def s_l02One (x0 : (List UInt8)) (x1 : Int) : Option (TToken × Int) := (Den CC 40 (bodyT CC 40) ⟨tmOf [(0, .str x0), (1, .int .i64 x1)] 0 145, [], 0⟩).bind fun r => prjR GG [(.st 29), (.int .i64)] r.1

noncomputable def i_areAll_impl_Token_L2__i_ValidToken (x0 : (List TToken)) (x1 : Int) (x2 : Int) : Option (Bool) := (Den CC 20 (lbl CC 20 2) ⟨tmOf [(1, .fn 9 []), (7, .sl (.st 29) x0), (8, .int .i64 x1), (9, .int .i64 x2)] 0 18, [], 0⟩).bind fun r => prjR GG [.bool] r.1

noncomputable def i_PrintTokens_L8 (x0 : (List TToken)) (x1 : (List TToken)) (x2 : Int) (x3 : Int) (x4 : (List Int)) (x5 : Int) (x6 : Int) (x7 : (List UInt8)) (x8 : Bool) (x9 : Bool) : Option ((List UInt8)) := (Den CC 8 (lbl CC 8 8) ⟨tmOf [(0, .sl (.st 29) x0), (3, .ref 0 0), (5, .ref 2 0), (10, .sl (.st 29) x1), (11, .int .i64 x2), (12, .int .i64 x3)] 0 37, [.box 46 [.nilp, .arr 1] false, .arr 5 (.int .u8) x4 false, .box 30 [.int .i64 x5, .int .i64 x6, .str x7, .bool x8, .bool x9] false], 0⟩).bind fun r => prjR GG [.str] r.1

noncomputable def i_PrintTokens_L9 (x0 : (List TToken)) (x1 : (List TToken)) (x2 : Int) (x3 : Int) (x4 : (List Int)) (x5 : Int) (x6 : Int) (x7 : (List UInt8)) (x8 : Bool) (x9 : Bool) : Option ((List UInt8)) := (Den CC 8 (lbl CC 8 9) ⟨tmOf [(0, .sl (.st 29) x0), (3, .ref 0 0), (5, .ref 2 0), (10, .sl (.st 29) x1), (11, .int .i64 x2), (12, .int .i64 x3)] 0 37, [.box 46 [.nilp, .arr 1] false, .arr 5 (.int .u8) x4 false, .box 30 [.int .i64 x5, .int .i64 x6, .str x7, .bool x8, .bool x9] false], 0⟩).bind fun r => prjR GG [.str] r.1

noncomputable def i_IsName (x0 : (List UInt8)) : Option (Bool) := (Den CC 24 (bodyT CC 24) ⟨tmOf [(0, .str x0)] 0 21, [], 0⟩).bind fun r => prjR GG [.bool] r.1

noncomputable def i_isNumber (x0 : Int) : Option (Bool) := (Den CC 25 (bodyT CC 25) ⟨tmOf [(0, .int .i64 x0)] 0 5, [], 0⟩).bind fun r => prjR GG [.bool] r.1

noncomputable def i_CanQuote (x0 : (List UInt8)) : Option (Bool) := (Den CC 26 (bodyT CC 26) ⟨tmOf [(0, .str x0)] 0 19, [], 0⟩).bind fun r => prjR GG [.bool] r.1

noncomputable def i_IsOperator (x0 : (List UInt8)) : Option (Bool) := (Den CC 27 (bodyT CC 27) ⟨tmOf [(0, .str x0)] 0 10, [], 0⟩).bind fun r => prjR GG [.bool] r.1

noncomputable def i_within (x0 : Int) (x1 : Int) (x2 : Int) : Option (Bool) := (Den CC 28 (bodyT CC 28) ⟨tmOf [(0, .int .i64 x0), (1, .int .i64 x1), (2, .int .i64 x2)] 0 15, [], 0⟩).bind fun r => prjR GG [.bool] r.1

noncomputable def i_isPlain (x0 : Int) : Option (Bool) := (Den CC 33 (bodyT CC 33) ⟨tmOf [(0, .int .u8 x0)] 0 9, [], 0⟩).bind fun r => prjR GG [.bool] r.1

noncomputable def i_ScanTokens_c1 (x0 : Int) : Option (Bool) := (Den CC 14 (bodyT CC 14) ⟨tmOf [(0, .int .u8 x0)] 0 5, [], 0⟩).bind fun r => prjR GG [.bool] r.1

noncomputable def i_span_L2__i_isNameByte (x0 : (List UInt8)) (x1 : Int) (x2 : Int) : Option (Int) := (Den CC 13 (lbl CC 13 2) ⟨tmOf [(0, .str x0), (1, .int .i64 x1), (2, .fn 35 []), (7, .int .i64 x2)] 0 25, [], 0⟩).bind fun r => prjR GG [(.int .i64)] r.1

noncomputable def i_span_L2__i_isDigit (x0 : (List UInt8)) (x1 : Int) (x2 : Int) : Option (Int) := (Den CC 13 (lbl CC 13 2) ⟨tmOf [(0, .str x0), (1, .int .i64 x1), (2, .fn 36 []), (7, .int .i64 x2)] 0 25, [], 0⟩).bind fun r => prjR GG [(.int .i64)] r.1

noncomputable def i_span_L2__i_scanToken_c1 (x0 : (List UInt8)) (x1 : Int) (x2 : Int) (x3 : Int) : Option (Int) := (Den CC 13 (lbl CC 13 2) ⟨tmOf [(0, .str x0), (1, .int .i64 x1), (2, .fn 38 [.pc [.int .u8 x2]]), (7, .int .i64 x3)] 0 25, [], 0⟩).bind fun r => prjR GG [(.int .i64)] r.1

noncomputable def s_l02Letter (x0 : Int) : Option (Bool) := (Den CC 48 (bodyT CC 48) ⟨tmOf [(0, .int .u8 x0)] 0 17, [], 0⟩).bind fun r => prjR GG [.bool] r.1

noncomputable def s_l02NameEnd (x0 : (List UInt8)) (x1 : Int) : Option (Int) := (Den CC 49 (bodyT CC 49) ⟨tmOf [(0, .str x0), (1, .int .i64 x1)] 0 42, [], 0⟩).bind fun r => prjR GG [(.int .i64)] r.1

noncomputable def s_l02Digit (x0 : Int) : Option (Bool) := (Den CC 50 (bodyT CC 50) ⟨tmOf [(0, .int .u8 x0)] 0 9, [], 0⟩).bind fun r => prjR GG [.bool] r.1

noncomputable def s_l02One_L10 (x0 : (List UInt8)) (x1 : Int) (x2 : Int) (x3 : Int) (x4 : Int) (x5 : Int) (x6 : (List UInt8)) (x7 : Bool) (x8 : Bool) : Option (TToken × Int) := (Den CC 40 (lbl CC 40 10) ⟨tmOf [(0, .str x0), (1, .int .i64 x1), (4, .ref 0 0), (8, .int .i64 x2), (9, .int .i64 x3)] 0 145, [.box 30 [.int .i64 x4, .int .i64 x5, .str x6, .bool x7, .bool x8] false], 0⟩).bind fun r => prjR GG [(.st 29), (.int .i64)] r.1

noncomputable def s_l02One_L18 (x0 : (List UInt8)) (x1 : Int) (x2 : Int) (x3 : Int) (x4 : Int) (x5 : Int) (x6 : (List UInt8)) (x7 : Bool) (x8 : Bool) : Option (TToken × Int) := (Den CC 40 (lbl CC 40 18) ⟨tmOf [(0, .str x0), (1, .int .i64 x1), (4, .ref 0 0), (6, .int .u8 x2), (10, .int .i64 x3)] 0 145, [.box 30 [.int .i64 x4, .int .i64 x5, .str x6, .bool x7, .bool x8] false], 0⟩).bind fun r => prjR GG [(.st 29), (.int .i64)] r.1

noncomputable def s_l02Operator (x0 : Int) : Option (Bool) := (Den CC 51 (bodyT CC 51) ⟨tmOf [(0, .int .u8 x0)] 0 14, [], 0⟩).bind fun r => prjR GG [.bool] r.1

noncomputable def s_l02One_L27 (x0 : Int) (x1 : Int) (x2 : (List UInt8)) (x3 : Int) (x4 : Int) (x5 : Int) (x6 : (List UInt8)) (x7 : Bool) (x8 : Bool) : Option (TToken × Int) := (Den CC 40 (lbl CC 40 27) ⟨tmOf [(1, .int .i64 x0), (4, .ref 0 0), (6, .int .u8 x1), (11, .str x2), (12, .int .i64 x3)] 0 145, [.box 30 [.int .i64 x4, .int .i64 x5, .str x6, .bool x7, .bool x8] false], 0⟩).bind fun r => prjR GG [(.st 29), (.int .i64)] r.1

noncomputable def i_PrintTokens_L9_v1 (x0 : (List TToken)) (x1 : (List TToken)) (x2 : Int) (x3 : Int) (x4 : (List Int)) (x5 : Int) (x6 : Int) (x7 : (List UInt8)) (x8 : Bool) (x9 : Bool) : Option ((List UInt8)) := (Den CC 8 (lbl CC 8 9) ⟨tmOf [(0, .sl (.st 29) x0), (3, .ref 0 0), (5, .ref 2 0), (10, .sl (.st 29) x1), (11, .int .i64 x2), (12, .int .i64 x3)] 0 37, [.box 46 [.ref 0 0, .arr 1] false, .arr 5 (.int .u8) x4 false, .box 30 [.int .i64 x5, .int .i64 x6, .str x7, .bool x8, .bool x9] false], 0⟩).bind fun r => prjR GG [.str] r.1

noncomputable def i_Token_text (x0 : TToken) : Option ((List UInt8)) := (Den CC 22 (bodyT CC 22) ⟨tmOf [(0, .st 29 x0)] 0 28, [], 0⟩).bind fun r => prjR GG [.str] r.1

noncomputable def i_PrintTokens_L5_v1 (x0 : (List TToken)) (x1 : (List TToken)) (x2 : Int) (x3 : Int) (x4 : (List Int)) : Option ((List UInt8)) := (Den CC 8 (lbl CC 8 5) ⟨tmOf [(0, .sl (.st 29) x0), (3, .ref 0 0), (10, .sl (.st 29) x1), (11, .int .i64 x2), (12, .int .i64 x3)] 0 37, [.box 46 [.ref 0 0, .arr 1] false, .arr 5 (.int .u8) x4 false], 0⟩).bind fun r => prjR GG [.str] r.1

noncomputable def i_areAll_byte__i_isNameByte (x0 : (List Int)) : Option (Bool) := (Den CC 32 (bodyT CC 32) ⟨tmOf [(0, .sl (.int .u8) x0), (1, .fn 35 [])] 0 18, [], 0⟩).bind fun r => prjR GG [.bool] r.1

noncomputable def i_isNameByte (x0 : Int) : Option (Bool) := (Den CC 35 (bodyT CC 35) ⟨tmOf [(0, .int .u8 x0)] 0 13, [], 0⟩).bind fun r => prjR GG [.bool] r.1

noncomputable def i_scanToken_c1 (x0 : Int) (x1 : Int) : Option (Bool) := (Den CC 38 (bodyT CC 38) ⟨tmOf [(0, .int .u8 x0), (1, .pc [.int .u8 x1])] 0 7, [], 0⟩).bind fun r => prjR GG [.bool] r.1

noncomputable def s_l02NameEnd_L3 (x0 : (List UInt8)) (x1 : Int) : Option (Int) := (Den CC 49 (lbl CC 49 3) ⟨tmOf [(0, .str x0), (1, .int .i64 x1)] 0 42, [], 0⟩).bind fun r => prjR GG [(.int .i64)] r.1

noncomputable def s_l02One_L11 (x0 : (List UInt8)) (x1 : Int) (x2 : Int) (x3 : Int) (x4 : Int) (x5 : Int) (x6 : (List UInt8)) (x7 : Bool) (x8 : Bool) : Option (TToken × Int) := (Den CC 40 (lbl CC 40 11) ⟨tmOf [(0, .str x0), (1, .int .i64 x1), (4, .ref 0 0), (8, .int .i64 x2), (9, .int .i64 x3)] 0 145, [.box 30 [.int .i64 x4, .int .i64 x5, .str x6, .bool x7, .bool x8] false], 0⟩).bind fun r => prjR GG [(.st 29), (.int .i64)] r.1

noncomputable def s_l02One_L13 (x0 : Int) (x1 : Int) (x2 : Int) (x3 : Int) (x4 : Int) (x5 : (List UInt8)) (x6 : Bool) (x7 : Bool) : Option (TToken × Int) := (Den CC 40 (lbl CC 40 13) ⟨tmOf [(1, .int .i64 x0), (4, .ref 0 0), (8, .int .i64 x1), (9, .int .i64 x2)] 0 145, [.box 30 [.int .i64 x3, .int .i64 x4, .str x5, .bool x6, .bool x7] false], 0⟩).bind fun r => prjR GG [(.st 29), (.int .i64)] r.1

noncomputable def s_l02One_L21 (x0 : Int) (x1 : Int) (x2 : (List UInt8)) (x3 : Bool) (x4 : Bool) : Option (TToken × Int) := (Den CC 40 (lbl CC 40 21) ⟨tmOf [(4, .ref 0 0)] 0 145, [.box 30 [.int .i64 x0, .int .i64 x1, .str x2, .bool x3, .bool x4] false], 0⟩).bind fun r => prjR GG [(.st 29), (.int .i64)] r.1

noncomputable def s_l02One_L22 (x0 : (List UInt8)) (x1 : Int) (x2 : Int) (x3 : Int) (x4 : Int) (x5 : (List UInt8)) (x6 : Bool) (x7 : Bool) : Option (TToken × Int) := (Den CC 40 (lbl CC 40 22) ⟨tmOf [(0, .str x0), (1, .int .i64 x1), (4, .ref 0 0), (10, .int .i64 x2)] 0 145, [.box 30 [.int .i64 x3, .int .i64 x4, .str x5, .bool x6, .bool x7] false], 0⟩).bind fun r => prjR GG [(.st 29), (.int .i64)] r.1

noncomputable def s_l02Operator_L11 : Option (Bool) := (Den CC 51 (lbl CC 51 11) ⟨tmOf [] 0 14, [], 0⟩).bind fun r => prjR GG [.bool] r.1

noncomputable def s_l02Operator_L12 : Option (Bool) := (Den CC 51 (lbl CC 51 12) ⟨tmOf [] 0 14, [], 0⟩).bind fun r => prjR GG [.bool] r.1

noncomputable def i_decimal (x0 : Int) : Option ((List UInt8)) := (Den CC 42 (bodyT CC 42) ⟨tmOf [(0, .int .i64 x0)] 0 5, [], 0⟩).bind fun r => prjR GG [.str] r.1

noncomputable def i_QuoteString (x0 : (List UInt8)) : Option ((List UInt8)) := (Den CC 43 (bodyT CC 43) ⟨tmOf [(0, .str x0)] 0 16, [], 0⟩).bind fun r => prjR GG [.str] r.1

noncomputable def i_PrintTokens_L8_v1 (x0 : (List TToken)) (x1 : (List TToken)) (x2 : Int) (x3 : Int) (x4 : (List Int)) (x5 : Int) (x6 : Int) (x7 : (List UInt8)) (x8 : Bool) (x9 : Bool) : Option ((List UInt8)) := (Den CC 8 (lbl CC 8 8) ⟨tmOf [(0, .sl (.st 29) x0), (3, .ref 0 0), (5, .ref 2 0), (10, .sl (.st 29) x1), (11, .int .i64 x2), (12, .int .i64 x3)] 0 37, [.box 46 [.ref 0 0, .arr 1] false, .arr 5 (.int .u8) x4 false, .box 30 [.int .i64 x5, .int .i64 x6, .str x7, .bool x8, .bool x9] false], 0⟩).bind fun r => prjR GG [.str] r.1

noncomputable def i_areAll_byte_L2__i_isNameByte (x0 : (List Int)) (x1 : Int) (x2 : Int) : Option (Bool) := (Den CC 32 (lbl CC 32 2) ⟨tmOf [(1, .fn 35 []), (7, .sl (.int .u8) x0), (8, .int .i64 x1), (9, .int .i64 x2)] 0 18, [], 0⟩).bind fun r => prjR GG [.bool] r.1

noncomputable def s_l02NameEnd_L4 (x0 : (List UInt8)) (x1 : Int) : Option (Int) := (Den CC 49 (lbl CC 49 4) ⟨tmOf [(0, .str x0), (1, .int .i64 x1)] 0 42, [], 0⟩).bind fun r => prjR GG [(.int .i64)] r.1

noncomputable def s_l02NameEnd_L5 (x0 : Int) : Option (Int) := (Den CC 49 (lbl CC 49 5) ⟨tmOf [(1, .int .i64 x0)] 0 42, [], 0⟩).bind fun r => prjR GG [(.int .i64)] r.1

theorem l_FnTokens_eq (x0 : (List Int)) : l_FnTokens x0 = (l_c2Long x0).bind fun r200 => if r200 = true then some (true) else (s_DrawScanTokens x0).bind fun r198 => (i_ScanTokens r198).bind fun r197 => (s_ScanTokens r198).bind fun r196 => if (Prod.snd (Prod.snd r197) != 0) = true then l_FnTokens_L7 (Prod.fst r197) (Prod.snd (Prod.snd r197)) (Prod.fst r196) (Prod.snd (Prod.snd r196)) else if (Prod.snd (Prod.snd r197) != Prod.snd (Prod.snd r196)) = true then l_FnTokens_L7 (Prod.fst r197) (Prod.snd (Prod.snd r197)) (Prod.fst r196) (Prod.snd (Prod.snd r196)) else if (len (Prod.fst r197) != len (Prod.fst r196)) = true then l_FnTokens_L7 (Prod.fst r197) (Prod.snd (Prod.snd r197)) (Prod.fst r196) (Prod.snd (Prod.snd r196)) else l_FnTokens_L8 (Prod.fst r197) :=
  (den_run CC 3 (bodyT CC 3) ⟨tmOf [(0, .sl (.int .u8) x0)] 0 93, [], 0⟩ fun r => prjR GG [.bool] r.1).trans (by kernel_rfl)

theorem l_c2Long_eq (x0 : (List Int)) : l_c2Long x0 = some (decide (len x0 > 1048576)) :=
  (den_run CC 4 (bodyT CC 4) ⟨tmOf [(0, .sl (.int .u8) x0)] 0 6, [], 0⟩ fun r => prjR GG [.bool] r.1).trans (by kernel_rfl)

theorem s_DrawScanTokens_eq (x0 : (List Int)) : s_DrawScanTokens x0 = (s_l02DrawText x0 0 0).bind fun r200 => some (Prod.fst r200) :=
  (den_run CC 5 (bodyT CC 5) ⟨tmOf [(0, .sl (.int .u8) x0)] 0 8, [], 0⟩ fun r => prjR GG [.str] r.1).trans (by kernel_rfl)

theorem i_ScanTokens_eq (x0 : (List UInt8)) : i_ScanTokens x0 = if (decide (len x0 > 4000)) = true then some (([]), 0, 1) else (i_isPlainText x0).bind fun r199 => if (!r199) = true then some (([]), 0, 1) else i_ScanTokens_L5 x0 0 ([]) :=
  (den_run CC 6 (bodyT CC 6) ⟨tmOf [(0, .str x0)] 0 81, [], 0⟩ fun r => prjR GG [(.sl (.st 29)), (.int .i64), (.int .i64)] r.1).trans (by kernel_rfl)

theorem s_ScanTokens_eq (x0 : (List UInt8)) : s_ScanTokens x0 = if (decide (len x0 > 4000)) = true then some (([]), 0, 1) else (s_l01Printable x0 (false)).bind fun r199 => if (!r199) = true then some (([]), 0, 1) else (s_l02Scan x0).bind fun r197 => some ((Prod.fst r197), (Prod.fst (Prod.snd r197)), (Prod.snd (Prod.snd r197))) :=
  (den_run CC 7 (bodyT CC 7) ⟨tmOf [(0, .str x0)] 0 19, [], 0⟩ fun r => prjR GG [(.sl (.st 29)), (.int .i64), (.int .i64)] r.1).trans (by kernel_rfl)

theorem l_FnTokens_L7_eq (x0 : (List TToken)) (x1 : Int) (x2 : (List TToken)) (x3 : Int) : l_FnTokens_L7 x0 x1 x2 x3 = if (x1 == x3) = true then some (len x0 == len x2) else some (false) :=
  (den_run CC 3 (lbl CC 3 7) ⟨tmOf [(4, .sl (.st 29) x0), (6, .int .i64 x1), (7, .sl (.st 29) x2), (9, .int .i64 x3)] 0 93, [], 0⟩ fun r => prjR GG [.bool] r.1).trans (by kernel_rfl)

theorem l_FnTokens_L8_eq (x0 : (List TToken)) : l_FnTokens_L8 x0 = (i_PrintTokens x0).bind fun r200 => (i_ScanTokens r200).bind fun r199 => if (Prod.snd (Prod.snd r199) != 0) = true then some (false) else if (len (Prod.fst r199) != len x0) = true then some (false) else l_FnTokens_L12 x0 (Prod.fst r199) 0 :=
  (den_run CC 3 (lbl CC 3 8) ⟨tmOf [(4, .sl (.st 29) x0)] 0 93, [], 0⟩ fun r => prjR GG [.bool] r.1).trans (by kernel_rfl)

theorem s_l02DrawText_eq (x0 : (List Int)) (x1 : Int) (x2 : Int) : s_l02DrawText x0 x1 x2 = (s_l00Src_pick 9 x0 x1 x2).bind fun r200 => s_l02DrawText_L3 [] (Prod.fst r200) (Prod.fst (Prod.fst (Prod.snd r200))) (Prod.fst (Prod.snd (Prod.fst (Prod.snd r200)))) (Prod.fst (Prod.snd (Prod.snd (Prod.fst (Prod.snd r200))))) :=
  (den_run CC 11 (bodyT CC 11) ⟨tmOf [(0, .ref 0 0)] 0 51, [.box 56 [.sl (.int .u8) x0, .int .i64 x1, .int .u64 x2] false], 1⟩ fun r => prjRB GG [.str] [[.im (.sl (.int .u8)), .im (.int .i64), .im (.int .u64)]] r).trans (by kernel_rfl)

theorem i_isPlainText_eq (x0 : (List UInt8)) : i_isPlainText x0 = (i_areAll_byte__i_isPlain (List.map (fun (b : UInt8) ↦ ib b) x0)).bind fun r200 => some r200 :=
  (den_run CC 12 (bodyT CC 12) ⟨tmOf [(0, .str x0)] 0 6, [], 0⟩ fun r => prjR GG [.bool] r.1).trans (by kernel_rfl)

theorem i_ScanTokens_L5_eq (x0 : (List UInt8)) (x1 : Int) (x2 : (List TToken)) : i_ScanTokens_L5 x0 x1 x2 = if (decide (x1 < len x0)) = true then (i_span__i_ScanTokens_c1 x0 x1).bind fun r199 => if (w64 (x1 + r199) == len x0) = true then some ((x2), 0, 0) else (i_scanToken x0 (w64 (x1 + r199))).bind fun r197 => (i_unless (Prod.snd (Prod.snd r197)) 2).bind fun r196 => (i_unless (decide (len x2 < 120)) 6).bind fun r195 => (i_first ([r196, r195])).bind fun r194 => if (r194 != 0) = true then some (([]), (w64 (x1 + r199)), r194) else if (decide (r199 > 0)) = true then if (w64 (w64 (x1 + r199) + Prod.fst (Prod.snd r197)) == len x0) = true then i_ScanTokens_L16 x0 (w64 (w64 (x1 + r199) + Prod.fst (Prod.snd r197))) x2 (TToken.fKind (Prod.fst r197)) (TToken.fNum (Prod.fst r197)) (TToken.fText (Prod.fst r197)) (true) (true) else ((idx x0 (w64 (w64 (x1 + r199) + Prod.fst (Prod.snd r197)))) : Option UInt8).bind fun y190 => i_ScanTokens_L16 x0 (w64 (w64 (x1 + r199) + Prod.fst (Prod.snd r197))) x2 (TToken.fKind (Prod.fst r197)) (TToken.fNum (Prod.fst r197)) (TToken.fText (Prod.fst r197)) (true) (ib y190 == 32) else if (w64 (w64 (x1 + r199) + Prod.fst (Prod.snd r197)) == len x0) = true then i_ScanTokens_L16 x0 (w64 (w64 (x1 + r199) + Prod.fst (Prod.snd r197))) x2 (TToken.fKind (Prod.fst r197)) (TToken.fNum (Prod.fst r197)) (TToken.fText (Prod.fst r197)) (len x2 == 0) (true) else ((idx x0 (w64 (w64 (x1 + r199) + Prod.fst (Prod.snd r197)))) : Option UInt8).bind fun y190 => i_ScanTokens_L16 x0 (w64 (w64 (x1 + r199) + Prod.fst (Prod.snd r197))) x2 (TToken.fKind (Prod.fst r197)) (TToken.fNum (Prod.fst r197)) (TToken.fText (Prod.fst r197)) (len x2 == 0) (ib y190 == 32) else some ((x2), 0, 0) :=
  (den_run CC 6 (lbl CC 6 5) ⟨tmOf [(0, .str x0), (5, .arr 0), (6, .int .i64 x1)] 0 81, [.arr 30 (.st 29) x2 false], 0⟩ fun r => prjR GG [(.sl (.st 29)), (.int .i64), (.int .i64)] r.1).trans (by kernel_rfl)

theorem s_l01Printable_eq (x0 : (List UInt8)) (x1 : Bool) : s_l01Printable x0 x1 = s_l01Printable_L2 x0 x1 0 :=
  (den_run CC 18 (bodyT CC 18) ⟨tmOf [(0, .str x0), (1, .bool x1)] 0 32, [], 0⟩ fun r => prjR GG [.bool] r.1).trans (by kernel_rfl)

theorem s_l02Scan_eq (x0 : (List UInt8)) : s_l02Scan x0 = s_l02Scan_L4 x0 0 (true) ([]) :=
  (den_run CC 19 (bodyT CC 19) ⟨tmOf [(0, .str x0)] 0 64, [], 0⟩ fun r => prjR GG [(.sl (.st 29)), (.int .i64), (.int .i64)] r.1).trans (by kernel_rfl)

theorem i_PrintTokens_eq (x0 : (List TToken)) : i_PrintTokens x0 = (i_areAll_impl_Token__i_ValidToken x0).bind fun r200 => if (!r200) = true then some [] else i_PrintTokens_L5 x0 x0 (len x0) 0 ([]) :=
  (den_run CC 8 (bodyT CC 8) ⟨tmOf [(0, .sl (.st 29) x0)] 0 37, [], 0⟩ fun r => prjR GG [.str] r.1).trans (by kernel_rfl)

theorem l_FnTokens_L12_eq (x0 : (List TToken)) (x1 : (List TToken)) (x2 : Int) : l_FnTokens_L12 x0 x1 x2 = if (decide (x2 < len x0)) = true then ((idx x1 x2) : Option TToken).bind fun y199 => ((idx x0 x2) : Option TToken).bind fun y198 => if (!(y199.fKind == y198.fKind && (y199.fNum == y198.fNum && (y199.fText == y198.fText && (y199.fBefore == y198.fBefore && (y199.fAfter == y198.fAfter && true)))))) = true then some (false) else ((idx x0 x2) : Option TToken).bind fun y196 => (i_ValidToken y196).bind fun r195 => if (!r195) = true then some (false) else l_FnTokens_L12 x0 x1 (w64 (x2 + 1)) else some (true) :=
  (den_run CC 3 (lbl CC 3 12) ⟨tmOf [(4, .sl (.st 29) x0), (10, .sl (.st 29) x1), (13, .int .i64 x2)] 0 93, [], 0⟩ fun r => prjR GG [.bool] r.1).trans (by kernel_rfl)

theorem s_l00Src_pick_eq (x0 : Int) (x1 : (List Int)) (x2 : Int) (x3 : Int) : s_l00Src_pick x0 x1 x2 x3 = if (decide (x0 ≤ 1)) = true then some ((0), (((x1), (x2), (x3), ()), ())) else (s_l00Src_next x1 x2 x3).bind fun r199 => if (decide (x0 > 200)) = true then (s_l00Src_next (Prod.fst (Prod.fst (Prod.snd r199))) (Prod.fst (Prod.snd (Prod.fst (Prod.snd r199)))) (Prod.fst (Prod.snd (Prod.snd (Prod.fst (Prod.snd r199)))))).bind fun r197 => ((rem (w64 (w64 (Prod.fst r199 * 256) + Prod.fst r197)) x0) : Option Int).bind fun y196 => some ((y196), (((Prod.fst (Prod.fst (Prod.snd r197))), (Prod.fst (Prod.snd (Prod.fst (Prod.snd r197)))), (Prod.fst (Prod.snd (Prod.snd (Prod.fst (Prod.snd r197))))), ()), ())) else ((rem (Prod.fst r199) x0) : Option Int).bind fun y197 => some ((y197), (((Prod.fst (Prod.fst (Prod.snd r199))), (Prod.fst (Prod.snd (Prod.fst (Prod.snd r199)))), (Prod.fst (Prod.snd (Prod.snd (Prod.fst (Prod.snd r199))))), ()), ())) :=
  (den_run CC 29 (bodyT CC 29) ⟨tmOf [(0, .ref 0 0), (1, .int .i64 x0)] 0 20, [.box 56 [.sl (.int .u8) x1, .int .i64 x2, .int .u64 x3] false], 1⟩ fun r => prjRB GG [(.int .i64)] [[.im (.sl (.int .u8)), .im (.int .i64), .im (.int .u64)]] r).trans (by kernel_rfl)

theorem s_l02DrawText_L3_eq (x0 : (List UInt8)) (x1 : Int) (x2 : (List Int)) (x3 : Int) (x4 : Int) : s_l02DrawText_L3 x0 x1 x2 x3 x4 = if (decide (x1 > 0)) = true then (s_l00Src_text ([[65], [120, 49], [49, 50], [48, 48, 55], [39, 97, 32, 98, 39], [34, 105, 116, 39, 115, 34], [43], [45], [42], [124], [46], [36], [61], [40], [41], [60], [62], [44], [58], [32], [32, 32], [83], [57, 57, 57, 57, 57, 57, 57, 57, 57, 57, 57, 57, 57], [49, 48, 48, 48, 48, 48, 48, 48, 48, 48, 48, 48, 48, 48]]) x2 x3 x4).bind fun r199 => ((app x0 (Prod.fst r199)) : Option (List UInt8)).bind fun y198 => (s_l00Src_one 2 (Prod.fst (Prod.fst (Prod.snd r199))) (Prod.fst (Prod.snd (Prod.fst (Prod.snd r199)))) (Prod.fst (Prod.snd (Prod.snd (Prod.fst (Prod.snd r199)))))).bind fun r197 => if (Prod.fst r197) = true then ((app y198 ([32])) : Option (List UInt8)).bind fun y195 => s_l02DrawText_L3 y195 (w64 (x1 - 1)) (Prod.fst (Prod.fst (Prod.snd r197))) (Prod.fst (Prod.snd (Prod.fst (Prod.snd r197)))) (Prod.fst (Prod.snd (Prod.snd (Prod.fst (Prod.snd r197))))) else s_l02DrawText_L3 y198 (w64 (x1 - 1)) (Prod.fst (Prod.fst (Prod.snd r197))) (Prod.fst (Prod.snd (Prod.fst (Prod.snd r197)))) (Prod.fst (Prod.snd (Prod.snd (Prod.fst (Prod.snd r197))))) else (s_l00Src_pick 14 x2 x3 x4).bind fun r199 => if (Prod.fst r199 == 0) = true then ((app x0 ([35])) : Option (List UInt8)).bind fun y197 => s_l02DrawText_L22 y197 (Prod.fst (Prod.fst (Prod.snd r199))) (Prod.fst (Prod.snd (Prod.fst (Prod.snd r199)))) (Prod.fst (Prod.snd (Prod.snd (Prod.fst (Prod.snd r199))))) else if (Prod.fst r199 == 1) = true then ((app x0 ([39, 111, 112, 101, 110])) : Option (List UInt8)).bind fun y196 => s_l02DrawText_L22 y196 (Prod.fst (Prod.fst (Prod.snd r199))) (Prod.fst (Prod.snd (Prod.fst (Prod.snd r199)))) (Prod.fst (Prod.snd (Prod.snd (Prod.fst (Prod.snd r199))))) else if (Prod.fst r199 == 2) = true then ((app x0 ([78, 97, 109, 101, 79, 102, 84, 104, 105, 114, 116, 101, 101, 110])) : Option (List UInt8)).bind fun y195 => s_l02DrawText_L22 y195 (Prod.fst (Prod.fst (Prod.snd r199))) (Prod.fst (Prod.snd (Prod.fst (Prod.snd r199)))) (Prod.fst (Prod.snd (Prod.snd (Prod.fst (Prod.snd r199))))) else if (Prod.fst r199 == 3) = true then ((app x0 ([10])) : Option (List UInt8)).bind fun y194 => s_l02DrawText_L22 y194 (Prod.fst (Prod.fst (Prod.snd r199))) (Prod.fst (Prod.snd (Prod.fst (Prod.snd r199)))) (Prod.fst (Prod.snd (Prod.snd (Prod.fst (Prod.snd r199))))) else if (Prod.fst r199 == 4) = true then s_l02DrawText_L19 x0 0 (Prod.fst (Prod.fst (Prod.snd r199))) (Prod.fst (Prod.snd (Prod.fst (Prod.snd r199)))) (Prod.fst (Prod.snd (Prod.snd (Prod.fst (Prod.snd r199))))) else s_l02DrawText_L22 x0 (Prod.fst (Prod.fst (Prod.snd r199))) (Prod.fst (Prod.snd (Prod.fst (Prod.snd r199)))) (Prod.fst (Prod.snd (Prod.snd (Prod.fst (Prod.snd r199))))) :=
  (den_run CC 11 (lbl CC 11 3) ⟨tmOf [(0, .ref 0 0), (3, .str x0), (4, .int .i64 x1)] 0 51, [.box 56 [.sl (.int .u8) x2, .int .i64 x3, .int .u64 x4] false], 1⟩ fun r => prjRB GG [.str] [[.im (.sl (.int .u8)), .im (.int .i64), .im (.int .u64)]] r).trans (by kernel_rfl)

theorem i_areAll_byte__i_isPlain_eq (x0 : (List Int)) : i_areAll_byte__i_isPlain x0 = i_areAll_byte_L2__i_isPlain x0 (len x0) 0 :=
  (den_run CC 32 (bodyT CC 32) ⟨tmOf [(0, .sl (.int .u8) x0), (1, .fn 33 [])] 0 18, [], 0⟩ fun r => prjR GG [.bool] r.1).trans (by kernel_rfl)

theorem i_span__i_ScanTokens_c1_eq (x0 : (List UInt8)) (x1 : Int) : i_span__i_ScanTokens_c1 x0 x1 = i_span_L2__i_ScanTokens_c1 x0 x1 x1 :=
  (den_run CC 13 (bodyT CC 13) ⟨tmOf [(0, .str x0), (1, .int .i64 x1), (2, .fn 14 [])] 0 25, [], 0⟩ fun r => prjR GG [(.int .i64)] r.1).trans (by kernel_rfl)

theorem i_scanToken_eq (x0 : (List UInt8)) (x1 : Int) : i_scanToken x0 x1 = ((idx x0 x1) : Option UInt8).bind fun y200 => (i_isLetter (ib y200)).bind fun r199 => if r199 = true then (i_span__i_isNameByte x0 x1).bind fun r197 => ((cut x0 x1 (Option.getD (Option.some (w64 (x1 + r197))) (len x0))) : Option (List UInt8)).bind fun y196 => some ((TToken.mk (Int.ofNat 1) (Int.ofNat 0) y196 false false), (r197), (decide (r197 ≤ 12))) else (i_isDigit (ib y200)).bind fun r197 => if r197 = true then (i_span__i_isDigit x0 x1).bind fun r195 => ((cut x0 x1 (Option.getD (Option.some (w64 (x1 + r195))) (len x0))) : Option (List UInt8)).bind fun y194 => ((readIntS y194) : Option (Int × Bool)).bind fun y193 => some ((TToken.mk (Int.ofNat 2) (Prod.fst y193) [] false false), (r195), (Prod.snd y193)) else if (ib y200 == 39) = true then (i_span__i_scanToken_c1 x0 (w64 (x1 + 1)) (ib y200)).bind fun r194 => ((cut x0 (w64 (x1 + 1)) (Option.getD (Option.some (w64 (w64 (x1 + 1) + r194))) (len x0))) : Option (List UInt8)).bind fun y193 => if (decide (w64 (w64 (x1 + 1) + r194) < len x0)) = true then some ((TToken.mk (Int.ofNat 3) (Int.ofNat 0) y193 false false), (w64 (r194 + 2)), (decide (r194 ≤ 200))) else some ((TToken.mk (Int.ofNat 3) (Int.ofNat 0) y193 false false), (w64 (r194 + 2)), (false)) else if (ib y200 == 34) = true then (i_span__i_scanToken_c1 x0 (w64 (x1 + 1)) (ib y200)).bind fun r193 => ((cut x0 (w64 (x1 + 1)) (Option.getD (Option.some (w64 (w64 (x1 + 1) + r193))) (len x0))) : Option (List UInt8)).bind fun y192 => if (decide (w64 (w64 (x1 + 1) + r193) < len x0)) = true then some ((TToken.mk (Int.ofNat 3) (Int.ofNat 0) y192 false false), (w64 (r193 + 2)), (decide (r193 ≤ 200))) else some ((TToken.mk (Int.ofNat 3) (Int.ofNat 0) y192 false false), (w64 (r193 + 2)), (false)) else ((indexByteS ([43, 45, 42, 47, 124, 46, 36, 64, 61]) (ib y200)) : Option Int).bind fun y193 => if (decide (y193 ≥ 0)) = true then ((chr (ib y200)) : Option (List UInt8)).bind fun y191 => some ((TToken.mk (Int.ofNat 4) (Int.ofNat 0) y191 false false), 1, (true)) else ((indexByteS ([40, 41, 60, 62, 44, 58]) (ib y200)) : Option Int).bind fun y191 => some ((TToken.mk (w64 (5 + y191)) (Int.ofNat 0) [] false false), 1, (decide (y191 ≥ 0))) :=
  (den_run CC 15 (bodyT CC 15) ⟨tmOf [(0, .str x0), (1, .int .i64 x1)] 0 101, [], 0⟩ fun r => prjR GG [(.st 29), (.int .i64), .bool] r.1).trans (by kernel_rfl)

theorem i_unless_eq (x0 : Bool) (x1 : Int) : i_unless x0 x1 = if x0 = true then some 0 else some x1 :=
  (den_run CC 17 (bodyT CC 17) ⟨tmOf [(0, .bool x0), (1, .int .i64 x1)] 0 7, [], 0⟩ fun r => prjR GG [(.int .i64)] r.1).trans (by kernel_rfl)

theorem i_first_eq (x0 : (List Int)) : i_first x0 = i_first_L2 x0 (len x0) 0 :=
  (den_run CC 16 (bodyT CC 16) ⟨tmOf [(0, .sl (.int .i64) x0)] 0 15, [], 0⟩ fun r => prjR GG [(.int .i64)] r.1).trans (by kernel_rfl)

theorem i_ScanTokens_L16_eq (x0 : (List UInt8)) (x1 : Int) (x2 : (List TToken)) (x3 : Int) (x4 : Int) (x5 : (List UInt8)) (x6 : Bool) (x7 : Bool) : i_ScanTokens_L16 x0 x1 x2 x3 x4 x5 x6 x7 = ((app x2 [TToken.mk x3 x4 x5 x6 x7]) : Option (List TToken)).bind fun y200 => i_ScanTokens_L5 x0 x1 y200 :=
  (den_run CC 6 (lbl CC 6 16) ⟨tmOf [(0, .str x0), (5, .arr 0), (6, .int .i64 x1), (8, .ref 1 0)] 0 81, [.arr 30 (.st 29) x2 false, .box 30 [.int .i64 x3, .int .i64 x4, .str x5, .bool x6, .bool x7] false], 0⟩ fun r => prjR GG [(.sl (.st 29)), (.int .i64), (.int .i64)] r.1).trans (by kernel_rfl)

theorem s_l01Printable_L2_eq (x0 : (List UInt8)) (x1 : Bool) (x2 : Int) : s_l01Printable_L2 x0 x1 x2 = if (decide (x2 < len x0)) = true then ((idx x0 x2) : Option UInt8).bind fun y199 => if (decide (ib y199 < 32)) = true then if x1 = true then ((idx x0 x2) : Option UInt8).bind fun y196 => if (!ib y196 == 10) = true then s_l01Printable_L5 else s_l01Printable_L3 x0 x1 x2 else s_l01Printable_L5 else ((idx x0 x2) : Option UInt8).bind fun y197 => if (decide (ib y197 > 126)) = true then if x1 = true then ((idx x0 x2) : Option UInt8).bind fun y194 => if (!ib y194 == 10) = true then s_l01Printable_L5 else s_l01Printable_L3 x0 x1 x2 else s_l01Printable_L5 else s_l01Printable_L3 x0 x1 x2 else some (true) :=
  (den_run CC 18 (lbl CC 18 2) ⟨tmOf [(0, .str x0), (1, .bool x1), (5, .int .i64 x2)] 0 32, [], 0⟩ fun r => prjR GG [.bool] r.1).trans (by kernel_rfl)

theorem s_l02Scan_L4_eq (x0 : (List UInt8)) (x1 : Int) (x2 : Bool) (x3 : (List TToken)) : s_l02Scan_L4 x0 x1 x2 x3 = if (decide (x1 < len x0)) = true then ((idx x0 x1) : Option UInt8).bind fun y199 => if (ib y199 == 32) = true then s_l02Scan_L4 x0 (w64 (x1 + 1)) (true) x3 else (s_l02One x0 x1).bind fun r197 => if (decide (Prod.snd r197 < 0)) = true then some (([]), (x1), 2) else if (len x3 == 120) = true then some (([]), (x1), 6) else if (Prod.snd r197 == len x0) = true then ((app x3 [TToken.mk (TToken.fKind (Prod.fst r197)) (TToken.fNum (Prod.fst r197)) (TToken.fText (Prod.fst r197)) x2 true]) : Option (List TToken)).bind fun y193 => s_l02Scan_L4 x0 (Prod.snd r197) (false) y193 else ((idx x0 (Prod.snd r197)) : Option UInt8).bind fun y193 => ((app x3 [TToken.mk (TToken.fKind (Prod.fst r197)) (TToken.fNum (Prod.fst r197)) (TToken.fText (Prod.fst r197)) x2 (Decidable.rec (fun (h : ¬ib y193 = 32) ↦ false) (fun (h : ib y193 = 32) ↦ true) (Int.instDecidableEq (ib y193) 32))]) : Option (List TToken)).bind fun y192 => s_l02Scan_L4 x0 (Prod.snd r197) (false) y192 else if (decide (len x3 > 0)) = true then ((idx x3 (w64 (len x3 - 1))) : Option TToken).bind fun y198 => ((x3[Int.toNat (w64 (len x3 - 1))]?) : Option TToken).bind fun y197 => some ((upd x3 (Int.toNat (w64 (len x3 - 1))) (TToken.mk y197.fKind y197.fNum y197.fText y197.fBefore true)), 0, 0) else some ((x3), 0, 0) :=
  (den_run CC 19 (lbl CC 19 4) ⟨tmOf [(0, .str x0), (5, .arr 0), (6, .int .i64 x1), (7, .bool x2)] 0 64, [.arr 30 (.st 29) x3 false], 0⟩ fun r => prjR GG [(.sl (.st 29)), (.int .i64), (.int .i64)] r.1).trans (by kernel_rfl)

theorem i_areAll_impl_Token__i_ValidToken_eq (x0 : (List TToken)) : i_areAll_impl_Token__i_ValidToken x0 = i_areAll_impl_Token_L2__i_ValidToken x0 (len x0) 0 :=
  (den_run CC 20 (bodyT CC 20) ⟨tmOf [(0, .sl (.st 29) x0), (1, .fn 9 [])] 0 18, [], 0⟩ fun r => prjR GG [.bool] r.1).trans (by kernel_rfl)

theorem i_PrintTokens_L5_eq (x0 : (List TToken)) (x1 : (List TToken)) (x2 : Int) (x3 : Int) (x4 : (List Int)) : i_PrintTokens_L5 x0 x1 x2 x3 x4 = if (decide (x3 < x2)) = true then ((idx x1 x3) : Option TToken).bind fun y199 => if (decide (x3 > 0)) = true then if y199.fBefore = true then i_PrintTokens_L8 x0 x1 x2 x3 x4 y199.fKind y199.fNum y199.fText y199.fBefore y199.fAfter else ((idx x0 (w64 (x3 - 1))) : Option TToken).bind fun y196 => if y196.fAfter = true then i_PrintTokens_L8 x0 x1 x2 x3 x4 y199.fKind y199.fNum y199.fText y199.fBefore y199.fAfter else i_PrintTokens_L9 x0 x1 x2 x3 x4 y199.fKind y199.fNum y199.fText y199.fBefore y199.fAfter else i_PrintTokens_L9 x0 x1 x2 x3 x4 y199.fKind y199.fNum y199.fText y199.fBefore y199.fAfter else ((bytesOf x4) : Option (List UInt8)).bind fun y199 => some y199 :=
  (den_run CC 8 (lbl CC 8 5) ⟨tmOf [(0, .sl (.st 29) x0), (3, .ref 0 0), (10, .sl (.st 29) x1), (11, .int .i64 x2), (12, .int .i64 x3)] 0 37, [.box 46 [.nilp, .arr 1] false, .arr 5 (.int .u8) x4 false], 0⟩ fun r => prjR GG [.str] r.1).trans (by kernel_rfl)

theorem i_ValidToken_eq (x0 : TToken) : i_ValidToken x0 = if (x0.fKind == 1) = true then if (x0.fNum == 0) = true then (i_IsName x0.fText).bind fun r198 => some r198 else some (false) else if (x0.fKind == 2) = true then if (x0.fText == []) = true then (i_isNumber x0.fNum).bind fun r197 => some r197 else some (false) else if (x0.fKind == 3) = true then if (x0.fNum == 0) = true then (i_CanQuote x0.fText).bind fun r196 => some r196 else some (false) else if (x0.fKind == 4) = true then if (x0.fNum == 0) = true then (i_IsOperator x0.fText).bind fun r195 => some r195 else some (false) else (i_within x0.fKind 5 10).bind fun r196 => if r196 = true then if (x0.fNum == 0) = true then some (x0.fText == []) else some (false) else some (false) :=
  (den_run CC 9 (bodyT CC 9) ⟨tmOf [(0, .st 29 x0)] 0 58, [], 0⟩ fun r => prjR GG [.bool] r.1).trans (by kernel_rfl)

theorem s_l00Src_next_eq (x0 : (List Int)) (x1 : Int) (x2 : Int) : s_l00Src_next x0 x1 x2 = if (decide (x1 < len x0)) = true then ((idx x0 x1) : Option Int).bind fun y199 => if (decide (w64 (x1 + 1) ≤ len x0)) = true then some (((w64 y199)), (((x0), (w64 (x1 + 1)), (Go.IntKind.wrap Go.IntKind.u64 (Go.IntKind.wrap Go.IntKind.u64 (Go.IntKind.wrap Go.IntKind.u64 (x2 * 6364136223846793005) + Go.IntKind.wrap Go.IntKind.u64 (w64 y199)) + 1442695040888963407)), ()), ())) else ((shr Go.IntKind.u64 (Go.IntKind.wrap Go.IntKind.u64 (Go.IntKind.wrap Go.IntKind.u64 (Go.IntKind.wrap Go.IntKind.u64 (x2 * 6364136223846793005) + Go.IntKind.wrap Go.IntKind.u64 (w64 y199)) + 1442695040888963407)) 40) : Option Int).bind fun y197 => some (((w64 (bitsOp Go.BinOp.and Go.IntKind.u64 y197 255))), (((x0), (w64 (x1 + 1)), (Go.IntKind.wrap Go.IntKind.u64 (Go.IntKind.wrap Go.IntKind.u64 (Go.IntKind.wrap Go.IntKind.u64 (x2 * 6364136223846793005) + Go.IntKind.wrap Go.IntKind.u64 (w64 y199)) + 1442695040888963407)), ()), ())) else if (decide (w64 (x1 + 1) ≤ len x0)) = true then some ((0), (((x0), (w64 (x1 + 1)), (Go.IntKind.wrap Go.IntKind.u64 (Go.IntKind.wrap Go.IntKind.u64 (Go.IntKind.wrap Go.IntKind.u64 (x2 * 6364136223846793005) + Go.IntKind.wrap Go.IntKind.u64 0) + 1442695040888963407)), ()), ())) else ((shr Go.IntKind.u64 (Go.IntKind.wrap Go.IntKind.u64 (Go.IntKind.wrap Go.IntKind.u64 (Go.IntKind.wrap Go.IntKind.u64 (x2 * 6364136223846793005) + Go.IntKind.wrap Go.IntKind.u64 0) + 1442695040888963407)) 40) : Option Int).bind fun y198 => some (((w64 (bitsOp Go.BinOp.and Go.IntKind.u64 y198 255))), (((x0), (w64 (x1 + 1)), (Go.IntKind.wrap Go.IntKind.u64 (Go.IntKind.wrap Go.IntKind.u64 (Go.IntKind.wrap Go.IntKind.u64 (x2 * 6364136223846793005) + Go.IntKind.wrap Go.IntKind.u64 0) + 1442695040888963407)), ()), ())) :=
  (den_run CC 45 (bodyT CC 45) ⟨tmOf [(0, .ref 0 0)] 0 62, [.box 56 [.sl (.int .u8) x0, .int .i64 x1, .int .u64 x2] false], 1⟩ fun r => prjRB GG [(.int .i64)] [[.im (.sl (.int .u8)), .im (.int .i64), .im (.int .u64)]] r).trans (by kernel_rfl)

theorem s_l00Src_text_eq (x0 : (List (List UInt8))) (x1 : (List Int)) (x2 : Int) (x3 : Int) : s_l00Src_text x0 x1 x2 x3 = (s_l00Src_pick (len x0) x1 x2 x3).bind fun r200 => ((idx x0 (Prod.fst r200)) : Option (List UInt8)).bind fun y199 => some ((y199), (((Prod.fst (Prod.fst (Prod.snd r200))), (Prod.fst (Prod.snd (Prod.fst (Prod.snd r200)))), (Prod.fst (Prod.snd (Prod.snd (Prod.fst (Prod.snd r200))))), ()), ())) :=
  (den_run CC 30 (bodyT CC 30) ⟨tmOf [(0, .ref 0 0), (1, .sl .str x0)] 0 12, [.box 56 [.sl (.int .u8) x1, .int .i64 x2, .int .u64 x3] false], 1⟩ fun r => prjRB GG [.str] [[.im (.sl (.int .u8)), .im (.int .i64), .im (.int .u64)]] r).trans (by kernel_rfl)

theorem s_l00Src_one_eq (x0 : Int) (x1 : (List Int)) (x2 : Int) (x3 : Int) : s_l00Src_one x0 x1 x2 x3 = (s_l00Src_pick x0 x1 x2 x3).bind fun r200 => some (((Prod.fst r200 == 0)), (((Prod.fst (Prod.fst (Prod.snd r200))), (Prod.fst (Prod.snd (Prod.fst (Prod.snd r200)))), (Prod.fst (Prod.snd (Prod.snd (Prod.fst (Prod.snd r200))))), ()), ())) :=
  (den_run CC 31 (bodyT CC 31) ⟨tmOf [(0, .ref 0 0), (1, .int .i64 x0)] 0 9, [.box 56 [.sl (.int .u8) x1, .int .i64 x2, .int .u64 x3] false], 1⟩ fun r => prjRB GG [.bool] [[.im (.sl (.int .u8)), .im (.int .i64), .im (.int .u64)]] r).trans (by kernel_rfl)

theorem s_l02DrawText_L22_eq (x0 : (List UInt8)) (x1 : (List Int)) (x2 : Int) (x3 : Int) : s_l02DrawText_L22 x0 x1 x2 x3 = some ((x0), (((x1), (x2), (x3), ()), ())) :=
  (den_run CC 11 (lbl CC 11 22) ⟨tmOf [(3, .str x0)] 0 51, [.box 56 [.sl (.int .u8) x1, .int .i64 x2, .int .u64 x3] false], 1⟩ fun r => prjRB GG [.str] [[.im (.sl (.int .u8)), .im (.int .i64), .im (.int .u64)]] r).trans (by kernel_rfl)

theorem s_l02DrawText_L19_eq (x0 : (List UInt8)) (x1 : Int) (x2 : (List Int)) (x3 : Int) (x4 : Int) : s_l02DrawText_L19 x0 x1 x2 x3 x4 = (s_l00Src_pick 3 x2 x3 x4).bind fun r200 => if (decide (x1 < w64 (119 + Prod.fst r200))) = true then ((app x0 ([43])) : Option (List UInt8)).bind fun y198 => s_l02DrawText_L19 y198 (w64 (x1 + 1)) (Prod.fst (Prod.fst (Prod.snd r200))) (Prod.fst (Prod.snd (Prod.fst (Prod.snd r200)))) (Prod.fst (Prod.snd (Prod.snd (Prod.fst (Prod.snd r200))))) else s_l02DrawText_L22 x0 (Prod.fst (Prod.fst (Prod.snd r200))) (Prod.fst (Prod.snd (Prod.fst (Prod.snd r200)))) (Prod.fst (Prod.snd (Prod.snd (Prod.fst (Prod.snd r200))))) :=
  (den_run CC 11 (lbl CC 11 19) ⟨tmOf [(0, .ref 0 0), (3, .str x0), (5, .int .i64 x1)] 0 51, [.box 56 [.sl (.int .u8) x2, .int .i64 x3, .int .u64 x4] false], 1⟩ fun r => prjRB GG [.str] [[.im (.sl (.int .u8)), .im (.int .i64), .im (.int .u64)]] r).trans (by kernel_rfl)

theorem i_areAll_byte_L2__i_isPlain_eq (x0 : (List Int)) (x1 : Int) (x2 : Int) : i_areAll_byte_L2__i_isPlain x0 x1 x2 = if (decide (x2 < x1)) = true then ((idx x0 x2) : Option Int).bind fun y199 => (i_isPlain y199).bind fun r198 => if (!r198) = true then some (false) else i_areAll_byte_L2__i_isPlain x0 x1 (w64 (x2 + 1)) else some (true) :=
  (den_run CC 32 (lbl CC 32 2) ⟨tmOf [(1, .fn 33 []), (7, .sl (.int .u8) x0), (8, .int .i64 x1), (9, .int .i64 x2)] 0 18, [], 0⟩ fun r => prjR GG [.bool] r.1).trans (by kernel_rfl)

theorem i_span_L2__i_ScanTokens_c1_eq (x0 : (List UInt8)) (x1 : Int) (x2 : Int) : i_span_L2__i_ScanTokens_c1 x0 x1 x2 = if (decide (x2 < len x0)) = true then ((idx x0 x2) : Option UInt8).bind fun y199 => (i_ScanTokens_c1 (ib y199)).bind fun r198 => if r198 = true then i_span_L2__i_ScanTokens_c1 x0 x1 (w64 (x2 + 1)) else some (w64 (x2 - x1)) else some (w64 (x2 - x1)) :=
  (den_run CC 13 (lbl CC 13 2) ⟨tmOf [(0, .str x0), (1, .int .i64 x1), (2, .fn 14 []), (7, .int .i64 x2)] 0 25, [], 0⟩ fun r => prjR GG [(.int .i64)] r.1).trans (by kernel_rfl)

theorem i_isLetter_eq (x0 : Int) : i_isLetter x0 = if (decide (x0 ≥ 65)) = true then if (decide (x0 ≤ 90)) = true then some (true) else if (decide (x0 ≥ 97)) = true then some (decide (x0 ≤ 122)) else some (false) else if (decide (x0 ≥ 97)) = true then some (decide (x0 ≤ 122)) else some (false) :=
  (den_run CC 34 (bodyT CC 34) ⟨tmOf [(0, .int .u8 x0)] 0 17, [], 0⟩ fun r => prjR GG [.bool] r.1).trans (by kernel_rfl)

theorem i_span__i_isNameByte_eq (x0 : (List UInt8)) (x1 : Int) : i_span__i_isNameByte x0 x1 = i_span_L2__i_isNameByte x0 x1 x1 :=
  (den_run CC 13 (bodyT CC 13) ⟨tmOf [(0, .str x0), (1, .int .i64 x1), (2, .fn 35 [])] 0 25, [], 0⟩ fun r => prjR GG [(.int .i64)] r.1).trans (by kernel_rfl)

theorem i_isDigit_eq (x0 : Int) : i_isDigit x0 = if (decide (x0 ≥ 48)) = true then some (decide (x0 ≤ 57)) else some (false) :=
  (den_run CC 36 (bodyT CC 36) ⟨tmOf [(0, .int .u8 x0)] 0 9, [], 0⟩ fun r => prjR GG [.bool] r.1).trans (by kernel_rfl)

theorem i_span__i_isDigit_eq (x0 : (List UInt8)) (x1 : Int) : i_span__i_isDigit x0 x1 = i_span_L2__i_isDigit x0 x1 x1 :=
  (den_run CC 13 (bodyT CC 13) ⟨tmOf [(0, .str x0), (1, .int .i64 x1), (2, .fn 36 [])] 0 25, [], 0⟩ fun r => prjR GG [(.int .i64)] r.1).trans (by kernel_rfl)

theorem i_span__i_scanToken_c1_eq (x0 : (List UInt8)) (x1 : Int) (x2 : Int) : i_span__i_scanToken_c1 x0 x1 x2 = i_span_L2__i_scanToken_c1 x0 x1 x2 x1 :=
  (den_run CC 13 (bodyT CC 13) ⟨tmOf [(0, .str x0), (1, .int .i64 x1), (2, .fn 38 [.pc [.int .u8 x2]])] 0 25, [], 0⟩ fun r => prjR GG [(.int .i64)] r.1).trans (by kernel_rfl)

theorem i_first_L2_eq (x0 : (List Int)) (x1 : Int) (x2 : Int) : i_first_L2 x0 x1 x2 = if (decide (x2 < x1)) = true then ((idx x0 x2) : Option Int).bind fun y199 => if (y199 != 0) = true then some y199 else i_first_L2 x0 x1 (w64 (x2 + 1)) else some 0 :=
  (den_run CC 16 (lbl CC 16 2) ⟨tmOf [(5, .sl (.int .i64) x0), (6, .int .i64 x1), (7, .int .i64 x2)] 0 15, [], 0⟩ fun r => prjR GG [(.int .i64)] r.1).trans (by kernel_rfl)

theorem s_l01Printable_L5_eq : s_l01Printable_L5 = some (false) :=
  (den_run CC 18 (lbl CC 18 5) ⟨tmOf [] 0 32, [], 0⟩ fun r => prjR GG [.bool] r.1).trans (by kernel_rfl)

theorem s_l01Printable_L3_eq (x0 : (List UInt8)) (x1 : Bool) (x2 : Int) : s_l01Printable_L3 x0 x1 x2 = s_l01Printable_L2 x0 x1 (w64 (x2 + 1)) :=
  (den_run CC 18 (lbl CC 18 3) ⟨tmOf [(0, .str x0), (1, .bool x1), (5, .int .i64 x2)] 0 32, [], 0⟩ fun r => prjR GG [.bool] r.1).trans (by kernel_rfl)

theorem s_l02One_eq (x0 : (List UInt8)) (x1 : Int) : s_l02One x0 x1 = ((idx x0 x1) : Option UInt8).bind fun y200 => (s_l02Letter (ib y200)).bind fun r199 => if r199 = true then (s_l02NameEnd x0 x1).bind fun r197 => if (decide (w64 (r197 - x1) > 12)) = true then some ((TToken.mk (Int.ofNat 0) (Int.ofNat 0) [] false false), (-1)) else ((cut x0 x1 (Option.getD (Option.some r197) (len x0))) : Option (List UInt8)).bind fun y195 => some ((TToken.mk (Int.ofNat 1) (Int.ofNat 0) y195 false false), r197) else (s_l02Digit (ib y200)).bind fun r197 => if r197 = true then s_l02One_L10 x0 x1 0 x1 0 0 [] (false) (false) else if (ib y200 == 39) = true then s_l02One_L18 x0 x1 (ib y200) (w64 (x1 + 1)) 0 0 [] (false) (false) else if (ib y200 == 34) = true then s_l02One_L18 x0 x1 (ib y200) (w64 (x1 + 1)) 0 0 [] (false) (false) else (s_l02Operator (ib y200)).bind fun r193 => if r193 = true then ((cut x0 x1 (Option.getD (Option.some (w64 (x1 + 1))) (len x0))) : Option (List UInt8)).bind fun y191 => some ((TToken.mk (Int.ofNat 4) (Int.ofNat 0) y191 false false), (w64 (x1 + 1))) else s_l02One_L27 x1 (ib y200) [40, 41, 60, 62, 44, 58] 0 0 0 [] (false) (false) :=
  (den_run CC 40 (bodyT CC 40) ⟨tmOf [(0, .str x0), (1, .int .i64 x1)] 0 145, [], 0⟩ fun r => prjR GG [(.st 29), (.int .i64)] r.1).trans (by kernel_rfl)

theorem i_areAll_impl_Token_L2__i_ValidToken_eq (x0 : (List TToken)) (x1 : Int) (x2 : Int) : i_areAll_impl_Token_L2__i_ValidToken x0 x1 x2 = if (decide (x2 < x1)) = true then ((idx x0 x2) : Option TToken).bind fun y199 => (i_ValidToken y199).bind fun r198 => if (!r198) = true then some (false) else i_areAll_impl_Token_L2__i_ValidToken x0 x1 (w64 (x2 + 1)) else some (true) :=
  (den_run CC 20 (lbl CC 20 2) ⟨tmOf [(1, .fn 9 []), (7, .sl (.st 29) x0), (8, .int .i64 x1), (9, .int .i64 x2)] 0 18, [], 0⟩ fun r => prjR GG [.bool] r.1).trans (by kernel_rfl)

theorem i_PrintTokens_L8_eq (x0 : (List TToken)) (x1 : (List TToken)) (x2 : Int) (x3 : Int) (x4 : (List Int)) (x5 : Int) (x6 : Int) (x7 : (List UInt8)) (x8 : Bool) (x9 : Bool) : i_PrintTokens_L8 x0 x1 x2 x3 x4 x5 x6 x7 x8 x9 = ((app x4 (List.map (fun (b : UInt8) ↦ ib b) ([32]))) : Option (List Int)).bind fun y200 => i_PrintTokens_L9_v1 x0 x1 x2 x3 y200 x5 x6 x7 x8 x9 :=
  (den_run CC 8 (lbl CC 8 8) ⟨tmOf [(0, .sl (.st 29) x0), (3, .ref 0 0), (5, .ref 2 0), (10, .sl (.st 29) x1), (11, .int .i64 x2), (12, .int .i64 x3)] 0 37, [.box 46 [.nilp, .arr 1] false, .arr 5 (.int .u8) x4 false, .box 30 [.int .i64 x5, .int .i64 x6, .str x7, .bool x8, .bool x9] false], 0⟩ fun r => prjR GG [.str] r.1).trans (by kernel_rfl)

theorem i_PrintTokens_L9_eq (x0 : (List TToken)) (x1 : (List TToken)) (x2 : Int) (x3 : Int) (x4 : (List Int)) (x5 : Int) (x6 : Int) (x7 : (List UInt8)) (x8 : Bool) (x9 : Bool) : i_PrintTokens_L9 x0 x1 x2 x3 x4 x5 x6 x7 x8 x9 = (i_Token_text (TToken.mk x5 x6 x7 x8 x9)).bind fun r200 => ((app x4 (List.map (fun (b : UInt8) ↦ ib b) r200)) : Option (List Int)).bind fun y199 => i_PrintTokens_L5_v1 x0 x1 x2 (w64 (x3 + 1)) y199 :=
  (den_run CC 8 (lbl CC 8 9) ⟨tmOf [(0, .sl (.st 29) x0), (3, .ref 0 0), (5, .ref 2 0), (10, .sl (.st 29) x1), (11, .int .i64 x2), (12, .int .i64 x3)] 0 37, [.box 46 [.nilp, .arr 1] false, .arr 5 (.int .u8) x4 false, .box 30 [.int .i64 x5, .int .i64 x6, .str x7, .bool x8, .bool x9] false], 0⟩ fun r => prjR GG [.str] r.1).trans (by kernel_rfl)

theorem i_IsName_eq (x0 : (List UInt8)) : i_IsName x0 = if (decide (len x0 ≥ 1)) = true then if (decide (len x0 ≤ 12)) = true then ((idx x0 0) : Option UInt8).bind fun y198 => (i_isLetter (ib y198)).bind fun r197 => if r197 = true then (i_areAll_byte__i_isNameByte (List.map (fun (b : UInt8) ↦ ib b) x0)).bind fun r195 => some r195 else some (false) else some (false) else some (false) :=
  (den_run CC 24 (bodyT CC 24) ⟨tmOf [(0, .str x0)] 0 21, [], 0⟩ fun r => prjR GG [.bool] r.1).trans (by kernel_rfl)

theorem i_isNumber_eq (x0 : Int) : i_isNumber x0 = (i_within x0 0 1000000000000).bind fun r200 => some r200 :=
  (den_run CC 25 (bodyT CC 25) ⟨tmOf [(0, .int .i64 x0)] 0 5, [], 0⟩ fun r => prjR GG [.bool] r.1).trans (by kernel_rfl)

theorem i_CanQuote_eq (x0 : (List UInt8)) : i_CanQuote x0 = if (decide (len x0 ≤ 200)) = true then (i_isPlainText x0).bind fun r199 => if r199 = true then ((containsS x0 ([39])) : Option Bool).bind fun y197 => if y197 = true then ((containsS x0 ([34])) : Option Bool).bind fun y195 => some (!y195) else some (true) else some (false) else some (false) :=
  (den_run CC 26 (bodyT CC 26) ⟨tmOf [(0, .str x0)] 0 19, [], 0⟩ fun r => prjR GG [.bool] r.1).trans (by kernel_rfl)

theorem i_IsOperator_eq (x0 : (List UInt8)) : i_IsOperator x0 = if (len x0 == 1) = true then ((containsS ([43, 45, 42, 47, 124, 46, 36, 64, 61]) x0) : Option Bool).bind fun y199 => some y199 else some (false) :=
  (den_run CC 27 (bodyT CC 27) ⟨tmOf [(0, .str x0)] 0 10, [], 0⟩ fun r => prjR GG [.bool] r.1).trans (by kernel_rfl)

theorem i_within_eq (x0 : Int) (x1 : Int) (x2 : Int) : i_within x0 x1 x2 = if (decide (x0 ≥ x1)) = true then some (decide (x0 ≤ x2)) else some (false) :=
  (den_run CC 28 (bodyT CC 28) ⟨tmOf [(0, .int .i64 x0), (1, .int .i64 x1), (2, .int .i64 x2)] 0 15, [], 0⟩ fun r => prjR GG [.bool] r.1).trans (by kernel_rfl)

theorem i_isPlain_eq (x0 : Int) : i_isPlain x0 = if (decide (x0 ≥ 32)) = true then some (decide (x0 ≤ 126)) else some (false) :=
  (den_run CC 33 (bodyT CC 33) ⟨tmOf [(0, .int .u8 x0)] 0 9, [], 0⟩ fun r => prjR GG [.bool] r.1).trans (by kernel_rfl)

theorem i_ScanTokens_c1_eq (x0 : Int) : i_ScanTokens_c1 x0 = some (x0 == 32) :=
  (den_run CC 14 (bodyT CC 14) ⟨tmOf [(0, .int .u8 x0)] 0 5, [], 0⟩ fun r => prjR GG [.bool] r.1).trans (by kernel_rfl)

theorem i_span_L2__i_isNameByte_eq (x0 : (List UInt8)) (x1 : Int) (x2 : Int) : i_span_L2__i_isNameByte x0 x1 x2 = if (decide (x2 < len x0)) = true then ((idx x0 x2) : Option UInt8).bind fun y199 => (i_isNameByte (ib y199)).bind fun r198 => if r198 = true then i_span_L2__i_isNameByte x0 x1 (w64 (x2 + 1)) else some (w64 (x2 - x1)) else some (w64 (x2 - x1)) :=
  (den_run CC 13 (lbl CC 13 2) ⟨tmOf [(0, .str x0), (1, .int .i64 x1), (2, .fn 35 []), (7, .int .i64 x2)] 0 25, [], 0⟩ fun r => prjR GG [(.int .i64)] r.1).trans (by kernel_rfl)

theorem i_span_L2__i_isDigit_eq (x0 : (List UInt8)) (x1 : Int) (x2 : Int) : i_span_L2__i_isDigit x0 x1 x2 = if (decide (x2 < len x0)) = true then ((idx x0 x2) : Option UInt8).bind fun y199 => (i_isDigit (ib y199)).bind fun r198 => if r198 = true then i_span_L2__i_isDigit x0 x1 (w64 (x2 + 1)) else some (w64 (x2 - x1)) else some (w64 (x2 - x1)) :=
  (den_run CC 13 (lbl CC 13 2) ⟨tmOf [(0, .str x0), (1, .int .i64 x1), (2, .fn 36 []), (7, .int .i64 x2)] 0 25, [], 0⟩ fun r => prjR GG [(.int .i64)] r.1).trans (by kernel_rfl)

theorem i_span_L2__i_scanToken_c1_eq (x0 : (List UInt8)) (x1 : Int) (x2 : Int) (x3 : Int) : i_span_L2__i_scanToken_c1 x0 x1 x2 x3 = if (decide (x3 < len x0)) = true then ((idx x0 x3) : Option UInt8).bind fun y199 => (i_scanToken_c1 (ib y199) x2).bind fun r198 => if r198 = true then i_span_L2__i_scanToken_c1 x0 x1 x2 (w64 (x3 + 1)) else some (w64 (x3 - x1)) else some (w64 (x3 - x1)) :=
  (den_run CC 13 (lbl CC 13 2) ⟨tmOf [(0, .str x0), (1, .int .i64 x1), (2, .fn 38 [.pc [.int .u8 x2]]), (7, .int .i64 x3)] 0 25, [], 0⟩ fun r => prjR GG [(.int .i64)] r.1).trans (by kernel_rfl)

theorem s_l02Letter_eq (x0 : Int) : s_l02Letter x0 = if (decide (x0 ≥ 65)) = true then if (decide (x0 ≤ 90)) = true then some (true) else if (decide (x0 ≥ 97)) = true then some (decide (x0 ≤ 122)) else some (false) else if (decide (x0 ≥ 97)) = true then some (decide (x0 ≤ 122)) else some (false) :=
  (den_run CC 48 (bodyT CC 48) ⟨tmOf [(0, .int .u8 x0)] 0 17, [], 0⟩ fun r => prjR GG [.bool] r.1).trans (by kernel_rfl)

theorem s_l02NameEnd_eq (x0 : (List UInt8)) (x1 : Int) : s_l02NameEnd x0 x1 = if (decide (x1 ≥ len x0)) = true then some x1 else ((idx x0 x1) : Option UInt8).bind fun y199 => (s_l02Letter (ib y199)).bind fun r198 => if (!r198) = true then some x1 else s_l02NameEnd_L3 x0 x1 :=
  (den_run CC 49 (bodyT CC 49) ⟨tmOf [(0, .str x0), (1, .int .i64 x1)] 0 42, [], 0⟩ fun r => prjR GG [(.int .i64)] r.1).trans (by kernel_rfl)

theorem s_l02Digit_eq (x0 : Int) : s_l02Digit x0 = if (decide (x0 ≥ 48)) = true then some (decide (x0 ≤ 57)) else some (false) :=
  (den_run CC 50 (bodyT CC 50) ⟨tmOf [(0, .int .u8 x0)] 0 9, [], 0⟩ fun r => prjR GG [.bool] r.1).trans (by kernel_rfl)

theorem s_l02One_L10_eq (x0 : (List UInt8)) (x1 : Int) (x2 : Int) (x3 : Int) (x4 : Int) (x5 : Int) (x6 : (List UInt8)) (x7 : Bool) (x8 : Bool) : s_l02One_L10 x0 x1 x2 x3 x4 x5 x6 x7 x8 = if (decide (x3 < len x0)) = true then ((idx x0 x3) : Option UInt8).bind fun y199 => (s_l02Digit (ib y199)).bind fun r198 => if r198 = true then if (decide (w64 (x3 - x1) < 14)) = true then s_l02One_L11 x0 x1 x2 x3 x4 x5 x6 x7 x8 else s_l02One_L13 x1 x2 x3 x4 x5 x6 x7 x8 else s_l02One_L13 x1 x2 x3 x4 x5 x6 x7 x8 else s_l02One_L13 x1 x2 x3 x4 x5 x6 x7 x8 :=
  (den_run CC 40 (lbl CC 40 10) ⟨tmOf [(0, .str x0), (1, .int .i64 x1), (4, .ref 0 0), (8, .int .i64 x2), (9, .int .i64 x3)] 0 145, [.box 30 [.int .i64 x4, .int .i64 x5, .str x6, .bool x7, .bool x8] false], 0⟩ fun r => prjR GG [(.st 29), (.int .i64)] r.1).trans (by kernel_rfl)

theorem s_l02One_L18_eq (x0 : (List UInt8)) (x1 : Int) (x2 : Int) (x3 : Int) (x4 : Int) (x5 : Int) (x6 : (List UInt8)) (x7 : Bool) (x8 : Bool) : s_l02One_L18 x0 x1 x2 x3 x4 x5 x6 x7 x8 = if (decide (x3 < len x0)) = true then ((idx x0 x3) : Option UInt8).bind fun y199 => if (ib y199 != x2) = true then s_l02One_L18 x0 x1 x2 (w64 (x3 + 1)) x4 x5 x6 x7 x8 else if (x3 == len x0) = true then s_l02One_L21 x4 x5 x6 x7 x8 else if (decide (w64 (w64 (x3 - x1) - 1) > 200)) = true then s_l02One_L21 x4 x5 x6 x7 x8 else s_l02One_L22 x0 x1 x3 x4 x5 x6 x7 x8 else if (x3 == len x0) = true then s_l02One_L21 x4 x5 x6 x7 x8 else if (decide (w64 (w64 (x3 - x1) - 1) > 200)) = true then s_l02One_L21 x4 x5 x6 x7 x8 else s_l02One_L22 x0 x1 x3 x4 x5 x6 x7 x8 :=
  (den_run CC 40 (lbl CC 40 18) ⟨tmOf [(0, .str x0), (1, .int .i64 x1), (4, .ref 0 0), (6, .int .u8 x2), (10, .int .i64 x3)] 0 145, [.box 30 [.int .i64 x4, .int .i64 x5, .str x6, .bool x7, .bool x8] false], 0⟩ fun r => prjR GG [(.st 29), (.int .i64)] r.1).trans (by kernel_rfl)

theorem s_l02Operator_eq (x0 : Int) : s_l02Operator x0 = if (x0 == 43) = true then s_l02Operator_L11 else if (x0 == 45) = true then s_l02Operator_L11 else if (x0 == 42) = true then s_l02Operator_L11 else if (x0 == 47) = true then s_l02Operator_L11 else if (x0 == 124) = true then s_l02Operator_L11 else if (x0 == 46) = true then s_l02Operator_L11 else if (x0 == 36) = true then s_l02Operator_L11 else if (x0 == 64) = true then s_l02Operator_L11 else if (x0 == 61) = true then s_l02Operator_L11 else s_l02Operator_L12 :=
  (den_run CC 51 (bodyT CC 51) ⟨tmOf [(0, .int .u8 x0)] 0 14, [], 0⟩ fun r => prjR GG [.bool] r.1).trans (by kernel_rfl)

theorem s_l02One_L27_eq (x0 : Int) (x1 : Int) (x2 : (List UInt8)) (x3 : Int) (x4 : Int) (x5 : Int) (x6 : (List UInt8)) (x7 : Bool) (x8 : Bool) : s_l02One_L27 x0 x1 x2 x3 x4 x5 x6 x7 x8 = if (decide (x3 < len x2)) = true then ((idx x2 x3) : Option UInt8).bind fun y199 => if (ib y199 == x1) = true then some ((TToken.mk (w64 (5 + x3)) (Int.ofNat 0) [] false false), (w64 (x0 + 1))) else s_l02One_L27 x0 x1 x2 (w64 (x3 + 1)) x4 x5 x6 x7 x8 else some ((TToken.mk (Int.ofNat 0) (Int.ofNat 0) [] false false), (-1)) :=
  (den_run CC 40 (lbl CC 40 27) ⟨tmOf [(1, .int .i64 x0), (4, .ref 0 0), (6, .int .u8 x1), (11, .str x2), (12, .int .i64 x3)] 0 145, [.box 30 [.int .i64 x4, .int .i64 x5, .str x6, .bool x7, .bool x8] false], 0⟩ fun r => prjR GG [(.st 29), (.int .i64)] r.1).trans (by kernel_rfl)

theorem i_PrintTokens_L9_v1_eq (x0 : (List TToken)) (x1 : (List TToken)) (x2 : Int) (x3 : Int) (x4 : (List Int)) (x5 : Int) (x6 : Int) (x7 : (List UInt8)) (x8 : Bool) (x9 : Bool) : i_PrintTokens_L9_v1 x0 x1 x2 x3 x4 x5 x6 x7 x8 x9 = (i_Token_text (TToken.mk x5 x6 x7 x8 x9)).bind fun r200 => ((app x4 (List.map (fun (b : UInt8) ↦ ib b) r200)) : Option (List Int)).bind fun y199 => i_PrintTokens_L5_v1 x0 x1 x2 (w64 (x3 + 1)) y199 :=
  (den_run CC 8 (lbl CC 8 9) ⟨tmOf [(0, .sl (.st 29) x0), (3, .ref 0 0), (5, .ref 2 0), (10, .sl (.st 29) x1), (11, .int .i64 x2), (12, .int .i64 x3)] 0 37, [.box 46 [.ref 0 0, .arr 1] false, .arr 5 (.int .u8) x4 false, .box 30 [.int .i64 x5, .int .i64 x6, .str x7, .bool x8, .bool x9] false], 0⟩ fun r => prjR GG [.str] r.1).trans (by kernel_rfl)

theorem i_Token_text_eq (x0 : TToken) : i_Token_text x0 = if (x0.fKind == 1) = true then some x0.fText else if (x0.fKind == 4) = true then some x0.fText else if (x0.fKind == 2) = true then (i_decimal x0.fNum).bind fun r197 => some r197 else if (x0.fKind == 3) = true then (i_QuoteString x0.fText).bind fun r196 => some r196 else ((cut ([40, 41, 60, 62, 44, 58]) (w64 (x0.fKind - 5)) (Option.getD (Option.some (w64 (w64 (x0.fKind - 5) + 1))) (len ([40, 41, 60, 62, 44, 58])))) : Option (List UInt8)).bind fun y196 => some y196 :=
  (den_run CC 22 (bodyT CC 22) ⟨tmOf [(0, .st 29 x0)] 0 28, [], 0⟩ fun r => prjR GG [.str] r.1).trans (by kernel_rfl)

theorem i_PrintTokens_L5_v1_eq (x0 : (List TToken)) (x1 : (List TToken)) (x2 : Int) (x3 : Int) (x4 : (List Int)) : i_PrintTokens_L5_v1 x0 x1 x2 x3 x4 = if (decide (x3 < x2)) = true then ((idx x1 x3) : Option TToken).bind fun y199 => if (decide (x3 > 0)) = true then if y199.fBefore = true then i_PrintTokens_L8_v1 x0 x1 x2 x3 x4 y199.fKind y199.fNum y199.fText y199.fBefore y199.fAfter else ((idx x0 (w64 (x3 - 1))) : Option TToken).bind fun y196 => if y196.fAfter = true then i_PrintTokens_L8_v1 x0 x1 x2 x3 x4 y199.fKind y199.fNum y199.fText y199.fBefore y199.fAfter else i_PrintTokens_L9_v1 x0 x1 x2 x3 x4 y199.fKind y199.fNum y199.fText y199.fBefore y199.fAfter else i_PrintTokens_L9_v1 x0 x1 x2 x3 x4 y199.fKind y199.fNum y199.fText y199.fBefore y199.fAfter else ((bytesOf x4) : Option (List UInt8)).bind fun y199 => some y199 :=
  (den_run CC 8 (lbl CC 8 5) ⟨tmOf [(0, .sl (.st 29) x0), (3, .ref 0 0), (10, .sl (.st 29) x1), (11, .int .i64 x2), (12, .int .i64 x3)] 0 37, [.box 46 [.ref 0 0, .arr 1] false, .arr 5 (.int .u8) x4 false], 0⟩ fun r => prjR GG [.str] r.1).trans (by kernel_rfl)

theorem i_areAll_byte__i_isNameByte_eq (x0 : (List Int)) : i_areAll_byte__i_isNameByte x0 = i_areAll_byte_L2__i_isNameByte x0 (len x0) 0 :=
  (den_run CC 32 (bodyT CC 32) ⟨tmOf [(0, .sl (.int .u8) x0), (1, .fn 35 [])] 0 18, [], 0⟩ fun r => prjR GG [.bool] r.1).trans (by kernel_rfl)

theorem i_isNameByte_eq (x0 : Int) : i_isNameByte x0 = (i_isLetter x0).bind fun r200 => if r200 = true then some (true) else (i_isDigit x0).bind fun r198 => if r198 = true then some (true) else some (x0 == 95) :=
  (den_run CC 35 (bodyT CC 35) ⟨tmOf [(0, .int .u8 x0)] 0 13, [], 0⟩ fun r => prjR GG [.bool] r.1).trans (by kernel_rfl)

theorem i_scanToken_c1_eq (x0 : Int) (x1 : Int) : i_scanToken_c1 x0 x1 = some (x0 != x1) :=
  (den_run CC 38 (bodyT CC 38) ⟨tmOf [(0, .int .u8 x0), (1, .pc [.int .u8 x1])] 0 7, [], 0⟩ fun r => prjR GG [.bool] r.1).trans (by kernel_rfl)

theorem s_l02NameEnd_L3_eq (x0 : (List UInt8)) (x1 : Int) : s_l02NameEnd_L3 x0 x1 = if (decide (x1 < len x0)) = true then ((idx x0 x1) : Option UInt8).bind fun y199 => (s_l02Letter (ib y199)).bind fun r198 => if r198 = true then s_l02NameEnd_L4 x0 x1 else ((idx x0 x1) : Option UInt8).bind fun y196 => (s_l02Digit (ib y196)).bind fun r195 => if r195 = true then s_l02NameEnd_L4 x0 x1 else ((idx x0 x1) : Option UInt8).bind fun y193 => if (ib y193 == 95) = true then s_l02NameEnd_L4 x0 x1 else s_l02NameEnd_L5 x1 else s_l02NameEnd_L5 x1 :=
  (den_run CC 49 (lbl CC 49 3) ⟨tmOf [(0, .str x0), (1, .int .i64 x1)] 0 42, [], 0⟩ fun r => prjR GG [(.int .i64)] r.1).trans (by kernel_rfl)

theorem s_l02One_L11_eq (x0 : (List UInt8)) (x1 : Int) (x2 : Int) (x3 : Int) (x4 : Int) (x5 : Int) (x6 : (List UInt8)) (x7 : Bool) (x8 : Bool) : s_l02One_L11 x0 x1 x2 x3 x4 x5 x6 x7 x8 = ((idx x0 x3) : Option UInt8).bind fun y200 => s_l02One_L10 x0 x1 (w64 (w64 (10 * x2) + w64 (Go.IntKind.wrap Go.IntKind.u8 (ib y200 - 48)))) (w64 (x3 + 1)) x4 x5 x6 x7 x8 :=
  (den_run CC 40 (lbl CC 40 11) ⟨tmOf [(0, .str x0), (1, .int .i64 x1), (4, .ref 0 0), (8, .int .i64 x2), (9, .int .i64 x3)] 0 145, [.box 30 [.int .i64 x4, .int .i64 x5, .str x6, .bool x7, .bool x8] false], 0⟩ fun r => prjR GG [(.st 29), (.int .i64)] r.1).trans (by kernel_rfl)

theorem s_l02One_L13_eq (x0 : Int) (x1 : Int) (x2 : Int) (x3 : Int) (x4 : Int) (x5 : (List UInt8)) (x6 : Bool) (x7 : Bool) : s_l02One_L13 x0 x1 x2 x3 x4 x5 x6 x7 = if (decide (w64 (x2 - x0) > 13)) = true then some ((TToken.mk (Int.ofNat 0) (Int.ofNat 0) [] false false), (-1)) else if (decide (x1 > 1000000000000)) = true then some ((TToken.mk (Int.ofNat 0) (Int.ofNat 0) [] false false), (-1)) else some ((TToken.mk (Int.ofNat 2) x1 [] false false), x2) :=
  (den_run CC 40 (lbl CC 40 13) ⟨tmOf [(1, .int .i64 x0), (4, .ref 0 0), (8, .int .i64 x1), (9, .int .i64 x2)] 0 145, [.box 30 [.int .i64 x3, .int .i64 x4, .str x5, .bool x6, .bool x7] false], 0⟩ fun r => prjR GG [(.st 29), (.int .i64)] r.1).trans (by kernel_rfl)

theorem s_l02One_L21_eq (x0 : Int) (x1 : Int) (x2 : (List UInt8)) (x3 : Bool) (x4 : Bool) : s_l02One_L21 x0 x1 x2 x3 x4 = some ((TToken.mk (Int.ofNat 0) (Int.ofNat 0) [] false false), (-1)) :=
  (den_run CC 40 (lbl CC 40 21) ⟨tmOf [(4, .ref 0 0)] 0 145, [.box 30 [.int .i64 x0, .int .i64 x1, .str x2, .bool x3, .bool x4] false], 0⟩ fun r => prjR GG [(.st 29), (.int .i64)] r.1).trans (by kernel_rfl)

theorem s_l02One_L22_eq (x0 : (List UInt8)) (x1 : Int) (x2 : Int) (x3 : Int) (x4 : Int) (x5 : (List UInt8)) (x6 : Bool) (x7 : Bool) : s_l02One_L22 x0 x1 x2 x3 x4 x5 x6 x7 = ((cut x0 (w64 (x1 + 1)) (Option.getD (Option.some x2) (len x0))) : Option (List UInt8)).bind fun y200 => some ((TToken.mk (Int.ofNat 3) (Int.ofNat 0) y200 false false), (w64 (x2 + 1))) :=
  (den_run CC 40 (lbl CC 40 22) ⟨tmOf [(0, .str x0), (1, .int .i64 x1), (4, .ref 0 0), (10, .int .i64 x2)] 0 145, [.box 30 [.int .i64 x3, .int .i64 x4, .str x5, .bool x6, .bool x7] false], 0⟩ fun r => prjR GG [(.st 29), (.int .i64)] r.1).trans (by kernel_rfl)

theorem s_l02Operator_L11_eq : s_l02Operator_L11 = some (true) :=
  (den_run CC 51 (lbl CC 51 11) ⟨tmOf [] 0 14, [], 0⟩ fun r => prjR GG [.bool] r.1).trans (by kernel_rfl)

theorem s_l02Operator_L12_eq : s_l02Operator_L12 = some (false) :=
  (den_run CC 51 (lbl CC 51 12) ⟨tmOf [] 0 14, [], 0⟩ fun r => prjR GG [.bool] r.1).trans (by kernel_rfl)

theorem i_decimal_eq (x0 : Int) : i_decimal x0 = ((itoaS x0 10) : Option (List UInt8)).bind fun y200 => some y200 :=
  (den_run CC 42 (bodyT CC 42) ⟨tmOf [(0, .int .i64 x0)] 0 5, [], 0⟩ fun r => prjR GG [.str] r.1).trans (by kernel_rfl)

theorem i_QuoteString_eq (x0 : (List UInt8)) : i_QuoteString x0 = (i_CanQuote x0).bind fun r200 => if (!r200) = true then some [] else ((containsS x0 ([39])) : Option Bool).bind fun y198 => if y198 = true then ((app ([34]) x0) : Option (List UInt8)).bind fun y196 => ((app y196 ([34])) : Option (List UInt8)).bind fun y195 => some y195 else ((app ([39]) x0) : Option (List UInt8)).bind fun y196 => ((app y196 ([39])) : Option (List UInt8)).bind fun y195 => some y195 :=
  (den_run CC 43 (bodyT CC 43) ⟨tmOf [(0, .str x0)] 0 16, [], 0⟩ fun r => prjR GG [.str] r.1).trans (by kernel_rfl)

theorem i_PrintTokens_L8_v1_eq (x0 : (List TToken)) (x1 : (List TToken)) (x2 : Int) (x3 : Int) (x4 : (List Int)) (x5 : Int) (x6 : Int) (x7 : (List UInt8)) (x8 : Bool) (x9 : Bool) : i_PrintTokens_L8_v1 x0 x1 x2 x3 x4 x5 x6 x7 x8 x9 = ((app x4 (List.map (fun (b : UInt8) ↦ ib b) ([32]))) : Option (List Int)).bind fun y200 => i_PrintTokens_L9_v1 x0 x1 x2 x3 y200 x5 x6 x7 x8 x9 :=
  (den_run CC 8 (lbl CC 8 8) ⟨tmOf [(0, .sl (.st 29) x0), (3, .ref 0 0), (5, .ref 2 0), (10, .sl (.st 29) x1), (11, .int .i64 x2), (12, .int .i64 x3)] 0 37, [.box 46 [.ref 0 0, .arr 1] false, .arr 5 (.int .u8) x4 false, .box 30 [.int .i64 x5, .int .i64 x6, .str x7, .bool x8, .bool x9] false], 0⟩ fun r => prjR GG [.str] r.1).trans (by kernel_rfl)

theorem i_areAll_byte_L2__i_isNameByte_eq (x0 : (List Int)) (x1 : Int) (x2 : Int) : i_areAll_byte_L2__i_isNameByte x0 x1 x2 = if (decide (x2 < x1)) = true then ((idx x0 x2) : Option Int).bind fun y199 => (i_isNameByte y199).bind fun r198 => if (!r198) = true then some (false) else i_areAll_byte_L2__i_isNameByte x0 x1 (w64 (x2 + 1)) else some (true) :=
  (den_run CC 32 (lbl CC 32 2) ⟨tmOf [(1, .fn 35 []), (7, .sl (.int .u8) x0), (8, .int .i64 x1), (9, .int .i64 x2)] 0 18, [], 0⟩ fun r => prjR GG [.bool] r.1).trans (by kernel_rfl)

theorem s_l02NameEnd_L4_eq (x0 : (List UInt8)) (x1 : Int) : s_l02NameEnd_L4 x0 x1 = s_l02NameEnd_L3 x0 (w64 (x1 + 1)) :=
  (den_run CC 49 (lbl CC 49 4) ⟨tmOf [(0, .str x0), (1, .int .i64 x1)] 0 42, [], 0⟩ fun r => prjR GG [(.int .i64)] r.1).trans (by kernel_rfl)

theorem s_l02NameEnd_L5_eq (x0 : Int) : s_l02NameEnd_L5 x0 = some x0 :=
  (den_run CC 49 (lbl CC 49 5) ⟨tmOf [(1, .int .i64 x0)] 0 42, [], 0⟩ fun r => prjR GG [(.int .i64)] r.1).trans (by kernel_rfl)
end Go.Dv.U
