/- The functions of the program as equations on plain data, each checked by the kernel. -/
import Derived.Test.YtpafmohohdfkgaaDoorExa
set_option linter.all false
set_option linter.unusedVariables false
set_option linter.unusedSimpArgs false
namespace Go.Dv.U
open Go Go.Dv Go.Proofs
set_option maxRecDepth 100000
noncomputable def l_FnExactPrintExpr (x0 : TExpr) : Option (Bool) := (Den CC 3 (bodyT CC 3) ⟨tmOf [(0, .st 23 x0)] 0 27, [], 0⟩).bind fun r => prjR GG [.bool] r.1

noncomputable def l_szExpr (x0 : TExpr) (x1 : Int) : Option (Int) := (Den CC 7 (bodyT CC 7) ⟨tmOf [(0, .st 23 x0), (1, .int .i64 x1)] 0 19, [], 0⟩).bind fun r => prjR GG [(.int .i64)] r.1

noncomputable def l_toExpr (x0 : TExpr) : Option (TExpr) := (Den CC 9 (bodyT CC 9) ⟨tmOf [(0, .st 23 x0)] 0 18, [], 0⟩).bind fun r => prjR GG [(.st 23)] r.1

noncomputable def s_PrintExpr (x0 : TExpr) : Option ((List UInt8)) := (Den CC 8 (bodyT CC 8) ⟨tmOf [(0, .st 23 x0)] 0 6, [], 0⟩).bind fun r => prjR GG [.str] r.1

noncomputable def i_PrintExpr (x0 : TExpr) : Option ((List UInt8)) := (Den CC 10 (bodyT CC 10) ⟨tmOf [(0, .st 23 x0)] 0 8, [], 0⟩).bind fun r => prjR GG [.str] r.1

noncomputable def l_eqExpr (x0 : TExpr) (x1 : TExpr) : Option (Bool) := (Den CC 11 (bodyT CC 11) ⟨tmOf [(0, .st 23 x0), (1, .st 23 x1)] 0 26, [], 0⟩).bind fun r => prjR GG [.bool] r.1

noncomputable def l_szExprS (x0 : (List TExpr)) (x1 : Int) : Option (Int) := (Den CC 25 (bodyT CC 25) ⟨tmOf [(0, .sl (.st 23) x0), (1, .int .i64 x1)] 0 27, [], 0⟩).bind fun r => prjR GG [(.int .i64)] r.1

noncomputable def l_toExprS (x0 : (List TExpr)) : Option ((List TExpr)) := (Den CC 28 (bodyT CC 28) ⟨tmOf [(0, .sl (.st 23) x0)] 0 23, [], 0⟩).bind fun r => prjR GG [(.sl (.st 23))] r.1

noncomputable def s_l03Ok (x0 : Int) (x1 : Int) (x2 : (List UInt8)) (x3 : (List TExpr)) : Option (Bool) := (Den CC 26 (bodyT CC 26) ⟨tmOf [(0, .pc [.int .i64 x0, .int .i64 x1, .str x2, .sl (.st 23) x3])] 0 10, [], 0⟩).bind fun r => prjR GG [.bool] r.1

noncomputable def s_l03Print (x0 : Int) (x1 : Int) (x2 : (List UInt8)) (x3 : (List TExpr)) : Option ((List UInt8)) := (Den CC 27 (bodyT CC 27) ⟨tmOf [(0, .pc [.int .i64 x0, .int .i64 x1, .str x2, .sl (.st 23) x3])] 0 141, [], 0⟩).bind fun r => prjR GG [.str] r.1

noncomputable def i_ValidExpr (x0 : TExpr) : Option (Bool) := (Den CC 29 (bodyT CC 29) ⟨tmOf [(0, .st 23 x0)] 0 6, [], 0⟩).bind fun r => prjR GG [.bool] r.1

noncomputable def i_Expr_text (x0 : TExpr) : Option ((List UInt8)) := (Den CC 30 (bodyT CC 30) ⟨tmOf [(0, .st 23 x0)] 0 133, [], 0⟩).bind fun r => prjR GG [.str] r.1

noncomputable def l_eqExprS (x0 : (List TExpr)) (x1 : (List TExpr)) : Option (Bool) := (Den CC 31 (bodyT CC 31) ⟨tmOf [(0, .sl (.st 23) x0), (1, .sl (.st 23) x1)] 0 27, [], 0⟩).bind fun r => prjR GG [.bool] r.1

noncomputable def l_szExprS_L5 (x0 : (List TExpr)) (x1 : Int) (x2 : Int) : Option (Int) := (Den CC 25 (lbl CC 25 5) ⟨tmOf [(0, .sl (.st 23) x0), (1, .int .i64 x1), (5, .int .i64 x2)] 0 27, [], 0⟩).bind fun r => prjR GG [(.int .i64)] r.1

noncomputable def l_toExprS_L3 (x0 : (List TExpr)) (x1 : Int) (x2 : (List TExpr)) : Option ((List TExpr)) := (Den CC 28 (lbl CC 28 3) ⟨tmOf [(0, .sl (.st 23) x0), (3, .arr 0), (4, .int .i64 x1)] 0 23, [.arr 29 (.st 23) x2 false], 0⟩).bind fun r => prjR GG [(.sl (.st 23))] r.1

noncomputable def s_l03Size (x0 : Int) (x1 : Int) (x2 : (List UInt8)) (x3 : (List TExpr)) : Option (Int) := (Den CC 50 (bodyT CC 50) ⟨tmOf [(0, .pc [.int .i64 x0, .int .i64 x1, .str x2, .sl (.st 23) x3])] 0 28, [], 0⟩).bind fun r => prjR GG [(.int .i64)] r.1

noncomputable def s_l03Nodes (x0 : Int) (x1 : Int) (x2 : (List UInt8)) (x3 : (List TExpr)) : Option (Bool) := (Den CC 51 (bodyT CC 51) ⟨tmOf [(0, .pc [.int .i64 x0, .int .i64 x1, .str x2, .sl (.st 23) x3])] 0 24, [], 0⟩).bind fun r => prjR GG [.bool] r.1

noncomputable def s_QuoteString (x0 : (List UInt8)) : Option ((List UInt8)) := (Den CC 52 (bodyT CC 52) ⟨tmOf [(0, .str x0)] 0 14, [], 0⟩).bind fun r => prjR GG [.str] r.1

noncomputable def s_l02Int (x0 : Int) : Option ((List UInt8)) := (Den CC 53 (bodyT CC 53) ⟨tmOf [(0, .int .i64 x0)] 0 29, [], 0⟩).bind fun r => prjR GG [.str] r.1

noncomputable def s_l03At (x0 : Int) (x1 : Int) (x2 : (List UInt8)) (x3 : (List TExpr)) (x4 : Int) : Option ((List UInt8)) := (Den CC 54 (bodyT CC 54) ⟨tmOf [(0, .pc [.int .i64 x0, .int .i64 x1, .str x2, .sl (.st 23) x3]), (1, .int .i64 x4)] 0 15, [], 0⟩).bind fun r => prjR GG [.str] r.1

noncomputable def s_l03Print_L23 (x0 : Int) (x1 : Int) (x2 : (List UInt8)) (x3 : (List TExpr)) (x4 : (List UInt8)) (x5 : Int) : Option ((List UInt8)) := (Den CC 27 (lbl CC 27 23) ⟨tmOf [(0, .pc [.int .i64 x0, .int .i64 x1, .str x2, .sl (.st 23) x3]), (3, .str x4), (4, .int .i64 x5)] 0 141, [], 0⟩).bind fun r => prjR GG [.str] r.1

noncomputable def s_l03Level (x0 : Int) (x1 : Int) (x2 : (List UInt8)) (x3 : (List TExpr)) : Option (Int) := (Den CC 55 (bodyT CC 55) ⟨tmOf [(0, .pc [.int .i64 x0, .int .i64 x1, .str x2, .sl (.st 23) x3])] 0 26, [], 0⟩).bind fun r => prjR GG [(.int .i64)] r.1

noncomputable def s_l03Sign (x0 : Int) : Option ((List UInt8)) := (Den CC 56 (bodyT CC 56) ⟨tmOf [(0, .int .i64 x0)] 0 18, [], 0⟩).bind fun r => prjR GG [.str] r.1

noncomputable def i_countNodes (x0 : TExpr) (x1 : Int) : Option (Int) := (Den CC 57 (bodyT CC 57) ⟨tmOf [(0, .st 23 x0), (1, .int .i64 x1)] 0 30, [], 0⟩).bind fun r => prjR GG [(.int .i64)] r.1

noncomputable def i_level (x0 : Int) : Option (Int) := (Den CC 58 (bodyT CC 58) ⟨tmOf [(0, .int .i64 x0)] 0 23, [], 0⟩).bind fun r => prjR GG [(.int .i64)] r.1

noncomputable def i_QuoteString (x0 : (List UInt8)) : Option ((List UInt8)) := (Den CC 59 (bodyT CC 59) ⟨tmOf [(0, .str x0)] 0 16, [], 0⟩).bind fun r => prjR GG [.str] r.1

noncomputable def i_decimal (x0 : Int) : Option ((List UInt8)) := (Den CC 60 (bodyT CC 60) ⟨tmOf [(0, .int .i64 x0)] 0 5, [], 0⟩).bind fun r => prjR GG [.str] r.1

noncomputable def i_Expr_text_L11 (x0 : (List TExpr)) (x1 : Int) (x2 : Int) (x3 : Int) (x4 : Int) (x5 : (List UInt8)) (x6 : (List TExpr)) (x7 : (List (List UInt8))) : Option ((List UInt8)) := (Den CC 30 (lbl CC 30 11) ⟨tmOf [(1, .ref 0 0), (4, .arr 1), (36, .sl (.st 23) x0), (37, .int .i64 x1), (38, .int .i64 x2)] 0 133, [.box [.int .i64 x3, .int .i64 x4, .str x5, .sl (.st 23) x6] false, .arr 9 .str x7 false], 0⟩).bind fun r => prjR GG [.str] r.1

noncomputable def i_operand (x0 : TExpr) (x1 : Int) : Option ((List UInt8)) := (Den CC 62 (bodyT CC 62) ⟨tmOf [(0, .st 23 x0), (1, .int .i64 x1)] 0 16, [], 0⟩).bind fun r => prjR GG [.str] r.1

noncomputable def i_isNamed (x0 : Int) : Option (Bool) := (Den CC 63 (bodyT CC 63) ⟨tmOf [(0, .int .i64 x0)] 0 5, [], 0⟩).bind fun r => prjR GG [.bool] r.1

noncomputable def i_symbol (x0 : Int) : Option ((List UInt8)) := (Den CC 64 (bodyT CC 64) ⟨tmOf [(0, .int .i64 x0)] 0 8, [], 0⟩).bind fun r => prjR GG [.str] r.1

noncomputable def l_eqExprS_L4 (x0 : (List TExpr)) (x1 : (List TExpr)) (x2 : Int) : Option (Bool) := (Den CC 31 (lbl CC 31 4) ⟨tmOf [(0, .sl (.st 23) x0), (1, .sl (.st 23) x1), (5, .int .i64 x2)] 0 27, [], 0⟩).bind fun r => prjR GG [.bool] r.1

noncomputable def s_l00In (x0 : Int) (x1 : Int) (x2 : Int) : Option (Bool) := (Den CC 76 (bodyT CC 76) ⟨tmOf [(0, .int .i64 x0), (1, .int .i64 x1), (2, .int .i64 x2)] 0 15, [], 0⟩).bind fun r => prjR GG [.bool] r.1

noncomputable def i_within (x0 : Int) (x1 : Int) (x2 : Int) : Option (Bool) := (Den CC 78 (bodyT CC 78) ⟨tmOf [(0, .int .i64 x0), (1, .int .i64 x1), (2, .int .i64 x2)] 0 15, [], 0⟩).bind fun r => prjR GG [.bool] r.1

noncomputable def s_l03Size_L3 (x0 : Int) (x1 : Int) (x2 : (List UInt8)) (x3 : (List TExpr)) (x4 : Int) (x5 : Int) : Option (Int) := (Den CC 50 (lbl CC 50 3) ⟨tmOf [(0, .pc [.int .i64 x0, .int .i64 x1, .str x2, .sl (.st 23) x3]), (3, .int .i64 x4), (4, .int .i64 x5)] 0 28, [], 0⟩).bind fun r => prjR GG [(.int .i64)] r.1

noncomputable def s_l03Shape (x0 : Int) (x1 : Int) (x2 : (List UInt8)) (x3 : (List TExpr)) : Option (Bool) := (Den CC 89 (bodyT CC 89) ⟨tmOf [(0, .pc [.int .i64 x0, .int .i64 x1, .str x2, .sl (.st 23) x3])] 0 145, [], 0⟩).bind fun r => prjR GG [.bool] r.1

noncomputable def s_l03Nodes_L4 (x0 : Int) (x1 : Int) (x2 : (List UInt8)) (x3 : (List TExpr)) (x4 : Int) : Option (Bool) := (Den CC 51 (lbl CC 51 4) ⟨tmOf [(0, .pc [.int .i64 x0, .int .i64 x1, .str x2, .sl (.st 23) x3]), (3, .int .i64 x4)] 0 24, [], 0⟩).bind fun r => prjR GG [.bool] r.1

noncomputable def s_CanQuote (x0 : (List UInt8)) : Option (Bool) := (Den CC 90 (bodyT CC 90) ⟨tmOf [(0, .str x0)] 0 19, [], 0⟩).bind fun r => prjR GG [.bool] r.1

noncomputable def s_l02Holds (x0 : (List UInt8)) (x1 : Int) : Option (Bool) := (Den CC 91 (bodyT CC 91) ⟨tmOf [(0, .str x0), (1, .int .u8 x1)] 0 17, [], 0⟩).bind fun r => prjR GG [.bool] r.1

noncomputable def s_l02Int_L4 (x0 : Int) (x1 : (List UInt8)) : Option ((List UInt8)) := (Den CC 53 (lbl CC 53 4) ⟨tmOf [(0, .int .i64 x0), (3, .str x1)] 0 29, [], 0⟩).bind fun r => prjR GG [.str] r.1

noncomputable def s_l03Level_L11 : Option (Int) := (Den CC 55 (lbl CC 55 11) ⟨tmOf [] 0 26, [], 0⟩).bind fun r => prjR GG [(.int .i64)] r.1

noncomputable def s_l03Level_L12 (x0 : Int) : Option (Int) := (Den CC 55 (lbl CC 55 12) ⟨tmOf [(6, .int .i64 x0)] 0 26, [], 0⟩).bind fun r => prjR GG [(.int .i64)] r.1

noncomputable def i_Expr_hasFields (x0 : TExpr) : Option (Bool) := (Den CC 92 (bodyT CC 92) ⟨tmOf [(0, .st 23 x0)] 0 116, [], 0⟩).bind fun r => prjR GG [.bool] r.1

noncomputable def i_countNodes_L5 (x0 : Int) (x1 : (List TExpr)) (x2 : Int) (x3 : Int) : Option (Int) := (Den CC 57 (lbl CC 57 5) ⟨tmOf [(1, .int .i64 x0), (17, .sl (.st 23) x1), (18, .int .i64 x2), (19, .int .i64 x3)] 0 30, [], 0⟩).bind fun r => prjR GG [(.int .i64)] r.1

noncomputable def i_level_L11 : Option (Int) := (Den CC 58 (lbl CC 58 11) ⟨tmOf [] 0 23, [], 0⟩).bind fun r => prjR GG [(.int .i64)] r.1

noncomputable def i_level_L12 (x0 : Int) : Option (Int) := (Den CC 58 (lbl CC 58 12) ⟨tmOf [(3, .int .i64 x0)] 0 23, [], 0⟩).bind fun r => prjR GG [(.int .i64)] r.1

noncomputable def i_CanQuote (x0 : (List UInt8)) : Option (Bool) := (Den CC 93 (bodyT CC 93) ⟨tmOf [(0, .str x0)] 0 19, [], 0⟩).bind fun r => prjR GG [.bool] r.1

noncomputable def s_IsName (x0 : (List UInt8)) : Option (Bool) := (Den CC 77 (bodyT CC 77) ⟨tmOf [(0, .str x0)] 0 17, [], 0⟩).bind fun r => prjR GG [.bool] r.1

noncomputable def i_IsName (x0 : (List UInt8)) : Option (Bool) := (Den CC 80 (bodyT CC 80) ⟨tmOf [(0, .str x0)] 0 21, [], 0⟩).bind fun r => prjR GG [.bool] r.1

noncomputable def s_l03Shape_L13 (x0 : Int) (x1 : Int) (x2 : (List UInt8)) (x3 : (List TExpr)) (x4 : Int) : Option (Bool) := (Den CC 89 (lbl CC 89 13) ⟨tmOf [(0, .pc [.int .i64 x0, .int .i64 x1, .str x2, .sl (.st 23) x3]), (3, .int .i64 x4)] 0 145, [], 0⟩).bind fun r => prjR GG [.bool] r.1

noncomputable def s_l03Shape_L14 (x0 : Int) (x1 : Int) (x2 : (List UInt8)) (x3 : (List TExpr)) (x4 : Bool) (x5 : Int) : Option (Bool) := (Den CC 89 (lbl CC 89 14) ⟨tmOf [(0, .pc [.int .i64 x0, .int .i64 x1, .str x2, .sl (.st 23) x3]), (4, .bool x4), (8, .int .i64 x5)] 0 145, [], 0⟩).bind fun r => prjR GG [.bool] r.1

noncomputable def s_l01Printable (x0 : (List UInt8)) (x1 : Bool) : Option (Bool) := (Den CC 112 (bodyT CC 112) ⟨tmOf [(0, .str x0), (1, .bool x1)] 0 32, [], 0⟩).bind fun r => prjR GG [.bool] r.1

noncomputable def s_l02Holds_L2 (x0 : (List UInt8)) (x1 : Int) (x2 : Int) : Option (Bool) := (Den CC 91 (lbl CC 91 2) ⟨tmOf [(0, .str x0), (1, .int .u8 x1), (5, .int .i64 x2)] 0 17, [], 0⟩).bind fun r => prjR GG [.bool] r.1

noncomputable def s_l03Level_L20 : Option (Int) := (Den CC 55 (lbl CC 55 20) ⟨tmOf [] 0 26, [], 0⟩).bind fun r => prjR GG [(.int .i64)] r.1

noncomputable def s_l03Level_L21 : Option (Int) := (Den CC 55 (lbl CC 55 21) ⟨tmOf [] 0 26, [], 0⟩).bind fun r => prjR GG [(.int .i64)] r.1

noncomputable def i_isNumber (x0 : Int) : Option (Bool) := (Den CC 113 (bodyT CC 113) ⟨tmOf [(0, .int .i64 x0)] 0 5, [], 0⟩).bind fun r => prjR GG [.bool] r.1

noncomputable def i_Expr_hasFields_L11 : Option (Bool) := (Den CC 92 (lbl CC 92 11) ⟨tmOf [] 0 116, [], 0⟩).bind fun r => prjR GG [.bool] r.1

noncomputable def i_Expr_hasFields_L12 (x0 : Int) (x1 : Int) (x2 : Int) (x3 : (List UInt8)) (x4 : (List TExpr)) : Option (Bool) := (Den CC 92 (lbl CC 92 12) ⟨tmOf [(1, .ref 0 0), (3, .int .i64 x0)] 0 116, [.box [.int .i64 x1, .int .i64 x2, .str x3, .sl (.st 23) x4] false], 0⟩).bind fun r => prjR GG [.bool] r.1

noncomputable def i_level_L20 : Option (Int) := (Den CC 58 (lbl CC 58 20) ⟨tmOf [] 0 23, [], 0⟩).bind fun r => prjR GG [(.int .i64)] r.1

noncomputable def i_level_L21 : Option (Int) := (Den CC 58 (lbl CC 58 21) ⟨tmOf [] 0 23, [], 0⟩).bind fun r => prjR GG [(.int .i64)] r.1

noncomputable def i_isPlainText (x0 : (List UInt8)) : Option (Bool) := (Den CC 115 (bodyT CC 115) ⟨tmOf [(0, .str x0)] 0 6, [], 0⟩).bind fun r => prjR GG [.bool] r.1

noncomputable def s_l02NameEnd (x0 : (List UInt8)) (x1 : Int) : Option (Int) := (Den CC 103 (bodyT CC 103) ⟨tmOf [(0, .str x0), (1, .int .i64 x1)] 0 42, [], 0⟩).bind fun r => prjR GG [(.int .i64)] r.1

noncomputable def i_isLetter (x0 : Int) : Option (Bool) := (Den CC 104 (bodyT CC 104) ⟨tmOf [(0, .int .u8 x0)] 0 17, [], 0⟩).bind fun r => prjR GG [.bool] r.1

noncomputable def i_areAll_byte__i_isNameByte (x0 : (List Int)) : Option (Bool) := (Den CC 105 (bodyT CC 105) ⟨tmOf [(0, .sl (.int .u8) x0), (1, .fn 106 [])] 0 18, [], 0⟩).bind fun r => prjR GG [.bool] r.1

noncomputable def s_l03Shape_L32 (x0 : Int) (x1 : Int) (x2 : (List UInt8)) (x3 : (List TExpr)) (x4 : Int) (x5 : Bool) : Option (Bool) := (Den CC 89 (lbl CC 89 32) ⟨tmOf [(0, .pc [.int .i64 x0, .int .i64 x1, .str x2, .sl (.st 23) x3]), (3, .int .i64 x4), (4, .bool x5)] 0 145, [], 0⟩).bind fun r => prjR GG [.bool] r.1

noncomputable def s_l03Shape_L26 (x0 : Int) (x1 : Int) (x2 : (List UInt8)) (x3 : (List TExpr)) (x4 : Bool) : Option (Bool) := (Den CC 89 (lbl CC 89 26) ⟨tmOf [(0, .pc [.int .i64 x0, .int .i64 x1, .str x2, .sl (.st 23) x3]), (4, .bool x4)] 0 145, [], 0⟩).bind fun r => prjR GG [.bool] r.1

noncomputable def s_l03Shape_L27 (x0 : Int) (x1 : Int) (x2 : (List UInt8)) (x3 : (List TExpr)) (x4 : Bool) (x5 : Int) : Option (Bool) := (Den CC 89 (lbl CC 89 27) ⟨tmOf [(0, .pc [.int .i64 x0, .int .i64 x1, .str x2, .sl (.st 23) x3]), (4, .bool x4), (8, .int .i64 x5)] 0 145, [], 0⟩).bind fun r => prjR GG [.bool] r.1

noncomputable def s_l01Printable_L2 (x0 : (List UInt8)) (x1 : Bool) (x2 : Int) : Option (Bool) := (Den CC 112 (lbl CC 112 2) ⟨tmOf [(0, .str x0), (1, .bool x1), (5, .int .i64 x2)] 0 32, [], 0⟩).bind fun r => prjR GG [.bool] r.1

noncomputable def i_Expr_hasFields_L18 (x0 : Int) : Option (Bool) := (Den CC 92 (lbl CC 92 18) ⟨tmOf [(3, .int .i64 x0)] 0 116, [], 0⟩).bind fun r => prjR GG [.bool] r.1

noncomputable def i_Expr_hasFields_L19 (x0 : Int) (x1 : Int) (x2 : Int) (x3 : (List UInt8)) (x4 : (List TExpr)) : Option (Bool) := (Den CC 92 (lbl CC 92 19) ⟨tmOf [(1, .ref 0 0), (3, .int .i64 x0)] 0 116, [.box [.int .i64 x1, .int .i64 x2, .str x3, .sl (.st 23) x4] false], 0⟩).bind fun r => prjR GG [.bool] r.1

noncomputable def i_areAll_byte__i_isPlain (x0 : (List Int)) : Option (Bool) := (Den CC 105 (bodyT CC 105) ⟨tmOf [(0, .sl (.int .u8) x0), (1, .fn 134 [])] 0 18, [], 0⟩).bind fun r => prjR GG [.bool] r.1

noncomputable def s_l02Letter (x0 : Int) : Option (Bool) := (Den CC 124 (bodyT CC 124) ⟨tmOf [(0, .int .u8 x0)] 0 17, [], 0⟩).bind fun r => prjR GG [.bool] r.1

noncomputable def s_l02NameEnd_L3 (x0 : (List UInt8)) (x1 : Int) : Option (Int) := (Den CC 103 (lbl CC 103 3) ⟨tmOf [(0, .str x0), (1, .int .i64 x1)] 0 42, [], 0⟩).bind fun r => prjR GG [(.int .i64)] r.1

noncomputable def i_areAll_byte_L2__i_isNameByte (x0 : (List Int)) (x1 : Int) (x2 : Int) : Option (Bool) := (Den CC 105 (lbl CC 105 2) ⟨tmOf [(1, .fn 106 []), (7, .sl (.int .u8) x0), (8, .int .i64 x1), (9, .int .i64 x2)] 0 18, [], 0⟩).bind fun r => prjR GG [.bool] r.1

noncomputable def s_l03Shape_L31 : Option (Bool) := (Den CC 89 (lbl CC 89 31) ⟨tmOf [] 0 145, [], 0⟩).bind fun r => prjR GG [.bool] r.1

noncomputable def s_l01Printable_L5 : Option (Bool) := (Den CC 112 (lbl CC 112 5) ⟨tmOf [] 0 32, [], 0⟩).bind fun r => prjR GG [.bool] r.1

noncomputable def s_l01Printable_L3 (x0 : (List UInt8)) (x1 : Bool) (x2 : Int) : Option (Bool) := (Den CC 112 (lbl CC 112 3) ⟨tmOf [(0, .str x0), (1, .bool x1), (5, .int .i64 x2)] 0 32, [], 0⟩).bind fun r => prjR GG [.bool] r.1

noncomputable def i_isBinary (x0 : Int) : Option (Bool) := (Den CC 114 (bodyT CC 114) ⟨tmOf [(0, .int .i64 x0)] 0 5, [], 0⟩).bind fun r => prjR GG [.bool] r.1

noncomputable def i_areAll_byte_L2__i_isPlain (x0 : (List Int)) (x1 : Int) (x2 : Int) : Option (Bool) := (Den CC 105 (lbl CC 105 2) ⟨tmOf [(1, .fn 134 []), (7, .sl (.int .u8) x0), (8, .int .i64 x1), (9, .int .i64 x2)] 0 18, [], 0⟩).bind fun r => prjR GG [.bool] r.1

noncomputable def s_l02NameEnd_L4 (x0 : (List UInt8)) (x1 : Int) : Option (Int) := (Den CC 103 (lbl CC 103 4) ⟨tmOf [(0, .str x0), (1, .int .i64 x1)] 0 42, [], 0⟩).bind fun r => prjR GG [(.int .i64)] r.1

noncomputable def s_l02Digit (x0 : Int) : Option (Bool) := (Den CC 125 (bodyT CC 125) ⟨tmOf [(0, .int .u8 x0)] 0 9, [], 0⟩).bind fun r => prjR GG [.bool] r.1

noncomputable def s_l02NameEnd_L5 (x0 : Int) : Option (Int) := (Den CC 103 (lbl CC 103 5) ⟨tmOf [(1, .int .i64 x0)] 0 42, [], 0⟩).bind fun r => prjR GG [(.int .i64)] r.1

noncomputable def i_isNameByte (x0 : Int) : Option (Bool) := (Den CC 106 (bodyT CC 106) ⟨tmOf [(0, .int .u8 x0)] 0 13, [], 0⟩).bind fun r => prjR GG [.bool] r.1

noncomputable def i_isPlain (x0 : Int) : Option (Bool) := (Den CC 134 (bodyT CC 134) ⟨tmOf [(0, .int .u8 x0)] 0 9, [], 0⟩).bind fun r => prjR GG [.bool] r.1

noncomputable def i_isDigit (x0 : Int) : Option (Bool) := (Den CC 126 (bodyT CC 126) ⟨tmOf [(0, .int .u8 x0)] 0 9, [], 0⟩).bind fun r => prjR GG [.bool] r.1

theorem l_FnExactPrintExpr_eq (x0 : TExpr) : l_FnExactPrintExpr x0 = (l_szExpr x0.re 1048576).bind fun r200 => if (decide (r200 < 0)) = true then some (true) else (l_toExpr x0.re).bind fun r198 => (s_PrintExpr r198).bind fun r197 => (l_toExpr x0.re).bind fun r196 => (i_PrintExpr r196.re).bind fun r195 => if (!r195 == r197) = true then some (false) else (l_toExpr x0.re).bind fun r193 => (l_eqExpr r196.re r193).bind fun r192 => if (!r192) = true then some (false) else some (true) :=
  (den_run CC 3 (bodyT CC 3) ⟨tmOf [(0, .st 23 x0)] 0 27, [], 0⟩ fun r => prjR GG [.bool] r.1).trans (by kernel_rfl)

theorem l_szExpr_eq (x0 : TExpr) (x1 : Int) : l_szExpr x0 x1 = if (decide (w64 (x1 - len x0.fText) < 0)) = true then some (-1) else (l_szExprS x0.fKids (w64 (x1 - len x0.fText))).bind fun r199 => if (decide (r199 < 0)) = true then some (-1) else some r199 :=
  (den_run CC 7 (bodyT CC 7) ⟨tmOf [(0, .st 23 x0), (1, .int .i64 x1)] 0 19, [], 0⟩ fun r => prjR GG [(.int .i64)] r.1).trans (by kernel_rfl)

theorem l_toExpr_eq (x0 : TExpr) : l_toExpr x0 = (l_toExprS x0.fKids).bind fun r200 => some (TExpr.mk x0.fKind x0.fNum x0.fText r200) :=
  (den_run CC 9 (bodyT CC 9) ⟨tmOf [(0, .st 23 x0)] 0 18, [], 0⟩ fun r => prjR GG [(.st 23)] r.1).trans (by kernel_rfl)

theorem s_PrintExpr_eq (x0 : TExpr) : s_PrintExpr x0 = (s_l03Ok x0.fKind x0.fNum x0.fText x0.fKids).bind fun r200 => if (!r200) = true then some [] else (s_l03Print x0.fKind x0.fNum x0.fText x0.fKids).bind fun r198 => some r198 :=
  (den_run CC 8 (bodyT CC 8) ⟨tmOf [(0, .st 23 x0)] 0 6, [], 0⟩ fun r => prjR GG [.str] r.1).trans (by kernel_rfl)

theorem i_PrintExpr_eq (x0 : TExpr) : i_PrintExpr x0 = (i_ValidExpr x0.re).bind fun r200 => if (!r200) = true then some [] else (i_Expr_text x0.re).bind fun r198 => some r198 :=
  (den_run CC 10 (bodyT CC 10) ⟨tmOf [(0, .st 23 x0)] 0 8, [], 0⟩ fun r => prjR GG [.str] r.1).trans (by kernel_rfl)

theorem l_eqExpr_eq (x0 : TExpr) (x1 : TExpr) : l_eqExpr x0 x1 = if (x0.fKind != x1.fKind) = true then some (false) else if (x0.fNum != x1.fNum) = true then some (false) else if (!x0.fText == x1.fText) = true then some (false) else (l_eqExprS x0.fKids x1.fKids).bind fun r197 => if (!r197) = true then some (false) else some (true) :=
  (den_run CC 11 (bodyT CC 11) ⟨tmOf [(0, .st 23 x0), (1, .st 23 x1)] 0 26, [], 0⟩ fun r => prjR GG [.bool] r.1).trans (by kernel_rfl)

theorem l_szExprS_eq (x0 : (List TExpr)) (x1 : Int) : l_szExprS x0 x1 = if (decide (w64 (x1 - len x0) < 0)) = true then some (-1) else l_szExprS_L5 x0 (w64 (x1 - len x0)) 0 :=
  (den_run CC 25 (bodyT CC 25) ⟨tmOf [(0, .sl (.st 23) x0), (1, .int .i64 x1)] 0 27, [], 0⟩ fun r => prjR GG [(.int .i64)] r.1).trans (by kernel_rfl)

theorem l_toExprS_eq (x0 : (List TExpr)) : l_toExprS x0 = ((mk (len x0) (TExpr.mk (Int.ofNat 0) (Int.ofNat 0) [] [])) : Option (List TExpr)).bind fun y200 => l_toExprS_L3 x0 0 y200 :=
  (den_run CC 28 (bodyT CC 28) ⟨tmOf [(0, .sl (.st 23) x0)] 0 23, [], 0⟩ fun r => prjR GG [(.sl (.st 23))] r.1).trans (by kernel_rfl)

theorem s_l03Ok_eq (x0 : Int) (x1 : Int) (x2 : (List UInt8)) (x3 : (List TExpr)) : s_l03Ok x0 x1 x2 x3 = (s_l03Size x0 x1 x2 x3).bind fun r200 => if (decide (r200 ≤ 60)) = true then (s_l03Nodes x0 x1 x2 x3).bind fun r198 => some r198 else some (false) :=
  (den_run CC 26 (bodyT CC 26) ⟨tmOf [(0, .pc [.int .i64 x0, .int .i64 x1, .str x2, .sl (.st 23) x3])] 0 10, [], 0⟩ fun r => prjR GG [.bool] r.1).trans (by kernel_rfl)

theorem s_l03Print_eq (x0 : Int) (x1 : Int) (x2 : (List UInt8)) (x3 : (List TExpr)) : s_l03Print x0 x1 x2 x3 = if (x0 == 1) = true then (s_QuoteString x2).bind fun r199 => some r199 else if (x0 == 2) = true then (s_l02Int x1).bind fun r198 => some r198 else if (x0 == 3) = true then some x2 else if (x0 == 16) = true then ((app ([46]) x2) : Option (List UInt8)).bind fun y196 => some y196 else if (x0 == 17) = true then ((app ([42]) x2) : Option (List UInt8)).bind fun y195 => some y195 else if (x0 == 18) = true then ((app ([64]) x2) : Option (List UInt8)).bind fun y194 => some y194 else if (x0 == 14) = true then ((idx x3 0) : Option TExpr).bind fun y193 => (s_l03At y193.fKind y193.fNum y193.fText y193.fKids 6).bind fun r192 => ((app ([45]) r192) : Option (List UInt8)).bind fun y191 => some y191 else if (x0 == 15) = true then ((idx x3 0) : Option TExpr).bind fun y192 => (s_l03At y192.fKind y192.fNum y192.fText y192.fKids 6).bind fun r191 => ((app ([36]) r191) : Option (List UInt8)).bind fun y190 => some y190 else if (x0 == 5) = true then ((idx x3 0) : Option TExpr).bind fun y191 => (s_l03At y191.fKind y191.fNum y191.fText y191.fKids 7).bind fun r190 => ((app r190 ([60])) : Option (List UInt8)).bind fun y189 => ((idx x3 1) : Option TExpr).bind fun y188 => (s_l03Print y188.fKind y188.fNum y188.fText y188.fKids).bind fun r187 => ((app y189 r187) : Option (List UInt8)).bind fun y186 => ((app y186 ([62])) : Option (List UInt8)).bind fun y185 => some y185 else if (x0 == 4) = true then ((app x2 ([40])) : Option (List UInt8)).bind fun y190 => s_l03Print_L23 x0 x1 x2 x3 y190 0 else (s_l03Level x0 x1 x2 x3).bind fun r190 => ((idx x3 0) : Option TExpr).bind fun y189 => (s_l03At y189.fKind y189.fNum y189.fText y189.fKids r190).bind fun r188 => (s_l03Sign x0).bind fun r187 => ((app r188 r187) : Option (List UInt8)).bind fun y186 => ((idx x3 1) : Option TExpr).bind fun y185 => (s_l03At y185.fKind y185.fNum y185.fText y185.fKids (w64 (r190 + 1))).bind fun r184 => ((app y186 r184) : Option (List UInt8)).bind fun y183 => some y183 :=
  (den_run CC 27 (bodyT CC 27) ⟨tmOf [(0, .pc [.int .i64 x0, .int .i64 x1, .str x2, .sl (.st 23) x3])] 0 141, [], 0⟩ fun r => prjR GG [.str] r.1).trans (by kernel_rfl)

theorem i_ValidExpr_eq (x0 : TExpr) : i_ValidExpr x0 = (i_countNodes x0.re 0).bind fun r200 => some (decide (r200 ≤ 60)) :=
  (den_run CC 29 (bodyT CC 29) ⟨tmOf [(0, .st 23 x0)] 0 6, [], 0⟩ fun r => prjR GG [.bool] r.1).trans (by kernel_rfl)

theorem i_Expr_text_eq (x0 : TExpr) : i_Expr_text x0 = (i_level x0.fKind).bind fun r200 => if (x0.fKind == 1) = true then (i_QuoteString x0.fText).bind fun r198 => some r198 else if (x0.fKind == 2) = true then (i_decimal x0.fNum).bind fun r197 => some r197 else if (x0.fKind == 3) = true then some x0.fText else if (x0.fKind == 4) = true then i_Expr_text_L11 x0.fKids (len x0.fKids) 0 x0.fKind x0.fNum x0.fText x0.fKids ([]) else if (x0.fKind == 5) = true then ((idx x0.fKids 0) : Option TExpr).bind fun y194 => (i_operand y194.re 7).bind fun r193 => ((app r193 ([60])) : Option (List UInt8)).bind fun y192 => ((idx x0.fKids 1) : Option TExpr).bind fun y191 => (i_Expr_text y191.re).bind fun r190 => ((app y192 r190) : Option (List UInt8)).bind fun y189 => ((app y189 ([62])) : Option (List UInt8)).bind fun y188 => some y188 else (i_isNamed x0.fKind).bind fun r194 => if r194 = true then (i_symbol x0.fKind).bind fun r192 => ((app r192 x0.fText) : Option (List UInt8)).bind fun y191 => some y191 else if (r200 == 6) = true then (i_symbol x0.fKind).bind fun r191 => ((idx x0.fKids 0) : Option TExpr).bind fun y190 => (i_operand y190.re 6).bind fun r189 => ((app r191 r189) : Option (List UInt8)).bind fun y188 => some y188 else if (x0.fKind == 7) = true then ((idx x0.fKids 0) : Option TExpr).bind fun y190 => (i_operand y190.re r200).bind fun r189 => ((app r189 ([32])) : Option (List UInt8)).bind fun y188 => ((idx x0.fKids 1) : Option TExpr).bind fun y187 => (i_operand y187.re (w64 (r200 + 1))).bind fun r186 => ((app y188 r186) : Option (List UInt8)).bind fun y185 => some y185 else ((idx x0.fKids 0) : Option TExpr).bind fun y190 => (i_operand y190.re r200).bind fun r189 => ((app r189 ([32])) : Option (List UInt8)).bind fun y188 => (i_symbol x0.fKind).bind fun r187 => ((app y188 r187) : Option (List UInt8)).bind fun y186 => ((app y186 ([32])) : Option (List UInt8)).bind fun y185 => ((idx x0.fKids 1) : Option TExpr).bind fun y184 => (i_operand y184.re (w64 (r200 + 1))).bind fun r183 => ((app y185 r183) : Option (List UInt8)).bind fun y182 => some y182 :=
  (den_run CC 30 (bodyT CC 30) ⟨tmOf [(0, .st 23 x0)] 0 133, [], 0⟩ fun r => prjR GG [.str] r.1).trans (by kernel_rfl)

theorem l_eqExprS_eq (x0 : (List TExpr)) (x1 : (List TExpr)) : l_eqExprS x0 x1 = if (len x0 != len x1) = true then some (false) else l_eqExprS_L4 x0 x1 0 :=
  (den_run CC 31 (bodyT CC 31) ⟨tmOf [(0, .sl (.st 23) x0), (1, .sl (.st 23) x1)] 0 27, [], 0⟩ fun r => prjR GG [.bool] r.1).trans (by kernel_rfl)

theorem l_szExprS_L5_eq (x0 : (List TExpr)) (x1 : Int) (x2 : Int) : l_szExprS_L5 x0 x1 x2 = if (decide (x2 < len x0)) = true then ((idx x0 x2) : Option TExpr).bind fun y199 => (l_szExpr y199.re x1).bind fun r198 => if (decide (r198 < 0)) = true then some (-1) else l_szExprS_L5 x0 r198 (w64 (x2 + 1)) else some x1 :=
  (den_run CC 25 (lbl CC 25 5) ⟨tmOf [(0, .sl (.st 23) x0), (1, .int .i64 x1), (5, .int .i64 x2)] 0 27, [], 0⟩ fun r => prjR GG [(.int .i64)] r.1).trans (by kernel_rfl)

theorem l_toExprS_L3_eq (x0 : (List TExpr)) (x1 : Int) (x2 : (List TExpr)) : l_toExprS_L3 x0 x1 x2 = if (decide (x1 < len x0)) = true then ((idx x0 x1) : Option TExpr).bind fun y199 => (l_toExpr y199.re).bind fun r198 => ((idx x2 x1) : Option TExpr).bind fun y197 => ((x2[Int.toNat x1]?) : Option TExpr).bind fun y196 => l_toExprS_L3 x0 (w64 (x1 + 1)) (upd x2 (Int.toNat x1) r198.re) else some x2 :=
  (den_run CC 28 (lbl CC 28 3) ⟨tmOf [(0, .sl (.st 23) x0), (3, .arr 0), (4, .int .i64 x1)] 0 23, [.arr 29 (.st 23) x2 false], 0⟩ fun r => prjR GG [(.sl (.st 23))] r.1).trans (by kernel_rfl)

theorem s_l03Size_eq (x0 : Int) (x1 : Int) (x2 : (List UInt8)) (x3 : (List TExpr)) : s_l03Size x0 x1 x2 x3 = s_l03Size_L3 x0 x1 x2 x3 1 0 :=
  (den_run CC 50 (bodyT CC 50) ⟨tmOf [(0, .pc [.int .i64 x0, .int .i64 x1, .str x2, .sl (.st 23) x3])] 0 28, [], 0⟩ fun r => prjR GG [(.int .i64)] r.1).trans (by kernel_rfl)

theorem s_l03Nodes_eq (x0 : Int) (x1 : Int) (x2 : (List UInt8)) (x3 : (List TExpr)) : s_l03Nodes x0 x1 x2 x3 = (s_l03Shape x0 x1 x2 x3).bind fun r200 => if (!r200) = true then some (false) else s_l03Nodes_L4 x0 x1 x2 x3 0 :=
  (den_run CC 51 (bodyT CC 51) ⟨tmOf [(0, .pc [.int .i64 x0, .int .i64 x1, .str x2, .sl (.st 23) x3])] 0 24, [], 0⟩ fun r => prjR GG [.bool] r.1).trans (by kernel_rfl)

theorem s_QuoteString_eq (x0 : (List UInt8)) : s_QuoteString x0 = (s_CanQuote x0).bind fun r200 => if (!r200) = true then some [] else (s_l02Holds x0 39).bind fun r198 => if r198 = true then ((app ([34]) x0) : Option (List UInt8)).bind fun y196 => ((app y196 ([34])) : Option (List UInt8)).bind fun y195 => some y195 else ((app ([39]) x0) : Option (List UInt8)).bind fun y196 => ((app y196 ([39])) : Option (List UInt8)).bind fun y195 => some y195 :=
  (den_run CC 52 (bodyT CC 52) ⟨tmOf [(0, .str x0)] 0 14, [], 0⟩ fun r => prjR GG [.str] r.1).trans (by kernel_rfl)

theorem s_l02Int_eq (x0 : Int) : s_l02Int x0 = if (decide (x0 < 0)) = true then (s_l02Int (w64 (0 - x0))).bind fun r199 => ((app ([45]) r199) : Option (List UInt8)).bind fun y198 => some y198 else s_l02Int_L4 x0 [] :=
  (den_run CC 53 (bodyT CC 53) ⟨tmOf [(0, .int .i64 x0)] 0 29, [], 0⟩ fun r => prjR GG [.str] r.1).trans (by kernel_rfl)

theorem s_l03At_eq (x0 : Int) (x1 : Int) (x2 : (List UInt8)) (x3 : (List TExpr)) (x4 : Int) : s_l03At x0 x1 x2 x3 x4 = (s_l03Level x0 x1 x2 x3).bind fun r200 => if (decide (r200 < x4)) = true then (s_l03Print x0 x1 x2 x3).bind fun r198 => ((app ([40]) r198) : Option (List UInt8)).bind fun y197 => ((app y197 ([41])) : Option (List UInt8)).bind fun y196 => some y196 else (s_l03Print x0 x1 x2 x3).bind fun r198 => some r198 :=
  (den_run CC 54 (bodyT CC 54) ⟨tmOf [(0, .pc [.int .i64 x0, .int .i64 x1, .str x2, .sl (.st 23) x3]), (1, .int .i64 x4)] 0 15, [], 0⟩ fun r => prjR GG [.str] r.1).trans (by kernel_rfl)

theorem s_l03Print_L23_eq (x0 : Int) (x1 : Int) (x2 : (List UInt8)) (x3 : (List TExpr)) (x4 : (List UInt8)) (x5 : Int) : s_l03Print_L23 x0 x1 x2 x3 x4 x5 = if (decide (x5 < len x3)) = true then if (decide (x5 > 0)) = true then ((app x4 ([44])) : Option (List UInt8)).bind fun y198 => ((idx x3 x5) : Option TExpr).bind fun y197 => (s_l03Print y197.fKind y197.fNum y197.fText y197.fKids).bind fun r196 => ((app y198 r196) : Option (List UInt8)).bind fun y195 => s_l03Print_L23 x0 x1 x2 x3 y195 (w64 (x5 + 1)) else ((idx x3 x5) : Option TExpr).bind fun y198 => (s_l03Print y198.fKind y198.fNum y198.fText y198.fKids).bind fun r197 => ((app x4 r197) : Option (List UInt8)).bind fun y196 => s_l03Print_L23 x0 x1 x2 x3 y196 (w64 (x5 + 1)) else ((app x4 ([41])) : Option (List UInt8)).bind fun y199 => some y199 :=
  (den_run CC 27 (lbl CC 27 23) ⟨tmOf [(0, .pc [.int .i64 x0, .int .i64 x1, .str x2, .sl (.st 23) x3]), (3, .str x4), (4, .int .i64 x5)] 0 141, [], 0⟩ fun r => prjR GG [.str] r.1).trans (by kernel_rfl)

theorem s_l03Level_eq (x0 : Int) (x1 : Int) (x2 : (List UInt8)) (x3 : (List TExpr)) : s_l03Level x0 x1 x2 x3 = if (x0 == 6) = true then some 1 else if (x0 == 7) = true then some 2 else if (x0 == 8) = true then some 3 else if (x0 == 9) = true then some 3 else if (x0 == 10) = true then s_l03Level_L11 else if (x0 == 11) = true then s_l03Level_L11 else s_l03Level_L12 x0 :=
  (den_run CC 55 (bodyT CC 55) ⟨tmOf [(0, .pc [.int .i64 x0, .int .i64 x1, .str x2, .sl (.st 23) x3])] 0 26, [], 0⟩ fun r => prjR GG [(.int .i64)] r.1).trans (by kernel_rfl)

theorem s_l03Sign_eq (x0 : Int) : s_l03Sign x0 = if (x0 == 6) = true then some [32, 124, 32] else if (x0 == 7) = true then some [32] else if (x0 == 8) = true then some [32, 43, 32] else if (x0 == 9) = true then some [32, 45, 32] else if (x0 == 10) = true then some [32, 42, 32] else if (x0 == 11) = true then some [32, 47, 32] else if (x0 == 12) = true then some [32, 46, 32] else some [32, 36, 32] :=
  (den_run CC 56 (bodyT CC 56) ⟨tmOf [(0, .int .i64 x0)] 0 18, [], 0⟩ fun r => prjR GG [.str] r.1).trans (by kernel_rfl)

theorem i_countNodes_eq (x0 : TExpr) (x1 : Int) : i_countNodes x0 x1 = if (decide (w64 (x1 + 1) > 60)) = true then some 61 else (i_Expr_hasFields x0.re).bind fun r199 => if (!r199) = true then some 61 else i_countNodes_L5 (w64 (x1 + 1)) x0.fKids (len x0.fKids) 0 :=
  (den_run CC 57 (bodyT CC 57) ⟨tmOf [(0, .st 23 x0), (1, .int .i64 x1)] 0 30, [], 0⟩ fun r => prjR GG [(.int .i64)] r.1).trans (by kernel_rfl)

theorem i_level_eq (x0 : Int) : i_level x0 = if (x0 == 6) = true then some 1 else if (x0 == 7) = true then some 2 else if (x0 == 8) = true then some 3 else if (x0 == 9) = true then some 3 else if (x0 == 10) = true then i_level_L11 else if (x0 == 11) = true then i_level_L11 else i_level_L12 x0 :=
  (den_run CC 58 (bodyT CC 58) ⟨tmOf [(0, .int .i64 x0)] 0 23, [], 0⟩ fun r => prjR GG [(.int .i64)] r.1).trans (by kernel_rfl)

theorem i_QuoteString_eq (x0 : (List UInt8)) : i_QuoteString x0 = (i_CanQuote x0).bind fun r200 => if (!r200) = true then some [] else ((containsS x0 ([39])) : Option Bool).bind fun y198 => if y198 = true then ((app ([34]) x0) : Option (List UInt8)).bind fun y196 => ((app y196 ([34])) : Option (List UInt8)).bind fun y195 => some y195 else ((app ([39]) x0) : Option (List UInt8)).bind fun y196 => ((app y196 ([39])) : Option (List UInt8)).bind fun y195 => some y195 :=
  (den_run CC 59 (bodyT CC 59) ⟨tmOf [(0, .str x0)] 0 16, [], 0⟩ fun r => prjR GG [.str] r.1).trans (by kernel_rfl)

theorem i_decimal_eq (x0 : Int) : i_decimal x0 = ((itoaS x0 10) : Option (List UInt8)).bind fun y200 => some y200 :=
  (den_run CC 60 (bodyT CC 60) ⟨tmOf [(0, .int .i64 x0)] 0 5, [], 0⟩ fun r => prjR GG [.str] r.1).trans (by kernel_rfl)

theorem i_Expr_text_L11_eq (x0 : (List TExpr)) (x1 : Int) (x2 : Int) (x3 : Int) (x4 : Int) (x5 : (List UInt8)) (x6 : (List TExpr)) (x7 : (List (List UInt8))) : i_Expr_text_L11 x0 x1 x2 x3 x4 x5 x6 x7 = if (decide (x2 < x1)) = true then ((idx x0 x2) : Option TExpr).bind fun y199 => (i_Expr_text y199.re).bind fun r198 => ((app x7 [r198]) : Option (List (List UInt8))).bind fun y197 => i_Expr_text_L11 x0 x1 (w64 (x2 + 1)) x3 x4 x5 x6 y197 else ((app x5 ([40])) : Option (List UInt8)).bind fun y199 => ((joinS x7 ([44])) : Option (List UInt8)).bind fun y198 => ((app y199 y198) : Option (List UInt8)).bind fun y197 => ((app y197 ([41])) : Option (List UInt8)).bind fun y196 => some y196 :=
  (den_run CC 30 (lbl CC 30 11) ⟨tmOf [(1, .ref 0 0), (4, .arr 1), (36, .sl (.st 23) x0), (37, .int .i64 x1), (38, .int .i64 x2)] 0 133, [.box [.int .i64 x3, .int .i64 x4, .str x5, .sl (.st 23) x6] false, .arr 9 .str x7 false], 0⟩ fun r => prjR GG [.str] r.1).trans (by kernel_rfl)

theorem i_operand_eq (x0 : TExpr) (x1 : Int) : i_operand x0 x1 = (i_level x0.fKind).bind fun r200 => if (decide (r200 < x1)) = true then (i_Expr_text x0.re).bind fun r198 => ((app ([40]) r198) : Option (List UInt8)).bind fun y197 => ((app y197 ([41])) : Option (List UInt8)).bind fun y196 => some y196 else (i_Expr_text x0.re).bind fun r198 => some r198 :=
  (den_run CC 62 (bodyT CC 62) ⟨tmOf [(0, .st 23 x0), (1, .int .i64 x1)] 0 16, [], 0⟩ fun r => prjR GG [.str] r.1).trans (by kernel_rfl)

theorem i_isNamed_eq (x0 : Int) : i_isNamed x0 = (i_within x0 16 18).bind fun r200 => some r200 :=
  (den_run CC 63 (bodyT CC 63) ⟨tmOf [(0, .int .i64 x0)] 0 5, [], 0⟩ fun r => prjR GG [.bool] r.1).trans (by kernel_rfl)

theorem i_symbol_eq (x0 : Int) : i_symbol x0 = ((idx [[], [], [], [], [], [], [124], [], [43], [45], [42], [47], [46], [36], [45], [36], [46], [42], [64]] x0) : Option (List UInt8)).bind fun y200 => some y200 :=
  (den_run CC 64 (bodyT CC 64) ⟨tmOf [(0, .int .i64 x0)] 0 8, [], 0⟩ fun r => prjR GG [.str] r.1).trans (by kernel_rfl)

theorem l_eqExprS_L4_eq (x0 : (List TExpr)) (x1 : (List TExpr)) (x2 : Int) : l_eqExprS_L4 x0 x1 x2 = if (decide (x2 < len x0)) = true then ((idx x0 x2) : Option TExpr).bind fun y199 => ((idx x1 x2) : Option TExpr).bind fun y198 => (l_eqExpr y199.re y198.re).bind fun r197 => if (!r197) = true then some (false) else l_eqExprS_L4 x0 x1 (w64 (x2 + 1)) else some (true) :=
  (den_run CC 31 (lbl CC 31 4) ⟨tmOf [(0, .sl (.st 23) x0), (1, .sl (.st 23) x1), (5, .int .i64 x2)] 0 27, [], 0⟩ fun r => prjR GG [.bool] r.1).trans (by kernel_rfl)

theorem s_l00In_eq (x0 : Int) (x1 : Int) (x2 : Int) : s_l00In x0 x1 x2 = if (decide (x0 ≥ x1)) = true then some (decide (x0 ≤ x2)) else some (false) :=
  (den_run CC 76 (bodyT CC 76) ⟨tmOf [(0, .int .i64 x0), (1, .int .i64 x1), (2, .int .i64 x2)] 0 15, [], 0⟩ fun r => prjR GG [.bool] r.1).trans (by kernel_rfl)

theorem i_within_eq (x0 : Int) (x1 : Int) (x2 : Int) : i_within x0 x1 x2 = if (decide (x0 ≥ x1)) = true then some (decide (x0 ≤ x2)) else some (false) :=
  (den_run CC 78 (bodyT CC 78) ⟨tmOf [(0, .int .i64 x0), (1, .int .i64 x1), (2, .int .i64 x2)] 0 15, [], 0⟩ fun r => prjR GG [.bool] r.1).trans (by kernel_rfl)

theorem s_l03Size_L3_eq (x0 : Int) (x1 : Int) (x2 : (List UInt8)) (x3 : (List TExpr)) (x4 : Int) (x5 : Int) : s_l03Size_L3 x0 x1 x2 x3 x4 x5 = if (decide (x5 < len x3)) = true then if (decide (x4 ≤ 60)) = true then ((idx x3 x5) : Option TExpr).bind fun y198 => (s_l03Size y198.fKind y198.fNum y198.fText y198.fKids).bind fun r197 => s_l03Size_L3 x0 x1 x2 x3 (w64 (x4 + r197)) (w64 (x5 + 1)) else some x4 else some x4 :=
  (den_run CC 50 (lbl CC 50 3) ⟨tmOf [(0, .pc [.int .i64 x0, .int .i64 x1, .str x2, .sl (.st 23) x3]), (3, .int .i64 x4), (4, .int .i64 x5)] 0 28, [], 0⟩ fun r => prjR GG [(.int .i64)] r.1).trans (by kernel_rfl)

theorem s_l03Shape_eq (x0 : Int) (x1 : Int) (x2 : (List UInt8)) (x3 : (List TExpr)) : s_l03Shape x0 x1 x2 x3 = if (x0 == 1) = true then if (x1 == 0) = true then if (len x3 == 0) = true then (s_CanQuote x2).bind fun r197 => some r197 else some (false) else some (false) else if (x0 == 2) = true then if (x2 == []) = true then if (len x3 == 0) = true then (s_l00In x1 0 1000000000000).bind fun r196 => some r196 else some (false) else some (false) else if (x0 == 3) = true then s_l03Shape_L13 x0 x1 x2 x3 0 else if (x0 == 16) = true then s_l03Shape_L13 x0 x1 x2 x3 0 else if (x0 == 17) = true then s_l03Shape_L13 x0 x1 x2 x3 0 else if (x0 == 18) = true then s_l03Shape_L13 x0 x1 x2 x3 0 else s_l03Shape_L14 x0 x1 x2 x3 (false) x0 :=
  (den_run CC 89 (bodyT CC 89) ⟨tmOf [(0, .pc [.int .i64 x0, .int .i64 x1, .str x2, .sl (.st 23) x3])] 0 145, [], 0⟩ fun r => prjR GG [.bool] r.1).trans (by kernel_rfl)

theorem s_l03Nodes_L4_eq (x0 : Int) (x1 : Int) (x2 : (List UInt8)) (x3 : (List TExpr)) (x4 : Int) : s_l03Nodes_L4 x0 x1 x2 x3 x4 = if (decide (x4 < len x3)) = true then ((idx x3 x4) : Option TExpr).bind fun y199 => (s_l03Nodes y199.fKind y199.fNum y199.fText y199.fKids).bind fun r198 => if (!r198) = true then some (false) else s_l03Nodes_L4 x0 x1 x2 x3 (w64 (x4 + 1)) else some (true) :=
  (den_run CC 51 (lbl CC 51 4) ⟨tmOf [(0, .pc [.int .i64 x0, .int .i64 x1, .str x2, .sl (.st 23) x3]), (3, .int .i64 x4)] 0 24, [], 0⟩ fun r => prjR GG [.bool] r.1).trans (by kernel_rfl)

theorem s_CanQuote_eq (x0 : (List UInt8)) : s_CanQuote x0 = if (decide (len x0 ≤ 200)) = true then (s_l01Printable x0 (false)).bind fun r199 => if r199 = true then (s_l02Holds x0 39).bind fun r197 => if r197 = true then (s_l02Holds x0 34).bind fun r195 => some (!r195) else some (true) else some (false) else some (false) :=
  (den_run CC 90 (bodyT CC 90) ⟨tmOf [(0, .str x0)] 0 19, [], 0⟩ fun r => prjR GG [.bool] r.1).trans (by kernel_rfl)

theorem s_l02Holds_eq (x0 : (List UInt8)) (x1 : Int) : s_l02Holds x0 x1 = s_l02Holds_L2 x0 x1 0 :=
  (den_run CC 91 (bodyT CC 91) ⟨tmOf [(0, .str x0), (1, .int .u8 x1)] 0 17, [], 0⟩ fun r => prjR GG [.bool] r.1).trans (by kernel_rfl)

theorem s_l02Int_L4_eq (x0 : Int) (x1 : (List UInt8)) : s_l02Int_L4 x0 x1 = if (decide (x0 ≥ 10)) = true then ((rem x0 10) : Option Int).bind fun y199 => ((app (List.map (fun (n : Int) ↦ UInt8.ofNat (Int.toNat n)) [Go.IntKind.wrap Go.IntKind.u8 (w64 (48 + y199))]) x1) : Option (List UInt8)).bind fun y198 => ((quo Go.IntKind.i64 x0 10) : Option Int).bind fun y197 => s_l02Int_L4 y197 y198 else ((app (List.map (fun (n : Int) ↦ UInt8.ofNat (Int.toNat n)) [Go.IntKind.wrap Go.IntKind.u8 (w64 (48 + x0))]) x1) : Option (List UInt8)).bind fun y199 => some y199 :=
  (den_run CC 53 (lbl CC 53 4) ⟨tmOf [(0, .int .i64 x0), (3, .str x1)] 0 29, [], 0⟩ fun r => prjR GG [.str] r.1).trans (by kernel_rfl)

theorem s_l03Level_L11_eq : s_l03Level_L11 = some 4 :=
  (den_run CC 55 (lbl CC 55 11) ⟨tmOf [] 0 26, [], 0⟩ fun r => prjR GG [(.int .i64)] r.1).trans (by kernel_rfl)

theorem s_l03Level_L12_eq (x0 : Int) : s_l03Level_L12 x0 = if (x0 == 12) = true then some 5 else if (x0 == 13) = true then some 5 else if (x0 == 14) = true then s_l03Level_L20 else if (x0 == 15) = true then s_l03Level_L20 else if (x0 == 16) = true then s_l03Level_L20 else if (x0 == 17) = true then s_l03Level_L20 else if (x0 == 18) = true then s_l03Level_L20 else s_l03Level_L21 :=
  (den_run CC 55 (lbl CC 55 12) ⟨tmOf [(6, .int .i64 x0)] 0 26, [], 0⟩ fun r => prjR GG [(.int .i64)] r.1).trans (by kernel_rfl)

theorem i_Expr_hasFields_eq (x0 : TExpr) : i_Expr_hasFields x0 = if (x0.fKind == 1) = true then if (len x0.fKids == 0) = true then if (x0.fNum == 0) = true then (i_CanQuote x0.fText).bind fun r197 => some r197 else some (false) else some (false) else if (x0.fKind == 2) = true then if (len x0.fKids == 0) = true then if (x0.fText == []) = true then (i_isNumber x0.fNum).bind fun r196 => some r196 else some (false) else some (false) else if (x0.fKind == 3) = true then if (len x0.fKids == 0) = true then if (x0.fNum == 0) = true then (i_IsName x0.fText).bind fun r195 => some r195 else some (false) else some (false) else (i_isNamed x0.fKind).bind fun r197 => if r197 = true then if (len x0.fKids == 0) = true then if (x0.fNum == 0) = true then (i_IsName x0.fText).bind fun r193 => some r193 else some (false) else some (false) else if (x0.fKind == 4) = true then if (decide (len x0.fKids ≤ 6)) = true then if (x0.fNum == 0) = true then (i_IsName x0.fText).bind fun r192 => some r192 else some (false) else some (false) else if (x0.fNum != 0) = true then i_Expr_hasFields_L11 else if (!x0.fText == []) = true then i_Expr_hasFields_L11 else i_Expr_hasFields_L12 (len x0.fKids) x0.fKind x0.fNum x0.fText x0.fKids :=
  (den_run CC 92 (bodyT CC 92) ⟨tmOf [(0, .st 23 x0)] 0 116, [], 0⟩ fun r => prjR GG [.bool] r.1).trans (by kernel_rfl)

theorem i_countNodes_L5_eq (x0 : Int) (x1 : (List TExpr)) (x2 : Int) (x3 : Int) : i_countNodes_L5 x0 x1 x2 x3 = if (decide (x3 < x2)) = true then ((idx x1 x3) : Option TExpr).bind fun y199 => (i_countNodes y199.re x0).bind fun r198 => if (decide (r198 > 60)) = true then some r198 else i_countNodes_L5 r198 x1 x2 (w64 (x3 + 1)) else some x0 :=
  (den_run CC 57 (lbl CC 57 5) ⟨tmOf [(1, .int .i64 x0), (17, .sl (.st 23) x1), (18, .int .i64 x2), (19, .int .i64 x3)] 0 30, [], 0⟩ fun r => prjR GG [(.int .i64)] r.1).trans (by kernel_rfl)

theorem i_level_L11_eq : i_level_L11 = some 4 :=
  (den_run CC 58 (lbl CC 58 11) ⟨tmOf [] 0 23, [], 0⟩ fun r => prjR GG [(.int .i64)] r.1).trans (by kernel_rfl)

theorem i_level_L12_eq (x0 : Int) : i_level_L12 x0 = if (x0 == 12) = true then some 5 else if (x0 == 13) = true then some 5 else if (x0 == 14) = true then i_level_L20 else if (x0 == 15) = true then i_level_L20 else if (x0 == 16) = true then i_level_L20 else if (x0 == 17) = true then i_level_L20 else if (x0 == 18) = true then i_level_L20 else i_level_L21 :=
  (den_run CC 58 (lbl CC 58 12) ⟨tmOf [(3, .int .i64 x0)] 0 23, [], 0⟩ fun r => prjR GG [(.int .i64)] r.1).trans (by kernel_rfl)

theorem i_CanQuote_eq (x0 : (List UInt8)) : i_CanQuote x0 = if (decide (len x0 ≤ 200)) = true then (i_isPlainText x0).bind fun r199 => if r199 = true then ((containsS x0 ([39])) : Option Bool).bind fun y197 => if y197 = true then ((containsS x0 ([34])) : Option Bool).bind fun y195 => some (!y195) else some (true) else some (false) else some (false) :=
  (den_run CC 93 (bodyT CC 93) ⟨tmOf [(0, .str x0)] 0 19, [], 0⟩ fun r => prjR GG [.bool] r.1).trans (by kernel_rfl)

theorem s_IsName_eq (x0 : (List UInt8)) : s_IsName x0 = if (!x0 == []) = true then if (decide (len x0 ≤ 12)) = true then (s_l02NameEnd x0 0).bind fun r198 => some (r198 == len x0) else some (false) else some (false) :=
  (den_run CC 77 (bodyT CC 77) ⟨tmOf [(0, .str x0)] 0 17, [], 0⟩ fun r => prjR GG [.bool] r.1).trans (by kernel_rfl)

theorem i_IsName_eq (x0 : (List UInt8)) : i_IsName x0 = if (decide (len x0 ≥ 1)) = true then if (decide (len x0 ≤ 12)) = true then ((idx x0 0) : Option UInt8).bind fun y198 => (i_isLetter (ib y198)).bind fun r197 => if r197 = true then (i_areAll_byte__i_isNameByte (List.map (fun (b : UInt8) ↦ ib b) x0)).bind fun r195 => some r195 else some (false) else some (false) else some (false) :=
  (den_run CC 80 (bodyT CC 80) ⟨tmOf [(0, .str x0)] 0 21, [], 0⟩ fun r => prjR GG [.bool] r.1).trans (by kernel_rfl)

theorem s_l03Shape_L13_eq (x0 : Int) (x1 : Int) (x2 : (List UInt8)) (x3 : (List TExpr)) (x4 : Int) : s_l03Shape_L13 x0 x1 x2 x3 x4 = s_l03Shape_L32 x0 x1 x2 x3 x4 (true) :=
  (den_run CC 89 (lbl CC 89 13) ⟨tmOf [(0, .pc [.int .i64 x0, .int .i64 x1, .str x2, .sl (.st 23) x3]), (3, .int .i64 x4)] 0 145, [], 0⟩ fun r => prjR GG [.bool] r.1).trans (by kernel_rfl)

theorem s_l03Shape_L14_eq (x0 : Int) (x1 : Int) (x2 : (List UInt8)) (x3 : (List TExpr)) (x4 : Bool) (x5 : Int) : s_l03Shape_L14 x0 x1 x2 x3 x4 x5 = if (x5 == 4) = true then if (x1 == 0) = true then (s_IsName x2).bind fun r198 => if r198 = true then some (decide (len x3 ≤ 6)) else some (false) else some (false) else if (x5 == 14) = true then s_l03Shape_L32 x0 x1 x2 x3 1 x4 else if (x5 == 15) = true then s_l03Shape_L32 x0 x1 x2 x3 1 x4 else if (x5 == 5) = true then s_l03Shape_L26 x0 x1 x2 x3 x4 else if (x5 == 6) = true then s_l03Shape_L26 x0 x1 x2 x3 x4 else if (x5 == 7) = true then s_l03Shape_L26 x0 x1 x2 x3 x4 else if (x5 == 8) = true then s_l03Shape_L26 x0 x1 x2 x3 x4 else if (x5 == 9) = true then s_l03Shape_L26 x0 x1 x2 x3 x4 else if (x5 == 10) = true then s_l03Shape_L26 x0 x1 x2 x3 x4 else if (x5 == 11) = true then s_l03Shape_L26 x0 x1 x2 x3 x4 else s_l03Shape_L27 x0 x1 x2 x3 x4 x5 :=
  (den_run CC 89 (lbl CC 89 14) ⟨tmOf [(0, .pc [.int .i64 x0, .int .i64 x1, .str x2, .sl (.st 23) x3]), (4, .bool x4), (8, .int .i64 x5)] 0 145, [], 0⟩ fun r => prjR GG [.bool] r.1).trans (by kernel_rfl)

theorem s_l01Printable_eq (x0 : (List UInt8)) (x1 : Bool) : s_l01Printable x0 x1 = s_l01Printable_L2 x0 x1 0 :=
  (den_run CC 112 (bodyT CC 112) ⟨tmOf [(0, .str x0), (1, .bool x1)] 0 32, [], 0⟩ fun r => prjR GG [.bool] r.1).trans (by kernel_rfl)

theorem s_l02Holds_L2_eq (x0 : (List UInt8)) (x1 : Int) (x2 : Int) : s_l02Holds_L2 x0 x1 x2 = if (decide (x2 < len x0)) = true then ((idx x0 x2) : Option UInt8).bind fun y199 => if (ib y199 == x1) = true then some (true) else s_l02Holds_L2 x0 x1 (w64 (x2 + 1)) else some (false) :=
  (den_run CC 91 (lbl CC 91 2) ⟨tmOf [(0, .str x0), (1, .int .u8 x1), (5, .int .i64 x2)] 0 17, [], 0⟩ fun r => prjR GG [.bool] r.1).trans (by kernel_rfl)

theorem s_l03Level_L20_eq : s_l03Level_L20 = some 6 :=
  (den_run CC 55 (lbl CC 55 20) ⟨tmOf [] 0 26, [], 0⟩ fun r => prjR GG [(.int .i64)] r.1).trans (by kernel_rfl)

theorem s_l03Level_L21_eq : s_l03Level_L21 = some 7 :=
  (den_run CC 55 (lbl CC 55 21) ⟨tmOf [] 0 26, [], 0⟩ fun r => prjR GG [(.int .i64)] r.1).trans (by kernel_rfl)

theorem i_isNumber_eq (x0 : Int) : i_isNumber x0 = (i_within x0 0 1000000000000).bind fun r200 => some r200 :=
  (den_run CC 113 (bodyT CC 113) ⟨tmOf [(0, .int .i64 x0)] 0 5, [], 0⟩ fun r => prjR GG [.bool] r.1).trans (by kernel_rfl)

theorem i_Expr_hasFields_L11_eq : i_Expr_hasFields_L11 = some (false) :=
  (den_run CC 92 (lbl CC 92 11) ⟨tmOf [] 0 116, [], 0⟩ fun r => prjR GG [.bool] r.1).trans (by kernel_rfl)

theorem i_Expr_hasFields_L12_eq (x0 : Int) (x1 : Int) (x2 : Int) (x3 : (List UInt8)) (x4 : (List TExpr)) : i_Expr_hasFields_L12 x0 x1 x2 x3 x4 = if (x1 == 12) = true then if (x0 == 2) = true then ((idx x4 1) : Option TExpr).bind fun y198 => some (y198.fKind == 3) else some (false) else if (x1 == 13) = true then if (x0 == 2) = true then ((idx x4 1) : Option TExpr).bind fun y197 => some (y197.fKind == 3) else some (false) else if (x1 == 14) = true then i_Expr_hasFields_L18 x0 else if (x1 == 15) = true then i_Expr_hasFields_L18 x0 else i_Expr_hasFields_L19 x0 x1 x2 x3 x4 :=
  (den_run CC 92 (lbl CC 92 12) ⟨tmOf [(1, .ref 0 0), (3, .int .i64 x0)] 0 116, [.box [.int .i64 x1, .int .i64 x2, .str x3, .sl (.st 23) x4] false], 0⟩ fun r => prjR GG [.bool] r.1).trans (by kernel_rfl)

theorem i_level_L20_eq : i_level_L20 = some 6 :=
  (den_run CC 58 (lbl CC 58 20) ⟨tmOf [] 0 23, [], 0⟩ fun r => prjR GG [(.int .i64)] r.1).trans (by kernel_rfl)

theorem i_level_L21_eq : i_level_L21 = some 7 :=
  (den_run CC 58 (lbl CC 58 21) ⟨tmOf [] 0 23, [], 0⟩ fun r => prjR GG [(.int .i64)] r.1).trans (by kernel_rfl)

theorem i_isPlainText_eq (x0 : (List UInt8)) : i_isPlainText x0 = (i_areAll_byte__i_isPlain (List.map (fun (b : UInt8) ↦ ib b) x0)).bind fun r200 => some r200 :=
  (den_run CC 115 (bodyT CC 115) ⟨tmOf [(0, .str x0)] 0 6, [], 0⟩ fun r => prjR GG [.bool] r.1).trans (by kernel_rfl)

theorem s_l02NameEnd_eq (x0 : (List UInt8)) (x1 : Int) : s_l02NameEnd x0 x1 = if (decide (x1 ≥ len x0)) = true then some x1 else ((idx x0 x1) : Option UInt8).bind fun y199 => (s_l02Letter (ib y199)).bind fun r198 => if (!r198) = true then some x1 else s_l02NameEnd_L3 x0 x1 :=
  (den_run CC 103 (bodyT CC 103) ⟨tmOf [(0, .str x0), (1, .int .i64 x1)] 0 42, [], 0⟩ fun r => prjR GG [(.int .i64)] r.1).trans (by kernel_rfl)

theorem i_isLetter_eq (x0 : Int) : i_isLetter x0 = if (decide (x0 ≥ 65)) = true then if (decide (x0 ≤ 90)) = true then some (true) else if (decide (x0 ≥ 97)) = true then some (decide (x0 ≤ 122)) else some (false) else if (decide (x0 ≥ 97)) = true then some (decide (x0 ≤ 122)) else some (false) :=
  (den_run CC 104 (bodyT CC 104) ⟨tmOf [(0, .int .u8 x0)] 0 17, [], 0⟩ fun r => prjR GG [.bool] r.1).trans (by kernel_rfl)

theorem i_areAll_byte__i_isNameByte_eq (x0 : (List Int)) : i_areAll_byte__i_isNameByte x0 = i_areAll_byte_L2__i_isNameByte x0 (len x0) 0 :=
  (den_run CC 105 (bodyT CC 105) ⟨tmOf [(0, .sl (.int .u8) x0), (1, .fn 106 [])] 0 18, [], 0⟩ fun r => prjR GG [.bool] r.1).trans (by kernel_rfl)

theorem s_l03Shape_L32_eq (x0 : Int) (x1 : Int) (x2 : (List UInt8)) (x3 : (List TExpr)) (x4 : Int) (x5 : Bool) : s_l03Shape_L32 x0 x1 x2 x3 x4 x5 = if (x1 == 0) = true then if (len x3 == x4) = true then if x5 = true then (s_IsName x2).bind fun r197 => if r197 = true then some (true) else if (!x5) = true then some (x2 == []) else some (false) else if (!x5) = true then some (x2 == []) else some (false) else some (false) else some (false) :=
  (den_run CC 89 (lbl CC 89 32) ⟨tmOf [(0, .pc [.int .i64 x0, .int .i64 x1, .str x2, .sl (.st 23) x3]), (3, .int .i64 x4), (4, .bool x5)] 0 145, [], 0⟩ fun r => prjR GG [.bool] r.1).trans (by kernel_rfl)

theorem s_l03Shape_L26_eq (x0 : Int) (x1 : Int) (x2 : (List UInt8)) (x3 : (List TExpr)) (x4 : Bool) : s_l03Shape_L26 x0 x1 x2 x3 x4 = s_l03Shape_L32 x0 x1 x2 x3 2 x4 :=
  (den_run CC 89 (lbl CC 89 26) ⟨tmOf [(0, .pc [.int .i64 x0, .int .i64 x1, .str x2, .sl (.st 23) x3]), (4, .bool x4)] 0 145, [], 0⟩ fun r => prjR GG [.bool] r.1).trans (by kernel_rfl)

theorem s_l03Shape_L27_eq (x0 : Int) (x1 : Int) (x2 : (List UInt8)) (x3 : (List TExpr)) (x4 : Bool) (x5 : Int) : s_l03Shape_L27 x0 x1 x2 x3 x4 x5 = if (x5 == 12) = true then if (len x3 == 2) = true then ((idx x3 1) : Option TExpr).bind fun y198 => if (y198.fKind != 3) = true then s_l03Shape_L31 else s_l03Shape_L32 x0 x1 x2 x3 2 x4 else s_l03Shape_L32 x0 x1 x2 x3 2 x4 else if (x5 == 13) = true then if (len x3 == 2) = true then ((idx x3 1) : Option TExpr).bind fun y197 => if (y197.fKind != 3) = true then s_l03Shape_L31 else s_l03Shape_L32 x0 x1 x2 x3 2 x4 else s_l03Shape_L32 x0 x1 x2 x3 2 x4 else some (false) :=
  (den_run CC 89 (lbl CC 89 27) ⟨tmOf [(0, .pc [.int .i64 x0, .int .i64 x1, .str x2, .sl (.st 23) x3]), (4, .bool x4), (8, .int .i64 x5)] 0 145, [], 0⟩ fun r => prjR GG [.bool] r.1).trans (by kernel_rfl)

theorem s_l01Printable_L2_eq (x0 : (List UInt8)) (x1 : Bool) (x2 : Int) : s_l01Printable_L2 x0 x1 x2 = if (decide (x2 < len x0)) = true then ((idx x0 x2) : Option UInt8).bind fun y199 => if (decide (ib y199 < 32)) = true then if x1 = true then ((idx x0 x2) : Option UInt8).bind fun y196 => if (!ib y196 == 10) = true then s_l01Printable_L5 else s_l01Printable_L3 x0 x1 x2 else s_l01Printable_L5 else ((idx x0 x2) : Option UInt8).bind fun y197 => if (decide (ib y197 > 126)) = true then if x1 = true then ((idx x0 x2) : Option UInt8).bind fun y194 => if (!ib y194 == 10) = true then s_l01Printable_L5 else s_l01Printable_L3 x0 x1 x2 else s_l01Printable_L5 else s_l01Printable_L3 x0 x1 x2 else some (true) :=
  (den_run CC 112 (lbl CC 112 2) ⟨tmOf [(0, .str x0), (1, .bool x1), (5, .int .i64 x2)] 0 32, [], 0⟩ fun r => prjR GG [.bool] r.1).trans (by kernel_rfl)

theorem i_Expr_hasFields_L18_eq (x0 : Int) : i_Expr_hasFields_L18 x0 = some (x0 == 1) :=
  (den_run CC 92 (lbl CC 92 18) ⟨tmOf [(3, .int .i64 x0)] 0 116, [], 0⟩ fun r => prjR GG [.bool] r.1).trans (by kernel_rfl)

theorem i_Expr_hasFields_L19_eq (x0 : Int) (x1 : Int) (x2 : Int) (x3 : (List UInt8)) (x4 : (List TExpr)) : i_Expr_hasFields_L19 x0 x1 x2 x3 x4 = if (x0 == 2) = true then if (x1 == 5) = true then some (true) else (i_isBinary x1).bind fun r198 => some r198 else some (false) :=
  (den_run CC 92 (lbl CC 92 19) ⟨tmOf [(1, .ref 0 0), (3, .int .i64 x0)] 0 116, [.box [.int .i64 x1, .int .i64 x2, .str x3, .sl (.st 23) x4] false], 0⟩ fun r => prjR GG [.bool] r.1).trans (by kernel_rfl)

theorem i_areAll_byte__i_isPlain_eq (x0 : (List Int)) : i_areAll_byte__i_isPlain x0 = i_areAll_byte_L2__i_isPlain x0 (len x0) 0 :=
  (den_run CC 105 (bodyT CC 105) ⟨tmOf [(0, .sl (.int .u8) x0), (1, .fn 134 [])] 0 18, [], 0⟩ fun r => prjR GG [.bool] r.1).trans (by kernel_rfl)

theorem s_l02Letter_eq (x0 : Int) : s_l02Letter x0 = if (decide (x0 ≥ 65)) = true then if (decide (x0 ≤ 90)) = true then some (true) else if (decide (x0 ≥ 97)) = true then some (decide (x0 ≤ 122)) else some (false) else if (decide (x0 ≥ 97)) = true then some (decide (x0 ≤ 122)) else some (false) :=
  (den_run CC 124 (bodyT CC 124) ⟨tmOf [(0, .int .u8 x0)] 0 17, [], 0⟩ fun r => prjR GG [.bool] r.1).trans (by kernel_rfl)

theorem s_l02NameEnd_L3_eq (x0 : (List UInt8)) (x1 : Int) : s_l02NameEnd_L3 x0 x1 = if (decide (x1 < len x0)) = true then ((idx x0 x1) : Option UInt8).bind fun y199 => (s_l02Letter (ib y199)).bind fun r198 => if r198 = true then s_l02NameEnd_L4 x0 x1 else ((idx x0 x1) : Option UInt8).bind fun y196 => (s_l02Digit (ib y196)).bind fun r195 => if r195 = true then s_l02NameEnd_L4 x0 x1 else ((idx x0 x1) : Option UInt8).bind fun y193 => if (ib y193 == 95) = true then s_l02NameEnd_L4 x0 x1 else s_l02NameEnd_L5 x1 else s_l02NameEnd_L5 x1 :=
  (den_run CC 103 (lbl CC 103 3) ⟨tmOf [(0, .str x0), (1, .int .i64 x1)] 0 42, [], 0⟩ fun r => prjR GG [(.int .i64)] r.1).trans (by kernel_rfl)

theorem i_areAll_byte_L2__i_isNameByte_eq (x0 : (List Int)) (x1 : Int) (x2 : Int) : i_areAll_byte_L2__i_isNameByte x0 x1 x2 = if (decide (x2 < x1)) = true then ((idx x0 x2) : Option Int).bind fun y199 => (i_isNameByte y199).bind fun r198 => if (!r198) = true then some (false) else i_areAll_byte_L2__i_isNameByte x0 x1 (w64 (x2 + 1)) else some (true) :=
  (den_run CC 105 (lbl CC 105 2) ⟨tmOf [(1, .fn 106 []), (7, .sl (.int .u8) x0), (8, .int .i64 x1), (9, .int .i64 x2)] 0 18, [], 0⟩ fun r => prjR GG [.bool] r.1).trans (by kernel_rfl)

theorem s_l03Shape_L31_eq : s_l03Shape_L31 = some (false) :=
  (den_run CC 89 (lbl CC 89 31) ⟨tmOf [] 0 145, [], 0⟩ fun r => prjR GG [.bool] r.1).trans (by kernel_rfl)

theorem s_l01Printable_L5_eq : s_l01Printable_L5 = some (false) :=
  (den_run CC 112 (lbl CC 112 5) ⟨tmOf [] 0 32, [], 0⟩ fun r => prjR GG [.bool] r.1).trans (by kernel_rfl)

theorem s_l01Printable_L3_eq (x0 : (List UInt8)) (x1 : Bool) (x2 : Int) : s_l01Printable_L3 x0 x1 x2 = s_l01Printable_L2 x0 x1 (w64 (x2 + 1)) :=
  (den_run CC 112 (lbl CC 112 3) ⟨tmOf [(0, .str x0), (1, .bool x1), (5, .int .i64 x2)] 0 32, [], 0⟩ fun r => prjR GG [.bool] r.1).trans (by kernel_rfl)

theorem i_isBinary_eq (x0 : Int) : i_isBinary x0 = (i_within x0 6 13).bind fun r200 => some r200 :=
  (den_run CC 114 (bodyT CC 114) ⟨tmOf [(0, .int .i64 x0)] 0 5, [], 0⟩ fun r => prjR GG [.bool] r.1).trans (by kernel_rfl)

theorem i_areAll_byte_L2__i_isPlain_eq (x0 : (List Int)) (x1 : Int) (x2 : Int) : i_areAll_byte_L2__i_isPlain x0 x1 x2 = if (decide (x2 < x1)) = true then ((idx x0 x2) : Option Int).bind fun y199 => (i_isPlain y199).bind fun r198 => if (!r198) = true then some (false) else i_areAll_byte_L2__i_isPlain x0 x1 (w64 (x2 + 1)) else some (true) :=
  (den_run CC 105 (lbl CC 105 2) ⟨tmOf [(1, .fn 134 []), (7, .sl (.int .u8) x0), (8, .int .i64 x1), (9, .int .i64 x2)] 0 18, [], 0⟩ fun r => prjR GG [.bool] r.1).trans (by kernel_rfl)

theorem s_l02NameEnd_L4_eq (x0 : (List UInt8)) (x1 : Int) : s_l02NameEnd_L4 x0 x1 = s_l02NameEnd_L3 x0 (w64 (x1 + 1)) :=
  (den_run CC 103 (lbl CC 103 4) ⟨tmOf [(0, .str x0), (1, .int .i64 x1)] 0 42, [], 0⟩ fun r => prjR GG [(.int .i64)] r.1).trans (by kernel_rfl)

theorem s_l02Digit_eq (x0 : Int) : s_l02Digit x0 = if (decide (x0 ≥ 48)) = true then some (decide (x0 ≤ 57)) else some (false) :=
  (den_run CC 125 (bodyT CC 125) ⟨tmOf [(0, .int .u8 x0)] 0 9, [], 0⟩ fun r => prjR GG [.bool] r.1).trans (by kernel_rfl)

theorem s_l02NameEnd_L5_eq (x0 : Int) : s_l02NameEnd_L5 x0 = some x0 :=
  (den_run CC 103 (lbl CC 103 5) ⟨tmOf [(1, .int .i64 x0)] 0 42, [], 0⟩ fun r => prjR GG [(.int .i64)] r.1).trans (by kernel_rfl)

theorem i_isNameByte_eq (x0 : Int) : i_isNameByte x0 = (i_isLetter x0).bind fun r200 => if r200 = true then some (true) else (i_isDigit x0).bind fun r198 => if r198 = true then some (true) else some (x0 == 95) :=
  (den_run CC 106 (bodyT CC 106) ⟨tmOf [(0, .int .u8 x0)] 0 13, [], 0⟩ fun r => prjR GG [.bool] r.1).trans (by kernel_rfl)

theorem i_isPlain_eq (x0 : Int) : i_isPlain x0 = if (decide (x0 ≥ 32)) = true then some (decide (x0 ≤ 126)) else some (false) :=
  (den_run CC 134 (bodyT CC 134) ⟨tmOf [(0, .int .u8 x0)] 0 9, [], 0⟩ fun r => prjR GG [.bool] r.1).trans (by kernel_rfl)

theorem i_isDigit_eq (x0 : Int) : i_isDigit x0 = if (decide (x0 ≥ 48)) = true then some (decide (x0 ≤ 57)) else some (false) :=
  (den_run CC 126 (bodyT CC 126) ⟨tmOf [(0, .int .u8 x0)] 0 9, [], 0⟩ fun r => prjR GG [.bool] r.1).trans (by kernel_rfl)
end Go.Dv.U
