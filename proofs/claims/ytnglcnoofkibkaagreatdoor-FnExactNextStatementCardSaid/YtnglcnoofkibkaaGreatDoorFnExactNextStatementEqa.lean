/- The functions of the program as equations on plain data, each checked by the kernel. -/
import Derived.Test.YtnglcnoofkibkaaGreatDoorExa
set_option linter.all false
set_option linter.unusedVariables false
set_option linter.unusedSimpArgs false
namespace Go.Dv.U
open Go Go.Dv Go.Proofs
set_option maxRecDepth 100000
noncomputable def l_FnExactNextStatement (x0 : TProgram) (x1 : TGoto) (x2 : Bool) (x3 : Int) : Option (Bool) := (Den CC 6 (bodyT CC 6) ⟨tmOf [(0, .st 23 x0), (1, .st 37 x1), (2, .bool x2), (3, .int .i64 x3)] 0 59, [], 0⟩).bind fun r => prjR GG [.bool] r.1

noncomputable def l_szProgram (x0 : TProgram) (x1 : Int) : Option (Int) := (Den CC 8 (bodyT CC 8) ⟨tmOf [(0, .st 23 x0), (1, .int .i64 x1)] 0 12, [], 0⟩).bind fun r => prjR GG [(.int .i64)] r.1

noncomputable def l_toProgram_v1 (x0 : TProgram) : Option ((((List TStatement) × Unit) × Unit)) := (Den CC 10 (bodyT CC 10) ⟨tmOf [(0, .st 23 x0)] 0 9, [], 0⟩).bind fun r => prjO GG [(true, [.tw 53 (.st 52)])] r

noncomputable def l_eqProgram (x0 : TProgram) (x1 : TProgram) : Option (Bool) := (Den CC 13 (bodyT CC 13) ⟨tmOf [(0, .st 23 x0), (1, .st 23 x1)] 0 11, [], 0⟩).bind fun r => prjR GG [.bool] r.1

noncomputable def l_szGoto (x0 : TGoto) (x1 : Int) : Option (Int) := (Den CC 21 (bodyT CC 21) ⟨tmOf [(0, .st 37 x0), (1, .int .i64 x1)] 0 27, [], 0⟩).bind fun r => prjR GG [(.int .i64)] r.1

noncomputable def l_toGoto (x0 : TGoto) : Option (TGoto) := (Den CC 23 (bodyT CC 23) ⟨tmOf [(0, .st 37 x0)] 0 14, [], 0⟩).bind fun r => prjR GG [(.st 37)] r.1

noncomputable def s_NextStatement (x0 : TProgram) (x1 : TGoto) (x2 : Bool) (x3 : Int) : Option (Int × Int) := (Den CC 22 (bodyT CC 22) ⟨tmOf [(0, .st 23 x0), (1, .st 37 x1), (2, .bool x2), (3, .int .i64 x3)] 0 32, [], 0⟩).bind fun r => prjR GG [(.int .i64), (.int .i64)] r.1

noncomputable def i_NextStatement (x0 : TProgram) (x1 : TGoto) (x2 : Bool) (x3 : Int) : Option (Int × Int) := (Den CC 24 (bodyT CC 24) ⟨tmOf [(0, .st 23 x0), (1, .st 37 x1), (2, .bool x2), (3, .int .i64 x3)] 0 36, [], 0⟩).bind fun r => prjR GG [(.int .i64), (.int .i64)] r.1

noncomputable def l_szStatementS (x0 : (List TStatement)) (x1 : Int) : Option (Int) := (Den CC 29 (bodyT CC 29) ⟨tmOf [(0, .sl (.st 52) x0), (1, .int .i64 x1)] 0 27, [], 0⟩).bind fun r => prjR GG [(.int .i64)] r.1

noncomputable def l_toStatementS_v1 (x0 : (List TStatement)) : Option ((((List TStatement) × Unit) × Unit)) := (Den CC 30 (bodyT CC 30) ⟨tmOf [(0, .sl (.st 52) x0)] 0 23, [], 0⟩).bind fun r => prjO GG [(false, [.tw 53 (.st 52)])] r

noncomputable def s_ValidProgram (x0 : TProgram) : Option (Bool) := (Den CC 27 (bodyT CC 27) ⟨tmOf [(0, .st 23 x0)] 0 46, [], 0⟩).bind fun r => prjR GG [.bool] r.1

noncomputable def i_ValidProgram (x0 : TProgram) : Option (Bool) := (Den CC 31 (bodyT CC 31) ⟨tmOf [(0, .st 23 x0)] 0 44, [], 0⟩).bind fun r => prjR GG [.bool] r.1

noncomputable def l_eqStatementS (x0 : (List TStatement)) (x1 : (List TStatement)) : Option (Bool) := (Den CC 32 (bodyT CC 32) ⟨tmOf [(0, .sl (.st 52) x0), (1, .sl (.st 52) x1)] 0 27, [], 0⟩).bind fun r => prjR GG [.bool] r.1

noncomputable def s_ValidGoto (x0 : TGoto) : Option (Bool) := (Den CC 47 (bodyT CC 47) ⟨tmOf [(0, .st 37 x0)] 0 29, [], 0⟩).bind fun r => prjR GG [.bool] r.1

noncomputable def s_l00In (x0 : Int) (x1 : Int) (x2 : Int) : Option (Bool) := (Den CC 48 (bodyT CC 48) ⟨tmOf [(0, .int .i64 x0), (1, .int .i64 x1), (2, .int .i64 x2)] 0 15, [], 0⟩).bind fun r => prjR GG [.bool] r.1

noncomputable def s_l20Next (x0 : TProgram) (x1 : TGoto) (x2 : Bool) (x3 : Int) : Option (Int × Int) := (Den CC 49 (bodyT CC 49) ⟨tmOf [(0, .st 23 x0), (1, .st 37 x1), (2, .bool x2), (3, .int .i64 x3)] 0 43, [], 0⟩).bind fun r => prjR GG [(.int .i64), (.int .i64)] r.1

noncomputable def i_ValidGoto (x0 : TGoto) : Option (Bool) := (Den CC 50 (bodyT CC 50) ⟨tmOf [(0, .st 37 x0)] 0 21, [], 0⟩).bind fun r => prjR GG [.bool] r.1

noncomputable def i_unless (x0 : Bool) (x1 : Int) : Option (Int) := (Den CC 52 (bodyT CC 52) ⟨tmOf [(0, .bool x0), (1, .int .i64 x1)] 0 7, [], 0⟩).bind fun r => prjR GG [(.int .i64)] r.1

noncomputable def i_Program_isStatement (x0 : TProgram) (x1 : Int) : Option (Bool) := (Den CC 53 (bodyT CC 53) ⟨tmOf [(0, .st 23 x0), (1, .int .i64 x1)] 0 10, [], 0⟩).bind fun r => prjR GG [.bool] r.1

noncomputable def i_first (x0 : (List Int)) : Option (Int) := (Den CC 51 (bodyT CC 51) ⟨tmOf [(0, .sl (.int .i64) x0)] 0 15, [], 0⟩).bind fun r => prjR GG [(.int .i64)] r.1

noncomputable def i_Program_next (x0 : TProgram) (x1 : TGoto) (x2 : Bool) (x3 : Int) : Option (Int × Int) := (Den CC 54 (bodyT CC 54) ⟨tmOf [(0, .st 23 x0), (1, .st 37 x1), (2, .bool x2), (3, .int .i64 x3)] 0 31, [], 0⟩).bind fun r => prjR GG [(.int .i64), (.int .i64)] r.1

noncomputable def l_szStatementS_L5 (x0 : (List TStatement)) (x1 : Int) (x2 : Int) : Option (Int) := (Den CC 29 (lbl CC 29 5) ⟨tmOf [(0, .sl (.st 52) x0), (1, .int .i64 x1), (5, .int .i64 x2)] 0 27, [], 0⟩).bind fun r => prjR GG [(.int .i64)] r.1

noncomputable def l_toStatementS_L3_v1 (x0 : (List TStatement)) (x1 : Int) (x2 : (List TStatement)) : Option ((((List TStatement) × Unit) × Unit)) := (Den CC 30 (lbl CC 30 3) ⟨tmOf [(0, .sl (.st 52) x0), (3, .arr 0), (4, .int .i64 x1)] 0 23, [.tr 53 (.st 52) x2 []], 0⟩).bind fun r => prjO GG [(false, [.tw 53 (.st 52)])] r

noncomputable def s_ValidProgram_L4 (x0 : Int) (x1 : (List TStatement)) : Option (Bool) := (Den CC 27 (lbl CC 27 4) ⟨tmOf [(1, .ref 0 0), (3, .int .i64 x0)] 0 46, [.box 30 [.sl (.st 52) x1] false], 0⟩).bind fun r => prjR GG [.bool] r.1

noncomputable def i_areAll_impl_Statement__i_ValidStatement (x0 : (List TStatement)) : Option (Bool) := (Den CC 61 (bodyT CC 61) ⟨tmOf [(0, .sl (.st 52) x0), (1, .fn 62 [])] 0 18, [], 0⟩).bind fun r => prjR GG [.bool] r.1

noncomputable def i_ValidProgram_L4 (x0 : (List TStatement)) (x1 : Int) (x2 : Int) (x3 : (List TStatement)) : Option (Bool) := (Den CC 31 (lbl CC 31 4) ⟨tmOf [(1, .ref 0 0), (16, .sl (.st 52) x0), (17, .int .i64 x1), (18, .int .i64 x2)] 0 44, [.box 30 [.sl (.st 52) x3] false], 0⟩).bind fun r => prjR GG [.bool] r.1

noncomputable def l_eqStatementS_L4 (x0 : (List TStatement)) (x1 : (List TStatement)) (x2 : Int) : Option (Bool) := (Den CC 32 (lbl CC 32 4) ⟨tmOf [(0, .sl (.st 52) x0), (1, .sl (.st 52) x1), (5, .int .i64 x2)] 0 27, [], 0⟩).bind fun r => prjR GG [.bool] r.1

noncomputable def i_Goto_labels (x0 : TGoto) : Option ((List (List UInt8))) := (Den CC 39 (bodyT CC 39) ⟨tmOf [(0, .st 37 x0)] 0 27, [], 0⟩).bind fun r => prjR GG [(.sl .str)] r.1

noncomputable def s_ValidGoto_L2 : Option (Bool) := (Den CC 47 (lbl CC 47 2) ⟨tmOf [] 0 29, [], 0⟩).bind fun r => prjR GG [.bool] r.1

noncomputable def s_ValidGoto_L3 (x0 : (List UInt8)) (x1 : (List UInt8)) (x2 : (List UInt8)) : Option (Bool) := (Den CC 47 (lbl CC 47 3) ⟨tmOf [(1, .ref 0 0)] 0 29, [.box 42 [.str x0, .str x1, .str x2] false], 0⟩).bind fun r => prjR GG [.bool] r.1

noncomputable def s_l20Next_L6 (x0 : Int) (x1 : (List UInt8)) (x2 : (List TStatement)) : Option (Int × Int) := (Den CC 49 (lbl CC 49 6) ⟨tmOf [(3, .int .i64 x0), (4, .ref 0 0), (10, .str x1)] 0 43, [.box 30 [.sl (.st 52) x2] false], 0⟩).bind fun r => prjR GG [(.int .i64), (.int .i64)] r.1

noncomputable def i_areAll_string__i_IsLabel (x0 : (List (List UInt8))) : Option (Bool) := (Den CC 78 (bodyT CC 78) ⟨tmOf [(0, .sl .str x0), (1, .fn 79 [])] 0 18, [], 0⟩).bind fun r => prjR GG [.bool] r.1

noncomputable def i_isIndex (x0 : Int) (x1 : Int) : Option (Bool) := (Den CC 80 (bodyT CC 80) ⟨tmOf [(0, .int .i64 x0), (1, .int .i64 x1)] 0 12, [], 0⟩).bind fun r => prjR GG [.bool] r.1

noncomputable def i_first_L2 (x0 : (List Int)) (x1 : Int) (x2 : Int) : Option (Int) := (Den CC 51 (lbl CC 51 2) ⟨tmOf [(5, .sl (.int .i64) x0), (6, .int .i64 x1), (7, .int .i64 x2)] 0 15, [], 0⟩).bind fun r => prjR GG [(.int .i64)] r.1

noncomputable def i_Program_next_L6 (x0 : Int) (x1 : (List UInt8)) (x2 : (List TStatement)) : Option (Int × Int) := (Den CC 54 (lbl CC 54 6) ⟨tmOf [(3, .int .i64 x0), (4, .ref 0 0), (10, .str x1)] 0 31, [.box 30 [.sl (.st 52) x2] false], 0⟩).bind fun r => prjR GG [(.int .i64), (.int .i64)] r.1

noncomputable def l_szStatement (x0 : TStatement) (x1 : Int) : Option (Int) := (Den CC 59 (bodyT CC 59) ⟨tmOf [(0, .st 52 x0), (1, .int .i64 x1)] 0 37, [], 0⟩).bind fun r => prjR GG [(.int .i64)] r.1

noncomputable def l_toStatement_v1 (x0 : TStatement) : Option ((((List UInt8) × Bool × Int × Int × (List UInt8) × (List TExpr) × Bool × Int × Int × (List UInt8) × (List TExpr) × Bool × Int × Int × (List UInt8) × (List TExpr) × (List UInt8) × (List UInt8) × (List UInt8) × Unit) × Unit)) := (Den CC 60 (bodyT CC 60) ⟨tmOf [(0, .st 52 x0)] 0 33, [], 0⟩).bind fun r => prjO GG [(true, [.im .str, .im .bool, .im (.int .i64), .im (.int .i64), .im .str, .tw 51 (.st 50), .im .bool, .im (.int .i64), .im (.int .i64), .im .str, .tw 51 (.st 50), .im .bool, .im (.int .i64), .im (.int .i64), .im .str, .tw 51 (.st 50), .im .str, .im .str, .im .str])] r

noncomputable def s_ValidStatement (x0 : TStatement) : Option (Bool) := (Den CC 57 (bodyT CC 57) ⟨tmOf [(0, .st 52 x0)] 0 27, [], 0⟩).bind fun r => prjR GG [.bool] r.1

noncomputable def s_ValidProgram_L8 : Option (Bool) := (Den CC 27 (lbl CC 27 8) ⟨tmOf [] 0 46, [], 0⟩).bind fun r => prjR GG [.bool] r.1

noncomputable def s_l05Reserved (x0 : (List UInt8)) : Option (Bool) := (Den CC 36 (bodyT CC 36) ⟨tmOf [(0, .str x0)] 0 9, [], 0⟩).bind fun r => prjR GG [.bool] r.1

noncomputable def s_l05Index (x0 : TProgram) (x1 : (List UInt8)) : Option (Int) := (Den CC 37 (bodyT CC 37) ⟨tmOf [(0, .st 23 x0), (1, .str x1)] 0 26, [], 0⟩).bind fun r => prjR GG [(.int .i64)] r.1

noncomputable def s_ValidProgram_L5 (x0 : Int) (x1 : (List TStatement)) : Option (Bool) := (Den CC 27 (lbl CC 27 5) ⟨tmOf [(1, .ref 0 0), (3, .int .i64 x0)] 0 46, [.box 30 [.sl (.st 52) x1] false], 0⟩).bind fun r => prjR GG [.bool] r.1

noncomputable def s_l05Text (x0 : TProgram) : Option ((List UInt8)) := (Den CC 58 (bodyT CC 58) ⟨tmOf [(0, .st 23 x0)] 0 22, [], 0⟩).bind fun r => prjR GG [.str] r.1

noncomputable def i_areAll_impl_Statement_L2__i_ValidStatement (x0 : (List TStatement)) (x1 : Int) (x2 : Int) : Option (Bool) := (Den CC 61 (lbl CC 61 2) ⟨tmOf [(1, .fn 62 []), (7, .sl (.st 52) x0), (8, .int .i64 x1), (9, .int .i64 x2)] 0 18, [], 0⟩).bind fun r => prjR GG [.bool] r.1

noncomputable def i_isReserved (x0 : (List UInt8)) : Option (Bool) := (Den CC 41 (bodyT CC 41) ⟨tmOf [(0, .str x0)] 0 9, [], 0⟩).bind fun r => prjR GG [.bool] r.1

noncomputable def i_ValidProgram_L7 : Option (Bool) := (Den CC 31 (lbl CC 31 7) ⟨tmOf [] 0 44, [], 0⟩).bind fun r => prjR GG [.bool] r.1

noncomputable def i_Program_labelIndex (x0 : TProgram) (x1 : (List UInt8)) : Option (Int) := (Den CC 40 (bodyT CC 40) ⟨tmOf [(0, .st 23 x0), (1, .str x1)] 0 9, [], 0⟩).bind fun r => prjR GG [(.int .i64)] r.1

noncomputable def i_ValidProgram_L8 (x0 : (List TStatement)) (x1 : Int) (x2 : Int) (x3 : (List TStatement)) : Option (Bool) := (Den CC 31 (lbl CC 31 8) ⟨tmOf [(1, .ref 0 0), (16, .sl (.st 52) x0), (17, .int .i64 x1), (18, .int .i64 x2)] 0 44, [.box 30 [.sl (.st 52) x3] false], 0⟩).bind fun r => prjR GG [.bool] r.1

noncomputable def i_Program_text (x0 : TProgram) : Option ((List UInt8)) := (Den CC 63 (bodyT CC 63) ⟨tmOf [(0, .st 23 x0)] 0 20, [], 0⟩).bind fun r => prjR GG [.str] r.1

noncomputable def l_eqStatement (x0 : TStatement) (x1 : TStatement) : Option (Bool) := (Den CC 64 (bodyT CC 64) ⟨tmOf [(0, .st 52 x0), (1, .st 52 x1)] 0 49, [], 0⟩).bind fun r => prjR GG [.bool] r.1

noncomputable def i_Goto_labels_L3 (x0 : Int) (x1 : Int) (x2 : (List (List UInt8))) (x3 : (List (List UInt8))) : Option ((List (List UInt8))) := (Den CC 39 (lbl CC 39 3) ⟨tmOf [(3, .arr 0), (13, .arr 1), (14, .int .i64 x0), (15, .int .i64 x1)] 0 27, [.arr 9 .str x2 false, .arr 9 .str x3 false], 0⟩).bind fun r => prjR GG [(.sl .str)] r.1

noncomputable def s_l04Name (x0 : (List UInt8)) : Option (Bool) := (Den CC 76 (bodyT CC 76) ⟨tmOf [(0, .str x0)] 0 9, [], 0⟩).bind fun r => prjR GG [.bool] r.1

noncomputable def s_l20Place (x0 : TProgram) (x1 : Int) : Option (Int) := (Den CC 77 (bodyT CC 77) ⟨tmOf [(0, .st 23 x0), (1, .int .i64 x1)] 0 20, [], 0⟩).bind fun r => prjR GG [(.int .i64)] r.1

noncomputable def i_areAll_string_L2__i_IsLabel (x0 : (List (List UInt8))) (x1 : Int) (x2 : Int) : Option (Bool) := (Den CC 78 (lbl CC 78 2) ⟨tmOf [(1, .fn 79 []), (7, .sl .str x0), (8, .int .i64 x1), (9, .int .i64 x2)] 0 18, [], 0⟩).bind fun r => prjR GG [.bool] r.1

noncomputable def i_Program_entry (x0 : TProgram) (x1 : Int) : Option (Int) := (Den CC 81 (bodyT CC 81) ⟨tmOf [(0, .st 23 x0), (1, .int .i64 x1)] 0 19, [], 0⟩).bind fun r => prjR GG [(.int .i64)] r.1

noncomputable def i_Program_jump (x0 : TProgram) (x1 : (List UInt8)) : Option (Int × Int) := (Den CC 82 (bodyT CC 82) ⟨tmOf [(0, .st 23 x0), (1, .str x1)] 0 22, [], 0⟩).bind fun r => prjR GG [(.int .i64), (.int .i64)] r.1

noncomputable def l_szExpr (x0 : TExpr) (x1 : Int) : Option (Int) := (Den CC 89 (bodyT CC 89) ⟨tmOf [(0, .st 50 x0), (1, .int .i64 x1)] 0 19, [], 0⟩).bind fun r => prjR GG [(.int .i64)] r.1

noncomputable def l_toExpr_v2 (x0 : TExpr) : Option (((Int × Int × (List UInt8) × (List TExpr) × Unit) × Unit)) := (Den CC 90 (bodyT CC 90) ⟨tmOf [(0, .st 50 x0)] 0 18, [], 0⟩).bind fun r => prjO GG [(true, [.im (.int .i64), .im (.int .i64), .im .str, .tw 51 (.st 50)])] r

noncomputable def s_l04Form (x0 : TStatement) : Option (Bool) := (Den CC 86 (bodyT CC 86) ⟨tmOf [(0, .st 52 x0)] 0 61, [], 0⟩).bind fun r => prjR GG [.bool] r.1

noncomputable def s_l04Print (x0 : TStatement) : Option ((List UInt8)) := (Den CC 87 (bodyT CC 87) ⟨tmOf [(0, .st 52 x0)] 0 38, [], 0⟩).bind fun r => prjR GG [.str] r.1

noncomputable def s_ScanTokens (x0 : (List UInt8)) : Option ((List TToken) × Int × Int) := (Den CC 88 (bodyT CC 88) ⟨tmOf [(0, .str x0)] 0 19, [], 0⟩).bind fun r => prjR GG [(.sl (.st 146)), (.int .i64), (.int .i64)] r.1

noncomputable def s_l05Index_L2 (x0 : (List UInt8)) (x1 : Int) (x2 : (List TStatement)) : Option (Int) := (Den CC 37 (lbl CC 37 2) ⟨tmOf [(1, .str x0), (2, .ref 0 0), (5, .int .i64 x1)] 0 26, [.box 30 [.sl (.st 52) x2] false], 0⟩).bind fun r => prjR GG [(.int .i64)] r.1

noncomputable def s_l05Text_L3 (x0 : (List UInt8)) (x1 : Int) (x2 : (List TStatement)) : Option ((List UInt8)) := (Den CC 58 (lbl CC 58 3) ⟨tmOf [(1, .ref 0 0), (3, .str x0), (4, .int .i64 x1)] 0 22, [.box 30 [.sl (.st 52) x2] false], 0⟩).bind fun r => prjR GG [.str] r.1

noncomputable def i_ValidStatement (x0 : TStatement) : Option (Bool) := (Den CC 62 (bodyT CC 62) ⟨tmOf [(0, .st 52 x0)] 0 89, [], 0⟩).bind fun r => prjR GG [.bool] r.1

noncomputable def slices_IndexFunc___i_Statement_i_Statement___i_Program_labelIndex_c1 (x0 : (List TStatement)) (x1 : (List UInt8)) : Option (Int) := (Den CC 66 (bodyT CC 66) ⟨tmOf [(0, .sl (.st 52) x0), (1, .fn 67 [.pc [.str x1]])] 0 19, [], 0⟩).bind fun r => prjR GG [(.int .i64)] r.1

noncomputable def i_Program_text_L3 (x0 : (List TStatement)) (x1 : Int) (x2 : Int) (x3 : (List Int)) : Option ((List UInt8)) := (Den CC 63 (lbl CC 63 3) ⟨tmOf [(3, .ref 0 0), (8, .sl (.st 52) x0), (9, .int .i64 x1), (10, .int .i64 x2)] 0 20, [.box 120 [.nilp, .arr 1] false, .arr 5 (.int .u8) x3 false], 0⟩).bind fun r => prjR GG [.str] r.1

noncomputable def l_eqExpr (x0 : TExpr) (x1 : TExpr) : Option (Bool) := (Den CC 97 (bodyT CC 97) ⟨tmOf [(0, .st 50 x0), (1, .st 50 x1)] 0 26, [], 0⟩).bind fun r => prjR GG [.bool] r.1

noncomputable def l_eqGoto (x0 : TGoto) (x1 : TGoto) : Option (Bool) := (Den CC 98 (bodyT CC 98) ⟨tmOf [(0, .st 37 x0), (1, .st 37 x1)] 0 20, [], 0⟩).bind fun r => prjR GG [.bool] r.1

noncomputable def s_l03Ok (x0 : Int) (x1 : Int) (x2 : (List UInt8)) (x3 : (List TExpr)) : Option (Bool) := (Den CC 70 (bodyT CC 70) ⟨tmOf [(0, .pc [.int .i64 x0, .int .i64 x1, .str x2, .sl (.st 50) x3])] 0 10, [], 0⟩).bind fun r => prjR GG [.bool] r.1

noncomputable def s_IsName (x0 : (List UInt8)) : Option (Bool) := (Den CC 105 (bodyT CC 105) ⟨tmOf [(0, .str x0)] 0 17, [], 0⟩).bind fun r => prjR GG [.bool] r.1

noncomputable def i_IsLabel (x0 : (List UInt8)) : Option (Bool) := (Den CC 79 (bodyT CC 79) ⟨tmOf [(0, .str x0)] 0 5, [], 0⟩).bind fun r => prjR GG [.bool] r.1

noncomputable def l_szExprS (x0 : (List TExpr)) (x1 : Int) : Option (Int) := (Den CC 118 (bodyT CC 118) ⟨tmOf [(0, .sl (.st 50) x0), (1, .int .i64 x1)] 0 27, [], 0⟩).bind fun r => prjR GG [(.int .i64)] r.1

noncomputable def l_toExprS_v2 (x0 : (List TExpr)) : Option ((((List TExpr) × Unit) × Unit)) := (Den CC 119 (bodyT CC 119) ⟨tmOf [(0, .sl (.st 50) x0)] 0 23, [], 0⟩).bind fun r => prjO GG [(false, [.tw 51 (.st 50)])] r

noncomputable def s_l04Form_L2 : Option (Bool) := (Den CC 86 (lbl CC 86 2) ⟨tmOf [] 0 61, [], 0⟩).bind fun r => prjR GG [.bool] r.1

noncomputable def s_l04Part (x0 : Bool) (x1 : TExpr) : Option (Bool) := (Den CC 112 (bodyT CC 112) ⟨tmOf [(0, .bool x0), (1, .st 50 x1)] 0 11, [], 0⟩).bind fun r => prjR GG [.bool] r.1

noncomputable def s_l04Form_L3 (x0 : (List UInt8)) (x1 : Bool) (x2 : Int) (x3 : Int) (x4 : (List UInt8)) (x5 : (List TExpr)) (x6 : Bool) (x7 : Int) (x8 : Int) (x9 : (List UInt8)) (x10 : (List TExpr)) (x11 : Bool) (x12 : Int) (x13 : Int) (x14 : (List UInt8)) (x15 : (List TExpr)) (x16 : (List UInt8)) (x17 : (List UInt8)) (x18 : (List UInt8)) : Option (Bool) := (Den CC 86 (lbl CC 86 3) ⟨tmOf [(1, .ref 0 0)] 0 61, [.box 53 [.str x0, .bool x1, .int .i64 x2, .int .i64 x3, .str x4, .sl (.st 50) x5, .bool x6, .int .i64 x7, .int .i64 x8, .str x9, .sl (.st 50) x10, .bool x11, .int .i64 x12, .int .i64 x13, .str x14, .sl (.st 50) x15, .str x16, .str x17, .str x18] false], 0⟩).bind fun r => prjR GG [.bool] r.1

noncomputable def s_l03At (x0 : Int) (x1 : Int) (x2 : (List UInt8)) (x3 : (List TExpr)) (x4 : Int) : Option ((List UInt8)) := (Den CC 113 (bodyT CC 113) ⟨tmOf [(0, .pc [.int .i64 x0, .int .i64 x1, .str x2, .sl (.st 50) x3]), (1, .int .i64 x4)] 0 15, [], 0⟩).bind fun r => prjR GG [.str] r.1

noncomputable def s_l03Print (x0 : Int) (x1 : Int) (x2 : (List UInt8)) (x3 : (List TExpr)) : Option ((List UInt8)) := (Den CC 114 (bodyT CC 114) ⟨tmOf [(0, .pc [.int .i64 x0, .int .i64 x1, .str x2, .sl (.st 50) x3])] 0 141, [], 0⟩).bind fun r => prjR GG [.str] r.1

noncomputable def s_l04Print_L6 (x0 : (List UInt8)) (x1 : (List UInt8)) (x2 : Bool) (x3 : Int) (x4 : Int) (x5 : (List UInt8)) (x6 : (List TExpr)) (x7 : Bool) (x8 : Int) (x9 : Int) (x10 : (List UInt8)) (x11 : (List TExpr)) (x12 : Bool) (x13 : Int) (x14 : Int) (x15 : (List UInt8)) (x16 : (List TExpr)) (x17 : (List UInt8)) (x18 : (List UInt8)) (x19 : (List UInt8)) : Option ((List UInt8)) := (Den CC 87 (lbl CC 87 6) ⟨tmOf [(1, .ref 0 0), (3, .str x0)] 0 38, [.box 53 [.str x1, .bool x2, .int .i64 x3, .int .i64 x4, .str x5, .sl (.st 50) x6, .bool x7, .int .i64 x8, .int .i64 x9, .str x10, .sl (.st 50) x11, .bool x12, .int .i64 x13, .int .i64 x14, .str x15, .sl (.st 50) x16, .str x17, .str x18, .str x19] false], 0⟩).bind fun r => prjR GG [.str] r.1

noncomputable def s_l01Printable (x0 : (List UInt8)) (x1 : Bool) : Option (Bool) := (Den CC 116 (bodyT CC 116) ⟨tmOf [(0, .str x0), (1, .bool x1)] 0 32, [], 0⟩).bind fun r => prjR GG [.bool] r.1

noncomputable def s_l02Scan (x0 : (List UInt8)) : Option ((List TToken) × Int × Int) := (Den CC 117 (bodyT CC 117) ⟨tmOf [(0, .str x0)] 0 64, [], 0⟩).bind fun r => prjR GG [(.sl (.st 146)), (.int .i64), (.int .i64)] r.1

noncomputable def i_ValidStatement_L2 : Option (Bool) := (Den CC 62 (lbl CC 62 2) ⟨tmOf [] 0 89, [], 0⟩).bind fun r => prjR GG [.bool] r.1

noncomputable def i_ValidStatement_L3 (x0 : (List UInt8)) (x1 : Bool) (x2 : Int) (x3 : Int) (x4 : (List UInt8)) (x5 : (List TExpr)) (x6 : Bool) (x7 : Int) (x8 : Int) (x9 : (List UInt8)) (x10 : (List TExpr)) (x11 : Bool) (x12 : Int) (x13 : Int) (x14 : (List UInt8)) (x15 : (List TExpr)) (x16 : (List UInt8)) (x17 : (List UInt8)) (x18 : (List UInt8)) : Option (Bool) := (Den CC 62 (lbl CC 62 3) ⟨tmOf [(1, .ref 0 0)] 0 89, [.box 53 [.str x0, .bool x1, .int .i64 x2, .int .i64 x3, .str x4, .sl (.st 50) x5, .bool x6, .int .i64 x7, .int .i64 x8, .str x9, .sl (.st 50) x10, .bool x11, .int .i64 x12, .int .i64 x13, .str x14, .sl (.st 50) x15, .str x16, .str x17, .str x18] false], 0⟩).bind fun r => prjR GG [.bool] r.1

noncomputable def slices_IndexFunc___i_Statement_i_Statement__L2__i_Program_labelIndex_c1 (x0 : (List TStatement)) (x1 : (List UInt8)) (x2 : Int) (x3 : Int) : Option (Int) := (Den CC 66 (lbl CC 66 2) ⟨tmOf [(0, .sl (.st 52) x0), (1, .fn 67 [.pc [.str x1]]), (7, .int .i64 x2), (8, .int .i64 x3)] 0 19, [], 0⟩).bind fun r => prjR GG [(.int .i64)] r.1

noncomputable def i_Statement_text (x0 : TStatement) : Option ((List UInt8)) := (Den CC 92 (bodyT CC 92) ⟨tmOf [(0, .st 52 x0)] 0 41, [], 0⟩).bind fun r => prjR GG [.str] r.1

noncomputable def i_Program_text_L3_v1 (x0 : (List TStatement)) (x1 : Int) (x2 : Int) (x3 : (List Int)) : Option ((List UInt8)) := (Den CC 63 (lbl CC 63 3) ⟨tmOf [(3, .ref 0 0), (8, .sl (.st 52) x0), (9, .int .i64 x1), (10, .int .i64 x2)] 0 20, [.box 120 [.ref 0 0, .arr 1] false, .arr 5 (.int .u8) x3 false], 0⟩).bind fun r => prjR GG [.str] r.1

noncomputable def l_eqExprS (x0 : (List TExpr)) (x1 : (List TExpr)) : Option (Bool) := (Den CC 131 (bodyT CC 131) ⟨tmOf [(0, .sl (.st 50) x0), (1, .sl (.st 50) x1)] 0 27, [], 0⟩).bind fun r => prjR GG [.bool] r.1

noncomputable def s_l03Size (x0 : Int) (x1 : Int) (x2 : (List UInt8)) (x3 : (List TExpr)) : Option (Int) := (Den CC 101 (bodyT CC 101) ⟨tmOf [(0, .pc [.int .i64 x0, .int .i64 x1, .str x2, .sl (.st 50) x3])] 0 28, [], 0⟩).bind fun r => prjR GG [(.int .i64)] r.1

noncomputable def s_l03Nodes (x0 : Int) (x1 : Int) (x2 : (List UInt8)) (x3 : (List TExpr)) : Option (Bool) := (Den CC 102 (bodyT CC 102) ⟨tmOf [(0, .pc [.int .i64 x0, .int .i64 x1, .str x2, .sl (.st 50) x3])] 0 24, [], 0⟩).bind fun r => prjR GG [.bool] r.1

noncomputable def s_l02NameEnd (x0 : (List UInt8)) (x1 : Int) : Option (Int) := (Den CC 144 (bodyT CC 144) ⟨tmOf [(0, .str x0), (1, .int .i64 x1)] 0 42, [], 0⟩).bind fun r => prjR GG [(.int .i64)] r.1

noncomputable def i_IsName (x0 : (List UInt8)) : Option (Bool) := (Den CC 106 (bodyT CC 106) ⟨tmOf [(0, .str x0)] 0 21, [], 0⟩).bind fun r => prjR GG [.bool] r.1

noncomputable def l_szExprS_L5 (x0 : (List TExpr)) (x1 : Int) (x2 : Int) : Option (Int) := (Den CC 118 (lbl CC 118 5) ⟨tmOf [(0, .sl (.st 50) x0), (1, .int .i64 x1), (5, .int .i64 x2)] 0 27, [], 0⟩).bind fun r => prjR GG [(.int .i64)] r.1

noncomputable def l_toExprS_L3_v2 (x0 : (List TExpr)) (x1 : Int) (x2 : (List TExpr)) : Option ((((List TExpr) × Unit) × Unit)) := (Den CC 119 (lbl CC 119 3) ⟨tmOf [(0, .sl (.st 50) x0), (3, .arr 0), (4, .int .i64 x1)] 0 23, [.tr 51 (.st 50) x2 []], 0⟩).bind fun r => prjO GG [(false, [.tw 51 (.st 50)])] r

noncomputable def s_ValidExpr (x0 : TExpr) : Option (Bool) := (Den CC 150 (bodyT CC 150) ⟨tmOf [(0, .st 50 x0)] 0 4, [], 0⟩).bind fun r => prjR GG [.bool] r.1

noncomputable def s_SameExpr (x0 : TExpr) (x1 : TExpr) : Option (Bool) := (Den CC 151 (bodyT CC 151) ⟨tmOf [(0, .st 50 x0), (1, .st 50 x1)] 0 6, [], 0⟩).bind fun r => prjR GG [.bool] r.1

noncomputable def s_l04Form_L4 : Option (Bool) := (Den CC 86 (lbl CC 86 4) ⟨tmOf [] 0 61, [], 0⟩).bind fun r => prjR GG [.bool] r.1

noncomputable def s_l04Form_L5 (x0 : (List UInt8)) (x1 : Bool) (x2 : Int) (x3 : Int) (x4 : (List UInt8)) (x5 : (List TExpr)) (x6 : Bool) (x7 : Int) (x8 : Int) (x9 : (List UInt8)) (x10 : (List TExpr)) (x11 : Bool) (x12 : Int) (x13 : Int) (x14 : (List UInt8)) (x15 : (List TExpr)) (x16 : (List UInt8)) (x17 : (List UInt8)) (x18 : (List UInt8)) : Option (Bool) := (Den CC 86 (lbl CC 86 5) ⟨tmOf [(1, .ref 0 0)] 0 61, [.box 53 [.str x0, .bool x1, .int .i64 x2, .int .i64 x3, .str x4, .sl (.st 50) x5, .bool x6, .int .i64 x7, .int .i64 x8, .str x9, .sl (.st 50) x10, .bool x11, .int .i64 x12, .int .i64 x13, .str x14, .sl (.st 50) x15, .str x16, .str x17, .str x18] false], 0⟩).bind fun r => prjR GG [.bool] r.1

noncomputable def s_l03Level (x0 : Int) (x1 : Int) (x2 : (List UInt8)) (x3 : (List TExpr)) : Option (Int) := (Den CC 152 (bodyT CC 152) ⟨tmOf [(0, .pc [.int .i64 x0, .int .i64 x1, .str x2, .sl (.st 50) x3])] 0 26, [], 0⟩).bind fun r => prjR GG [(.int .i64)] r.1

noncomputable def s_QuoteString (x0 : (List UInt8)) : Option ((List UInt8)) := (Den CC 153 (bodyT CC 153) ⟨tmOf [(0, .str x0)] 0 14, [], 0⟩).bind fun r => prjR GG [.str] r.1

noncomputable def s_l02Int (x0 : Int) : Option ((List UInt8)) := (Den CC 154 (bodyT CC 154) ⟨tmOf [(0, .int .i64 x0)] 0 29, [], 0⟩).bind fun r => prjR GG [.str] r.1

noncomputable def s_l03Print_L23 (x0 : Int) (x1 : Int) (x2 : (List UInt8)) (x3 : (List TExpr)) (x4 : (List UInt8)) (x5 : Int) : Option ((List UInt8)) := (Den CC 114 (lbl CC 114 23) ⟨tmOf [(0, .pc [.int .i64 x0, .int .i64 x1, .str x2, .sl (.st 50) x3]), (3, .str x4), (4, .int .i64 x5)] 0 141, [], 0⟩).bind fun r => prjR GG [.str] r.1

noncomputable def s_l03Sign (x0 : Int) : Option ((List UInt8)) := (Den CC 155 (bodyT CC 155) ⟨tmOf [(0, .int .i64 x0)] 0 18, [], 0⟩).bind fun r => prjR GG [.str] r.1

noncomputable def s_GotoText (x0 : TGoto) : Option ((List UInt8)) := (Den CC 115 (bodyT CC 115) ⟨tmOf [(0, .st 37 x0)] 0 38, [], 0⟩).bind fun r => prjR GG [.str] r.1

noncomputable def s_l04Print_L10 (x0 : (List UInt8)) : Option ((List UInt8)) := (Den CC 87 (lbl CC 87 10) ⟨tmOf [(3, .str x0)] 0 38, [], 0⟩).bind fun r => prjR GG [.str] r.1

noncomputable def s_l01Printable_L2 (x0 : (List UInt8)) (x1 : Bool) (x2 : Int) : Option (Bool) := (Den CC 116 (lbl CC 116 2) ⟨tmOf [(0, .str x0), (1, .bool x1), (5, .int .i64 x2)] 0 32, [], 0⟩).bind fun r => prjR GG [.bool] r.1

noncomputable def s_l02Scan_L4 (x0 : (List UInt8)) (x1 : Int) (x2 : Bool) (x3 : (List TToken)) : Option ((List TToken) × Int × Int) := (Den CC 117 (lbl CC 117 4) ⟨tmOf [(0, .str x0), (5, .arr 0), (6, .int .i64 x1), (7, .bool x2)] 0 64, [.arr 147 (.st 146) x3 false], 0⟩).bind fun r => prjR GG [(.sl (.st 146)), (.int .i64), (.int .i64)] r.1

noncomputable def i_isPart (x0 : Bool) (x1 : TExpr) : Option (Bool) := (Den CC 91 (bodyT CC 91) ⟨tmOf [(0, .bool x0), (1, .st 50 x1)] 0 11, [], 0⟩).bind fun r => prjR GG [.bool] r.1

noncomputable def i_ValidStatement_L4 : Option (Bool) := (Den CC 62 (lbl CC 62 4) ⟨tmOf [] 0 89, [], 0⟩).bind fun r => prjR GG [.bool] r.1

noncomputable def i_ValidStatement_L5 (x0 : (List UInt8)) (x1 : Bool) (x2 : Int) (x3 : Int) (x4 : (List UInt8)) (x5 : (List TExpr)) (x6 : Bool) (x7 : Int) (x8 : Int) (x9 : (List UInt8)) (x10 : (List TExpr)) (x11 : Bool) (x12 : Int) (x13 : Int) (x14 : (List UInt8)) (x15 : (List TExpr)) (x16 : (List UInt8)) (x17 : (List UInt8)) (x18 : (List UInt8)) : Option (Bool) := (Den CC 62 (lbl CC 62 5) ⟨tmOf [(1, .ref 0 0)] 0 89, [.box 53 [.str x0, .bool x1, .int .i64 x2, .int .i64 x3, .str x4, .sl (.st 50) x5, .bool x6, .int .i64 x7, .int .i64 x8, .str x9, .sl (.st 50) x10, .bool x11, .int .i64 x12, .int .i64 x13, .str x14, .sl (.st 50) x15, .str x16, .str x17, .str x18] false], 0⟩).bind fun r => prjR GG [.bool] r.1

noncomputable def i_Program_labelIndex_c1 (x0 : TStatement) (x1 : (List UInt8)) : Option (Bool) := (Den CC 67 (bodyT CC 67) ⟨tmOf [(0, .st 52 x0), (1, .pc [.str x1])] 0 8, [], 0⟩).bind fun r => prjR GG [.bool] r.1

noncomputable def i_operand (x0 : TExpr) (x1 : Int) : Option ((List UInt8)) := (Den CC 122 (bodyT CC 122) ⟨tmOf [(0, .st 50 x0), (1, .int .i64 x1)] 0 16, [], 0⟩).bind fun r => prjR GG [.str] r.1

noncomputable def i_Expr_text (x0 : TExpr) : Option ((List UInt8)) := (Den CC 123 (bodyT CC 123) ⟨tmOf [(0, .st 50 x0)] 0 133, [], 0⟩).bind fun r => prjR GG [.str] r.1

noncomputable def i_Statement_text_L6 (x0 : (List UInt8)) (x1 : (List UInt8)) (x2 : Bool) (x3 : Int) (x4 : Int) (x5 : (List UInt8)) (x6 : (List TExpr)) (x7 : Bool) (x8 : Int) (x9 : Int) (x10 : (List UInt8)) (x11 : (List TExpr)) (x12 : Bool) (x13 : Int) (x14 : Int) (x15 : (List UInt8)) (x16 : (List TExpr)) (x17 : (List UInt8)) (x18 : (List UInt8)) (x19 : (List UInt8)) : Option ((List UInt8)) := (Den CC 92 (lbl CC 92 6) ⟨tmOf [(1, .ref 0 0), (3, .str x0)] 0 41, [.box 53 [.str x1, .bool x2, .int .i64 x3, .int .i64 x4, .str x5, .sl (.st 50) x6, .bool x7, .int .i64 x8, .int .i64 x9, .str x10, .sl (.st 50) x11, .bool x12, .int .i64 x13, .int .i64 x14, .str x15, .sl (.st 50) x16, .str x17, .str x18, .str x19] false], 0⟩).bind fun r => prjR GG [.str] r.1

noncomputable def l_eqExprS_L4 (x0 : (List TExpr)) (x1 : (List TExpr)) (x2 : Int) : Option (Bool) := (Den CC 131 (lbl CC 131 4) ⟨tmOf [(0, .sl (.st 50) x0), (1, .sl (.st 50) x1), (5, .int .i64 x2)] 0 27, [], 0⟩).bind fun r => prjR GG [.bool] r.1

noncomputable def s_l03Size_L3 (x0 : Int) (x1 : Int) (x2 : (List UInt8)) (x3 : (List TExpr)) (x4 : Int) (x5 : Int) : Option (Int) := (Den CC 101 (lbl CC 101 3) ⟨tmOf [(0, .pc [.int .i64 x0, .int .i64 x1, .str x2, .sl (.st 50) x3]), (3, .int .i64 x4), (4, .int .i64 x5)] 0 28, [], 0⟩).bind fun r => prjR GG [(.int .i64)] r.1

noncomputable def s_l03Shape (x0 : Int) (x1 : Int) (x2 : (List UInt8)) (x3 : (List TExpr)) : Option (Bool) := (Den CC 143 (bodyT CC 143) ⟨tmOf [(0, .pc [.int .i64 x0, .int .i64 x1, .str x2, .sl (.st 50) x3])] 0 145, [], 0⟩).bind fun r => prjR GG [.bool] r.1

noncomputable def s_l03Nodes_L4 (x0 : Int) (x1 : Int) (x2 : (List UInt8)) (x3 : (List TExpr)) (x4 : Int) : Option (Bool) := (Den CC 102 (lbl CC 102 4) ⟨tmOf [(0, .pc [.int .i64 x0, .int .i64 x1, .str x2, .sl (.st 50) x3]), (3, .int .i64 x4)] 0 24, [], 0⟩).bind fun r => prjR GG [.bool] r.1

noncomputable def i_isNamed (x0 : Int) : Option (Bool) := (Den CC 75 (bodyT CC 75) ⟨tmOf [(0, .int .i64 x0)] 0 5, [], 0⟩).bind fun r => prjR GG [.bool] r.1

noncomputable def s_l02Letter (x0 : Int) : Option (Bool) := (Den CC 178 (bodyT CC 178) ⟨tmOf [(0, .int .u8 x0)] 0 17, [], 0⟩).bind fun r => prjR GG [.bool] r.1

noncomputable def s_l02NameEnd_L3 (x0 : (List UInt8)) (x1 : Int) : Option (Int) := (Den CC 144 (lbl CC 144 3) ⟨tmOf [(0, .str x0), (1, .int .i64 x1)] 0 42, [], 0⟩).bind fun r => prjR GG [(.int .i64)] r.1

noncomputable def i_isLetter (x0 : Int) : Option (Bool) := (Den CC 145 (bodyT CC 145) ⟨tmOf [(0, .int .u8 x0)] 0 17, [], 0⟩).bind fun r => prjR GG [.bool] r.1

noncomputable def i_areAll_byte__i_isNameByte (x0 : (List Int)) : Option (Bool) := (Den CC 146 (bodyT CC 146) ⟨tmOf [(0, .sl (.int .u8) x0), (1, .fn 147 [])] 0 18, [], 0⟩).bind fun r => prjR GG [.bool] r.1

noncomputable def s_l03Same (x0 : Int) (x1 : Int) (x2 : (List UInt8)) (x3 : (List TExpr)) (x4 : Int) (x5 : Int) (x6 : (List UInt8)) (x7 : (List TExpr)) : Option (Bool) := (Den CC 180 (bodyT CC 180) ⟨tmOf [(0, .pc [.int .i64 x0, .int .i64 x1, .str x2, .sl (.st 50) x3]), (1, .pc [.int .i64 x4, .int .i64 x5, .str x6, .sl (.st 50) x7])] 0 73, [], 0⟩).bind fun r => prjR GG [.bool] r.1

noncomputable def s_l03Level_L11 : Option (Int) := (Den CC 152 (lbl CC 152 11) ⟨tmOf [] 0 26, [], 0⟩).bind fun r => prjR GG [(.int .i64)] r.1

noncomputable def s_l03Level_L12 (x0 : Int) : Option (Int) := (Den CC 152 (lbl CC 152 12) ⟨tmOf [(6, .int .i64 x0)] 0 26, [], 0⟩).bind fun r => prjR GG [(.int .i64)] r.1

noncomputable def s_CanQuote (x0 : (List UInt8)) : Option (Bool) := (Den CC 177 (bodyT CC 177) ⟨tmOf [(0, .str x0)] 0 19, [], 0⟩).bind fun r => prjR GG [.bool] r.1

noncomputable def s_l02Holds (x0 : (List UInt8)) (x1 : Int) : Option (Bool) := (Den CC 181 (bodyT CC 181) ⟨tmOf [(0, .str x0), (1, .int .u8 x1)] 0 17, [], 0⟩).bind fun r => prjR GG [.bool] r.1

noncomputable def s_l02Int_L4 (x0 : Int) (x1 : (List UInt8)) : Option ((List UInt8)) := (Den CC 154 (lbl CC 154 4) ⟨tmOf [(0, .int .i64 x0), (3, .str x1)] 0 29, [], 0⟩).bind fun r => prjR GG [.str] r.1

noncomputable def s_GotoText_L8 (x0 : (List UInt8)) (x1 : (List UInt8)) (x2 : (List UInt8)) (x3 : (List UInt8)) : Option ((List UInt8)) := (Den CC 115 (lbl CC 115 8) ⟨tmOf [(1, .ref 0 0), (3, .str x0)] 0 38, [.box 42 [.str x1, .str x2, .str x3] false], 0⟩).bind fun r => prjR GG [.str] r.1

noncomputable def s_l01Printable_L5 : Option (Bool) := (Den CC 116 (lbl CC 116 5) ⟨tmOf [] 0 32, [], 0⟩).bind fun r => prjR GG [.bool] r.1

noncomputable def s_l01Printable_L3 (x0 : (List UInt8)) (x1 : Bool) (x2 : Int) : Option (Bool) := (Den CC 116 (lbl CC 116 3) ⟨tmOf [(0, .str x0), (1, .bool x1), (5, .int .i64 x2)] 0 32, [], 0⟩).bind fun r => prjR GG [.bool] r.1

noncomputable def s_l02One (x0 : (List UInt8)) (x1 : Int) : Option (TToken × Int) := (Den CC 156 (bodyT CC 156) ⟨tmOf [(0, .str x0), (1, .int .i64 x1)] 0 145, [], 0⟩).bind fun r => prjR GG [(.st 146), (.int .i64)] r.1

noncomputable def i_ValidExpr (x0 : TExpr) : Option (Bool) := (Den CC 120 (bodyT CC 120) ⟨tmOf [(0, .st 50 x0)] 0 6, [], 0⟩).bind fun r => prjR GG [.bool] r.1

noncomputable def i_SameExpr (x0 : TExpr) (x1 : TExpr) : Option (Bool) := (Den CC 121 (bodyT CC 121) ⟨tmOf [(0, .st 50 x0), (1, .st 50 x1)] 0 31, [], 0⟩).bind fun r => prjR GG [.bool] r.1

noncomputable def i_ValidStatement_L6 : Option (Bool) := (Den CC 62 (lbl CC 62 6) ⟨tmOf [] 0 89, [], 0⟩).bind fun r => prjR GG [.bool] r.1

noncomputable def i_ValidStatement_L7 (x0 : (List UInt8)) (x1 : Bool) (x2 : Int) (x3 : Int) (x4 : (List UInt8)) (x5 : (List TExpr)) (x6 : Bool) (x7 : Int) (x8 : Int) (x9 : (List UInt8)) (x10 : (List TExpr)) (x11 : Bool) (x12 : Int) (x13 : Int) (x14 : (List UInt8)) (x15 : (List TExpr)) (x16 : (List UInt8)) (x17 : (List UInt8)) (x18 : (List UInt8)) : Option (Bool) := (Den CC 62 (lbl CC 62 7) ⟨tmOf [(1, .ref 0 0)] 0 89, [.box 53 [.str x0, .bool x1, .int .i64 x2, .int .i64 x3, .str x4, .sl (.st 50) x5, .bool x6, .int .i64 x7, .int .i64 x8, .str x9, .sl (.st 50) x10, .bool x11, .int .i64 x12, .int .i64 x13, .str x14, .sl (.st 50) x15, .str x16, .str x17, .str x18] false], 0⟩).bind fun r => prjR GG [.bool] r.1

noncomputable def i_level (x0 : Int) : Option (Int) := (Den CC 159 (bodyT CC 159) ⟨tmOf [(0, .int .i64 x0)] 0 23, [], 0⟩).bind fun r => prjR GG [(.int .i64)] r.1

noncomputable def i_QuoteString (x0 : (List UInt8)) : Option ((List UInt8)) := (Den CC 160 (bodyT CC 160) ⟨tmOf [(0, .str x0)] 0 16, [], 0⟩).bind fun r => prjR GG [.str] r.1

noncomputable def i_decimal (x0 : Int) : Option ((List UInt8)) := (Den CC 161 (bodyT CC 161) ⟨tmOf [(0, .int .i64 x0)] 0 5, [], 0⟩).bind fun r => prjR GG [.str] r.1

noncomputable def i_Expr_text_L11 (x0 : (List TExpr)) (x1 : Int) (x2 : Int) (x3 : Int) (x4 : Int) (x5 : (List UInt8)) (x6 : (List TExpr)) (x7 : (List (List UInt8))) : Option ((List UInt8)) := (Den CC 123 (lbl CC 123 11) ⟨tmOf [(1, .ref 0 0), (4, .arr 1), (36, .sl (.st 50) x0), (37, .int .i64 x1), (38, .int .i64 x2)] 0 133, [.box 51 [.int .i64 x3, .int .i64 x4, .str x5, .sl (.st 50) x6] false, .arr 9 .str x7 false], 0⟩).bind fun r => prjR GG [.str] r.1

noncomputable def i_symbol (x0 : Int) : Option ((List UInt8)) := (Den CC 163 (bodyT CC 163) ⟨tmOf [(0, .int .i64 x0)] 0 8, [], 0⟩).bind fun r => prjR GG [.str] r.1

noncomputable def i_Goto_text (x0 : TGoto) : Option ((List UInt8)) := (Den CC 124 (bodyT CC 124) ⟨tmOf [(0, .st 37 x0)] 0 33, [], 0⟩).bind fun r => prjR GG [.str] r.1

noncomputable def i_Statement_text_L11 (x0 : (List UInt8)) : Option ((List UInt8)) := (Den CC 92 (lbl CC 92 11) ⟨tmOf [(3, .str x0)] 0 41, [], 0⟩).bind fun r => prjR GG [.str] r.1

noncomputable def s_l03Shape_L13 (x0 : Int) (x1 : Int) (x2 : (List UInt8)) (x3 : (List TExpr)) (x4 : Int) : Option (Bool) := (Den CC 143 (lbl CC 143 13) ⟨tmOf [(0, .pc [.int .i64 x0, .int .i64 x1, .str x2, .sl (.st 50) x3]), (3, .int .i64 x4)] 0 145, [], 0⟩).bind fun r => prjR GG [.bool] r.1

noncomputable def s_l03Shape_L14 (x0 : Int) (x1 : Int) (x2 : (List UInt8)) (x3 : (List TExpr)) (x4 : Bool) (x5 : Int) : Option (Bool) := (Den CC 143 (lbl CC 143 14) ⟨tmOf [(0, .pc [.int .i64 x0, .int .i64 x1, .str x2, .sl (.st 50) x3]), (4, .bool x4), (8, .int .i64 x5)] 0 145, [], 0⟩).bind fun r => prjR GG [.bool] r.1

noncomputable def i_within (x0 : Int) (x1 : Int) (x2 : Int) : Option (Bool) := (Den CC 104 (bodyT CC 104) ⟨tmOf [(0, .int .i64 x0), (1, .int .i64 x1), (2, .int .i64 x2)] 0 15, [], 0⟩).bind fun r => prjR GG [.bool] r.1

noncomputable def s_l02NameEnd_L4 (x0 : (List UInt8)) (x1 : Int) : Option (Int) := (Den CC 144 (lbl CC 144 4) ⟨tmOf [(0, .str x0), (1, .int .i64 x1)] 0 42, [], 0⟩).bind fun r => prjR GG [(.int .i64)] r.1

noncomputable def s_l02Digit (x0 : Int) : Option (Bool) := (Den CC 179 (bodyT CC 179) ⟨tmOf [(0, .int .u8 x0)] 0 9, [], 0⟩).bind fun r => prjR GG [.bool] r.1

noncomputable def s_l02NameEnd_L5 (x0 : Int) : Option (Int) := (Den CC 144 (lbl CC 144 5) ⟨tmOf [(1, .int .i64 x0)] 0 42, [], 0⟩).bind fun r => prjR GG [(.int .i64)] r.1

noncomputable def i_areAll_byte_L2__i_isNameByte (x0 : (List Int)) (x1 : Int) (x2 : Int) : Option (Bool) := (Den CC 146 (lbl CC 146 2) ⟨tmOf [(1, .fn 147 []), (7, .sl (.int .u8) x0), (8, .int .i64 x1), (9, .int .i64 x2)] 0 18, [], 0⟩).bind fun r => prjR GG [.bool] r.1

noncomputable def s_l03Same_L2 : Option (Bool) := (Den CC 180 (lbl CC 180 2) ⟨tmOf [] 0 73, [], 0⟩).bind fun r => prjR GG [.bool] r.1

noncomputable def s_l03Same_L3 (x0 : Int) (x1 : Int) (x2 : (List UInt8)) (x3 : (List TExpr)) (x4 : Int) (x5 : Int) (x6 : (List UInt8)) (x7 : (List TExpr)) : Option (Bool) := (Den CC 180 (lbl CC 180 3) ⟨tmOf [(0, .pc [.int .i64 x0, .int .i64 x1, .str x2, .sl (.st 50) x3]), (1, .pc [.int .i64 x4, .int .i64 x5, .str x6, .sl (.st 50) x7])] 0 73, [], 0⟩).bind fun r => prjR GG [.bool] r.1

noncomputable def s_l03Level_L20 : Option (Int) := (Den CC 152 (lbl CC 152 20) ⟨tmOf [] 0 26, [], 0⟩).bind fun r => prjR GG [(.int .i64)] r.1

noncomputable def s_l03Level_L21 : Option (Int) := (Den CC 152 (lbl CC 152 21) ⟨tmOf [] 0 26, [], 0⟩).bind fun r => prjR GG [(.int .i64)] r.1

noncomputable def s_l02Holds_L2 (x0 : (List UInt8)) (x1 : Int) (x2 : Int) : Option (Bool) := (Den CC 181 (lbl CC 181 2) ⟨tmOf [(0, .str x0), (1, .int .u8 x1), (5, .int .i64 x2)] 0 17, [], 0⟩).bind fun r => prjR GG [.bool] r.1

noncomputable def s_l02One_L10 (x0 : (List UInt8)) (x1 : Int) (x2 : Int) (x3 : Int) (x4 : Int) (x5 : Int) (x6 : (List UInt8)) (x7 : Bool) (x8 : Bool) : Option (TToken × Int) := (Den CC 156 (lbl CC 156 10) ⟨tmOf [(0, .str x0), (1, .int .i64 x1), (4, .ref 0 0), (8, .int .i64 x2), (9, .int .i64 x3)] 0 145, [.box 147 [.int .i64 x4, .int .i64 x5, .str x6, .bool x7, .bool x8] false], 0⟩).bind fun r => prjR GG [(.st 146), (.int .i64)] r.1

noncomputable def s_l02One_L18 (x0 : (List UInt8)) (x1 : Int) (x2 : Int) (x3 : Int) (x4 : Int) (x5 : Int) (x6 : (List UInt8)) (x7 : Bool) (x8 : Bool) : Option (TToken × Int) := (Den CC 156 (lbl CC 156 18) ⟨tmOf [(0, .str x0), (1, .int .i64 x1), (4, .ref 0 0), (6, .int .u8 x2), (10, .int .i64 x3)] 0 145, [.box 147 [.int .i64 x4, .int .i64 x5, .str x6, .bool x7, .bool x8] false], 0⟩).bind fun r => prjR GG [(.st 146), (.int .i64)] r.1

noncomputable def s_l02Operator (x0 : Int) : Option (Bool) := (Den CC 182 (bodyT CC 182) ⟨tmOf [(0, .int .u8 x0)] 0 14, [], 0⟩).bind fun r => prjR GG [.bool] r.1

noncomputable def s_l02One_L27 (x0 : Int) (x1 : Int) (x2 : (List UInt8)) (x3 : Int) (x4 : Int) (x5 : Int) (x6 : (List UInt8)) (x7 : Bool) (x8 : Bool) : Option (TToken × Int) := (Den CC 156 (lbl CC 156 27) ⟨tmOf [(1, .int .i64 x0), (4, .ref 0 0), (6, .int .u8 x1), (11, .str x2), (12, .int .i64 x3)] 0 145, [.box 147 [.int .i64 x4, .int .i64 x5, .str x6, .bool x7, .bool x8] false], 0⟩).bind fun r => prjR GG [(.st 146), (.int .i64)] r.1

noncomputable def i_countNodes (x0 : TExpr) (x1 : Int) : Option (Int) := (Den CC 157 (bodyT CC 157) ⟨tmOf [(0, .st 50 x0), (1, .int .i64 x1)] 0 30, [], 0⟩).bind fun r => prjR GG [(.int .i64)] r.1

noncomputable def slices_EqualFunc___i_Expr___i_Expr_i_Expr_i_Expr___i_SameExpr (x0 : (List TExpr)) (x1 : (List TExpr)) : Option (Bool) := (Den CC 158 (bodyT CC 158) ⟨tmOf [(0, .sl (.st 50) x0), (1, .sl (.st 50) x1), (2, .fn 121 [])] 0 32, [], 0⟩).bind fun r => prjR GG [.bool] r.1

noncomputable def strings_TrimPrefix (x0 : (List UInt8)) (x1 : (List UInt8)) : Option ((List UInt8)) := (Den CC 94 (bodyT CC 94) ⟨tmOf [(0, .str x0), (1, .str x1)] 0 8, [], 0⟩).bind fun r => prjR GG [.str] r.1

noncomputable def i_ScanTokens (x0 : (List UInt8)) : Option ((List TToken) × Int × Int) := (Den CC 93 (bodyT CC 93) ⟨tmOf [(0, .str x0)] 0 81, [], 0⟩).bind fun r => prjR GG [(.sl (.st 146)), (.int .i64), (.int .i64)] r.1

noncomputable def i_level_L11 : Option (Int) := (Den CC 159 (lbl CC 159 11) ⟨tmOf [] 0 23, [], 0⟩).bind fun r => prjR GG [(.int .i64)] r.1

noncomputable def i_level_L12 (x0 : Int) : Option (Int) := (Den CC 159 (lbl CC 159 12) ⟨tmOf [(3, .int .i64 x0)] 0 23, [], 0⟩).bind fun r => prjR GG [(.int .i64)] r.1

noncomputable def i_CanQuote (x0 : (List UInt8)) : Option (Bool) := (Den CC 184 (bodyT CC 184) ⟨tmOf [(0, .str x0)] 0 19, [], 0⟩).bind fun r => prjR GG [.bool] r.1

noncomputable def i_Goto_text_L8 (x0 : (List UInt8)) : Option ((List UInt8)) := (Den CC 124 (lbl CC 124 8) ⟨tmOf [(3, .str x0)] 0 33, [], 0⟩).bind fun r => prjR GG [.str] r.1

noncomputable def s_l03Shape_L32 (x0 : Int) (x1 : Int) (x2 : (List UInt8)) (x3 : (List TExpr)) (x4 : Int) (x5 : Bool) : Option (Bool) := (Den CC 143 (lbl CC 143 32) ⟨tmOf [(0, .pc [.int .i64 x0, .int .i64 x1, .str x2, .sl (.st 50) x3]), (3, .int .i64 x4), (4, .bool x5)] 0 145, [], 0⟩).bind fun r => prjR GG [.bool] r.1

noncomputable def s_l03Shape_L26 (x0 : Int) (x1 : Int) (x2 : (List UInt8)) (x3 : (List TExpr)) (x4 : Bool) : Option (Bool) := (Den CC 143 (lbl CC 143 26) ⟨tmOf [(0, .pc [.int .i64 x0, .int .i64 x1, .str x2, .sl (.st 50) x3]), (4, .bool x4)] 0 145, [], 0⟩).bind fun r => prjR GG [.bool] r.1

noncomputable def s_l03Shape_L27 (x0 : Int) (x1 : Int) (x2 : (List UInt8)) (x3 : (List TExpr)) (x4 : Bool) (x5 : Int) : Option (Bool) := (Den CC 143 (lbl CC 143 27) ⟨tmOf [(0, .pc [.int .i64 x0, .int .i64 x1, .str x2, .sl (.st 50) x3]), (4, .bool x4), (8, .int .i64 x5)] 0 145, [], 0⟩).bind fun r => prjR GG [.bool] r.1

noncomputable def i_isNameByte (x0 : Int) : Option (Bool) := (Den CC 147 (bodyT CC 147) ⟨tmOf [(0, .int .u8 x0)] 0 13, [], 0⟩).bind fun r => prjR GG [.bool] r.1

noncomputable def s_l03Same_L4 (x0 : Int) (x1 : Int) (x2 : (List UInt8)) (x3 : (List TExpr)) (x4 : Int) (x5 : Int) (x6 : (List UInt8)) (x7 : (List TExpr)) (x8 : Int) : Option (Bool) := (Den CC 180 (lbl CC 180 4) ⟨tmOf [(0, .pc [.int .i64 x0, .int .i64 x1, .str x2, .sl (.st 50) x3]), (1, .pc [.int .i64 x4, .int .i64 x5, .str x6, .sl (.st 50) x7]), (5, .int .i64 x8)] 0 73, [], 0⟩).bind fun r => prjR GG [.bool] r.1

noncomputable def s_l02One_L11 (x0 : (List UInt8)) (x1 : Int) (x2 : Int) (x3 : Int) (x4 : Int) (x5 : Int) (x6 : (List UInt8)) (x7 : Bool) (x8 : Bool) : Option (TToken × Int) := (Den CC 156 (lbl CC 156 11) ⟨tmOf [(0, .str x0), (1, .int .i64 x1), (4, .ref 0 0), (8, .int .i64 x2), (9, .int .i64 x3)] 0 145, [.box 147 [.int .i64 x4, .int .i64 x5, .str x6, .bool x7, .bool x8] false], 0⟩).bind fun r => prjR GG [(.st 146), (.int .i64)] r.1

noncomputable def s_l02One_L13 (x0 : Int) (x1 : Int) (x2 : Int) (x3 : Int) (x4 : Int) (x5 : (List UInt8)) (x6 : Bool) (x7 : Bool) : Option (TToken × Int) := (Den CC 156 (lbl CC 156 13) ⟨tmOf [(1, .int .i64 x0), (4, .ref 0 0), (8, .int .i64 x1), (9, .int .i64 x2)] 0 145, [.box 147 [.int .i64 x3, .int .i64 x4, .str x5, .bool x6, .bool x7] false], 0⟩).bind fun r => prjR GG [(.st 146), (.int .i64)] r.1

noncomputable def s_l02One_L21 (x0 : Int) (x1 : Int) (x2 : (List UInt8)) (x3 : Bool) (x4 : Bool) : Option (TToken × Int) := (Den CC 156 (lbl CC 156 21) ⟨tmOf [(4, .ref 0 0)] 0 145, [.box 147 [.int .i64 x0, .int .i64 x1, .str x2, .bool x3, .bool x4] false], 0⟩).bind fun r => prjR GG [(.st 146), (.int .i64)] r.1

noncomputable def s_l02One_L22 (x0 : (List UInt8)) (x1 : Int) (x2 : Int) (x3 : Int) (x4 : Int) (x5 : (List UInt8)) (x6 : Bool) (x7 : Bool) : Option (TToken × Int) := (Den CC 156 (lbl CC 156 22) ⟨tmOf [(0, .str x0), (1, .int .i64 x1), (4, .ref 0 0), (10, .int .i64 x2)] 0 145, [.box 147 [.int .i64 x3, .int .i64 x4, .str x5, .bool x6, .bool x7] false], 0⟩).bind fun r => prjR GG [(.st 146), (.int .i64)] r.1

noncomputable def s_l02Operator_L11 : Option (Bool) := (Den CC 182 (lbl CC 182 11) ⟨tmOf [] 0 14, [], 0⟩).bind fun r => prjR GG [.bool] r.1

noncomputable def s_l02Operator_L12 : Option (Bool) := (Den CC 182 (lbl CC 182 12) ⟨tmOf [] 0 14, [], 0⟩).bind fun r => prjR GG [.bool] r.1

noncomputable def i_Expr_hasFields (x0 : TExpr) : Option (Bool) := (Den CC 183 (bodyT CC 183) ⟨tmOf [(0, .st 50 x0)] 0 116, [], 0⟩).bind fun r => prjR GG [.bool] r.1

noncomputable def i_countNodes_L5 (x0 : Int) (x1 : (List TExpr)) (x2 : Int) (x3 : Int) : Option (Int) := (Den CC 157 (lbl CC 157 5) ⟨tmOf [(1, .int .i64 x0), (17, .sl (.st 50) x1), (18, .int .i64 x2), (19, .int .i64 x3)] 0 30, [], 0⟩).bind fun r => prjR GG [(.int .i64)] r.1

noncomputable def slices_EqualFunc___i_Expr___i_Expr_i_Expr_i_Expr__L4__i_SameExpr (x0 : (List TExpr)) (x1 : (List TExpr)) (x2 : Int) (x3 : Int) : Option (Bool) := (Den CC 158 (lbl CC 158 4) ⟨tmOf [(1, .sl (.st 50) x0), (2, .fn 121 []), (15, .sl (.st 50) x1), (16, .int .i64 x2), (17, .int .i64 x3)] 0 32, [], 0⟩).bind fun r => prjR GG [.bool] r.1

noncomputable def internal_stringslite_TrimPrefix (x0 : (List UInt8)) (x1 : (List UInt8)) : Option ((List UInt8)) := (Den CC 129 (bodyT CC 129) ⟨tmOf [(0, .str x0), (1, .str x1)] 0 13, [], 0⟩).bind fun r => prjR GG [.str] r.1

noncomputable def i_isPlainText (x0 : (List UInt8)) : Option (Bool) := (Den CC 125 (bodyT CC 125) ⟨tmOf [(0, .str x0)] 0 6, [], 0⟩).bind fun r => prjR GG [.bool] r.1

noncomputable def i_ScanTokens_L5 (x0 : (List UInt8)) (x1 : Int) (x2 : (List TToken)) : Option ((List TToken) × Int × Int) := (Den CC 93 (lbl CC 93 5) ⟨tmOf [(0, .str x0), (5, .arr 0), (6, .int .i64 x1)] 0 81, [.arr 147 (.st 146) x2 false], 0⟩).bind fun r => prjR GG [(.sl (.st 146)), (.int .i64), (.int .i64)] r.1

noncomputable def i_level_L20 : Option (Int) := (Den CC 159 (lbl CC 159 20) ⟨tmOf [] 0 23, [], 0⟩).bind fun r => prjR GG [(.int .i64)] r.1

noncomputable def i_level_L21 : Option (Int) := (Den CC 159 (lbl CC 159 21) ⟨tmOf [] 0 23, [], 0⟩).bind fun r => prjR GG [(.int .i64)] r.1

noncomputable def s_l03Shape_L31 : Option (Bool) := (Den CC 143 (lbl CC 143 31) ⟨tmOf [] 0 145, [], 0⟩).bind fun r => prjR GG [.bool] r.1

noncomputable def i_isDigit (x0 : Int) : Option (Bool) := (Den CC 165 (bodyT CC 165) ⟨tmOf [(0, .int .u8 x0)] 0 9, [], 0⟩).bind fun r => prjR GG [.bool] r.1

noncomputable def i_isNumber (x0 : Int) : Option (Bool) := (Den CC 189 (bodyT CC 189) ⟨tmOf [(0, .int .i64 x0)] 0 5, [], 0⟩).bind fun r => prjR GG [.bool] r.1

noncomputable def i_Expr_hasFields_L11 : Option (Bool) := (Den CC 183 (lbl CC 183 11) ⟨tmOf [] 0 116, [], 0⟩).bind fun r => prjR GG [.bool] r.1

noncomputable def i_Expr_hasFields_L12 (x0 : Int) (x1 : Int) (x2 : Int) (x3 : (List UInt8)) (x4 : (List TExpr)) : Option (Bool) := (Den CC 183 (lbl CC 183 12) ⟨tmOf [(1, .ref 0 0), (3, .int .i64 x0)] 0 116, [.box 51 [.int .i64 x1, .int .i64 x2, .str x3, .sl (.st 50) x4] false], 0⟩).bind fun r => prjR GG [.bool] r.1

noncomputable def internal_stringslite_HasPrefix (x0 : (List UInt8)) (x1 : (List UInt8)) : Option (Bool) := (Den CC 169 (bodyT CC 169) ⟨tmOf [(0, .str x0), (1, .str x1)] 0 18, [], 0⟩).bind fun r => prjR GG [.bool] r.1

noncomputable def i_areAll_byte__i_isPlain (x0 : (List Int)) : Option (Bool) := (Den CC 146 (bodyT CC 146) ⟨tmOf [(0, .sl (.int .u8) x0), (1, .fn 164 [])] 0 18, [], 0⟩).bind fun r => prjR GG [.bool] r.1

noncomputable def i_span__i_ScanTokens_c1 (x0 : (List UInt8)) (x1 : Int) : Option (Int) := (Den CC 126 (bodyT CC 126) ⟨tmOf [(0, .str x0), (1, .int .i64 x1), (2, .fn 127 [])] 0 25, [], 0⟩).bind fun r => prjR GG [(.int .i64)] r.1

noncomputable def i_scanToken (x0 : (List UInt8)) (x1 : Int) : Option (TToken × Int × Bool) := (Den CC 128 (bodyT CC 128) ⟨tmOf [(0, .str x0), (1, .int .i64 x1)] 0 101, [], 0⟩).bind fun r => prjR GG [(.st 146), (.int .i64), .bool] r.1

noncomputable def i_ScanTokens_L16 (x0 : (List UInt8)) (x1 : Int) (x2 : (List TToken)) (x3 : Int) (x4 : Int) (x5 : (List UInt8)) (x6 : Bool) (x7 : Bool) : Option ((List TToken) × Int × Int) := (Den CC 93 (lbl CC 93 16) ⟨tmOf [(0, .str x0), (5, .arr 0), (6, .int .i64 x1), (8, .ref 1 0)] 0 81, [.arr 147 (.st 146) x2 false, .box 147 [.int .i64 x3, .int .i64 x4, .str x5, .bool x6, .bool x7] false], 0⟩).bind fun r => prjR GG [(.sl (.st 146)), (.int .i64), (.int .i64)] r.1

noncomputable def i_Expr_hasFields_L18 (x0 : Int) : Option (Bool) := (Den CC 183 (lbl CC 183 18) ⟨tmOf [(3, .int .i64 x0)] 0 116, [], 0⟩).bind fun r => prjR GG [.bool] r.1

noncomputable def i_Expr_hasFields_L19 (x0 : Int) (x1 : Int) (x2 : Int) (x3 : (List UInt8)) (x4 : (List TExpr)) : Option (Bool) := (Den CC 183 (lbl CC 183 19) ⟨tmOf [(1, .ref 0 0), (3, .int .i64 x0)] 0 116, [.box 51 [.int .i64 x1, .int .i64 x2, .str x3, .sl (.st 50) x4] false], 0⟩).bind fun r => prjR GG [.bool] r.1

noncomputable def i_areAll_byte_L2__i_isPlain (x0 : (List Int)) (x1 : Int) (x2 : Int) : Option (Bool) := (Den CC 146 (lbl CC 146 2) ⟨tmOf [(1, .fn 164 []), (7, .sl (.int .u8) x0), (8, .int .i64 x1), (9, .int .i64 x2)] 0 18, [], 0⟩).bind fun r => prjR GG [.bool] r.1

noncomputable def i_span_L2__i_ScanTokens_c1 (x0 : (List UInt8)) (x1 : Int) (x2 : Int) : Option (Int) := (Den CC 126 (lbl CC 126 2) ⟨tmOf [(0, .str x0), (1, .int .i64 x1), (2, .fn 127 []), (7, .int .i64 x2)] 0 25, [], 0⟩).bind fun r => prjR GG [(.int .i64)] r.1

noncomputable def i_span__i_isNameByte (x0 : (List UInt8)) (x1 : Int) : Option (Int) := (Den CC 126 (bodyT CC 126) ⟨tmOf [(0, .str x0), (1, .int .i64 x1), (2, .fn 147 [])] 0 25, [], 0⟩).bind fun r => prjR GG [(.int .i64)] r.1

noncomputable def i_span__i_isDigit (x0 : (List UInt8)) (x1 : Int) : Option (Int) := (Den CC 126 (bodyT CC 126) ⟨tmOf [(0, .str x0), (1, .int .i64 x1), (2, .fn 165 [])] 0 25, [], 0⟩).bind fun r => prjR GG [(.int .i64)] r.1

noncomputable def i_span__i_scanToken_c1 (x0 : (List UInt8)) (x1 : Int) (x2 : Int) : Option (Int) := (Den CC 126 (bodyT CC 126) ⟨tmOf [(0, .str x0), (1, .int .i64 x1), (2, .fn 167 [.pc [.int .u8 x2]])] 0 25, [], 0⟩).bind fun r => prjR GG [(.int .i64)] r.1

noncomputable def i_isBinary (x0 : Int) : Option (Bool) := (Den CC 192 (bodyT CC 192) ⟨tmOf [(0, .int .i64 x0)] 0 5, [], 0⟩).bind fun r => prjR GG [.bool] r.1

noncomputable def i_isPlain (x0 : Int) : Option (Bool) := (Den CC 164 (bodyT CC 164) ⟨tmOf [(0, .int .u8 x0)] 0 9, [], 0⟩).bind fun r => prjR GG [.bool] r.1

noncomputable def i_ScanTokens_c1 (x0 : Int) : Option (Bool) := (Den CC 127 (bodyT CC 127) ⟨tmOf [(0, .int .u8 x0)] 0 5, [], 0⟩).bind fun r => prjR GG [.bool] r.1

noncomputable def i_span_L2__i_isNameByte (x0 : (List UInt8)) (x1 : Int) (x2 : Int) : Option (Int) := (Den CC 126 (lbl CC 126 2) ⟨tmOf [(0, .str x0), (1, .int .i64 x1), (2, .fn 147 []), (7, .int .i64 x2)] 0 25, [], 0⟩).bind fun r => prjR GG [(.int .i64)] r.1

noncomputable def i_span_L2__i_isDigit (x0 : (List UInt8)) (x1 : Int) (x2 : Int) : Option (Int) := (Den CC 126 (lbl CC 126 2) ⟨tmOf [(0, .str x0), (1, .int .i64 x1), (2, .fn 165 []), (7, .int .i64 x2)] 0 25, [], 0⟩).bind fun r => prjR GG [(.int .i64)] r.1

noncomputable def i_span_L2__i_scanToken_c1 (x0 : (List UInt8)) (x1 : Int) (x2 : Int) (x3 : Int) : Option (Int) := (Den CC 126 (lbl CC 126 2) ⟨tmOf [(0, .str x0), (1, .int .i64 x1), (2, .fn 167 [.pc [.int .u8 x2]]), (7, .int .i64 x3)] 0 25, [], 0⟩).bind fun r => prjR GG [(.int .i64)] r.1

noncomputable def i_scanToken_c1 (x0 : Int) (x1 : Int) : Option (Bool) := (Den CC 167 (bodyT CC 167) ⟨tmOf [(0, .int .u8 x0), (1, .pc [.int .u8 x1])] 0 7, [], 0⟩).bind fun r => prjR GG [.bool] r.1

theorem l_FnExactNextStatement_eq (x0 : TProgram) (x1 : TGoto) (x2 : Bool) (x3 : Int) : l_FnExactNextStatement x0 x1 x2 x3 = (l_szProgram x0 1048576).bind fun r200 => if (decide (r200 < 0)) = true then some (true) else (l_szGoto x1 r200).bind fun r198 => if (decide (r198 < 0)) = true then some (true) else (l_toProgram_v1 x0).bind fun r196 => (l_toGoto x1).bind fun r195 => (s_NextStatement (TProgram.mk (Prod.fst (Prod.fst r196))) r195 x2 x3).bind fun r194 => (l_toProgram_v1 x0).bind fun r193 => (l_toGoto x1).bind fun r192 => (i_NextStatement (TProgram.mk (Prod.fst (Prod.fst r193))) r192 x2 x3).bind fun r191 => if (Prod.fst r191 != Prod.fst r194) = true then some (false) else if (Prod.snd r191 != Prod.snd r194) = true then some (false) else (l_toProgram_v1 x0).bind fun r188 => (l_eqProgram (TProgram.mk (Prod.fst (Prod.fst r193))) (TProgram.mk (Prod.fst (Prod.fst r188)))).bind fun r187 => if (!r187) = true then some (false) else some (true) :=
  (den_run CC 6 (bodyT CC 6) ⟨tmOf [(0, .st 23 x0), (1, .st 37 x1), (2, .bool x2), (3, .int .i64 x3)] 0 59, [], 0⟩ fun r => prjR GG [.bool] r.1).trans (by kernel_rfl)

theorem l_szProgram_eq (x0 : TProgram) (x1 : Int) : l_szProgram x0 x1 = (l_szStatementS x0.fStatements x1).bind fun r200 => if (decide (r200 < 0)) = true then some (-1) else some r200 :=
  (den_run CC 8 (bodyT CC 8) ⟨tmOf [(0, .st 23 x0), (1, .int .i64 x1)] 0 12, [], 0⟩ fun r => prjR GG [(.int .i64)] r.1).trans (by kernel_rfl)

theorem l_toProgram_v1_eq (x0 : TProgram) : l_toProgram_v1 x0 = (l_toStatementS_v1 x0.fStatements).bind fun r200 => some (((Prod.fst (Prod.fst r200)), ()), ()) :=
  (den_run CC 10 (bodyT CC 10) ⟨tmOf [(0, .st 23 x0)] 0 9, [], 0⟩ fun r => prjO GG [(true, [.tw 53 (.st 52)])] r).trans (by kernel_rfl)

theorem l_eqProgram_eq (x0 : TProgram) (x1 : TProgram) : l_eqProgram x0 x1 = (l_eqStatementS x0.fStatements x1.fStatements).bind fun r200 => if (!r200) = true then some (false) else some (true) :=
  (den_run CC 13 (bodyT CC 13) ⟨tmOf [(0, .st 23 x0), (1, .st 23 x1)] 0 11, [], 0⟩ fun r => prjR GG [.bool] r.1).trans (by kernel_rfl)

theorem l_szGoto_eq (x0 : TGoto) (x1 : Int) : l_szGoto x0 x1 = if (decide (w64 (x1 - len x0.fAlways) < 0)) = true then some (-1) else if (decide (w64 (w64 (x1 - len x0.fAlways) - len x0.fSuccess) < 0)) = true then some (-1) else if (decide (w64 (w64 (w64 (x1 - len x0.fAlways) - len x0.fSuccess) - len x0.fFailure) < 0)) = true then some (-1) else some (w64 (w64 (w64 (x1 - len x0.fAlways) - len x0.fSuccess) - len x0.fFailure)) :=
  (den_run CC 21 (bodyT CC 21) ⟨tmOf [(0, .st 37 x0), (1, .int .i64 x1)] 0 27, [], 0⟩ fun r => prjR GG [(.int .i64)] r.1).trans (by kernel_rfl)

theorem l_toGoto_eq (x0 : TGoto) : l_toGoto x0 = some x0 :=
  (den_run CC 23 (bodyT CC 23) ⟨tmOf [(0, .st 37 x0)] 0 14, [], 0⟩ fun r => prjR GG [(.st 37)] r.1).trans (by kernel_rfl)

theorem s_NextStatement_eq (x0 : TProgram) (x1 : TGoto) (x2 : Bool) (x3 : Int) : s_NextStatement x0 x1 x2 x3 = (s_ValidProgram x0).bind fun r200 => if (!r200) = true then some (0, 1) else (s_ValidGoto x1).bind fun r198 => if (!r198) = true then some (0, 1) else (s_l00In x3 0 (w64 (len x0.fStatements - 1))).bind fun r196 => if (!r196) = true then some (0, 3) else (s_l20Next x0 x1 x2 x3).bind fun r194 => some ((Prod.fst r194), (Prod.snd r194)) :=
  (den_run CC 22 (bodyT CC 22) ⟨tmOf [(0, .st 23 x0), (1, .st 37 x1), (2, .bool x2), (3, .int .i64 x3)] 0 32, [], 0⟩ fun r => prjR GG [(.int .i64), (.int .i64)] r.1).trans (by kernel_rfl)

theorem i_NextStatement_eq (x0 : TProgram) (x1 : TGoto) (x2 : Bool) (x3 : Int) : i_NextStatement x0 x1 x2 x3 = (i_ValidProgram x0).bind fun r200 => if r200 = true then (i_ValidGoto x1).bind fun r198 => (i_unless r198 1).bind fun r197 => (i_Program_isStatement x0 x3).bind fun r196 => (i_unless r196 3).bind fun r195 => (i_first ([r197, r195])).bind fun r194 => if (r194 != 0) = true then some (0, r194) else (i_Program_next x0 x1 x2 x3).bind fun r192 => some ((Prod.fst r192), (Prod.snd r192)) else (i_unless (false) 1).bind fun r198 => (i_Program_isStatement x0 x3).bind fun r197 => (i_unless r197 3).bind fun r196 => (i_first ([r198, r196])).bind fun r195 => if (r195 != 0) = true then some (0, r195) else (i_Program_next x0 x1 x2 x3).bind fun r193 => some ((Prod.fst r193), (Prod.snd r193)) :=
  (den_run CC 24 (bodyT CC 24) ⟨tmOf [(0, .st 23 x0), (1, .st 37 x1), (2, .bool x2), (3, .int .i64 x3)] 0 36, [], 0⟩ fun r => prjR GG [(.int .i64), (.int .i64)] r.1).trans (by kernel_rfl)

theorem l_szStatementS_eq (x0 : (List TStatement)) (x1 : Int) : l_szStatementS x0 x1 = if (decide (w64 (x1 - len x0) < 0)) = true then some (-1) else l_szStatementS_L5 x0 (w64 (x1 - len x0)) 0 :=
  (den_run CC 29 (bodyT CC 29) ⟨tmOf [(0, .sl (.st 52) x0), (1, .int .i64 x1)] 0 27, [], 0⟩ fun r => prjR GG [(.int .i64)] r.1).trans (by kernel_rfl)

theorem l_toStatementS_v1_eq (x0 : (List TStatement)) : l_toStatementS_v1 x0 = ((mk (len x0) (TStatement.mk [] false (TExpr.mk (Int.ofNat 0) (Int.ofNat 0) [] []) false (TExpr.mk (Int.ofNat 0) (Int.ofNat 0) [] []) false (TExpr.mk (Int.ofNat 0) (Int.ofNat 0) [] []) (TGoto.mk [] [] []))) : Option (List TStatement)).bind fun y200 => l_toStatementS_L3_v1 x0 0 y200 :=
  (den_run CC 30 (bodyT CC 30) ⟨tmOf [(0, .sl (.st 52) x0)] 0 23, [], 0⟩ fun r => prjO GG [(false, [.tw 53 (.st 52)])] r).trans (by kernel_rfl)

theorem s_ValidProgram_eq (x0 : TProgram) : s_ValidProgram x0 = if (decide (len x0.fStatements > 80)) = true then some (false) else s_ValidProgram_L4 0 x0.fStatements :=
  (den_run CC 27 (bodyT CC 27) ⟨tmOf [(0, .st 23 x0)] 0 46, [], 0⟩ fun r => prjR GG [.bool] r.1).trans (by kernel_rfl)

theorem i_ValidProgram_eq (x0 : TProgram) : i_ValidProgram x0 = if (decide (len x0.fStatements > 80)) = true then some (false) else (i_areAll_impl_Statement__i_ValidStatement x0.fStatements).bind fun r199 => if (!r199) = true then some (false) else i_ValidProgram_L4 x0.fStatements (len x0.fStatements) 0 x0.fStatements :=
  (den_run CC 31 (bodyT CC 31) ⟨tmOf [(0, .st 23 x0)] 0 44, [], 0⟩ fun r => prjR GG [.bool] r.1).trans (by kernel_rfl)

theorem l_eqStatementS_eq (x0 : (List TStatement)) (x1 : (List TStatement)) : l_eqStatementS x0 x1 = if (len x0 != len x1) = true then some (false) else l_eqStatementS_L4 x0 x1 0 :=
  (den_run CC 32 (bodyT CC 32) ⟨tmOf [(0, .sl (.st 52) x0), (1, .sl (.st 52) x1)] 0 27, [], 0⟩ fun r => prjR GG [.bool] r.1).trans (by kernel_rfl)

theorem s_ValidGoto_eq (x0 : TGoto) : s_ValidGoto x0 = if (!x0.fAlways == []) = true then if (!x0.fSuccess == []) = true then s_ValidGoto_L2 else if (!x0.fFailure == []) = true then s_ValidGoto_L2 else s_ValidGoto_L3 x0.fAlways x0.fSuccess x0.fFailure else s_ValidGoto_L3 x0.fAlways x0.fSuccess x0.fFailure :=
  (den_run CC 47 (bodyT CC 47) ⟨tmOf [(0, .st 37 x0)] 0 29, [], 0⟩ fun r => prjR GG [.bool] r.1).trans (by kernel_rfl)

theorem s_l00In_eq (x0 : Int) (x1 : Int) (x2 : Int) : s_l00In x0 x1 x2 = if (decide (x0 ≥ x1)) = true then some (decide (x0 ≤ x2)) else some (false) :=
  (den_run CC 48 (bodyT CC 48) ⟨tmOf [(0, .int .i64 x0), (1, .int .i64 x1), (2, .int .i64 x2)] 0 15, [], 0⟩ fun r => prjR GG [.bool] r.1).trans (by kernel_rfl)

theorem s_l20Next_eq (x0 : TProgram) (x1 : TGoto) (x2 : Bool) (x3 : Int) : s_l20Next x0 x1 x2 x3 = if x2 = true then if (!x1.fAlways == []) = true then s_l20Next_L6 x3 x1.fAlways x0.fStatements else s_l20Next_L6 x3 x1.fSuccess x0.fStatements else if (!x1.fAlways == []) = true then s_l20Next_L6 x3 x1.fAlways x0.fStatements else s_l20Next_L6 x3 x1.fFailure x0.fStatements :=
  (den_run CC 49 (bodyT CC 49) ⟨tmOf [(0, .st 23 x0), (1, .st 37 x1), (2, .bool x2), (3, .int .i64 x3)] 0 43, [], 0⟩ fun r => prjR GG [(.int .i64), (.int .i64)] r.1).trans (by kernel_rfl)

theorem i_ValidGoto_eq (x0 : TGoto) : i_ValidGoto x0 = (i_Goto_labels x0).bind fun r200 => (i_areAll_string__i_IsLabel r200).bind fun r199 => if r199 = true then if (x0.fAlways == []) = true then some (true) else if (x0.fSuccess == []) = true then some (x0.fFailure == []) else some (false) else some (false) :=
  (den_run CC 50 (bodyT CC 50) ⟨tmOf [(0, .st 37 x0)] 0 21, [], 0⟩ fun r => prjR GG [.bool] r.1).trans (by kernel_rfl)

theorem i_unless_eq (x0 : Bool) (x1 : Int) : i_unless x0 x1 = if x0 = true then some 0 else some x1 :=
  (den_run CC 52 (bodyT CC 52) ⟨tmOf [(0, .bool x0), (1, .int .i64 x1)] 0 7, [], 0⟩ fun r => prjR GG [(.int .i64)] r.1).trans (by kernel_rfl)

theorem i_Program_isStatement_eq (x0 : TProgram) (x1 : Int) : i_Program_isStatement x0 x1 = (i_isIndex x1 (len x0.fStatements)).bind fun r200 => some r200 :=
  (den_run CC 53 (bodyT CC 53) ⟨tmOf [(0, .st 23 x0), (1, .int .i64 x1)] 0 10, [], 0⟩ fun r => prjR GG [.bool] r.1).trans (by kernel_rfl)

theorem i_first_eq (x0 : (List Int)) : i_first x0 = i_first_L2 x0 (len x0) 0 :=
  (den_run CC 51 (bodyT CC 51) ⟨tmOf [(0, .sl (.int .i64) x0)] 0 15, [], 0⟩ fun r => prjR GG [(.int .i64)] r.1).trans (by kernel_rfl)

theorem i_Program_next_eq (x0 : TProgram) (x1 : TGoto) (x2 : Bool) (x3 : Int) : i_Program_next x0 x1 x2 x3 = if (x1.fAlways == []) = true then if x2 = true then i_Program_next_L6 x3 x1.fSuccess x0.fStatements else i_Program_next_L6 x3 x1.fFailure x0.fStatements else i_Program_next_L6 x3 x1.fAlways x0.fStatements :=
  (den_run CC 54 (bodyT CC 54) ⟨tmOf [(0, .st 23 x0), (1, .st 37 x1), (2, .bool x2), (3, .int .i64 x3)] 0 31, [], 0⟩ fun r => prjR GG [(.int .i64), (.int .i64)] r.1).trans (by kernel_rfl)

theorem l_szStatementS_L5_eq (x0 : (List TStatement)) (x1 : Int) (x2 : Int) : l_szStatementS_L5 x0 x1 x2 = if (decide (x2 < len x0)) = true then ((idx x0 x2) : Option TStatement).bind fun y199 => (l_szStatement (TStatement.mk y199.fLabel y199.fHasSubject y199.fSubject.re y199.fHasPattern y199.fPattern.re y199.fHasReplace y199.fReplace.re y199.fGoto) x1).bind fun r198 => if (decide (r198 < 0)) = true then some (-1) else l_szStatementS_L5 x0 r198 (w64 (x2 + 1)) else some x1 :=
  (den_run CC 29 (lbl CC 29 5) ⟨tmOf [(0, .sl (.st 52) x0), (1, .int .i64 x1), (5, .int .i64 x2)] 0 27, [], 0⟩ fun r => prjR GG [(.int .i64)] r.1).trans (by kernel_rfl)

theorem l_toStatementS_L3_v1_eq (x0 : (List TStatement)) (x1 : Int) (x2 : (List TStatement)) : l_toStatementS_L3_v1 x0 x1 x2 = if (decide (x1 < len x0)) = true then ((idx x0 x1) : Option TStatement).bind fun y199 => (l_toStatement_v1 (TStatement.mk y199.fLabel y199.fHasSubject y199.fSubject.re y199.fHasPattern y199.fPattern.re y199.fHasReplace y199.fReplace.re y199.fGoto)).bind fun r198 => ((idx x2 x1) : Option TStatement).bind fun y197 => ((x2[Int.toNat x1]?) : Option TStatement).bind fun y196 => l_toStatementS_L3_v1 x0 (w64 (x1 + 1)) (upd x2 (Int.toNat x1) (TStatement.mk (Prod.fst (Prod.fst r198)) (Prod.fst (Prod.snd (Prod.fst r198))) (TExpr.mk (Prod.fst (Prod.snd (Prod.snd (Prod.fst r198)))) (Prod.fst (Prod.snd (Prod.snd (Prod.snd (Prod.fst r198))))) (Prod.fst (Prod.snd (Prod.snd (Prod.snd (Prod.snd (Prod.fst r198)))))) (Prod.fst (Prod.snd (Prod.snd (Prod.snd (Prod.snd (Prod.snd (Prod.fst r198)))))))) (Prod.fst (Prod.snd (Prod.snd (Prod.snd (Prod.snd (Prod.snd (Prod.snd (Prod.fst r198)))))))) (TExpr.mk (Prod.fst (Prod.snd (Prod.snd (Prod.snd (Prod.snd (Prod.snd (Prod.snd (Prod.snd (Prod.fst r198))))))))) (Prod.fst (Prod.snd (Prod.snd (Prod.snd (Prod.snd (Prod.snd (Prod.snd (Prod.snd (Prod.snd (Prod.fst r198)))))))))) (Prod.fst (Prod.snd (Prod.snd (Prod.snd (Prod.snd (Prod.snd (Prod.snd (Prod.snd (Prod.snd (Prod.snd (Prod.fst r198))))))))))) (Prod.fst (Prod.snd (Prod.snd (Prod.snd (Prod.snd (Prod.snd (Prod.snd (Prod.snd (Prod.snd (Prod.snd (Prod.snd (Prod.fst r198))))))))))))) (Prod.fst (Prod.snd (Prod.snd (Prod.snd (Prod.snd (Prod.snd (Prod.snd (Prod.snd (Prod.snd (Prod.snd (Prod.snd (Prod.snd (Prod.fst r198))))))))))))) (TExpr.mk (Prod.fst (Prod.snd (Prod.snd (Prod.snd (Prod.snd (Prod.snd (Prod.snd (Prod.snd (Prod.snd (Prod.snd (Prod.snd (Prod.snd (Prod.snd (Prod.fst r198)))))))))))))) (Prod.fst (Prod.snd (Prod.snd (Prod.snd (Prod.snd (Prod.snd (Prod.snd (Prod.snd (Prod.snd (Prod.snd (Prod.snd (Prod.snd (Prod.snd (Prod.snd (Prod.fst r198))))))))))))))) (Prod.fst (Prod.snd (Prod.snd (Prod.snd (Prod.snd (Prod.snd (Prod.snd (Prod.snd (Prod.snd (Prod.snd (Prod.snd (Prod.snd (Prod.snd (Prod.snd (Prod.snd (Prod.fst r198)))))))))))))))) (Prod.fst (Prod.snd (Prod.snd (Prod.snd (Prod.snd (Prod.snd (Prod.snd (Prod.snd (Prod.snd (Prod.snd (Prod.snd (Prod.snd (Prod.snd (Prod.snd (Prod.snd (Prod.snd (Prod.fst r198)))))))))))))))))) (TGoto.mk (Prod.fst (Prod.snd (Prod.snd (Prod.snd (Prod.snd (Prod.snd (Prod.snd (Prod.snd (Prod.snd (Prod.snd (Prod.snd (Prod.snd (Prod.snd (Prod.snd (Prod.snd (Prod.snd (Prod.snd (Prod.fst r198)))))))))))))))))) (Prod.fst (Prod.snd (Prod.snd (Prod.snd (Prod.snd (Prod.snd (Prod.snd (Prod.snd (Prod.snd (Prod.snd (Prod.snd (Prod.snd (Prod.snd (Prod.snd (Prod.snd (Prod.snd (Prod.snd (Prod.snd (Prod.fst r198))))))))))))))))))) (Prod.fst (Prod.snd (Prod.snd (Prod.snd (Prod.snd (Prod.snd (Prod.snd (Prod.snd (Prod.snd (Prod.snd (Prod.snd (Prod.snd (Prod.snd (Prod.snd (Prod.snd (Prod.snd (Prod.snd (Prod.snd (Prod.snd (Prod.fst r198))))))))))))))))))))))) else some (((x2), ()), ()) :=
  (den_run CC 30 (lbl CC 30 3) ⟨tmOf [(0, .sl (.st 52) x0), (3, .arr 0), (4, .int .i64 x1)] 0 23, [.tr 53 (.st 52) x2 []], 0⟩ fun r => prjO GG [(false, [.tw 53 (.st 52)])] r).trans (by kernel_rfl)

theorem s_ValidProgram_L4_eq (x0 : Int) (x1 : (List TStatement)) : s_ValidProgram_L4 x0 x1 = if (decide (x0 < len x1)) = true then ((idx x1 x0) : Option TStatement).bind fun y199 => (s_ValidStatement (TStatement.mk y199.fLabel y199.fHasSubject y199.fSubject.re y199.fHasPattern y199.fPattern.re y199.fHasReplace y199.fReplace.re y199.fGoto)).bind fun r198 => if (!r198) = true then s_ValidProgram_L8 else (s_l05Reserved y199.fLabel).bind fun r196 => if r196 = true then s_ValidProgram_L8 else if (!y199.fLabel == []) = true then (s_l05Index (TProgram.mk x1) y199.fLabel).bind fun r193 => if (r193 != x0) = true then s_ValidProgram_L8 else s_ValidProgram_L5 x0 x1 else s_ValidProgram_L5 x0 x1 else (s_l05Text (TProgram.mk x1)).bind fun r199 => some (decide (len r199 ≤ 4000)) :=
  (den_run CC 27 (lbl CC 27 4) ⟨tmOf [(1, .ref 0 0), (3, .int .i64 x0)] 0 46, [.box 30 [.sl (.st 52) x1] false], 0⟩ fun r => prjR GG [.bool] r.1).trans (by kernel_rfl)

theorem i_areAll_impl_Statement__i_ValidStatement_eq (x0 : (List TStatement)) : i_areAll_impl_Statement__i_ValidStatement x0 = i_areAll_impl_Statement_L2__i_ValidStatement x0 (len x0) 0 :=
  (den_run CC 61 (bodyT CC 61) ⟨tmOf [(0, .sl (.st 52) x0), (1, .fn 62 [])] 0 18, [], 0⟩ fun r => prjR GG [.bool] r.1).trans (by kernel_rfl)

theorem i_ValidProgram_L4_eq (x0 : (List TStatement)) (x1 : Int) (x2 : Int) (x3 : (List TStatement)) : i_ValidProgram_L4 x0 x1 x2 x3 = if (decide (x2 < x1)) = true then ((idx x0 x2) : Option TStatement).bind fun y199 => if (!y199.fLabel == []) = true then (i_isReserved y199.fLabel).bind fun r197 => if r197 = true then i_ValidProgram_L7 else (i_Program_labelIndex (TProgram.mk x3) y199.fLabel).bind fun r195 => if (r195 != x2) = true then i_ValidProgram_L7 else i_ValidProgram_L8 x0 x1 x2 x3 else i_ValidProgram_L8 x0 x1 x2 x3 else (i_Program_text (TProgram.mk x3)).bind fun r199 => some (decide (len r199 ≤ 4000)) :=
  (den_run CC 31 (lbl CC 31 4) ⟨tmOf [(1, .ref 0 0), (16, .sl (.st 52) x0), (17, .int .i64 x1), (18, .int .i64 x2)] 0 44, [.box 30 [.sl (.st 52) x3] false], 0⟩ fun r => prjR GG [.bool] r.1).trans (by kernel_rfl)

theorem l_eqStatementS_L4_eq (x0 : (List TStatement)) (x1 : (List TStatement)) (x2 : Int) : l_eqStatementS_L4 x0 x1 x2 = if (decide (x2 < len x0)) = true then ((idx x0 x2) : Option TStatement).bind fun y199 => ((idx x1 x2) : Option TStatement).bind fun y198 => (l_eqStatement (TStatement.mk y199.fLabel y199.fHasSubject y199.fSubject.re y199.fHasPattern y199.fPattern.re y199.fHasReplace y199.fReplace.re y199.fGoto) (TStatement.mk y198.fLabel y198.fHasSubject y198.fSubject.re y198.fHasPattern y198.fPattern.re y198.fHasReplace y198.fReplace.re y198.fGoto)).bind fun r197 => if (!r197) = true then some (false) else l_eqStatementS_L4 x0 x1 (w64 (x2 + 1)) else some (true) :=
  (den_run CC 32 (lbl CC 32 4) ⟨tmOf [(0, .sl (.st 52) x0), (1, .sl (.st 52) x1), (5, .int .i64 x2)] 0 27, [], 0⟩ fun r => prjR GG [.bool] r.1).trans (by kernel_rfl)

theorem i_Goto_labels_eq (x0 : TGoto) : i_Goto_labels x0 = i_Goto_labels_L3 (len [x0.fAlways, x0.fSuccess, x0.fFailure]) 0 ([]) ([x0.fAlways, x0.fSuccess, x0.fFailure]) :=
  (den_run CC 39 (bodyT CC 39) ⟨tmOf [(0, .st 37 x0)] 0 27, [], 0⟩ fun r => prjR GG [(.sl .str)] r.1).trans (by kernel_rfl)

theorem s_ValidGoto_L2_eq : s_ValidGoto_L2 = some (false) :=
  (den_run CC 47 (lbl CC 47 2) ⟨tmOf [] 0 29, [], 0⟩ fun r => prjR GG [.bool] r.1).trans (by kernel_rfl)

theorem s_ValidGoto_L3_eq (x0 : (List UInt8)) (x1 : (List UInt8)) (x2 : (List UInt8)) : s_ValidGoto_L3 x0 x1 x2 = (s_l04Name x0).bind fun r200 => if r200 = true then (s_l04Name x1).bind fun r198 => if r198 = true then (s_l04Name x2).bind fun r196 => some r196 else some (false) else some (false) :=
  (den_run CC 47 (lbl CC 47 3) ⟨tmOf [(1, .ref 0 0)] 0 29, [.box 42 [.str x0, .str x1, .str x2] false], 0⟩ fun r => prjR GG [.bool] r.1).trans (by kernel_rfl)

theorem s_l20Next_L6_eq (x0 : Int) (x1 : (List UInt8)) (x2 : (List TStatement)) : s_l20Next_L6 x0 x1 x2 = if (x1 == []) = true then (s_l20Place (TProgram.mk x2) (w64 (x0 + 1))).bind fun r199 => some ((r199), 0) else if (x1 == [82, 69, 84, 85, 82, 78]) = true then some ((-2), 0) else if (x1 == [70, 82, 69, 84, 85, 82, 78]) = true then some ((-3), 0) else if (x1 == [69, 78, 68]) = true then some ((-1), 0) else (s_l05Index (TProgram.mk x2) x1).bind fun r196 => if (decide (r196 < 0)) = true then some (0, 5) else (s_l20Place (TProgram.mk x2) r196).bind fun r194 => some ((r194), 0) :=
  (den_run CC 49 (lbl CC 49 6) ⟨tmOf [(3, .int .i64 x0), (4, .ref 0 0), (10, .str x1)] 0 43, [.box 30 [.sl (.st 52) x2] false], 0⟩ fun r => prjR GG [(.int .i64), (.int .i64)] r.1).trans (by kernel_rfl)

theorem i_areAll_string__i_IsLabel_eq (x0 : (List (List UInt8))) : i_areAll_string__i_IsLabel x0 = i_areAll_string_L2__i_IsLabel x0 (len x0) 0 :=
  (den_run CC 78 (bodyT CC 78) ⟨tmOf [(0, .sl .str x0), (1, .fn 79 [])] 0 18, [], 0⟩ fun r => prjR GG [.bool] r.1).trans (by kernel_rfl)

theorem i_isIndex_eq (x0 : Int) (x1 : Int) : i_isIndex x0 x1 = if (decide (x0 ≥ 0)) = true then some (decide (x0 < x1)) else some (false) :=
  (den_run CC 80 (bodyT CC 80) ⟨tmOf [(0, .int .i64 x0), (1, .int .i64 x1)] 0 12, [], 0⟩ fun r => prjR GG [.bool] r.1).trans (by kernel_rfl)

theorem i_first_L2_eq (x0 : (List Int)) (x1 : Int) (x2 : Int) : i_first_L2 x0 x1 x2 = if (decide (x2 < x1)) = true then ((idx x0 x2) : Option Int).bind fun y199 => if (y199 != 0) = true then some y199 else i_first_L2 x0 x1 (w64 (x2 + 1)) else some 0 :=
  (den_run CC 51 (lbl CC 51 2) ⟨tmOf [(5, .sl (.int .i64) x0), (6, .int .i64 x1), (7, .int .i64 x2)] 0 15, [], 0⟩ fun r => prjR GG [(.int .i64)] r.1).trans (by kernel_rfl)

theorem i_Program_next_L6_eq (x0 : Int) (x1 : (List UInt8)) (x2 : (List TStatement)) : i_Program_next_L6 x0 x1 x2 = if (x1 == []) = true then (i_Program_entry (TProgram.mk x2) (w64 (x0 + 1))).bind fun r199 => some ((r199), 0) else (i_Program_jump (TProgram.mk x2) x1).bind fun r199 => some ((Prod.fst r199), (Prod.snd r199)) :=
  (den_run CC 54 (lbl CC 54 6) ⟨tmOf [(3, .int .i64 x0), (4, .ref 0 0), (10, .str x1)] 0 31, [.box 30 [.sl (.st 52) x2] false], 0⟩ fun r => prjR GG [(.int .i64), (.int .i64)] r.1).trans (by kernel_rfl)

theorem l_szStatement_eq (x0 : TStatement) (x1 : Int) : l_szStatement x0 x1 = if (decide (w64 (x1 - len x0.fLabel) < 0)) = true then some (-1) else (l_szExpr x0.fSubject.re (w64 (x1 - len x0.fLabel))).bind fun r199 => if (decide (r199 < 0)) = true then some (-1) else (l_szExpr x0.fPattern.re r199).bind fun r197 => if (decide (r197 < 0)) = true then some (-1) else (l_szExpr x0.fReplace.re r197).bind fun r195 => if (decide (r195 < 0)) = true then some (-1) else (l_szGoto x0.fGoto r195).bind fun r193 => if (decide (r193 < 0)) = true then some (-1) else some r193 :=
  (den_run CC 59 (bodyT CC 59) ⟨tmOf [(0, .st 52 x0), (1, .int .i64 x1)] 0 37, [], 0⟩ fun r => prjR GG [(.int .i64)] r.1).trans (by kernel_rfl)

theorem l_toStatement_v1_eq (x0 : TStatement) : l_toStatement_v1 x0 = (l_toExpr_v2 x0.fSubject.re).bind fun r200 => (l_toExpr_v2 x0.fPattern.re).bind fun r199 => (l_toExpr_v2 x0.fReplace.re).bind fun r198 => (l_toGoto x0.fGoto).bind fun r197 => some ((x0.fLabel, x0.fHasSubject, (Prod.fst (Prod.fst r200)), (Prod.fst (Prod.snd (Prod.fst r200))), (Prod.fst (Prod.snd (Prod.snd (Prod.fst r200)))), (Prod.fst (Prod.snd (Prod.snd (Prod.snd (Prod.fst r200))))), x0.fHasPattern, (Prod.fst (Prod.fst r199)), (Prod.fst (Prod.snd (Prod.fst r199))), (Prod.fst (Prod.snd (Prod.snd (Prod.fst r199)))), (Prod.fst (Prod.snd (Prod.snd (Prod.snd (Prod.fst r199))))), x0.fHasReplace, (Prod.fst (Prod.fst r198)), (Prod.fst (Prod.snd (Prod.fst r198))), (Prod.fst (Prod.snd (Prod.snd (Prod.fst r198)))), (Prod.fst (Prod.snd (Prod.snd (Prod.snd (Prod.fst r198))))), r197.fAlways, r197.fSuccess, r197.fFailure, ()), ()) :=
  (den_run CC 60 (bodyT CC 60) ⟨tmOf [(0, .st 52 x0)] 0 33, [], 0⟩ fun r => prjO GG [(true, [.im .str, .im .bool, .im (.int .i64), .im (.int .i64), .im .str, .tw 51 (.st 50), .im .bool, .im (.int .i64), .im (.int .i64), .im .str, .tw 51 (.st 50), .im .bool, .im (.int .i64), .im (.int .i64), .im .str, .tw 51 (.st 50), .im .str, .im .str, .im .str])] r).trans (by kernel_rfl)

theorem s_ValidStatement_eq (x0 : TStatement) : s_ValidStatement x0 = (s_l04Form (TStatement.mk x0.fLabel x0.fHasSubject x0.fSubject.re x0.fHasPattern x0.fPattern.re x0.fHasReplace x0.fReplace.re x0.fGoto)).bind fun r200 => if (!r200) = true then some (false) else (s_l04Print (TStatement.mk x0.fLabel x0.fHasSubject x0.fSubject.re x0.fHasPattern x0.fPattern.re x0.fHasReplace x0.fReplace.re x0.fGoto)).bind fun r198 => if (decide (len r198 > 4000)) = true then some (false) else ((cut r198 (len x0.fLabel) (Option.getD Option.none (len r198))) : Option (List UInt8)).bind fun y196 => (s_ScanTokens y196).bind fun r195 => some (Prod.snd (Prod.snd r195) == 0) :=
  (den_run CC 57 (bodyT CC 57) ⟨tmOf [(0, .st 52 x0)] 0 27, [], 0⟩ fun r => prjR GG [.bool] r.1).trans (by kernel_rfl)

theorem s_ValidProgram_L8_eq : s_ValidProgram_L8 = some (false) :=
  (den_run CC 27 (lbl CC 27 8) ⟨tmOf [] 0 46, [], 0⟩ fun r => prjR GG [.bool] r.1).trans (by kernel_rfl)

theorem s_l05Reserved_eq (x0 : (List UInt8)) : s_l05Reserved x0 = if (x0 == [82, 69, 84, 85, 82, 78]) = true then some (true) else some (x0 == [70, 82, 69, 84, 85, 82, 78]) :=
  (den_run CC 36 (bodyT CC 36) ⟨tmOf [(0, .str x0)] 0 9, [], 0⟩ fun r => prjR GG [.bool] r.1).trans (by kernel_rfl)

theorem s_l05Index_eq (x0 : TProgram) (x1 : (List UInt8)) : s_l05Index x0 x1 = s_l05Index_L2 x1 0 x0.fStatements :=
  (den_run CC 37 (bodyT CC 37) ⟨tmOf [(0, .st 23 x0), (1, .str x1)] 0 26, [], 0⟩ fun r => prjR GG [(.int .i64)] r.1).trans (by kernel_rfl)

theorem s_ValidProgram_L5_eq (x0 : Int) (x1 : (List TStatement)) : s_ValidProgram_L5 x0 x1 = s_ValidProgram_L4 (w64 (x0 + 1)) x1 :=
  (den_run CC 27 (lbl CC 27 5) ⟨tmOf [(1, .ref 0 0), (3, .int .i64 x0)] 0 46, [.box 30 [.sl (.st 52) x1] false], 0⟩ fun r => prjR GG [.bool] r.1).trans (by kernel_rfl)

theorem s_l05Text_eq (x0 : TProgram) : s_l05Text x0 = s_l05Text_L3 [] 0 x0.fStatements :=
  (den_run CC 58 (bodyT CC 58) ⟨tmOf [(0, .st 23 x0)] 0 22, [], 0⟩ fun r => prjR GG [.str] r.1).trans (by kernel_rfl)

theorem i_areAll_impl_Statement_L2__i_ValidStatement_eq (x0 : (List TStatement)) (x1 : Int) (x2 : Int) : i_areAll_impl_Statement_L2__i_ValidStatement x0 x1 x2 = if (decide (x2 < x1)) = true then ((idx x0 x2) : Option TStatement).bind fun y199 => (i_ValidStatement (TStatement.mk y199.fLabel y199.fHasSubject y199.fSubject.re y199.fHasPattern y199.fPattern.re y199.fHasReplace y199.fReplace.re y199.fGoto)).bind fun r198 => if (!r198) = true then some (false) else i_areAll_impl_Statement_L2__i_ValidStatement x0 x1 (w64 (x2 + 1)) else some (true) :=
  (den_run CC 61 (lbl CC 61 2) ⟨tmOf [(1, .fn 62 []), (7, .sl (.st 52) x0), (8, .int .i64 x1), (9, .int .i64 x2)] 0 18, [], 0⟩ fun r => prjR GG [.bool] r.1).trans (by kernel_rfl)

theorem i_isReserved_eq (x0 : (List UInt8)) : i_isReserved x0 = if (x0 == [82, 69, 84, 85, 82, 78]) = true then some (true) else some (x0 == [70, 82, 69, 84, 85, 82, 78]) :=
  (den_run CC 41 (bodyT CC 41) ⟨tmOf [(0, .str x0)] 0 9, [], 0⟩ fun r => prjR GG [.bool] r.1).trans (by kernel_rfl)

theorem i_ValidProgram_L7_eq : i_ValidProgram_L7 = some (false) :=
  (den_run CC 31 (lbl CC 31 7) ⟨tmOf [] 0 44, [], 0⟩ fun r => prjR GG [.bool] r.1).trans (by kernel_rfl)

theorem i_Program_labelIndex_eq (x0 : TProgram) (x1 : (List UInt8)) : i_Program_labelIndex x0 x1 = (slices_IndexFunc___i_Statement_i_Statement___i_Program_labelIndex_c1 x0.fStatements x1).bind fun r200 => some r200 :=
  (den_run CC 40 (bodyT CC 40) ⟨tmOf [(0, .st 23 x0), (1, .str x1)] 0 9, [], 0⟩ fun r => prjR GG [(.int .i64)] r.1).trans (by kernel_rfl)

theorem i_ValidProgram_L8_eq (x0 : (List TStatement)) (x1 : Int) (x2 : Int) (x3 : (List TStatement)) : i_ValidProgram_L8 x0 x1 x2 x3 = i_ValidProgram_L4 x0 x1 (w64 (x2 + 1)) x3 :=
  (den_run CC 31 (lbl CC 31 8) ⟨tmOf [(1, .ref 0 0), (16, .sl (.st 52) x0), (17, .int .i64 x1), (18, .int .i64 x2)] 0 44, [.box 30 [.sl (.st 52) x3] false], 0⟩ fun r => prjR GG [.bool] r.1).trans (by kernel_rfl)

theorem i_Program_text_eq (x0 : TProgram) : i_Program_text x0 = i_Program_text_L3 x0.fStatements (len x0.fStatements) 0 ([]) :=
  (den_run CC 63 (bodyT CC 63) ⟨tmOf [(0, .st 23 x0)] 0 20, [], 0⟩ fun r => prjR GG [.str] r.1).trans (by kernel_rfl)

theorem l_eqStatement_eq (x0 : TStatement) (x1 : TStatement) : l_eqStatement x0 x1 = if (!x0.fLabel == x1.fLabel) = true then some (false) else if (!x0.fHasSubject == x1.fHasSubject) = true then some (false) else (l_eqExpr x0.fSubject.re x1.fSubject.re).bind fun r198 => if (!r198) = true then some (false) else if (!x0.fHasPattern == x1.fHasPattern) = true then some (false) else (l_eqExpr x0.fPattern.re x1.fPattern.re).bind fun r195 => if (!r195) = true then some (false) else if (!x0.fHasReplace == x1.fHasReplace) = true then some (false) else (l_eqExpr x0.fReplace.re x1.fReplace.re).bind fun r192 => if (!r192) = true then some (false) else (l_eqGoto x0.fGoto x1.fGoto).bind fun r190 => if (!r190) = true then some (false) else some (true) :=
  (den_run CC 64 (bodyT CC 64) ⟨tmOf [(0, .st 52 x0), (1, .st 52 x1)] 0 49, [], 0⟩ fun r => prjR GG [.bool] r.1).trans (by kernel_rfl)

theorem i_Goto_labels_L3_eq (x0 : Int) (x1 : Int) (x2 : (List (List UInt8))) (x3 : (List (List UInt8))) : i_Goto_labels_L3 x0 x1 x2 x3 = if (decide (x1 < x0)) = true then ((idx x3 x1) : Option (List UInt8)).bind fun y199 => ((x3[Int.toNat x1]?) : Option (List UInt8)).bind fun y198 => if (!y198 == []) = true then ((app x2 [y198]) : Option (List (List UInt8))).bind fun y196 => i_Goto_labels_L3 x0 (w64 (x1 + 1)) y196 x3 else i_Goto_labels_L3 x0 (w64 (x1 + 1)) x2 x3 else some x2 :=
  (den_run CC 39 (lbl CC 39 3) ⟨tmOf [(3, .arr 0), (13, .arr 1), (14, .int .i64 x0), (15, .int .i64 x1)] 0 27, [.arr 9 .str x2 false, .arr 9 .str x3 false], 0⟩ fun r => prjR GG [(.sl .str)] r.1).trans (by kernel_rfl)

theorem s_l04Name_eq (x0 : (List UInt8)) : s_l04Name x0 = if (x0 == []) = true then some (true) else (s_IsName x0).bind fun r199 => some r199 :=
  (den_run CC 76 (bodyT CC 76) ⟨tmOf [(0, .str x0)] 0 9, [], 0⟩ fun r => prjR GG [.bool] r.1).trans (by kernel_rfl)

theorem s_l20Place_eq (x0 : TProgram) (x1 : Int) : s_l20Place x0 x1 = if (decide (x1 ≥ len x0.fStatements)) = true then some (-1) else ((idx x0.fStatements x1) : Option TStatement).bind fun y199 => if (y199.fLabel == [69, 78, 68]) = true then some (-1) else some x1 :=
  (den_run CC 77 (bodyT CC 77) ⟨tmOf [(0, .st 23 x0), (1, .int .i64 x1)] 0 20, [], 0⟩ fun r => prjR GG [(.int .i64)] r.1).trans (by kernel_rfl)

theorem i_areAll_string_L2__i_IsLabel_eq (x0 : (List (List UInt8))) (x1 : Int) (x2 : Int) : i_areAll_string_L2__i_IsLabel x0 x1 x2 = if (decide (x2 < x1)) = true then ((idx x0 x2) : Option (List UInt8)).bind fun y199 => (i_IsLabel y199).bind fun r198 => if (!r198) = true then some (false) else i_areAll_string_L2__i_IsLabel x0 x1 (w64 (x2 + 1)) else some (true) :=
  (den_run CC 78 (lbl CC 78 2) ⟨tmOf [(1, .fn 79 []), (7, .sl .str x0), (8, .int .i64 x1), (9, .int .i64 x2)] 0 18, [], 0⟩ fun r => prjR GG [.bool] r.1).trans (by kernel_rfl)

theorem i_Program_entry_eq (x0 : TProgram) (x1 : Int) : i_Program_entry x0 x1 = (i_Program_isStatement x0 x1).bind fun r200 => if (!r200) = true then some (-1) else ((idx x0.fStatements x1) : Option TStatement).bind fun y198 => if (y198.fLabel == [69, 78, 68]) = true then some (-1) else some x1 :=
  (den_run CC 81 (bodyT CC 81) ⟨tmOf [(0, .st 23 x0), (1, .int .i64 x1)] 0 19, [], 0⟩ fun r => prjR GG [(.int .i64)] r.1).trans (by kernel_rfl)

theorem i_Program_jump_eq (x0 : TProgram) (x1 : (List UInt8)) : i_Program_jump x0 x1 = if (x1 == [69, 78, 68]) = true then some ((-1), 0) else if (x1 == [82, 69, 84, 85, 82, 78]) = true then some ((-2), 0) else if (x1 == [70, 82, 69, 84, 85, 82, 78]) = true then some ((-3), 0) else (i_Program_labelIndex x0 x1).bind fun r197 => if (decide (r197 < 0)) = true then some (0, 5) else (i_Program_entry x0 r197).bind fun r195 => some ((r195), 0) :=
  (den_run CC 82 (bodyT CC 82) ⟨tmOf [(0, .st 23 x0), (1, .str x1)] 0 22, [], 0⟩ fun r => prjR GG [(.int .i64), (.int .i64)] r.1).trans (by kernel_rfl)

theorem l_szExpr_eq (x0 : TExpr) (x1 : Int) : l_szExpr x0 x1 = if (decide (w64 (x1 - len x0.fText) < 0)) = true then some (-1) else (l_szExprS x0.fKids (w64 (x1 - len x0.fText))).bind fun r199 => if (decide (r199 < 0)) = true then some (-1) else some r199 :=
  (den_run CC 89 (bodyT CC 89) ⟨tmOf [(0, .st 50 x0), (1, .int .i64 x1)] 0 19, [], 0⟩ fun r => prjR GG [(.int .i64)] r.1).trans (by kernel_rfl)

theorem l_toExpr_v2_eq (x0 : TExpr) : l_toExpr_v2 x0 = (l_toExprS_v2 x0.fKids).bind fun r200 => some ((x0.fKind, x0.fNum, x0.fText, (Prod.fst (Prod.fst r200)), ()), ()) :=
  (den_run CC 90 (bodyT CC 90) ⟨tmOf [(0, .st 50 x0)] 0 18, [], 0⟩ fun r => prjO GG [(true, [.im (.int .i64), .im (.int .i64), .im .str, .tw 51 (.st 50)])] r).trans (by kernel_rfl)

theorem s_l04Form_eq (x0 : TStatement) : s_l04Form x0 = (s_l04Name x0.fLabel).bind fun r200 => if (!r200) = true then s_l04Form_L2 else (s_ValidGoto x0.fGoto).bind fun r198 => if (!r198) = true then s_l04Form_L2 else (s_l04Part x0.fHasSubject x0.fSubject.re).bind fun r196 => if (!r196) = true then s_l04Form_L2 else (s_l04Part x0.fHasPattern x0.fPattern.re).bind fun r194 => if (!r194) = true then s_l04Form_L2 else (s_l04Part x0.fHasReplace x0.fReplace.re).bind fun r192 => if (!r192) = true then s_l04Form_L2 else s_l04Form_L3 x0.fLabel x0.fHasSubject x0.fSubject.fKind x0.fSubject.fNum x0.fSubject.fText x0.fSubject.fKids x0.fHasPattern x0.fPattern.fKind x0.fPattern.fNum x0.fPattern.fText x0.fPattern.fKids x0.fHasReplace x0.fReplace.fKind x0.fReplace.fNum x0.fReplace.fText x0.fReplace.fKids x0.fGoto.fAlways x0.fGoto.fSuccess x0.fGoto.fFailure :=
  (den_run CC 86 (bodyT CC 86) ⟨tmOf [(0, .st 52 x0)] 0 61, [], 0⟩ fun r => prjR GG [.bool] r.1).trans (by kernel_rfl)

theorem s_l04Print_eq (x0 : TStatement) : s_l04Print x0 = if x0.fHasSubject = true then (s_l03At x0.fSubject.fKind x0.fSubject.fNum x0.fSubject.fText x0.fSubject.fKids 6).bind fun r199 => ((app ([32]) r199) : Option (List UInt8)).bind fun y198 => ((app x0.fLabel y198) : Option (List UInt8)).bind fun y197 => if x0.fHasPattern = true then (s_l03Print x0.fPattern.fKind x0.fPattern.fNum x0.fPattern.fText x0.fPattern.fKids).bind fun r195 => ((app ([32]) r195) : Option (List UInt8)).bind fun y194 => ((app y197 y194) : Option (List UInt8)).bind fun y193 => s_l04Print_L6 y193 x0.fLabel x0.fHasSubject x0.fSubject.fKind x0.fSubject.fNum x0.fSubject.fText x0.fSubject.fKids x0.fHasPattern x0.fPattern.fKind x0.fPattern.fNum x0.fPattern.fText x0.fPattern.fKids x0.fHasReplace x0.fReplace.fKind x0.fReplace.fNum x0.fReplace.fText x0.fReplace.fKids x0.fGoto.fAlways x0.fGoto.fSuccess x0.fGoto.fFailure else s_l04Print_L6 y197 x0.fLabel x0.fHasSubject x0.fSubject.fKind x0.fSubject.fNum x0.fSubject.fText x0.fSubject.fKids x0.fHasPattern x0.fPattern.fKind x0.fPattern.fNum x0.fPattern.fText x0.fPattern.fKids x0.fHasReplace x0.fReplace.fKind x0.fReplace.fNum x0.fReplace.fText x0.fReplace.fKids x0.fGoto.fAlways x0.fGoto.fSuccess x0.fGoto.fFailure else if x0.fHasPattern = true then (s_l03Print x0.fPattern.fKind x0.fPattern.fNum x0.fPattern.fText x0.fPattern.fKids).bind fun r198 => ((app ([32]) r198) : Option (List UInt8)).bind fun y197 => ((app x0.fLabel y197) : Option (List UInt8)).bind fun y196 => s_l04Print_L6 y196 x0.fLabel x0.fHasSubject x0.fSubject.fKind x0.fSubject.fNum x0.fSubject.fText x0.fSubject.fKids x0.fHasPattern x0.fPattern.fKind x0.fPattern.fNum x0.fPattern.fText x0.fPattern.fKids x0.fHasReplace x0.fReplace.fKind x0.fReplace.fNum x0.fReplace.fText x0.fReplace.fKids x0.fGoto.fAlways x0.fGoto.fSuccess x0.fGoto.fFailure else s_l04Print_L6 x0.fLabel x0.fLabel x0.fHasSubject x0.fSubject.fKind x0.fSubject.fNum x0.fSubject.fText x0.fSubject.fKids x0.fHasPattern x0.fPattern.fKind x0.fPattern.fNum x0.fPattern.fText x0.fPattern.fKids x0.fHasReplace x0.fReplace.fKind x0.fReplace.fNum x0.fReplace.fText x0.fReplace.fKids x0.fGoto.fAlways x0.fGoto.fSuccess x0.fGoto.fFailure :=
  (den_run CC 87 (bodyT CC 87) ⟨tmOf [(0, .st 52 x0)] 0 38, [], 0⟩ fun r => prjR GG [.str] r.1).trans (by kernel_rfl)

theorem s_ScanTokens_eq (x0 : (List UInt8)) : s_ScanTokens x0 = if (decide (len x0 > 4000)) = true then some (([]), 0, 1) else (s_l01Printable x0 (false)).bind fun r199 => if (!r199) = true then some (([]), 0, 1) else (s_l02Scan x0).bind fun r197 => some ((Prod.fst r197), (Prod.fst (Prod.snd r197)), (Prod.snd (Prod.snd r197))) :=
  (den_run CC 88 (bodyT CC 88) ⟨tmOf [(0, .str x0)] 0 19, [], 0⟩ fun r => prjR GG [(.sl (.st 146)), (.int .i64), (.int .i64)] r.1).trans (by kernel_rfl)

theorem s_l05Index_L2_eq (x0 : (List UInt8)) (x1 : Int) (x2 : (List TStatement)) : s_l05Index_L2 x0 x1 x2 = if (decide (x1 < len x2)) = true then if (!x0 == []) = true then ((idx x2 x1) : Option TStatement).bind fun y198 => if (y198.fLabel == x0) = true then some x1 else s_l05Index_L2 x0 (w64 (x1 + 1)) x2 else s_l05Index_L2 x0 (w64 (x1 + 1)) x2 else some (-1) :=
  (den_run CC 37 (lbl CC 37 2) ⟨tmOf [(1, .str x0), (2, .ref 0 0), (5, .int .i64 x1)] 0 26, [.box 30 [.sl (.st 52) x2] false], 0⟩ fun r => prjR GG [(.int .i64)] r.1).trans (by kernel_rfl)

theorem s_l05Text_L3_eq (x0 : (List UInt8)) (x1 : Int) (x2 : (List TStatement)) : s_l05Text_L3 x0 x1 x2 = if (decide (x1 < len x2)) = true then ((idx x2 x1) : Option TStatement).bind fun y199 => (s_l04Print (TStatement.mk y199.fLabel y199.fHasSubject y199.fSubject.re y199.fHasPattern y199.fPattern.re y199.fHasReplace y199.fReplace.re y199.fGoto)).bind fun r198 => ((app r198 ([10])) : Option (List UInt8)).bind fun y197 => ((app x0 y197) : Option (List UInt8)).bind fun y196 => s_l05Text_L3 y196 (w64 (x1 + 1)) x2 else some x0 :=
  (den_run CC 58 (lbl CC 58 3) ⟨tmOf [(1, .ref 0 0), (3, .str x0), (4, .int .i64 x1)] 0 22, [.box 30 [.sl (.st 52) x2] false], 0⟩ fun r => prjR GG [.str] r.1).trans (by kernel_rfl)

theorem i_ValidStatement_eq (x0 : TStatement) : i_ValidStatement x0 = if (!x0.fLabel == []) = true then (i_IsLabel x0.fLabel).bind fun r199 => if (!r199) = true then i_ValidStatement_L2 else (i_ValidGoto x0.fGoto).bind fun r197 => if (!r197) = true then i_ValidStatement_L2 else if (!x0.fHasSubject) = true then if x0.fHasPattern = true then i_ValidStatement_L2 else if x0.fHasReplace = true then i_ValidStatement_L2 else i_ValidStatement_L3 x0.fLabel x0.fHasSubject x0.fSubject.fKind x0.fSubject.fNum x0.fSubject.fText x0.fSubject.fKids x0.fHasPattern x0.fPattern.fKind x0.fPattern.fNum x0.fPattern.fText x0.fPattern.fKids x0.fHasReplace x0.fReplace.fKind x0.fReplace.fNum x0.fReplace.fText x0.fReplace.fKids x0.fGoto.fAlways x0.fGoto.fSuccess x0.fGoto.fFailure else i_ValidStatement_L3 x0.fLabel x0.fHasSubject x0.fSubject.fKind x0.fSubject.fNum x0.fSubject.fText x0.fSubject.fKids x0.fHasPattern x0.fPattern.fKind x0.fPattern.fNum x0.fPattern.fText x0.fPattern.fKids x0.fHasReplace x0.fReplace.fKind x0.fReplace.fNum x0.fReplace.fText x0.fReplace.fKids x0.fGoto.fAlways x0.fGoto.fSuccess x0.fGoto.fFailure else (i_ValidGoto x0.fGoto).bind fun r199 => if (!r199) = true then i_ValidStatement_L2 else if (!x0.fHasSubject) = true then if x0.fHasPattern = true then i_ValidStatement_L2 else if x0.fHasReplace = true then i_ValidStatement_L2 else i_ValidStatement_L3 x0.fLabel x0.fHasSubject x0.fSubject.fKind x0.fSubject.fNum x0.fSubject.fText x0.fSubject.fKids x0.fHasPattern x0.fPattern.fKind x0.fPattern.fNum x0.fPattern.fText x0.fPattern.fKids x0.fHasReplace x0.fReplace.fKind x0.fReplace.fNum x0.fReplace.fText x0.fReplace.fKids x0.fGoto.fAlways x0.fGoto.fSuccess x0.fGoto.fFailure else i_ValidStatement_L3 x0.fLabel x0.fHasSubject x0.fSubject.fKind x0.fSubject.fNum x0.fSubject.fText x0.fSubject.fKids x0.fHasPattern x0.fPattern.fKind x0.fPattern.fNum x0.fPattern.fText x0.fPattern.fKids x0.fHasReplace x0.fReplace.fKind x0.fReplace.fNum x0.fReplace.fText x0.fReplace.fKids x0.fGoto.fAlways x0.fGoto.fSuccess x0.fGoto.fFailure :=
  (den_run CC 62 (bodyT CC 62) ⟨tmOf [(0, .st 52 x0)] 0 89, [], 0⟩ fun r => prjR GG [.bool] r.1).trans (by kernel_rfl)

theorem slices_IndexFunc___i_Statement_i_Statement___i_Program_labelIndex_c1_eq (x0 : (List TStatement)) (x1 : (List UInt8)) : slices_IndexFunc___i_Statement_i_Statement___i_Program_labelIndex_c1 x0 x1 = slices_IndexFunc___i_Statement_i_Statement__L2__i_Program_labelIndex_c1 x0 x1 (len x0) 0 :=
  (den_run CC 66 (bodyT CC 66) ⟨tmOf [(0, .sl (.st 52) x0), (1, .fn 67 [.pc [.str x1]])] 0 19, [], 0⟩ fun r => prjR GG [(.int .i64)] r.1).trans (by kernel_rfl)

theorem i_Program_text_L3_eq (x0 : (List TStatement)) (x1 : Int) (x2 : Int) (x3 : (List Int)) : i_Program_text_L3 x0 x1 x2 x3 = if (decide (x2 < x1)) = true then ((idx x0 x2) : Option TStatement).bind fun y199 => (i_Statement_text (TStatement.mk y199.fLabel y199.fHasSubject y199.fSubject.re y199.fHasPattern y199.fPattern.re y199.fHasReplace y199.fReplace.re y199.fGoto)).bind fun r198 => ((app r198 ([10])) : Option (List UInt8)).bind fun y197 => ((app x3 (List.map (fun (b : UInt8) ↦ ib b) y197)) : Option (List Int)).bind fun y196 => i_Program_text_L3_v1 x0 x1 (w64 (x2 + 1)) y196 else ((bytesOf x3) : Option (List UInt8)).bind fun y199 => some y199 :=
  (den_run CC 63 (lbl CC 63 3) ⟨tmOf [(3, .ref 0 0), (8, .sl (.st 52) x0), (9, .int .i64 x1), (10, .int .i64 x2)] 0 20, [.box 120 [.nilp, .arr 1] false, .arr 5 (.int .u8) x3 false], 0⟩ fun r => prjR GG [.str] r.1).trans (by kernel_rfl)

theorem l_eqExpr_eq (x0 : TExpr) (x1 : TExpr) : l_eqExpr x0 x1 = if (x0.fKind != x1.fKind) = true then some (false) else if (x0.fNum != x1.fNum) = true then some (false) else if (!x0.fText == x1.fText) = true then some (false) else (l_eqExprS x0.fKids x1.fKids).bind fun r197 => if (!r197) = true then some (false) else some (true) :=
  (den_run CC 97 (bodyT CC 97) ⟨tmOf [(0, .st 50 x0), (1, .st 50 x1)] 0 26, [], 0⟩ fun r => prjR GG [.bool] r.1).trans (by kernel_rfl)

theorem l_eqGoto_eq (x0 : TGoto) (x1 : TGoto) : l_eqGoto x0 x1 = if (!x0.fAlways == x1.fAlways) = true then some (false) else if (!x0.fSuccess == x1.fSuccess) = true then some (false) else if (!x0.fFailure == x1.fFailure) = true then some (false) else some (true) :=
  (den_run CC 98 (bodyT CC 98) ⟨tmOf [(0, .st 37 x0), (1, .st 37 x1)] 0 20, [], 0⟩ fun r => prjR GG [.bool] r.1).trans (by kernel_rfl)

theorem s_l03Ok_eq (x0 : Int) (x1 : Int) (x2 : (List UInt8)) (x3 : (List TExpr)) : s_l03Ok x0 x1 x2 x3 = (s_l03Size x0 x1 x2 x3).bind fun r200 => if (decide (r200 ≤ 60)) = true then (s_l03Nodes x0 x1 x2 x3).bind fun r198 => some r198 else some (false) :=
  (den_run CC 70 (bodyT CC 70) ⟨tmOf [(0, .pc [.int .i64 x0, .int .i64 x1, .str x2, .sl (.st 50) x3])] 0 10, [], 0⟩ fun r => prjR GG [.bool] r.1).trans (by kernel_rfl)

theorem s_IsName_eq (x0 : (List UInt8)) : s_IsName x0 = if (!x0 == []) = true then if (decide (len x0 ≤ 12)) = true then (s_l02NameEnd x0 0).bind fun r198 => some (r198 == len x0) else some (false) else some (false) :=
  (den_run CC 105 (bodyT CC 105) ⟨tmOf [(0, .str x0)] 0 17, [], 0⟩ fun r => prjR GG [.bool] r.1).trans (by kernel_rfl)

theorem i_IsLabel_eq (x0 : (List UInt8)) : i_IsLabel x0 = (i_IsName x0).bind fun r200 => some r200 :=
  (den_run CC 79 (bodyT CC 79) ⟨tmOf [(0, .str x0)] 0 5, [], 0⟩ fun r => prjR GG [.bool] r.1).trans (by kernel_rfl)

theorem l_szExprS_eq (x0 : (List TExpr)) (x1 : Int) : l_szExprS x0 x1 = if (decide (w64 (x1 - len x0) < 0)) = true then some (-1) else l_szExprS_L5 x0 (w64 (x1 - len x0)) 0 :=
  (den_run CC 118 (bodyT CC 118) ⟨tmOf [(0, .sl (.st 50) x0), (1, .int .i64 x1)] 0 27, [], 0⟩ fun r => prjR GG [(.int .i64)] r.1).trans (by kernel_rfl)

theorem l_toExprS_v2_eq (x0 : (List TExpr)) : l_toExprS_v2 x0 = ((mk (len x0) (TExpr.mk (Int.ofNat 0) (Int.ofNat 0) [] [])) : Option (List TExpr)).bind fun y200 => l_toExprS_L3_v2 x0 0 y200 :=
  (den_run CC 119 (bodyT CC 119) ⟨tmOf [(0, .sl (.st 50) x0)] 0 23, [], 0⟩ fun r => prjO GG [(false, [.tw 51 (.st 50)])] r).trans (by kernel_rfl)

theorem s_l04Form_L2_eq : s_l04Form_L2 = some (false) :=
  (den_run CC 86 (lbl CC 86 2) ⟨tmOf [] 0 61, [], 0⟩ fun r => prjR GG [.bool] r.1).trans (by kernel_rfl)

theorem s_l04Part_eq (x0 : Bool) (x1 : TExpr) : s_l04Part x0 x1 = if x0 = true then (s_ValidExpr x1.re).bind fun r199 => some r199 else (s_SameExpr x1.re (TExpr.mk (Int.ofNat 0) (Int.ofNat 0) [] [])).bind fun r199 => some r199 :=
  (den_run CC 112 (bodyT CC 112) ⟨tmOf [(0, .bool x0), (1, .st 50 x1)] 0 11, [], 0⟩ fun r => prjR GG [.bool] r.1).trans (by kernel_rfl)

theorem s_l04Form_L3_eq (x0 : (List UInt8)) (x1 : Bool) (x2 : Int) (x3 : Int) (x4 : (List UInt8)) (x5 : (List TExpr)) (x6 : Bool) (x7 : Int) (x8 : Int) (x9 : (List UInt8)) (x10 : (List TExpr)) (x11 : Bool) (x12 : Int) (x13 : Int) (x14 : (List UInt8)) (x15 : (List TExpr)) (x16 : (List UInt8)) (x17 : (List UInt8)) (x18 : (List UInt8)) : s_l04Form_L3 x0 x1 x2 x3 x4 x5 x6 x7 x8 x9 x10 x11 x12 x13 x14 x15 x16 x17 x18 = if (!x1) = true then if x6 = true then s_l04Form_L4 else if x11 = true then s_l04Form_L4 else s_l04Form_L5 x0 x1 x2 x3 x4 x5 x6 x7 x8 x9 x10 x11 x12 x13 x14 x15 x16 x17 x18 else s_l04Form_L5 x0 x1 x2 x3 x4 x5 x6 x7 x8 x9 x10 x11 x12 x13 x14 x15 x16 x17 x18 :=
  (den_run CC 86 (lbl CC 86 3) ⟨tmOf [(1, .ref 0 0)] 0 61, [.box 53 [.str x0, .bool x1, .int .i64 x2, .int .i64 x3, .str x4, .sl (.st 50) x5, .bool x6, .int .i64 x7, .int .i64 x8, .str x9, .sl (.st 50) x10, .bool x11, .int .i64 x12, .int .i64 x13, .str x14, .sl (.st 50) x15, .str x16, .str x17, .str x18] false], 0⟩ fun r => prjR GG [.bool] r.1).trans (by kernel_rfl)

theorem s_l03At_eq (x0 : Int) (x1 : Int) (x2 : (List UInt8)) (x3 : (List TExpr)) (x4 : Int) : s_l03At x0 x1 x2 x3 x4 = (s_l03Level x0 x1 x2 x3).bind fun r200 => if (decide (r200 < x4)) = true then (s_l03Print x0 x1 x2 x3).bind fun r198 => ((app ([40]) r198) : Option (List UInt8)).bind fun y197 => ((app y197 ([41])) : Option (List UInt8)).bind fun y196 => some y196 else (s_l03Print x0 x1 x2 x3).bind fun r198 => some r198 :=
  (den_run CC 113 (bodyT CC 113) ⟨tmOf [(0, .pc [.int .i64 x0, .int .i64 x1, .str x2, .sl (.st 50) x3]), (1, .int .i64 x4)] 0 15, [], 0⟩ fun r => prjR GG [.str] r.1).trans (by kernel_rfl)

theorem s_l03Print_eq (x0 : Int) (x1 : Int) (x2 : (List UInt8)) (x3 : (List TExpr)) : s_l03Print x0 x1 x2 x3 = if (x0 == 1) = true then (s_QuoteString x2).bind fun r199 => some r199 else if (x0 == 2) = true then (s_l02Int x1).bind fun r198 => some r198 else if (x0 == 3) = true then some x2 else if (x0 == 16) = true then ((app ([46]) x2) : Option (List UInt8)).bind fun y196 => some y196 else if (x0 == 17) = true then ((app ([42]) x2) : Option (List UInt8)).bind fun y195 => some y195 else if (x0 == 18) = true then ((app ([64]) x2) : Option (List UInt8)).bind fun y194 => some y194 else if (x0 == 14) = true then ((idx x3 0) : Option TExpr).bind fun y193 => (s_l03At y193.fKind y193.fNum y193.fText y193.fKids 6).bind fun r192 => ((app ([45]) r192) : Option (List UInt8)).bind fun y191 => some y191 else if (x0 == 15) = true then ((idx x3 0) : Option TExpr).bind fun y192 => (s_l03At y192.fKind y192.fNum y192.fText y192.fKids 6).bind fun r191 => ((app ([36]) r191) : Option (List UInt8)).bind fun y190 => some y190 else if (x0 == 5) = true then ((idx x3 0) : Option TExpr).bind fun y191 => (s_l03At y191.fKind y191.fNum y191.fText y191.fKids 7).bind fun r190 => ((app r190 ([60])) : Option (List UInt8)).bind fun y189 => ((idx x3 1) : Option TExpr).bind fun y188 => (s_l03Print y188.fKind y188.fNum y188.fText y188.fKids).bind fun r187 => ((app y189 r187) : Option (List UInt8)).bind fun y186 => ((app y186 ([62])) : Option (List UInt8)).bind fun y185 => some y185 else if (x0 == 4) = true then ((app x2 ([40])) : Option (List UInt8)).bind fun y190 => s_l03Print_L23 x0 x1 x2 x3 y190 0 else (s_l03Level x0 x1 x2 x3).bind fun r190 => ((idx x3 0) : Option TExpr).bind fun y189 => (s_l03At y189.fKind y189.fNum y189.fText y189.fKids r190).bind fun r188 => (s_l03Sign x0).bind fun r187 => ((app r188 r187) : Option (List UInt8)).bind fun y186 => ((idx x3 1) : Option TExpr).bind fun y185 => (s_l03At y185.fKind y185.fNum y185.fText y185.fKids (w64 (r190 + 1))).bind fun r184 => ((app y186 r184) : Option (List UInt8)).bind fun y183 => some y183 :=
  (den_run CC 114 (bodyT CC 114) ⟨tmOf [(0, .pc [.int .i64 x0, .int .i64 x1, .str x2, .sl (.st 50) x3])] 0 141, [], 0⟩ fun r => prjR GG [.str] r.1).trans (by kernel_rfl)

theorem s_l04Print_L6_eq (x0 : (List UInt8)) (x1 : (List UInt8)) (x2 : Bool) (x3 : Int) (x4 : Int) (x5 : (List UInt8)) (x6 : (List TExpr)) (x7 : Bool) (x8 : Int) (x9 : Int) (x10 : (List UInt8)) (x11 : (List TExpr)) (x12 : Bool) (x13 : Int) (x14 : Int) (x15 : (List UInt8)) (x16 : (List TExpr)) (x17 : (List UInt8)) (x18 : (List UInt8)) (x19 : (List UInt8)) : s_l04Print_L6 x0 x1 x2 x3 x4 x5 x6 x7 x8 x9 x10 x11 x12 x13 x14 x15 x16 x17 x18 x19 = if x12 = true then (s_l03Print x13 x14 x15 x16).bind fun r199 => ((app ([32, 61, 32]) r199) : Option (List UInt8)).bind fun y198 => ((app x0 y198) : Option (List UInt8)).bind fun y197 => if (!(x17 == [] && (x18 == [] && (x19 == [] && true)))) = true then (s_GotoText (TGoto.mk x17 x18 x19)).bind fun r195 => ((app ([32]) r195) : Option (List UInt8)).bind fun y194 => ((app y197 y194) : Option (List UInt8)).bind fun y193 => s_l04Print_L10 y193 else s_l04Print_L10 y197 else if (!(x17 == [] && (x18 == [] && (x19 == [] && true)))) = true then (s_GotoText (TGoto.mk x17 x18 x19)).bind fun r198 => ((app ([32]) r198) : Option (List UInt8)).bind fun y197 => ((app x0 y197) : Option (List UInt8)).bind fun y196 => s_l04Print_L10 y196 else s_l04Print_L10 x0 :=
  (den_run CC 87 (lbl CC 87 6) ⟨tmOf [(1, .ref 0 0), (3, .str x0)] 0 38, [.box 53 [.str x1, .bool x2, .int .i64 x3, .int .i64 x4, .str x5, .sl (.st 50) x6, .bool x7, .int .i64 x8, .int .i64 x9, .str x10, .sl (.st 50) x11, .bool x12, .int .i64 x13, .int .i64 x14, .str x15, .sl (.st 50) x16, .str x17, .str x18, .str x19] false], 0⟩ fun r => prjR GG [.str] r.1).trans (by kernel_rfl)

theorem s_l01Printable_eq (x0 : (List UInt8)) (x1 : Bool) : s_l01Printable x0 x1 = s_l01Printable_L2 x0 x1 0 :=
  (den_run CC 116 (bodyT CC 116) ⟨tmOf [(0, .str x0), (1, .bool x1)] 0 32, [], 0⟩ fun r => prjR GG [.bool] r.1).trans (by kernel_rfl)

theorem s_l02Scan_eq (x0 : (List UInt8)) : s_l02Scan x0 = s_l02Scan_L4 x0 0 (true) ([]) :=
  (den_run CC 117 (bodyT CC 117) ⟨tmOf [(0, .str x0)] 0 64, [], 0⟩ fun r => prjR GG [(.sl (.st 146)), (.int .i64), (.int .i64)] r.1).trans (by kernel_rfl)

theorem i_ValidStatement_L2_eq : i_ValidStatement_L2 = some (false) :=
  (den_run CC 62 (lbl CC 62 2) ⟨tmOf [] 0 89, [], 0⟩ fun r => prjR GG [.bool] r.1).trans (by kernel_rfl)

theorem i_ValidStatement_L3_eq (x0 : (List UInt8)) (x1 : Bool) (x2 : Int) (x3 : Int) (x4 : (List UInt8)) (x5 : (List TExpr)) (x6 : Bool) (x7 : Int) (x8 : Int) (x9 : (List UInt8)) (x10 : (List TExpr)) (x11 : Bool) (x12 : Int) (x13 : Int) (x14 : (List UInt8)) (x15 : (List TExpr)) (x16 : (List UInt8)) (x17 : (List UInt8)) (x18 : (List UInt8)) : i_ValidStatement_L3 x0 x1 x2 x3 x4 x5 x6 x7 x8 x9 x10 x11 x12 x13 x14 x15 x16 x17 x18 = (i_isPart x1 (TExpr.mk x2 x3 x4 x5)).bind fun r200 => if (!r200) = true then i_ValidStatement_L4 else (i_isPart x6 (TExpr.mk x7 x8 x9 x10)).bind fun r198 => if (!r198) = true then i_ValidStatement_L4 else (i_isPart x11 (TExpr.mk x12 x13 x14 x15)).bind fun r196 => if (!r196) = true then i_ValidStatement_L4 else i_ValidStatement_L5 x0 x1 x2 x3 x4 x5 x6 x7 x8 x9 x10 x11 x12 x13 x14 x15 x16 x17 x18 :=
  (den_run CC 62 (lbl CC 62 3) ⟨tmOf [(1, .ref 0 0)] 0 89, [.box 53 [.str x0, .bool x1, .int .i64 x2, .int .i64 x3, .str x4, .sl (.st 50) x5, .bool x6, .int .i64 x7, .int .i64 x8, .str x9, .sl (.st 50) x10, .bool x11, .int .i64 x12, .int .i64 x13, .str x14, .sl (.st 50) x15, .str x16, .str x17, .str x18] false], 0⟩ fun r => prjR GG [.bool] r.1).trans (by kernel_rfl)

theorem slices_IndexFunc___i_Statement_i_Statement__L2__i_Program_labelIndex_c1_eq (x0 : (List TStatement)) (x1 : (List UInt8)) (x2 : Int) (x3 : Int) : slices_IndexFunc___i_Statement_i_Statement__L2__i_Program_labelIndex_c1 x0 x1 x2 x3 = if (decide (x3 < x2)) = true then ((idx x0 x3) : Option TStatement).bind fun y199 => (i_Program_labelIndex_c1 (TStatement.mk y199.fLabel y199.fHasSubject y199.fSubject.re y199.fHasPattern y199.fPattern.re y199.fHasReplace y199.fReplace.re y199.fGoto) x1).bind fun r198 => if r198 = true then some x3 else slices_IndexFunc___i_Statement_i_Statement__L2__i_Program_labelIndex_c1 x0 x1 x2 (w64 (x3 + 1)) else some (-1) :=
  (den_run CC 66 (lbl CC 66 2) ⟨tmOf [(0, .sl (.st 52) x0), (1, .fn 67 [.pc [.str x1]]), (7, .int .i64 x2), (8, .int .i64 x3)] 0 19, [], 0⟩ fun r => prjR GG [(.int .i64)] r.1).trans (by kernel_rfl)

theorem i_Statement_text_eq (x0 : TStatement) : i_Statement_text x0 = if x0.fHasSubject = true then (i_operand x0.fSubject.re 6).bind fun r199 => ((app ([32]) r199) : Option (List UInt8)).bind fun y198 => ((app x0.fLabel y198) : Option (List UInt8)).bind fun y197 => if x0.fHasPattern = true then (i_Expr_text x0.fPattern.re).bind fun r195 => ((app ([32]) r195) : Option (List UInt8)).bind fun y194 => ((app y197 y194) : Option (List UInt8)).bind fun y193 => i_Statement_text_L6 y193 x0.fLabel x0.fHasSubject x0.fSubject.fKind x0.fSubject.fNum x0.fSubject.fText x0.fSubject.fKids x0.fHasPattern x0.fPattern.fKind x0.fPattern.fNum x0.fPattern.fText x0.fPattern.fKids x0.fHasReplace x0.fReplace.fKind x0.fReplace.fNum x0.fReplace.fText x0.fReplace.fKids x0.fGoto.fAlways x0.fGoto.fSuccess x0.fGoto.fFailure else i_Statement_text_L6 y197 x0.fLabel x0.fHasSubject x0.fSubject.fKind x0.fSubject.fNum x0.fSubject.fText x0.fSubject.fKids x0.fHasPattern x0.fPattern.fKind x0.fPattern.fNum x0.fPattern.fText x0.fPattern.fKids x0.fHasReplace x0.fReplace.fKind x0.fReplace.fNum x0.fReplace.fText x0.fReplace.fKids x0.fGoto.fAlways x0.fGoto.fSuccess x0.fGoto.fFailure else if x0.fHasPattern = true then (i_Expr_text x0.fPattern.re).bind fun r198 => ((app ([32]) r198) : Option (List UInt8)).bind fun y197 => ((app x0.fLabel y197) : Option (List UInt8)).bind fun y196 => i_Statement_text_L6 y196 x0.fLabel x0.fHasSubject x0.fSubject.fKind x0.fSubject.fNum x0.fSubject.fText x0.fSubject.fKids x0.fHasPattern x0.fPattern.fKind x0.fPattern.fNum x0.fPattern.fText x0.fPattern.fKids x0.fHasReplace x0.fReplace.fKind x0.fReplace.fNum x0.fReplace.fText x0.fReplace.fKids x0.fGoto.fAlways x0.fGoto.fSuccess x0.fGoto.fFailure else i_Statement_text_L6 x0.fLabel x0.fLabel x0.fHasSubject x0.fSubject.fKind x0.fSubject.fNum x0.fSubject.fText x0.fSubject.fKids x0.fHasPattern x0.fPattern.fKind x0.fPattern.fNum x0.fPattern.fText x0.fPattern.fKids x0.fHasReplace x0.fReplace.fKind x0.fReplace.fNum x0.fReplace.fText x0.fReplace.fKids x0.fGoto.fAlways x0.fGoto.fSuccess x0.fGoto.fFailure :=
  (den_run CC 92 (bodyT CC 92) ⟨tmOf [(0, .st 52 x0)] 0 41, [], 0⟩ fun r => prjR GG [.str] r.1).trans (by kernel_rfl)

theorem i_Program_text_L3_v1_eq (x0 : (List TStatement)) (x1 : Int) (x2 : Int) (x3 : (List Int)) : i_Program_text_L3_v1 x0 x1 x2 x3 = if (decide (x2 < x1)) = true then ((idx x0 x2) : Option TStatement).bind fun y199 => (i_Statement_text (TStatement.mk y199.fLabel y199.fHasSubject y199.fSubject.re y199.fHasPattern y199.fPattern.re y199.fHasReplace y199.fReplace.re y199.fGoto)).bind fun r198 => ((app r198 ([10])) : Option (List UInt8)).bind fun y197 => ((app x3 (List.map (fun (b : UInt8) ↦ ib b) y197)) : Option (List Int)).bind fun y196 => i_Program_text_L3_v1 x0 x1 (w64 (x2 + 1)) y196 else ((bytesOf x3) : Option (List UInt8)).bind fun y199 => some y199 :=
  (den_run CC 63 (lbl CC 63 3) ⟨tmOf [(3, .ref 0 0), (8, .sl (.st 52) x0), (9, .int .i64 x1), (10, .int .i64 x2)] 0 20, [.box 120 [.ref 0 0, .arr 1] false, .arr 5 (.int .u8) x3 false], 0⟩ fun r => prjR GG [.str] r.1).trans (by kernel_rfl)

theorem l_eqExprS_eq (x0 : (List TExpr)) (x1 : (List TExpr)) : l_eqExprS x0 x1 = if (len x0 != len x1) = true then some (false) else l_eqExprS_L4 x0 x1 0 :=
  (den_run CC 131 (bodyT CC 131) ⟨tmOf [(0, .sl (.st 50) x0), (1, .sl (.st 50) x1)] 0 27, [], 0⟩ fun r => prjR GG [.bool] r.1).trans (by kernel_rfl)

theorem s_l03Size_eq (x0 : Int) (x1 : Int) (x2 : (List UInt8)) (x3 : (List TExpr)) : s_l03Size x0 x1 x2 x3 = s_l03Size_L3 x0 x1 x2 x3 1 0 :=
  (den_run CC 101 (bodyT CC 101) ⟨tmOf [(0, .pc [.int .i64 x0, .int .i64 x1, .str x2, .sl (.st 50) x3])] 0 28, [], 0⟩ fun r => prjR GG [(.int .i64)] r.1).trans (by kernel_rfl)

theorem s_l03Nodes_eq (x0 : Int) (x1 : Int) (x2 : (List UInt8)) (x3 : (List TExpr)) : s_l03Nodes x0 x1 x2 x3 = (s_l03Shape x0 x1 x2 x3).bind fun r200 => if (!r200) = true then some (false) else s_l03Nodes_L4 x0 x1 x2 x3 0 :=
  (den_run CC 102 (bodyT CC 102) ⟨tmOf [(0, .pc [.int .i64 x0, .int .i64 x1, .str x2, .sl (.st 50) x3])] 0 24, [], 0⟩ fun r => prjR GG [.bool] r.1).trans (by kernel_rfl)

theorem s_l02NameEnd_eq (x0 : (List UInt8)) (x1 : Int) : s_l02NameEnd x0 x1 = if (decide (x1 ≥ len x0)) = true then some x1 else ((idx x0 x1) : Option UInt8).bind fun y199 => (s_l02Letter (ib y199)).bind fun r198 => if (!r198) = true then some x1 else s_l02NameEnd_L3 x0 x1 :=
  (den_run CC 144 (bodyT CC 144) ⟨tmOf [(0, .str x0), (1, .int .i64 x1)] 0 42, [], 0⟩ fun r => prjR GG [(.int .i64)] r.1).trans (by kernel_rfl)

theorem i_IsName_eq (x0 : (List UInt8)) : i_IsName x0 = if (decide (len x0 ≥ 1)) = true then if (decide (len x0 ≤ 12)) = true then ((idx x0 0) : Option UInt8).bind fun y198 => (i_isLetter (ib y198)).bind fun r197 => if r197 = true then (i_areAll_byte__i_isNameByte (List.map (fun (b : UInt8) ↦ ib b) x0)).bind fun r195 => some r195 else some (false) else some (false) else some (false) :=
  (den_run CC 106 (bodyT CC 106) ⟨tmOf [(0, .str x0)] 0 21, [], 0⟩ fun r => prjR GG [.bool] r.1).trans (by kernel_rfl)

theorem l_szExprS_L5_eq (x0 : (List TExpr)) (x1 : Int) (x2 : Int) : l_szExprS_L5 x0 x1 x2 = if (decide (x2 < len x0)) = true then ((idx x0 x2) : Option TExpr).bind fun y199 => (l_szExpr y199.re x1).bind fun r198 => if (decide (r198 < 0)) = true then some (-1) else l_szExprS_L5 x0 r198 (w64 (x2 + 1)) else some x1 :=
  (den_run CC 118 (lbl CC 118 5) ⟨tmOf [(0, .sl (.st 50) x0), (1, .int .i64 x1), (5, .int .i64 x2)] 0 27, [], 0⟩ fun r => prjR GG [(.int .i64)] r.1).trans (by kernel_rfl)

theorem l_toExprS_L3_v2_eq (x0 : (List TExpr)) (x1 : Int) (x2 : (List TExpr)) : l_toExprS_L3_v2 x0 x1 x2 = if (decide (x1 < len x0)) = true then ((idx x0 x1) : Option TExpr).bind fun y199 => (l_toExpr_v2 y199.re).bind fun r198 => ((idx x2 x1) : Option TExpr).bind fun y197 => ((x2[Int.toNat x1]?) : Option TExpr).bind fun y196 => l_toExprS_L3_v2 x0 (w64 (x1 + 1)) (upd x2 (Int.toNat x1) (TExpr.mk (Prod.fst (Prod.fst r198)) (Prod.fst (Prod.snd (Prod.fst r198))) (Prod.fst (Prod.snd (Prod.snd (Prod.fst r198)))) (Prod.fst (Prod.snd (Prod.snd (Prod.snd (Prod.fst r198))))))) else some (((x2), ()), ()) :=
  (den_run CC 119 (lbl CC 119 3) ⟨tmOf [(0, .sl (.st 50) x0), (3, .arr 0), (4, .int .i64 x1)] 0 23, [.tr 51 (.st 50) x2 []], 0⟩ fun r => prjO GG [(false, [.tw 51 (.st 50)])] r).trans (by kernel_rfl)

theorem s_ValidExpr_eq (x0 : TExpr) : s_ValidExpr x0 = (s_l03Ok x0.fKind x0.fNum x0.fText x0.fKids).bind fun r200 => some r200 :=
  (den_run CC 150 (bodyT CC 150) ⟨tmOf [(0, .st 50 x0)] 0 4, [], 0⟩ fun r => prjR GG [.bool] r.1).trans (by kernel_rfl)

theorem s_SameExpr_eq (x0 : TExpr) (x1 : TExpr) : s_SameExpr x0 x1 = (s_l03Same x0.fKind x0.fNum x0.fText x0.fKids x1.fKind x1.fNum x1.fText x1.fKids).bind fun r200 => some r200 :=
  (den_run CC 151 (bodyT CC 151) ⟨tmOf [(0, .st 50 x0), (1, .st 50 x1)] 0 6, [], 0⟩ fun r => prjR GG [.bool] r.1).trans (by kernel_rfl)

theorem s_l04Form_L4_eq : s_l04Form_L4 = some (false) :=
  (den_run CC 86 (lbl CC 86 4) ⟨tmOf [] 0 61, [], 0⟩ fun r => prjR GG [.bool] r.1).trans (by kernel_rfl)

theorem s_l04Form_L5_eq (x0 : (List UInt8)) (x1 : Bool) (x2 : Int) (x3 : Int) (x4 : (List UInt8)) (x5 : (List TExpr)) (x6 : Bool) (x7 : Int) (x8 : Int) (x9 : (List UInt8)) (x10 : (List TExpr)) (x11 : Bool) (x12 : Int) (x13 : Int) (x14 : (List UInt8)) (x15 : (List TExpr)) (x16 : (List UInt8)) (x17 : (List UInt8)) (x18 : (List UInt8)) : s_l04Form_L5 x0 x1 x2 x3 x4 x5 x6 x7 x8 x9 x10 x11 x12 x13 x14 x15 x16 x17 x18 = if (!x0 == []) = true then some (true) else if x1 = true then some (true) else some (!(x16 == [] && (x17 == [] && (x18 == [] && true)))) :=
  (den_run CC 86 (lbl CC 86 5) ⟨tmOf [(1, .ref 0 0)] 0 61, [.box 53 [.str x0, .bool x1, .int .i64 x2, .int .i64 x3, .str x4, .sl (.st 50) x5, .bool x6, .int .i64 x7, .int .i64 x8, .str x9, .sl (.st 50) x10, .bool x11, .int .i64 x12, .int .i64 x13, .str x14, .sl (.st 50) x15, .str x16, .str x17, .str x18] false], 0⟩ fun r => prjR GG [.bool] r.1).trans (by kernel_rfl)

theorem s_l03Level_eq (x0 : Int) (x1 : Int) (x2 : (List UInt8)) (x3 : (List TExpr)) : s_l03Level x0 x1 x2 x3 = if (x0 == 6) = true then some 1 else if (x0 == 7) = true then some 2 else if (x0 == 8) = true then some 3 else if (x0 == 9) = true then some 3 else if (x0 == 10) = true then s_l03Level_L11 else if (x0 == 11) = true then s_l03Level_L11 else s_l03Level_L12 x0 :=
  (den_run CC 152 (bodyT CC 152) ⟨tmOf [(0, .pc [.int .i64 x0, .int .i64 x1, .str x2, .sl (.st 50) x3])] 0 26, [], 0⟩ fun r => prjR GG [(.int .i64)] r.1).trans (by kernel_rfl)

theorem s_QuoteString_eq (x0 : (List UInt8)) : s_QuoteString x0 = (s_CanQuote x0).bind fun r200 => if (!r200) = true then some [] else (s_l02Holds x0 39).bind fun r198 => if r198 = true then ((app ([34]) x0) : Option (List UInt8)).bind fun y196 => ((app y196 ([34])) : Option (List UInt8)).bind fun y195 => some y195 else ((app ([39]) x0) : Option (List UInt8)).bind fun y196 => ((app y196 ([39])) : Option (List UInt8)).bind fun y195 => some y195 :=
  (den_run CC 153 (bodyT CC 153) ⟨tmOf [(0, .str x0)] 0 14, [], 0⟩ fun r => prjR GG [.str] r.1).trans (by kernel_rfl)

theorem s_l02Int_eq (x0 : Int) : s_l02Int x0 = if (decide (x0 < 0)) = true then (s_l02Int (w64 (0 - x0))).bind fun r199 => ((app ([45]) r199) : Option (List UInt8)).bind fun y198 => some y198 else s_l02Int_L4 x0 [] :=
  (den_run CC 154 (bodyT CC 154) ⟨tmOf [(0, .int .i64 x0)] 0 29, [], 0⟩ fun r => prjR GG [.str] r.1).trans (by kernel_rfl)

theorem s_l03Print_L23_eq (x0 : Int) (x1 : Int) (x2 : (List UInt8)) (x3 : (List TExpr)) (x4 : (List UInt8)) (x5 : Int) : s_l03Print_L23 x0 x1 x2 x3 x4 x5 = if (decide (x5 < len x3)) = true then if (decide (x5 > 0)) = true then ((app x4 ([44])) : Option (List UInt8)).bind fun y198 => ((idx x3 x5) : Option TExpr).bind fun y197 => (s_l03Print y197.fKind y197.fNum y197.fText y197.fKids).bind fun r196 => ((app y198 r196) : Option (List UInt8)).bind fun y195 => s_l03Print_L23 x0 x1 x2 x3 y195 (w64 (x5 + 1)) else ((idx x3 x5) : Option TExpr).bind fun y198 => (s_l03Print y198.fKind y198.fNum y198.fText y198.fKids).bind fun r197 => ((app x4 r197) : Option (List UInt8)).bind fun y196 => s_l03Print_L23 x0 x1 x2 x3 y196 (w64 (x5 + 1)) else ((app x4 ([41])) : Option (List UInt8)).bind fun y199 => some y199 :=
  (den_run CC 114 (lbl CC 114 23) ⟨tmOf [(0, .pc [.int .i64 x0, .int .i64 x1, .str x2, .sl (.st 50) x3]), (3, .str x4), (4, .int .i64 x5)] 0 141, [], 0⟩ fun r => prjR GG [.str] r.1).trans (by kernel_rfl)

theorem s_l03Sign_eq (x0 : Int) : s_l03Sign x0 = if (x0 == 6) = true then some [32, 124, 32] else if (x0 == 7) = true then some [32] else if (x0 == 8) = true then some [32, 43, 32] else if (x0 == 9) = true then some [32, 45, 32] else if (x0 == 10) = true then some [32, 42, 32] else if (x0 == 11) = true then some [32, 47, 32] else if (x0 == 12) = true then some [32, 46, 32] else some [32, 36, 32] :=
  (den_run CC 155 (bodyT CC 155) ⟨tmOf [(0, .int .i64 x0)] 0 18, [], 0⟩ fun r => prjR GG [.str] r.1).trans (by kernel_rfl)

theorem s_GotoText_eq (x0 : TGoto) : s_GotoText x0 = (s_ValidGoto x0).bind fun r200 => if (!r200) = true then some [] else if (x0.fAlways == [] && (x0.fSuccess == [] && (x0.fFailure == [] && true))) = true then some [] else if (!x0.fAlways == []) = true then ((app ([58, 40]) x0.fAlways) : Option (List UInt8)).bind fun y196 => ((app y196 ([41])) : Option (List UInt8)).bind fun y195 => some y195 else if (!x0.fSuccess == []) = true then ((app ([83, 40]) x0.fSuccess) : Option (List UInt8)).bind fun y195 => ((app y195 ([41])) : Option (List UInt8)).bind fun y194 => ((app ([58]) y194) : Option (List UInt8)).bind fun y193 => s_GotoText_L8 y193 x0.fAlways x0.fSuccess x0.fFailure else s_GotoText_L8 [58] x0.fAlways x0.fSuccess x0.fFailure :=
  (den_run CC 115 (bodyT CC 115) ⟨tmOf [(0, .st 37 x0)] 0 38, [], 0⟩ fun r => prjR GG [.str] r.1).trans (by kernel_rfl)

theorem s_l04Print_L10_eq (x0 : (List UInt8)) : s_l04Print_L10 x0 = some x0 :=
  (den_run CC 87 (lbl CC 87 10) ⟨tmOf [(3, .str x0)] 0 38, [], 0⟩ fun r => prjR GG [.str] r.1).trans (by kernel_rfl)

theorem s_l01Printable_L2_eq (x0 : (List UInt8)) (x1 : Bool) (x2 : Int) : s_l01Printable_L2 x0 x1 x2 = if (decide (x2 < len x0)) = true then ((idx x0 x2) : Option UInt8).bind fun y199 => if (decide (ib y199 < 32)) = true then if x1 = true then ((idx x0 x2) : Option UInt8).bind fun y196 => if (!ib y196 == 10) = true then s_l01Printable_L5 else s_l01Printable_L3 x0 x1 x2 else s_l01Printable_L5 else ((idx x0 x2) : Option UInt8).bind fun y197 => if (decide (ib y197 > 126)) = true then if x1 = true then ((idx x0 x2) : Option UInt8).bind fun y194 => if (!ib y194 == 10) = true then s_l01Printable_L5 else s_l01Printable_L3 x0 x1 x2 else s_l01Printable_L5 else s_l01Printable_L3 x0 x1 x2 else some (true) :=
  (den_run CC 116 (lbl CC 116 2) ⟨tmOf [(0, .str x0), (1, .bool x1), (5, .int .i64 x2)] 0 32, [], 0⟩ fun r => prjR GG [.bool] r.1).trans (by kernel_rfl)

theorem s_l02Scan_L4_eq (x0 : (List UInt8)) (x1 : Int) (x2 : Bool) (x3 : (List TToken)) : s_l02Scan_L4 x0 x1 x2 x3 = if (decide (x1 < len x0)) = true then ((idx x0 x1) : Option UInt8).bind fun y199 => if (ib y199 == 32) = true then s_l02Scan_L4 x0 (w64 (x1 + 1)) (true) x3 else (s_l02One x0 x1).bind fun r197 => if (decide (Prod.snd r197 < 0)) = true then some (([]), (x1), 2) else if (len x3 == 120) = true then some (([]), (x1), 6) else if (Prod.snd r197 == len x0) = true then ((app x3 [TToken.mk (TToken.fKind (Prod.fst r197)) (TToken.fNum (Prod.fst r197)) (TToken.fText (Prod.fst r197)) x2 true]) : Option (List TToken)).bind fun y193 => s_l02Scan_L4 x0 (Prod.snd r197) (false) y193 else ((idx x0 (Prod.snd r197)) : Option UInt8).bind fun y193 => ((app x3 [TToken.mk (TToken.fKind (Prod.fst r197)) (TToken.fNum (Prod.fst r197)) (TToken.fText (Prod.fst r197)) x2 (Decidable.rec (fun (h : ¬ib y193 = 32) ↦ false) (fun (h : ib y193 = 32) ↦ true) (Int.instDecidableEq (ib y193) 32))]) : Option (List TToken)).bind fun y192 => s_l02Scan_L4 x0 (Prod.snd r197) (false) y192 else if (decide (len x3 > 0)) = true then ((idx x3 (w64 (len x3 - 1))) : Option TToken).bind fun y198 => ((x3[Int.toNat (w64 (len x3 - 1))]?) : Option TToken).bind fun y197 => some ((upd x3 (Int.toNat (w64 (len x3 - 1))) (TToken.mk y197.fKind y197.fNum y197.fText y197.fBefore true)), 0, 0) else some ((x3), 0, 0) :=
  (den_run CC 117 (lbl CC 117 4) ⟨tmOf [(0, .str x0), (5, .arr 0), (6, .int .i64 x1), (7, .bool x2)] 0 64, [.arr 147 (.st 146) x3 false], 0⟩ fun r => prjR GG [(.sl (.st 146)), (.int .i64), (.int .i64)] r.1).trans (by kernel_rfl)

theorem i_isPart_eq (x0 : Bool) (x1 : TExpr) : i_isPart x0 x1 = if x0 = true then (i_ValidExpr x1.re).bind fun r199 => some r199 else (i_SameExpr x1.re (TExpr.mk (Int.ofNat 0) (Int.ofNat 0) [] [])).bind fun r199 => some r199 :=
  (den_run CC 91 (bodyT CC 91) ⟨tmOf [(0, .bool x0), (1, .st 50 x1)] 0 11, [], 0⟩ fun r => prjR GG [.bool] r.1).trans (by kernel_rfl)

theorem i_ValidStatement_L4_eq : i_ValidStatement_L4 = some (false) :=
  (den_run CC 62 (lbl CC 62 4) ⟨tmOf [] 0 89, [], 0⟩ fun r => prjR GG [.bool] r.1).trans (by kernel_rfl)

theorem i_ValidStatement_L5_eq (x0 : (List UInt8)) (x1 : Bool) (x2 : Int) (x3 : Int) (x4 : (List UInt8)) (x5 : (List TExpr)) (x6 : Bool) (x7 : Int) (x8 : Int) (x9 : (List UInt8)) (x10 : (List TExpr)) (x11 : Bool) (x12 : Int) (x13 : Int) (x14 : (List UInt8)) (x15 : (List TExpr)) (x16 : (List UInt8)) (x17 : (List UInt8)) (x18 : (List UInt8)) : i_ValidStatement_L5 x0 x1 x2 x3 x4 x5 x6 x7 x8 x9 x10 x11 x12 x13 x14 x15 x16 x17 x18 = if (x0 == []) = true then if (!x1) = true then if (x16 == [] && (x17 == [] && (x18 == [] && true))) = true then i_ValidStatement_L6 else i_ValidStatement_L7 x0 x1 x2 x3 x4 x5 x6 x7 x8 x9 x10 x11 x12 x13 x14 x15 x16 x17 x18 else i_ValidStatement_L7 x0 x1 x2 x3 x4 x5 x6 x7 x8 x9 x10 x11 x12 x13 x14 x15 x16 x17 x18 else i_ValidStatement_L7 x0 x1 x2 x3 x4 x5 x6 x7 x8 x9 x10 x11 x12 x13 x14 x15 x16 x17 x18 :=
  (den_run CC 62 (lbl CC 62 5) ⟨tmOf [(1, .ref 0 0)] 0 89, [.box 53 [.str x0, .bool x1, .int .i64 x2, .int .i64 x3, .str x4, .sl (.st 50) x5, .bool x6, .int .i64 x7, .int .i64 x8, .str x9, .sl (.st 50) x10, .bool x11, .int .i64 x12, .int .i64 x13, .str x14, .sl (.st 50) x15, .str x16, .str x17, .str x18] false], 0⟩ fun r => prjR GG [.bool] r.1).trans (by kernel_rfl)

theorem i_Program_labelIndex_c1_eq (x0 : TStatement) (x1 : (List UInt8)) : i_Program_labelIndex_c1 x0 x1 = some (x0.fLabel == x1) :=
  (den_run CC 67 (bodyT CC 67) ⟨tmOf [(0, .st 52 x0), (1, .pc [.str x1])] 0 8, [], 0⟩ fun r => prjR GG [.bool] r.1).trans (by kernel_rfl)

theorem i_operand_eq (x0 : TExpr) (x1 : Int) : i_operand x0 x1 = (i_level x0.fKind).bind fun r200 => if (decide (r200 < x1)) = true then (i_Expr_text x0.re).bind fun r198 => ((app ([40]) r198) : Option (List UInt8)).bind fun y197 => ((app y197 ([41])) : Option (List UInt8)).bind fun y196 => some y196 else (i_Expr_text x0.re).bind fun r198 => some r198 :=
  (den_run CC 122 (bodyT CC 122) ⟨tmOf [(0, .st 50 x0), (1, .int .i64 x1)] 0 16, [], 0⟩ fun r => prjR GG [.str] r.1).trans (by kernel_rfl)

theorem i_Expr_text_eq (x0 : TExpr) : i_Expr_text x0 = (i_level x0.fKind).bind fun r200 => if (x0.fKind == 1) = true then (i_QuoteString x0.fText).bind fun r198 => some r198 else if (x0.fKind == 2) = true then (i_decimal x0.fNum).bind fun r197 => some r197 else if (x0.fKind == 3) = true then some x0.fText else if (x0.fKind == 4) = true then i_Expr_text_L11 x0.fKids (len x0.fKids) 0 x0.fKind x0.fNum x0.fText x0.fKids ([]) else if (x0.fKind == 5) = true then ((idx x0.fKids 0) : Option TExpr).bind fun y194 => (i_operand y194.re 7).bind fun r193 => ((app r193 ([60])) : Option (List UInt8)).bind fun y192 => ((idx x0.fKids 1) : Option TExpr).bind fun y191 => (i_Expr_text y191.re).bind fun r190 => ((app y192 r190) : Option (List UInt8)).bind fun y189 => ((app y189 ([62])) : Option (List UInt8)).bind fun y188 => some y188 else (i_isNamed x0.fKind).bind fun r194 => if r194 = true then (i_symbol x0.fKind).bind fun r192 => ((app r192 x0.fText) : Option (List UInt8)).bind fun y191 => some y191 else if (r200 == 6) = true then (i_symbol x0.fKind).bind fun r191 => ((idx x0.fKids 0) : Option TExpr).bind fun y190 => (i_operand y190.re 6).bind fun r189 => ((app r191 r189) : Option (List UInt8)).bind fun y188 => some y188 else if (x0.fKind == 7) = true then ((idx x0.fKids 0) : Option TExpr).bind fun y190 => (i_operand y190.re r200).bind fun r189 => ((app r189 ([32])) : Option (List UInt8)).bind fun y188 => ((idx x0.fKids 1) : Option TExpr).bind fun y187 => (i_operand y187.re (w64 (r200 + 1))).bind fun r186 => ((app y188 r186) : Option (List UInt8)).bind fun y185 => some y185 else ((idx x0.fKids 0) : Option TExpr).bind fun y190 => (i_operand y190.re r200).bind fun r189 => ((app r189 ([32])) : Option (List UInt8)).bind fun y188 => (i_symbol x0.fKind).bind fun r187 => ((app y188 r187) : Option (List UInt8)).bind fun y186 => ((app y186 ([32])) : Option (List UInt8)).bind fun y185 => ((idx x0.fKids 1) : Option TExpr).bind fun y184 => (i_operand y184.re (w64 (r200 + 1))).bind fun r183 => ((app y185 r183) : Option (List UInt8)).bind fun y182 => some y182 :=
  (den_run CC 123 (bodyT CC 123) ⟨tmOf [(0, .st 50 x0)] 0 133, [], 0⟩ fun r => prjR GG [.str] r.1).trans (by kernel_rfl)

theorem i_Statement_text_L6_eq (x0 : (List UInt8)) (x1 : (List UInt8)) (x2 : Bool) (x3 : Int) (x4 : Int) (x5 : (List UInt8)) (x6 : (List TExpr)) (x7 : Bool) (x8 : Int) (x9 : Int) (x10 : (List UInt8)) (x11 : (List TExpr)) (x12 : Bool) (x13 : Int) (x14 : Int) (x15 : (List UInt8)) (x16 : (List TExpr)) (x17 : (List UInt8)) (x18 : (List UInt8)) (x19 : (List UInt8)) : i_Statement_text_L6 x0 x1 x2 x3 x4 x5 x6 x7 x8 x9 x10 x11 x12 x13 x14 x15 x16 x17 x18 x19 = if x12 = true then (i_Expr_text (TExpr.mk x13 x14 x15 x16)).bind fun r199 => ((app ([32, 61, 32]) r199) : Option (List UInt8)).bind fun y198 => ((app x0 y198) : Option (List UInt8)).bind fun y197 => (i_Goto_text (TGoto.mk x17 x18 x19)).bind fun r196 => if (!r196 == []) = true then ((app ([32]) r196) : Option (List UInt8)).bind fun y194 => ((app y197 y194) : Option (List UInt8)).bind fun y193 => i_Statement_text_L11 y193 else i_Statement_text_L11 y197 else (i_Goto_text (TGoto.mk x17 x18 x19)).bind fun r199 => if (!r199 == []) = true then ((app ([32]) r199) : Option (List UInt8)).bind fun y197 => ((app x0 y197) : Option (List UInt8)).bind fun y196 => i_Statement_text_L11 y196 else i_Statement_text_L11 x0 :=
  (den_run CC 92 (lbl CC 92 6) ⟨tmOf [(1, .ref 0 0), (3, .str x0)] 0 41, [.box 53 [.str x1, .bool x2, .int .i64 x3, .int .i64 x4, .str x5, .sl (.st 50) x6, .bool x7, .int .i64 x8, .int .i64 x9, .str x10, .sl (.st 50) x11, .bool x12, .int .i64 x13, .int .i64 x14, .str x15, .sl (.st 50) x16, .str x17, .str x18, .str x19] false], 0⟩ fun r => prjR GG [.str] r.1).trans (by kernel_rfl)

theorem l_eqExprS_L4_eq (x0 : (List TExpr)) (x1 : (List TExpr)) (x2 : Int) : l_eqExprS_L4 x0 x1 x2 = if (decide (x2 < len x0)) = true then ((idx x0 x2) : Option TExpr).bind fun y199 => ((idx x1 x2) : Option TExpr).bind fun y198 => (l_eqExpr y199.re y198.re).bind fun r197 => if (!r197) = true then some (false) else l_eqExprS_L4 x0 x1 (w64 (x2 + 1)) else some (true) :=
  (den_run CC 131 (lbl CC 131 4) ⟨tmOf [(0, .sl (.st 50) x0), (1, .sl (.st 50) x1), (5, .int .i64 x2)] 0 27, [], 0⟩ fun r => prjR GG [.bool] r.1).trans (by kernel_rfl)

theorem s_l03Size_L3_eq (x0 : Int) (x1 : Int) (x2 : (List UInt8)) (x3 : (List TExpr)) (x4 : Int) (x5 : Int) : s_l03Size_L3 x0 x1 x2 x3 x4 x5 = if (decide (x5 < len x3)) = true then if (decide (x4 ≤ 60)) = true then ((idx x3 x5) : Option TExpr).bind fun y198 => (s_l03Size y198.fKind y198.fNum y198.fText y198.fKids).bind fun r197 => s_l03Size_L3 x0 x1 x2 x3 (w64 (x4 + r197)) (w64 (x5 + 1)) else some x4 else some x4 :=
  (den_run CC 101 (lbl CC 101 3) ⟨tmOf [(0, .pc [.int .i64 x0, .int .i64 x1, .str x2, .sl (.st 50) x3]), (3, .int .i64 x4), (4, .int .i64 x5)] 0 28, [], 0⟩ fun r => prjR GG [(.int .i64)] r.1).trans (by kernel_rfl)

theorem s_l03Shape_eq (x0 : Int) (x1 : Int) (x2 : (List UInt8)) (x3 : (List TExpr)) : s_l03Shape x0 x1 x2 x3 = if (x0 == 1) = true then if (x1 == 0) = true then if (len x3 == 0) = true then (s_CanQuote x2).bind fun r197 => some r197 else some (false) else some (false) else if (x0 == 2) = true then if (x2 == []) = true then if (len x3 == 0) = true then (s_l00In x1 0 1000000000000).bind fun r196 => some r196 else some (false) else some (false) else if (x0 == 3) = true then s_l03Shape_L13 x0 x1 x2 x3 0 else if (x0 == 16) = true then s_l03Shape_L13 x0 x1 x2 x3 0 else if (x0 == 17) = true then s_l03Shape_L13 x0 x1 x2 x3 0 else if (x0 == 18) = true then s_l03Shape_L13 x0 x1 x2 x3 0 else s_l03Shape_L14 x0 x1 x2 x3 (false) x0 :=
  (den_run CC 143 (bodyT CC 143) ⟨tmOf [(0, .pc [.int .i64 x0, .int .i64 x1, .str x2, .sl (.st 50) x3])] 0 145, [], 0⟩ fun r => prjR GG [.bool] r.1).trans (by kernel_rfl)

theorem s_l03Nodes_L4_eq (x0 : Int) (x1 : Int) (x2 : (List UInt8)) (x3 : (List TExpr)) (x4 : Int) : s_l03Nodes_L4 x0 x1 x2 x3 x4 = if (decide (x4 < len x3)) = true then ((idx x3 x4) : Option TExpr).bind fun y199 => (s_l03Nodes y199.fKind y199.fNum y199.fText y199.fKids).bind fun r198 => if (!r198) = true then some (false) else s_l03Nodes_L4 x0 x1 x2 x3 (w64 (x4 + 1)) else some (true) :=
  (den_run CC 102 (lbl CC 102 4) ⟨tmOf [(0, .pc [.int .i64 x0, .int .i64 x1, .str x2, .sl (.st 50) x3]), (3, .int .i64 x4)] 0 24, [], 0⟩ fun r => prjR GG [.bool] r.1).trans (by kernel_rfl)

theorem i_isNamed_eq (x0 : Int) : i_isNamed x0 = (i_within x0 16 18).bind fun r200 => some r200 :=
  (den_run CC 75 (bodyT CC 75) ⟨tmOf [(0, .int .i64 x0)] 0 5, [], 0⟩ fun r => prjR GG [.bool] r.1).trans (by kernel_rfl)

theorem s_l02Letter_eq (x0 : Int) : s_l02Letter x0 = if (decide (x0 ≥ 65)) = true then if (decide (x0 ≤ 90)) = true then some (true) else if (decide (x0 ≥ 97)) = true then some (decide (x0 ≤ 122)) else some (false) else if (decide (x0 ≥ 97)) = true then some (decide (x0 ≤ 122)) else some (false) :=
  (den_run CC 178 (bodyT CC 178) ⟨tmOf [(0, .int .u8 x0)] 0 17, [], 0⟩ fun r => prjR GG [.bool] r.1).trans (by kernel_rfl)

theorem s_l02NameEnd_L3_eq (x0 : (List UInt8)) (x1 : Int) : s_l02NameEnd_L3 x0 x1 = if (decide (x1 < len x0)) = true then ((idx x0 x1) : Option UInt8).bind fun y199 => (s_l02Letter (ib y199)).bind fun r198 => if r198 = true then s_l02NameEnd_L4 x0 x1 else ((idx x0 x1) : Option UInt8).bind fun y196 => (s_l02Digit (ib y196)).bind fun r195 => if r195 = true then s_l02NameEnd_L4 x0 x1 else ((idx x0 x1) : Option UInt8).bind fun y193 => if (ib y193 == 95) = true then s_l02NameEnd_L4 x0 x1 else s_l02NameEnd_L5 x1 else s_l02NameEnd_L5 x1 :=
  (den_run CC 144 (lbl CC 144 3) ⟨tmOf [(0, .str x0), (1, .int .i64 x1)] 0 42, [], 0⟩ fun r => prjR GG [(.int .i64)] r.1).trans (by kernel_rfl)

theorem i_isLetter_eq (x0 : Int) : i_isLetter x0 = if (decide (x0 ≥ 65)) = true then if (decide (x0 ≤ 90)) = true then some (true) else if (decide (x0 ≥ 97)) = true then some (decide (x0 ≤ 122)) else some (false) else if (decide (x0 ≥ 97)) = true then some (decide (x0 ≤ 122)) else some (false) :=
  (den_run CC 145 (bodyT CC 145) ⟨tmOf [(0, .int .u8 x0)] 0 17, [], 0⟩ fun r => prjR GG [.bool] r.1).trans (by kernel_rfl)

theorem i_areAll_byte__i_isNameByte_eq (x0 : (List Int)) : i_areAll_byte__i_isNameByte x0 = i_areAll_byte_L2__i_isNameByte x0 (len x0) 0 :=
  (den_run CC 146 (bodyT CC 146) ⟨tmOf [(0, .sl (.int .u8) x0), (1, .fn 147 [])] 0 18, [], 0⟩ fun r => prjR GG [.bool] r.1).trans (by kernel_rfl)

theorem s_l03Same_eq (x0 : Int) (x1 : Int) (x2 : (List UInt8)) (x3 : (List TExpr)) (x4 : Int) (x5 : Int) (x6 : (List UInt8)) (x7 : (List TExpr)) : s_l03Same x0 x1 x2 x3 x4 x5 x6 x7 = if (x0 != x4) = true then s_l03Same_L2 else if (x1 != x5) = true then s_l03Same_L2 else if (!x2 == x6) = true then s_l03Same_L2 else if (len x3 != len x7) = true then s_l03Same_L2 else s_l03Same_L3 x0 x1 x2 x3 x4 x5 x6 x7 :=
  (den_run CC 180 (bodyT CC 180) ⟨tmOf [(0, .pc [.int .i64 x0, .int .i64 x1, .str x2, .sl (.st 50) x3]), (1, .pc [.int .i64 x4, .int .i64 x5, .str x6, .sl (.st 50) x7])] 0 73, [], 0⟩ fun r => prjR GG [.bool] r.1).trans (by kernel_rfl)

theorem s_l03Level_L11_eq : s_l03Level_L11 = some 4 :=
  (den_run CC 152 (lbl CC 152 11) ⟨tmOf [] 0 26, [], 0⟩ fun r => prjR GG [(.int .i64)] r.1).trans (by kernel_rfl)

theorem s_l03Level_L12_eq (x0 : Int) : s_l03Level_L12 x0 = if (x0 == 12) = true then some 5 else if (x0 == 13) = true then some 5 else if (x0 == 14) = true then s_l03Level_L20 else if (x0 == 15) = true then s_l03Level_L20 else if (x0 == 16) = true then s_l03Level_L20 else if (x0 == 17) = true then s_l03Level_L20 else if (x0 == 18) = true then s_l03Level_L20 else s_l03Level_L21 :=
  (den_run CC 152 (lbl CC 152 12) ⟨tmOf [(6, .int .i64 x0)] 0 26, [], 0⟩ fun r => prjR GG [(.int .i64)] r.1).trans (by kernel_rfl)

theorem s_CanQuote_eq (x0 : (List UInt8)) : s_CanQuote x0 = if (decide (len x0 ≤ 200)) = true then (s_l01Printable x0 (false)).bind fun r199 => if r199 = true then (s_l02Holds x0 39).bind fun r197 => if r197 = true then (s_l02Holds x0 34).bind fun r195 => some (!r195) else some (true) else some (false) else some (false) :=
  (den_run CC 177 (bodyT CC 177) ⟨tmOf [(0, .str x0)] 0 19, [], 0⟩ fun r => prjR GG [.bool] r.1).trans (by kernel_rfl)

theorem s_l02Holds_eq (x0 : (List UInt8)) (x1 : Int) : s_l02Holds x0 x1 = s_l02Holds_L2 x0 x1 0 :=
  (den_run CC 181 (bodyT CC 181) ⟨tmOf [(0, .str x0), (1, .int .u8 x1)] 0 17, [], 0⟩ fun r => prjR GG [.bool] r.1).trans (by kernel_rfl)

theorem s_l02Int_L4_eq (x0 : Int) (x1 : (List UInt8)) : s_l02Int_L4 x0 x1 = if (decide (x0 ≥ 10)) = true then ((rem x0 10) : Option Int).bind fun y199 => ((app (List.map (fun (n : Int) ↦ UInt8.ofNat (Int.toNat n)) [Go.IntKind.wrap Go.IntKind.u8 (w64 (48 + y199))]) x1) : Option (List UInt8)).bind fun y198 => ((quo Go.IntKind.i64 x0 10) : Option Int).bind fun y197 => s_l02Int_L4 y197 y198 else ((app (List.map (fun (n : Int) ↦ UInt8.ofNat (Int.toNat n)) [Go.IntKind.wrap Go.IntKind.u8 (w64 (48 + x0))]) x1) : Option (List UInt8)).bind fun y199 => some y199 :=
  (den_run CC 154 (lbl CC 154 4) ⟨tmOf [(0, .int .i64 x0), (3, .str x1)] 0 29, [], 0⟩ fun r => prjR GG [.str] r.1).trans (by kernel_rfl)

theorem s_GotoText_L8_eq (x0 : (List UInt8)) (x1 : (List UInt8)) (x2 : (List UInt8)) (x3 : (List UInt8)) : s_GotoText_L8 x0 x1 x2 x3 = if (!x3 == []) = true then ((app ([70, 40]) x3) : Option (List UInt8)).bind fun y199 => ((app y199 ([41])) : Option (List UInt8)).bind fun y198 => ((app x0 y198) : Option (List UInt8)).bind fun y197 => some y197 else some x0 :=
  (den_run CC 115 (lbl CC 115 8) ⟨tmOf [(1, .ref 0 0), (3, .str x0)] 0 38, [.box 42 [.str x1, .str x2, .str x3] false], 0⟩ fun r => prjR GG [.str] r.1).trans (by kernel_rfl)

theorem s_l01Printable_L5_eq : s_l01Printable_L5 = some (false) :=
  (den_run CC 116 (lbl CC 116 5) ⟨tmOf [] 0 32, [], 0⟩ fun r => prjR GG [.bool] r.1).trans (by kernel_rfl)

theorem s_l01Printable_L3_eq (x0 : (List UInt8)) (x1 : Bool) (x2 : Int) : s_l01Printable_L3 x0 x1 x2 = s_l01Printable_L2 x0 x1 (w64 (x2 + 1)) :=
  (den_run CC 116 (lbl CC 116 3) ⟨tmOf [(0, .str x0), (1, .bool x1), (5, .int .i64 x2)] 0 32, [], 0⟩ fun r => prjR GG [.bool] r.1).trans (by kernel_rfl)

theorem s_l02One_eq (x0 : (List UInt8)) (x1 : Int) : s_l02One x0 x1 = ((idx x0 x1) : Option UInt8).bind fun y200 => (s_l02Letter (ib y200)).bind fun r199 => if r199 = true then (s_l02NameEnd x0 x1).bind fun r197 => if (decide (w64 (r197 - x1) > 12)) = true then some ((TToken.mk (Int.ofNat 0) (Int.ofNat 0) [] false false), (-1)) else ((cut x0 x1 (Option.getD (Option.some r197) (len x0))) : Option (List UInt8)).bind fun y195 => some ((TToken.mk (Int.ofNat 1) (Int.ofNat 0) y195 false false), r197) else (s_l02Digit (ib y200)).bind fun r197 => if r197 = true then s_l02One_L10 x0 x1 0 x1 0 0 [] (false) (false) else if (ib y200 == 39) = true then s_l02One_L18 x0 x1 (ib y200) (w64 (x1 + 1)) 0 0 [] (false) (false) else if (ib y200 == 34) = true then s_l02One_L18 x0 x1 (ib y200) (w64 (x1 + 1)) 0 0 [] (false) (false) else (s_l02Operator (ib y200)).bind fun r193 => if r193 = true then ((cut x0 x1 (Option.getD (Option.some (w64 (x1 + 1))) (len x0))) : Option (List UInt8)).bind fun y191 => some ((TToken.mk (Int.ofNat 4) (Int.ofNat 0) y191 false false), (w64 (x1 + 1))) else s_l02One_L27 x1 (ib y200) [40, 41, 60, 62, 44, 58] 0 0 0 [] (false) (false) :=
  (den_run CC 156 (bodyT CC 156) ⟨tmOf [(0, .str x0), (1, .int .i64 x1)] 0 145, [], 0⟩ fun r => prjR GG [(.st 146), (.int .i64)] r.1).trans (by kernel_rfl)

theorem i_ValidExpr_eq (x0 : TExpr) : i_ValidExpr x0 = (i_countNodes x0.re 0).bind fun r200 => some (decide (r200 ≤ 60)) :=
  (den_run CC 120 (bodyT CC 120) ⟨tmOf [(0, .st 50 x0)] 0 6, [], 0⟩ fun r => prjR GG [.bool] r.1).trans (by kernel_rfl)

theorem i_SameExpr_eq (x0 : TExpr) (x1 : TExpr) : i_SameExpr x0 x1 = if (x0.fKind == x1.fKind) = true then if (x0.fNum == x1.fNum) = true then if (x0.fText == x1.fText) = true then (slices_EqualFunc___i_Expr___i_Expr_i_Expr_i_Expr___i_SameExpr x0.fKids x1.fKids).bind fun r197 => some r197 else some (false) else some (false) else some (false) :=
  (den_run CC 121 (bodyT CC 121) ⟨tmOf [(0, .st 50 x0), (1, .st 50 x1)] 0 31, [], 0⟩ fun r => prjR GG [.bool] r.1).trans (by kernel_rfl)

theorem i_ValidStatement_L6_eq : i_ValidStatement_L6 = some (false) :=
  (den_run CC 62 (lbl CC 62 6) ⟨tmOf [] 0 89, [], 0⟩ fun r => prjR GG [.bool] r.1).trans (by kernel_rfl)

theorem i_ValidStatement_L7_eq (x0 : (List UInt8)) (x1 : Bool) (x2 : Int) (x3 : Int) (x4 : (List UInt8)) (x5 : (List TExpr)) (x6 : Bool) (x7 : Int) (x8 : Int) (x9 : (List UInt8)) (x10 : (List TExpr)) (x11 : Bool) (x12 : Int) (x13 : Int) (x14 : (List UInt8)) (x15 : (List TExpr)) (x16 : (List UInt8)) (x17 : (List UInt8)) (x18 : (List UInt8)) : i_ValidStatement_L7 x0 x1 x2 x3 x4 x5 x6 x7 x8 x9 x10 x11 x12 x13 x14 x15 x16 x17 x18 = (i_Statement_text (TStatement.mk x0 x1 (TExpr.mk x2 x3 x4 x5) x6 (TExpr.mk x7 x8 x9 x10) x11 (TExpr.mk x12 x13 x14 x15) (TGoto.mk x16 x17 x18))).bind fun r200 => (strings_TrimPrefix r200 x0).bind fun r199 => (i_ScanTokens r199).bind fun r198 => if (decide (len r200 ≤ 4000)) = true then some (Prod.snd (Prod.snd r198) == 0) else some (false) :=
  (den_run CC 62 (lbl CC 62 7) ⟨tmOf [(1, .ref 0 0)] 0 89, [.box 53 [.str x0, .bool x1, .int .i64 x2, .int .i64 x3, .str x4, .sl (.st 50) x5, .bool x6, .int .i64 x7, .int .i64 x8, .str x9, .sl (.st 50) x10, .bool x11, .int .i64 x12, .int .i64 x13, .str x14, .sl (.st 50) x15, .str x16, .str x17, .str x18] false], 0⟩ fun r => prjR GG [.bool] r.1).trans (by kernel_rfl)

theorem i_level_eq (x0 : Int) : i_level x0 = if (x0 == 6) = true then some 1 else if (x0 == 7) = true then some 2 else if (x0 == 8) = true then some 3 else if (x0 == 9) = true then some 3 else if (x0 == 10) = true then i_level_L11 else if (x0 == 11) = true then i_level_L11 else i_level_L12 x0 :=
  (den_run CC 159 (bodyT CC 159) ⟨tmOf [(0, .int .i64 x0)] 0 23, [], 0⟩ fun r => prjR GG [(.int .i64)] r.1).trans (by kernel_rfl)

theorem i_QuoteString_eq (x0 : (List UInt8)) : i_QuoteString x0 = (i_CanQuote x0).bind fun r200 => if (!r200) = true then some [] else ((containsS x0 ([39])) : Option Bool).bind fun y198 => if y198 = true then ((app ([34]) x0) : Option (List UInt8)).bind fun y196 => ((app y196 ([34])) : Option (List UInt8)).bind fun y195 => some y195 else ((app ([39]) x0) : Option (List UInt8)).bind fun y196 => ((app y196 ([39])) : Option (List UInt8)).bind fun y195 => some y195 :=
  (den_run CC 160 (bodyT CC 160) ⟨tmOf [(0, .str x0)] 0 16, [], 0⟩ fun r => prjR GG [.str] r.1).trans (by kernel_rfl)

theorem i_decimal_eq (x0 : Int) : i_decimal x0 = ((itoaS x0 10) : Option (List UInt8)).bind fun y200 => some y200 :=
  (den_run CC 161 (bodyT CC 161) ⟨tmOf [(0, .int .i64 x0)] 0 5, [], 0⟩ fun r => prjR GG [.str] r.1).trans (by kernel_rfl)

theorem i_Expr_text_L11_eq (x0 : (List TExpr)) (x1 : Int) (x2 : Int) (x3 : Int) (x4 : Int) (x5 : (List UInt8)) (x6 : (List TExpr)) (x7 : (List (List UInt8))) : i_Expr_text_L11 x0 x1 x2 x3 x4 x5 x6 x7 = if (decide (x2 < x1)) = true then ((idx x0 x2) : Option TExpr).bind fun y199 => (i_Expr_text y199.re).bind fun r198 => ((app x7 [r198]) : Option (List (List UInt8))).bind fun y197 => i_Expr_text_L11 x0 x1 (w64 (x2 + 1)) x3 x4 x5 x6 y197 else ((app x5 ([40])) : Option (List UInt8)).bind fun y199 => ((joinS x7 ([44])) : Option (List UInt8)).bind fun y198 => ((app y199 y198) : Option (List UInt8)).bind fun y197 => ((app y197 ([41])) : Option (List UInt8)).bind fun y196 => some y196 :=
  (den_run CC 123 (lbl CC 123 11) ⟨tmOf [(1, .ref 0 0), (4, .arr 1), (36, .sl (.st 50) x0), (37, .int .i64 x1), (38, .int .i64 x2)] 0 133, [.box 51 [.int .i64 x3, .int .i64 x4, .str x5, .sl (.st 50) x6] false, .arr 9 .str x7 false], 0⟩ fun r => prjR GG [.str] r.1).trans (by kernel_rfl)

theorem i_symbol_eq (x0 : Int) : i_symbol x0 = ((idx [[], [], [], [], [], [], [124], [], [43], [45], [42], [47], [46], [36], [45], [36], [46], [42], [64]] x0) : Option (List UInt8)).bind fun y200 => some y200 :=
  (den_run CC 163 (bodyT CC 163) ⟨tmOf [(0, .int .i64 x0)] 0 8, [], 0⟩ fun r => prjR GG [.str] r.1).trans (by kernel_rfl)

theorem i_Goto_text_eq (x0 : TGoto) : i_Goto_text x0 = if (!x0.fAlways == []) = true then ((app ([58, 40]) x0.fAlways) : Option (List UInt8)).bind fun y199 => ((app y199 ([41])) : Option (List UInt8)).bind fun y198 => some y198 else if (!x0.fSuccess == []) = true then ((app ([83, 40]) x0.fSuccess) : Option (List UInt8)).bind fun y198 => ((app y198 ([41])) : Option (List UInt8)).bind fun y197 => ((app ([]) y197) : Option (List UInt8)).bind fun y196 => if (!x0.fFailure == []) = true then ((app ([70, 40]) x0.fFailure) : Option (List UInt8)).bind fun y194 => ((app y194 ([41])) : Option (List UInt8)).bind fun y193 => ((app y196 y193) : Option (List UInt8)).bind fun y192 => i_Goto_text_L8 y192 else i_Goto_text_L8 y196 else if (!x0.fFailure == []) = true then ((app ([70, 40]) x0.fFailure) : Option (List UInt8)).bind fun y197 => ((app y197 ([41])) : Option (List UInt8)).bind fun y196 => ((app ([]) y196) : Option (List UInt8)).bind fun y195 => i_Goto_text_L8 y195 else i_Goto_text_L8 [] :=
  (den_run CC 124 (bodyT CC 124) ⟨tmOf [(0, .st 37 x0)] 0 33, [], 0⟩ fun r => prjR GG [.str] r.1).trans (by kernel_rfl)

theorem i_Statement_text_L11_eq (x0 : (List UInt8)) : i_Statement_text_L11 x0 = some x0 :=
  (den_run CC 92 (lbl CC 92 11) ⟨tmOf [(3, .str x0)] 0 41, [], 0⟩ fun r => prjR GG [.str] r.1).trans (by kernel_rfl)

theorem s_l03Shape_L13_eq (x0 : Int) (x1 : Int) (x2 : (List UInt8)) (x3 : (List TExpr)) (x4 : Int) : s_l03Shape_L13 x0 x1 x2 x3 x4 = s_l03Shape_L32 x0 x1 x2 x3 x4 (true) :=
  (den_run CC 143 (lbl CC 143 13) ⟨tmOf [(0, .pc [.int .i64 x0, .int .i64 x1, .str x2, .sl (.st 50) x3]), (3, .int .i64 x4)] 0 145, [], 0⟩ fun r => prjR GG [.bool] r.1).trans (by kernel_rfl)

theorem s_l03Shape_L14_eq (x0 : Int) (x1 : Int) (x2 : (List UInt8)) (x3 : (List TExpr)) (x4 : Bool) (x5 : Int) : s_l03Shape_L14 x0 x1 x2 x3 x4 x5 = if (x5 == 4) = true then if (x1 == 0) = true then (s_IsName x2).bind fun r198 => if r198 = true then some (decide (len x3 ≤ 6)) else some (false) else some (false) else if (x5 == 14) = true then s_l03Shape_L32 x0 x1 x2 x3 1 x4 else if (x5 == 15) = true then s_l03Shape_L32 x0 x1 x2 x3 1 x4 else if (x5 == 5) = true then s_l03Shape_L26 x0 x1 x2 x3 x4 else if (x5 == 6) = true then s_l03Shape_L26 x0 x1 x2 x3 x4 else if (x5 == 7) = true then s_l03Shape_L26 x0 x1 x2 x3 x4 else if (x5 == 8) = true then s_l03Shape_L26 x0 x1 x2 x3 x4 else if (x5 == 9) = true then s_l03Shape_L26 x0 x1 x2 x3 x4 else if (x5 == 10) = true then s_l03Shape_L26 x0 x1 x2 x3 x4 else if (x5 == 11) = true then s_l03Shape_L26 x0 x1 x2 x3 x4 else s_l03Shape_L27 x0 x1 x2 x3 x4 x5 :=
  (den_run CC 143 (lbl CC 143 14) ⟨tmOf [(0, .pc [.int .i64 x0, .int .i64 x1, .str x2, .sl (.st 50) x3]), (4, .bool x4), (8, .int .i64 x5)] 0 145, [], 0⟩ fun r => prjR GG [.bool] r.1).trans (by kernel_rfl)

theorem i_within_eq (x0 : Int) (x1 : Int) (x2 : Int) : i_within x0 x1 x2 = if (decide (x0 ≥ x1)) = true then some (decide (x0 ≤ x2)) else some (false) :=
  (den_run CC 104 (bodyT CC 104) ⟨tmOf [(0, .int .i64 x0), (1, .int .i64 x1), (2, .int .i64 x2)] 0 15, [], 0⟩ fun r => prjR GG [.bool] r.1).trans (by kernel_rfl)

theorem s_l02NameEnd_L4_eq (x0 : (List UInt8)) (x1 : Int) : s_l02NameEnd_L4 x0 x1 = s_l02NameEnd_L3 x0 (w64 (x1 + 1)) :=
  (den_run CC 144 (lbl CC 144 4) ⟨tmOf [(0, .str x0), (1, .int .i64 x1)] 0 42, [], 0⟩ fun r => prjR GG [(.int .i64)] r.1).trans (by kernel_rfl)

theorem s_l02Digit_eq (x0 : Int) : s_l02Digit x0 = if (decide (x0 ≥ 48)) = true then some (decide (x0 ≤ 57)) else some (false) :=
  (den_run CC 179 (bodyT CC 179) ⟨tmOf [(0, .int .u8 x0)] 0 9, [], 0⟩ fun r => prjR GG [.bool] r.1).trans (by kernel_rfl)

theorem s_l02NameEnd_L5_eq (x0 : Int) : s_l02NameEnd_L5 x0 = some x0 :=
  (den_run CC 144 (lbl CC 144 5) ⟨tmOf [(1, .int .i64 x0)] 0 42, [], 0⟩ fun r => prjR GG [(.int .i64)] r.1).trans (by kernel_rfl)

theorem i_areAll_byte_L2__i_isNameByte_eq (x0 : (List Int)) (x1 : Int) (x2 : Int) : i_areAll_byte_L2__i_isNameByte x0 x1 x2 = if (decide (x2 < x1)) = true then ((idx x0 x2) : Option Int).bind fun y199 => (i_isNameByte y199).bind fun r198 => if (!r198) = true then some (false) else i_areAll_byte_L2__i_isNameByte x0 x1 (w64 (x2 + 1)) else some (true) :=
  (den_run CC 146 (lbl CC 146 2) ⟨tmOf [(1, .fn 147 []), (7, .sl (.int .u8) x0), (8, .int .i64 x1), (9, .int .i64 x2)] 0 18, [], 0⟩ fun r => prjR GG [.bool] r.1).trans (by kernel_rfl)

theorem s_l03Same_L2_eq : s_l03Same_L2 = some (false) :=
  (den_run CC 180 (lbl CC 180 2) ⟨tmOf [] 0 73, [], 0⟩ fun r => prjR GG [.bool] r.1).trans (by kernel_rfl)

theorem s_l03Same_L3_eq (x0 : Int) (x1 : Int) (x2 : (List UInt8)) (x3 : (List TExpr)) (x4 : Int) (x5 : Int) (x6 : (List UInt8)) (x7 : (List TExpr)) : s_l03Same_L3 x0 x1 x2 x3 x4 x5 x6 x7 = s_l03Same_L4 x0 x1 x2 x3 x4 x5 x6 x7 0 :=
  (den_run CC 180 (lbl CC 180 3) ⟨tmOf [(0, .pc [.int .i64 x0, .int .i64 x1, .str x2, .sl (.st 50) x3]), (1, .pc [.int .i64 x4, .int .i64 x5, .str x6, .sl (.st 50) x7])] 0 73, [], 0⟩ fun r => prjR GG [.bool] r.1).trans (by kernel_rfl)

theorem s_l03Level_L20_eq : s_l03Level_L20 = some 6 :=
  (den_run CC 152 (lbl CC 152 20) ⟨tmOf [] 0 26, [], 0⟩ fun r => prjR GG [(.int .i64)] r.1).trans (by kernel_rfl)

theorem s_l03Level_L21_eq : s_l03Level_L21 = some 7 :=
  (den_run CC 152 (lbl CC 152 21) ⟨tmOf [] 0 26, [], 0⟩ fun r => prjR GG [(.int .i64)] r.1).trans (by kernel_rfl)

theorem s_l02Holds_L2_eq (x0 : (List UInt8)) (x1 : Int) (x2 : Int) : s_l02Holds_L2 x0 x1 x2 = if (decide (x2 < len x0)) = true then ((idx x0 x2) : Option UInt8).bind fun y199 => if (ib y199 == x1) = true then some (true) else s_l02Holds_L2 x0 x1 (w64 (x2 + 1)) else some (false) :=
  (den_run CC 181 (lbl CC 181 2) ⟨tmOf [(0, .str x0), (1, .int .u8 x1), (5, .int .i64 x2)] 0 17, [], 0⟩ fun r => prjR GG [.bool] r.1).trans (by kernel_rfl)

theorem s_l02One_L10_eq (x0 : (List UInt8)) (x1 : Int) (x2 : Int) (x3 : Int) (x4 : Int) (x5 : Int) (x6 : (List UInt8)) (x7 : Bool) (x8 : Bool) : s_l02One_L10 x0 x1 x2 x3 x4 x5 x6 x7 x8 = if (decide (x3 < len x0)) = true then ((idx x0 x3) : Option UInt8).bind fun y199 => (s_l02Digit (ib y199)).bind fun r198 => if r198 = true then if (decide (w64 (x3 - x1) < 14)) = true then s_l02One_L11 x0 x1 x2 x3 x4 x5 x6 x7 x8 else s_l02One_L13 x1 x2 x3 x4 x5 x6 x7 x8 else s_l02One_L13 x1 x2 x3 x4 x5 x6 x7 x8 else s_l02One_L13 x1 x2 x3 x4 x5 x6 x7 x8 :=
  (den_run CC 156 (lbl CC 156 10) ⟨tmOf [(0, .str x0), (1, .int .i64 x1), (4, .ref 0 0), (8, .int .i64 x2), (9, .int .i64 x3)] 0 145, [.box 147 [.int .i64 x4, .int .i64 x5, .str x6, .bool x7, .bool x8] false], 0⟩ fun r => prjR GG [(.st 146), (.int .i64)] r.1).trans (by kernel_rfl)

theorem s_l02One_L18_eq (x0 : (List UInt8)) (x1 : Int) (x2 : Int) (x3 : Int) (x4 : Int) (x5 : Int) (x6 : (List UInt8)) (x7 : Bool) (x8 : Bool) : s_l02One_L18 x0 x1 x2 x3 x4 x5 x6 x7 x8 = if (decide (x3 < len x0)) = true then ((idx x0 x3) : Option UInt8).bind fun y199 => if (ib y199 != x2) = true then s_l02One_L18 x0 x1 x2 (w64 (x3 + 1)) x4 x5 x6 x7 x8 else if (x3 == len x0) = true then s_l02One_L21 x4 x5 x6 x7 x8 else if (decide (w64 (w64 (x3 - x1) - 1) > 200)) = true then s_l02One_L21 x4 x5 x6 x7 x8 else s_l02One_L22 x0 x1 x3 x4 x5 x6 x7 x8 else if (x3 == len x0) = true then s_l02One_L21 x4 x5 x6 x7 x8 else if (decide (w64 (w64 (x3 - x1) - 1) > 200)) = true then s_l02One_L21 x4 x5 x6 x7 x8 else s_l02One_L22 x0 x1 x3 x4 x5 x6 x7 x8 :=
  (den_run CC 156 (lbl CC 156 18) ⟨tmOf [(0, .str x0), (1, .int .i64 x1), (4, .ref 0 0), (6, .int .u8 x2), (10, .int .i64 x3)] 0 145, [.box 147 [.int .i64 x4, .int .i64 x5, .str x6, .bool x7, .bool x8] false], 0⟩ fun r => prjR GG [(.st 146), (.int .i64)] r.1).trans (by kernel_rfl)

theorem s_l02Operator_eq (x0 : Int) : s_l02Operator x0 = if (x0 == 43) = true then s_l02Operator_L11 else if (x0 == 45) = true then s_l02Operator_L11 else if (x0 == 42) = true then s_l02Operator_L11 else if (x0 == 47) = true then s_l02Operator_L11 else if (x0 == 124) = true then s_l02Operator_L11 else if (x0 == 46) = true then s_l02Operator_L11 else if (x0 == 36) = true then s_l02Operator_L11 else if (x0 == 64) = true then s_l02Operator_L11 else if (x0 == 61) = true then s_l02Operator_L11 else s_l02Operator_L12 :=
  (den_run CC 182 (bodyT CC 182) ⟨tmOf [(0, .int .u8 x0)] 0 14, [], 0⟩ fun r => prjR GG [.bool] r.1).trans (by kernel_rfl)

theorem s_l02One_L27_eq (x0 : Int) (x1 : Int) (x2 : (List UInt8)) (x3 : Int) (x4 : Int) (x5 : Int) (x6 : (List UInt8)) (x7 : Bool) (x8 : Bool) : s_l02One_L27 x0 x1 x2 x3 x4 x5 x6 x7 x8 = if (decide (x3 < len x2)) = true then ((idx x2 x3) : Option UInt8).bind fun y199 => if (ib y199 == x1) = true then some ((TToken.mk (w64 (5 + x3)) (Int.ofNat 0) [] false false), (w64 (x0 + 1))) else s_l02One_L27 x0 x1 x2 (w64 (x3 + 1)) x4 x5 x6 x7 x8 else some ((TToken.mk (Int.ofNat 0) (Int.ofNat 0) [] false false), (-1)) :=
  (den_run CC 156 (lbl CC 156 27) ⟨tmOf [(1, .int .i64 x0), (4, .ref 0 0), (6, .int .u8 x1), (11, .str x2), (12, .int .i64 x3)] 0 145, [.box 147 [.int .i64 x4, .int .i64 x5, .str x6, .bool x7, .bool x8] false], 0⟩ fun r => prjR GG [(.st 146), (.int .i64)] r.1).trans (by kernel_rfl)

theorem i_countNodes_eq (x0 : TExpr) (x1 : Int) : i_countNodes x0 x1 = if (decide (w64 (x1 + 1) > 60)) = true then some 61 else (i_Expr_hasFields x0.re).bind fun r199 => if (!r199) = true then some 61 else i_countNodes_L5 (w64 (x1 + 1)) x0.fKids (len x0.fKids) 0 :=
  (den_run CC 157 (bodyT CC 157) ⟨tmOf [(0, .st 50 x0), (1, .int .i64 x1)] 0 30, [], 0⟩ fun r => prjR GG [(.int .i64)] r.1).trans (by kernel_rfl)

theorem slices_EqualFunc___i_Expr___i_Expr_i_Expr_i_Expr___i_SameExpr_eq (x0 : (List TExpr)) (x1 : (List TExpr)) : slices_EqualFunc___i_Expr___i_Expr_i_Expr_i_Expr___i_SameExpr x0 x1 = if (len x0 != len x1) = true then some (false) else slices_EqualFunc___i_Expr___i_Expr_i_Expr_i_Expr__L4__i_SameExpr x1 x0 (len x0) 0 :=
  (den_run CC 158 (bodyT CC 158) ⟨tmOf [(0, .sl (.st 50) x0), (1, .sl (.st 50) x1), (2, .fn 121 [])] 0 32, [], 0⟩ fun r => prjR GG [.bool] r.1).trans (by kernel_rfl)

theorem strings_TrimPrefix_eq (x0 : (List UInt8)) (x1 : (List UInt8)) : strings_TrimPrefix x0 x1 = (internal_stringslite_TrimPrefix x0 x1).bind fun r200 => some r200 :=
  (den_run CC 94 (bodyT CC 94) ⟨tmOf [(0, .str x0), (1, .str x1)] 0 8, [], 0⟩ fun r => prjR GG [.str] r.1).trans (by kernel_rfl)

theorem i_ScanTokens_eq (x0 : (List UInt8)) : i_ScanTokens x0 = if (decide (len x0 > 4000)) = true then some (([]), 0, 1) else (i_isPlainText x0).bind fun r199 => if (!r199) = true then some (([]), 0, 1) else i_ScanTokens_L5 x0 0 ([]) :=
  (den_run CC 93 (bodyT CC 93) ⟨tmOf [(0, .str x0)] 0 81, [], 0⟩ fun r => prjR GG [(.sl (.st 146)), (.int .i64), (.int .i64)] r.1).trans (by kernel_rfl)

theorem i_level_L11_eq : i_level_L11 = some 4 :=
  (den_run CC 159 (lbl CC 159 11) ⟨tmOf [] 0 23, [], 0⟩ fun r => prjR GG [(.int .i64)] r.1).trans (by kernel_rfl)

theorem i_level_L12_eq (x0 : Int) : i_level_L12 x0 = if (x0 == 12) = true then some 5 else if (x0 == 13) = true then some 5 else if (x0 == 14) = true then i_level_L20 else if (x0 == 15) = true then i_level_L20 else if (x0 == 16) = true then i_level_L20 else if (x0 == 17) = true then i_level_L20 else if (x0 == 18) = true then i_level_L20 else i_level_L21 :=
  (den_run CC 159 (lbl CC 159 12) ⟨tmOf [(3, .int .i64 x0)] 0 23, [], 0⟩ fun r => prjR GG [(.int .i64)] r.1).trans (by kernel_rfl)

theorem i_CanQuote_eq (x0 : (List UInt8)) : i_CanQuote x0 = if (decide (len x0 ≤ 200)) = true then (i_isPlainText x0).bind fun r199 => if r199 = true then ((containsS x0 ([39])) : Option Bool).bind fun y197 => if y197 = true then ((containsS x0 ([34])) : Option Bool).bind fun y195 => some (!y195) else some (true) else some (false) else some (false) :=
  (den_run CC 184 (bodyT CC 184) ⟨tmOf [(0, .str x0)] 0 19, [], 0⟩ fun r => prjR GG [.bool] r.1).trans (by kernel_rfl)

theorem i_Goto_text_L8_eq (x0 : (List UInt8)) : i_Goto_text_L8 x0 = if (x0 == []) = true then some [] else ((app ([58]) x0) : Option (List UInt8)).bind fun y199 => some y199 :=
  (den_run CC 124 (lbl CC 124 8) ⟨tmOf [(3, .str x0)] 0 33, [], 0⟩ fun r => prjR GG [.str] r.1).trans (by kernel_rfl)

theorem s_l03Shape_L32_eq (x0 : Int) (x1 : Int) (x2 : (List UInt8)) (x3 : (List TExpr)) (x4 : Int) (x5 : Bool) : s_l03Shape_L32 x0 x1 x2 x3 x4 x5 = if (x1 == 0) = true then if (len x3 == x4) = true then if x5 = true then (s_IsName x2).bind fun r197 => if r197 = true then some (true) else if (!x5) = true then some (x2 == []) else some (false) else if (!x5) = true then some (x2 == []) else some (false) else some (false) else some (false) :=
  (den_run CC 143 (lbl CC 143 32) ⟨tmOf [(0, .pc [.int .i64 x0, .int .i64 x1, .str x2, .sl (.st 50) x3]), (3, .int .i64 x4), (4, .bool x5)] 0 145, [], 0⟩ fun r => prjR GG [.bool] r.1).trans (by kernel_rfl)

theorem s_l03Shape_L26_eq (x0 : Int) (x1 : Int) (x2 : (List UInt8)) (x3 : (List TExpr)) (x4 : Bool) : s_l03Shape_L26 x0 x1 x2 x3 x4 = s_l03Shape_L32 x0 x1 x2 x3 2 x4 :=
  (den_run CC 143 (lbl CC 143 26) ⟨tmOf [(0, .pc [.int .i64 x0, .int .i64 x1, .str x2, .sl (.st 50) x3]), (4, .bool x4)] 0 145, [], 0⟩ fun r => prjR GG [.bool] r.1).trans (by kernel_rfl)

theorem s_l03Shape_L27_eq (x0 : Int) (x1 : Int) (x2 : (List UInt8)) (x3 : (List TExpr)) (x4 : Bool) (x5 : Int) : s_l03Shape_L27 x0 x1 x2 x3 x4 x5 = if (x5 == 12) = true then if (len x3 == 2) = true then ((idx x3 1) : Option TExpr).bind fun y198 => if (y198.fKind != 3) = true then s_l03Shape_L31 else s_l03Shape_L32 x0 x1 x2 x3 2 x4 else s_l03Shape_L32 x0 x1 x2 x3 2 x4 else if (x5 == 13) = true then if (len x3 == 2) = true then ((idx x3 1) : Option TExpr).bind fun y197 => if (y197.fKind != 3) = true then s_l03Shape_L31 else s_l03Shape_L32 x0 x1 x2 x3 2 x4 else s_l03Shape_L32 x0 x1 x2 x3 2 x4 else some (false) :=
  (den_run CC 143 (lbl CC 143 27) ⟨tmOf [(0, .pc [.int .i64 x0, .int .i64 x1, .str x2, .sl (.st 50) x3]), (4, .bool x4), (8, .int .i64 x5)] 0 145, [], 0⟩ fun r => prjR GG [.bool] r.1).trans (by kernel_rfl)

theorem i_isNameByte_eq (x0 : Int) : i_isNameByte x0 = (i_isLetter x0).bind fun r200 => if r200 = true then some (true) else (i_isDigit x0).bind fun r198 => if r198 = true then some (true) else some (x0 == 95) :=
  (den_run CC 147 (bodyT CC 147) ⟨tmOf [(0, .int .u8 x0)] 0 13, [], 0⟩ fun r => prjR GG [.bool] r.1).trans (by kernel_rfl)

theorem s_l03Same_L4_eq (x0 : Int) (x1 : Int) (x2 : (List UInt8)) (x3 : (List TExpr)) (x4 : Int) (x5 : Int) (x6 : (List UInt8)) (x7 : (List TExpr)) (x8 : Int) : s_l03Same_L4 x0 x1 x2 x3 x4 x5 x6 x7 x8 = if (decide (x8 < len x3)) = true then ((idx x3 x8) : Option TExpr).bind fun y199 => ((idx x7 x8) : Option TExpr).bind fun y198 => (s_l03Same y199.fKind y199.fNum y199.fText y199.fKids y198.fKind y198.fNum y198.fText y198.fKids).bind fun r197 => if (!r197) = true then some (false) else s_l03Same_L4 x0 x1 x2 x3 x4 x5 x6 x7 (w64 (x8 + 1)) else some (true) :=
  (den_run CC 180 (lbl CC 180 4) ⟨tmOf [(0, .pc [.int .i64 x0, .int .i64 x1, .str x2, .sl (.st 50) x3]), (1, .pc [.int .i64 x4, .int .i64 x5, .str x6, .sl (.st 50) x7]), (5, .int .i64 x8)] 0 73, [], 0⟩ fun r => prjR GG [.bool] r.1).trans (by kernel_rfl)

theorem s_l02One_L11_eq (x0 : (List UInt8)) (x1 : Int) (x2 : Int) (x3 : Int) (x4 : Int) (x5 : Int) (x6 : (List UInt8)) (x7 : Bool) (x8 : Bool) : s_l02One_L11 x0 x1 x2 x3 x4 x5 x6 x7 x8 = ((idx x0 x3) : Option UInt8).bind fun y200 => s_l02One_L10 x0 x1 (w64 (w64 (10 * x2) + w64 (Go.IntKind.wrap Go.IntKind.u8 (ib y200 - 48)))) (w64 (x3 + 1)) x4 x5 x6 x7 x8 :=
  (den_run CC 156 (lbl CC 156 11) ⟨tmOf [(0, .str x0), (1, .int .i64 x1), (4, .ref 0 0), (8, .int .i64 x2), (9, .int .i64 x3)] 0 145, [.box 147 [.int .i64 x4, .int .i64 x5, .str x6, .bool x7, .bool x8] false], 0⟩ fun r => prjR GG [(.st 146), (.int .i64)] r.1).trans (by kernel_rfl)

theorem s_l02One_L13_eq (x0 : Int) (x1 : Int) (x2 : Int) (x3 : Int) (x4 : Int) (x5 : (List UInt8)) (x6 : Bool) (x7 : Bool) : s_l02One_L13 x0 x1 x2 x3 x4 x5 x6 x7 = if (decide (w64 (x2 - x0) > 13)) = true then some ((TToken.mk (Int.ofNat 0) (Int.ofNat 0) [] false false), (-1)) else if (decide (x1 > 1000000000000)) = true then some ((TToken.mk (Int.ofNat 0) (Int.ofNat 0) [] false false), (-1)) else some ((TToken.mk (Int.ofNat 2) x1 [] false false), x2) :=
  (den_run CC 156 (lbl CC 156 13) ⟨tmOf [(1, .int .i64 x0), (4, .ref 0 0), (8, .int .i64 x1), (9, .int .i64 x2)] 0 145, [.box 147 [.int .i64 x3, .int .i64 x4, .str x5, .bool x6, .bool x7] false], 0⟩ fun r => prjR GG [(.st 146), (.int .i64)] r.1).trans (by kernel_rfl)

theorem s_l02One_L21_eq (x0 : Int) (x1 : Int) (x2 : (List UInt8)) (x3 : Bool) (x4 : Bool) : s_l02One_L21 x0 x1 x2 x3 x4 = some ((TToken.mk (Int.ofNat 0) (Int.ofNat 0) [] false false), (-1)) :=
  (den_run CC 156 (lbl CC 156 21) ⟨tmOf [(4, .ref 0 0)] 0 145, [.box 147 [.int .i64 x0, .int .i64 x1, .str x2, .bool x3, .bool x4] false], 0⟩ fun r => prjR GG [(.st 146), (.int .i64)] r.1).trans (by kernel_rfl)

theorem s_l02One_L22_eq (x0 : (List UInt8)) (x1 : Int) (x2 : Int) (x3 : Int) (x4 : Int) (x5 : (List UInt8)) (x6 : Bool) (x7 : Bool) : s_l02One_L22 x0 x1 x2 x3 x4 x5 x6 x7 = ((cut x0 (w64 (x1 + 1)) (Option.getD (Option.some x2) (len x0))) : Option (List UInt8)).bind fun y200 => some ((TToken.mk (Int.ofNat 3) (Int.ofNat 0) y200 false false), (w64 (x2 + 1))) :=
  (den_run CC 156 (lbl CC 156 22) ⟨tmOf [(0, .str x0), (1, .int .i64 x1), (4, .ref 0 0), (10, .int .i64 x2)] 0 145, [.box 147 [.int .i64 x3, .int .i64 x4, .str x5, .bool x6, .bool x7] false], 0⟩ fun r => prjR GG [(.st 146), (.int .i64)] r.1).trans (by kernel_rfl)

theorem s_l02Operator_L11_eq : s_l02Operator_L11 = some (true) :=
  (den_run CC 182 (lbl CC 182 11) ⟨tmOf [] 0 14, [], 0⟩ fun r => prjR GG [.bool] r.1).trans (by kernel_rfl)

theorem s_l02Operator_L12_eq : s_l02Operator_L12 = some (false) :=
  (den_run CC 182 (lbl CC 182 12) ⟨tmOf [] 0 14, [], 0⟩ fun r => prjR GG [.bool] r.1).trans (by kernel_rfl)

theorem i_Expr_hasFields_eq (x0 : TExpr) : i_Expr_hasFields x0 = if (x0.fKind == 1) = true then if (len x0.fKids == 0) = true then if (x0.fNum == 0) = true then (i_CanQuote x0.fText).bind fun r197 => some r197 else some (false) else some (false) else if (x0.fKind == 2) = true then if (len x0.fKids == 0) = true then if (x0.fText == []) = true then (i_isNumber x0.fNum).bind fun r196 => some r196 else some (false) else some (false) else if (x0.fKind == 3) = true then if (len x0.fKids == 0) = true then if (x0.fNum == 0) = true then (i_IsName x0.fText).bind fun r195 => some r195 else some (false) else some (false) else (i_isNamed x0.fKind).bind fun r197 => if r197 = true then if (len x0.fKids == 0) = true then if (x0.fNum == 0) = true then (i_IsName x0.fText).bind fun r193 => some r193 else some (false) else some (false) else if (x0.fKind == 4) = true then if (decide (len x0.fKids ≤ 6)) = true then if (x0.fNum == 0) = true then (i_IsName x0.fText).bind fun r192 => some r192 else some (false) else some (false) else if (x0.fNum != 0) = true then i_Expr_hasFields_L11 else if (!x0.fText == []) = true then i_Expr_hasFields_L11 else i_Expr_hasFields_L12 (len x0.fKids) x0.fKind x0.fNum x0.fText x0.fKids :=
  (den_run CC 183 (bodyT CC 183) ⟨tmOf [(0, .st 50 x0)] 0 116, [], 0⟩ fun r => prjR GG [.bool] r.1).trans (by kernel_rfl)

theorem i_countNodes_L5_eq (x0 : Int) (x1 : (List TExpr)) (x2 : Int) (x3 : Int) : i_countNodes_L5 x0 x1 x2 x3 = if (decide (x3 < x2)) = true then ((idx x1 x3) : Option TExpr).bind fun y199 => (i_countNodes y199.re x0).bind fun r198 => if (decide (r198 > 60)) = true then some r198 else i_countNodes_L5 r198 x1 x2 (w64 (x3 + 1)) else some x0 :=
  (den_run CC 157 (lbl CC 157 5) ⟨tmOf [(1, .int .i64 x0), (17, .sl (.st 50) x1), (18, .int .i64 x2), (19, .int .i64 x3)] 0 30, [], 0⟩ fun r => prjR GG [(.int .i64)] r.1).trans (by kernel_rfl)

theorem slices_EqualFunc___i_Expr___i_Expr_i_Expr_i_Expr__L4__i_SameExpr_eq (x0 : (List TExpr)) (x1 : (List TExpr)) (x2 : Int) (x3 : Int) : slices_EqualFunc___i_Expr___i_Expr_i_Expr_i_Expr__L4__i_SameExpr x0 x1 x2 x3 = if (decide (x3 < x2)) = true then ((idx x1 x3) : Option TExpr).bind fun y199 => ((idx x0 x3) : Option TExpr).bind fun y198 => (i_SameExpr y199.re y198.re).bind fun r197 => if (!r197) = true then some (false) else slices_EqualFunc___i_Expr___i_Expr_i_Expr_i_Expr__L4__i_SameExpr x0 x1 x2 (w64 (x3 + 1)) else some (true) :=
  (den_run CC 158 (lbl CC 158 4) ⟨tmOf [(1, .sl (.st 50) x0), (2, .fn 121 []), (15, .sl (.st 50) x1), (16, .int .i64 x2), (17, .int .i64 x3)] 0 32, [], 0⟩ fun r => prjR GG [.bool] r.1).trans (by kernel_rfl)

theorem internal_stringslite_TrimPrefix_eq (x0 : (List UInt8)) (x1 : (List UInt8)) : internal_stringslite_TrimPrefix x0 x1 = (internal_stringslite_HasPrefix x0 x1).bind fun r200 => if r200 = true then ((cut x0 (len x1) (Option.getD Option.none (len x0))) : Option (List UInt8)).bind fun y198 => some y198 else some x0 :=
  (den_run CC 129 (bodyT CC 129) ⟨tmOf [(0, .str x0), (1, .str x1)] 0 13, [], 0⟩ fun r => prjR GG [.str] r.1).trans (by kernel_rfl)

theorem i_isPlainText_eq (x0 : (List UInt8)) : i_isPlainText x0 = (i_areAll_byte__i_isPlain (List.map (fun (b : UInt8) ↦ ib b) x0)).bind fun r200 => some r200 :=
  (den_run CC 125 (bodyT CC 125) ⟨tmOf [(0, .str x0)] 0 6, [], 0⟩ fun r => prjR GG [.bool] r.1).trans (by kernel_rfl)

theorem i_ScanTokens_L5_eq (x0 : (List UInt8)) (x1 : Int) (x2 : (List TToken)) : i_ScanTokens_L5 x0 x1 x2 = if (decide (x1 < len x0)) = true then (i_span__i_ScanTokens_c1 x0 x1).bind fun r199 => if (w64 (x1 + r199) == len x0) = true then some ((x2), 0, 0) else (i_scanToken x0 (w64 (x1 + r199))).bind fun r197 => (i_unless (Prod.snd (Prod.snd r197)) 2).bind fun r196 => (i_unless (decide (len x2 < 120)) 6).bind fun r195 => (i_first ([r196, r195])).bind fun r194 => if (r194 != 0) = true then some (([]), (w64 (x1 + r199)), r194) else if (decide (r199 > 0)) = true then if (w64 (w64 (x1 + r199) + Prod.fst (Prod.snd r197)) == len x0) = true then i_ScanTokens_L16 x0 (w64 (w64 (x1 + r199) + Prod.fst (Prod.snd r197))) x2 (TToken.fKind (Prod.fst r197)) (TToken.fNum (Prod.fst r197)) (TToken.fText (Prod.fst r197)) (true) (true) else ((idx x0 (w64 (w64 (x1 + r199) + Prod.fst (Prod.snd r197)))) : Option UInt8).bind fun y190 => i_ScanTokens_L16 x0 (w64 (w64 (x1 + r199) + Prod.fst (Prod.snd r197))) x2 (TToken.fKind (Prod.fst r197)) (TToken.fNum (Prod.fst r197)) (TToken.fText (Prod.fst r197)) (true) (ib y190 == 32) else if (w64 (w64 (x1 + r199) + Prod.fst (Prod.snd r197)) == len x0) = true then i_ScanTokens_L16 x0 (w64 (w64 (x1 + r199) + Prod.fst (Prod.snd r197))) x2 (TToken.fKind (Prod.fst r197)) (TToken.fNum (Prod.fst r197)) (TToken.fText (Prod.fst r197)) (len x2 == 0) (true) else ((idx x0 (w64 (w64 (x1 + r199) + Prod.fst (Prod.snd r197)))) : Option UInt8).bind fun y190 => i_ScanTokens_L16 x0 (w64 (w64 (x1 + r199) + Prod.fst (Prod.snd r197))) x2 (TToken.fKind (Prod.fst r197)) (TToken.fNum (Prod.fst r197)) (TToken.fText (Prod.fst r197)) (len x2 == 0) (ib y190 == 32) else some ((x2), 0, 0) :=
  (den_run CC 93 (lbl CC 93 5) ⟨tmOf [(0, .str x0), (5, .arr 0), (6, .int .i64 x1)] 0 81, [.arr 147 (.st 146) x2 false], 0⟩ fun r => prjR GG [(.sl (.st 146)), (.int .i64), (.int .i64)] r.1).trans (by kernel_rfl)

theorem i_level_L20_eq : i_level_L20 = some 6 :=
  (den_run CC 159 (lbl CC 159 20) ⟨tmOf [] 0 23, [], 0⟩ fun r => prjR GG [(.int .i64)] r.1).trans (by kernel_rfl)

theorem i_level_L21_eq : i_level_L21 = some 7 :=
  (den_run CC 159 (lbl CC 159 21) ⟨tmOf [] 0 23, [], 0⟩ fun r => prjR GG [(.int .i64)] r.1).trans (by kernel_rfl)

theorem s_l03Shape_L31_eq : s_l03Shape_L31 = some (false) :=
  (den_run CC 143 (lbl CC 143 31) ⟨tmOf [] 0 145, [], 0⟩ fun r => prjR GG [.bool] r.1).trans (by kernel_rfl)

theorem i_isDigit_eq (x0 : Int) : i_isDigit x0 = if (decide (x0 ≥ 48)) = true then some (decide (x0 ≤ 57)) else some (false) :=
  (den_run CC 165 (bodyT CC 165) ⟨tmOf [(0, .int .u8 x0)] 0 9, [], 0⟩ fun r => prjR GG [.bool] r.1).trans (by kernel_rfl)

theorem i_isNumber_eq (x0 : Int) : i_isNumber x0 = (i_within x0 0 1000000000000).bind fun r200 => some r200 :=
  (den_run CC 189 (bodyT CC 189) ⟨tmOf [(0, .int .i64 x0)] 0 5, [], 0⟩ fun r => prjR GG [.bool] r.1).trans (by kernel_rfl)

theorem i_Expr_hasFields_L11_eq : i_Expr_hasFields_L11 = some (false) :=
  (den_run CC 183 (lbl CC 183 11) ⟨tmOf [] 0 116, [], 0⟩ fun r => prjR GG [.bool] r.1).trans (by kernel_rfl)

theorem i_Expr_hasFields_L12_eq (x0 : Int) (x1 : Int) (x2 : Int) (x3 : (List UInt8)) (x4 : (List TExpr)) : i_Expr_hasFields_L12 x0 x1 x2 x3 x4 = if (x1 == 12) = true then if (x0 == 2) = true then ((idx x4 1) : Option TExpr).bind fun y198 => some (y198.fKind == 3) else some (false) else if (x1 == 13) = true then if (x0 == 2) = true then ((idx x4 1) : Option TExpr).bind fun y197 => some (y197.fKind == 3) else some (false) else if (x1 == 14) = true then i_Expr_hasFields_L18 x0 else if (x1 == 15) = true then i_Expr_hasFields_L18 x0 else i_Expr_hasFields_L19 x0 x1 x2 x3 x4 :=
  (den_run CC 183 (lbl CC 183 12) ⟨tmOf [(1, .ref 0 0), (3, .int .i64 x0)] 0 116, [.box 51 [.int .i64 x1, .int .i64 x2, .str x3, .sl (.st 50) x4] false], 0⟩ fun r => prjR GG [.bool] r.1).trans (by kernel_rfl)

theorem internal_stringslite_HasPrefix_eq (x0 : (List UInt8)) (x1 : (List UInt8)) : internal_stringslite_HasPrefix x0 x1 = if (decide (len x0 ≥ len x1)) = true then ((cut x0 0 (Option.getD (Option.some (len x1)) (len x0))) : Option (List UInt8)).bind fun y199 => some (y199 == x1) else some (false) :=
  (den_run CC 169 (bodyT CC 169) ⟨tmOf [(0, .str x0), (1, .str x1)] 0 18, [], 0⟩ fun r => prjR GG [.bool] r.1).trans (by kernel_rfl)

theorem i_areAll_byte__i_isPlain_eq (x0 : (List Int)) : i_areAll_byte__i_isPlain x0 = i_areAll_byte_L2__i_isPlain x0 (len x0) 0 :=
  (den_run CC 146 (bodyT CC 146) ⟨tmOf [(0, .sl (.int .u8) x0), (1, .fn 164 [])] 0 18, [], 0⟩ fun r => prjR GG [.bool] r.1).trans (by kernel_rfl)

theorem i_span__i_ScanTokens_c1_eq (x0 : (List UInt8)) (x1 : Int) : i_span__i_ScanTokens_c1 x0 x1 = i_span_L2__i_ScanTokens_c1 x0 x1 x1 :=
  (den_run CC 126 (bodyT CC 126) ⟨tmOf [(0, .str x0), (1, .int .i64 x1), (2, .fn 127 [])] 0 25, [], 0⟩ fun r => prjR GG [(.int .i64)] r.1).trans (by kernel_rfl)

theorem i_scanToken_eq (x0 : (List UInt8)) (x1 : Int) : i_scanToken x0 x1 = ((idx x0 x1) : Option UInt8).bind fun y200 => (i_isLetter (ib y200)).bind fun r199 => if r199 = true then (i_span__i_isNameByte x0 x1).bind fun r197 => ((cut x0 x1 (Option.getD (Option.some (w64 (x1 + r197))) (len x0))) : Option (List UInt8)).bind fun y196 => some ((TToken.mk (Int.ofNat 1) (Int.ofNat 0) y196 false false), (r197), (decide (r197 ≤ 12))) else (i_isDigit (ib y200)).bind fun r197 => if r197 = true then (i_span__i_isDigit x0 x1).bind fun r195 => ((cut x0 x1 (Option.getD (Option.some (w64 (x1 + r195))) (len x0))) : Option (List UInt8)).bind fun y194 => ((readIntS y194) : Option (Int × Bool)).bind fun y193 => some ((TToken.mk (Int.ofNat 2) (Prod.fst y193) [] false false), (r195), (Prod.snd y193)) else if (ib y200 == 39) = true then (i_span__i_scanToken_c1 x0 (w64 (x1 + 1)) (ib y200)).bind fun r194 => ((cut x0 (w64 (x1 + 1)) (Option.getD (Option.some (w64 (w64 (x1 + 1) + r194))) (len x0))) : Option (List UInt8)).bind fun y193 => if (decide (w64 (w64 (x1 + 1) + r194) < len x0)) = true then some ((TToken.mk (Int.ofNat 3) (Int.ofNat 0) y193 false false), (w64 (r194 + 2)), (decide (r194 ≤ 200))) else some ((TToken.mk (Int.ofNat 3) (Int.ofNat 0) y193 false false), (w64 (r194 + 2)), (false)) else if (ib y200 == 34) = true then (i_span__i_scanToken_c1 x0 (w64 (x1 + 1)) (ib y200)).bind fun r193 => ((cut x0 (w64 (x1 + 1)) (Option.getD (Option.some (w64 (w64 (x1 + 1) + r193))) (len x0))) : Option (List UInt8)).bind fun y192 => if (decide (w64 (w64 (x1 + 1) + r193) < len x0)) = true then some ((TToken.mk (Int.ofNat 3) (Int.ofNat 0) y192 false false), (w64 (r193 + 2)), (decide (r193 ≤ 200))) else some ((TToken.mk (Int.ofNat 3) (Int.ofNat 0) y192 false false), (w64 (r193 + 2)), (false)) else ((indexByteS ([43, 45, 42, 47, 124, 46, 36, 64, 61]) (ib y200)) : Option Int).bind fun y193 => if (decide (y193 ≥ 0)) = true then ((chr (ib y200)) : Option (List UInt8)).bind fun y191 => some ((TToken.mk (Int.ofNat 4) (Int.ofNat 0) y191 false false), 1, (true)) else ((indexByteS ([40, 41, 60, 62, 44, 58]) (ib y200)) : Option Int).bind fun y191 => some ((TToken.mk (w64 (5 + y191)) (Int.ofNat 0) [] false false), 1, (decide (y191 ≥ 0))) :=
  (den_run CC 128 (bodyT CC 128) ⟨tmOf [(0, .str x0), (1, .int .i64 x1)] 0 101, [], 0⟩ fun r => prjR GG [(.st 146), (.int .i64), .bool] r.1).trans (by kernel_rfl)

theorem i_ScanTokens_L16_eq (x0 : (List UInt8)) (x1 : Int) (x2 : (List TToken)) (x3 : Int) (x4 : Int) (x5 : (List UInt8)) (x6 : Bool) (x7 : Bool) : i_ScanTokens_L16 x0 x1 x2 x3 x4 x5 x6 x7 = ((app x2 [TToken.mk x3 x4 x5 x6 x7]) : Option (List TToken)).bind fun y200 => i_ScanTokens_L5 x0 x1 y200 :=
  (den_run CC 93 (lbl CC 93 16) ⟨tmOf [(0, .str x0), (5, .arr 0), (6, .int .i64 x1), (8, .ref 1 0)] 0 81, [.arr 147 (.st 146) x2 false, .box 147 [.int .i64 x3, .int .i64 x4, .str x5, .bool x6, .bool x7] false], 0⟩ fun r => prjR GG [(.sl (.st 146)), (.int .i64), (.int .i64)] r.1).trans (by kernel_rfl)

theorem i_Expr_hasFields_L18_eq (x0 : Int) : i_Expr_hasFields_L18 x0 = some (x0 == 1) :=
  (den_run CC 183 (lbl CC 183 18) ⟨tmOf [(3, .int .i64 x0)] 0 116, [], 0⟩ fun r => prjR GG [.bool] r.1).trans (by kernel_rfl)

theorem i_Expr_hasFields_L19_eq (x0 : Int) (x1 : Int) (x2 : Int) (x3 : (List UInt8)) (x4 : (List TExpr)) : i_Expr_hasFields_L19 x0 x1 x2 x3 x4 = if (x0 == 2) = true then if (x1 == 5) = true then some (true) else (i_isBinary x1).bind fun r198 => some r198 else some (false) :=
  (den_run CC 183 (lbl CC 183 19) ⟨tmOf [(1, .ref 0 0), (3, .int .i64 x0)] 0 116, [.box 51 [.int .i64 x1, .int .i64 x2, .str x3, .sl (.st 50) x4] false], 0⟩ fun r => prjR GG [.bool] r.1).trans (by kernel_rfl)

theorem i_areAll_byte_L2__i_isPlain_eq (x0 : (List Int)) (x1 : Int) (x2 : Int) : i_areAll_byte_L2__i_isPlain x0 x1 x2 = if (decide (x2 < x1)) = true then ((idx x0 x2) : Option Int).bind fun y199 => (i_isPlain y199).bind fun r198 => if (!r198) = true then some (false) else i_areAll_byte_L2__i_isPlain x0 x1 (w64 (x2 + 1)) else some (true) :=
  (den_run CC 146 (lbl CC 146 2) ⟨tmOf [(1, .fn 164 []), (7, .sl (.int .u8) x0), (8, .int .i64 x1), (9, .int .i64 x2)] 0 18, [], 0⟩ fun r => prjR GG [.bool] r.1).trans (by kernel_rfl)

theorem i_span_L2__i_ScanTokens_c1_eq (x0 : (List UInt8)) (x1 : Int) (x2 : Int) : i_span_L2__i_ScanTokens_c1 x0 x1 x2 = if (decide (x2 < len x0)) = true then ((idx x0 x2) : Option UInt8).bind fun y199 => (i_ScanTokens_c1 (ib y199)).bind fun r198 => if r198 = true then i_span_L2__i_ScanTokens_c1 x0 x1 (w64 (x2 + 1)) else some (w64 (x2 - x1)) else some (w64 (x2 - x1)) :=
  (den_run CC 126 (lbl CC 126 2) ⟨tmOf [(0, .str x0), (1, .int .i64 x1), (2, .fn 127 []), (7, .int .i64 x2)] 0 25, [], 0⟩ fun r => prjR GG [(.int .i64)] r.1).trans (by kernel_rfl)

theorem i_span__i_isNameByte_eq (x0 : (List UInt8)) (x1 : Int) : i_span__i_isNameByte x0 x1 = i_span_L2__i_isNameByte x0 x1 x1 :=
  (den_run CC 126 (bodyT CC 126) ⟨tmOf [(0, .str x0), (1, .int .i64 x1), (2, .fn 147 [])] 0 25, [], 0⟩ fun r => prjR GG [(.int .i64)] r.1).trans (by kernel_rfl)

theorem i_span__i_isDigit_eq (x0 : (List UInt8)) (x1 : Int) : i_span__i_isDigit x0 x1 = i_span_L2__i_isDigit x0 x1 x1 :=
  (den_run CC 126 (bodyT CC 126) ⟨tmOf [(0, .str x0), (1, .int .i64 x1), (2, .fn 165 [])] 0 25, [], 0⟩ fun r => prjR GG [(.int .i64)] r.1).trans (by kernel_rfl)

theorem i_span__i_scanToken_c1_eq (x0 : (List UInt8)) (x1 : Int) (x2 : Int) : i_span__i_scanToken_c1 x0 x1 x2 = i_span_L2__i_scanToken_c1 x0 x1 x2 x1 :=
  (den_run CC 126 (bodyT CC 126) ⟨tmOf [(0, .str x0), (1, .int .i64 x1), (2, .fn 167 [.pc [.int .u8 x2]])] 0 25, [], 0⟩ fun r => prjR GG [(.int .i64)] r.1).trans (by kernel_rfl)

theorem i_isBinary_eq (x0 : Int) : i_isBinary x0 = (i_within x0 6 13).bind fun r200 => some r200 :=
  (den_run CC 192 (bodyT CC 192) ⟨tmOf [(0, .int .i64 x0)] 0 5, [], 0⟩ fun r => prjR GG [.bool] r.1).trans (by kernel_rfl)

theorem i_isPlain_eq (x0 : Int) : i_isPlain x0 = if (decide (x0 ≥ 32)) = true then some (decide (x0 ≤ 126)) else some (false) :=
  (den_run CC 164 (bodyT CC 164) ⟨tmOf [(0, .int .u8 x0)] 0 9, [], 0⟩ fun r => prjR GG [.bool] r.1).trans (by kernel_rfl)

theorem i_ScanTokens_c1_eq (x0 : Int) : i_ScanTokens_c1 x0 = some (x0 == 32) :=
  (den_run CC 127 (bodyT CC 127) ⟨tmOf [(0, .int .u8 x0)] 0 5, [], 0⟩ fun r => prjR GG [.bool] r.1).trans (by kernel_rfl)

theorem i_span_L2__i_isNameByte_eq (x0 : (List UInt8)) (x1 : Int) (x2 : Int) : i_span_L2__i_isNameByte x0 x1 x2 = if (decide (x2 < len x0)) = true then ((idx x0 x2) : Option UInt8).bind fun y199 => (i_isNameByte (ib y199)).bind fun r198 => if r198 = true then i_span_L2__i_isNameByte x0 x1 (w64 (x2 + 1)) else some (w64 (x2 - x1)) else some (w64 (x2 - x1)) :=
  (den_run CC 126 (lbl CC 126 2) ⟨tmOf [(0, .str x0), (1, .int .i64 x1), (2, .fn 147 []), (7, .int .i64 x2)] 0 25, [], 0⟩ fun r => prjR GG [(.int .i64)] r.1).trans (by kernel_rfl)

theorem i_span_L2__i_isDigit_eq (x0 : (List UInt8)) (x1 : Int) (x2 : Int) : i_span_L2__i_isDigit x0 x1 x2 = if (decide (x2 < len x0)) = true then ((idx x0 x2) : Option UInt8).bind fun y199 => (i_isDigit (ib y199)).bind fun r198 => if r198 = true then i_span_L2__i_isDigit x0 x1 (w64 (x2 + 1)) else some (w64 (x2 - x1)) else some (w64 (x2 - x1)) :=
  (den_run CC 126 (lbl CC 126 2) ⟨tmOf [(0, .str x0), (1, .int .i64 x1), (2, .fn 165 []), (7, .int .i64 x2)] 0 25, [], 0⟩ fun r => prjR GG [(.int .i64)] r.1).trans (by kernel_rfl)

theorem i_span_L2__i_scanToken_c1_eq (x0 : (List UInt8)) (x1 : Int) (x2 : Int) (x3 : Int) : i_span_L2__i_scanToken_c1 x0 x1 x2 x3 = if (decide (x3 < len x0)) = true then ((idx x0 x3) : Option UInt8).bind fun y199 => (i_scanToken_c1 (ib y199) x2).bind fun r198 => if r198 = true then i_span_L2__i_scanToken_c1 x0 x1 x2 (w64 (x3 + 1)) else some (w64 (x3 - x1)) else some (w64 (x3 - x1)) :=
  (den_run CC 126 (lbl CC 126 2) ⟨tmOf [(0, .str x0), (1, .int .i64 x1), (2, .fn 167 [.pc [.int .u8 x2]]), (7, .int .i64 x3)] 0 25, [], 0⟩ fun r => prjR GG [(.int .i64)] r.1).trans (by kernel_rfl)

theorem i_scanToken_c1_eq (x0 : Int) (x1 : Int) : i_scanToken_c1 x0 x1 = some (x0 != x1) :=
  (den_run CC 167 (bodyT CC 167) ⟨tmOf [(0, .int .u8 x0), (1, .pc [.int .u8 x1])] 0 7, [], 0⟩ fun r => prjR GG [.bool] r.1).trans (by kernel_rfl)
end Go.Dv.U
