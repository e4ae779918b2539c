/- The functions of the program as equations on plain data, each checked by the kernel. -/
import Derived.Test.YthifliapgmalpaaExa
set_option linter.all false
set_option linter.unusedVariables false
set_option linter.unusedSimpArgs false
namespace Go.Dv.U
open Go Go.Dv Go.Proofs
set_option maxRecDepth 100000
noncomputable def l_FnExactNamesIn (x0 : TExpr) : Option (Bool) := (Den CC 4 (bodyT CC 4) ⟨tmOf [(0, .st 23 x0)] 0 69, [], 0⟩).bind fun r => prjR GG [.bool] r.1

noncomputable def l_szExpr (x0 : TExpr) (x1 : Int) : Option (Int) := (Den CC 5 (bodyT CC 5) ⟨tmOf [(0, .st 23 x0), (1, .int .i64 x1)] 0 19, [], 0⟩).bind fun r => prjR GG [(.int .i64)] r.1

noncomputable def l_toExpr_v1 (x0 : TExpr) : Option (((Int × Int × (List UInt8) × (List TExpr) × Unit) × Unit)) := (Den CC 7 (bodyT CC 7) ⟨tmOf [(0, .st 23 x0)] 0 18, [], 0⟩).bind fun r => prjO GG [(true, [.im (.int .i64), .im (.int .i64), .im .str, .tw 30 (.st 23)])] r

noncomputable def l_eqStringS (x0 : (List (List UInt8))) (x1 : (List (List UInt8))) : Option (Bool) := (Den CC 9 (bodyT CC 9) ⟨tmOf [(0, .sl .str x0), (1, .sl .str x1)] 0 26, [], 0⟩).bind fun r => prjR GG [.bool] r.1

noncomputable def l_eqExpr (x0 : TExpr) (x1 : TExpr) : Option (Bool) := (Den CC 10 (bodyT CC 10) ⟨tmOf [(0, .st 23 x0), (1, .st 23 x1)] 0 26, [], 0⟩).bind fun r => prjR GG [.bool] r.1

noncomputable def l_markExpr (x0 : Int) (x1 : Int) (x2 : (List UInt8)) (x3 : Int) (x4 : (List TExpr)) : Option ((Int) × ((List TExpr) × Unit)) := (Den CC 11 (bodyT CC 11) ⟨tmOf [(0, .ag [.int .i64 x0, .int .i64 x1, .str x2, .arr 0]), (1, .int .i64 x3)] 0 10, [.tr 30 (.st 23) x4 []], 1⟩).bind fun r => prjW GG [(.int .i64)] [.tw 30 (.st 23)] r

noncomputable def l_markStringS (x0 : Int) (x1 : (List (List UInt8))) : Option ((Int) × ((List (List UInt8)) × Unit)) := (Den CC 12 (bodyT CC 12) ⟨tmOf [(0, .arr 0), (1, .int .i64 x0)] 0 20, [.arr 9 .str x1 false], 1⟩).bind fun r => prjW GG [(.int .i64)] [.ow 9 .str] r

noncomputable def l_heldStringS (x0 : (List (List UInt8))) (x1 : Int) : Option (Int) := (Den CC 13 (bodyT CC 13) ⟨tmOf [(0, .sl .str x0), (1, .int .i64 x1)] 0 22, [], 0⟩).bind fun r => prjR GG [(.int .i64)] r.1

noncomputable def s_NamesIn (x0 : TExpr) : Option ((List (List UInt8))) := (Den CC 14 (bodyT CC 14) ⟨tmOf [(0, .st 23 x0)] 0 8, [], 0⟩).bind fun r => prjR GG [(.sl .str)] r.1

noncomputable def i_NamesIn (x0 : TExpr) : Option ((((List (List UInt8)) × Unit) × Unit)) := (Den CC 15 (bodyT CC 15) ⟨tmOf [(0, .st 23 x0)] 0 8, [], 0⟩).bind fun r => prjO GG [(false, [.ow 9 .str])] r

noncomputable def l_szExprS (x0 : (List TExpr)) (x1 : Int) : Option (Int) := (Den CC 16 (bodyT CC 16) ⟨tmOf [(0, .sl (.st 23) x0), (1, .int .i64 x1)] 0 27, [], 0⟩).bind fun r => prjR GG [(.int .i64)] r.1

noncomputable def l_toExprS_v1 (x0 : (List TExpr)) : Option ((((List TExpr) × Unit) × Unit)) := (Den CC 19 (bodyT CC 19) ⟨tmOf [(0, .sl (.st 23) x0)] 0 23, [], 0⟩).bind fun r => prjO GG [(false, [.tw 30 (.st 23)])] r

noncomputable def s_l03Ok (x0 : Int) (x1 : Int) (x2 : (List UInt8)) (x3 : (List TExpr)) : Option (Bool) := (Den CC 17 (bodyT CC 17) ⟨tmOf [(0, .pc [.int .i64 x0, .int .i64 x1, .str x2, .sl (.st 23) x3])] 0 10, [], 0⟩).bind fun r => prjR GG [.bool] r.1

noncomputable def s_l03Names (x0 : Int) (x1 : Int) (x2 : (List UInt8)) (x3 : (List TExpr)) (x4 : Bool) (x5 : (List (List UInt8))) : Option ((List (List UInt8))) := (Den CC 18 (bodyT CC 18) ⟨tmOf [(0, .pc [.int .i64 x0, .int .i64 x1, .str x2, .sl (.st 23) x3]), (1, .bool x4), (2, .sl .str x5)] 0 54, [], 0⟩).bind fun r => prjR GG [(.sl .str)] r.1

noncomputable def i_ValidExpr (x0 : TExpr) : Option (Bool) := (Den CC 20 (bodyT CC 20) ⟨tmOf [(0, .st 23 x0)] 0 6, [], 0⟩).bind fun r => prjR GG [.bool] r.1

noncomputable def i_namesOf (x0 : TExpr) (x1 : Bool) : Option ((((List (List UInt8)) × Unit) × Unit)) := (Den CC 21 (bodyT CC 21) ⟨tmOf [(0, .st 23 x0), (1, .bool x1)] 0 12, [], 0⟩).bind fun r => prjO GG [(false, [.ow 9 .str])] r

noncomputable def l_eqStringS_L4 (x0 : (List (List UInt8))) (x1 : (List (List UInt8))) (x2 : Int) : Option (Bool) := (Den CC 9 (lbl CC 9 4) ⟨tmOf [(0, .sl .str x0), (1, .sl .str x1), (5, .int .i64 x2)] 0 26, [], 0⟩).bind fun r => prjR GG [.bool] r.1

noncomputable def l_eqExprS (x0 : (List TExpr)) (x1 : (List TExpr)) : Option (Bool) := (Den CC 22 (bodyT CC 22) ⟨tmOf [(0, .sl (.st 23) x0), (1, .sl (.st 23) x1)] 0 27, [], 0⟩).bind fun r => prjR GG [.bool] r.1

noncomputable def l_markExprS (x0 : Int) (x1 : (List TExpr)) : Option ((Int) × ((List TExpr) × Unit)) := (Den CC 23 (bodyT CC 23) ⟨tmOf [(0, .arr 0), (1, .int .i64 x0)] 0 42, [.tr 30 (.st 23) x1 []], 1⟩).bind fun r => prjW GG [(.int .i64)] [.tw 30 (.st 23)] r

noncomputable def l_markStringS_L2 (x0 : Int) (x1 : Int) (x2 : (List (List UInt8))) : Option ((Int) × ((List (List UInt8)) × Unit)) := (Den CC 12 (lbl CC 12 2) ⟨tmOf [(0, .arr 0), (1, .int .i64 x0), (5, .int .i64 x1)] 0 20, [.arr 9 .str x2 false], 1⟩).bind fun r => prjW GG [(.int .i64)] [.ow 9 .str] r

noncomputable def l_heldStringS_L2 (x0 : (List (List UInt8))) (x1 : Int) (x2 : Int) : Option (Int) := (Den CC 13 (lbl CC 13 2) ⟨tmOf [(0, .sl .str x0), (1, .int .i64 x1), (5, .int .i64 x2)] 0 22, [], 0⟩).bind fun r => prjR GG [(.int .i64)] r.1

noncomputable def l_szExprS_L5 (x0 : (List TExpr)) (x1 : Int) (x2 : Int) : Option (Int) := (Den CC 16 (lbl CC 16 5) ⟨tmOf [(0, .sl (.st 23) x0), (1, .int .i64 x1), (5, .int .i64 x2)] 0 27, [], 0⟩).bind fun r => prjR GG [(.int .i64)] r.1

noncomputable def l_toExprS_L3_v1 (x0 : (List TExpr)) (x1 : Int) (x2 : (List TExpr)) : Option ((((List TExpr) × Unit) × Unit)) := (Den CC 19 (lbl CC 19 3) ⟨tmOf [(0, .sl (.st 23) x0), (3, .arr 0), (4, .int .i64 x1)] 0 23, [.tr 30 (.st 23) x2 []], 0⟩).bind fun r => prjO GG [(false, [.tw 30 (.st 23)])] r

noncomputable def s_l03Size (x0 : Int) (x1 : Int) (x2 : (List UInt8)) (x3 : (List TExpr)) : Option (Int) := (Den CC 25 (bodyT CC 25) ⟨tmOf [(0, .pc [.int .i64 x0, .int .i64 x1, .str x2, .sl (.st 23) x3])] 0 28, [], 0⟩).bind fun r => prjR GG [(.int .i64)] r.1

noncomputable def s_l03Nodes (x0 : Int) (x1 : Int) (x2 : (List UInt8)) (x3 : (List TExpr)) : Option (Bool) := (Den CC 26 (bodyT CC 26) ⟨tmOf [(0, .pc [.int .i64 x0, .int .i64 x1, .str x2, .sl (.st 23) x3])] 0 24, [], 0⟩).bind fun r => prjR GG [.bool] r.1

noncomputable def s_l03Names_L2 (x0 : Int) (x1 : Int) (x2 : (List UInt8)) (x3 : (List TExpr)) (x4 : Bool) (x5 : (List (List UInt8))) : Option ((List (List UInt8))) := (Den CC 18 (lbl CC 18 2) ⟨tmOf [(0, .pc [.int .i64 x0, .int .i64 x1, .str x2, .sl (.st 23) x3]), (1, .bool x4), (2, .sl .str x5)] 0 54, [], 0⟩).bind fun r => prjR GG [(.sl .str)] r.1

noncomputable def s_l03Names_L3 (x0 : Int) (x1 : Int) (x2 : (List UInt8)) (x3 : (List TExpr)) (x4 : Bool) (x5 : (List (List UInt8))) : Option ((List (List UInt8))) := (Den CC 18 (lbl CC 18 3) ⟨tmOf [(0, .pc [.int .i64 x0, .int .i64 x1, .str x2, .sl (.st 23) x3]), (1, .bool x4), (2, .sl .str x5)] 0 54, [], 0⟩).bind fun r => prjR GG [(.sl .str)] r.1

noncomputable def i_countNodes (x0 : TExpr) (x1 : Int) : Option (Int) := (Den CC 28 (bodyT CC 28) ⟨tmOf [(0, .st 23 x0), (1, .int .i64 x1)] 0 30, [], 0⟩).bind fun r => prjR GG [(.int .i64)] r.1

noncomputable def i_Expr_eachNode__i_namesOf_c1 (x0 : TExpr) (x1 : Bool) (x2 : (List (List UInt8))) : Option ((Unit) × ((Bool × Unit) × ((List (List UInt8)) × Unit) × Unit)) := (Den CC 29 (bodyT CC 29) ⟨tmOf [(0, .st 23 x0), (1, .fn 30 [.ref 0 0, .ref 1 0])] 0 20, [.box 4 [.bool x1] false, .box 26 [.arr 2] false, .arr 9 .str x2 false], 2⟩).bind fun r => prjRB GG [] [[.im .bool], [.ow 9 .str]] r

noncomputable def l_eqExprS_L4 (x0 : (List TExpr)) (x1 : (List TExpr)) (x2 : Int) : Option (Bool) := (Den CC 22 (lbl CC 22 4) ⟨tmOf [(0, .sl (.st 23) x0), (1, .sl (.st 23) x1), (5, .int .i64 x2)] 0 27, [], 0⟩).bind fun r => prjR GG [.bool] r.1

noncomputable def l_markExprS_L2 (x0 : Int) (x1 : Int) (x2 : (List TExpr)) : Option ((Int) × ((List TExpr) × Unit)) := (Den CC 23 (lbl CC 23 2) ⟨tmOf [(0, .arr 0), (1, .int .i64 x0), (5, .int .i64 x1)] 0 42, [.tr 30 (.st 23) x2 []], 1⟩).bind fun r => prjW GG [(.int .i64)] [.tw 30 (.st 23)] r

noncomputable def l_markText (x0 : Int) : Option ((List UInt8)) := (Den CC 24 (bodyT CC 24) ⟨tmOf [(0, .int .i64 x0)] 0 20, [], 0⟩).bind fun r => prjR GG [.str] r.1

noncomputable def s_l03Size_L3 (x0 : Int) (x1 : Int) (x2 : (List UInt8)) (x3 : (List TExpr)) (x4 : Int) (x5 : Int) : Option (Int) := (Den CC 25 (lbl CC 25 3) ⟨tmOf [(0, .pc [.int .i64 x0, .int .i64 x1, .str x2, .sl (.st 23) x3]), (3, .int .i64 x4), (4, .int .i64 x5)] 0 28, [], 0⟩).bind fun r => prjR GG [(.int .i64)] r.1

noncomputable def s_l03Shape (x0 : Int) (x1 : Int) (x2 : (List UInt8)) (x3 : (List TExpr)) : Option (Bool) := (Den CC 33 (bodyT CC 33) ⟨tmOf [(0, .pc [.int .i64 x0, .int .i64 x1, .str x2, .sl (.st 23) x3])] 0 145, [], 0⟩).bind fun r => prjR GG [.bool] r.1

noncomputable def s_l03Nodes_L4 (x0 : Int) (x1 : Int) (x2 : (List UInt8)) (x3 : (List TExpr)) (x4 : Int) : Option (Bool) := (Den CC 26 (lbl CC 26 4) ⟨tmOf [(0, .pc [.int .i64 x0, .int .i64 x1, .str x2, .sl (.st 23) x3]), (3, .int .i64 x4)] 0 24, [], 0⟩).bind fun r => prjR GG [.bool] r.1

noncomputable def s_l03Put (x0 : (List (List UInt8))) (x1 : (List UInt8)) : Option ((List (List UInt8))) := (Den CC 27 (bodyT CC 27) ⟨tmOf [(0, .sl .str x0), (1, .str x1)] 0 50, [], 0⟩).bind fun r => prjR GG [(.sl .str)] r.1

noncomputable def s_l03Names_L4 (x0 : Int) (x1 : Int) (x2 : (List UInt8)) (x3 : (List TExpr)) (x4 : Bool) (x5 : (List (List UInt8))) (x6 : Int) : Option ((List (List UInt8))) := (Den CC 18 (lbl CC 18 4) ⟨tmOf [(0, .pc [.int .i64 x0, .int .i64 x1, .str x2, .sl (.st 23) x3]), (1, .bool x4), (2, .sl .str x5), (7, .int .i64 x6)] 0 54, [], 0⟩).bind fun r => prjR GG [(.sl .str)] r.1

noncomputable def i_Expr_hasFields (x0 : TExpr) : Option (Bool) := (Den CC 34 (bodyT CC 34) ⟨tmOf [(0, .st 23 x0)] 0 116, [], 0⟩).bind fun r => prjR GG [.bool] r.1

noncomputable def i_countNodes_L5 (x0 : Int) (x1 : (List TExpr)) (x2 : Int) (x3 : Int) : Option (Int) := (Den CC 28 (lbl CC 28 5) ⟨tmOf [(1, .int .i64 x0), (17, .sl (.st 23) x1), (18, .int .i64 x2), (19, .int .i64 x3)] 0 30, [], 0⟩).bind fun r => prjR GG [(.int .i64)] r.1

noncomputable def i_namesOf_c1 (x0 : TExpr) (x1 : Bool) (x2 : (List (List UInt8))) : Option ((Unit) × ((Bool × Unit) × ((List (List UInt8)) × Unit) × Unit)) := (Den CC 30 (bodyT CC 30) ⟨tmOf [(0, .st 23 x0), (1, .ref 0 0), (2, .ref 1 0)] 0 29, [.box 4 [.bool x1] false, .box 26 [.arr 2] false, .arr 9 .str x2 false], 2⟩).bind fun r => prjRB GG [] [[.im .bool], [.ow 9 .str]] r

noncomputable def i_Expr_eachNode_L3__i_namesOf_c1 (x0 : (List TExpr)) (x1 : Int) (x2 : Int) (x3 : Bool) (x4 : (List (List UInt8))) : Option ((Unit) × ((Bool × Unit) × ((List (List UInt8)) × Unit) × Unit)) := (Den CC 29 (lbl CC 29 3) ⟨tmOf [(1, .fn 30 [.ref 0 0, .ref 1 0]), (10, .sl (.st 23) x0), (11, .int .i64 x1), (12, .int .i64 x2)] 0 20, [.box 4 [.bool x3] false, .box 26 [.arr 2] false, .arr 9 .str x4 false], 2⟩).bind fun r => prjRB GG [] [[.im .bool], [.ow 9 .str]] r

noncomputable def l_markText_L4 (x0 : Int) (x1 : (List UInt8)) : Option ((List UInt8)) := (Den CC 24 (lbl CC 24 4) ⟨tmOf [(0, .int .i64 x0), (3, .str x1)] 0 20, [], 0⟩).bind fun r => prjR GG [.str] r.1

noncomputable def s_CanQuote (x0 : (List UInt8)) : Option (Bool) := (Den CC 38 (bodyT CC 38) ⟨tmOf [(0, .str x0)] 0 19, [], 0⟩).bind fun r => prjR GG [.bool] r.1

noncomputable def s_l00In (x0 : Int) (x1 : Int) (x2 : Int) : Option (Bool) := (Den CC 39 (bodyT CC 39) ⟨tmOf [(0, .int .i64 x0), (1, .int .i64 x1), (2, .int .i64 x2)] 0 15, [], 0⟩).bind fun r => prjR GG [.bool] r.1

noncomputable def s_l03Shape_L13 (x0 : Int) (x1 : Int) (x2 : (List UInt8)) (x3 : (List TExpr)) (x4 : Int) : Option (Bool) := (Den CC 33 (lbl CC 33 13) ⟨tmOf [(0, .pc [.int .i64 x0, .int .i64 x1, .str x2, .sl (.st 23) x3]), (3, .int .i64 x4)] 0 145, [], 0⟩).bind fun r => prjR GG [.bool] r.1

noncomputable def s_l03Shape_L14 (x0 : Int) (x1 : Int) (x2 : (List UInt8)) (x3 : (List TExpr)) (x4 : Bool) (x5 : Int) : Option (Bool) := (Den CC 33 (lbl CC 33 14) ⟨tmOf [(0, .pc [.int .i64 x0, .int .i64 x1, .str x2, .sl (.st 23) x3]), (4, .bool x4), (8, .int .i64 x5)] 0 145, [], 0⟩).bind fun r => prjR GG [.bool] r.1

noncomputable def s_l03Put_L4 (x0 : (List (List UInt8))) (x1 : (List UInt8)) (x2 : Bool) (x3 : Int) (x4 : (List (List UInt8))) : Option ((List (List UInt8))) := (Den CC 27 (lbl CC 27 4) ⟨tmOf [(0, .sl .str x0), (1, .str x1), (5, .arr 0), (6, .bool x2), (7, .int .i64 x3)] 0 50, [.arr 9 .str x4 false], 0⟩).bind fun r => prjR GG [(.sl .str)] r.1

noncomputable def i_CanQuote (x0 : (List UInt8)) : Option (Bool) := (Den CC 41 (bodyT CC 41) ⟨tmOf [(0, .str x0)] 0 19, [], 0⟩).bind fun r => prjR GG [.bool] r.1

noncomputable def i_isNumber (x0 : Int) : Option (Bool) := (Den CC 42 (bodyT CC 42) ⟨tmOf [(0, .int .i64 x0)] 0 5, [], 0⟩).bind fun r => prjR GG [.bool] r.1

noncomputable def i_IsName (x0 : (List UInt8)) : Option (Bool) := (Den CC 43 (bodyT CC 43) ⟨tmOf [(0, .str x0)] 0 21, [], 0⟩).bind fun r => prjR GG [.bool] r.1

noncomputable def i_isNamed (x0 : Int) : Option (Bool) := (Den CC 31 (bodyT CC 31) ⟨tmOf [(0, .int .i64 x0)] 0 5, [], 0⟩).bind fun r => prjR GG [.bool] r.1

noncomputable def i_Expr_hasFields_L11 : Option (Bool) := (Den CC 34 (lbl CC 34 11) ⟨tmOf [] 0 116, [], 0⟩).bind fun r => prjR GG [.bool] r.1

noncomputable def i_Expr_hasFields_L12 (x0 : Int) (x1 : Int) (x2 : Int) (x3 : (List UInt8)) (x4 : (List TExpr)) : Option (Bool) := (Den CC 34 (lbl CC 34 12) ⟨tmOf [(1, .ref 0 0), (3, .int .i64 x0)] 0 116, [.box 30 [.int .i64 x1, .int .i64 x2, .str x3, .sl (.st 23) x4] false], 0⟩).bind fun r => prjR GG [.bool] r.1

noncomputable def i_namesOf_c1_L2 (x0 : Bool) (x1 : (List (List UInt8))) (x2 : Int) (x3 : Int) (x4 : (List UInt8)) (x5 : (List TExpr)) : Option ((Unit) × ((Bool × Unit) × ((List (List UInt8)) × Unit) × Unit)) := (Den CC 30 (lbl CC 30 2) ⟨tmOf [(2, .ref 1 0), (3, .ref 3 0)] 0 29, [.box 4 [.bool x0] false, .box 26 [.arr 2] false, .arr 9 .str x1 false, .box 30 [.int .i64 x2, .int .i64 x3, .str x4, .sl (.st 23) x5] false], 2⟩).bind fun r => prjRB GG [] [[.im .bool], [.ow 9 .str]] r

noncomputable def s_l01Printable (x0 : (List UInt8)) (x1 : Bool) : Option (Bool) := (Den CC 47 (bodyT CC 47) ⟨tmOf [(0, .str x0), (1, .bool x1)] 0 32, [], 0⟩).bind fun r => prjR GG [.bool] r.1

noncomputable def s_l02Holds (x0 : (List UInt8)) (x1 : Int) : Option (Bool) := (Den CC 48 (bodyT CC 48) ⟨tmOf [(0, .str x0), (1, .int .u8 x1)] 0 17, [], 0⟩).bind fun r => prjR GG [.bool] r.1

noncomputable def s_l03Shape_L32 (x0 : Int) (x1 : Int) (x2 : (List UInt8)) (x3 : (List TExpr)) (x4 : Int) (x5 : Bool) : Option (Bool) := (Den CC 33 (lbl CC 33 32) ⟨tmOf [(0, .pc [.int .i64 x0, .int .i64 x1, .str x2, .sl (.st 23) x3]), (3, .int .i64 x4), (4, .bool x5)] 0 145, [], 0⟩).bind fun r => prjR GG [.bool] r.1

noncomputable def s_IsName (x0 : (List UInt8)) : Option (Bool) := (Den CC 40 (bodyT CC 40) ⟨tmOf [(0, .str x0)] 0 17, [], 0⟩).bind fun r => prjR GG [.bool] r.1

noncomputable def s_l03Shape_L26 (x0 : Int) (x1 : Int) (x2 : (List UInt8)) (x3 : (List TExpr)) (x4 : Bool) : Option (Bool) := (Den CC 33 (lbl CC 33 26) ⟨tmOf [(0, .pc [.int .i64 x0, .int .i64 x1, .str x2, .sl (.st 23) x3]), (4, .bool x4)] 0 145, [], 0⟩).bind fun r => prjR GG [.bool] r.1

noncomputable def s_l03Shape_L27 (x0 : Int) (x1 : Int) (x2 : (List UInt8)) (x3 : (List TExpr)) (x4 : Bool) (x5 : Int) : Option (Bool) := (Den CC 33 (lbl CC 33 27) ⟨tmOf [(0, .pc [.int .i64 x0, .int .i64 x1, .str x2, .sl (.st 23) x3]), (4, .bool x4), (8, .int .i64 x5)] 0 145, [], 0⟩).bind fun r => prjR GG [.bool] r.1

noncomputable def s_l03Put_L11 (x0 : (List (List UInt8))) (x1 : (List UInt8)) (x2 : Bool) (x3 : Int) (x4 : (List (List UInt8))) : Option ((List (List UInt8))) := (Den CC 27 (lbl CC 27 11) ⟨tmOf [(0, .sl .str x0), (1, .str x1), (5, .arr 0), (6, .bool x2), (7, .int .i64 x3)] 0 50, [.arr 9 .str x4 false], 0⟩).bind fun r => prjR GG [(.sl .str)] r.1

noncomputable def i_isPlainText (x0 : (List UInt8)) : Option (Bool) := (Den CC 50 (bodyT CC 50) ⟨tmOf [(0, .str x0)] 0 6, [], 0⟩).bind fun r => prjR GG [.bool] r.1

noncomputable def i_within (x0 : Int) (x1 : Int) (x2 : Int) : Option (Bool) := (Den CC 35 (bodyT CC 35) ⟨tmOf [(0, .int .i64 x0), (1, .int .i64 x1), (2, .int .i64 x2)] 0 15, [], 0⟩).bind fun r => prjR GG [.bool] r.1

noncomputable def i_isLetter (x0 : Int) : Option (Bool) := (Den CC 52 (bodyT CC 52) ⟨tmOf [(0, .int .u8 x0)] 0 17, [], 0⟩).bind fun r => prjR GG [.bool] r.1

noncomputable def i_areAll_byte__i_isNameByte (x0 : (List Int)) : Option (Bool) := (Den CC 53 (bodyT CC 53) ⟨tmOf [(0, .sl (.int .u8) x0), (1, .fn 54 [])] 0 18, [], 0⟩).bind fun r => prjR GG [.bool] r.1

noncomputable def i_Expr_hasFields_L18 (x0 : Int) : Option (Bool) := (Den CC 34 (lbl CC 34 18) ⟨tmOf [(3, .int .i64 x0)] 0 116, [], 0⟩).bind fun r => prjR GG [.bool] r.1

noncomputable def i_Expr_hasFields_L19 (x0 : Int) (x1 : Int) (x2 : Int) (x3 : (List UInt8)) (x4 : (List TExpr)) : Option (Bool) := (Den CC 34 (lbl CC 34 19) ⟨tmOf [(1, .ref 0 0), (3, .int .i64 x0)] 0 116, [.box 30 [.int .i64 x1, .int .i64 x2, .str x3, .sl (.st 23) x4] false], 0⟩).bind fun r => prjR GG [.bool] r.1

noncomputable def s_l01Printable_L2 (x0 : (List UInt8)) (x1 : Bool) (x2 : Int) : Option (Bool) := (Den CC 47 (lbl CC 47 2) ⟨tmOf [(0, .str x0), (1, .bool x1), (5, .int .i64 x2)] 0 32, [], 0⟩).bind fun r => prjR GG [.bool] r.1

noncomputable def s_l02Holds_L2 (x0 : (List UInt8)) (x1 : Int) (x2 : Int) : Option (Bool) := (Den CC 48 (lbl CC 48 2) ⟨tmOf [(0, .str x0), (1, .int .u8 x1), (5, .int .i64 x2)] 0 17, [], 0⟩).bind fun r => prjR GG [.bool] r.1

noncomputable def s_l02NameEnd (x0 : (List UInt8)) (x1 : Int) : Option (Int) := (Den CC 49 (bodyT CC 49) ⟨tmOf [(0, .str x0), (1, .int .i64 x1)] 0 42, [], 0⟩).bind fun r => prjR GG [(.int .i64)] r.1

noncomputable def s_l03Shape_L31 : Option (Bool) := (Den CC 33 (lbl CC 33 31) ⟨tmOf [] 0 145, [], 0⟩).bind fun r => prjR GG [.bool] r.1

noncomputable def i_areAll_byte__i_isPlain (x0 : (List Int)) : Option (Bool) := (Den CC 53 (bodyT CC 53) ⟨tmOf [(0, .sl (.int .u8) x0), (1, .fn 68 [])] 0 18, [], 0⟩).bind fun r => prjR GG [.bool] r.1

noncomputable def i_areAll_byte_L2__i_isNameByte (x0 : (List Int)) (x1 : Int) (x2 : Int) : Option (Bool) := (Den CC 53 (lbl CC 53 2) ⟨tmOf [(1, .fn 54 []), (7, .sl (.int .u8) x0), (8, .int .i64 x1), (9, .int .i64 x2)] 0 18, [], 0⟩).bind fun r => prjR GG [.bool] r.1

noncomputable def i_isBinary (x0 : Int) : Option (Bool) := (Den CC 44 (bodyT CC 44) ⟨tmOf [(0, .int .i64 x0)] 0 5, [], 0⟩).bind fun r => prjR GG [.bool] r.1

noncomputable def s_l01Printable_L5 : Option (Bool) := (Den CC 47 (lbl CC 47 5) ⟨tmOf [] 0 32, [], 0⟩).bind fun r => prjR GG [.bool] r.1

noncomputable def s_l01Printable_L3 (x0 : (List UInt8)) (x1 : Bool) (x2 : Int) : Option (Bool) := (Den CC 47 (lbl CC 47 3) ⟨tmOf [(0, .str x0), (1, .bool x1), (5, .int .i64 x2)] 0 32, [], 0⟩).bind fun r => prjR GG [.bool] r.1

noncomputable def s_l02Letter (x0 : Int) : Option (Bool) := (Den CC 66 (bodyT CC 66) ⟨tmOf [(0, .int .u8 x0)] 0 17, [], 0⟩).bind fun r => prjR GG [.bool] r.1

noncomputable def s_l02NameEnd_L3 (x0 : (List UInt8)) (x1 : Int) : Option (Int) := (Den CC 49 (lbl CC 49 3) ⟨tmOf [(0, .str x0), (1, .int .i64 x1)] 0 42, [], 0⟩).bind fun r => prjR GG [(.int .i64)] r.1

noncomputable def i_areAll_byte_L2__i_isPlain (x0 : (List Int)) (x1 : Int) (x2 : Int) : Option (Bool) := (Den CC 53 (lbl CC 53 2) ⟨tmOf [(1, .fn 68 []), (7, .sl (.int .u8) x0), (8, .int .i64 x1), (9, .int .i64 x2)] 0 18, [], 0⟩).bind fun r => prjR GG [.bool] r.1

noncomputable def i_isNameByte (x0 : Int) : Option (Bool) := (Den CC 54 (bodyT CC 54) ⟨tmOf [(0, .int .u8 x0)] 0 13, [], 0⟩).bind fun r => prjR GG [.bool] r.1

noncomputable def s_l02NameEnd_L4 (x0 : (List UInt8)) (x1 : Int) : Option (Int) := (Den CC 49 (lbl CC 49 4) ⟨tmOf [(0, .str x0), (1, .int .i64 x1)] 0 42, [], 0⟩).bind fun r => prjR GG [(.int .i64)] r.1

noncomputable def s_l02Digit (x0 : Int) : Option (Bool) := (Den CC 67 (bodyT CC 67) ⟨tmOf [(0, .int .u8 x0)] 0 9, [], 0⟩).bind fun r => prjR GG [.bool] r.1

noncomputable def s_l02NameEnd_L5 (x0 : Int) : Option (Int) := (Den CC 49 (lbl CC 49 5) ⟨tmOf [(1, .int .i64 x0)] 0 42, [], 0⟩).bind fun r => prjR GG [(.int .i64)] r.1

noncomputable def i_isPlain (x0 : Int) : Option (Bool) := (Den CC 68 (bodyT CC 68) ⟨tmOf [(0, .int .u8 x0)] 0 9, [], 0⟩).bind fun r => prjR GG [.bool] r.1

noncomputable def i_isDigit (x0 : Int) : Option (Bool) := (Den CC 70 (bodyT CC 70) ⟨tmOf [(0, .int .u8 x0)] 0 9, [], 0⟩).bind fun r => prjR GG [.bool] r.1

theorem l_FnExactNamesIn_eq (x0 : TExpr) : l_FnExactNamesIn x0 = (l_szExpr x0.re 1048576).bind fun r200 => if (decide (r200 < 0)) = true then some (true) else (l_toExpr_v1 x0.re).bind fun r198 => (s_NamesIn (TExpr.mk (Prod.fst (Prod.fst r198)) (Prod.fst (Prod.snd (Prod.fst r198))) (Prod.fst (Prod.snd (Prod.snd (Prod.fst r198)))) (Prod.fst (Prod.snd (Prod.snd (Prod.snd (Prod.fst r198))))))).bind fun r197 => (l_toExpr_v1 x0.re).bind fun r196 => (i_NamesIn (TExpr.mk (Prod.fst (Prod.fst r196)) (Prod.fst (Prod.snd (Prod.fst r196))) (Prod.fst (Prod.snd (Prod.snd (Prod.fst r196)))) (Prod.fst (Prod.snd (Prod.snd (Prod.snd (Prod.fst r196))))))).bind fun r195 => (l_eqStringS (Prod.fst (Prod.fst r195)) r197).bind fun r194 => if (!r194) = true then some (false) else (l_toExpr_v1 x0.re).bind fun r192 => (l_eqExpr (TExpr.mk (Prod.fst (Prod.fst r196)) (Prod.fst (Prod.snd (Prod.fst r196))) (Prod.fst (Prod.snd (Prod.snd (Prod.fst r196)))) (Prod.fst (Prod.snd (Prod.snd (Prod.snd (Prod.fst r196)))))) (TExpr.mk (Prod.fst (Prod.fst r192)) (Prod.fst (Prod.snd (Prod.fst r192))) (Prod.fst (Prod.snd (Prod.snd (Prod.fst r192)))) (Prod.fst (Prod.snd (Prod.snd (Prod.snd (Prod.fst r192))))))).bind fun r191 => if (!r191) = true then some (false) else (l_markExpr (Prod.fst (Prod.fst r196)) (Prod.fst (Prod.snd (Prod.fst r196))) (Prod.fst (Prod.snd (Prod.snd (Prod.fst r196)))) 1 (Prod.fst (Prod.snd (Prod.snd (Prod.snd (Prod.fst r196)))))).bind fun r189 => if (decide (Prod.fst r189 < 0)) = true then some (false) else (l_eqStringS (Prod.fst (Prod.fst r195)) r197).bind fun r187 => if (!r187) = true then some (false) else (l_markStringS 1 (Prod.fst (Prod.fst r195))).bind fun r185 => (l_heldStringS (Prod.fst (Prod.snd r185)) 1).bind fun r184 => if (decide (r184 < 0)) = true then some (false) else if (r184 != Prod.fst r185) = true then some (false) else (l_toExpr_v1 x0.re).bind fun r181 => (i_NamesIn (TExpr.mk (Prod.fst (Prod.fst r181)) (Prod.fst (Prod.snd (Prod.fst r181))) (Prod.fst (Prod.snd (Prod.snd (Prod.fst r181)))) (Prod.fst (Prod.snd (Prod.snd (Prod.snd (Prod.fst r181))))))).bind fun r180 => (l_eqStringS (Prod.fst (Prod.fst r180)) r197).bind fun r179 => if (!r179) = true then some (false) else (l_heldStringS (Prod.fst (Prod.snd r185)) 1).bind fun r177 => if (decide (r177 < 0)) = true then some (false) else if (r177 != Prod.fst r185) = true then some (false) else some (true) :=
  (den_run CC 4 (bodyT CC 4) ⟨tmOf [(0, .st 23 x0)] 0 69, [], 0⟩ fun r => prjR GG [.bool] r.1).trans (by kernel_rfl)

theorem l_szExpr_eq (x0 : TExpr) (x1 : Int) : l_szExpr x0 x1 = if (decide (w64 (x1 - len x0.fText) < 0)) = true then some (-1) else (l_szExprS x0.fKids (w64 (x1 - len x0.fText))).bind fun r199 => if (decide (r199 < 0)) = true then some (-1) else some r199 :=
  (den_run CC 5 (bodyT CC 5) ⟨tmOf [(0, .st 23 x0), (1, .int .i64 x1)] 0 19, [], 0⟩ fun r => prjR GG [(.int .i64)] r.1).trans (by kernel_rfl)

theorem l_toExpr_v1_eq (x0 : TExpr) : l_toExpr_v1 x0 = (l_toExprS_v1 x0.fKids).bind fun r200 => some ((x0.fKind, x0.fNum, x0.fText, (Prod.fst (Prod.fst r200)), ()), ()) :=
  (den_run CC 7 (bodyT CC 7) ⟨tmOf [(0, .st 23 x0)] 0 18, [], 0⟩ fun r => prjO GG [(true, [.im (.int .i64), .im (.int .i64), .im .str, .tw 30 (.st 23)])] r).trans (by kernel_rfl)

theorem l_eqStringS_eq (x0 : (List (List UInt8))) (x1 : (List (List UInt8))) : l_eqStringS x0 x1 = if (len x0 != len x1) = true then some (false) else l_eqStringS_L4 x0 x1 0 :=
  (den_run CC 9 (bodyT CC 9) ⟨tmOf [(0, .sl .str x0), (1, .sl .str x1)] 0 26, [], 0⟩ fun r => prjR GG [.bool] r.1).trans (by kernel_rfl)

theorem l_eqExpr_eq (x0 : TExpr) (x1 : TExpr) : l_eqExpr x0 x1 = if (x0.fKind != x1.fKind) = true then some (false) else if (x0.fNum != x1.fNum) = true then some (false) else if (!x0.fText == x1.fText) = true then some (false) else (l_eqExprS x0.fKids x1.fKids).bind fun r197 => if (!r197) = true then some (false) else some (true) :=
  (den_run CC 10 (bodyT CC 10) ⟨tmOf [(0, .st 23 x0), (1, .st 23 x1)] 0 26, [], 0⟩ fun r => prjR GG [.bool] r.1).trans (by kernel_rfl)

theorem l_markExpr_eq (x0 : Int) (x1 : Int) (x2 : (List UInt8)) (x3 : Int) (x4 : (List TExpr)) : l_markExpr x0 x1 x2 x3 x4 = (l_markExprS x3 x4).bind fun r200 => some (((Prod.fst r200)), ((Prod.fst (Prod.snd r200)), ())) :=
  (den_run CC 11 (bodyT CC 11) ⟨tmOf [(0, .ag [.int .i64 x0, .int .i64 x1, .str x2, .arr 0]), (1, .int .i64 x3)] 0 10, [.tr 30 (.st 23) x4 []], 1⟩ fun r => prjW GG [(.int .i64)] [.tw 30 (.st 23)] r).trans (by kernel_rfl)

theorem l_markStringS_eq (x0 : Int) (x1 : (List (List UInt8))) : l_markStringS x0 x1 = l_markStringS_L2 x0 0 x1 :=
  (den_run CC 12 (bodyT CC 12) ⟨tmOf [(0, .arr 0), (1, .int .i64 x0)] 0 20, [.arr 9 .str x1 false], 1⟩ fun r => prjW GG [(.int .i64)] [.ow 9 .str] r).trans (by kernel_rfl)

theorem l_heldStringS_eq (x0 : (List (List UInt8))) (x1 : Int) : l_heldStringS x0 x1 = l_heldStringS_L2 x0 x1 0 :=
  (den_run CC 13 (bodyT CC 13) ⟨tmOf [(0, .sl .str x0), (1, .int .i64 x1)] 0 22, [], 0⟩ fun r => prjR GG [(.int .i64)] r.1).trans (by kernel_rfl)

theorem s_NamesIn_eq (x0 : TExpr) : s_NamesIn x0 = (s_l03Ok x0.fKind x0.fNum x0.fText x0.fKids).bind fun r200 => if (!r200) = true then some ([]) else (s_l03Names x0.fKind x0.fNum x0.fText x0.fKids (false) ([])).bind fun r198 => some r198 :=
  (den_run CC 14 (bodyT CC 14) ⟨tmOf [(0, .st 23 x0)] 0 8, [], 0⟩ fun r => prjR GG [(.sl .str)] r.1).trans (by kernel_rfl)

theorem i_NamesIn_eq (x0 : TExpr) : i_NamesIn x0 = (i_ValidExpr x0.re).bind fun r200 => if (!r200) = true then some ((([]), ()), ()) else (i_namesOf x0.re (false)).bind fun r198 => some (((Prod.fst (Prod.fst r198)), ()), ()) :=
  (den_run CC 15 (bodyT CC 15) ⟨tmOf [(0, .st 23 x0)] 0 8, [], 0⟩ fun r => prjO GG [(false, [.ow 9 .str])] r).trans (by kernel_rfl)

theorem l_szExprS_eq (x0 : (List TExpr)) (x1 : Int) : l_szExprS x0 x1 = if (decide (w64 (x1 - len x0) < 0)) = true then some (-1) else l_szExprS_L5 x0 (w64 (x1 - len x0)) 0 :=
  (den_run CC 16 (bodyT CC 16) ⟨tmOf [(0, .sl (.st 23) x0), (1, .int .i64 x1)] 0 27, [], 0⟩ fun r => prjR GG [(.int .i64)] r.1).trans (by kernel_rfl)

theorem l_toExprS_v1_eq (x0 : (List TExpr)) : l_toExprS_v1 x0 = ((mk (len x0) (TExpr.mk (Int.ofNat 0) (Int.ofNat 0) [] [])) : Option (List TExpr)).bind fun y200 => l_toExprS_L3_v1 x0 0 y200 :=
  (den_run CC 19 (bodyT CC 19) ⟨tmOf [(0, .sl (.st 23) x0)] 0 23, [], 0⟩ fun r => prjO GG [(false, [.tw 30 (.st 23)])] r).trans (by kernel_rfl)

theorem s_l03Ok_eq (x0 : Int) (x1 : Int) (x2 : (List UInt8)) (x3 : (List TExpr)) : s_l03Ok x0 x1 x2 x3 = (s_l03Size x0 x1 x2 x3).bind fun r200 => if (decide (r200 ≤ 60)) = true then (s_l03Nodes x0 x1 x2 x3).bind fun r198 => some r198 else some (false) :=
  (den_run CC 17 (bodyT CC 17) ⟨tmOf [(0, .pc [.int .i64 x0, .int .i64 x1, .str x2, .sl (.st 23) x3])] 0 10, [], 0⟩ fun r => prjR GG [.bool] r.1).trans (by kernel_rfl)

theorem s_l03Names_eq (x0 : Int) (x1 : Int) (x2 : (List UInt8)) (x3 : (List TExpr)) (x4 : Bool) (x5 : (List (List UInt8))) : s_l03Names x0 x1 x2 x3 x4 x5 = if (x4 == (x0 == 4)) = true then if (!x2 == []) = true then if (x0 != 1) = true then s_l03Names_L2 x0 x1 x2 x3 x4 x5 else s_l03Names_L3 x0 x1 x2 x3 x4 x5 else s_l03Names_L3 x0 x1 x2 x3 x4 x5 else s_l03Names_L3 x0 x1 x2 x3 x4 x5 :=
  (den_run CC 18 (bodyT CC 18) ⟨tmOf [(0, .pc [.int .i64 x0, .int .i64 x1, .str x2, .sl (.st 23) x3]), (1, .bool x4), (2, .sl .str x5)] 0 54, [], 0⟩ fun r => prjR GG [(.sl .str)] r.1).trans (by kernel_rfl)

theorem i_ValidExpr_eq (x0 : TExpr) : i_ValidExpr x0 = (i_countNodes x0.re 0).bind fun r200 => some (decide (r200 ≤ 60)) :=
  (den_run CC 20 (bodyT CC 20) ⟨tmOf [(0, .st 23 x0)] 0 6, [], 0⟩ fun r => prjR GG [.bool] r.1).trans (by kernel_rfl)

theorem i_namesOf_eq (x0 : TExpr) (x1 : Bool) : i_namesOf x0 x1 = (i_Expr_eachNode__i_namesOf_c1 x0.re x1 ([])).bind fun r200 => ((sortS (Prod.fst (Prod.fst (Prod.snd (Prod.snd r200))))) : Option (List (List UInt8))).bind fun y199 => some (((y199), ()), ()) :=
  (den_run CC 21 (bodyT CC 21) ⟨tmOf [(0, .st 23 x0), (1, .bool x1)] 0 12, [], 0⟩ fun r => prjO GG [(false, [.ow 9 .str])] r).trans (by kernel_rfl)

theorem l_eqStringS_L4_eq (x0 : (List (List UInt8))) (x1 : (List (List UInt8))) (x2 : Int) : l_eqStringS_L4 x0 x1 x2 = if (decide (x2 < len x0)) = true then ((idx x0 x2) : Option (List UInt8)).bind fun y199 => ((idx x1 x2) : Option (List UInt8)).bind fun y198 => if (!y199 == y198) = true then some (false) else l_eqStringS_L4 x0 x1 (w64 (x2 + 1)) else some (true) :=
  (den_run CC 9 (lbl CC 9 4) ⟨tmOf [(0, .sl .str x0), (1, .sl .str x1), (5, .int .i64 x2)] 0 26, [], 0⟩ fun r => prjR GG [.bool] r.1).trans (by kernel_rfl)

theorem l_eqExprS_eq (x0 : (List TExpr)) (x1 : (List TExpr)) : l_eqExprS x0 x1 = if (len x0 != len x1) = true then some (false) else l_eqExprS_L4 x0 x1 0 :=
  (den_run CC 22 (bodyT CC 22) ⟨tmOf [(0, .sl (.st 23) x0), (1, .sl (.st 23) x1)] 0 27, [], 0⟩ fun r => prjR GG [.bool] r.1).trans (by kernel_rfl)

theorem l_markExprS_eq (x0 : Int) (x1 : (List TExpr)) : l_markExprS x0 x1 = l_markExprS_L2 x0 0 x1 :=
  (den_run CC 23 (bodyT CC 23) ⟨tmOf [(0, .arr 0), (1, .int .i64 x0)] 0 42, [.tr 30 (.st 23) x1 []], 1⟩ fun r => prjW GG [(.int .i64)] [.tw 30 (.st 23)] r).trans (by kernel_rfl)

theorem l_markStringS_L2_eq (x0 : Int) (x1 : Int) (x2 : (List (List UInt8))) : l_markStringS_L2 x0 x1 x2 = if (decide (x1 < len x2)) = true then (l_markText x0).bind fun r199 => ((idx x2 x1) : Option (List UInt8)).bind fun y198 => ((x2[Int.toNat x1]?) : Option (List UInt8)).bind fun y197 => l_markStringS_L2 (w64 (x0 + 1)) (w64 (x1 + 1)) (upd x2 (Int.toNat x1) r199) else some ((x0), ((x2), ())) :=
  (den_run CC 12 (lbl CC 12 2) ⟨tmOf [(0, .arr 0), (1, .int .i64 x0), (5, .int .i64 x1)] 0 20, [.arr 9 .str x2 false], 1⟩ fun r => prjW GG [(.int .i64)] [.ow 9 .str] r).trans (by kernel_rfl)

theorem l_heldStringS_L2_eq (x0 : (List (List UInt8))) (x1 : Int) (x2 : Int) : l_heldStringS_L2 x0 x1 x2 = if (decide (x2 < len x0)) = true then ((idx x0 x2) : Option (List UInt8)).bind fun y199 => (l_markText x1).bind fun r198 => if (!y199 == r198) = true then some (-1) else l_heldStringS_L2 x0 (w64 (x1 + 1)) (w64 (x2 + 1)) else some x1 :=
  (den_run CC 13 (lbl CC 13 2) ⟨tmOf [(0, .sl .str x0), (1, .int .i64 x1), (5, .int .i64 x2)] 0 22, [], 0⟩ fun r => prjR GG [(.int .i64)] r.1).trans (by kernel_rfl)

theorem l_szExprS_L5_eq (x0 : (List TExpr)) (x1 : Int) (x2 : Int) : l_szExprS_L5 x0 x1 x2 = if (decide (x2 < len x0)) = true then ((idx x0 x2) : Option TExpr).bind fun y199 => (l_szExpr y199.re x1).bind fun r198 => if (decide (r198 < 0)) = true then some (-1) else l_szExprS_L5 x0 r198 (w64 (x2 + 1)) else some x1 :=
  (den_run CC 16 (lbl CC 16 5) ⟨tmOf [(0, .sl (.st 23) x0), (1, .int .i64 x1), (5, .int .i64 x2)] 0 27, [], 0⟩ fun r => prjR GG [(.int .i64)] r.1).trans (by kernel_rfl)

theorem l_toExprS_L3_v1_eq (x0 : (List TExpr)) (x1 : Int) (x2 : (List TExpr)) : l_toExprS_L3_v1 x0 x1 x2 = if (decide (x1 < len x0)) = true then ((idx x0 x1) : Option TExpr).bind fun y199 => (l_toExpr_v1 y199.re).bind fun r198 => ((idx x2 x1) : Option TExpr).bind fun y197 => ((x2[Int.toNat x1]?) : Option TExpr).bind fun y196 => l_toExprS_L3_v1 x0 (w64 (x1 + 1)) (upd x2 (Int.toNat x1) (TExpr.mk (Prod.fst (Prod.fst r198)) (Prod.fst (Prod.snd (Prod.fst r198))) (Prod.fst (Prod.snd (Prod.snd (Prod.fst r198)))) (Prod.fst (Prod.snd (Prod.snd (Prod.snd (Prod.fst r198))))))) else some (((x2), ()), ()) :=
  (den_run CC 19 (lbl CC 19 3) ⟨tmOf [(0, .sl (.st 23) x0), (3, .arr 0), (4, .int .i64 x1)] 0 23, [.tr 30 (.st 23) x2 []], 0⟩ fun r => prjO GG [(false, [.tw 30 (.st 23)])] r).trans (by kernel_rfl)

theorem s_l03Size_eq (x0 : Int) (x1 : Int) (x2 : (List UInt8)) (x3 : (List TExpr)) : s_l03Size x0 x1 x2 x3 = s_l03Size_L3 x0 x1 x2 x3 1 0 :=
  (den_run CC 25 (bodyT CC 25) ⟨tmOf [(0, .pc [.int .i64 x0, .int .i64 x1, .str x2, .sl (.st 23) x3])] 0 28, [], 0⟩ fun r => prjR GG [(.int .i64)] r.1).trans (by kernel_rfl)

theorem s_l03Nodes_eq (x0 : Int) (x1 : Int) (x2 : (List UInt8)) (x3 : (List TExpr)) : s_l03Nodes x0 x1 x2 x3 = (s_l03Shape x0 x1 x2 x3).bind fun r200 => if (!r200) = true then some (false) else s_l03Nodes_L4 x0 x1 x2 x3 0 :=
  (den_run CC 26 (bodyT CC 26) ⟨tmOf [(0, .pc [.int .i64 x0, .int .i64 x1, .str x2, .sl (.st 23) x3])] 0 24, [], 0⟩ fun r => prjR GG [.bool] r.1).trans (by kernel_rfl)

theorem s_l03Names_L2_eq (x0 : Int) (x1 : Int) (x2 : (List UInt8)) (x3 : (List TExpr)) (x4 : Bool) (x5 : (List (List UInt8))) : s_l03Names_L2 x0 x1 x2 x3 x4 x5 = (s_l03Put x5 x2).bind fun r200 => s_l03Names_L3 x0 x1 x2 x3 x4 r200 :=
  (den_run CC 18 (lbl CC 18 2) ⟨tmOf [(0, .pc [.int .i64 x0, .int .i64 x1, .str x2, .sl (.st 23) x3]), (1, .bool x4), (2, .sl .str x5)] 0 54, [], 0⟩ fun r => prjR GG [(.sl .str)] r.1).trans (by kernel_rfl)

theorem s_l03Names_L3_eq (x0 : Int) (x1 : Int) (x2 : (List UInt8)) (x3 : (List TExpr)) (x4 : Bool) (x5 : (List (List UInt8))) : s_l03Names_L3 x0 x1 x2 x3 x4 x5 = s_l03Names_L4 x0 x1 x2 x3 x4 x5 0 :=
  (den_run CC 18 (lbl CC 18 3) ⟨tmOf [(0, .pc [.int .i64 x0, .int .i64 x1, .str x2, .sl (.st 23) x3]), (1, .bool x4), (2, .sl .str x5)] 0 54, [], 0⟩ fun r => prjR GG [(.sl .str)] r.1).trans (by kernel_rfl)

theorem i_countNodes_eq (x0 : TExpr) (x1 : Int) : i_countNodes x0 x1 = if (decide (w64 (x1 + 1) > 60)) = true then some 61 else (i_Expr_hasFields x0.re).bind fun r199 => if (!r199) = true then some 61 else i_countNodes_L5 (w64 (x1 + 1)) x0.fKids (len x0.fKids) 0 :=
  (den_run CC 28 (bodyT CC 28) ⟨tmOf [(0, .st 23 x0), (1, .int .i64 x1)] 0 30, [], 0⟩ fun r => prjR GG [(.int .i64)] r.1).trans (by kernel_rfl)

theorem i_Expr_eachNode__i_namesOf_c1_eq (x0 : TExpr) (x1 : Bool) (x2 : (List (List UInt8))) : i_Expr_eachNode__i_namesOf_c1 x0 x1 x2 = (i_namesOf_c1 x0.re x1 x2).bind fun r200 => i_Expr_eachNode_L3__i_namesOf_c1 x0.fKids (len x0.fKids) 0 (Prod.fst (Prod.fst (Prod.snd r200))) (Prod.fst (Prod.fst (Prod.snd (Prod.snd r200)))) :=
  (den_run CC 29 (bodyT CC 29) ⟨tmOf [(0, .st 23 x0), (1, .fn 30 [.ref 0 0, .ref 1 0])] 0 20, [.box 4 [.bool x1] false, .box 26 [.arr 2] false, .arr 9 .str x2 false], 2⟩ fun r => prjRB GG [] [[.im .bool], [.ow 9 .str]] r).trans (by kernel_rfl)

theorem l_eqExprS_L4_eq (x0 : (List TExpr)) (x1 : (List TExpr)) (x2 : Int) : l_eqExprS_L4 x0 x1 x2 = if (decide (x2 < len x0)) = true then ((idx x0 x2) : Option TExpr).bind fun y199 => ((idx x1 x2) : Option TExpr).bind fun y198 => (l_eqExpr y199.re y198.re).bind fun r197 => if (!r197) = true then some (false) else l_eqExprS_L4 x0 x1 (w64 (x2 + 1)) else some (true) :=
  (den_run CC 22 (lbl CC 22 4) ⟨tmOf [(0, .sl (.st 23) x0), (1, .sl (.st 23) x1), (5, .int .i64 x2)] 0 27, [], 0⟩ fun r => prjR GG [.bool] r.1).trans (by kernel_rfl)

theorem l_markExprS_L2_eq (x0 : Int) (x1 : Int) (x2 : (List TExpr)) : l_markExprS_L2 x0 x1 x2 = if (decide (x1 < len x2)) = true then ((idx x2 x1) : Option TExpr).bind fun y199 => ((x2[Int.toNat x1]?) : Option TExpr).bind fun y198 => ((idx (upd x2 (Int.toNat x1) (TExpr.mk x0 y198.fNum y198.fText y198.fKids)) x1) : Option TExpr).bind fun y197 => (((upd x2 (Int.toNat x1) (TExpr.mk x0 y198.fNum y198.fText y198.fKids))[Int.toNat x1]?) : Option TExpr).bind fun y196 => (l_markText (w64 (w64 (x0 + 1) + 1))).bind fun r195 => ((idx (upd (upd x2 (Int.toNat x1) (TExpr.mk x0 y198.fNum y198.fText y198.fKids)) (Int.toNat x1) (TExpr.mk y196.fKind (w64 (x0 + 1)) y196.fText y196.fKids)) x1) : Option TExpr).bind fun y194 => (((upd (upd x2 (Int.toNat x1) (TExpr.mk x0 y198.fNum y198.fText y198.fKids)) (Int.toNat x1) (TExpr.mk y196.fKind (w64 (x0 + 1)) y196.fText y196.fKids))[Int.toNat x1]?) : Option TExpr).bind fun y193 => ((idx (upd (upd (upd x2 (Int.toNat x1) (TExpr.mk x0 y198.fNum y198.fText y198.fKids)) (Int.toNat x1) (TExpr.mk y196.fKind (w64 (x0 + 1)) y196.fText y196.fKids)) (Int.toNat x1) (TExpr.mk y193.fKind y193.fNum r195 y193.fKids)) x1) : Option TExpr).bind fun y192 => (((upd (upd (upd x2 (Int.toNat x1) (TExpr.mk x0 y198.fNum y198.fText y198.fKids)) (Int.toNat x1) (TExpr.mk y196.fKind (w64 (x0 + 1)) y196.fText y196.fKids)) (Int.toNat x1) (TExpr.mk y193.fKind y193.fNum r195 y193.fKids))[Int.toNat x1]?) : Option TExpr).bind fun y191 => (((upd (upd (upd x2 (Int.toNat x1) (TExpr.mk x0 y198.fNum y198.fText y198.fKids)) (Int.toNat x1) (TExpr.mk y196.fKind (w64 (x0 + 1)) y196.fText y196.fKids)) (Int.toNat x1) (TExpr.mk y193.fKind y193.fNum r195 y193.fKids))[Int.toNat x1]?) : Option TExpr).bind fun y190 => (l_markExprS (w64 (w64 (w64 (x0 + 1) + 1) + 1)) y190.fKids).bind fun r189 => (((upd (upd (upd x2 (Int.toNat x1) (TExpr.mk x0 y198.fNum y198.fText y198.fKids)) (Int.toNat x1) (TExpr.mk y196.fKind (w64 (x0 + 1)) y196.fText y196.fKids)) (Int.toNat x1) (TExpr.mk y193.fKind y193.fNum r195 y193.fKids))[Int.toNat x1]?) : Option TExpr).bind fun y188 => l_markExprS_L2 (Prod.fst r189) (w64 (x1 + 1)) (upd (upd (upd (upd x2 (Int.toNat x1) (TExpr.mk x0 y198.fNum y198.fText y198.fKids)) (Int.toNat x1) (TExpr.mk y196.fKind (w64 (x0 + 1)) y196.fText y196.fKids)) (Int.toNat x1) (TExpr.mk y193.fKind y193.fNum r195 y193.fKids)) (Int.toNat x1) (TExpr.mk y188.fKind y188.fNum y188.fText (Prod.fst (Prod.snd r189)))) else some ((x0), ((x2), ())) :=
  (den_run CC 23 (lbl CC 23 2) ⟨tmOf [(0, .arr 0), (1, .int .i64 x0), (5, .int .i64 x1)] 0 42, [.tr 30 (.st 23) x2 []], 1⟩ fun r => prjW GG [(.int .i64)] [.tw 30 (.st 23)] r).trans (by kernel_rfl)

theorem l_markText_eq (x0 : Int) : l_markText x0 = if (decide (x0 ≤ 0)) = true then some [109, 48] else l_markText_L4 x0 [] :=
  (den_run CC 24 (bodyT CC 24) ⟨tmOf [(0, .int .i64 x0)] 0 20, [], 0⟩ fun r => prjR GG [.str] r.1).trans (by kernel_rfl)

theorem s_l03Size_L3_eq (x0 : Int) (x1 : Int) (x2 : (List UInt8)) (x3 : (List TExpr)) (x4 : Int) (x5 : Int) : s_l03Size_L3 x0 x1 x2 x3 x4 x5 = if (decide (x5 < len x3)) = true then if (decide (x4 ≤ 60)) = true then ((idx x3 x5) : Option TExpr).bind fun y198 => (s_l03Size y198.fKind y198.fNum y198.fText y198.fKids).bind fun r197 => s_l03Size_L3 x0 x1 x2 x3 (w64 (x4 + r197)) (w64 (x5 + 1)) else some x4 else some x4 :=
  (den_run CC 25 (lbl CC 25 3) ⟨tmOf [(0, .pc [.int .i64 x0, .int .i64 x1, .str x2, .sl (.st 23) x3]), (3, .int .i64 x4), (4, .int .i64 x5)] 0 28, [], 0⟩ fun r => prjR GG [(.int .i64)] r.1).trans (by kernel_rfl)

theorem s_l03Shape_eq (x0 : Int) (x1 : Int) (x2 : (List UInt8)) (x3 : (List TExpr)) : s_l03Shape x0 x1 x2 x3 = if (x0 == 1) = true then if (x1 == 0) = true then if (len x3 == 0) = true then (s_CanQuote x2).bind fun r197 => some r197 else some (false) else some (false) else if (x0 == 2) = true then if (x2 == []) = true then if (len x3 == 0) = true then (s_l00In x1 0 1000000000000).bind fun r196 => some r196 else some (false) else some (false) else if (x0 == 3) = true then s_l03Shape_L13 x0 x1 x2 x3 0 else if (x0 == 16) = true then s_l03Shape_L13 x0 x1 x2 x3 0 else if (x0 == 17) = true then s_l03Shape_L13 x0 x1 x2 x3 0 else if (x0 == 18) = true then s_l03Shape_L13 x0 x1 x2 x3 0 else s_l03Shape_L14 x0 x1 x2 x3 (false) x0 :=
  (den_run CC 33 (bodyT CC 33) ⟨tmOf [(0, .pc [.int .i64 x0, .int .i64 x1, .str x2, .sl (.st 23) x3])] 0 145, [], 0⟩ fun r => prjR GG [.bool] r.1).trans (by kernel_rfl)

theorem s_l03Nodes_L4_eq (x0 : Int) (x1 : Int) (x2 : (List UInt8)) (x3 : (List TExpr)) (x4 : Int) : s_l03Nodes_L4 x0 x1 x2 x3 x4 = if (decide (x4 < len x3)) = true then ((idx x3 x4) : Option TExpr).bind fun y199 => (s_l03Nodes y199.fKind y199.fNum y199.fText y199.fKids).bind fun r198 => if (!r198) = true then some (false) else s_l03Nodes_L4 x0 x1 x2 x3 (w64 (x4 + 1)) else some (true) :=
  (den_run CC 26 (lbl CC 26 4) ⟨tmOf [(0, .pc [.int .i64 x0, .int .i64 x1, .str x2, .sl (.st 23) x3]), (3, .int .i64 x4)] 0 24, [], 0⟩ fun r => prjR GG [.bool] r.1).trans (by kernel_rfl)

theorem s_l03Put_eq (x0 : (List (List UInt8))) (x1 : (List UInt8)) : s_l03Put x0 x1 = s_l03Put_L4 x0 x1 (false) 0 ([]) :=
  (den_run CC 27 (bodyT CC 27) ⟨tmOf [(0, .sl .str x0), (1, .str x1)] 0 50, [], 0⟩ fun r => prjR GG [(.sl .str)] r.1).trans (by kernel_rfl)

theorem s_l03Names_L4_eq (x0 : Int) (x1 : Int) (x2 : (List UInt8)) (x3 : (List TExpr)) (x4 : Bool) (x5 : (List (List UInt8))) (x6 : Int) : s_l03Names_L4 x0 x1 x2 x3 x4 x5 x6 = if (decide (x6 < len x3)) = true then ((idx x3 x6) : Option TExpr).bind fun y199 => (s_l03Names y199.fKind y199.fNum y199.fText y199.fKids x4 x5).bind fun r198 => s_l03Names_L4 x0 x1 x2 x3 x4 r198 (w64 (x6 + 1)) else some x5 :=
  (den_run CC 18 (lbl CC 18 4) ⟨tmOf [(0, .pc [.int .i64 x0, .int .i64 x1, .str x2, .sl (.st 23) x3]), (1, .bool x4), (2, .sl .str x5), (7, .int .i64 x6)] 0 54, [], 0⟩ fun r => prjR GG [(.sl .str)] r.1).trans (by kernel_rfl)

theorem i_Expr_hasFields_eq (x0 : TExpr) : i_Expr_hasFields x0 = if (x0.fKind == 1) = true then if (len x0.fKids == 0) = true then if (x0.fNum == 0) = true then (i_CanQuote x0.fText).bind fun r197 => some r197 else some (false) else some (false) else if (x0.fKind == 2) = true then if (len x0.fKids == 0) = true then if (x0.fText == []) = true then (i_isNumber x0.fNum).bind fun r196 => some r196 else some (false) else some (false) else if (x0.fKind == 3) = true then if (len x0.fKids == 0) = true then if (x0.fNum == 0) = true then (i_IsName x0.fText).bind fun r195 => some r195 else some (false) else some (false) else (i_isNamed x0.fKind).bind fun r197 => if r197 = true then if (len x0.fKids == 0) = true then if (x0.fNum == 0) = true then (i_IsName x0.fText).bind fun r193 => some r193 else some (false) else some (false) else if (x0.fKind == 4) = true then if (decide (len x0.fKids ≤ 6)) = true then if (x0.fNum == 0) = true then (i_IsName x0.fText).bind fun r192 => some r192 else some (false) else some (false) else if (x0.fNum != 0) = true then i_Expr_hasFields_L11 else if (!x0.fText == []) = true then i_Expr_hasFields_L11 else i_Expr_hasFields_L12 (len x0.fKids) x0.fKind x0.fNum x0.fText x0.fKids :=
  (den_run CC 34 (bodyT CC 34) ⟨tmOf [(0, .st 23 x0)] 0 116, [], 0⟩ fun r => prjR GG [.bool] r.1).trans (by kernel_rfl)

theorem i_countNodes_L5_eq (x0 : Int) (x1 : (List TExpr)) (x2 : Int) (x3 : Int) : i_countNodes_L5 x0 x1 x2 x3 = if (decide (x3 < x2)) = true then ((idx x1 x3) : Option TExpr).bind fun y199 => (i_countNodes y199.re x0).bind fun r198 => if (decide (r198 > 60)) = true then some r198 else i_countNodes_L5 r198 x1 x2 (w64 (x3 + 1)) else some x0 :=
  (den_run CC 28 (lbl CC 28 5) ⟨tmOf [(1, .int .i64 x0), (17, .sl (.st 23) x1), (18, .int .i64 x2), (19, .int .i64 x3)] 0 30, [], 0⟩ fun r => prjR GG [(.int .i64)] r.1).trans (by kernel_rfl)

theorem i_namesOf_c1_eq (x0 : TExpr) (x1 : Bool) (x2 : (List (List UInt8))) : i_namesOf_c1 x0 x1 x2 = if (x0.fKind == 4) = true then if x1 = true then i_namesOf_c1_L2 x1 x2 x0.fKind x0.fNum x0.fText x0.fKids else if (x0.fKind == 3) = true then if (!x1) = true then i_namesOf_c1_L2 x1 x2 x0.fKind x0.fNum x0.fText x0.fKids else some ((), (((x1), ()), ((x2), ()), ())) else (i_isNamed x0.fKind).bind fun r197 => if r197 = true then if (!x1) = true then i_namesOf_c1_L2 x1 x2 x0.fKind x0.fNum x0.fText x0.fKids else some ((), (((x1), ()), ((x2), ()), ())) else some ((), (((x1), ()), ((x2), ()), ())) else if (x0.fKind == 3) = true then if (!x1) = true then i_namesOf_c1_L2 x1 x2 x0.fKind x0.fNum x0.fText x0.fKids else some ((), (((x1), ()), ((x2), ()), ())) else (i_isNamed x0.fKind).bind fun r198 => if r198 = true then if (!x1) = true then i_namesOf_c1_L2 x1 x2 x0.fKind x0.fNum x0.fText x0.fKids else some ((), (((x1), ()), ((x2), ()), ())) else some ((), (((x1), ()), ((x2), ()), ())) :=
  (den_run CC 30 (bodyT CC 30) ⟨tmOf [(0, .st 23 x0), (1, .ref 0 0), (2, .ref 1 0)] 0 29, [.box 4 [.bool x1] false, .box 26 [.arr 2] false, .arr 9 .str x2 false], 2⟩ fun r => prjRB GG [] [[.im .bool], [.ow 9 .str]] r).trans (by kernel_rfl)

theorem i_Expr_eachNode_L3__i_namesOf_c1_eq (x0 : (List TExpr)) (x1 : Int) (x2 : Int) (x3 : Bool) (x4 : (List (List UInt8))) : i_Expr_eachNode_L3__i_namesOf_c1 x0 x1 x2 x3 x4 = if (decide (x2 < x1)) = true then ((idx x0 x2) : Option TExpr).bind fun y199 => (i_Expr_eachNode__i_namesOf_c1 y199.re x3 x4).bind fun r198 => i_Expr_eachNode_L3__i_namesOf_c1 x0 x1 (w64 (x2 + 1)) (Prod.fst (Prod.fst (Prod.snd r198))) (Prod.fst (Prod.fst (Prod.snd (Prod.snd r198)))) else some ((), (((x3), ()), ((x4), ()), ())) :=
  (den_run CC 29 (lbl CC 29 3) ⟨tmOf [(1, .fn 30 [.ref 0 0, .ref 1 0]), (10, .sl (.st 23) x0), (11, .int .i64 x1), (12, .int .i64 x2)] 0 20, [.box 4 [.bool x3] false, .box 26 [.arr 2] false, .arr 9 .str x4 false], 2⟩ fun r => prjRB GG [] [[.im .bool], [.ow 9 .str]] r).trans (by kernel_rfl)

theorem l_markText_L4_eq (x0 : Int) (x1 : (List UInt8)) : l_markText_L4 x0 x1 = if (decide (x0 > 0)) = true then ((rem x0 10) : Option Int).bind fun y199 => ((app (List.map (fun (n : Int) ↦ UInt8.ofNat (Int.toNat n)) [Go.IntKind.wrap Go.IntKind.u8 (w64 (48 + y199))]) x1) : Option (List UInt8)).bind fun y198 => ((quo Go.IntKind.i64 x0 10) : Option Int).bind fun y197 => l_markText_L4 y197 y198 else ((app ([109]) x1) : Option (List UInt8)).bind fun y199 => some y199 :=
  (den_run CC 24 (lbl CC 24 4) ⟨tmOf [(0, .int .i64 x0), (3, .str x1)] 0 20, [], 0⟩ fun r => prjR GG [.str] r.1).trans (by kernel_rfl)

theorem s_CanQuote_eq (x0 : (List UInt8)) : s_CanQuote x0 = if (decide (len x0 ≤ 200)) = true then (s_l01Printable x0 (false)).bind fun r199 => if r199 = true then (s_l02Holds x0 39).bind fun r197 => if r197 = true then (s_l02Holds x0 34).bind fun r195 => some (!r195) else some (true) else some (false) else some (false) :=
  (den_run CC 38 (bodyT CC 38) ⟨tmOf [(0, .str x0)] 0 19, [], 0⟩ fun r => prjR GG [.bool] r.1).trans (by kernel_rfl)

theorem s_l00In_eq (x0 : Int) (x1 : Int) (x2 : Int) : s_l00In x0 x1 x2 = if (decide (x0 ≥ x1)) = true then some (decide (x0 ≤ x2)) else some (false) :=
  (den_run CC 39 (bodyT CC 39) ⟨tmOf [(0, .int .i64 x0), (1, .int .i64 x1), (2, .int .i64 x2)] 0 15, [], 0⟩ fun r => prjR GG [.bool] r.1).trans (by kernel_rfl)

theorem s_l03Shape_L13_eq (x0 : Int) (x1 : Int) (x2 : (List UInt8)) (x3 : (List TExpr)) (x4 : Int) : s_l03Shape_L13 x0 x1 x2 x3 x4 = s_l03Shape_L32 x0 x1 x2 x3 x4 (true) :=
  (den_run CC 33 (lbl CC 33 13) ⟨tmOf [(0, .pc [.int .i64 x0, .int .i64 x1, .str x2, .sl (.st 23) x3]), (3, .int .i64 x4)] 0 145, [], 0⟩ fun r => prjR GG [.bool] r.1).trans (by kernel_rfl)

theorem s_l03Shape_L14_eq (x0 : Int) (x1 : Int) (x2 : (List UInt8)) (x3 : (List TExpr)) (x4 : Bool) (x5 : Int) : s_l03Shape_L14 x0 x1 x2 x3 x4 x5 = if (x5 == 4) = true then if (x1 == 0) = true then (s_IsName x2).bind fun r198 => if r198 = true then some (decide (len x3 ≤ 6)) else some (false) else some (false) else if (x5 == 14) = true then s_l03Shape_L32 x0 x1 x2 x3 1 x4 else if (x5 == 15) = true then s_l03Shape_L32 x0 x1 x2 x3 1 x4 else if (x5 == 5) = true then s_l03Shape_L26 x0 x1 x2 x3 x4 else if (x5 == 6) = true then s_l03Shape_L26 x0 x1 x2 x3 x4 else if (x5 == 7) = true then s_l03Shape_L26 x0 x1 x2 x3 x4 else if (x5 == 8) = true then s_l03Shape_L26 x0 x1 x2 x3 x4 else if (x5 == 9) = true then s_l03Shape_L26 x0 x1 x2 x3 x4 else if (x5 == 10) = true then s_l03Shape_L26 x0 x1 x2 x3 x4 else if (x5 == 11) = true then s_l03Shape_L26 x0 x1 x2 x3 x4 else s_l03Shape_L27 x0 x1 x2 x3 x4 x5 :=
  (den_run CC 33 (lbl CC 33 14) ⟨tmOf [(0, .pc [.int .i64 x0, .int .i64 x1, .str x2, .sl (.st 23) x3]), (4, .bool x4), (8, .int .i64 x5)] 0 145, [], 0⟩ fun r => prjR GG [.bool] r.1).trans (by kernel_rfl)

theorem s_l03Put_L4_eq (x0 : (List (List UInt8))) (x1 : (List UInt8)) (x2 : Bool) (x3 : Int) (x4 : (List (List UInt8))) : s_l03Put_L4 x0 x1 x2 x3 x4 = if (decide (x3 < len x0)) = true then ((idx x0 x3) : Option (List UInt8)).bind fun y199 => if (y199 == x1) = true then some x0 else if (!x2) = true then ((idx x0 x3) : Option (List UInt8)).bind fun y196 => if (!(Go.Op.bytesLess y196 x1 || y196 == x1)) = true then ((app x4 [x1]) : Option (List (List UInt8))).bind fun y194 => s_l03Put_L11 x0 x1 (true) x3 y194 else s_l03Put_L11 x0 x1 x2 x3 x4 else s_l03Put_L11 x0 x1 x2 x3 x4 else if (!x2) = true then ((app x4 [x1]) : Option (List (List UInt8))).bind fun y198 => some y198 else some x4 :=
  (den_run CC 27 (lbl CC 27 4) ⟨tmOf [(0, .sl .str x0), (1, .str x1), (5, .arr 0), (6, .bool x2), (7, .int .i64 x3)] 0 50, [.arr 9 .str x4 false], 0⟩ fun r => prjR GG [(.sl .str)] r.1).trans (by kernel_rfl)

theorem i_CanQuote_eq (x0 : (List UInt8)) : i_CanQuote x0 = if (decide (len x0 ≤ 200)) = true then (i_isPlainText x0).bind fun r199 => if r199 = true then ((containsS x0 ([39])) : Option Bool).bind fun y197 => if y197 = true then ((containsS x0 ([34])) : Option Bool).bind fun y195 => some (!y195) else some (true) else some (false) else some (false) :=
  (den_run CC 41 (bodyT CC 41) ⟨tmOf [(0, .str x0)] 0 19, [], 0⟩ fun r => prjR GG [.bool] r.1).trans (by kernel_rfl)

theorem i_isNumber_eq (x0 : Int) : i_isNumber x0 = (i_within x0 0 1000000000000).bind fun r200 => some r200 :=
  (den_run CC 42 (bodyT CC 42) ⟨tmOf [(0, .int .i64 x0)] 0 5, [], 0⟩ fun r => prjR GG [.bool] r.1).trans (by kernel_rfl)

theorem i_IsName_eq (x0 : (List UInt8)) : i_IsName x0 = if (decide (len x0 ≥ 1)) = true then if (decide (len x0 ≤ 12)) = true then ((idx x0 0) : Option UInt8).bind fun y198 => (i_isLetter (ib y198)).bind fun r197 => if r197 = true then (i_areAll_byte__i_isNameByte (List.map (fun (b : UInt8) ↦ ib b) x0)).bind fun r195 => some r195 else some (false) else some (false) else some (false) :=
  (den_run CC 43 (bodyT CC 43) ⟨tmOf [(0, .str x0)] 0 21, [], 0⟩ fun r => prjR GG [.bool] r.1).trans (by kernel_rfl)

theorem i_isNamed_eq (x0 : Int) : i_isNamed x0 = (i_within x0 16 18).bind fun r200 => some r200 :=
  (den_run CC 31 (bodyT CC 31) ⟨tmOf [(0, .int .i64 x0)] 0 5, [], 0⟩ fun r => prjR GG [.bool] r.1).trans (by kernel_rfl)

theorem i_Expr_hasFields_L11_eq : i_Expr_hasFields_L11 = some (false) :=
  (den_run CC 34 (lbl CC 34 11) ⟨tmOf [] 0 116, [], 0⟩ fun r => prjR GG [.bool] r.1).trans (by kernel_rfl)

theorem i_Expr_hasFields_L12_eq (x0 : Int) (x1 : Int) (x2 : Int) (x3 : (List UInt8)) (x4 : (List TExpr)) : i_Expr_hasFields_L12 x0 x1 x2 x3 x4 = if (x1 == 12) = true then if (x0 == 2) = true then ((idx x4 1) : Option TExpr).bind fun y198 => some (y198.fKind == 3) else some (false) else if (x1 == 13) = true then if (x0 == 2) = true then ((idx x4 1) : Option TExpr).bind fun y197 => some (y197.fKind == 3) else some (false) else if (x1 == 14) = true then i_Expr_hasFields_L18 x0 else if (x1 == 15) = true then i_Expr_hasFields_L18 x0 else i_Expr_hasFields_L19 x0 x1 x2 x3 x4 :=
  (den_run CC 34 (lbl CC 34 12) ⟨tmOf [(1, .ref 0 0), (3, .int .i64 x0)] 0 116, [.box 30 [.int .i64 x1, .int .i64 x2, .str x3, .sl (.st 23) x4] false], 0⟩ fun r => prjR GG [.bool] r.1).trans (by kernel_rfl)

theorem i_namesOf_c1_L2_eq (x0 : Bool) (x1 : (List (List UInt8))) (x2 : Int) (x3 : Int) (x4 : (List UInt8)) (x5 : (List TExpr)) : i_namesOf_c1_L2 x0 x1 x2 x3 x4 x5 = ((app x1 [x4]) : Option (List (List UInt8))).bind fun y200 => some ((), (((x0), ()), ((y200), ()), ())) :=
  (den_run CC 30 (lbl CC 30 2) ⟨tmOf [(2, .ref 1 0), (3, .ref 3 0)] 0 29, [.box 4 [.bool x0] false, .box 26 [.arr 2] false, .arr 9 .str x1 false, .box 30 [.int .i64 x2, .int .i64 x3, .str x4, .sl (.st 23) x5] false], 2⟩ fun r => prjRB GG [] [[.im .bool], [.ow 9 .str]] r).trans (by kernel_rfl)

theorem s_l01Printable_eq (x0 : (List UInt8)) (x1 : Bool) : s_l01Printable x0 x1 = s_l01Printable_L2 x0 x1 0 :=
  (den_run CC 47 (bodyT CC 47) ⟨tmOf [(0, .str x0), (1, .bool x1)] 0 32, [], 0⟩ fun r => prjR GG [.bool] r.1).trans (by kernel_rfl)

theorem s_l02Holds_eq (x0 : (List UInt8)) (x1 : Int) : s_l02Holds x0 x1 = s_l02Holds_L2 x0 x1 0 :=
  (den_run CC 48 (bodyT CC 48) ⟨tmOf [(0, .str x0), (1, .int .u8 x1)] 0 17, [], 0⟩ fun r => prjR GG [.bool] r.1).trans (by kernel_rfl)

theorem s_l03Shape_L32_eq (x0 : Int) (x1 : Int) (x2 : (List UInt8)) (x3 : (List TExpr)) (x4 : Int) (x5 : Bool) : s_l03Shape_L32 x0 x1 x2 x3 x4 x5 = if (x1 == 0) = true then if (len x3 == x4) = true then if x5 = true then (s_IsName x2).bind fun r197 => if r197 = true then some (true) else if (!x5) = true then some (x2 == []) else some (false) else if (!x5) = true then some (x2 == []) else some (false) else some (false) else some (false) :=
  (den_run CC 33 (lbl CC 33 32) ⟨tmOf [(0, .pc [.int .i64 x0, .int .i64 x1, .str x2, .sl (.st 23) x3]), (3, .int .i64 x4), (4, .bool x5)] 0 145, [], 0⟩ fun r => prjR GG [.bool] r.1).trans (by kernel_rfl)

theorem s_IsName_eq (x0 : (List UInt8)) : s_IsName x0 = if (!x0 == []) = true then if (decide (len x0 ≤ 12)) = true then (s_l02NameEnd x0 0).bind fun r198 => some (r198 == len x0) else some (false) else some (false) :=
  (den_run CC 40 (bodyT CC 40) ⟨tmOf [(0, .str x0)] 0 17, [], 0⟩ fun r => prjR GG [.bool] r.1).trans (by kernel_rfl)

theorem s_l03Shape_L26_eq (x0 : Int) (x1 : Int) (x2 : (List UInt8)) (x3 : (List TExpr)) (x4 : Bool) : s_l03Shape_L26 x0 x1 x2 x3 x4 = s_l03Shape_L32 x0 x1 x2 x3 2 x4 :=
  (den_run CC 33 (lbl CC 33 26) ⟨tmOf [(0, .pc [.int .i64 x0, .int .i64 x1, .str x2, .sl (.st 23) x3]), (4, .bool x4)] 0 145, [], 0⟩ fun r => prjR GG [.bool] r.1).trans (by kernel_rfl)

theorem s_l03Shape_L27_eq (x0 : Int) (x1 : Int) (x2 : (List UInt8)) (x3 : (List TExpr)) (x4 : Bool) (x5 : Int) : s_l03Shape_L27 x0 x1 x2 x3 x4 x5 = if (x5 == 12) = true then if (len x3 == 2) = true then ((idx x3 1) : Option TExpr).bind fun y198 => if (y198.fKind != 3) = true then s_l03Shape_L31 else s_l03Shape_L32 x0 x1 x2 x3 2 x4 else s_l03Shape_L32 x0 x1 x2 x3 2 x4 else if (x5 == 13) = true then if (len x3 == 2) = true then ((idx x3 1) : Option TExpr).bind fun y197 => if (y197.fKind != 3) = true then s_l03Shape_L31 else s_l03Shape_L32 x0 x1 x2 x3 2 x4 else s_l03Shape_L32 x0 x1 x2 x3 2 x4 else some (false) :=
  (den_run CC 33 (lbl CC 33 27) ⟨tmOf [(0, .pc [.int .i64 x0, .int .i64 x1, .str x2, .sl (.st 23) x3]), (4, .bool x4), (8, .int .i64 x5)] 0 145, [], 0⟩ fun r => prjR GG [.bool] r.1).trans (by kernel_rfl)

theorem s_l03Put_L11_eq (x0 : (List (List UInt8))) (x1 : (List UInt8)) (x2 : Bool) (x3 : Int) (x4 : (List (List UInt8))) : s_l03Put_L11 x0 x1 x2 x3 x4 = ((idx x0 x3) : Option (List UInt8)).bind fun y200 => ((app x4 [y200]) : Option (List (List UInt8))).bind fun y199 => s_l03Put_L4 x0 x1 x2 (w64 (x3 + 1)) y199 :=
  (den_run CC 27 (lbl CC 27 11) ⟨tmOf [(0, .sl .str x0), (1, .str x1), (5, .arr 0), (6, .bool x2), (7, .int .i64 x3)] 0 50, [.arr 9 .str x4 false], 0⟩ fun r => prjR GG [(.sl .str)] r.1).trans (by kernel_rfl)

theorem i_isPlainText_eq (x0 : (List UInt8)) : i_isPlainText x0 = (i_areAll_byte__i_isPlain (List.map (fun (b : UInt8) ↦ ib b) x0)).bind fun r200 => some r200 :=
  (den_run CC 50 (bodyT CC 50) ⟨tmOf [(0, .str x0)] 0 6, [], 0⟩ fun r => prjR GG [.bool] r.1).trans (by kernel_rfl)

theorem i_within_eq (x0 : Int) (x1 : Int) (x2 : Int) : i_within x0 x1 x2 = if (decide (x0 ≥ x1)) = true then some (decide (x0 ≤ x2)) else some (false) :=
  (den_run CC 35 (bodyT CC 35) ⟨tmOf [(0, .int .i64 x0), (1, .int .i64 x1), (2, .int .i64 x2)] 0 15, [], 0⟩ fun r => prjR GG [.bool] r.1).trans (by kernel_rfl)

theorem i_isLetter_eq (x0 : Int) : i_isLetter x0 = if (decide (x0 ≥ 65)) = true then if (decide (x0 ≤ 90)) = true then some (true) else if (decide (x0 ≥ 97)) = true then some (decide (x0 ≤ 122)) else some (false) else if (decide (x0 ≥ 97)) = true then some (decide (x0 ≤ 122)) else some (false) :=
  (den_run CC 52 (bodyT CC 52) ⟨tmOf [(0, .int .u8 x0)] 0 17, [], 0⟩ fun r => prjR GG [.bool] r.1).trans (by kernel_rfl)

theorem i_areAll_byte__i_isNameByte_eq (x0 : (List Int)) : i_areAll_byte__i_isNameByte x0 = i_areAll_byte_L2__i_isNameByte x0 (len x0) 0 :=
  (den_run CC 53 (bodyT CC 53) ⟨tmOf [(0, .sl (.int .u8) x0), (1, .fn 54 [])] 0 18, [], 0⟩ fun r => prjR GG [.bool] r.1).trans (by kernel_rfl)

theorem i_Expr_hasFields_L18_eq (x0 : Int) : i_Expr_hasFields_L18 x0 = some (x0 == 1) :=
  (den_run CC 34 (lbl CC 34 18) ⟨tmOf [(3, .int .i64 x0)] 0 116, [], 0⟩ fun r => prjR GG [.bool] r.1).trans (by kernel_rfl)

theorem i_Expr_hasFields_L19_eq (x0 : Int) (x1 : Int) (x2 : Int) (x3 : (List UInt8)) (x4 : (List TExpr)) : i_Expr_hasFields_L19 x0 x1 x2 x3 x4 = if (x0 == 2) = true then if (x1 == 5) = true then some (true) else (i_isBinary x1).bind fun r198 => some r198 else some (false) :=
  (den_run CC 34 (lbl CC 34 19) ⟨tmOf [(1, .ref 0 0), (3, .int .i64 x0)] 0 116, [.box 30 [.int .i64 x1, .int .i64 x2, .str x3, .sl (.st 23) x4] false], 0⟩ fun r => prjR GG [.bool] r.1).trans (by kernel_rfl)

theorem s_l01Printable_L2_eq (x0 : (List UInt8)) (x1 : Bool) (x2 : Int) : s_l01Printable_L2 x0 x1 x2 = if (decide (x2 < len x0)) = true then ((idx x0 x2) : Option UInt8).bind fun y199 => if (decide (ib y199 < 32)) = true then if x1 = true then ((idx x0 x2) : Option UInt8).bind fun y196 => if (!ib y196 == 10) = true then s_l01Printable_L5 else s_l01Printable_L3 x0 x1 x2 else s_l01Printable_L5 else ((idx x0 x2) : Option UInt8).bind fun y197 => if (decide (ib y197 > 126)) = true then if x1 = true then ((idx x0 x2) : Option UInt8).bind fun y194 => if (!ib y194 == 10) = true then s_l01Printable_L5 else s_l01Printable_L3 x0 x1 x2 else s_l01Printable_L5 else s_l01Printable_L3 x0 x1 x2 else some (true) :=
  (den_run CC 47 (lbl CC 47 2) ⟨tmOf [(0, .str x0), (1, .bool x1), (5, .int .i64 x2)] 0 32, [], 0⟩ fun r => prjR GG [.bool] r.1).trans (by kernel_rfl)

theorem s_l02Holds_L2_eq (x0 : (List UInt8)) (x1 : Int) (x2 : Int) : s_l02Holds_L2 x0 x1 x2 = if (decide (x2 < len x0)) = true then ((idx x0 x2) : Option UInt8).bind fun y199 => if (ib y199 == x1) = true then some (true) else s_l02Holds_L2 x0 x1 (w64 (x2 + 1)) else some (false) :=
  (den_run CC 48 (lbl CC 48 2) ⟨tmOf [(0, .str x0), (1, .int .u8 x1), (5, .int .i64 x2)] 0 17, [], 0⟩ fun r => prjR GG [.bool] r.1).trans (by kernel_rfl)

theorem s_l02NameEnd_eq (x0 : (List UInt8)) (x1 : Int) : s_l02NameEnd x0 x1 = if (decide (x1 ≥ len x0)) = true then some x1 else ((idx x0 x1) : Option UInt8).bind fun y199 => (s_l02Letter (ib y199)).bind fun r198 => if (!r198) = true then some x1 else s_l02NameEnd_L3 x0 x1 :=
  (den_run CC 49 (bodyT CC 49) ⟨tmOf [(0, .str x0), (1, .int .i64 x1)] 0 42, [], 0⟩ fun r => prjR GG [(.int .i64)] r.1).trans (by kernel_rfl)

theorem s_l03Shape_L31_eq : s_l03Shape_L31 = some (false) :=
  (den_run CC 33 (lbl CC 33 31) ⟨tmOf [] 0 145, [], 0⟩ fun r => prjR GG [.bool] r.1).trans (by kernel_rfl)

theorem i_areAll_byte__i_isPlain_eq (x0 : (List Int)) : i_areAll_byte__i_isPlain x0 = i_areAll_byte_L2__i_isPlain x0 (len x0) 0 :=
  (den_run CC 53 (bodyT CC 53) ⟨tmOf [(0, .sl (.int .u8) x0), (1, .fn 68 [])] 0 18, [], 0⟩ fun r => prjR GG [.bool] r.1).trans (by kernel_rfl)

theorem i_areAll_byte_L2__i_isNameByte_eq (x0 : (List Int)) (x1 : Int) (x2 : Int) : i_areAll_byte_L2__i_isNameByte x0 x1 x2 = if (decide (x2 < x1)) = true then ((idx x0 x2) : Option Int).bind fun y199 => (i_isNameByte y199).bind fun r198 => if (!r198) = true then some (false) else i_areAll_byte_L2__i_isNameByte x0 x1 (w64 (x2 + 1)) else some (true) :=
  (den_run CC 53 (lbl CC 53 2) ⟨tmOf [(1, .fn 54 []), (7, .sl (.int .u8) x0), (8, .int .i64 x1), (9, .int .i64 x2)] 0 18, [], 0⟩ fun r => prjR GG [.bool] r.1).trans (by kernel_rfl)

theorem i_isBinary_eq (x0 : Int) : i_isBinary x0 = (i_within x0 6 13).bind fun r200 => some r200 :=
  (den_run CC 44 (bodyT CC 44) ⟨tmOf [(0, .int .i64 x0)] 0 5, [], 0⟩ fun r => prjR GG [.bool] r.1).trans (by kernel_rfl)

theorem s_l01Printable_L5_eq : s_l01Printable_L5 = some (false) :=
  (den_run CC 47 (lbl CC 47 5) ⟨tmOf [] 0 32, [], 0⟩ fun r => prjR GG [.bool] r.1).trans (by kernel_rfl)

theorem s_l01Printable_L3_eq (x0 : (List UInt8)) (x1 : Bool) (x2 : Int) : s_l01Printable_L3 x0 x1 x2 = s_l01Printable_L2 x0 x1 (w64 (x2 + 1)) :=
  (den_run CC 47 (lbl CC 47 3) ⟨tmOf [(0, .str x0), (1, .bool x1), (5, .int .i64 x2)] 0 32, [], 0⟩ fun r => prjR GG [.bool] r.1).trans (by kernel_rfl)

theorem s_l02Letter_eq (x0 : Int) : s_l02Letter x0 = if (decide (x0 ≥ 65)) = true then if (decide (x0 ≤ 90)) = true then some (true) else if (decide (x0 ≥ 97)) = true then some (decide (x0 ≤ 122)) else some (false) else if (decide (x0 ≥ 97)) = true then some (decide (x0 ≤ 122)) else some (false) :=
  (den_run CC 66 (bodyT CC 66) ⟨tmOf [(0, .int .u8 x0)] 0 17, [], 0⟩ fun r => prjR GG [.bool] r.1).trans (by kernel_rfl)

theorem s_l02NameEnd_L3_eq (x0 : (List UInt8)) (x1 : Int) : s_l02NameEnd_L3 x0 x1 = if (decide (x1 < len x0)) = true then ((idx x0 x1) : Option UInt8).bind fun y199 => (s_l02Letter (ib y199)).bind fun r198 => if r198 = true then s_l02NameEnd_L4 x0 x1 else ((idx x0 x1) : Option UInt8).bind fun y196 => (s_l02Digit (ib y196)).bind fun r195 => if r195 = true then s_l02NameEnd_L4 x0 x1 else ((idx x0 x1) : Option UInt8).bind fun y193 => if (ib y193 == 95) = true then s_l02NameEnd_L4 x0 x1 else s_l02NameEnd_L5 x1 else s_l02NameEnd_L5 x1 :=
  (den_run CC 49 (lbl CC 49 3) ⟨tmOf [(0, .str x0), (1, .int .i64 x1)] 0 42, [], 0⟩ fun r => prjR GG [(.int .i64)] r.1).trans (by kernel_rfl)

theorem i_areAll_byte_L2__i_isPlain_eq (x0 : (List Int)) (x1 : Int) (x2 : Int) : i_areAll_byte_L2__i_isPlain x0 x1 x2 = if (decide (x2 < x1)) = true then ((idx x0 x2) : Option Int).bind fun y199 => (i_isPlain y199).bind fun r198 => if (!r198) = true then some (false) else i_areAll_byte_L2__i_isPlain x0 x1 (w64 (x2 + 1)) else some (true) :=
  (den_run CC 53 (lbl CC 53 2) ⟨tmOf [(1, .fn 68 []), (7, .sl (.int .u8) x0), (8, .int .i64 x1), (9, .int .i64 x2)] 0 18, [], 0⟩ fun r => prjR GG [.bool] r.1).trans (by kernel_rfl)

theorem i_isNameByte_eq (x0 : Int) : i_isNameByte x0 = (i_isLetter x0).bind fun r200 => if r200 = true then some (true) else (i_isDigit x0).bind fun r198 => if r198 = true then some (true) else some (x0 == 95) :=
  (den_run CC 54 (bodyT CC 54) ⟨tmOf [(0, .int .u8 x0)] 0 13, [], 0⟩ fun r => prjR GG [.bool] r.1).trans (by kernel_rfl)

theorem s_l02NameEnd_L4_eq (x0 : (List UInt8)) (x1 : Int) : s_l02NameEnd_L4 x0 x1 = s_l02NameEnd_L3 x0 (w64 (x1 + 1)) :=
  (den_run CC 49 (lbl CC 49 4) ⟨tmOf [(0, .str x0), (1, .int .i64 x1)] 0 42, [], 0⟩ fun r => prjR GG [(.int .i64)] r.1).trans (by kernel_rfl)

theorem s_l02Digit_eq (x0 : Int) : s_l02Digit x0 = if (decide (x0 ≥ 48)) = true then some (decide (x0 ≤ 57)) else some (false) :=
  (den_run CC 67 (bodyT CC 67) ⟨tmOf [(0, .int .u8 x0)] 0 9, [], 0⟩ fun r => prjR GG [.bool] r.1).trans (by kernel_rfl)

theorem s_l02NameEnd_L5_eq (x0 : Int) : s_l02NameEnd_L5 x0 = some x0 :=
  (den_run CC 49 (lbl CC 49 5) ⟨tmOf [(1, .int .i64 x0)] 0 42, [], 0⟩ fun r => prjR GG [(.int .i64)] r.1).trans (by kernel_rfl)

theorem i_isPlain_eq (x0 : Int) : i_isPlain x0 = if (decide (x0 ≥ 32)) = true then some (decide (x0 ≤ 126)) else some (false) :=
  (den_run CC 68 (bodyT CC 68) ⟨tmOf [(0, .int .u8 x0)] 0 9, [], 0⟩ fun r => prjR GG [.bool] r.1).trans (by kernel_rfl)

theorem i_isDigit_eq (x0 : Int) : i_isDigit x0 = if (decide (x0 ≥ 48)) = true then some (decide (x0 ≤ 57)) else some (false) :=
  (den_run CC 70 (bodyT CC 70) ⟨tmOf [(0, .int .u8 x0)] 0 9, [], 0⟩ fun r => prjR GG [.bool] r.1).trans (by kernel_rfl)
end Go.Dv.U
