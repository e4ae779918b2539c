/- The functions of the program as equations on plain data, each checked by the kernel. -/
import Derived.Test.YthifliapgmalpaaGreatExa
set_option linter.all false
set_option linter.unusedVariables false
set_option linter.unusedSimpArgs false
namespace Go.Dv.U
open Go Go.Dv Go.Proofs
set_option maxRecDepth 100000
noncomputable def l_FnExactScopeRoots (x0 : TScope) : Option (Bool) := (Den CC 3 (bodyT CC 3) ⟨tmOf [(0, .st 25 x0)] 0 69, [], 0⟩).bind fun r => prjR GG [.bool] r.1

noncomputable def l_szScope (x0 : TScope) (x1 : Int) : Option (Int) := (Den CC 4 (bodyT CC 4) ⟨tmOf [(0, .st 25 x0), (1, .int .i64 x1)] 0 24, [], 0⟩).bind fun r => prjR GG [(.int .i64)] r.1

noncomputable def l_toScope_v1 (x0 : TScope) : Option ((((List TBinding) × (List TFunction) × (List TRecordType) × Unit) × Unit)) := (Den CC 6 (bodyT CC 6) ⟨tmOf [(0, .st 25 x0)] 0 17, [], 0⟩).bind fun r => prjO GG [(true, [.ow 48 (.st 47), .tw 75 (.st 67), .tw 77 (.st 70)])] r

noncomputable def s_ScopeRoots (x0 : TScope) : Option ((List TValue)) := (Den CC 5 (bodyT CC 5) ⟨tmOf [(0, .st 25 x0)] 0 26, [], 0⟩).bind fun r => prjR GG [(.sl (.st 45))] r.1

noncomputable def i_ScopeRoots (x0 : TScope) : Option ((((List TValue) × Unit) × Unit)) := (Den CC 7 (bodyT CC 7) ⟨tmOf [(0, .st 25 x0)] 0 8, [], 0⟩).bind fun r => prjO GG [(false, [.ow 46 (.st 45)])] r

noncomputable def l_eqValueS (x0 : (List TValue)) (x1 : (List TValue)) : Option (Bool) := (Den CC 8 (bodyT CC 8) ⟨tmOf [(0, .sl (.st 45) x0), (1, .sl (.st 45) x1)] 0 27, [], 0⟩).bind fun r => prjR GG [.bool] r.1

noncomputable def l_eqScope (x0 : TScope) (x1 : TScope) : Option (Bool) := (Den CC 9 (bodyT CC 9) ⟨tmOf [(0, .st 25 x0), (1, .st 25 x1)] 0 23, [], 0⟩).bind fun r => prjR GG [.bool] r.1

noncomputable def l_markScope (x0 : Int) (x1 : (List TBinding)) (x2 : (List TFunction)) (x3 : (List TRecordType)) : Option ((Int) × ((List TBinding) × (List TFunction) × (List TRecordType) × Unit)) := (Den CC 10 (bodyT CC 10) ⟨tmOf [(0, .ag [.arr 0, .arr 1, .arr 2]), (1, .int .i64 x0)] 0 18, [.arr 48 (.st 47) x1 false, .tr 75 (.st 67) x2 [], .tr 77 (.st 70) x3 []], 3⟩).bind fun r => prjW GG [(.int .i64)] [.ow 48 (.st 47), .tw 75 (.st 67), .tw 77 (.st 70)] r

noncomputable def l_markValueS (x0 : Int) (x1 : (List TValue)) : Option ((Int) × ((List TValue) × Unit)) := (Den CC 11 (bodyT CC 11) ⟨tmOf [(0, .arr 0), (1, .int .i64 x0)] 0 42, [.arr 46 (.st 45) x1 false], 1⟩).bind fun r => prjW GG [(.int .i64)] [.ow 46 (.st 45)] r

noncomputable def l_heldValueS (x0 : (List TValue)) (x1 : Int) : Option (Int) := (Den CC 12 (bodyT CC 12) ⟨tmOf [(0, .sl (.st 45) x0), (1, .int .i64 x1)] 0 50, [], 0⟩).bind fun r => prjR GG [(.int .i64)] r.1

noncomputable def l_szBindingS (x0 : (List TBinding)) (x1 : Int) : Option (Int) := (Den CC 13 (bodyT CC 13) ⟨tmOf [(0, .sl (.st 47) x0), (1, .int .i64 x1)] 0 27, [], 0⟩).bind fun r => prjR GG [(.int .i64)] r.1

noncomputable def l_szFunctionS (x0 : (List TFunction)) (x1 : Int) : Option (Int) := (Den CC 14 (bodyT CC 14) ⟨tmOf [(0, .sl (.st 67) x0), (1, .int .i64 x1)] 0 27, [], 0⟩).bind fun r => prjR GG [(.int .i64)] r.1

noncomputable def l_szRecordTypeS (x0 : (List TRecordType)) (x1 : Int) : Option (Int) := (Den CC 15 (bodyT CC 15) ⟨tmOf [(0, .sl (.st 70) x0), (1, .int .i64 x1)] 0 27, [], 0⟩).bind fun r => prjR GG [(.int .i64)] r.1

noncomputable def l_toBindingS_v1 (x0 : (List TBinding)) : Option ((((List TBinding) × Unit) × Unit)) := (Den CC 17 (bodyT CC 17) ⟨tmOf [(0, .sl (.st 47) x0)] 0 23, [], 0⟩).bind fun r => prjO GG [(false, [.ow 48 (.st 47)])] r

noncomputable def l_toFunctionS_v1 (x0 : (List TFunction)) : Option ((((List TFunction) × Unit) × Unit)) := (Den CC 18 (bodyT CC 18) ⟨tmOf [(0, .sl (.st 67) x0)] 0 23, [], 0⟩).bind fun r => prjO GG [(false, [.tw 75 (.st 67)])] r

noncomputable def l_toRecordTypeS_v1 (x0 : (List TRecordType)) : Option ((((List TRecordType) × Unit) × Unit)) := (Den CC 19 (bodyT CC 19) ⟨tmOf [(0, .sl (.st 70) x0)] 0 23, [], 0⟩).bind fun r => prjO GG [(false, [.tw 77 (.st 70)])] r

noncomputable def s_ValidScope (x0 : TScope) : Option (Bool) := (Den CC 16 (bodyT CC 16) ⟨tmOf [(0, .st 25 x0)] 0 134, [], 0⟩).bind fun r => prjR GG [.bool] r.1

noncomputable def s_ScopeRoots_L5 (x0 : Int) (x1 : (List TBinding)) (x2 : (List TFunction)) (x3 : (List TRecordType)) (x4 : (List TValue)) : Option ((List TValue)) := (Den CC 5 (lbl CC 5 5) ⟨tmOf [(1, .ref 0 0), (3, .arr 1), (4, .int .i64 x0)] 0 26, [.box 34 [.sl (.st 47) x1, .sl (.st 67) x2, .sl (.st 70) x3] false, .arr 46 (.st 45) x4 false], 0⟩).bind fun r => prjR GG [(.sl (.st 45))] r.1

noncomputable def i_ValidScope (x0 : TScope) : Option (Bool) := (Den CC 20 (bodyT CC 20) ⟨tmOf [(0, .st 25 x0)] 0 49, [], 0⟩).bind fun r => prjR GG [.bool] r.1

noncomputable def i_Scope_roots_v1 (x0 : TScope) : Option ((((List TValue) × Unit) × Unit)) := (Den CC 21 (bodyT CC 21) ⟨tmOf [(0, .st 25 x0)] 0 21, [], 0⟩).bind fun r => prjO GG [(false, [.ow 46 (.st 45)])] r

noncomputable def l_eqValueS_L4 (x0 : (List TValue)) (x1 : (List TValue)) (x2 : Int) : Option (Bool) := (Den CC 8 (lbl CC 8 4) ⟨tmOf [(0, .sl (.st 45) x0), (1, .sl (.st 45) x1), (5, .int .i64 x2)] 0 27, [], 0⟩).bind fun r => prjR GG [.bool] r.1

noncomputable def l_eqBindingS (x0 : (List TBinding)) (x1 : (List TBinding)) : Option (Bool) := (Den CC 23 (bodyT CC 23) ⟨tmOf [(0, .sl (.st 47) x0), (1, .sl (.st 47) x1)] 0 27, [], 0⟩).bind fun r => prjR GG [.bool] r.1

noncomputable def l_eqFunctionS (x0 : (List TFunction)) (x1 : (List TFunction)) : Option (Bool) := (Den CC 24 (bodyT CC 24) ⟨tmOf [(0, .sl (.st 67) x0), (1, .sl (.st 67) x1)] 0 27, [], 0⟩).bind fun r => prjR GG [.bool] r.1

noncomputable def l_eqRecordTypeS (x0 : (List TRecordType)) (x1 : (List TRecordType)) : Option (Bool) := (Den CC 25 (bodyT CC 25) ⟨tmOf [(0, .sl (.st 70) x0), (1, .sl (.st 70) x1)] 0 27, [], 0⟩).bind fun r => prjR GG [.bool] r.1

noncomputable def l_markBindingS (x0 : Int) (x1 : (List TBinding)) : Option ((Int) × ((List TBinding) × Unit)) := (Den CC 26 (bodyT CC 26) ⟨tmOf [(0, .arr 0), (1, .int .i64 x0)] 0 54, [.arr 48 (.st 47) x1 false], 1⟩).bind fun r => prjW GG [(.int .i64)] [.ow 48 (.st 47)] r

noncomputable def l_markFunctionS (x0 : Int) (x1 : (List TFunction)) : Option ((Int) × ((List TFunction) × Unit)) := (Den CC 27 (bodyT CC 27) ⟨tmOf [(0, .arr 0), (1, .int .i64 x0)] 0 43, [.tr 75 (.st 67) x1 []], 1⟩).bind fun r => prjW GG [(.int .i64)] [.tw 75 (.st 67)] r

noncomputable def l_markRecordTypeS (x0 : Int) (x1 : (List TRecordType)) : Option ((Int) × ((List TRecordType) × Unit)) := (Den CC 28 (bodyT CC 28) ⟨tmOf [(0, .arr 0), (1, .int .i64 x0)] 0 28, [.tr 77 (.st 70) x1 []], 1⟩).bind fun r => prjW GG [(.int .i64)] [.tw 77 (.st 70)] r

noncomputable def l_markValueS_L2 (x0 : Int) (x1 : Int) (x2 : (List TValue)) : Option ((Int) × ((List TValue) × Unit)) := (Den CC 11 (lbl CC 11 2) ⟨tmOf [(0, .arr 0), (1, .int .i64 x0), (5, .int .i64 x1)] 0 42, [.arr 46 (.st 45) x2 false], 1⟩).bind fun r => prjW GG [(.int .i64)] [.ow 46 (.st 45)] r

noncomputable def l_heldValueS_L2 (x0 : (List TValue)) (x1 : Int) (x2 : Int) : Option (Int) := (Den CC 12 (lbl CC 12 2) ⟨tmOf [(0, .sl (.st 45) x0), (1, .int .i64 x1), (5, .int .i64 x2)] 0 50, [], 0⟩).bind fun r => prjR GG [(.int .i64)] r.1

noncomputable def l_szBindingS_L5 (x0 : (List TBinding)) (x1 : Int) (x2 : Int) : Option (Int) := (Den CC 13 (lbl CC 13 5) ⟨tmOf [(0, .sl (.st 47) x0), (1, .int .i64 x1), (5, .int .i64 x2)] 0 27, [], 0⟩).bind fun r => prjR GG [(.int .i64)] r.1

noncomputable def l_szFunctionS_L5 (x0 : (List TFunction)) (x1 : Int) (x2 : Int) : Option (Int) := (Den CC 14 (lbl CC 14 5) ⟨tmOf [(0, .sl (.st 67) x0), (1, .int .i64 x1), (5, .int .i64 x2)] 0 27, [], 0⟩).bind fun r => prjR GG [(.int .i64)] r.1

noncomputable def l_szRecordTypeS_L5 (x0 : (List TRecordType)) (x1 : Int) (x2 : Int) : Option (Int) := (Den CC 15 (lbl CC 15 5) ⟨tmOf [(0, .sl (.st 70) x0), (1, .int .i64 x1), (5, .int .i64 x2)] 0 27, [], 0⟩).bind fun r => prjR GG [(.int .i64)] r.1

noncomputable def l_toBindingS_L3_v1 (x0 : (List TBinding)) (x1 : Int) (x2 : (List TBinding)) : Option ((((List TBinding) × Unit) × Unit)) := (Den CC 17 (lbl CC 17 3) ⟨tmOf [(0, .sl (.st 47) x0), (3, .arr 0), (4, .int .i64 x1)] 0 23, [.arr 48 (.st 47) x2 false], 0⟩).bind fun r => prjO GG [(false, [.ow 48 (.st 47)])] r

noncomputable def l_toFunctionS_L3_v1 (x0 : (List TFunction)) (x1 : Int) (x2 : (List TFunction)) : Option ((((List TFunction) × Unit) × Unit)) := (Den CC 18 (lbl CC 18 3) ⟨tmOf [(0, .sl (.st 67) x0), (3, .arr 0), (4, .int .i64 x1)] 0 23, [.tr 75 (.st 67) x2 []], 0⟩).bind fun r => prjO GG [(false, [.tw 75 (.st 67)])] r

noncomputable def l_toRecordTypeS_L3_v1 (x0 : (List TRecordType)) (x1 : Int) (x2 : (List TRecordType)) : Option ((((List TRecordType) × Unit) × Unit)) := (Den CC 19 (lbl CC 19 3) ⟨tmOf [(0, .sl (.st 70) x0), (3, .arr 0), (4, .int .i64 x1)] 0 23, [.tr 77 (.st 70) x2 []], 0⟩).bind fun r => prjO GG [(false, [.tw 77 (.st 70)])] r

noncomputable def s_ValidScope_L2 : Option (Bool) := (Den CC 16 (lbl CC 16 2) ⟨tmOf [] 0 134, [], 0⟩).bind fun r => prjR GG [.bool] r.1

noncomputable def s_ValidScope_L3 (x0 : (List TBinding)) (x1 : (List TFunction)) (x2 : (List TRecordType)) : Option (Bool) := (Den CC 16 (lbl CC 16 3) ⟨tmOf [(1, .ref 0 0)] 0 134, [.box 34 [.sl (.st 47) x0, .sl (.st 67) x1, .sl (.st 70) x2] false], 0⟩).bind fun r => prjR GG [.bool] r.1

noncomputable def i_ValidScope_L2 : Option (Bool) := (Den CC 20 (lbl CC 20 2) ⟨tmOf [] 0 49, [], 0⟩).bind fun r => prjR GG [.bool] r.1

noncomputable def i_ValidScope_L3 (x0 : (List TBinding)) (x1 : (List TFunction)) (x2 : (List TRecordType)) : Option (Bool) := (Den CC 20 (lbl CC 20 3) ⟨tmOf [(1, .ref 0 0)] 0 49, [.box 34 [.sl (.st 47) x0, .sl (.st 67) x1, .sl (.st 70) x2] false], 0⟩).bind fun r => prjR GG [.bool] r.1

noncomputable def i_Scope_roots_L3_v1 (x0 : (List TBinding)) (x1 : Int) (x2 : Int) (x3 : (List TValue)) : Option ((((List TValue) × Unit) × Unit)) := (Den CC 21 (lbl CC 21 3) ⟨tmOf [(3, .arr 0), (8, .sl (.st 47) x0), (9, .int .i64 x1), (10, .int .i64 x2)] 0 21, [.arr 46 (.st 45) x3 false], 0⟩).bind fun r => prjO GG [(false, [.ow 46 (.st 45)])] r

noncomputable def l_eqValue (x0 : TValue) (x1 : TValue) : Option (Bool) := (Den CC 22 (bodyT CC 22) ⟨tmOf [(0, .st 45 x0), (1, .st 45 x1)] 0 25, [], 0⟩).bind fun r => prjR GG [.bool] r.1

noncomputable def l_eqBindingS_L4 (x0 : (List TBinding)) (x1 : (List TBinding)) (x2 : Int) : Option (Bool) := (Den CC 23 (lbl CC 23 4) ⟨tmOf [(0, .sl (.st 47) x0), (1, .sl (.st 47) x1), (5, .int .i64 x2)] 0 27, [], 0⟩).bind fun r => prjR GG [.bool] r.1

noncomputable def l_eqFunctionS_L4 (x0 : (List TFunction)) (x1 : (List TFunction)) (x2 : Int) : Option (Bool) := (Den CC 24 (lbl CC 24 4) ⟨tmOf [(0, .sl (.st 67) x0), (1, .sl (.st 67) x1), (5, .int .i64 x2)] 0 27, [], 0⟩).bind fun r => prjR GG [.bool] r.1

noncomputable def l_eqRecordTypeS_L4 (x0 : (List TRecordType)) (x1 : (List TRecordType)) (x2 : Int) : Option (Bool) := (Den CC 25 (lbl CC 25 4) ⟨tmOf [(0, .sl (.st 70) x0), (1, .sl (.st 70) x1), (5, .int .i64 x2)] 0 27, [], 0⟩).bind fun r => prjR GG [.bool] r.1

noncomputable def l_markBindingS_L2 (x0 : Int) (x1 : Int) (x2 : (List TBinding)) : Option ((Int) × ((List TBinding) × Unit)) := (Den CC 26 (lbl CC 26 2) ⟨tmOf [(0, .arr 0), (1, .int .i64 x0), (5, .int .i64 x1)] 0 54, [.arr 48 (.st 47) x2 false], 1⟩).bind fun r => prjW GG [(.int .i64)] [.ow 48 (.st 47)] r

noncomputable def l_markFunctionS_L2 (x0 : Int) (x1 : Int) (x2 : (List TFunction)) : Option ((Int) × ((List TFunction) × Unit)) := (Den CC 27 (lbl CC 27 2) ⟨tmOf [(0, .arr 0), (1, .int .i64 x0), (5, .int .i64 x1)] 0 43, [.tr 75 (.st 67) x2 []], 1⟩).bind fun r => prjW GG [(.int .i64)] [.tw 75 (.st 67)] r

noncomputable def l_markRecordTypeS_L2 (x0 : Int) (x1 : Int) (x2 : (List TRecordType)) : Option ((Int) × ((List TRecordType) × Unit)) := (Den CC 28 (lbl CC 28 2) ⟨tmOf [(0, .arr 0), (1, .int .i64 x0), (5, .int .i64 x1)] 0 28, [.tr 77 (.st 70) x2 []], 1⟩).bind fun r => prjW GG [(.int .i64)] [.tw 77 (.st 70)] r

noncomputable def l_markText (x0 : Int) : Option ((List UInt8)) := (Den CC 29 (bodyT CC 29) ⟨tmOf [(0, .int .i64 x0)] 0 20, [], 0⟩).bind fun r => prjR GG [.str] r.1

noncomputable def l_szBinding (x0 : TBinding) (x1 : Int) : Option (Int) := (Den CC 30 (bodyT CC 30) ⟨tmOf [(0, .st 47 x0), (1, .int .i64 x1)] 0 19, [], 0⟩).bind fun r => prjR GG [(.int .i64)] r.1

noncomputable def l_szFunction (x0 : TFunction) (x1 : Int) : Option (Int) := (Den CC 31 (bodyT CC 31) ⟨tmOf [(0, .st 67 x0), (1, .int .i64 x1)] 0 32, [], 0⟩).bind fun r => prjR GG [(.int .i64)] r.1

noncomputable def l_szRecordType (x0 : TRecordType) (x1 : Int) : Option (Int) := (Den CC 32 (bodyT CC 32) ⟨tmOf [(0, .st 70 x0), (1, .int .i64 x1)] 0 19, [], 0⟩).bind fun r => prjR GG [(.int .i64)] r.1

noncomputable def l_toBinding (x0 : TBinding) : Option (TBinding) := (Den CC 38 (bodyT CC 38) ⟨tmOf [(0, .st 47 x0)] 0 12, [], 0⟩).bind fun r => prjR GG [(.st 47)] r.1

noncomputable def l_toFunction_v1 (x0 : TFunction) : Option ((((List UInt8) × (List (List UInt8)) × (List (List UInt8)) × (List UInt8) × Unit) × Unit)) := (Den CC 39 (bodyT CC 39) ⟨tmOf [(0, .st 67 x0)] 0 19, [], 0⟩).bind fun r => prjO GG [(true, [.im .str, .ow 9 .str, .ow 9 .str, .im .str])] r

noncomputable def l_toRecordType_v1 (x0 : TRecordType) : Option ((((List UInt8) × (List (List UInt8)) × Unit) × Unit)) := (Den CC 40 (bodyT CC 40) ⟨tmOf [(0, .st 70 x0)] 0 12, [], 0⟩).bind fun r => prjO GG [(true, [.im .str, .ow 9 .str])] r

noncomputable def s_ValidScope_L4 (x0 : Int) (x1 : (List TBinding)) (x2 : (List TFunction)) (x3 : (List TRecordType)) : Option (Bool) := (Den CC 16 (lbl CC 16 4) ⟨tmOf [(1, .ref 0 0), (3, .int .i64 x0)] 0 134, [.box 34 [.sl (.st 47) x1, .sl (.st 67) x2, .sl (.st 70) x3] false], 0⟩).bind fun r => prjR GG [.bool] r.1

noncomputable def i_isSorted_impl_Binding__i_nameOfBinding (x0 : (List TBinding)) : Option (Bool) := (Den CC 41 (bodyT CC 41) ⟨tmOf [(0, .sl (.st 47) x0), (1, .fn 42 [])] 0 26, [], 0⟩).bind fun r => prjR GG [.bool] r.1

noncomputable def i_isSorted_impl_Function__i_nameOfFunction (x0 : (List TFunction)) : Option (Bool) := (Den CC 43 (bodyT CC 43) ⟨tmOf [(0, .sl (.st 67) x0), (1, .fn 44 [])] 0 26, [], 0⟩).bind fun r => prjR GG [.bool] r.1

noncomputable def i_isSorted_impl_RecordType__i_nameOfType (x0 : (List TRecordType)) : Option (Bool) := (Den CC 45 (bodyT CC 45) ⟨tmOf [(0, .sl (.st 70) x0), (1, .fn 46 [])] 0 26, [], 0⟩).bind fun r => prjR GG [.bool] r.1

noncomputable def i_ValidScope_L4 (x0 : Bool) (x1 : (List TBinding)) (x2 : (List TFunction)) (x3 : (List TRecordType)) : Option (Bool) := (Den CC 20 (lbl CC 20 4) ⟨tmOf [(1, .ref 0 0), (3, .bool x0)] 0 49, [.box 34 [.sl (.st 47) x1, .sl (.st 67) x2, .sl (.st 70) x3] false], 0⟩).bind fun r => prjR GG [.bool] r.1

noncomputable def l_eqBinding (x0 : TBinding) (x1 : TBinding) : Option (Bool) := (Den CC 53 (bodyT CC 53) ⟨tmOf [(0, .st 47 x0), (1, .st 47 x1)] 0 16, [], 0⟩).bind fun r => prjR GG [.bool] r.1

noncomputable def l_eqFunction (x0 : TFunction) (x1 : TFunction) : Option (Bool) := (Den CC 54 (bodyT CC 54) ⟨tmOf [(0, .st 67 x0), (1, .st 67 x1)] 0 27, [], 0⟩).bind fun r => prjR GG [.bool] r.1

noncomputable def l_eqRecordType (x0 : TRecordType) (x1 : TRecordType) : Option (Bool) := (Den CC 55 (bodyT CC 55) ⟨tmOf [(0, .st 70 x0), (1, .st 70 x1)] 0 16, [], 0⟩).bind fun r => prjR GG [.bool] r.1

noncomputable def l_markStringS (x0 : Int) (x1 : (List (List UInt8))) : Option ((Int) × ((List (List UInt8)) × Unit)) := (Den CC 56 (bodyT CC 56) ⟨tmOf [(0, .arr 0), (1, .int .i64 x0)] 0 20, [.arr 9 .str x1 false], 1⟩).bind fun r => prjW GG [(.int .i64)] [.ow 9 .str] r

noncomputable def l_markText_L4 (x0 : Int) (x1 : (List UInt8)) : Option ((List UInt8)) := (Den CC 29 (lbl CC 29 4) ⟨tmOf [(0, .int .i64 x0), (3, .str x1)] 0 20, [], 0⟩).bind fun r => prjR GG [.str] r.1

noncomputable def l_szValue (x0 : TValue) (x1 : Int) : Option (Int) := (Den CC 57 (bodyT CC 57) ⟨tmOf [(0, .st 45 x0), (1, .int .i64 x1)] 0 13, [], 0⟩).bind fun r => prjR GG [(.int .i64)] r.1

noncomputable def l_szStringS (x0 : (List (List UInt8))) (x1 : Int) : Option (Int) := (Den CC 58 (bodyT CC 58) ⟨tmOf [(0, .sl .str x0), (1, .int .i64 x1)] 0 28, [], 0⟩).bind fun r => prjR GG [(.int .i64)] r.1

noncomputable def l_toValue (x0 : TValue) : Option (TValue) := (Den CC 63 (bodyT CC 63) ⟨tmOf [(0, .st 45 x0)] 0 17, [], 0⟩).bind fun r => prjR GG [(.st 45)] r.1

noncomputable def l_toStringS_v1 (x0 : (List (List UInt8))) : Option ((((List (List UInt8)) × Unit) × Unit)) := (Den CC 64 (bodyT CC 64) ⟨tmOf [(0, .sl .str x0)] 0 22, [], 0⟩).bind fun r => prjO GG [(false, [.ow 9 .str])] r

noncomputable def s_IsName (x0 : (List UInt8)) : Option (Bool) := (Den CC 33 (bodyT CC 33) ⟨tmOf [(0, .str x0)] 0 17, [], 0⟩).bind fun r => prjR GG [.bool] r.1

noncomputable def s_ValidScope_L8 : Option (Bool) := (Den CC 16 (lbl CC 16 8) ⟨tmOf [] 0 134, [], 0⟩).bind fun r => prjR GG [.bool] r.1

noncomputable def s_ValidValue (x0 : TValue) : Option (Bool) := (Den CC 34 (bodyT CC 34) ⟨tmOf [(0, .st 45 x0)] 0 55, [], 0⟩).bind fun r => prjR GG [.bool] r.1

noncomputable def s_IsNull (x0 : TValue) : Option (Bool) := (Den CC 35 (bodyT CC 35) ⟨tmOf [(0, .st 45 x0)] 0 6, [], 0⟩).bind fun r => prjR GG [.bool] r.1

noncomputable def s_ValidScope_L5 (x0 : Int) (x1 : (List TBinding)) (x2 : (List TFunction)) (x3 : (List TRecordType)) : Option (Bool) := (Den CC 16 (lbl CC 16 5) ⟨tmOf [(1, .ref 0 0), (3, .int .i64 x0)] 0 134, [.box 34 [.sl (.st 47) x1, .sl (.st 67) x2, .sl (.st 70) x3] false], 0⟩).bind fun r => prjR GG [.bool] r.1

noncomputable def s_ValidScope_L10 (x0 : Int) (x1 : (List TBinding)) (x2 : (List TFunction)) (x3 : (List TRecordType)) : Option (Bool) := (Den CC 16 (lbl CC 16 10) ⟨tmOf [(1, .ref 0 0), (5, .int .i64 x0)] 0 134, [.box 34 [.sl (.st 47) x1, .sl (.st 67) x2, .sl (.st 70) x3] false], 0⟩).bind fun r => prjR GG [.bool] r.1

noncomputable def i_isSorted_impl_Binding_L2__i_nameOfBinding (x0 : (List TBinding)) (x1 : Int) : Option (Bool) := (Den CC 41 (lbl CC 41 2) ⟨tmOf [(0, .sl (.st 47) x0), (1, .fn 42 []), (5, .int .i64 x1)] 0 26, [], 0⟩).bind fun r => prjR GG [.bool] r.1

noncomputable def i_isSorted_impl_Function_L2__i_nameOfFunction (x0 : (List TFunction)) (x1 : Int) : Option (Bool) := (Den CC 43 (lbl CC 43 2) ⟨tmOf [(0, .sl (.st 67) x0), (1, .fn 44 []), (5, .int .i64 x1)] 0 26, [], 0⟩).bind fun r => prjR GG [.bool] r.1

noncomputable def i_isSorted_impl_RecordType_L2__i_nameOfType (x0 : (List TRecordType)) (x1 : Int) : Option (Bool) := (Den CC 45 (lbl CC 45 2) ⟨tmOf [(0, .sl (.st 70) x0), (1, .fn 46 []), (5, .int .i64 x1)] 0 26, [], 0⟩).bind fun r => prjR GG [.bool] r.1

noncomputable def i_areAll_impl_Binding__i_Binding_isValid (x0 : (List TBinding)) : Option (Bool) := (Den CC 47 (bodyT CC 47) ⟨tmOf [(0, .sl (.st 47) x0), (1, .fn 48 [])] 0 18, [], 0⟩).bind fun r => prjR GG [.bool] r.1

noncomputable def i_areAll_impl_Function__i_Function_isValid (x0 : (List TFunction)) : Option (Bool) := (Den CC 49 (bodyT CC 49) ⟨tmOf [(0, .sl (.st 67) x0), (1, .fn 50 [])] 0 18, [], 0⟩).bind fun r => prjR GG [.bool] r.1

noncomputable def i_areAll_impl_RecordType__i_RecordType_isValid (x0 : (List TRecordType)) : Option (Bool) := (Den CC 51 (bodyT CC 51) ⟨tmOf [(0, .sl (.st 70) x0), (1, .fn 52 [])] 0 18, [], 0⟩).bind fun r => prjR GG [.bool] r.1

noncomputable def l_eqStringS (x0 : (List (List UInt8))) (x1 : (List (List UInt8))) : Option (Bool) := (Den CC 73 (bodyT CC 73) ⟨tmOf [(0, .sl .str x0), (1, .sl .str x1)] 0 26, [], 0⟩).bind fun r => prjR GG [.bool] r.1

noncomputable def l_markStringS_L2 (x0 : Int) (x1 : Int) (x2 : (List (List UInt8))) : Option ((Int) × ((List (List UInt8)) × Unit)) := (Den CC 56 (lbl CC 56 2) ⟨tmOf [(0, .arr 0), (1, .int .i64 x0), (5, .int .i64 x1)] 0 20, [.arr 9 .str x2 false], 1⟩).bind fun r => prjW GG [(.int .i64)] [.ow 9 .str] r

noncomputable def l_szStringS_L5 (x0 : (List (List UInt8))) (x1 : Int) (x2 : Int) : Option (Int) := (Den CC 58 (lbl CC 58 5) ⟨tmOf [(0, .sl .str x0), (1, .int .i64 x1), (5, .int .i64 x2)] 0 28, [], 0⟩).bind fun r => prjR GG [(.int .i64)] r.1

noncomputable def l_toStringS_L3_v1 (x0 : (List (List UInt8))) (x1 : Int) (x2 : (List (List UInt8))) : Option ((((List (List UInt8)) × Unit) × Unit)) := (Den CC 64 (lbl CC 64 3) ⟨tmOf [(0, .sl .str x0), (3, .arr 0), (4, .int .i64 x1)] 0 22, [.arr 9 .str x2 false], 0⟩).bind fun r => prjO GG [(false, [.ow 9 .str])] r

noncomputable def s_l02NameEnd (x0 : (List UInt8)) (x1 : Int) : Option (Int) := (Den CC 59 (bodyT CC 59) ⟨tmOf [(0, .str x0), (1, .int .i64 x1)] 0 42, [], 0⟩).bind fun r => prjR GG [(.int .i64)] r.1

noncomputable def s_l06Plain (x0 : TValue) (x1 : Bool) (x2 : Bool) (x3 : Bool) : Option (Bool) := (Den CC 60 (bodyT CC 60) ⟨tmOf [(0, .st 45 x0), (1, .bool x1), (2, .bool x2), (3, .bool x3)] 0 31, [], 0⟩).bind fun r => prjR GG [.bool] r.1

noncomputable def s_l00In (x0 : Int) (x1 : Int) (x2 : Int) : Option (Bool) := (Den CC 61 (bodyT CC 61) ⟨tmOf [(0, .int .i64 x0), (1, .int .i64 x1), (2, .int .i64 x2)] 0 15, [], 0⟩).bind fun r => prjR GG [.bool] r.1

noncomputable def s_ValidValue_L11 (x0 : Int) (x1 : Int) (x2 : (List UInt8)) (x3 : Int) : Option (Bool) := (Den CC 34 (lbl CC 34 11) ⟨tmOf [(1, .ref 0 0)] 0 55, [.box 46 [.int .i64 x0, .int .i64 x1, .str x2, .int .i64 x3] false], 0⟩).bind fun r => prjR GG [.bool] r.1

noncomputable def s_ValidValue_L12 (x0 : Int) (x1 : Int) (x2 : Int) (x3 : (List UInt8)) (x4 : Int) : Option (Bool) := (Den CC 34 (lbl CC 34 12) ⟨tmOf [(1, .ref 0 0), (4, .int .i64 x0)] 0 55, [.box 46 [.int .i64 x1, .int .i64 x2, .str x3, .int .i64 x4] false], 0⟩).bind fun r => prjR GG [.bool] r.1

noncomputable def s_l18Function (x0 : TFunction) : Option (Bool) := (Den CC 36 (bodyT CC 36) ⟨tmOf [(0, .st 67 x0)] 0 33, [], 0⟩).bind fun r => prjR GG [.bool] r.1

noncomputable def s_ValidScope_L13 : Option (Bool) := (Den CC 16 (lbl CC 16 13) ⟨tmOf [] 0 134, [], 0⟩).bind fun r => prjR GG [.bool] r.1

noncomputable def s_ValidScope_L11 (x0 : Int) (x1 : (List TBinding)) (x2 : (List TFunction)) (x3 : (List TRecordType)) : Option (Bool) := (Den CC 16 (lbl CC 16 11) ⟨tmOf [(1, .ref 0 0), (5, .int .i64 x0)] 0 134, [.box 34 [.sl (.st 47) x1, .sl (.st 67) x2, .sl (.st 70) x3] false], 0⟩).bind fun r => prjR GG [.bool] r.1

noncomputable def s_ValidScope_L15 (x0 : Int) (x1 : (List TBinding)) (x2 : (List TFunction)) (x3 : (List TRecordType)) : Option (Bool) := (Den CC 16 (lbl CC 16 15) ⟨tmOf [(1, .ref 0 0), (6, .int .i64 x0)] 0 134, [.box 34 [.sl (.st 47) x1, .sl (.st 67) x2, .sl (.st 70) x3] false], 0⟩).bind fun r => prjR GG [.bool] r.1

noncomputable def i_nameOfBinding (x0 : TBinding) : Option ((List UInt8)) := (Den CC 42 (bodyT CC 42) ⟨tmOf [(0, .st 47 x0)] 0 5, [], 0⟩).bind fun r => prjR GG [.str] r.1

noncomputable def i_nameOfFunction (x0 : TFunction) : Option ((List UInt8)) := (Den CC 44 (bodyT CC 44) ⟨tmOf [(0, .st 67 x0)] 0 5, [], 0⟩).bind fun r => prjR GG [.str] r.1

noncomputable def i_nameOfType (x0 : TRecordType) : Option ((List UInt8)) := (Den CC 46 (bodyT CC 46) ⟨tmOf [(0, .st 70 x0)] 0 5, [], 0⟩).bind fun r => prjR GG [.str] r.1

noncomputable def i_areAll_impl_Binding_L2__i_Binding_isValid (x0 : (List TBinding)) (x1 : Int) (x2 : Int) : Option (Bool) := (Den CC 47 (lbl CC 47 2) ⟨tmOf [(1, .fn 48 []), (7, .sl (.st 47) x0), (8, .int .i64 x1), (9, .int .i64 x2)] 0 18, [], 0⟩).bind fun r => prjR GG [.bool] r.1

noncomputable def i_areAll_impl_Function_L2__i_Function_isValid (x0 : (List TFunction)) (x1 : Int) (x2 : Int) : Option (Bool) := (Den CC 49 (lbl CC 49 2) ⟨tmOf [(1, .fn 50 []), (7, .sl (.st 67) x0), (8, .int .i64 x1), (9, .int .i64 x2)] 0 18, [], 0⟩).bind fun r => prjR GG [.bool] r.1

noncomputable def i_areAll_impl_RecordType_L2__i_RecordType_isValid (x0 : (List TRecordType)) (x1 : Int) (x2 : Int) : Option (Bool) := (Den CC 51 (lbl CC 51 2) ⟨tmOf [(1, .fn 52 []), (7, .sl (.st 70) x0), (8, .int .i64 x1), (9, .int .i64 x2)] 0 18, [], 0⟩).bind fun r => prjR GG [.bool] r.1

noncomputable def l_eqStringS_L4 (x0 : (List (List UInt8))) (x1 : (List (List UInt8))) (x2 : Int) : Option (Bool) := (Den CC 73 (lbl CC 73 4) ⟨tmOf [(0, .sl .str x0), (1, .sl .str x1), (5, .int .i64 x2)] 0 26, [], 0⟩).bind fun r => prjR GG [.bool] r.1

noncomputable def s_l02Letter (x0 : Int) : Option (Bool) := (Den CC 74 (bodyT CC 74) ⟨tmOf [(0, .int .u8 x0)] 0 17, [], 0⟩).bind fun r => prjR GG [.bool] r.1

noncomputable def s_l02NameEnd_L3 (x0 : (List UInt8)) (x1 : Int) : Option (Int) := (Den CC 59 (lbl CC 59 3) ⟨tmOf [(0, .str x0), (1, .int .i64 x1)] 0 42, [], 0⟩).bind fun r => prjR GG [(.int .i64)] r.1

noncomputable def s_l18Function_L2 : Option (Bool) := (Den CC 36 (lbl CC 36 2) ⟨tmOf [] 0 33, [], 0⟩).bind fun r => prjR GG [.bool] r.1

noncomputable def s_l18Function_L3 (x0 : (List UInt8)) (x1 : (List (List UInt8))) (x2 : (List (List UInt8))) (x3 : (List UInt8)) : Option (Bool) := (Den CC 36 (lbl CC 36 3) ⟨tmOf [(1, .pc [.str x0, .sl .str x1, .sl .str x2, .str x3])] 0 33, [], 0⟩).bind fun r => prjR GG [.bool] r.1

noncomputable def s_l18Type (x0 : TRecordType) : Option (Bool) := (Den CC 37 (bodyT CC 37) ⟨tmOf [(0, .st 70 x0)] 0 17, [], 0⟩).bind fun r => prjR GG [.bool] r.1

noncomputable def s_ValidScope_L18 : Option (Bool) := (Den CC 16 (lbl CC 16 18) ⟨tmOf [] 0 134, [], 0⟩).bind fun r => prjR GG [.bool] r.1

noncomputable def s_ValidScope_L16 (x0 : Int) (x1 : (List TBinding)) (x2 : (List TFunction)) (x3 : (List TRecordType)) : Option (Bool) := (Den CC 16 (lbl CC 16 16) ⟨tmOf [(1, .ref 0 0), (6, .int .i64 x0)] 0 134, [.box 34 [.sl (.st 47) x1, .sl (.st 67) x2, .sl (.st 70) x3] false], 0⟩).bind fun r => prjR GG [.bool] r.1

noncomputable def i_Binding_isValid (x0 : TBinding) : Option (Bool) := (Den CC 48 (bodyT CC 48) ⟨tmOf [(0, .st 47 x0)] 0 17, [], 0⟩).bind fun r => prjR GG [.bool] r.1

noncomputable def i_Function_isValid (x0 : TFunction) : Option (Bool) := (Den CC 50 (bodyT CC 50) ⟨tmOf [(0, .st 67 x0)] 0 45, [], 0⟩).bind fun r => prjR GG [.bool] r.1

noncomputable def i_RecordType_isValid (x0 : TRecordType) : Option (Bool) := (Den CC 52 (bodyT CC 52) ⟨tmOf [(0, .st 70 x0)] 0 11, [], 0⟩).bind fun r => prjR GG [.bool] r.1

noncomputable def s_l02NameEnd_L4 (x0 : (List UInt8)) (x1 : Int) : Option (Int) := (Den CC 59 (lbl CC 59 4) ⟨tmOf [(0, .str x0), (1, .int .i64 x1)] 0 42, [], 0⟩).bind fun r => prjR GG [(.int .i64)] r.1

noncomputable def s_l02Digit (x0 : Int) : Option (Bool) := (Den CC 75 (bodyT CC 75) ⟨tmOf [(0, .int .u8 x0)] 0 9, [], 0⟩).bind fun r => prjR GG [.bool] r.1

noncomputable def s_l02NameEnd_L5 (x0 : Int) : Option (Int) := (Den CC 59 (lbl CC 59 5) ⟨tmOf [(1, .int .i64 x0)] 0 42, [], 0⟩).bind fun r => prjR GG [(.int .i64)] r.1

noncomputable def s_l18Names (x0 : (List (List UInt8))) : Option (Bool) := (Den CC 62 (bodyT CC 62) ⟨tmOf [(0, .sl .str x0)] 0 26, [], 0⟩).bind fun r => prjR GG [.bool] r.1

noncomputable def i_IsName (x0 : (List UInt8)) : Option (Bool) := (Den CC 65 (bodyT CC 65) ⟨tmOf [(0, .str x0)] 0 21, [], 0⟩).bind fun r => prjR GG [.bool] r.1

noncomputable def i_ValidValue (x0 : TValue) : Option (Bool) := (Den CC 66 (bodyT CC 66) ⟨tmOf [(0, .st 45 x0)] 0 80, [], 0⟩).bind fun r => prjR GG [.bool] r.1

noncomputable def i_IsNull (x0 : TValue) : Option (Bool) := (Den CC 67 (bodyT CC 67) ⟨tmOf [(0, .st 45 x0)] 0 6, [], 0⟩).bind fun r => prjR GG [.bool] r.1

noncomputable def slices_Concat___string_string_ (x0 : (List (List (List UInt8)))) : Option ((List (List UInt8))) := (Den CC 68 (bodyT CC 68) ⟨tmOf [(0, .sl (.sl .str) x0)] 0 36, [], 0⟩).bind fun r => prjR GG [(.sl .str)] r.1

noncomputable def i_areAll_string__i_IsName (x0 : (List (List UInt8))) : Option (Bool) := (Den CC 69 (bodyT CC 69) ⟨tmOf [(0, .sl .str x0), (1, .fn 65 [])] 0 18, [], 0⟩).bind fun r => prjR GG [.bool] r.1

noncomputable def i_areFields (x0 : (List (List UInt8))) : Option (Bool) := (Den CC 72 (bodyT CC 72) ⟨tmOf [(0, .sl .str x0)] 0 23, [], 0⟩).bind fun r => prjR GG [.bool] r.1

noncomputable def s_l18Names_L2 (x0 : (List (List UInt8))) (x1 : Int) : Option (Bool) := (Den CC 62 (lbl CC 62 2) ⟨tmOf [(0, .sl .str x0), (3, .int .i64 x1)] 0 26, [], 0⟩).bind fun r => prjR GG [.bool] r.1

noncomputable def i_isLetter (x0 : Int) : Option (Bool) := (Den CC 77 (bodyT CC 77) ⟨tmOf [(0, .int .u8 x0)] 0 17, [], 0⟩).bind fun r => prjR GG [.bool] r.1

noncomputable def i_areAll_byte__i_isNameByte (x0 : (List Int)) : Option (Bool) := (Den CC 78 (bodyT CC 78) ⟨tmOf [(0, .sl (.int .u8) x0), (1, .fn 79 [])] 0 18, [], 0⟩).bind fun r => prjR GG [.bool] r.1

noncomputable def i_within (x0 : Int) (x1 : Int) (x2 : Int) : Option (Bool) := (Den CC 80 (bodyT CC 80) ⟨tmOf [(0, .int .i64 x0), (1, .int .i64 x1), (2, .int .i64 x2)] 0 15, [], 0⟩).bind fun r => prjR GG [.bool] r.1

noncomputable def i_ValidValue_L11 (x0 : Int) (x1 : Int) (x2 : (List UInt8)) (x3 : Int) : Option (Bool) := (Den CC 66 (lbl CC 66 11) ⟨tmOf [(1, .ref 0 0)] 0 80, [.box 46 [.int .i64 x0, .int .i64 x1, .str x2, .int .i64 x3] false], 0⟩).bind fun r => prjR GG [.bool] r.1

noncomputable def i_ValidValue_L12 (x0 : Int) (x1 : Int) (x2 : Int) (x3 : (List UInt8)) (x4 : Int) : Option (Bool) := (Den CC 66 (lbl CC 66 12) ⟨tmOf [(1, .ref 0 0), (4, .int .i64 x0)] 0 80, [.box 46 [.int .i64 x1, .int .i64 x2, .str x3, .int .i64 x4] false], 0⟩).bind fun r => prjR GG [.bool] r.1

noncomputable def i_null : Option (TValue) := (Den CC 82 (bodyT CC 82) ⟨tmOf [] 0 2, [], 0⟩).bind fun r => prjR GG [(.st 45)] r.1

noncomputable def slices_Concat___string_string__L3 (x0 : (List (List (List UInt8)))) (x1 : Int) (x2 : (List (List (List UInt8)))) (x3 : Int) (x4 : Int) : Option ((List (List UInt8))) := (Den CC 68 (lbl CC 68 3) ⟨tmOf [(0, .sl (.sl .str) x0), (3, .int .i64 x1), (9, .sl (.sl .str) x2), (10, .int .i64 x3), (11, .int .i64 x4)] 0 36, [], 0⟩).bind fun r => prjR GG [(.sl .str)] r.1

noncomputable def i_areAll_string_L2__i_IsName (x0 : (List (List UInt8))) (x1 : Int) (x2 : Int) : Option (Bool) := (Den CC 69 (lbl CC 69 2) ⟨tmOf [(1, .fn 65 []), (7, .sl .str x0), (8, .int .i64 x1), (9, .int .i64 x2)] 0 18, [], 0⟩).bind fun r => prjR GG [.bool] r.1

noncomputable def i_areFields_L2 : Option (Bool) := (Den CC 72 (lbl CC 72 2) ⟨tmOf [] 0 23, [], 0⟩).bind fun r => prjR GG [.bool] r.1

noncomputable def i_areFields_L3 (x0 : (List (List UInt8))) : Option (Bool) := (Den CC 72 (lbl CC 72 3) ⟨tmOf [(0, .sl .str x0)] 0 23, [], 0⟩).bind fun r => prjR GG [.bool] r.1

noncomputable def s_l17At (x0 : (List (List UInt8))) (x1 : (List UInt8)) : Option (Int) := (Den CC 76 (bodyT CC 76) ⟨tmOf [(0, .sl .str x0), (1, .str x1)] 0 19, [], 0⟩).bind fun r => prjR GG [(.int .i64)] r.1

noncomputable def i_areAll_byte_L2__i_isNameByte (x0 : (List Int)) (x1 : Int) (x2 : Int) : Option (Bool) := (Den CC 78 (lbl CC 78 2) ⟨tmOf [(1, .fn 79 []), (7, .sl (.int .u8) x0), (8, .int .i64 x1), (9, .int .i64 x2)] 0 18, [], 0⟩).bind fun r => prjR GG [.bool] r.1

noncomputable def i_isObjectId (x0 : Int) : Option (Bool) := (Den CC 81 (bodyT CC 81) ⟨tmOf [(0, .int .i64 x0)] 0 5, [], 0⟩).bind fun r => prjR GG [.bool] r.1

noncomputable def i_textOf (x0 : (List UInt8)) : Option (TValue) := (Den CC 87 (bodyT CC 87) ⟨tmOf [(0, .str x0)] 0 5, [], 0⟩).bind fun r => prjR GG [(.st 45)] r.1

noncomputable def slices_Concat___string_string__L11 (x0 : (List (List (List UInt8)))) (x1 : Int) (x2 : Int) (x3 : (List (List UInt8))) : Option ((List (List UInt8))) := (Den CC 68 (lbl CC 68 11) ⟨tmOf [(6, .arr 0), (25, .sl (.sl .str) x0), (26, .int .i64 x1), (27, .int .i64 x2)] 0 36, [.arr 9 .str x3 false], 0⟩).bind fun r => prjR GG [(.sl .str)] r.1

noncomputable def s_l17At_L2 (x0 : (List (List UInt8))) (x1 : (List UInt8)) (x2 : Int) : Option (Int) := (Den CC 76 (lbl CC 76 2) ⟨tmOf [(0, .sl .str x0), (1, .str x1), (5, .int .i64 x2)] 0 19, [], 0⟩).bind fun r => prjR GG [(.int .i64)] r.1

noncomputable def i_isNameByte (x0 : Int) : Option (Bool) := (Den CC 79 (bodyT CC 79) ⟨tmOf [(0, .int .u8 x0)] 0 13, [], 0⟩).bind fun r => prjR GG [.bool] r.1

noncomputable def i_isDigit (x0 : Int) : Option (Bool) := (Den CC 86 (bodyT CC 86) ⟨tmOf [(0, .int .u8 x0)] 0 9, [], 0⟩).bind fun r => prjR GG [.bool] r.1

theorem l_FnExactScopeRoots_eq (x0 : TScope) : l_FnExactScopeRoots x0 = (l_szScope x0 1048576).bind fun r200 => if (decide (r200 < 0)) = true then some (true) else (l_toScope_v1 x0).bind fun r198 => (s_ScopeRoots (TScope.mk (Prod.fst (Prod.fst r198)) (Prod.fst (Prod.snd (Prod.fst r198))) (Prod.fst (Prod.snd (Prod.snd (Prod.fst r198)))))).bind fun r197 => (l_toScope_v1 x0).bind fun r196 => (i_ScopeRoots (TScope.mk (Prod.fst (Prod.fst r196)) (Prod.fst (Prod.snd (Prod.fst r196))) (Prod.fst (Prod.snd (Prod.snd (Prod.fst r196)))))).bind fun r195 => (l_eqValueS (Prod.fst (Prod.fst r195)) r197).bind fun r194 => if (!r194) = true then some (false) else (l_toScope_v1 x0).bind fun r192 => (l_eqScope (TScope.mk (Prod.fst (Prod.fst r196)) (Prod.fst (Prod.snd (Prod.fst r196))) (Prod.fst (Prod.snd (Prod.snd (Prod.fst r196))))) (TScope.mk (Prod.fst (Prod.fst r192)) (Prod.fst (Prod.snd (Prod.fst r192))) (Prod.fst (Prod.snd (Prod.snd (Prod.fst r192)))))).bind fun r191 => if (!r191) = true then some (false) else (l_markScope 1 (Prod.fst (Prod.fst r196)) (Prod.fst (Prod.snd (Prod.fst r196))) (Prod.fst (Prod.snd (Prod.snd (Prod.fst r196))))).bind fun r189 => if (decide (Prod.fst r189 < 0)) = true then some (false) else (l_eqValueS (Prod.fst (Prod.fst r195)) r197).bind fun r187 => if (!r187) = true then some (false) else (l_markValueS 1 (Prod.fst (Prod.fst r195))).bind fun r185 => (l_heldValueS (Prod.fst (Prod.snd r185)) 1).bind fun r184 => if (decide (r184 < 0)) = true then some (false) else if (r184 != Prod.fst r185) = true then some (false) else (l_toScope_v1 x0).bind fun r181 => (i_ScopeRoots (TScope.mk (Prod.fst (Prod.fst r181)) (Prod.fst (Prod.snd (Prod.fst r181))) (Prod.fst (Prod.snd (Prod.snd (Prod.fst r181)))))).bind fun r180 => (l_eqValueS (Prod.fst (Prod.fst r180)) r197).bind fun r179 => if (!r179) = true then some (false) else (l_heldValueS (Prod.fst (Prod.snd r185)) 1).bind fun r177 => if (decide (r177 < 0)) = true then some (false) else if (r177 != Prod.fst r185) = true then some (false) else some (true) :=
  (den_run CC 3 (bodyT CC 3) ⟨tmOf [(0, .st 25 x0)] 0 69, [], 0⟩ fun r => prjR GG [.bool] r.1).trans (by kernel_rfl)

theorem l_szScope_eq (x0 : TScope) (x1 : Int) : l_szScope x0 x1 = (l_szBindingS x0.fVars x1).bind fun r200 => if (decide (r200 < 0)) = true then some (-1) else (l_szFunctionS x0.fFunctions r200).bind fun r198 => if (decide (r198 < 0)) = true then some (-1) else (l_szRecordTypeS x0.fTypes r198).bind fun r196 => if (decide (r196 < 0)) = true then some (-1) else some r196 :=
  (den_run CC 4 (bodyT CC 4) ⟨tmOf [(0, .st 25 x0), (1, .int .i64 x1)] 0 24, [], 0⟩ fun r => prjR GG [(.int .i64)] r.1).trans (by kernel_rfl)

theorem l_toScope_v1_eq (x0 : TScope) : l_toScope_v1 x0 = (l_toBindingS_v1 x0.fVars).bind fun r200 => (l_toFunctionS_v1 x0.fFunctions).bind fun r199 => (l_toRecordTypeS_v1 x0.fTypes).bind fun r198 => some (((Prod.fst (Prod.fst r200)), (Prod.fst (Prod.fst r199)), (Prod.fst (Prod.fst r198)), ()), ()) :=
  (den_run CC 6 (bodyT CC 6) ⟨tmOf [(0, .st 25 x0)] 0 17, [], 0⟩ fun r => prjO GG [(true, [.ow 48 (.st 47), .tw 75 (.st 67), .tw 77 (.st 70)])] r).trans (by kernel_rfl)

theorem s_ScopeRoots_eq (x0 : TScope) : s_ScopeRoots x0 = (s_ValidScope x0).bind fun r200 => if (!r200) = true then some ([]) else s_ScopeRoots_L5 0 x0.fVars x0.fFunctions x0.fTypes ([]) :=
  (den_run CC 5 (bodyT CC 5) ⟨tmOf [(0, .st 25 x0)] 0 26, [], 0⟩ fun r => prjR GG [(.sl (.st 45))] r.1).trans (by kernel_rfl)

theorem i_ScopeRoots_eq (x0 : TScope) : i_ScopeRoots x0 = (i_ValidScope x0).bind fun r200 => if (!r200) = true then some ((([]), ()), ()) else (i_Scope_roots_v1 x0).bind fun r198 => some (((Prod.fst (Prod.fst r198)), ()), ()) :=
  (den_run CC 7 (bodyT CC 7) ⟨tmOf [(0, .st 25 x0)] 0 8, [], 0⟩ fun r => prjO GG [(false, [.ow 46 (.st 45)])] r).trans (by kernel_rfl)

theorem l_eqValueS_eq (x0 : (List TValue)) (x1 : (List TValue)) : l_eqValueS x0 x1 = if (len x0 != len x1) = true then some (false) else l_eqValueS_L4 x0 x1 0 :=
  (den_run CC 8 (bodyT CC 8) ⟨tmOf [(0, .sl (.st 45) x0), (1, .sl (.st 45) x1)] 0 27, [], 0⟩ fun r => prjR GG [.bool] r.1).trans (by kernel_rfl)

theorem l_eqScope_eq (x0 : TScope) (x1 : TScope) : l_eqScope x0 x1 = (l_eqBindingS x0.fVars x1.fVars).bind fun r200 => if (!r200) = true then some (false) else (l_eqFunctionS x0.fFunctions x1.fFunctions).bind fun r198 => if (!r198) = true then some (false) else (l_eqRecordTypeS x0.fTypes x1.fTypes).bind fun r196 => if (!r196) = true then some (false) else some (true) :=
  (den_run CC 9 (bodyT CC 9) ⟨tmOf [(0, .st 25 x0), (1, .st 25 x1)] 0 23, [], 0⟩ fun r => prjR GG [.bool] r.1).trans (by kernel_rfl)

theorem l_markScope_eq (x0 : Int) (x1 : (List TBinding)) (x2 : (List TFunction)) (x3 : (List TRecordType)) : l_markScope x0 x1 x2 x3 = (l_markBindingS x0 x1).bind fun r200 => (l_markFunctionS (Prod.fst r200) x2).bind fun r199 => (l_markRecordTypeS (Prod.fst r199) x3).bind fun r198 => some (((Prod.fst r198)), ((Prod.fst (Prod.snd r200)), (Prod.fst (Prod.snd r199)), (Prod.fst (Prod.snd r198)), ())) :=
  (den_run CC 10 (bodyT CC 10) ⟨tmOf [(0, .ag [.arr 0, .arr 1, .arr 2]), (1, .int .i64 x0)] 0 18, [.arr 48 (.st 47) x1 false, .tr 75 (.st 67) x2 [], .tr 77 (.st 70) x3 []], 3⟩ fun r => prjW GG [(.int .i64)] [.ow 48 (.st 47), .tw 75 (.st 67), .tw 77 (.st 70)] r).trans (by kernel_rfl)

theorem l_markValueS_eq (x0 : Int) (x1 : (List TValue)) : l_markValueS x0 x1 = l_markValueS_L2 x0 0 x1 :=
  (den_run CC 11 (bodyT CC 11) ⟨tmOf [(0, .arr 0), (1, .int .i64 x0)] 0 42, [.arr 46 (.st 45) x1 false], 1⟩ fun r => prjW GG [(.int .i64)] [.ow 46 (.st 45)] r).trans (by kernel_rfl)

theorem l_heldValueS_eq (x0 : (List TValue)) (x1 : Int) : l_heldValueS x0 x1 = l_heldValueS_L2 x0 x1 0 :=
  (den_run CC 12 (bodyT CC 12) ⟨tmOf [(0, .sl (.st 45) x0), (1, .int .i64 x1)] 0 50, [], 0⟩ fun r => prjR GG [(.int .i64)] r.1).trans (by kernel_rfl)

theorem l_szBindingS_eq (x0 : (List TBinding)) (x1 : Int) : l_szBindingS x0 x1 = if (decide (w64 (x1 - len x0) < 0)) = true then some (-1) else l_szBindingS_L5 x0 (w64 (x1 - len x0)) 0 :=
  (den_run CC 13 (bodyT CC 13) ⟨tmOf [(0, .sl (.st 47) x0), (1, .int .i64 x1)] 0 27, [], 0⟩ fun r => prjR GG [(.int .i64)] r.1).trans (by kernel_rfl)

theorem l_szFunctionS_eq (x0 : (List TFunction)) (x1 : Int) : l_szFunctionS x0 x1 = if (decide (w64 (x1 - len x0) < 0)) = true then some (-1) else l_szFunctionS_L5 x0 (w64 (x1 - len x0)) 0 :=
  (den_run CC 14 (bodyT CC 14) ⟨tmOf [(0, .sl (.st 67) x0), (1, .int .i64 x1)] 0 27, [], 0⟩ fun r => prjR GG [(.int .i64)] r.1).trans (by kernel_rfl)

theorem l_szRecordTypeS_eq (x0 : (List TRecordType)) (x1 : Int) : l_szRecordTypeS x0 x1 = if (decide (w64 (x1 - len x0) < 0)) = true then some (-1) else l_szRecordTypeS_L5 x0 (w64 (x1 - len x0)) 0 :=
  (den_run CC 15 (bodyT CC 15) ⟨tmOf [(0, .sl (.st 70) x0), (1, .int .i64 x1)] 0 27, [], 0⟩ fun r => prjR GG [(.int .i64)] r.1).trans (by kernel_rfl)

theorem l_toBindingS_v1_eq (x0 : (List TBinding)) : l_toBindingS_v1 x0 = ((mk (len x0) (TBinding.mk [] (TValue.mk (Int.ofNat 0) (Int.ofNat 0) [] (Int.ofNat 0)))) : Option (List TBinding)).bind fun y200 => l_toBindingS_L3_v1 x0 0 y200 :=
  (den_run CC 17 (bodyT CC 17) ⟨tmOf [(0, .sl (.st 47) x0)] 0 23, [], 0⟩ fun r => prjO GG [(false, [.ow 48 (.st 47)])] r).trans (by kernel_rfl)

theorem l_toFunctionS_v1_eq (x0 : (List TFunction)) : l_toFunctionS_v1 x0 = ((mk (len x0) (TFunction.mk [] [] [] [])) : Option (List TFunction)).bind fun y200 => l_toFunctionS_L3_v1 x0 0 y200 :=
  (den_run CC 18 (bodyT CC 18) ⟨tmOf [(0, .sl (.st 67) x0)] 0 23, [], 0⟩ fun r => prjO GG [(false, [.tw 75 (.st 67)])] r).trans (by kernel_rfl)

theorem l_toRecordTypeS_v1_eq (x0 : (List TRecordType)) : l_toRecordTypeS_v1 x0 = ((mk (len x0) (TRecordType.mk [] [])) : Option (List TRecordType)).bind fun y200 => l_toRecordTypeS_L3_v1 x0 0 y200 :=
  (den_run CC 19 (bodyT CC 19) ⟨tmOf [(0, .sl (.st 70) x0)] 0 23, [], 0⟩ fun r => prjO GG [(false, [.tw 77 (.st 70)])] r).trans (by kernel_rfl)

theorem s_ValidScope_eq (x0 : TScope) : s_ValidScope x0 = if (decide (len x0.fVars > 40)) = true then s_ValidScope_L2 else if (decide (len x0.fFunctions > 12)) = true then s_ValidScope_L2 else if (decide (len x0.fTypes > 8)) = true then s_ValidScope_L2 else s_ValidScope_L3 x0.fVars x0.fFunctions x0.fTypes :=
  (den_run CC 16 (bodyT CC 16) ⟨tmOf [(0, .st 25 x0)] 0 134, [], 0⟩ fun r => prjR GG [.bool] r.1).trans (by kernel_rfl)

theorem s_ScopeRoots_L5_eq (x0 : Int) (x1 : (List TBinding)) (x2 : (List TFunction)) (x3 : (List TRecordType)) (x4 : (List TValue)) : s_ScopeRoots_L5 x0 x1 x2 x3 x4 = if (decide (x0 < len x1)) = true then ((idx x1 x0) : Option TBinding).bind fun y199 => ((app x4 [y199.fValue]) : Option (List TValue)).bind fun y198 => s_ScopeRoots_L5 (w64 (x0 + 1)) x1 x2 x3 y198 else some x4 :=
  (den_run CC 5 (lbl CC 5 5) ⟨tmOf [(1, .ref 0 0), (3, .arr 1), (4, .int .i64 x0)] 0 26, [.box 34 [.sl (.st 47) x1, .sl (.st 67) x2, .sl (.st 70) x3] false, .arr 46 (.st 45) x4 false], 0⟩ fun r => prjR GG [(.sl (.st 45))] r.1).trans (by kernel_rfl)

theorem i_ValidScope_eq (x0 : TScope) : i_ValidScope x0 = if (decide (len x0.fVars > 40)) = true then i_ValidScope_L2 else if (decide (len x0.fFunctions > 12)) = true then i_ValidScope_L2 else if (decide (len x0.fTypes > 8)) = true then i_ValidScope_L2 else i_ValidScope_L3 x0.fVars x0.fFunctions x0.fTypes :=
  (den_run CC 20 (bodyT CC 20) ⟨tmOf [(0, .st 25 x0)] 0 49, [], 0⟩ fun r => prjR GG [.bool] r.1).trans (by kernel_rfl)

theorem i_Scope_roots_v1_eq (x0 : TScope) : i_Scope_roots_v1 x0 = i_Scope_roots_L3_v1 x0.fVars (len x0.fVars) 0 ([]) :=
  (den_run CC 21 (bodyT CC 21) ⟨tmOf [(0, .st 25 x0)] 0 21, [], 0⟩ fun r => prjO GG [(false, [.ow 46 (.st 45)])] r).trans (by kernel_rfl)

theorem l_eqValueS_L4_eq (x0 : (List TValue)) (x1 : (List TValue)) (x2 : Int) : l_eqValueS_L4 x0 x1 x2 = if (decide (x2 < len x0)) = true then ((idx x0 x2) : Option TValue).bind fun y199 => ((idx x1 x2) : Option TValue).bind fun y198 => (l_eqValue y199 y198).bind fun r197 => if (!r197) = true then some (false) else l_eqValueS_L4 x0 x1 (w64 (x2 + 1)) else some (true) :=
  (den_run CC 8 (lbl CC 8 4) ⟨tmOf [(0, .sl (.st 45) x0), (1, .sl (.st 45) x1), (5, .int .i64 x2)] 0 27, [], 0⟩ fun r => prjR GG [.bool] r.1).trans (by kernel_rfl)

theorem l_eqBindingS_eq (x0 : (List TBinding)) (x1 : (List TBinding)) : l_eqBindingS x0 x1 = if (len x0 != len x1) = true then some (false) else l_eqBindingS_L4 x0 x1 0 :=
  (den_run CC 23 (bodyT CC 23) ⟨tmOf [(0, .sl (.st 47) x0), (1, .sl (.st 47) x1)] 0 27, [], 0⟩ fun r => prjR GG [.bool] r.1).trans (by kernel_rfl)

theorem l_eqFunctionS_eq (x0 : (List TFunction)) (x1 : (List TFunction)) : l_eqFunctionS x0 x1 = if (len x0 != len x1) = true then some (false) else l_eqFunctionS_L4 x0 x1 0 :=
  (den_run CC 24 (bodyT CC 24) ⟨tmOf [(0, .sl (.st 67) x0), (1, .sl (.st 67) x1)] 0 27, [], 0⟩ fun r => prjR GG [.bool] r.1).trans (by kernel_rfl)

theorem l_eqRecordTypeS_eq (x0 : (List TRecordType)) (x1 : (List TRecordType)) : l_eqRecordTypeS x0 x1 = if (len x0 != len x1) = true then some (false) else l_eqRecordTypeS_L4 x0 x1 0 :=
  (den_run CC 25 (bodyT CC 25) ⟨tmOf [(0, .sl (.st 70) x0), (1, .sl (.st 70) x1)] 0 27, [], 0⟩ fun r => prjR GG [.bool] r.1).trans (by kernel_rfl)

theorem l_markBindingS_eq (x0 : Int) (x1 : (List TBinding)) : l_markBindingS x0 x1 = l_markBindingS_L2 x0 0 x1 :=
  (den_run CC 26 (bodyT CC 26) ⟨tmOf [(0, .arr 0), (1, .int .i64 x0)] 0 54, [.arr 48 (.st 47) x1 false], 1⟩ fun r => prjW GG [(.int .i64)] [.ow 48 (.st 47)] r).trans (by kernel_rfl)

theorem l_markFunctionS_eq (x0 : Int) (x1 : (List TFunction)) : l_markFunctionS x0 x1 = l_markFunctionS_L2 x0 0 x1 :=
  (den_run CC 27 (bodyT CC 27) ⟨tmOf [(0, .arr 0), (1, .int .i64 x0)] 0 43, [.tr 75 (.st 67) x1 []], 1⟩ fun r => prjW GG [(.int .i64)] [.tw 75 (.st 67)] r).trans (by kernel_rfl)

theorem l_markRecordTypeS_eq (x0 : Int) (x1 : (List TRecordType)) : l_markRecordTypeS x0 x1 = l_markRecordTypeS_L2 x0 0 x1 :=
  (den_run CC 28 (bodyT CC 28) ⟨tmOf [(0, .arr 0), (1, .int .i64 x0)] 0 28, [.tr 77 (.st 70) x1 []], 1⟩ fun r => prjW GG [(.int .i64)] [.tw 77 (.st 70)] r).trans (by kernel_rfl)

theorem l_markValueS_L2_eq (x0 : Int) (x1 : Int) (x2 : (List TValue)) : l_markValueS_L2 x0 x1 x2 = if (decide (x1 < len x2)) = true then ((idx x2 x1) : Option TValue).bind fun y199 => ((x2[Int.toNat x1]?) : Option TValue).bind fun y198 => ((idx (upd x2 (Int.toNat x1) (TValue.mk x0 y198.fNum y198.fText y198.fRef)) x1) : Option TValue).bind fun y197 => (((upd x2 (Int.toNat x1) (TValue.mk x0 y198.fNum y198.fText y198.fRef))[Int.toNat x1]?) : Option TValue).bind fun y196 => (l_markText (w64 (w64 (x0 + 1) + 1))).bind fun r195 => ((idx (upd (upd x2 (Int.toNat x1) (TValue.mk x0 y198.fNum y198.fText y198.fRef)) (Int.toNat x1) (TValue.mk y196.fKind (w64 (x0 + 1)) y196.fText y196.fRef)) x1) : Option TValue).bind fun y194 => (((upd (upd x2 (Int.toNat x1) (TValue.mk x0 y198.fNum y198.fText y198.fRef)) (Int.toNat x1) (TValue.mk y196.fKind (w64 (x0 + 1)) y196.fText y196.fRef))[Int.toNat x1]?) : Option TValue).bind fun y193 => ((idx (upd (upd (upd x2 (Int.toNat x1) (TValue.mk x0 y198.fNum y198.fText y198.fRef)) (Int.toNat x1) (TValue.mk y196.fKind (w64 (x0 + 1)) y196.fText y196.fRef)) (Int.toNat x1) (TValue.mk y193.fKind y193.fNum r195 y193.fRef)) x1) : Option TValue).bind fun y192 => (((upd (upd (upd x2 (Int.toNat x1) (TValue.mk x0 y198.fNum y198.fText y198.fRef)) (Int.toNat x1) (TValue.mk y196.fKind (w64 (x0 + 1)) y196.fText y196.fRef)) (Int.toNat x1) (TValue.mk y193.fKind y193.fNum r195 y193.fRef))[Int.toNat x1]?) : Option TValue).bind fun y191 => l_markValueS_L2 (w64 (w64 (w64 (w64 (x0 + 1) + 1) + 1) + 1)) (w64 (x1 + 1)) (upd (upd (upd (upd x2 (Int.toNat x1) (TValue.mk x0 y198.fNum y198.fText y198.fRef)) (Int.toNat x1) (TValue.mk y196.fKind (w64 (x0 + 1)) y196.fText y196.fRef)) (Int.toNat x1) (TValue.mk y193.fKind y193.fNum r195 y193.fRef)) (Int.toNat x1) (TValue.mk y191.fKind y191.fNum y191.fText (w64 (w64 (w64 (x0 + 1) + 1) + 1)))) else some ((x0), ((x2), ())) :=
  (den_run CC 11 (lbl CC 11 2) ⟨tmOf [(0, .arr 0), (1, .int .i64 x0), (5, .int .i64 x1)] 0 42, [.arr 46 (.st 45) x2 false], 1⟩ fun r => prjW GG [(.int .i64)] [.ow 46 (.st 45)] r).trans (by kernel_rfl)

theorem l_heldValueS_L2_eq (x0 : (List TValue)) (x1 : Int) (x2 : Int) : l_heldValueS_L2 x0 x1 x2 = if (decide (x2 < len x0)) = true then ((idx x0 x2) : Option TValue).bind fun y199 => if (y199.fKind != x1) = true then some (-1) else ((idx x0 x2) : Option TValue).bind fun y197 => if (y197.fNum != w64 (x1 + 1)) = true then some (-1) else ((idx x0 x2) : Option TValue).bind fun y195 => (l_markText (w64 (w64 (x1 + 1) + 1))).bind fun r194 => if (!y195.fText == r194) = true then some (-1) else ((idx x0 x2) : Option TValue).bind fun y192 => if (y192.fRef != w64 (w64 (w64 (x1 + 1) + 1) + 1)) = true then some (-1) else l_heldValueS_L2 x0 (w64 (w64 (w64 (w64 (x1 + 1) + 1) + 1) + 1)) (w64 (x2 + 1)) else some x1 :=
  (den_run CC 12 (lbl CC 12 2) ⟨tmOf [(0, .sl (.st 45) x0), (1, .int .i64 x1), (5, .int .i64 x2)] 0 50, [], 0⟩ fun r => prjR GG [(.int .i64)] r.1).trans (by kernel_rfl)

theorem l_szBindingS_L5_eq (x0 : (List TBinding)) (x1 : Int) (x2 : Int) : l_szBindingS_L5 x0 x1 x2 = if (decide (x2 < len x0)) = true then ((idx x0 x2) : Option TBinding).bind fun y199 => (l_szBinding y199 x1).bind fun r198 => if (decide (r198 < 0)) = true then some (-1) else l_szBindingS_L5 x0 r198 (w64 (x2 + 1)) else some x1 :=
  (den_run CC 13 (lbl CC 13 5) ⟨tmOf [(0, .sl (.st 47) x0), (1, .int .i64 x1), (5, .int .i64 x2)] 0 27, [], 0⟩ fun r => prjR GG [(.int .i64)] r.1).trans (by kernel_rfl)

theorem l_szFunctionS_L5_eq (x0 : (List TFunction)) (x1 : Int) (x2 : Int) : l_szFunctionS_L5 x0 x1 x2 = if (decide (x2 < len x0)) = true then ((idx x0 x2) : Option TFunction).bind fun y199 => (l_szFunction y199 x1).bind fun r198 => if (decide (r198 < 0)) = true then some (-1) else l_szFunctionS_L5 x0 r198 (w64 (x2 + 1)) else some x1 :=
  (den_run CC 14 (lbl CC 14 5) ⟨tmOf [(0, .sl (.st 67) x0), (1, .int .i64 x1), (5, .int .i64 x2)] 0 27, [], 0⟩ fun r => prjR GG [(.int .i64)] r.1).trans (by kernel_rfl)

theorem l_szRecordTypeS_L5_eq (x0 : (List TRecordType)) (x1 : Int) (x2 : Int) : l_szRecordTypeS_L5 x0 x1 x2 = if (decide (x2 < len x0)) = true then ((idx x0 x2) : Option TRecordType).bind fun y199 => (l_szRecordType y199 x1).bind fun r198 => if (decide (r198 < 0)) = true then some (-1) else l_szRecordTypeS_L5 x0 r198 (w64 (x2 + 1)) else some x1 :=
  (den_run CC 15 (lbl CC 15 5) ⟨tmOf [(0, .sl (.st 70) x0), (1, .int .i64 x1), (5, .int .i64 x2)] 0 27, [], 0⟩ fun r => prjR GG [(.int .i64)] r.1).trans (by kernel_rfl)

theorem l_toBindingS_L3_v1_eq (x0 : (List TBinding)) (x1 : Int) (x2 : (List TBinding)) : l_toBindingS_L3_v1 x0 x1 x2 = if (decide (x1 < len x0)) = true then ((idx x0 x1) : Option TBinding).bind fun y199 => (l_toBinding y199).bind fun r198 => ((idx x2 x1) : Option TBinding).bind fun y197 => ((x2[Int.toNat x1]?) : Option TBinding).bind fun y196 => l_toBindingS_L3_v1 x0 (w64 (x1 + 1)) (upd x2 (Int.toNat x1) r198) else some (((x2), ()), ()) :=
  (den_run CC 17 (lbl CC 17 3) ⟨tmOf [(0, .sl (.st 47) x0), (3, .arr 0), (4, .int .i64 x1)] 0 23, [.arr 48 (.st 47) x2 false], 0⟩ fun r => prjO GG [(false, [.ow 48 (.st 47)])] r).trans (by kernel_rfl)

theorem l_toFunctionS_L3_v1_eq (x0 : (List TFunction)) (x1 : Int) (x2 : (List TFunction)) : l_toFunctionS_L3_v1 x0 x1 x2 = if (decide (x1 < len x0)) = true then ((idx x0 x1) : Option TFunction).bind fun y199 => (l_toFunction_v1 y199).bind fun r198 => ((idx x2 x1) : Option TFunction).bind fun y197 => ((x2[Int.toNat x1]?) : Option TFunction).bind fun y196 => l_toFunctionS_L3_v1 x0 (w64 (x1 + 1)) (upd x2 (Int.toNat x1) (TFunction.mk (Prod.fst (Prod.fst r198)) (Prod.fst (Prod.snd (Prod.fst r198))) (Prod.fst (Prod.snd (Prod.snd (Prod.fst r198)))) (Prod.fst (Prod.snd (Prod.snd (Prod.snd (Prod.fst r198))))))) else some (((x2), ()), ()) :=
  (den_run CC 18 (lbl CC 18 3) ⟨tmOf [(0, .sl (.st 67) x0), (3, .arr 0), (4, .int .i64 x1)] 0 23, [.tr 75 (.st 67) x2 []], 0⟩ fun r => prjO GG [(false, [.tw 75 (.st 67)])] r).trans (by kernel_rfl)

theorem l_toRecordTypeS_L3_v1_eq (x0 : (List TRecordType)) (x1 : Int) (x2 : (List TRecordType)) : l_toRecordTypeS_L3_v1 x0 x1 x2 = if (decide (x1 < len x0)) = true then ((idx x0 x1) : Option TRecordType).bind fun y199 => (l_toRecordType_v1 y199).bind fun r198 => ((idx x2 x1) : Option TRecordType).bind fun y197 => ((x2[Int.toNat x1]?) : Option TRecordType).bind fun y196 => l_toRecordTypeS_L3_v1 x0 (w64 (x1 + 1)) (upd x2 (Int.toNat x1) (TRecordType.mk (Prod.fst (Prod.fst r198)) (Prod.fst (Prod.snd (Prod.fst r198))))) else some (((x2), ()), ()) :=
  (den_run CC 19 (lbl CC 19 3) ⟨tmOf [(0, .sl (.st 70) x0), (3, .arr 0), (4, .int .i64 x1)] 0 23, [.tr 77 (.st 70) x2 []], 0⟩ fun r => prjO GG [(false, [.tw 77 (.st 70)])] r).trans (by kernel_rfl)

theorem s_ValidScope_L2_eq : s_ValidScope_L2 = some (false) :=
  (den_run CC 16 (lbl CC 16 2) ⟨tmOf [] 0 134, [], 0⟩ fun r => prjR GG [.bool] r.1).trans (by kernel_rfl)

theorem s_ValidScope_L3_eq (x0 : (List TBinding)) (x1 : (List TFunction)) (x2 : (List TRecordType)) : s_ValidScope_L3 x0 x1 x2 = s_ValidScope_L4 0 x0 x1 x2 :=
  (den_run CC 16 (lbl CC 16 3) ⟨tmOf [(1, .ref 0 0)] 0 134, [.box 34 [.sl (.st 47) x0, .sl (.st 67) x1, .sl (.st 70) x2] false], 0⟩ fun r => prjR GG [.bool] r.1).trans (by kernel_rfl)

theorem i_ValidScope_L2_eq : i_ValidScope_L2 = some (false) :=
  (den_run CC 20 (lbl CC 20 2) ⟨tmOf [] 0 49, [], 0⟩ fun r => prjR GG [.bool] r.1).trans (by kernel_rfl)

theorem i_ValidScope_L3_eq (x0 : (List TBinding)) (x1 : (List TFunction)) (x2 : (List TRecordType)) : i_ValidScope_L3 x0 x1 x2 = (i_isSorted_impl_Binding__i_nameOfBinding x0).bind fun r200 => if r200 = true then (i_isSorted_impl_Function__i_nameOfFunction x1).bind fun r198 => if r198 = true then (i_isSorted_impl_RecordType__i_nameOfType x2).bind fun r196 => i_ValidScope_L4 r196 x0 x1 x2 else i_ValidScope_L4 (false) x0 x1 x2 else i_ValidScope_L4 (false) x0 x1 x2 :=
  (den_run CC 20 (lbl CC 20 3) ⟨tmOf [(1, .ref 0 0)] 0 49, [.box 34 [.sl (.st 47) x0, .sl (.st 67) x1, .sl (.st 70) x2] false], 0⟩ fun r => prjR GG [.bool] r.1).trans (by kernel_rfl)

theorem i_Scope_roots_L3_v1_eq (x0 : (List TBinding)) (x1 : Int) (x2 : Int) (x3 : (List TValue)) : i_Scope_roots_L3_v1 x0 x1 x2 x3 = if (decide (x2 < x1)) = true then ((idx x0 x2) : Option TBinding).bind fun y199 => ((app x3 [y199.fValue]) : Option (List TValue)).bind fun y198 => i_Scope_roots_L3_v1 x0 x1 (w64 (x2 + 1)) y198 else some (((x3), ()), ()) :=
  (den_run CC 21 (lbl CC 21 3) ⟨tmOf [(3, .arr 0), (8, .sl (.st 47) x0), (9, .int .i64 x1), (10, .int .i64 x2)] 0 21, [.arr 46 (.st 45) x3 false], 0⟩ fun r => prjO GG [(false, [.ow 46 (.st 45)])] r).trans (by kernel_rfl)

theorem l_eqValue_eq (x0 : TValue) (x1 : TValue) : l_eqValue x0 x1 = if (x0.fKind != x1.fKind) = true then some (false) else if (x0.fNum != x1.fNum) = true then some (false) else if (!x0.fText == x1.fText) = true then some (false) else if (x0.fRef != x1.fRef) = true then some (false) else some (true) :=
  (den_run CC 22 (bodyT CC 22) ⟨tmOf [(0, .st 45 x0), (1, .st 45 x1)] 0 25, [], 0⟩ fun r => prjR GG [.bool] r.1).trans (by kernel_rfl)

theorem l_eqBindingS_L4_eq (x0 : (List TBinding)) (x1 : (List TBinding)) (x2 : Int) : l_eqBindingS_L4 x0 x1 x2 = if (decide (x2 < len x0)) = true then ((idx x0 x2) : Option TBinding).bind fun y199 => ((idx x1 x2) : Option TBinding).bind fun y198 => (l_eqBinding y199 y198).bind fun r197 => if (!r197) = true then some (false) else l_eqBindingS_L4 x0 x1 (w64 (x2 + 1)) else some (true) :=
  (den_run CC 23 (lbl CC 23 4) ⟨tmOf [(0, .sl (.st 47) x0), (1, .sl (.st 47) x1), (5, .int .i64 x2)] 0 27, [], 0⟩ fun r => prjR GG [.bool] r.1).trans (by kernel_rfl)

theorem l_eqFunctionS_L4_eq (x0 : (List TFunction)) (x1 : (List TFunction)) (x2 : Int) : l_eqFunctionS_L4 x0 x1 x2 = if (decide (x2 < len x0)) = true then ((idx x0 x2) : Option TFunction).bind fun y199 => ((idx x1 x2) : Option TFunction).bind fun y198 => (l_eqFunction y199 y198).bind fun r197 => if (!r197) = true then some (false) else l_eqFunctionS_L4 x0 x1 (w64 (x2 + 1)) else some (true) :=
  (den_run CC 24 (lbl CC 24 4) ⟨tmOf [(0, .sl (.st 67) x0), (1, .sl (.st 67) x1), (5, .int .i64 x2)] 0 27, [], 0⟩ fun r => prjR GG [.bool] r.1).trans (by kernel_rfl)

theorem l_eqRecordTypeS_L4_eq (x0 : (List TRecordType)) (x1 : (List TRecordType)) (x2 : Int) : l_eqRecordTypeS_L4 x0 x1 x2 = if (decide (x2 < len x0)) = true then ((idx x0 x2) : Option TRecordType).bind fun y199 => ((idx x1 x2) : Option TRecordType).bind fun y198 => (l_eqRecordType y199 y198).bind fun r197 => if (!r197) = true then some (false) else l_eqRecordTypeS_L4 x0 x1 (w64 (x2 + 1)) else some (true) :=
  (den_run CC 25 (lbl CC 25 4) ⟨tmOf [(0, .sl (.st 70) x0), (1, .sl (.st 70) x1), (5, .int .i64 x2)] 0 27, [], 0⟩ fun r => prjR GG [.bool] r.1).trans (by kernel_rfl)

theorem l_markBindingS_L2_eq (x0 : Int) (x1 : Int) (x2 : (List TBinding)) : l_markBindingS_L2 x0 x1 x2 = if (decide (x1 < len x2)) = true then (l_markText x0).bind fun r199 => ((idx x2 x1) : Option TBinding).bind fun y198 => ((x2[Int.toNat x1]?) : Option TBinding).bind fun y197 => ((idx (upd x2 (Int.toNat x1) (TBinding.mk r199 y197.fValue)) x1) : Option TBinding).bind fun y196 => (((upd x2 (Int.toNat x1) (TBinding.mk r199 y197.fValue))[Int.toNat x1]?) : Option TBinding).bind fun y195 => ((idx (upd (upd x2 (Int.toNat x1) (TBinding.mk r199 y197.fValue)) (Int.toNat x1) (TBinding.mk y195.fName (TValue.mk (w64 (x0 + 1)) y195.fValue.fNum y195.fValue.fText y195.fValue.fRef))) x1) : Option TBinding).bind fun y194 => (((upd (upd x2 (Int.toNat x1) (TBinding.mk r199 y197.fValue)) (Int.toNat x1) (TBinding.mk y195.fName (TValue.mk (w64 (x0 + 1)) y195.fValue.fNum y195.fValue.fText y195.fValue.fRef)))[Int.toNat x1]?) : Option TBinding).bind fun y193 => (l_markText (w64 (w64 (w64 (x0 + 1) + 1) + 1))).bind fun r192 => ((idx (upd (upd (upd x2 (Int.toNat x1) (TBinding.mk r199 y197.fValue)) (Int.toNat x1) (TBinding.mk y195.fName (TValue.mk (w64 (x0 + 1)) y195.fValue.fNum y195.fValue.fText y195.fValue.fRef))) (Int.toNat x1) (TBinding.mk y193.fName (TValue.mk y193.fValue.fKind (w64 (w64 (x0 + 1) + 1)) y193.fValue.fText y193.fValue.fRef))) x1) : Option TBinding).bind fun y191 => (((upd (upd (upd x2 (Int.toNat x1) (TBinding.mk r199 y197.fValue)) (Int.toNat x1) (TBinding.mk y195.fName (TValue.mk (w64 (x0 + 1)) y195.fValue.fNum y195.fValue.fText y195.fValue.fRef))) (Int.toNat x1) (TBinding.mk y193.fName (TValue.mk y193.fValue.fKind (w64 (w64 (x0 + 1) + 1)) y193.fValue.fText y193.fValue.fRef)))[Int.toNat x1]?) : Option TBinding).bind fun y190 => ((idx (upd (upd (upd (upd x2 (Int.toNat x1) (TBinding.mk r199 y197.fValue)) (Int.toNat x1) (TBinding.mk y195.fName (TValue.mk (w64 (x0 + 1)) y195.fValue.fNum y195.fValue.fText y195.fValue.fRef))) (Int.toNat x1) (TBinding.mk y193.fName (TValue.mk y193.fValue.fKind (w64 (w64 (x0 + 1) + 1)) y193.fValue.fText y193.fValue.fRef))) (Int.toNat x1) (TBinding.mk y190.fName (TValue.mk y190.fValue.fKind y190.fValue.fNum r192 y190.fValue.fRef))) x1) : Option TBinding).bind fun y189 => (((upd (upd (upd (upd x2 (Int.toNat x1) (TBinding.mk r199 y197.fValue)) (Int.toNat x1) (TBinding.mk y195.fName (TValue.mk (w64 (x0 + 1)) y195.fValue.fNum y195.fValue.fText y195.fValue.fRef))) (Int.toNat x1) (TBinding.mk y193.fName (TValue.mk y193.fValue.fKind (w64 (w64 (x0 + 1) + 1)) y193.fValue.fText y193.fValue.fRef))) (Int.toNat x1) (TBinding.mk y190.fName (TValue.mk y190.fValue.fKind y190.fValue.fNum r192 y190.fValue.fRef)))[Int.toNat x1]?) : Option TBinding).bind fun y188 => l_markBindingS_L2 (w64 (w64 (w64 (w64 (w64 (x0 + 1) + 1) + 1) + 1) + 1)) (w64 (x1 + 1)) (upd (upd (upd (upd (upd x2 (Int.toNat x1) (TBinding.mk r199 y197.fValue)) (Int.toNat x1) (TBinding.mk y195.fName (TValue.mk (w64 (x0 + 1)) y195.fValue.fNum y195.fValue.fText y195.fValue.fRef))) (Int.toNat x1) (TBinding.mk y193.fName (TValue.mk y193.fValue.fKind (w64 (w64 (x0 + 1) + 1)) y193.fValue.fText y193.fValue.fRef))) (Int.toNat x1) (TBinding.mk y190.fName (TValue.mk y190.fValue.fKind y190.fValue.fNum r192 y190.fValue.fRef))) (Int.toNat x1) (TBinding.mk y188.fName (TValue.mk y188.fValue.fKind y188.fValue.fNum y188.fValue.fText (w64 (w64 (w64 (w64 (x0 + 1) + 1) + 1) + 1))))) else some ((x0), ((x2), ())) :=
  (den_run CC 26 (lbl CC 26 2) ⟨tmOf [(0, .arr 0), (1, .int .i64 x0), (5, .int .i64 x1)] 0 54, [.arr 48 (.st 47) x2 false], 1⟩ fun r => prjW GG [(.int .i64)] [.ow 48 (.st 47)] r).trans (by kernel_rfl)

theorem l_markFunctionS_L2_eq (x0 : Int) (x1 : Int) (x2 : (List TFunction)) : l_markFunctionS_L2 x0 x1 x2 = if (decide (x1 < len x2)) = true then (l_markText x0).bind fun r199 => ((idx x2 x1) : Option TFunction).bind fun y198 => ((x2[Int.toNat x1]?) : Option TFunction).bind fun y197 => ((idx (upd x2 (Int.toNat x1) (TFunction.mk r199 y197.fParams y197.fLocals y197.fLabel)) x1) : Option TFunction).bind fun y196 => (((upd x2 (Int.toNat x1) (TFunction.mk r199 y197.fParams y197.fLocals y197.fLabel))[Int.toNat x1]?) : Option TFunction).bind fun y195 => (((upd x2 (Int.toNat x1) (TFunction.mk r199 y197.fParams y197.fLocals y197.fLabel))[Int.toNat x1]?) : Option TFunction).bind fun y194 => (l_markStringS (w64 (x0 + 1)) y194.fParams).bind fun r193 => ((idx (upd x2 (Int.toNat x1) (TFunction.mk r199 y197.fParams y197.fLocals y197.fLabel)) x1) : Option TFunction).bind fun y192 => (((upd x2 (Int.toNat x1) (TFunction.mk r199 y197.fParams y197.fLocals y197.fLabel))[Int.toNat x1]?) : Option TFunction).bind fun y191 => (((upd x2 (Int.toNat x1) (TFunction.mk r199 y197.fParams y197.fLocals y197.fLabel))[Int.toNat x1]?) : Option TFunction).bind fun y190 => (((upd (upd x2 (Int.toNat x1) (TFunction.mk r199 y197.fParams y197.fLocals y197.fLabel)) (Int.toNat x1) (TFunction.mk y190.fName (Prod.fst (Prod.snd r193)) y190.fLocals y190.fLabel))[Int.toNat x1]?) : Option TFunction).bind fun y189 => (l_markStringS (Prod.fst r193) y189.fLocals).bind fun r188 => (l_markText (Prod.fst r188)).bind fun r187 => ((idx (upd (upd x2 (Int.toNat x1) (TFunction.mk r199 y197.fParams y197.fLocals y197.fLabel)) (Int.toNat x1) (TFunction.mk y190.fName (Prod.fst (Prod.snd r193)) y190.fLocals y190.fLabel)) x1) : Option TFunction).bind fun y186 => (((upd (upd x2 (Int.toNat x1) (TFunction.mk r199 y197.fParams y197.fLocals y197.fLabel)) (Int.toNat x1) (TFunction.mk y190.fName (Prod.fst (Prod.snd r193)) y190.fLocals y190.fLabel))[Int.toNat x1]?) : Option TFunction).bind fun y185 => (((upd (upd (upd x2 (Int.toNat x1) (TFunction.mk r199 y197.fParams y197.fLocals y197.fLabel)) (Int.toNat x1) (TFunction.mk y190.fName (Prod.fst (Prod.snd r193)) y190.fLocals y190.fLabel)) (Int.toNat x1) (TFunction.mk y185.fName y185.fParams y185.fLocals r187))[Int.toNat x1]?) : Option TFunction).bind fun y184 => l_markFunctionS_L2 (w64 (Prod.fst r188 + 1)) (w64 (x1 + 1)) (upd (upd (upd (upd x2 (Int.toNat x1) (TFunction.mk r199 y197.fParams y197.fLocals y197.fLabel)) (Int.toNat x1) (TFunction.mk y190.fName (Prod.fst (Prod.snd r193)) y190.fLocals y190.fLabel)) (Int.toNat x1) (TFunction.mk y185.fName y185.fParams y185.fLocals r187)) (Int.toNat x1) (TFunction.mk y184.fName y184.fParams (Prod.fst (Prod.snd r188)) y184.fLabel)) else some ((x0), ((x2), ())) :=
  (den_run CC 27 (lbl CC 27 2) ⟨tmOf [(0, .arr 0), (1, .int .i64 x0), (5, .int .i64 x1)] 0 43, [.tr 75 (.st 67) x2 []], 1⟩ fun r => prjW GG [(.int .i64)] [.tw 75 (.st 67)] r).trans (by kernel_rfl)

theorem l_markRecordTypeS_L2_eq (x0 : Int) (x1 : Int) (x2 : (List TRecordType)) : l_markRecordTypeS_L2 x0 x1 x2 = if (decide (x1 < len x2)) = true then (l_markText x0).bind fun r199 => ((idx x2 x1) : Option TRecordType).bind fun y198 => ((x2[Int.toNat x1]?) : Option TRecordType).bind fun y197 => ((idx (upd x2 (Int.toNat x1) (TRecordType.mk r199 y197.fFields)) x1) : Option TRecordType).bind fun y196 => (((upd x2 (Int.toNat x1) (TRecordType.mk r199 y197.fFields))[Int.toNat x1]?) : Option TRecordType).bind fun y195 => (((upd x2 (Int.toNat x1) (TRecordType.mk r199 y197.fFields))[Int.toNat x1]?) : Option TRecordType).bind fun y194 => (l_markStringS (w64 (x0 + 1)) y194.fFields).bind fun r193 => (((upd x2 (Int.toNat x1) (TRecordType.mk r199 y197.fFields))[Int.toNat x1]?) : Option TRecordType).bind fun y192 => l_markRecordTypeS_L2 (Prod.fst r193) (w64 (x1 + 1)) (upd (upd x2 (Int.toNat x1) (TRecordType.mk r199 y197.fFields)) (Int.toNat x1) (TRecordType.mk y192.fName (Prod.fst (Prod.snd r193)))) else some ((x0), ((x2), ())) :=
  (den_run CC 28 (lbl CC 28 2) ⟨tmOf [(0, .arr 0), (1, .int .i64 x0), (5, .int .i64 x1)] 0 28, [.tr 77 (.st 70) x2 []], 1⟩ fun r => prjW GG [(.int .i64)] [.tw 77 (.st 70)] r).trans (by kernel_rfl)

theorem l_markText_eq (x0 : Int) : l_markText x0 = if (decide (x0 ≤ 0)) = true then some [109, 48] else l_markText_L4 x0 [] :=
  (den_run CC 29 (bodyT CC 29) ⟨tmOf [(0, .int .i64 x0)] 0 20, [], 0⟩ fun r => prjR GG [.str] r.1).trans (by kernel_rfl)

theorem l_szBinding_eq (x0 : TBinding) (x1 : Int) : l_szBinding x0 x1 = if (decide (w64 (x1 - len x0.fName) < 0)) = true then some (-1) else (l_szValue x0.fValue (w64 (x1 - len x0.fName))).bind fun r199 => if (decide (r199 < 0)) = true then some (-1) else some r199 :=
  (den_run CC 30 (bodyT CC 30) ⟨tmOf [(0, .st 47 x0), (1, .int .i64 x1)] 0 19, [], 0⟩ fun r => prjR GG [(.int .i64)] r.1).trans (by kernel_rfl)

theorem l_szFunction_eq (x0 : TFunction) (x1 : Int) : l_szFunction x0 x1 = if (decide (w64 (x1 - len x0.fName) < 0)) = true then some (-1) else (l_szStringS x0.fParams (w64 (x1 - len x0.fName))).bind fun r199 => if (decide (r199 < 0)) = true then some (-1) else (l_szStringS x0.fLocals r199).bind fun r197 => if (decide (r197 < 0)) = true then some (-1) else if (decide (w64 (r197 - len x0.fLabel) < 0)) = true then some (-1) else some (w64 (r197 - len x0.fLabel)) :=
  (den_run CC 31 (bodyT CC 31) ⟨tmOf [(0, .st 67 x0), (1, .int .i64 x1)] 0 32, [], 0⟩ fun r => prjR GG [(.int .i64)] r.1).trans (by kernel_rfl)

theorem l_szRecordType_eq (x0 : TRecordType) (x1 : Int) : l_szRecordType x0 x1 = if (decide (w64 (x1 - len x0.fName) < 0)) = true then some (-1) else (l_szStringS x0.fFields (w64 (x1 - len x0.fName))).bind fun r199 => if (decide (r199 < 0)) = true then some (-1) else some r199 :=
  (den_run CC 32 (bodyT CC 32) ⟨tmOf [(0, .st 70 x0), (1, .int .i64 x1)] 0 19, [], 0⟩ fun r => prjR GG [(.int .i64)] r.1).trans (by kernel_rfl)

theorem l_toBinding_eq (x0 : TBinding) : l_toBinding x0 = (l_toValue x0.fValue).bind fun r200 => some (TBinding.mk x0.fName r200) :=
  (den_run CC 38 (bodyT CC 38) ⟨tmOf [(0, .st 47 x0)] 0 12, [], 0⟩ fun r => prjR GG [(.st 47)] r.1).trans (by kernel_rfl)

theorem l_toFunction_v1_eq (x0 : TFunction) : l_toFunction_v1 x0 = (l_toStringS_v1 x0.fParams).bind fun r200 => (l_toStringS_v1 x0.fLocals).bind fun r199 => some ((x0.fName, (Prod.fst (Prod.fst r200)), (Prod.fst (Prod.fst r199)), x0.fLabel, ()), ()) :=
  (den_run CC 39 (bodyT CC 39) ⟨tmOf [(0, .st 67 x0)] 0 19, [], 0⟩ fun r => prjO GG [(true, [.im .str, .ow 9 .str, .ow 9 .str, .im .str])] r).trans (by kernel_rfl)

theorem l_toRecordType_v1_eq (x0 : TRecordType) : l_toRecordType_v1 x0 = (l_toStringS_v1 x0.fFields).bind fun r200 => some ((x0.fName, (Prod.fst (Prod.fst r200)), ()), ()) :=
  (den_run CC 40 (bodyT CC 40) ⟨tmOf [(0, .st 70 x0)] 0 12, [], 0⟩ fun r => prjO GG [(true, [.im .str, .ow 9 .str])] r).trans (by kernel_rfl)

theorem s_ValidScope_L4_eq (x0 : Int) (x1 : (List TBinding)) (x2 : (List TFunction)) (x3 : (List TRecordType)) : s_ValidScope_L4 x0 x1 x2 x3 = if (decide (x0 < len x1)) = true then ((idx x1 x0) : Option TBinding).bind fun y199 => (s_IsName y199.fName).bind fun r198 => if (!r198) = true then s_ValidScope_L8 else (s_ValidValue y199.fValue).bind fun r196 => if (!r196) = true then s_ValidScope_L8 else (s_IsNull y199.fValue).bind fun r194 => if r194 = true then s_ValidScope_L8 else if (decide (x0 > 0)) = true then ((idx x1 (w64 (x0 - 1))) : Option TBinding).bind fun y191 => if (!Go.Op.bytesLess y191.fName y199.fName) = true then s_ValidScope_L8 else s_ValidScope_L5 x0 x1 x2 x3 else s_ValidScope_L5 x0 x1 x2 x3 else s_ValidScope_L10 0 x1 x2 x3 :=
  (den_run CC 16 (lbl CC 16 4) ⟨tmOf [(1, .ref 0 0), (3, .int .i64 x0)] 0 134, [.box 34 [.sl (.st 47) x1, .sl (.st 67) x2, .sl (.st 70) x3] false], 0⟩ fun r => prjR GG [.bool] r.1).trans (by kernel_rfl)

theorem i_isSorted_impl_Binding__i_nameOfBinding_eq (x0 : (List TBinding)) : i_isSorted_impl_Binding__i_nameOfBinding x0 = i_isSorted_impl_Binding_L2__i_nameOfBinding x0 1 :=
  (den_run CC 41 (bodyT CC 41) ⟨tmOf [(0, .sl (.st 47) x0), (1, .fn 42 [])] 0 26, [], 0⟩ fun r => prjR GG [.bool] r.1).trans (by kernel_rfl)

theorem i_isSorted_impl_Function__i_nameOfFunction_eq (x0 : (List TFunction)) : i_isSorted_impl_Function__i_nameOfFunction x0 = i_isSorted_impl_Function_L2__i_nameOfFunction x0 1 :=
  (den_run CC 43 (bodyT CC 43) ⟨tmOf [(0, .sl (.st 67) x0), (1, .fn 44 [])] 0 26, [], 0⟩ fun r => prjR GG [.bool] r.1).trans (by kernel_rfl)

theorem i_isSorted_impl_RecordType__i_nameOfType_eq (x0 : (List TRecordType)) : i_isSorted_impl_RecordType__i_nameOfType x0 = i_isSorted_impl_RecordType_L2__i_nameOfType x0 1 :=
  (den_run CC 45 (bodyT CC 45) ⟨tmOf [(0, .sl (.st 70) x0), (1, .fn 46 [])] 0 26, [], 0⟩ fun r => prjR GG [.bool] r.1).trans (by kernel_rfl)

theorem i_ValidScope_L4_eq (x0 : Bool) (x1 : (List TBinding)) (x2 : (List TFunction)) (x3 : (List TRecordType)) : i_ValidScope_L4 x0 x1 x2 x3 = if x0 = true then (i_areAll_impl_Binding__i_Binding_isValid x1).bind fun r199 => if r199 = true then (i_areAll_impl_Function__i_Function_isValid x2).bind fun r197 => if r197 = true then (i_areAll_impl_RecordType__i_RecordType_isValid x3).bind fun r195 => some r195 else some (false) else some (false) else some (false) :=
  (den_run CC 20 (lbl CC 20 4) ⟨tmOf [(1, .ref 0 0), (3, .bool x0)] 0 49, [.box 34 [.sl (.st 47) x1, .sl (.st 67) x2, .sl (.st 70) x3] false], 0⟩ fun r => prjR GG [.bool] r.1).trans (by kernel_rfl)

theorem l_eqBinding_eq (x0 : TBinding) (x1 : TBinding) : l_eqBinding x0 x1 = if (!x0.fName == x1.fName) = true then some (false) else (l_eqValue x0.fValue x1.fValue).bind fun r199 => if (!r199) = true then some (false) else some (true) :=
  (den_run CC 53 (bodyT CC 53) ⟨tmOf [(0, .st 47 x0), (1, .st 47 x1)] 0 16, [], 0⟩ fun r => prjR GG [.bool] r.1).trans (by kernel_rfl)

theorem l_eqFunction_eq (x0 : TFunction) (x1 : TFunction) : l_eqFunction x0 x1 = if (!x0.fName == x1.fName) = true then some (false) else (l_eqStringS x0.fParams x1.fParams).bind fun r199 => if (!r199) = true then some (false) else (l_eqStringS x0.fLocals x1.fLocals).bind fun r197 => if (!r197) = true then some (false) else if (!x0.fLabel == x1.fLabel) = true then some (false) else some (true) :=
  (den_run CC 54 (bodyT CC 54) ⟨tmOf [(0, .st 67 x0), (1, .st 67 x1)] 0 27, [], 0⟩ fun r => prjR GG [.bool] r.1).trans (by kernel_rfl)

theorem l_eqRecordType_eq (x0 : TRecordType) (x1 : TRecordType) : l_eqRecordType x0 x1 = if (!x0.fName == x1.fName) = true then some (false) else (l_eqStringS x0.fFields x1.fFields).bind fun r199 => if (!r199) = true then some (false) else some (true) :=
  (den_run CC 55 (bodyT CC 55) ⟨tmOf [(0, .st 70 x0), (1, .st 70 x1)] 0 16, [], 0⟩ fun r => prjR GG [.bool] r.1).trans (by kernel_rfl)

theorem l_markStringS_eq (x0 : Int) (x1 : (List (List UInt8))) : l_markStringS x0 x1 = l_markStringS_L2 x0 0 x1 :=
  (den_run CC 56 (bodyT CC 56) ⟨tmOf [(0, .arr 0), (1, .int .i64 x0)] 0 20, [.arr 9 .str x1 false], 1⟩ fun r => prjW GG [(.int .i64)] [.ow 9 .str] r).trans (by kernel_rfl)

theorem l_markText_L4_eq (x0 : Int) (x1 : (List UInt8)) : l_markText_L4 x0 x1 = if (decide (x0 > 0)) = true then ((rem x0 10) : Option Int).bind fun y199 => ((app (List.map (fun (n : Int) ↦ UInt8.ofNat (Int.toNat n)) [Go.IntKind.wrap Go.IntKind.u8 (w64 (48 + y199))]) x1) : Option (List UInt8)).bind fun y198 => ((quo Go.IntKind.i64 x0 10) : Option Int).bind fun y197 => l_markText_L4 y197 y198 else ((app ([109]) x1) : Option (List UInt8)).bind fun y199 => some y199 :=
  (den_run CC 29 (lbl CC 29 4) ⟨tmOf [(0, .int .i64 x0), (3, .str x1)] 0 20, [], 0⟩ fun r => prjR GG [.str] r.1).trans (by kernel_rfl)

theorem l_szValue_eq (x0 : TValue) (x1 : Int) : l_szValue x0 x1 = if (decide (w64 (x1 - len x0.fText) < 0)) = true then some (-1) else some (w64 (x1 - len x0.fText)) :=
  (den_run CC 57 (bodyT CC 57) ⟨tmOf [(0, .st 45 x0), (1, .int .i64 x1)] 0 13, [], 0⟩ fun r => prjR GG [(.int .i64)] r.1).trans (by kernel_rfl)

theorem l_szStringS_eq (x0 : (List (List UInt8))) (x1 : Int) : l_szStringS x0 x1 = if (decide (w64 (x1 - len x0) < 0)) = true then some (-1) else l_szStringS_L5 x0 (w64 (x1 - len x0)) 0 :=
  (den_run CC 58 (bodyT CC 58) ⟨tmOf [(0, .sl .str x0), (1, .int .i64 x1)] 0 28, [], 0⟩ fun r => prjR GG [(.int .i64)] r.1).trans (by kernel_rfl)

theorem l_toValue_eq (x0 : TValue) : l_toValue x0 = some x0 :=
  (den_run CC 63 (bodyT CC 63) ⟨tmOf [(0, .st 45 x0)] 0 17, [], 0⟩ fun r => prjR GG [(.st 45)] r.1).trans (by kernel_rfl)

theorem l_toStringS_v1_eq (x0 : (List (List UInt8))) : l_toStringS_v1 x0 = ((mk (len x0) ([])) : Option (List (List UInt8))).bind fun y200 => l_toStringS_L3_v1 x0 0 y200 :=
  (den_run CC 64 (bodyT CC 64) ⟨tmOf [(0, .sl .str x0)] 0 22, [], 0⟩ fun r => prjO GG [(false, [.ow 9 .str])] r).trans (by kernel_rfl)

theorem s_IsName_eq (x0 : (List UInt8)) : s_IsName x0 = if (!x0 == []) = true then if (decide (len x0 ≤ 12)) = true then (s_l02NameEnd x0 0).bind fun r198 => some (r198 == len x0) else some (false) else some (false) :=
  (den_run CC 33 (bodyT CC 33) ⟨tmOf [(0, .str x0)] 0 17, [], 0⟩ fun r => prjR GG [.bool] r.1).trans (by kernel_rfl)

theorem s_ValidScope_L8_eq : s_ValidScope_L8 = some (false) :=
  (den_run CC 16 (lbl CC 16 8) ⟨tmOf [] 0 134, [], 0⟩ fun r => prjR GG [.bool] r.1).trans (by kernel_rfl)

theorem s_ValidValue_eq (x0 : TValue) : s_ValidValue x0 = if (x0.fKind == 1) = true then (s_l06Plain x0 (false) (true) (false)).bind fun r199 => if r199 = true then some (decide (len x0.fText ≤ 200)) else some (false) else if (x0.fKind == 2) = true then (s_l06Plain x0 (true) (false) (false)).bind fun r198 => if r198 = true then (s_l00In x0.fNum (-1000000000000) 1000000000000).bind fun r196 => some r196 else some (false) else if (x0.fKind == 3) = true then (s_l06Plain x0 (false) (true) (false)).bind fun r197 => if r197 = true then (s_l00In (len x0.fText) 1 1200).bind fun r195 => some r195 else some (false) else if (x0.fKind == 4) = true then s_ValidValue_L11 x0.fKind x0.fNum x0.fText x0.fRef else if (x0.fKind == 5) = true then s_ValidValue_L11 x0.fKind x0.fNum x0.fText x0.fRef else if (x0.fKind == 6) = true then s_ValidValue_L11 x0.fKind x0.fNum x0.fText x0.fRef else s_ValidValue_L12 x0.fKind x0.fKind x0.fNum x0.fText x0.fRef :=
  (den_run CC 34 (bodyT CC 34) ⟨tmOf [(0, .st 45 x0)] 0 55, [], 0⟩ fun r => prjR GG [.bool] r.1).trans (by kernel_rfl)

theorem s_IsNull_eq (x0 : TValue) : s_IsNull x0 = some (x0.fKind == 1 && (x0.fNum == 0 && (x0.fText == [] && (x0.fRef == 0 && true)))) :=
  (den_run CC 35 (bodyT CC 35) ⟨tmOf [(0, .st 45 x0)] 0 6, [], 0⟩ fun r => prjR GG [.bool] r.1).trans (by kernel_rfl)

theorem s_ValidScope_L5_eq (x0 : Int) (x1 : (List TBinding)) (x2 : (List TFunction)) (x3 : (List TRecordType)) : s_ValidScope_L5 x0 x1 x2 x3 = s_ValidScope_L4 (w64 (x0 + 1)) x1 x2 x3 :=
  (den_run CC 16 (lbl CC 16 5) ⟨tmOf [(1, .ref 0 0), (3, .int .i64 x0)] 0 134, [.box 34 [.sl (.st 47) x1, .sl (.st 67) x2, .sl (.st 70) x3] false], 0⟩ fun r => prjR GG [.bool] r.1).trans (by kernel_rfl)

theorem s_ValidScope_L10_eq (x0 : Int) (x1 : (List TBinding)) (x2 : (List TFunction)) (x3 : (List TRecordType)) : s_ValidScope_L10 x0 x1 x2 x3 = if (decide (x0 < len x2)) = true then ((idx x2 x0) : Option TFunction).bind fun y199 => (s_l18Function y199).bind fun r198 => if (!r198) = true then s_ValidScope_L13 else if (decide (x0 > 0)) = true then ((idx x2 (w64 (x0 - 1))) : Option TFunction).bind fun y195 => ((idx x2 x0) : Option TFunction).bind fun y194 => if (!Go.Op.bytesLess y195.fName y194.fName) = true then s_ValidScope_L13 else s_ValidScope_L11 x0 x1 x2 x3 else s_ValidScope_L11 x0 x1 x2 x3 else s_ValidScope_L15 0 x1 x2 x3 :=
  (den_run CC 16 (lbl CC 16 10) ⟨tmOf [(1, .ref 0 0), (5, .int .i64 x0)] 0 134, [.box 34 [.sl (.st 47) x1, .sl (.st 67) x2, .sl (.st 70) x3] false], 0⟩ fun r => prjR GG [.bool] r.1).trans (by kernel_rfl)

theorem i_isSorted_impl_Binding_L2__i_nameOfBinding_eq (x0 : (List TBinding)) (x1 : Int) : i_isSorted_impl_Binding_L2__i_nameOfBinding x0 x1 = if (decide (x1 < len x0)) = true then ((idx x0 (w64 (x1 - 1))) : Option TBinding).bind fun y199 => (i_nameOfBinding y199).bind fun r198 => ((idx x0 x1) : Option TBinding).bind fun y197 => (i_nameOfBinding y197).bind fun r196 => if (!Go.Op.bytesLess r198 r196) = true then some (false) else i_isSorted_impl_Binding_L2__i_nameOfBinding x0 (w64 (x1 + 1)) else some (true) :=
  (den_run CC 41 (lbl CC 41 2) ⟨tmOf [(0, .sl (.st 47) x0), (1, .fn 42 []), (5, .int .i64 x1)] 0 26, [], 0⟩ fun r => prjR GG [.bool] r.1).trans (by kernel_rfl)

theorem i_isSorted_impl_Function_L2__i_nameOfFunction_eq (x0 : (List TFunction)) (x1 : Int) : i_isSorted_impl_Function_L2__i_nameOfFunction x0 x1 = if (decide (x1 < len x0)) = true then ((idx x0 (w64 (x1 - 1))) : Option TFunction).bind fun y199 => (i_nameOfFunction y199).bind fun r198 => ((idx x0 x1) : Option TFunction).bind fun y197 => (i_nameOfFunction y197).bind fun r196 => if (!Go.Op.bytesLess r198 r196) = true then some (false) else i_isSorted_impl_Function_L2__i_nameOfFunction x0 (w64 (x1 + 1)) else some (true) :=
  (den_run CC 43 (lbl CC 43 2) ⟨tmOf [(0, .sl (.st 67) x0), (1, .fn 44 []), (5, .int .i64 x1)] 0 26, [], 0⟩ fun r => prjR GG [.bool] r.1).trans (by kernel_rfl)

theorem i_isSorted_impl_RecordType_L2__i_nameOfType_eq (x0 : (List TRecordType)) (x1 : Int) : i_isSorted_impl_RecordType_L2__i_nameOfType x0 x1 = if (decide (x1 < len x0)) = true then ((idx x0 (w64 (x1 - 1))) : Option TRecordType).bind fun y199 => (i_nameOfType y199).bind fun r198 => ((idx x0 x1) : Option TRecordType).bind fun y197 => (i_nameOfType y197).bind fun r196 => if (!Go.Op.bytesLess r198 r196) = true then some (false) else i_isSorted_impl_RecordType_L2__i_nameOfType x0 (w64 (x1 + 1)) else some (true) :=
  (den_run CC 45 (lbl CC 45 2) ⟨tmOf [(0, .sl (.st 70) x0), (1, .fn 46 []), (5, .int .i64 x1)] 0 26, [], 0⟩ fun r => prjR GG [.bool] r.1).trans (by kernel_rfl)

theorem i_areAll_impl_Binding__i_Binding_isValid_eq (x0 : (List TBinding)) : i_areAll_impl_Binding__i_Binding_isValid x0 = i_areAll_impl_Binding_L2__i_Binding_isValid x0 (len x0) 0 :=
  (den_run CC 47 (bodyT CC 47) ⟨tmOf [(0, .sl (.st 47) x0), (1, .fn 48 [])] 0 18, [], 0⟩ fun r => prjR GG [.bool] r.1).trans (by kernel_rfl)

theorem i_areAll_impl_Function__i_Function_isValid_eq (x0 : (List TFunction)) : i_areAll_impl_Function__i_Function_isValid x0 = i_areAll_impl_Function_L2__i_Function_isValid x0 (len x0) 0 :=
  (den_run CC 49 (bodyT CC 49) ⟨tmOf [(0, .sl (.st 67) x0), (1, .fn 50 [])] 0 18, [], 0⟩ fun r => prjR GG [.bool] r.1).trans (by kernel_rfl)

theorem i_areAll_impl_RecordType__i_RecordType_isValid_eq (x0 : (List TRecordType)) : i_areAll_impl_RecordType__i_RecordType_isValid x0 = i_areAll_impl_RecordType_L2__i_RecordType_isValid x0 (len x0) 0 :=
  (den_run CC 51 (bodyT CC 51) ⟨tmOf [(0, .sl (.st 70) x0), (1, .fn 52 [])] 0 18, [], 0⟩ fun r => prjR GG [.bool] r.1).trans (by kernel_rfl)

theorem l_eqStringS_eq (x0 : (List (List UInt8))) (x1 : (List (List UInt8))) : l_eqStringS x0 x1 = if (len x0 != len x1) = true then some (false) else l_eqStringS_L4 x0 x1 0 :=
  (den_run CC 73 (bodyT CC 73) ⟨tmOf [(0, .sl .str x0), (1, .sl .str x1)] 0 26, [], 0⟩ fun r => prjR GG [.bool] r.1).trans (by kernel_rfl)

theorem l_markStringS_L2_eq (x0 : Int) (x1 : Int) (x2 : (List (List UInt8))) : l_markStringS_L2 x0 x1 x2 = if (decide (x1 < len x2)) = true then (l_markText x0).bind fun r199 => ((idx x2 x1) : Option (List UInt8)).bind fun y198 => ((x2[Int.toNat x1]?) : Option (List UInt8)).bind fun y197 => l_markStringS_L2 (w64 (x0 + 1)) (w64 (x1 + 1)) (upd x2 (Int.toNat x1) r199) else some ((x0), ((x2), ())) :=
  (den_run CC 56 (lbl CC 56 2) ⟨tmOf [(0, .arr 0), (1, .int .i64 x0), (5, .int .i64 x1)] 0 20, [.arr 9 .str x2 false], 1⟩ fun r => prjW GG [(.int .i64)] [.ow 9 .str] r).trans (by kernel_rfl)

theorem l_szStringS_L5_eq (x0 : (List (List UInt8))) (x1 : Int) (x2 : Int) : l_szStringS_L5 x0 x1 x2 = if (decide (x2 < len x0)) = true then ((idx x0 x2) : Option (List UInt8)).bind fun y199 => if (decide (w64 (x1 - len y199) < 0)) = true then some (-1) else l_szStringS_L5 x0 (w64 (x1 - len y199)) (w64 (x2 + 1)) else some x1 :=
  (den_run CC 58 (lbl CC 58 5) ⟨tmOf [(0, .sl .str x0), (1, .int .i64 x1), (5, .int .i64 x2)] 0 28, [], 0⟩ fun r => prjR GG [(.int .i64)] r.1).trans (by kernel_rfl)

theorem l_toStringS_L3_v1_eq (x0 : (List (List UInt8))) (x1 : Int) (x2 : (List (List UInt8))) : l_toStringS_L3_v1 x0 x1 x2 = if (decide (x1 < len x0)) = true then ((idx x0 x1) : Option (List UInt8)).bind fun y199 => ((idx x2 x1) : Option (List UInt8)).bind fun y198 => ((x2[Int.toNat x1]?) : Option (List UInt8)).bind fun y197 => l_toStringS_L3_v1 x0 (w64 (x1 + 1)) (upd x2 (Int.toNat x1) y199) else some (((x2), ()), ()) :=
  (den_run CC 64 (lbl CC 64 3) ⟨tmOf [(0, .sl .str x0), (3, .arr 0), (4, .int .i64 x1)] 0 22, [.arr 9 .str x2 false], 0⟩ fun r => prjO GG [(false, [.ow 9 .str])] r).trans (by kernel_rfl)

theorem s_l02NameEnd_eq (x0 : (List UInt8)) (x1 : Int) : s_l02NameEnd x0 x1 = if (decide (x1 ≥ len x0)) = true then some x1 else ((idx x0 x1) : Option UInt8).bind fun y199 => (s_l02Letter (ib y199)).bind fun r198 => if (!r198) = true then some x1 else s_l02NameEnd_L3 x0 x1 :=
  (den_run CC 59 (bodyT CC 59) ⟨tmOf [(0, .str x0), (1, .int .i64 x1)] 0 42, [], 0⟩ fun r => prjR GG [(.int .i64)] r.1).trans (by kernel_rfl)

theorem s_l06Plain_eq (x0 : TValue) (x1 : Bool) (x2 : Bool) (x3 : Bool) : s_l06Plain x0 x1 x2 x3 = if x1 = true then if x2 = true then if x3 = true then some (true) else some (x0.fRef == 0) else if (x0.fText == []) = true then if x3 = true then some (true) else some (x0.fRef == 0) else some (false) else if (x0.fNum == 0) = true then if x2 = true then if x3 = true then some (true) else some (x0.fRef == 0) else if (x0.fText == []) = true then if x3 = true then some (true) else some (x0.fRef == 0) else some (false) else some (false) :=
  (den_run CC 60 (bodyT CC 60) ⟨tmOf [(0, .st 45 x0), (1, .bool x1), (2, .bool x2), (3, .bool x3)] 0 31, [], 0⟩ fun r => prjR GG [.bool] r.1).trans (by kernel_rfl)

theorem s_l00In_eq (x0 : Int) (x1 : Int) (x2 : Int) : s_l00In x0 x1 x2 = if (decide (x0 ≥ x1)) = true then some (decide (x0 ≤ x2)) else some (false) :=
  (den_run CC 61 (bodyT CC 61) ⟨tmOf [(0, .int .i64 x0), (1, .int .i64 x1), (2, .int .i64 x2)] 0 15, [], 0⟩ fun r => prjR GG [.bool] r.1).trans (by kernel_rfl)

theorem s_ValidValue_L11_eq (x0 : Int) (x1 : Int) (x2 : (List UInt8)) (x3 : Int) : s_ValidValue_L11 x0 x1 x2 x3 = (s_l06Plain (TValue.mk x0 x1 x2 x3) (false) (false) (true)).bind fun r200 => if r200 = true then (s_l00In x3 1 1000000).bind fun r198 => some r198 else some (false) :=
  (den_run CC 34 (lbl CC 34 11) ⟨tmOf [(1, .ref 0 0)] 0 55, [.box 46 [.int .i64 x0, .int .i64 x1, .str x2, .int .i64 x3] false], 0⟩ fun r => prjR GG [.bool] r.1).trans (by kernel_rfl)

theorem s_ValidValue_L12_eq (x0 : Int) (x1 : Int) (x2 : Int) (x3 : (List UInt8)) (x4 : Int) : s_ValidValue_L12 x0 x1 x2 x3 x4 = if (x0 == 7) = true then (s_l06Plain (TValue.mk x1 x2 x3 x4) (false) (true) (false)).bind fun r199 => if r199 = true then (s_IsName x3).bind fun r197 => some r197 else some (false) else if (x0 == 8) = true then (s_l06Plain (TValue.mk x1 x2 x3 x4) (false) (true) (false)).bind fun r198 => if r198 = true then (s_IsName x3).bind fun r196 => some r196 else some (false) else some (false) :=
  (den_run CC 34 (lbl CC 34 12) ⟨tmOf [(1, .ref 0 0), (4, .int .i64 x0)] 0 55, [.box 46 [.int .i64 x1, .int .i64 x2, .str x3, .int .i64 x4] false], 0⟩ fun r => prjR GG [.bool] r.1).trans (by kernel_rfl)

theorem s_l18Function_eq (x0 : TFunction) : s_l18Function x0 = (s_IsName x0.fName).bind fun r200 => if (!r200) = true then s_l18Function_L2 else (s_IsName x0.fLabel).bind fun r198 => if (!r198) = true then s_l18Function_L2 else if (decide (len x0.fParams > 6)) = true then s_l18Function_L2 else if (decide (len x0.fLocals > 6)) = true then s_l18Function_L2 else s_l18Function_L3 x0.fName x0.fParams x0.fLocals x0.fLabel :=
  (den_run CC 36 (bodyT CC 36) ⟨tmOf [(0, .st 67 x0)] 0 33, [], 0⟩ fun r => prjR GG [.bool] r.1).trans (by kernel_rfl)

theorem s_ValidScope_L13_eq : s_ValidScope_L13 = some (false) :=
  (den_run CC 16 (lbl CC 16 13) ⟨tmOf [] 0 134, [], 0⟩ fun r => prjR GG [.bool] r.1).trans (by kernel_rfl)

theorem s_ValidScope_L11_eq (x0 : Int) (x1 : (List TBinding)) (x2 : (List TFunction)) (x3 : (List TRecordType)) : s_ValidScope_L11 x0 x1 x2 x3 = s_ValidScope_L10 (w64 (x0 + 1)) x1 x2 x3 :=
  (den_run CC 16 (lbl CC 16 11) ⟨tmOf [(1, .ref 0 0), (5, .int .i64 x0)] 0 134, [.box 34 [.sl (.st 47) x1, .sl (.st 67) x2, .sl (.st 70) x3] false], 0⟩ fun r => prjR GG [.bool] r.1).trans (by kernel_rfl)

theorem s_ValidScope_L15_eq (x0 : Int) (x1 : (List TBinding)) (x2 : (List TFunction)) (x3 : (List TRecordType)) : s_ValidScope_L15 x0 x1 x2 x3 = if (decide (x0 < len x3)) = true then ((idx x3 x0) : Option TRecordType).bind fun y199 => (s_l18Type y199).bind fun r198 => if (!r198) = true then s_ValidScope_L18 else if (decide (x0 > 0)) = true then ((idx x3 (w64 (x0 - 1))) : Option TRecordType).bind fun y195 => ((idx x3 x0) : Option TRecordType).bind fun y194 => if (!Go.Op.bytesLess y195.fName y194.fName) = true then s_ValidScope_L18 else s_ValidScope_L16 x0 x1 x2 x3 else s_ValidScope_L16 x0 x1 x2 x3 else some (true) :=
  (den_run CC 16 (lbl CC 16 15) ⟨tmOf [(1, .ref 0 0), (6, .int .i64 x0)] 0 134, [.box 34 [.sl (.st 47) x1, .sl (.st 67) x2, .sl (.st 70) x3] false], 0⟩ fun r => prjR GG [.bool] r.1).trans (by kernel_rfl)

theorem i_nameOfBinding_eq (x0 : TBinding) : i_nameOfBinding x0 = some x0.fName :=
  (den_run CC 42 (bodyT CC 42) ⟨tmOf [(0, .st 47 x0)] 0 5, [], 0⟩ fun r => prjR GG [.str] r.1).trans (by kernel_rfl)

theorem i_nameOfFunction_eq (x0 : TFunction) : i_nameOfFunction x0 = some x0.fName :=
  (den_run CC 44 (bodyT CC 44) ⟨tmOf [(0, .st 67 x0)] 0 5, [], 0⟩ fun r => prjR GG [.str] r.1).trans (by kernel_rfl)

theorem i_nameOfType_eq (x0 : TRecordType) : i_nameOfType x0 = some x0.fName :=
  (den_run CC 46 (bodyT CC 46) ⟨tmOf [(0, .st 70 x0)] 0 5, [], 0⟩ fun r => prjR GG [.str] r.1).trans (by kernel_rfl)

theorem i_areAll_impl_Binding_L2__i_Binding_isValid_eq (x0 : (List TBinding)) (x1 : Int) (x2 : Int) : i_areAll_impl_Binding_L2__i_Binding_isValid x0 x1 x2 = if (decide (x2 < x1)) = true then ((idx x0 x2) : Option TBinding).bind fun y199 => (i_Binding_isValid y199).bind fun r198 => if (!r198) = true then some (false) else i_areAll_impl_Binding_L2__i_Binding_isValid x0 x1 (w64 (x2 + 1)) else some (true) :=
  (den_run CC 47 (lbl CC 47 2) ⟨tmOf [(1, .fn 48 []), (7, .sl (.st 47) x0), (8, .int .i64 x1), (9, .int .i64 x2)] 0 18, [], 0⟩ fun r => prjR GG [.bool] r.1).trans (by kernel_rfl)

theorem i_areAll_impl_Function_L2__i_Function_isValid_eq (x0 : (List TFunction)) (x1 : Int) (x2 : Int) : i_areAll_impl_Function_L2__i_Function_isValid x0 x1 x2 = if (decide (x2 < x1)) = true then ((idx x0 x2) : Option TFunction).bind fun y199 => (i_Function_isValid y199).bind fun r198 => if (!r198) = true then some (false) else i_areAll_impl_Function_L2__i_Function_isValid x0 x1 (w64 (x2 + 1)) else some (true) :=
  (den_run CC 49 (lbl CC 49 2) ⟨tmOf [(1, .fn 50 []), (7, .sl (.st 67) x0), (8, .int .i64 x1), (9, .int .i64 x2)] 0 18, [], 0⟩ fun r => prjR GG [.bool] r.1).trans (by kernel_rfl)

theorem i_areAll_impl_RecordType_L2__i_RecordType_isValid_eq (x0 : (List TRecordType)) (x1 : Int) (x2 : Int) : i_areAll_impl_RecordType_L2__i_RecordType_isValid x0 x1 x2 = if (decide (x2 < x1)) = true then ((idx x0 x2) : Option TRecordType).bind fun y199 => (i_RecordType_isValid y199).bind fun r198 => if (!r198) = true then some (false) else i_areAll_impl_RecordType_L2__i_RecordType_isValid x0 x1 (w64 (x2 + 1)) else some (true) :=
  (den_run CC 51 (lbl CC 51 2) ⟨tmOf [(1, .fn 52 []), (7, .sl (.st 70) x0), (8, .int .i64 x1), (9, .int .i64 x2)] 0 18, [], 0⟩ fun r => prjR GG [.bool] r.1).trans (by kernel_rfl)

theorem l_eqStringS_L4_eq (x0 : (List (List UInt8))) (x1 : (List (List UInt8))) (x2 : Int) : l_eqStringS_L4 x0 x1 x2 = if (decide (x2 < len x0)) = true then ((idx x0 x2) : Option (List UInt8)).bind fun y199 => ((idx x1 x2) : Option (List UInt8)).bind fun y198 => if (!y199 == y198) = true then some (false) else l_eqStringS_L4 x0 x1 (w64 (x2 + 1)) else some (true) :=
  (den_run CC 73 (lbl CC 73 4) ⟨tmOf [(0, .sl .str x0), (1, .sl .str x1), (5, .int .i64 x2)] 0 26, [], 0⟩ fun r => prjR GG [.bool] r.1).trans (by kernel_rfl)

theorem s_l02Letter_eq (x0 : Int) : s_l02Letter x0 = if (decide (x0 ≥ 65)) = true then if (decide (x0 ≤ 90)) = true then some (true) else if (decide (x0 ≥ 97)) = true then some (decide (x0 ≤ 122)) else some (false) else if (decide (x0 ≥ 97)) = true then some (decide (x0 ≤ 122)) else some (false) :=
  (den_run CC 74 (bodyT CC 74) ⟨tmOf [(0, .int .u8 x0)] 0 17, [], 0⟩ fun r => prjR GG [.bool] r.1).trans (by kernel_rfl)

theorem s_l02NameEnd_L3_eq (x0 : (List UInt8)) (x1 : Int) : s_l02NameEnd_L3 x0 x1 = if (decide (x1 < len x0)) = true then ((idx x0 x1) : Option UInt8).bind fun y199 => (s_l02Letter (ib y199)).bind fun r198 => if r198 = true then s_l02NameEnd_L4 x0 x1 else ((idx x0 x1) : Option UInt8).bind fun y196 => (s_l02Digit (ib y196)).bind fun r195 => if r195 = true then s_l02NameEnd_L4 x0 x1 else ((idx x0 x1) : Option UInt8).bind fun y193 => if (ib y193 == 95) = true then s_l02NameEnd_L4 x0 x1 else s_l02NameEnd_L5 x1 else s_l02NameEnd_L5 x1 :=
  (den_run CC 59 (lbl CC 59 3) ⟨tmOf [(0, .str x0), (1, .int .i64 x1)] 0 42, [], 0⟩ fun r => prjR GG [(.int .i64)] r.1).trans (by kernel_rfl)

theorem s_l18Function_L2_eq : s_l18Function_L2 = some (false) :=
  (den_run CC 36 (lbl CC 36 2) ⟨tmOf [] 0 33, [], 0⟩ fun r => prjR GG [.bool] r.1).trans (by kernel_rfl)

theorem s_l18Function_L3_eq (x0 : (List UInt8)) (x1 : (List (List UInt8))) (x2 : (List (List UInt8))) (x3 : (List UInt8)) : s_l18Function_L3 x0 x1 x2 x3 = ((app [] x1) : Option (List (List UInt8))).bind fun y200 => ((app y200 x2) : Option (List (List UInt8))).bind fun y199 => (s_l18Names y199).bind fun r198 => some r198 :=
  (den_run CC 36 (lbl CC 36 3) ⟨tmOf [(1, .pc [.str x0, .sl .str x1, .sl .str x2, .str x3])] 0 33, [], 0⟩ fun r => prjR GG [.bool] r.1).trans (by kernel_rfl)

theorem s_l18Type_eq (x0 : TRecordType) : s_l18Type x0 = (s_IsName x0.fName).bind fun r200 => if r200 = true then (s_l00In (len x0.fFields) 1 6).bind fun r198 => if r198 = true then (s_l18Names x0.fFields).bind fun r196 => some r196 else some (false) else some (false) :=
  (den_run CC 37 (bodyT CC 37) ⟨tmOf [(0, .st 70 x0)] 0 17, [], 0⟩ fun r => prjR GG [.bool] r.1).trans (by kernel_rfl)

theorem s_ValidScope_L18_eq : s_ValidScope_L18 = some (false) :=
  (den_run CC 16 (lbl CC 16 18) ⟨tmOf [] 0 134, [], 0⟩ fun r => prjR GG [.bool] r.1).trans (by kernel_rfl)

theorem s_ValidScope_L16_eq (x0 : Int) (x1 : (List TBinding)) (x2 : (List TFunction)) (x3 : (List TRecordType)) : s_ValidScope_L16 x0 x1 x2 x3 = s_ValidScope_L15 (w64 (x0 + 1)) x1 x2 x3 :=
  (den_run CC 16 (lbl CC 16 16) ⟨tmOf [(1, .ref 0 0), (6, .int .i64 x0)] 0 134, [.box 34 [.sl (.st 47) x1, .sl (.st 67) x2, .sl (.st 70) x3] false], 0⟩ fun r => prjR GG [.bool] r.1).trans (by kernel_rfl)

theorem i_Binding_isValid_eq (x0 : TBinding) : i_Binding_isValid x0 = (i_IsName x0.fName).bind fun r200 => if r200 = true then (i_ValidValue x0.fValue).bind fun r198 => if r198 = true then (i_IsNull x0.fValue).bind fun r196 => some (!r196) else some (false) else some (false) :=
  (den_run CC 48 (bodyT CC 48) ⟨tmOf [(0, .st 47 x0)] 0 17, [], 0⟩ fun r => prjR GG [.bool] r.1).trans (by kernel_rfl)

theorem i_Function_isValid_eq (x0 : TFunction) : i_Function_isValid x0 = (slices_Concat___string_string_ ([x0.fParams, x0.fLocals])).bind fun r200 => if (decide (len x0.fParams ≤ 6)) = true then (i_IsName x0.fName).bind fun r198 => if r198 = true then (i_IsName x0.fLabel).bind fun r196 => if r196 = true then if (decide (len x0.fLocals ≤ 6)) = true then (i_areAll_string__i_IsName r200).bind fun r193 => if r193 = true then ((cloneS r200) : Option (List (List UInt8))).bind fun y191 => ((sortS y191) : Option (List (List UInt8))).bind fun y190 => some (len y190 == len r200) else some (false) else some (false) else some (false) else some (false) else (i_IsName x0.fName).bind fun r198 => if r198 = true then (i_IsName x0.fLabel).bind fun r196 => if r196 = true then some (false) else some (false) else some (false) :=
  (den_run CC 50 (bodyT CC 50) ⟨tmOf [(0, .st 67 x0)] 0 45, [], 0⟩ fun r => prjR GG [.bool] r.1).trans (by kernel_rfl)

theorem i_RecordType_isValid_eq (x0 : TRecordType) : i_RecordType_isValid x0 = (i_IsName x0.fName).bind fun r200 => if r200 = true then (i_areFields x0.fFields).bind fun r198 => some r198 else some (false) :=
  (den_run CC 52 (bodyT CC 52) ⟨tmOf [(0, .st 70 x0)] 0 11, [], 0⟩ fun r => prjR GG [.bool] r.1).trans (by kernel_rfl)

theorem s_l02NameEnd_L4_eq (x0 : (List UInt8)) (x1 : Int) : s_l02NameEnd_L4 x0 x1 = s_l02NameEnd_L3 x0 (w64 (x1 + 1)) :=
  (den_run CC 59 (lbl CC 59 4) ⟨tmOf [(0, .str x0), (1, .int .i64 x1)] 0 42, [], 0⟩ fun r => prjR GG [(.int .i64)] r.1).trans (by kernel_rfl)

theorem s_l02Digit_eq (x0 : Int) : s_l02Digit x0 = if (decide (x0 ≥ 48)) = true then some (decide (x0 ≤ 57)) else some (false) :=
  (den_run CC 75 (bodyT CC 75) ⟨tmOf [(0, .int .u8 x0)] 0 9, [], 0⟩ fun r => prjR GG [.bool] r.1).trans (by kernel_rfl)

theorem s_l02NameEnd_L5_eq (x0 : Int) : s_l02NameEnd_L5 x0 = some x0 :=
  (den_run CC 59 (lbl CC 59 5) ⟨tmOf [(1, .int .i64 x0)] 0 42, [], 0⟩ fun r => prjR GG [(.int .i64)] r.1).trans (by kernel_rfl)

theorem s_l18Names_eq (x0 : (List (List UInt8))) : s_l18Names x0 = s_l18Names_L2 x0 0 :=
  (den_run CC 62 (bodyT CC 62) ⟨tmOf [(0, .sl .str x0)] 0 26, [], 0⟩ fun r => prjR GG [.bool] r.1).trans (by kernel_rfl)

theorem i_IsName_eq (x0 : (List UInt8)) : i_IsName x0 = if (decide (len x0 ≥ 1)) = true then if (decide (len x0 ≤ 12)) = true then ((idx x0 0) : Option UInt8).bind fun y198 => (i_isLetter (ib y198)).bind fun r197 => if r197 = true then (i_areAll_byte__i_isNameByte (List.map (fun (b : UInt8) ↦ ib b) x0)).bind fun r195 => some r195 else some (false) else some (false) else some (false) :=
  (den_run CC 65 (bodyT CC 65) ⟨tmOf [(0, .str x0)] 0 21, [], 0⟩ fun r => prjR GG [.bool] r.1).trans (by kernel_rfl)

theorem i_ValidValue_eq (x0 : TValue) : i_ValidValue x0 = if (x0.fKind == 1) = true then if (x0.fKind == 1 && (x0.fNum == 0 && (x0.fText == x0.fText && (x0.fRef == 0 && true)))) = true then some (decide (len x0.fText ≤ 200)) else some (false) else if (x0.fKind == 2) = true then if (x0.fKind == 2 && (x0.fNum == x0.fNum && (x0.fText == [] && (x0.fRef == 0 && true)))) = true then (i_within x0.fNum (-1000000000000) 1000000000000).bind fun r197 => some r197 else some (false) else if (x0.fKind == 3) = true then if (x0.fKind == 3 && (x0.fNum == 0 && (x0.fText == x0.fText && (x0.fRef == 0 && true)))) = true then if (decide (len x0.fText ≥ 1)) = true then some (decide (len x0.fText ≤ 1200)) else some (false) else some (false) else if (x0.fKind == 4) = true then i_ValidValue_L11 x0.fKind x0.fNum x0.fText x0.fRef else if (x0.fKind == 5) = true then i_ValidValue_L11 x0.fKind x0.fNum x0.fText x0.fRef else if (x0.fKind == 6) = true then i_ValidValue_L11 x0.fKind x0.fNum x0.fText x0.fRef else i_ValidValue_L12 x0.fKind x0.fKind x0.fNum x0.fText x0.fRef :=
  (den_run CC 66 (bodyT CC 66) ⟨tmOf [(0, .st 45 x0)] 0 80, [], 0⟩ fun r => prjR GG [.bool] r.1).trans (by kernel_rfl)

theorem i_IsNull_eq (x0 : TValue) : i_IsNull x0 = (i_null).bind fun r200 => some (x0.fKind == r200.fKind && (x0.fNum == r200.fNum && (x0.fText == r200.fText && (x0.fRef == r200.fRef && true)))) :=
  (den_run CC 67 (bodyT CC 67) ⟨tmOf [(0, .st 45 x0)] 0 6, [], 0⟩ fun r => prjR GG [.bool] r.1).trans (by kernel_rfl)

theorem slices_Concat___string_string__eq (x0 : (List (List (List UInt8)))) : slices_Concat___string_string_ x0 = slices_Concat___string_string__L3 x0 0 x0 (len x0) 0 :=
  (den_run CC 68 (bodyT CC 68) ⟨tmOf [(0, .sl (.sl .str) x0)] 0 36, [], 0⟩ fun r => prjR GG [(.sl .str)] r.1).trans (by kernel_rfl)

theorem i_areAll_string__i_IsName_eq (x0 : (List (List UInt8))) : i_areAll_string__i_IsName x0 = i_areAll_string_L2__i_IsName x0 (len x0) 0 :=
  (den_run CC 69 (bodyT CC 69) ⟨tmOf [(0, .sl .str x0), (1, .fn 65 [])] 0 18, [], 0⟩ fun r => prjR GG [.bool] r.1).trans (by kernel_rfl)

theorem i_areFields_eq (x0 : (List (List UInt8))) : i_areFields x0 = if (decide (len x0 < 1)) = true then i_areFields_L2 else if (decide (len x0 > 6)) = true then i_areFields_L2 else (i_areAll_string__i_IsName x0).bind fun r198 => if (!r198) = true then i_areFields_L2 else i_areFields_L3 x0 :=
  (den_run CC 72 (bodyT CC 72) ⟨tmOf [(0, .sl .str x0)] 0 23, [], 0⟩ fun r => prjR GG [.bool] r.1).trans (by kernel_rfl)

theorem s_l18Names_L2_eq (x0 : (List (List UInt8))) (x1 : Int) : s_l18Names_L2 x0 x1 = if (decide (x1 < len x0)) = true then ((idx x0 x1) : Option (List UInt8)).bind fun y199 => (s_IsName y199).bind fun r198 => if (!r198) = true then some (false) else ((idx x0 x1) : Option (List UInt8)).bind fun y196 => (s_l17At x0 y196).bind fun r195 => if (r195 != x1) = true then some (false) else s_l18Names_L2 x0 (w64 (x1 + 1)) else some (true) :=
  (den_run CC 62 (lbl CC 62 2) ⟨tmOf [(0, .sl .str x0), (3, .int .i64 x1)] 0 26, [], 0⟩ fun r => prjR GG [.bool] r.1).trans (by kernel_rfl)

theorem i_isLetter_eq (x0 : Int) : i_isLetter x0 = if (decide (x0 ≥ 65)) = true then if (decide (x0 ≤ 90)) = true then some (true) else if (decide (x0 ≥ 97)) = true then some (decide (x0 ≤ 122)) else some (false) else if (decide (x0 ≥ 97)) = true then some (decide (x0 ≤ 122)) else some (false) :=
  (den_run CC 77 (bodyT CC 77) ⟨tmOf [(0, .int .u8 x0)] 0 17, [], 0⟩ fun r => prjR GG [.bool] r.1).trans (by kernel_rfl)

theorem i_areAll_byte__i_isNameByte_eq (x0 : (List Int)) : i_areAll_byte__i_isNameByte x0 = i_areAll_byte_L2__i_isNameByte x0 (len x0) 0 :=
  (den_run CC 78 (bodyT CC 78) ⟨tmOf [(0, .sl (.int .u8) x0), (1, .fn 79 [])] 0 18, [], 0⟩ fun r => prjR GG [.bool] r.1).trans (by kernel_rfl)

theorem i_within_eq (x0 : Int) (x1 : Int) (x2 : Int) : i_within x0 x1 x2 = if (decide (x0 ≥ x1)) = true then some (decide (x0 ≤ x2)) else some (false) :=
  (den_run CC 80 (bodyT CC 80) ⟨tmOf [(0, .int .i64 x0), (1, .int .i64 x1), (2, .int .i64 x2)] 0 15, [], 0⟩ fun r => prjR GG [.bool] r.1).trans (by kernel_rfl)

theorem i_ValidValue_L11_eq (x0 : Int) (x1 : Int) (x2 : (List UInt8)) (x3 : Int) : i_ValidValue_L11 x0 x1 x2 x3 = if (x0 == x0 && (x1 == 0 && (x2 == [] && (x3 == x3 && true)))) = true then (i_isObjectId x3).bind fun r199 => some r199 else some (false) :=
  (den_run CC 66 (lbl CC 66 11) ⟨tmOf [(1, .ref 0 0)] 0 80, [.box 46 [.int .i64 x0, .int .i64 x1, .str x2, .int .i64 x3] false], 0⟩ fun r => prjR GG [.bool] r.1).trans (by kernel_rfl)

theorem i_ValidValue_L12_eq (x0 : Int) (x1 : Int) (x2 : Int) (x3 : (List UInt8)) (x4 : Int) : i_ValidValue_L12 x0 x1 x2 x3 x4 = if (x0 == 7) = true then if (x1 == x1 && (x2 == 0 && (x3 == x3 && (x4 == 0 && true)))) = true then (i_IsName x3).bind fun r198 => some r198 else some (false) else if (x0 == 8) = true then if (x1 == x1 && (x2 == 0 && (x3 == x3 && (x4 == 0 && true)))) = true then (i_IsName x3).bind fun r197 => some r197 else some (false) else some (false) :=
  (den_run CC 66 (lbl CC 66 12) ⟨tmOf [(1, .ref 0 0), (4, .int .i64 x0)] 0 80, [.box 46 [.int .i64 x1, .int .i64 x2, .str x3, .int .i64 x4] false], 0⟩ fun r => prjR GG [.bool] r.1).trans (by kernel_rfl)

theorem i_null_eq : i_null = (i_textOf []).bind fun r200 => some r200 :=
  (den_run CC 82 (bodyT CC 82) ⟨tmOf [] 0 2, [], 0⟩ fun r => prjR GG [(.st 45)] r.1).trans (by kernel_rfl)

theorem slices_Concat___string_string__L3_eq (x0 : (List (List (List UInt8)))) (x1 : Int) (x2 : (List (List (List UInt8)))) (x3 : Int) (x4 : Int) : slices_Concat___string_string__L3 x0 x1 x2 x3 x4 = if (decide (x4 < x3)) = true then ((idx x2 x4) : Option (List (List UInt8))).bind fun y199 => if (decide (w64 (x1 + len y199) < 0)) = true then none else slices_Concat___string_string__L3 x0 (w64 (x1 + len y199)) x2 x3 (w64 (x4 + 1)) else ((growS x1) : Option (List (List UInt8))).bind fun y199 => slices_Concat___string_string__L11 x0 (len x0) 0 y199 :=
  (den_run CC 68 (lbl CC 68 3) ⟨tmOf [(0, .sl (.sl .str) x0), (3, .int .i64 x1), (9, .sl (.sl .str) x2), (10, .int .i64 x3), (11, .int .i64 x4)] 0 36, [], 0⟩ fun r => prjR GG [(.sl .str)] r.1).trans (by kernel_rfl)

theorem i_areAll_string_L2__i_IsName_eq (x0 : (List (List UInt8))) (x1 : Int) (x2 : Int) : i_areAll_string_L2__i_IsName x0 x1 x2 = if (decide (x2 < x1)) = true then ((idx x0 x2) : Option (List UInt8)).bind fun y199 => (i_IsName y199).bind fun r198 => if (!r198) = true then some (false) else i_areAll_string_L2__i_IsName x0 x1 (w64 (x2 + 1)) else some (true) :=
  (den_run CC 69 (lbl CC 69 2) ⟨tmOf [(1, .fn 65 []), (7, .sl .str x0), (8, .int .i64 x1), (9, .int .i64 x2)] 0 18, [], 0⟩ fun r => prjR GG [.bool] r.1).trans (by kernel_rfl)

theorem i_areFields_L2_eq : i_areFields_L2 = some (false) :=
  (den_run CC 72 (lbl CC 72 2) ⟨tmOf [] 0 23, [], 0⟩ fun r => prjR GG [.bool] r.1).trans (by kernel_rfl)

theorem i_areFields_L3_eq (x0 : (List (List UInt8))) : i_areFields_L3 x0 = ((cloneS x0) : Option (List (List UInt8))).bind fun y200 => ((sortS y200) : Option (List (List UInt8))).bind fun y199 => some (len y199 == len x0) :=
  (den_run CC 72 (lbl CC 72 3) ⟨tmOf [(0, .sl .str x0)] 0 23, [], 0⟩ fun r => prjR GG [.bool] r.1).trans (by kernel_rfl)

theorem s_l17At_eq (x0 : (List (List UInt8))) (x1 : (List UInt8)) : s_l17At x0 x1 = s_l17At_L2 x0 x1 0 :=
  (den_run CC 76 (bodyT CC 76) ⟨tmOf [(0, .sl .str x0), (1, .str x1)] 0 19, [], 0⟩ fun r => prjR GG [(.int .i64)] r.1).trans (by kernel_rfl)

theorem i_areAll_byte_L2__i_isNameByte_eq (x0 : (List Int)) (x1 : Int) (x2 : Int) : i_areAll_byte_L2__i_isNameByte x0 x1 x2 = if (decide (x2 < x1)) = true then ((idx x0 x2) : Option Int).bind fun y199 => (i_isNameByte y199).bind fun r198 => if (!r198) = true then some (false) else i_areAll_byte_L2__i_isNameByte x0 x1 (w64 (x2 + 1)) else some (true) :=
  (den_run CC 78 (lbl CC 78 2) ⟨tmOf [(1, .fn 79 []), (7, .sl (.int .u8) x0), (8, .int .i64 x1), (9, .int .i64 x2)] 0 18, [], 0⟩ fun r => prjR GG [.bool] r.1).trans (by kernel_rfl)

theorem i_isObjectId_eq (x0 : Int) : i_isObjectId x0 = (i_within x0 1 1000000).bind fun r200 => some r200 :=
  (den_run CC 81 (bodyT CC 81) ⟨tmOf [(0, .int .i64 x0)] 0 5, [], 0⟩ fun r => prjR GG [.bool] r.1).trans (by kernel_rfl)

theorem i_textOf_eq (x0 : (List UInt8)) : i_textOf x0 = some (TValue.mk (Int.ofNat 1) (Int.ofNat 0) x0 (Int.ofNat 0)) :=
  (den_run CC 87 (bodyT CC 87) ⟨tmOf [(0, .str x0)] 0 5, [], 0⟩ fun r => prjR GG [(.st 45)] r.1).trans (by kernel_rfl)

theorem slices_Concat___string_string__L11_eq (x0 : (List (List (List UInt8)))) (x1 : Int) (x2 : Int) (x3 : (List (List UInt8))) : slices_Concat___string_string__L11 x0 x1 x2 x3 = if (decide (x2 < x1)) = true then ((idx x0 x2) : Option (List (List UInt8))).bind fun y199 => ((app x3 y199) : Option (List (List UInt8))).bind fun y198 => slices_Concat___string_string__L11 x0 x1 (w64 (x2 + 1)) y198 else some x3 :=
  (den_run CC 68 (lbl CC 68 11) ⟨tmOf [(6, .arr 0), (25, .sl (.sl .str) x0), (26, .int .i64 x1), (27, .int .i64 x2)] 0 36, [.arr 9 .str x3 false], 0⟩ fun r => prjR GG [(.sl .str)] r.1).trans (by kernel_rfl)

theorem s_l17At_L2_eq (x0 : (List (List UInt8))) (x1 : (List UInt8)) (x2 : Int) : s_l17At_L2 x0 x1 x2 = if (decide (x2 < len x0)) = true then ((idx x0 x2) : Option (List UInt8)).bind fun y199 => if (y199 == x1) = true then some x2 else s_l17At_L2 x0 x1 (w64 (x2 + 1)) else some (-1) :=
  (den_run CC 76 (lbl CC 76 2) ⟨tmOf [(0, .sl .str x0), (1, .str x1), (5, .int .i64 x2)] 0 19, [], 0⟩ fun r => prjR GG [(.int .i64)] r.1).trans (by kernel_rfl)

theorem i_isNameByte_eq (x0 : Int) : i_isNameByte x0 = (i_isLetter x0).bind fun r200 => if r200 = true then some (true) else (i_isDigit x0).bind fun r198 => if r198 = true then some (true) else some (x0 == 95) :=
  (den_run CC 79 (bodyT CC 79) ⟨tmOf [(0, .int .u8 x0)] 0 13, [], 0⟩ fun r => prjR GG [.bool] r.1).trans (by kernel_rfl)

theorem i_isDigit_eq (x0 : Int) : i_isDigit x0 = if (decide (x0 ≥ 48)) = true then some (decide (x0 ≤ 57)) else some (false) :=
  (den_run CC 86 (bodyT CC 86) ⟨tmOf [(0, .int .u8 x0)] 0 9, [], 0⟩ fun r => prjR GG [.bool] r.1).trans (by kernel_rfl)
end Go.Dv.U
