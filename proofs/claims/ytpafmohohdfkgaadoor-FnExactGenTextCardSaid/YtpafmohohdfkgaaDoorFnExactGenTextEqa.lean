/- The functions of the program as equations on plain data, each checked by the kernel. -/
import Derived.Test.YtpafmohohdfkgaaDoorExa
set_option linter.all false
set_option linter.unusedVariables false
set_option linter.unusedSimpArgs false
namespace Go.Dv.U
open Go Go.Dv Go.Proofs
set_option maxRecDepth 100000
noncomputable def l_FnExactGenText (x0 : TGen) : Option (Bool) := (Den CC 6 (bodyT CC 6) ⟨tmOf [(0, .st 51 x0)] 0 27, [], 0⟩).bind fun r => prjR GG [.bool] r.1

noncomputable def l_eqValue (x0 : TValue) (x1 : TValue) : Option (Bool) := (Den CC 19 (bodyT CC 19) ⟨tmOf [(0, .st 44 x0), (1, .st 44 x1)] 0 25, [], 0⟩).bind fun r => prjR GG [.bool] r.1

noncomputable def l_szGen (x0 : TGen) (x1 : Int) : Option (Int) := (Den CC 20 (bodyT CC 20) ⟨tmOf [(0, .st 51 x0), (1, .int .i64 x1)] 0 25, [], 0⟩).bind fun r => prjR GG [(.int .i64)] r.1

noncomputable def l_toGen (x0 : TGen) : Option (TGen) := (Den CC 22 (bodyT CC 22) ⟨tmOf [(0, .st 51 x0)] 0 22, [], 0⟩).bind fun r => prjR GG [(.st 51)] r.1

noncomputable def s_GenText (x0 : TGen) : Option ((List UInt8)) := (Den CC 21 (bodyT CC 21) ⟨tmOf [(0, .st 51 x0)] 0 6, [], 0⟩).bind fun r => prjR GG [.str] r.1

noncomputable def i_GenText (x0 : TGen) : Option ((List UInt8)) := (Den CC 23 (bodyT CC 23) ⟨tmOf [(0, .st 51 x0)] 0 8, [], 0⟩).bind fun r => prjR GG [.str] r.1

noncomputable def l_eqGen (x0 : TGen) (x1 : TGen) : Option (Bool) := (Den CC 24 (bodyT CC 24) ⟨tmOf [(0, .st 51 x0), (1, .st 51 x1)] 0 32, [], 0⟩).bind fun r => prjR GG [.bool] r.1

noncomputable def s_ValidValue (x0 : TValue) : Option (Bool) := (Den CC 39 (bodyT CC 39) ⟨tmOf [(0, .st 44 x0)] 0 55, [], 0⟩).bind fun r => prjR GG [.bool] r.1

noncomputable def i_ValidValue (x0 : TValue) : Option (Bool) := (Den CC 40 (bodyT CC 40) ⟨tmOf [(0, .st 44 x0)] 0 80, [], 0⟩).bind fun r => prjR GG [.bool] r.1

noncomputable def l_szValue (x0 : TValue) (x1 : Int) : Option (Int) := (Den CC 41 (bodyT CC 41) ⟨tmOf [(0, .st 44 x0), (1, .int .i64 x1)] 0 13, [], 0⟩).bind fun r => prjR GG [(.int .i64)] r.1

noncomputable def l_szGenS (x0 : (List TGen)) (x1 : Int) : Option (Int) := (Den CC 42 (bodyT CC 42) ⟨tmOf [(0, .sl (.st 51) x0), (1, .int .i64 x1)] 0 27, [], 0⟩).bind fun r => prjR GG [(.int .i64)] r.1

noncomputable def l_toValue (x0 : TValue) : Option (TValue) := (Den CC 45 (bodyT CC 45) ⟨tmOf [(0, .st 44 x0)] 0 17, [], 0⟩).bind fun r => prjR GG [(.st 44)] r.1

noncomputable def l_toGenS (x0 : (List TGen)) : Option ((List TGen)) := (Den CC 46 (bodyT CC 46) ⟨tmOf [(0, .sl (.st 51) x0)] 0 23, [], 0⟩).bind fun r => prjR GG [(.sl (.st 51))] r.1

noncomputable def s_l22Ok (x0 : Int) (x1 : Int) (x2 : (List UInt8)) (x3 : Int) (x4 : Int) (x5 : (List UInt8)) (x6 : Int) (x7 : (List TGen)) : Option (Bool) := (Den CC 43 (bodyT CC 43) ⟨tmOf [(0, .pc [.int .i64 x0, .int .i64 x1, .str x2, .int .i64 x3, .int .i64 x4, .str x5, .int .i64 x6, .sl (.st 51) x7])] 0 6, [], 0⟩).bind fun r => prjR GG [.bool] r.1

noncomputable def s_l22Print (x0 : Int) (x1 : Int) (x2 : (List UInt8)) (x3 : Int) (x4 : Int) (x5 : (List UInt8)) (x6 : Int) (x7 : (List TGen)) : Option ((List UInt8)) := (Den CC 44 (bodyT CC 44) ⟨tmOf [(0, .pc [.int .i64 x0, .int .i64 x1, .str x2, .int .i64 x3, .int .i64 x4, .str x5, .int .i64 x6, .sl (.st 51) x7])] 0 89, [], 0⟩).bind fun r => prjR GG [.str] r.1

noncomputable def i_ValidGen (x0 : TGen) : Option (Bool) := (Den CC 47 (bodyT CC 47) ⟨tmOf [(0, .st 51 x0)] 0 6, [], 0⟩).bind fun r => prjR GG [.bool] r.1

noncomputable def i_Gen_text (x0 : TGen) : Option ((List UInt8)) := (Den CC 48 (bodyT CC 48) ⟨tmOf [(0, .st 51 x0)] 0 63, [], 0⟩).bind fun r => prjR GG [.str] r.1

noncomputable def l_eqGenS (x0 : (List TGen)) (x1 : (List TGen)) : Option (Bool) := (Den CC 49 (bodyT CC 49) ⟨tmOf [(0, .sl (.st 51) x0), (1, .sl (.st 51) x1)] 0 27, [], 0⟩).bind fun r => prjR GG [.bool] r.1

noncomputable def i_decimal (x0 : Int) : Option ((List UInt8)) := (Den CC 60 (bodyT CC 60) ⟨tmOf [(0, .int .i64 x0)] 0 5, [], 0⟩).bind fun r => prjR GG [.str] r.1

noncomputable def s_l06Plain (x0 : TValue) (x1 : Bool) (x2 : Bool) (x3 : Bool) : Option (Bool) := (Den CC 75 (bodyT CC 75) ⟨tmOf [(0, .st 44 x0), (1, .bool x1), (2, .bool x2), (3, .bool x3)] 0 31, [], 0⟩).bind fun r => prjR GG [.bool] r.1

noncomputable def s_l00In (x0 : Int) (x1 : Int) (x2 : Int) : Option (Bool) := (Den CC 76 (bodyT CC 76) ⟨tmOf [(0, .int .i64 x0), (1, .int .i64 x1), (2, .int .i64 x2)] 0 15, [], 0⟩).bind fun r => prjR GG [.bool] r.1

noncomputable def s_ValidValue_L11 (x0 : Int) (x1 : Int) (x2 : (List UInt8)) (x3 : Int) : Option (Bool) := (Den CC 39 (lbl CC 39 11) ⟨tmOf [(1, .ref 0 0)] 0 55, [.box 45 [.int .i64 x0, .int .i64 x1, .str x2, .int .i64 x3] false], 0⟩).bind fun r => prjR GG [.bool] r.1

noncomputable def s_ValidValue_L12 (x0 : Int) (x1 : Int) (x2 : Int) (x3 : (List UInt8)) (x4 : Int) : Option (Bool) := (Den CC 39 (lbl CC 39 12) ⟨tmOf [(1, .ref 0 0), (4, .int .i64 x0)] 0 55, [.box 45 [.int .i64 x1, .int .i64 x2, .str x3, .int .i64 x4] false], 0⟩).bind fun r => prjR GG [.bool] r.1

noncomputable def i_within (x0 : Int) (x1 : Int) (x2 : Int) : Option (Bool) := (Den CC 78 (bodyT CC 78) ⟨tmOf [(0, .int .i64 x0), (1, .int .i64 x1), (2, .int .i64 x2)] 0 15, [], 0⟩).bind fun r => prjR GG [.bool] r.1

noncomputable def i_ValidValue_L11 (x0 : Int) (x1 : Int) (x2 : (List UInt8)) (x3 : Int) : Option (Bool) := (Den CC 40 (lbl CC 40 11) ⟨tmOf [(1, .ref 0 0)] 0 80, [.box 45 [.int .i64 x0, .int .i64 x1, .str x2, .int .i64 x3] false], 0⟩).bind fun r => prjR GG [.bool] r.1

noncomputable def i_ValidValue_L12 (x0 : Int) (x1 : Int) (x2 : Int) (x3 : (List UInt8)) (x4 : Int) : Option (Bool) := (Den CC 40 (lbl CC 40 12) ⟨tmOf [(1, .ref 0 0), (4, .int .i64 x0)] 0 80, [.box 45 [.int .i64 x1, .int .i64 x2, .str x3, .int .i64 x4] false], 0⟩).bind fun r => prjR GG [.bool] r.1

noncomputable def l_szGenS_L5 (x0 : (List TGen)) (x1 : Int) (x2 : Int) : Option (Int) := (Den CC 42 (lbl CC 42 5) ⟨tmOf [(0, .sl (.st 51) x0), (1, .int .i64 x1), (5, .int .i64 x2)] 0 27, [], 0⟩).bind fun r => prjR GG [(.int .i64)] r.1

noncomputable def l_toGenS_L3 (x0 : (List TGen)) (x1 : Int) (x2 : (List TGen)) : Option ((List TGen)) := (Den CC 46 (lbl CC 46 3) ⟨tmOf [(0, .sl (.st 51) x0), (3, .arr 0), (4, .int .i64 x1)] 0 23, [.arr 57 (.st 51) x2 false], 0⟩).bind fun r => prjR GG [(.sl (.st 51))] r.1

noncomputable def s_l22Size (x0 : Int) (x1 : Int) (x2 : (List UInt8)) (x3 : Int) (x4 : Int) (x5 : (List UInt8)) (x6 : Int) (x7 : (List TGen)) : Option (Int) := (Den CC 81 (bodyT CC 81) ⟨tmOf [(0, .pc [.int .i64 x0, .int .i64 x1, .str x2, .int .i64 x3, .int .i64 x4, .str x5, .int .i64 x6, .sl (.st 51) x7])] 0 31, [], 0⟩).bind fun r => prjR GG [(.int .i64)] r.1

noncomputable def s_ValueText (x0 : TValue) : Option ((List UInt8)) := (Den CC 82 (bodyT CC 82) ⟨tmOf [(0, .st 44 x0)] 0 41, [], 0⟩).bind fun r => prjR GG [.str] r.1

noncomputable def s_l22List (x0 : (List TGen)) : Option ((List UInt8)) := (Den CC 83 (bodyT CC 83) ⟨tmOf [(0, .sl (.st 51) x0)] 0 22, [], 0⟩).bind fun r => prjR GG [.str] r.1

noncomputable def s_l06Digits (x0 : Int) : Option ((List UInt8)) := (Den CC 84 (bodyT CC 84) ⟨tmOf [(0, .int .i64 x0)] 0 31, [], 0⟩).bind fun r => prjR GG [.str] r.1

noncomputable def s_l22Words : Option ((List (List UInt8))) := (Den CC 85 (bodyT CC 85) ⟨tmOf [] 0 2, [], 0⟩).bind fun r => prjR GG [(.sl .str)] r.1

noncomputable def i_countGen (x0 : TGen) (x1 : Int) : Option (Int) := (Den CC 86 (bodyT CC 86) ⟨tmOf [(0, .st 51 x0), (1, .int .i64 x1)] 0 30, [], 0⟩).bind fun r => prjR GG [(.int .i64)] r.1

noncomputable def i_genNames : Option ((List (List UInt8))) := (Den CC 87 (bodyT CC 87) ⟨tmOf [] 0 2, [], 0⟩).bind fun r => prjR GG [(.sl .str)] r.1

noncomputable def i_Value_text (x0 : TValue) : Option ((List UInt8)) := (Den CC 88 (bodyT CC 88) ⟨tmOf [(0, .st 44 x0)] 0 39, [], 0⟩).bind fun r => prjR GG [.str] r.1

noncomputable def i_Gen_text_L15 (x0 : (List UInt8)) (x1 : Int) (x2 : Int) (x3 : (List UInt8)) (x4 : Int) (x5 : Int) (x6 : (List UInt8)) (x7 : Int) (x8 : (List TGen)) (x9 : (List (List UInt8))) : Option ((List UInt8)) := (Den CC 48 (lbl CC 48 15) ⟨tmOf [(1, .ref 0 0), (3, .arr 1), (4, .str x0)] 0 63, [.box 57 [.int .i64 x1, .int .i64 x2, .str x3, .int .i64 x4, .int .i64 x5, .str x6, .int .i64 x7, .sl (.st 51) x8] false, .arr 9 .str x9 false], 0⟩).bind fun r => prjR GG [.str] r.1

noncomputable def l_eqGenS_L4 (x0 : (List TGen)) (x1 : (List TGen)) (x2 : Int) : Option (Bool) := (Den CC 49 (lbl CC 49 4) ⟨tmOf [(0, .sl (.st 51) x0), (1, .sl (.st 51) x1), (5, .int .i64 x2)] 0 27, [], 0⟩).bind fun r => prjR GG [.bool] r.1

noncomputable def i_QuoteText (x0 : (List UInt8)) : Option ((List UInt8)) := (Den CC 70 (bodyT CC 70) ⟨tmOf [(0, .str x0)] 0 7, [], 0⟩).bind fun r => prjR GG [.str] r.1

noncomputable def s_IsName (x0 : (List UInt8)) : Option (Bool) := (Den CC 77 (bodyT CC 77) ⟨tmOf [(0, .str x0)] 0 17, [], 0⟩).bind fun r => prjR GG [.bool] r.1

noncomputable def i_isObjectId (x0 : Int) : Option (Bool) := (Den CC 79 (bodyT CC 79) ⟨tmOf [(0, .int .i64 x0)] 0 5, [], 0⟩).bind fun r => prjR GG [.bool] r.1

noncomputable def i_IsName (x0 : (List UInt8)) : Option (Bool) := (Den CC 80 (bodyT CC 80) ⟨tmOf [(0, .str x0)] 0 21, [], 0⟩).bind fun r => prjR GG [.bool] r.1

noncomputable def s_l22Shape (x0 : Int) (x1 : Int) (x2 : (List UInt8)) (x3 : Int) (x4 : Int) (x5 : (List UInt8)) (x6 : Int) (x7 : (List TGen)) : Option (Bool) := (Den CC 107 (bodyT CC 107) ⟨tmOf [(0, .pc [.int .i64 x0, .int .i64 x1, .str x2, .int .i64 x3, .int .i64 x4, .str x5, .int .i64 x6, .sl (.st 51) x7])] 0 125, [], 0⟩).bind fun r => prjR GG [.bool] r.1

noncomputable def s_l22Size_L5 (x0 : Int) (x1 : Int) (x2 : (List UInt8)) (x3 : Int) (x4 : Int) (x5 : (List UInt8)) (x6 : Int) (x7 : (List TGen)) (x8 : Int) (x9 : Int) : Option (Int) := (Den CC 81 (lbl CC 81 5) ⟨tmOf [(0, .pc [.int .i64 x0, .int .i64 x1, .str x2, .int .i64 x3, .int .i64 x4, .str x5, .int .i64 x6, .sl (.st 51) x7]), (3, .int .i64 x8), (4, .int .i64 x9)] 0 31, [], 0⟩).bind fun r => prjR GG [(.int .i64)] r.1

noncomputable def s_QuoteText (x0 : (List UInt8)) : Option ((List UInt8)) := (Den CC 108 (bodyT CC 108) ⟨tmOf [(0, .str x0)] 0 26, [], 0⟩).bind fun r => prjR GG [.str] r.1

noncomputable def s_DataType (x0 : TValue) : Option ((List UInt8)) := (Den CC 109 (bodyT CC 109) ⟨tmOf [(0, .st 44 x0)] 0 12, [], 0⟩).bind fun r => prjR GG [.str] r.1

noncomputable def s_l22List_L3 (x0 : (List TGen)) (x1 : (List UInt8)) (x2 : Int) : Option ((List UInt8)) := (Den CC 83 (lbl CC 83 3) ⟨tmOf [(0, .sl (.st 51) x0), (3, .str x1), (4, .int .i64 x2)] 0 22, [], 0⟩).bind fun r => prjR GG [.str] r.1

noncomputable def s_l06Digits_L5 (x0 : Int) (x1 : (List UInt8)) (x2 : Int) : Option ((List UInt8)) := (Den CC 84 (lbl CC 84 5) ⟨tmOf [(0, .int .i64 x0), (3, .str x1), (4, .int .i64 x2)] 0 31, [], 0⟩).bind fun r => prjR GG [.str] r.1

noncomputable def i_Gen_hasForm (x0 : TGen) : Option (Bool) := (Den CC 110 (bodyT CC 110) ⟨tmOf [(0, .st 51 x0)] 0 61, [], 0⟩).bind fun r => prjR GG [.bool] r.1

noncomputable def i_countGen_L5 (x0 : Int) (x1 : (List TGen)) (x2 : Int) (x3 : Int) : Option (Int) := (Den CC 86 (lbl CC 86 5) ⟨tmOf [(1, .int .i64 x0), (17, .sl (.st 51) x1), (18, .int .i64 x2), (19, .int .i64 x3)] 0 30, [], 0⟩).bind fun r => prjR GG [(.int .i64)] r.1

noncomputable def i_typeName (x0 : Int) : Option ((List UInt8)) := (Den CC 111 (bodyT CC 111) ⟨tmOf [(0, .int .i64 x0)] 0 8, [], 0⟩).bind fun r => prjR GG [.str] r.1

noncomputable def i_Gen_text_L16 (x0 : (List UInt8)) (x1 : (List TGen)) (x2 : Int) (x3 : Int) (x4 : (List (List UInt8))) : Option ((List UInt8)) := (Den CC 48 (lbl CC 48 16) ⟨tmOf [(3, .arr 0), (4, .str x0), (45, .sl (.st 51) x1), (46, .int .i64 x2), (47, .int .i64 x3)] 0 63, [.arr 9 .str x4 false], 0⟩).bind fun r => prjR GG [.str] r.1

noncomputable def s_l02NameEnd (x0 : (List UInt8)) (x1 : Int) : Option (Int) := (Den CC 103 (bodyT CC 103) ⟨tmOf [(0, .str x0), (1, .int .i64 x1)] 0 42, [], 0⟩).bind fun r => prjR GG [(.int .i64)] r.1

noncomputable def i_isLetter (x0 : Int) : Option (Bool) := (Den CC 104 (bodyT CC 104) ⟨tmOf [(0, .int .u8 x0)] 0 17, [], 0⟩).bind fun r => prjR GG [.bool] r.1

noncomputable def i_areAll_byte__i_isNameByte (x0 : (List Int)) : Option (Bool) := (Den CC 105 (bodyT CC 105) ⟨tmOf [(0, .sl (.int .u8) x0), (1, .fn 106 [])] 0 18, [], 0⟩).bind fun r => prjR GG [.bool] r.1

noncomputable def s_l22Kids (x0 : Int) : Option (Int) := (Den CC 127 (bodyT CC 127) ⟨tmOf [(0, .int .i64 x0)] 0 22, [], 0⟩).bind fun r => prjR GG [(.int .i64)] r.1

noncomputable def s_l22Shape_L4 : Option (Bool) := (Den CC 107 (lbl CC 107 4) ⟨tmOf [] 0 125, [], 0⟩).bind fun r => prjR GG [.bool] r.1

noncomputable def s_l22Shape_L5 (x0 : Int) (x1 : Int) (x2 : (List UInt8)) (x3 : Int) (x4 : Int) (x5 : (List UInt8)) (x6 : Int) (x7 : (List TGen)) : Option (Bool) := (Den CC 107 (lbl CC 107 5) ⟨tmOf [(0, .pc [.int .i64 x0, .int .i64 x1, .str x2, .int .i64 x3, .int .i64 x4, .str x5, .int .i64 x6, .sl (.st 51) x7])] 0 125, [], 0⟩).bind fun r => prjR GG [.bool] r.1

noncomputable def s_QuoteText_L3 (x0 : (List UInt8)) (x1 : (List UInt8)) (x2 : Int) : Option ((List UInt8)) := (Den CC 108 (lbl CC 108 3) ⟨tmOf [(0, .str x0), (3, .str x1), (4, .int .i64 x2)] 0 26, [], 0⟩).bind fun r => prjR GG [.str] r.1

noncomputable def i_isData (x0 : TValue) : Option (Bool) := (Den CC 131 (bodyT CC 131) ⟨tmOf [(0, .st 44 x0)] 0 20, [], 0⟩).bind fun r => prjR GG [.bool] r.1

noncomputable def i_Gen_hasForm_L13 (x0 : Bool) (x1 : Bool) (x2 : Bool) (x3 : Int) (x4 : Int) (x5 : (List UInt8)) (x6 : Int) (x7 : Int) (x8 : (List UInt8)) (x9 : Int) (x10 : (List TGen)) : Option (Bool) := (Den CC 110 (lbl CC 110 13) ⟨tmOf [(1, .ref 0 0), (3, .bool x0), (4, .bool x1), (5, .bool x2)] 0 61, [.box 57 [.int .i64 x3, .int .i64 x4, .str x5, .int .i64 x6, .int .i64 x7, .str x8, .int .i64 x9, .sl (.st 51) x10] false], 0⟩).bind fun r => prjR GG [.bool] r.1

noncomputable def i_Gen_hasForm_L8 (x0 : Bool) (x1 : Bool) (x2 : Int) (x3 : Int) (x4 : (List UInt8)) (x5 : Int) (x6 : Int) (x7 : (List UInt8)) (x8 : Int) (x9 : (List TGen)) : Option (Bool) := (Den CC 110 (lbl CC 110 8) ⟨tmOf [(1, .ref 0 0), (3, .bool x0), (5, .bool x1)] 0 61, [.box 57 [.int .i64 x2, .int .i64 x3, .str x4, .int .i64 x5, .int .i64 x6, .str x7, .int .i64 x8, .sl (.st 51) x9] false], 0⟩).bind fun r => prjR GG [.bool] r.1

noncomputable def i_Gen_hasForm_L9 (x0 : Bool) (x1 : Bool) (x2 : Bool) (x3 : Int) (x4 : Int) (x5 : Int) (x6 : (List UInt8)) (x7 : Int) (x8 : Int) (x9 : (List UInt8)) (x10 : Int) (x11 : (List TGen)) : Option (Bool) := (Den CC 110 (lbl CC 110 9) ⟨tmOf [(1, .ref 0 0), (3, .bool x0), (4, .bool x1), (5, .bool x2), (17, .int .i64 x3)] 0 61, [.box 57 [.int .i64 x4, .int .i64 x5, .str x6, .int .i64 x7, .int .i64 x8, .str x9, .int .i64 x10, .sl (.st 51) x11] false], 0⟩).bind fun r => prjR GG [.bool] r.1

noncomputable def s_l02Letter (x0 : Int) : Option (Bool) := (Den CC 124 (bodyT CC 124) ⟨tmOf [(0, .int .u8 x0)] 0 17, [], 0⟩).bind fun r => prjR GG [.bool] r.1

noncomputable def s_l02NameEnd_L3 (x0 : (List UInt8)) (x1 : Int) : Option (Int) := (Den CC 103 (lbl CC 103 3) ⟨tmOf [(0, .str x0), (1, .int .i64 x1)] 0 42, [], 0⟩).bind fun r => prjR GG [(.int .i64)] r.1

noncomputable def i_areAll_byte_L2__i_isNameByte (x0 : (List Int)) (x1 : Int) (x2 : Int) : Option (Bool) := (Den CC 105 (lbl CC 105 2) ⟨tmOf [(1, .fn 106 []), (7, .sl (.int .u8) x0), (8, .int .i64 x1), (9, .int .i64 x2)] 0 18, [], 0⟩).bind fun r => prjR GG [.bool] r.1

noncomputable def s_l22Kids_L9 : Option (Int) := (Den CC 127 (lbl CC 127 9) ⟨tmOf [] 0 22, [], 0⟩).bind fun r => prjR GG [(.int .i64)] r.1

noncomputable def s_l22Kids_L10 (x0 : Int) : Option (Int) := (Den CC 127 (lbl CC 127 10) ⟨tmOf [(3, .int .i64 x0)] 0 22, [], 0⟩).bind fun r => prjR GG [(.int .i64)] r.1

noncomputable def s_l07IsRef (x0 : TValue) : Option (Bool) := (Den CC 128 (bodyT CC 128) ⟨tmOf [(0, .st 44 x0)] 0 6, [], 0⟩).bind fun r => prjR GG [.bool] r.1

noncomputable def s_l22Shape_L12 (x0 : Int) (x1 : Int) (x2 : (List UInt8)) (x3 : Int) (x4 : Int) (x5 : (List UInt8)) (x6 : Int) (x7 : (List TGen)) : Option (Bool) := (Den CC 107 (lbl CC 107 12) ⟨tmOf [(0, .pc [.int .i64 x0, .int .i64 x1, .str x2, .int .i64 x3, .int .i64 x4, .str x5, .int .i64 x6, .sl (.st 51) x7])] 0 125, [], 0⟩).bind fun r => prjR GG [.bool] r.1

noncomputable def s_l22Shape_L13 (x0 : Int) (x1 : Int) (x2 : (List UInt8)) (x3 : Int) (x4 : Int) (x5 : (List UInt8)) (x6 : Int) (x7 : (List TGen)) (x8 : Int) : Option (Bool) := (Den CC 107 (lbl CC 107 13) ⟨tmOf [(0, .pc [.int .i64 x0, .int .i64 x1, .str x2, .int .i64 x3, .int .i64 x4, .str x5, .int .i64 x6, .sl (.st 51) x7]), (53, .int .i64 x8)] 0 125, [], 0⟩).bind fun r => prjR GG [.bool] r.1

noncomputable def i_refers (x0 : Int) : Option (Bool) := (Den CC 144 (bodyT CC 144) ⟨tmOf [(0, .int .i64 x0)] 0 5, [], 0⟩).bind fun r => prjR GG [.bool] r.1

noncomputable def i_genKids (x0 : Int) : Option (Int) := (Den CC 133 (bodyT CC 133) ⟨tmOf [(0, .int .i64 x0)] 0 18, [], 0⟩).bind fun r => prjR GG [(.int .i64)] r.1

noncomputable def i_isOperatorName (x0 : (List UInt8)) : Option (Bool) := (Den CC 132 (bodyT CC 132) ⟨tmOf [(0, .str x0)] 0 20, [], 0⟩).bind fun r => prjR GG [.bool] r.1

noncomputable def s_l02NameEnd_L4 (x0 : (List UInt8)) (x1 : Int) : Option (Int) := (Den CC 103 (lbl CC 103 4) ⟨tmOf [(0, .str x0), (1, .int .i64 x1)] 0 42, [], 0⟩).bind fun r => prjR GG [(.int .i64)] r.1

noncomputable def s_l02Digit (x0 : Int) : Option (Bool) := (Den CC 125 (bodyT CC 125) ⟨tmOf [(0, .int .u8 x0)] 0 9, [], 0⟩).bind fun r => prjR GG [.bool] r.1

noncomputable def s_l02NameEnd_L5 (x0 : Int) : Option (Int) := (Den CC 103 (lbl CC 103 5) ⟨tmOf [(1, .int .i64 x0)] 0 42, [], 0⟩).bind fun r => prjR GG [(.int .i64)] r.1

noncomputable def i_isNameByte (x0 : Int) : Option (Bool) := (Den CC 106 (bodyT CC 106) ⟨tmOf [(0, .int .u8 x0)] 0 13, [], 0⟩).bind fun r => prjR GG [.bool] r.1

noncomputable def s_l22Kids_L15 : Option (Int) := (Den CC 127 (lbl CC 127 15) ⟨tmOf [] 0 22, [], 0⟩).bind fun r => prjR GG [(.int .i64)] r.1

noncomputable def s_l22Kids_L16 (x0 : Int) : Option (Int) := (Den CC 127 (lbl CC 127 16) ⟨tmOf [(3, .int .i64 x0)] 0 22, [], 0⟩).bind fun r => prjR GG [(.int .i64)] r.1

noncomputable def s_l22Operators : Option ((List (List UInt8))) := (Den CC 130 (bodyT CC 130) ⟨tmOf [] 0 2, [], 0⟩).bind fun r => prjR GG [(.sl .str)] r.1

noncomputable def s_l22Among (x0 : (List (List UInt8))) (x1 : (List UInt8)) : Option (Int) := (Den CC 129 (bodyT CC 129) ⟨tmOf [(0, .sl .str x0), (1, .str x1)] 0 19, [], 0⟩).bind fun r => prjR GG [(.int .i64)] r.1

noncomputable def i_genKids_L7 : Option (Int) := (Den CC 133 (lbl CC 133 7) ⟨tmOf [] 0 18, [], 0⟩).bind fun r => prjR GG [(.int .i64)] r.1

noncomputable def i_genKids_L8 (x0 : Int) : Option (Int) := (Den CC 133 (lbl CC 133 8) ⟨tmOf [(3, .int .i64 x0)] 0 18, [], 0⟩).bind fun r => prjR GG [(.int .i64)] r.1

noncomputable def i_isOperatorName_L17 : Option (Bool) := (Den CC 132 (lbl CC 132 17) ⟨tmOf [] 0 20, [], 0⟩).bind fun r => prjR GG [.bool] r.1

noncomputable def i_isOperatorName_L18 : Option (Bool) := (Den CC 132 (lbl CC 132 18) ⟨tmOf [] 0 20, [], 0⟩).bind fun r => prjR GG [.bool] r.1

noncomputable def i_isDigit (x0 : Int) : Option (Bool) := (Den CC 126 (bodyT CC 126) ⟨tmOf [(0, .int .u8 x0)] 0 9, [], 0⟩).bind fun r => prjR GG [.bool] r.1

noncomputable def s_l22Kids_L19 : Option (Int) := (Den CC 127 (lbl CC 127 19) ⟨tmOf [] 0 22, [], 0⟩).bind fun r => prjR GG [(.int .i64)] r.1

noncomputable def s_l22Kids_L20 : Option (Int) := (Den CC 127 (lbl CC 127 20) ⟨tmOf [] 0 22, [], 0⟩).bind fun r => prjR GG [(.int .i64)] r.1

noncomputable def s_l22Among_L2 (x0 : (List (List UInt8))) (x1 : (List UInt8)) (x2 : Int) : Option (Int) := (Den CC 129 (lbl CC 129 2) ⟨tmOf [(0, .sl .str x0), (1, .str x1), (5, .int .i64 x2)] 0 19, [], 0⟩).bind fun r => prjR GG [(.int .i64)] r.1

noncomputable def i_genKids_L11 : Option (Int) := (Den CC 133 (lbl CC 133 11) ⟨tmOf [] 0 18, [], 0⟩).bind fun r => prjR GG [(.int .i64)] r.1

noncomputable def i_genKids_L12 (x0 : Int) : Option (Int) := (Den CC 133 (lbl CC 133 12) ⟨tmOf [(3, .int .i64 x0)] 0 18, [], 0⟩).bind fun r => prjR GG [(.int .i64)] r.1

noncomputable def i_genKids_L15 : Option (Int) := (Den CC 133 (lbl CC 133 15) ⟨tmOf [] 0 18, [], 0⟩).bind fun r => prjR GG [(.int .i64)] r.1

noncomputable def i_genKids_L16 : Option (Int) := (Den CC 133 (lbl CC 133 16) ⟨tmOf [] 0 18, [], 0⟩).bind fun r => prjR GG [(.int .i64)] r.1

theorem l_FnExactGenText_eq (x0 : TGen) : l_FnExactGenText x0 = (l_szGen x0.re 1048576).bind fun r200 => if (decide (r200 < 0)) = true then some (true) else (l_toGen x0.re).bind fun r198 => (s_GenText r198).bind fun r197 => (l_toGen x0.re).bind fun r196 => (i_GenText r196.re).bind fun r195 => if (!r195 == r197) = true then some (false) else (l_toGen x0.re).bind fun r193 => (l_eqGen r196.re r193).bind fun r192 => if (!r192) = true then some (false) else some (true) :=
  (den_run CC 6 (bodyT CC 6) ⟨tmOf [(0, .st 51 x0)] 0 27, [], 0⟩ fun r => prjR GG [.bool] r.1).trans (by kernel_rfl)

theorem l_eqValue_eq (x0 : TValue) (x1 : TValue) : l_eqValue x0 x1 = if (x0.fKind != x1.fKind) = true then some (false) else if (x0.fNum != x1.fNum) = true then some (false) else if (!x0.fText == x1.fText) = true then some (false) else if (x0.fRef != x1.fRef) = true then some (false) else some (true) :=
  (den_run CC 19 (bodyT CC 19) ⟨tmOf [(0, .st 44 x0), (1, .st 44 x1)] 0 25, [], 0⟩ fun r => prjR GG [.bool] r.1).trans (by kernel_rfl)

theorem l_szGen_eq (x0 : TGen) (x1 : Int) : l_szGen x0 x1 = if (decide (w64 (x1 - len x0.fText) < 0)) = true then some (-1) else (l_szValue x0.fValue (w64 (x1 - len x0.fText))).bind fun r199 => if (decide (r199 < 0)) = true then some (-1) else (l_szGenS x0.fKids r199).bind fun r197 => if (decide (r197 < 0)) = true then some (-1) else some r197 :=
  (den_run CC 20 (bodyT CC 20) ⟨tmOf [(0, .st 51 x0), (1, .int .i64 x1)] 0 25, [], 0⟩ fun r => prjR GG [(.int .i64)] r.1).trans (by kernel_rfl)

theorem l_toGen_eq (x0 : TGen) : l_toGen x0 = (l_toValue x0.fValue).bind fun r200 => (l_toGenS x0.fKids).bind fun r199 => some (TGen.mk x0.fKind x0.fNum x0.fText r200 r199) :=
  (den_run CC 22 (bodyT CC 22) ⟨tmOf [(0, .st 51 x0)] 0 22, [], 0⟩ fun r => prjR GG [(.st 51)] r.1).trans (by kernel_rfl)

theorem s_GenText_eq (x0 : TGen) : s_GenText x0 = (s_l22Ok x0.fKind x0.fNum x0.fText x0.fValue.fKind x0.fValue.fNum x0.fValue.fText x0.fValue.fRef x0.fKids).bind fun r200 => if (!r200) = true then some [] else (s_l22Print x0.fKind x0.fNum x0.fText x0.fValue.fKind x0.fValue.fNum x0.fValue.fText x0.fValue.fRef x0.fKids).bind fun r198 => some r198 :=
  (den_run CC 21 (bodyT CC 21) ⟨tmOf [(0, .st 51 x0)] 0 6, [], 0⟩ fun r => prjR GG [.str] r.1).trans (by kernel_rfl)

theorem i_GenText_eq (x0 : TGen) : i_GenText x0 = (i_ValidGen x0.re).bind fun r200 => if (!r200) = true then some [] else (i_Gen_text x0.re).bind fun r198 => some r198 :=
  (den_run CC 23 (bodyT CC 23) ⟨tmOf [(0, .st 51 x0)] 0 8, [], 0⟩ fun r => prjR GG [.str] r.1).trans (by kernel_rfl)

theorem l_eqGen_eq (x0 : TGen) (x1 : TGen) : l_eqGen x0 x1 = if (x0.fKind != x1.fKind) = true then some (false) else if (x0.fNum != x1.fNum) = true then some (false) else if (!x0.fText == x1.fText) = true then some (false) else (l_eqValue x0.fValue x1.fValue).bind fun r197 => if (!r197) = true then some (false) else (l_eqGenS x0.fKids x1.fKids).bind fun r195 => if (!r195) = true then some (false) else some (true) :=
  (den_run CC 24 (bodyT CC 24) ⟨tmOf [(0, .st 51 x0), (1, .st 51 x1)] 0 32, [], 0⟩ fun r => prjR GG [.bool] r.1).trans (by kernel_rfl)

theorem s_ValidValue_eq (x0 : TValue) : s_ValidValue x0 = if (x0.fKind == 1) = true then (s_l06Plain x0 (false) (true) (false)).bind fun r199 => if r199 = true then some (decide (len x0.fText ≤ 200)) else some (false) else if (x0.fKind == 2) = true then (s_l06Plain x0 (true) (false) (false)).bind fun r198 => if r198 = true then (s_l00In x0.fNum (-1000000000000) 1000000000000).bind fun r196 => some r196 else some (false) else if (x0.fKind == 3) = true then (s_l06Plain x0 (false) (true) (false)).bind fun r197 => if r197 = true then (s_l00In (len x0.fText) 1 1200).bind fun r195 => some r195 else some (false) else if (x0.fKind == 4) = true then s_ValidValue_L11 x0.fKind x0.fNum x0.fText x0.fRef else if (x0.fKind == 5) = true then s_ValidValue_L11 x0.fKind x0.fNum x0.fText x0.fRef else if (x0.fKind == 6) = true then s_ValidValue_L11 x0.fKind x0.fNum x0.fText x0.fRef else s_ValidValue_L12 x0.fKind x0.fKind x0.fNum x0.fText x0.fRef :=
  (den_run CC 39 (bodyT CC 39) ⟨tmOf [(0, .st 44 x0)] 0 55, [], 0⟩ fun r => prjR GG [.bool] r.1).trans (by kernel_rfl)

theorem i_ValidValue_eq (x0 : TValue) : i_ValidValue x0 = if (x0.fKind == 1) = true then if (x0.fKind == 1 && (x0.fNum == 0 && (x0.fText == x0.fText && (x0.fRef == 0 && true)))) = true then some (decide (len x0.fText ≤ 200)) else some (false) else if (x0.fKind == 2) = true then if (x0.fKind == 2 && (x0.fNum == x0.fNum && (x0.fText == [] && (x0.fRef == 0 && true)))) = true then (i_within x0.fNum (-1000000000000) 1000000000000).bind fun r197 => some r197 else some (false) else if (x0.fKind == 3) = true then if (x0.fKind == 3 && (x0.fNum == 0 && (x0.fText == x0.fText && (x0.fRef == 0 && true)))) = true then if (decide (len x0.fText ≥ 1)) = true then some (decide (len x0.fText ≤ 1200)) else some (false) else some (false) else if (x0.fKind == 4) = true then i_ValidValue_L11 x0.fKind x0.fNum x0.fText x0.fRef else if (x0.fKind == 5) = true then i_ValidValue_L11 x0.fKind x0.fNum x0.fText x0.fRef else if (x0.fKind == 6) = true then i_ValidValue_L11 x0.fKind x0.fNum x0.fText x0.fRef else i_ValidValue_L12 x0.fKind x0.fKind x0.fNum x0.fText x0.fRef :=
  (den_run CC 40 (bodyT CC 40) ⟨tmOf [(0, .st 44 x0)] 0 80, [], 0⟩ fun r => prjR GG [.bool] r.1).trans (by kernel_rfl)

theorem l_szValue_eq (x0 : TValue) (x1 : Int) : l_szValue x0 x1 = if (decide (w64 (x1 - len x0.fText) < 0)) = true then some (-1) else some (w64 (x1 - len x0.fText)) :=
  (den_run CC 41 (bodyT CC 41) ⟨tmOf [(0, .st 44 x0), (1, .int .i64 x1)] 0 13, [], 0⟩ fun r => prjR GG [(.int .i64)] r.1).trans (by kernel_rfl)

theorem l_szGenS_eq (x0 : (List TGen)) (x1 : Int) : l_szGenS x0 x1 = if (decide (w64 (x1 - len x0) < 0)) = true then some (-1) else l_szGenS_L5 x0 (w64 (x1 - len x0)) 0 :=
  (den_run CC 42 (bodyT CC 42) ⟨tmOf [(0, .sl (.st 51) x0), (1, .int .i64 x1)] 0 27, [], 0⟩ fun r => prjR GG [(.int .i64)] r.1).trans (by kernel_rfl)

theorem l_toValue_eq (x0 : TValue) : l_toValue x0 = some x0 :=
  (den_run CC 45 (bodyT CC 45) ⟨tmOf [(0, .st 44 x0)] 0 17, [], 0⟩ fun r => prjR GG [(.st 44)] r.1).trans (by kernel_rfl)

theorem l_toGenS_eq (x0 : (List TGen)) : l_toGenS x0 = ((mk (len x0) (TGen.mk (Int.ofNat 0) (Int.ofNat 0) [] (TValue.mk (Int.ofNat 0) (Int.ofNat 0) [] (Int.ofNat 0)) [])) : Option (List TGen)).bind fun y200 => l_toGenS_L3 x0 0 y200 :=
  (den_run CC 46 (bodyT CC 46) ⟨tmOf [(0, .sl (.st 51) x0)] 0 23, [], 0⟩ fun r => prjR GG [(.sl (.st 51))] r.1).trans (by kernel_rfl)

theorem s_l22Ok_eq (x0 : Int) (x1 : Int) (x2 : (List UInt8)) (x3 : Int) (x4 : Int) (x5 : (List UInt8)) (x6 : Int) (x7 : (List TGen)) : s_l22Ok x0 x1 x2 x3 x4 x5 x6 x7 = (s_l22Size x0 x1 x2 x3 x4 x5 x6 x7).bind fun r200 => some (decide (r200 ≤ 60)) :=
  (den_run CC 43 (bodyT CC 43) ⟨tmOf [(0, .pc [.int .i64 x0, .int .i64 x1, .str x2, .int .i64 x3, .int .i64 x4, .str x5, .int .i64 x6, .sl (.st 51) x7])] 0 6, [], 0⟩ fun r => prjR GG [.bool] r.1).trans (by kernel_rfl)

theorem s_l22Print_eq (x0 : Int) (x1 : Int) (x2 : (List UInt8)) (x3 : Int) (x4 : Int) (x5 : (List UInt8)) (x6 : Int) (x7 : (List TGen)) : s_l22Print x0 x1 x2 x3 x4 x5 x6 x7 = if (x0 == 1) = true then (s_ValueText (TValue.mk x3 x4 x5 x6)).bind fun r199 => some r199 else if (x0 == 2) = true then some x2 else if (x0 == 11) = true then ((app x2 ([40])) : Option (List UInt8)).bind fun y197 => (s_l22List x7).bind fun r196 => ((app y197 r196) : Option (List UInt8)).bind fun y195 => ((app y195 ([41])) : Option (List UInt8)).bind fun y194 => some y194 else if (x0 == 6) = true then (s_l06Digits x1).bind fun r196 => ((app ([108, 105, 109, 105, 116, 40]) r196) : Option (List UInt8)).bind fun y195 => ((app y195 ([44])) : Option (List UInt8)).bind fun y194 => (s_l22List x7).bind fun r193 => ((app y194 r193) : Option (List UInt8)).bind fun y192 => ((app y192 ([41])) : Option (List UInt8)).bind fun y191 => some y191 else if (x0 == 16) = true then (s_l22Words).bind fun r195 => ((idx r195 x0) : Option (List UInt8)).bind fun y194 => ((app y194 ([40])) : Option (List UInt8)).bind fun y193 => ((app y193 x2) : Option (List UInt8)).bind fun y192 => ((app y192 ([44])) : Option (List UInt8)).bind fun y191 => (s_l22List x7).bind fun r190 => ((app y191 r190) : Option (List UInt8)).bind fun y189 => ((app y189 ([41])) : Option (List UInt8)).bind fun y188 => some y188 else if (x0 == 17) = true then (s_l22Words).bind fun r194 => ((idx r194 x0) : Option (List UInt8)).bind fun y193 => ((app y193 ([40])) : Option (List UInt8)).bind fun y192 => ((app y192 x2) : Option (List UInt8)).bind fun y191 => ((app y191 ([44])) : Option (List UInt8)).bind fun y190 => (s_l22List x7).bind fun r189 => ((app y190 r189) : Option (List UInt8)).bind fun y188 => ((app y188 ([41])) : Option (List UInt8)).bind fun y187 => some y187 else (s_l22Words).bind fun r194 => ((idx r194 x0) : Option (List UInt8)).bind fun y193 => ((app y193 ([40])) : Option (List UInt8)).bind fun y192 => (s_l22List x7).bind fun r191 => ((app y192 r191) : Option (List UInt8)).bind fun y190 => ((app y190 ([41])) : Option (List UInt8)).bind fun y189 => some y189 :=
  (den_run CC 44 (bodyT CC 44) ⟨tmOf [(0, .pc [.int .i64 x0, .int .i64 x1, .str x2, .int .i64 x3, .int .i64 x4, .str x5, .int .i64 x6, .sl (.st 51) x7])] 0 89, [], 0⟩ fun r => prjR GG [.str] r.1).trans (by kernel_rfl)

theorem i_ValidGen_eq (x0 : TGen) : i_ValidGen x0 = (i_countGen x0.re 0).bind fun r200 => some (decide (r200 ≤ 60)) :=
  (den_run CC 47 (bodyT CC 47) ⟨tmOf [(0, .st 51 x0)] 0 6, [], 0⟩ fun r => prjR GG [.bool] r.1).trans (by kernel_rfl)

theorem i_Gen_text_eq (x0 : TGen) : i_Gen_text x0 = (i_genNames).bind fun r200 => ((idx r200 x0.fKind) : Option (List UInt8)).bind fun y199 => if (x0.fKind == 1) = true then (i_Value_text x0.fValue).bind fun r197 => some r197 else if (x0.fKind == 2) = true then some x0.fText else if (x0.fKind == 6) = true then (i_decimal x0.fNum).bind fun r195 => ((app [] [r195]) : Option (List (List UInt8))).bind fun y194 => i_Gen_text_L15 y199 x0.fKind x0.fNum x0.fText x0.fValue.fKind x0.fValue.fNum x0.fValue.fText x0.fValue.fRef x0.fKids y194 else if (x0.fKind == 16) = true then ((app [] [x0.fText]) : Option (List (List UInt8))).bind fun y194 => i_Gen_text_L15 y199 x0.fKind x0.fNum x0.fText x0.fValue.fKind x0.fValue.fNum x0.fValue.fText x0.fValue.fRef x0.fKids y194 else if (x0.fKind == 17) = true then ((app [] [x0.fText]) : Option (List (List UInt8))).bind fun y193 => i_Gen_text_L15 y199 x0.fKind x0.fNum x0.fText x0.fValue.fKind x0.fValue.fNum x0.fValue.fText x0.fValue.fRef x0.fKids y193 else if (x0.fKind == 11) = true then i_Gen_text_L15 x0.fText x0.fKind x0.fNum x0.fText x0.fValue.fKind x0.fValue.fNum x0.fValue.fText x0.fValue.fRef x0.fKids ([]) else i_Gen_text_L15 y199 x0.fKind x0.fNum x0.fText x0.fValue.fKind x0.fValue.fNum x0.fValue.fText x0.fValue.fRef x0.fKids ([]) :=
  (den_run CC 48 (bodyT CC 48) ⟨tmOf [(0, .st 51 x0)] 0 63, [], 0⟩ fun r => prjR GG [.str] r.1).trans (by kernel_rfl)

theorem l_eqGenS_eq (x0 : (List TGen)) (x1 : (List TGen)) : l_eqGenS x0 x1 = if (len x0 != len x1) = true then some (false) else l_eqGenS_L4 x0 x1 0 :=
  (den_run CC 49 (bodyT CC 49) ⟨tmOf [(0, .sl (.st 51) x0), (1, .sl (.st 51) x1)] 0 27, [], 0⟩ fun r => prjR GG [.bool] r.1).trans (by kernel_rfl)

theorem i_decimal_eq (x0 : Int) : i_decimal x0 = ((itoaS x0 10) : Option (List UInt8)).bind fun y200 => some y200 :=
  (den_run CC 60 (bodyT CC 60) ⟨tmOf [(0, .int .i64 x0)] 0 5, [], 0⟩ fun r => prjR GG [.str] r.1).trans (by kernel_rfl)

theorem s_l06Plain_eq (x0 : TValue) (x1 : Bool) (x2 : Bool) (x3 : Bool) : s_l06Plain x0 x1 x2 x3 = if x1 = true then if x2 = true then if x3 = true then some (true) else some (x0.fRef == 0) else if (x0.fText == []) = true then if x3 = true then some (true) else some (x0.fRef == 0) else some (false) else if (x0.fNum == 0) = true then if x2 = true then if x3 = true then some (true) else some (x0.fRef == 0) else if (x0.fText == []) = true then if x3 = true then some (true) else some (x0.fRef == 0) else some (false) else some (false) :=
  (den_run CC 75 (bodyT CC 75) ⟨tmOf [(0, .st 44 x0), (1, .bool x1), (2, .bool x2), (3, .bool x3)] 0 31, [], 0⟩ fun r => prjR GG [.bool] r.1).trans (by kernel_rfl)

theorem s_l00In_eq (x0 : Int) (x1 : Int) (x2 : Int) : s_l00In x0 x1 x2 = if (decide (x0 ≥ x1)) = true then some (decide (x0 ≤ x2)) else some (false) :=
  (den_run CC 76 (bodyT CC 76) ⟨tmOf [(0, .int .i64 x0), (1, .int .i64 x1), (2, .int .i64 x2)] 0 15, [], 0⟩ fun r => prjR GG [.bool] r.1).trans (by kernel_rfl)

theorem s_ValidValue_L11_eq (x0 : Int) (x1 : Int) (x2 : (List UInt8)) (x3 : Int) : s_ValidValue_L11 x0 x1 x2 x3 = (s_l06Plain (TValue.mk x0 x1 x2 x3) (false) (false) (true)).bind fun r200 => if r200 = true then (s_l00In x3 1 1000000).bind fun r198 => some r198 else some (false) :=
  (den_run CC 39 (lbl CC 39 11) ⟨tmOf [(1, .ref 0 0)] 0 55, [.box 45 [.int .i64 x0, .int .i64 x1, .str x2, .int .i64 x3] false], 0⟩ fun r => prjR GG [.bool] r.1).trans (by kernel_rfl)

theorem s_ValidValue_L12_eq (x0 : Int) (x1 : Int) (x2 : Int) (x3 : (List UInt8)) (x4 : Int) : s_ValidValue_L12 x0 x1 x2 x3 x4 = if (x0 == 7) = true then (s_l06Plain (TValue.mk x1 x2 x3 x4) (false) (true) (false)).bind fun r199 => if r199 = true then (s_IsName x3).bind fun r197 => some r197 else some (false) else if (x0 == 8) = true then (s_l06Plain (TValue.mk x1 x2 x3 x4) (false) (true) (false)).bind fun r198 => if r198 = true then (s_IsName x3).bind fun r196 => some r196 else some (false) else some (false) :=
  (den_run CC 39 (lbl CC 39 12) ⟨tmOf [(1, .ref 0 0), (4, .int .i64 x0)] 0 55, [.box 45 [.int .i64 x1, .int .i64 x2, .str x3, .int .i64 x4] false], 0⟩ fun r => prjR GG [.bool] r.1).trans (by kernel_rfl)

theorem i_within_eq (x0 : Int) (x1 : Int) (x2 : Int) : i_within x0 x1 x2 = if (decide (x0 ≥ x1)) = true then some (decide (x0 ≤ x2)) else some (false) :=
  (den_run CC 78 (bodyT CC 78) ⟨tmOf [(0, .int .i64 x0), (1, .int .i64 x1), (2, .int .i64 x2)] 0 15, [], 0⟩ fun r => prjR GG [.bool] r.1).trans (by kernel_rfl)

theorem i_ValidValue_L11_eq (x0 : Int) (x1 : Int) (x2 : (List UInt8)) (x3 : Int) : i_ValidValue_L11 x0 x1 x2 x3 = if (x0 == x0 && (x1 == 0 && (x2 == [] && (x3 == x3 && true)))) = true then (i_isObjectId x3).bind fun r199 => some r199 else some (false) :=
  (den_run CC 40 (lbl CC 40 11) ⟨tmOf [(1, .ref 0 0)] 0 80, [.box 45 [.int .i64 x0, .int .i64 x1, .str x2, .int .i64 x3] false], 0⟩ fun r => prjR GG [.bool] r.1).trans (by kernel_rfl)

theorem i_ValidValue_L12_eq (x0 : Int) (x1 : Int) (x2 : Int) (x3 : (List UInt8)) (x4 : Int) : i_ValidValue_L12 x0 x1 x2 x3 x4 = if (x0 == 7) = true then if (x1 == x1 && (x2 == 0 && (x3 == x3 && (x4 == 0 && true)))) = true then (i_IsName x3).bind fun r198 => some r198 else some (false) else if (x0 == 8) = true then if (x1 == x1 && (x2 == 0 && (x3 == x3 && (x4 == 0 && true)))) = true then (i_IsName x3).bind fun r197 => some r197 else some (false) else some (false) :=
  (den_run CC 40 (lbl CC 40 12) ⟨tmOf [(1, .ref 0 0), (4, .int .i64 x0)] 0 80, [.box 45 [.int .i64 x1, .int .i64 x2, .str x3, .int .i64 x4] false], 0⟩ fun r => prjR GG [.bool] r.1).trans (by kernel_rfl)

theorem l_szGenS_L5_eq (x0 : (List TGen)) (x1 : Int) (x2 : Int) : l_szGenS_L5 x0 x1 x2 = if (decide (x2 < len x0)) = true then ((idx x0 x2) : Option TGen).bind fun y199 => (l_szGen y199.re x1).bind fun r198 => if (decide (r198 < 0)) = true then some (-1) else l_szGenS_L5 x0 r198 (w64 (x2 + 1)) else some x1 :=
  (den_run CC 42 (lbl CC 42 5) ⟨tmOf [(0, .sl (.st 51) x0), (1, .int .i64 x1), (5, .int .i64 x2)] 0 27, [], 0⟩ fun r => prjR GG [(.int .i64)] r.1).trans (by kernel_rfl)

theorem l_toGenS_L3_eq (x0 : (List TGen)) (x1 : Int) (x2 : (List TGen)) : l_toGenS_L3 x0 x1 x2 = if (decide (x1 < len x0)) = true then ((idx x0 x1) : Option TGen).bind fun y199 => (l_toGen y199.re).bind fun r198 => ((idx x2 x1) : Option TGen).bind fun y197 => ((x2[Int.toNat x1]?) : Option TGen).bind fun y196 => l_toGenS_L3 x0 (w64 (x1 + 1)) (upd x2 (Int.toNat x1) r198.re) else some x2 :=
  (den_run CC 46 (lbl CC 46 3) ⟨tmOf [(0, .sl (.st 51) x0), (3, .arr 0), (4, .int .i64 x1)] 0 23, [.arr 57 (.st 51) x2 false], 0⟩ fun r => prjR GG [(.sl (.st 51))] r.1).trans (by kernel_rfl)

theorem s_l22Size_eq (x0 : Int) (x1 : Int) (x2 : (List UInt8)) (x3 : Int) (x4 : Int) (x5 : (List UInt8)) (x6 : Int) (x7 : (List TGen)) : s_l22Size x0 x1 x2 x3 x4 x5 x6 x7 = (s_l22Shape x0 x1 x2 x3 x4 x5 x6 x7).bind fun r200 => if (!r200) = true then some 61 else s_l22Size_L5 x0 x1 x2 x3 x4 x5 x6 x7 1 0 :=
  (den_run CC 81 (bodyT CC 81) ⟨tmOf [(0, .pc [.int .i64 x0, .int .i64 x1, .str x2, .int .i64 x3, .int .i64 x4, .str x5, .int .i64 x6, .sl (.st 51) x7])] 0 31, [], 0⟩ fun r => prjR GG [(.int .i64)] r.1).trans (by kernel_rfl)

theorem s_ValueText_eq (x0 : TValue) : s_ValueText x0 = (s_ValidValue x0).bind fun r200 => if (!r200) = true then some [] else if (x0.fKind == 1) = true then (s_QuoteText x0.fText).bind fun r197 => some r197 else if (x0.fKind == 2) = true then (s_l06Digits x0.fNum).bind fun r196 => some r196 else if (x0.fKind == 3) = true then ((app ([60]) x0.fText) : Option (List UInt8)).bind fun y195 => ((app y195 ([62])) : Option (List UInt8)).bind fun y194 => some y194 else if (x0.fKind == 7) = true then ((app ([46]) x0.fText) : Option (List UInt8)).bind fun y194 => some y194 else if (x0.fKind == 8) = true then ((app ([42]) x0.fText) : Option (List UInt8)).bind fun y193 => some y193 else (s_DataType x0).bind fun r193 => ((app r193 ([35])) : Option (List UInt8)).bind fun y192 => (s_l06Digits x0.fRef).bind fun r191 => ((app y192 r191) : Option (List UInt8)).bind fun y190 => some y190 :=
  (den_run CC 82 (bodyT CC 82) ⟨tmOf [(0, .st 44 x0)] 0 41, [], 0⟩ fun r => prjR GG [.str] r.1).trans (by kernel_rfl)

theorem s_l22List_eq (x0 : (List TGen)) : s_l22List x0 = s_l22List_L3 x0 [] 0 :=
  (den_run CC 83 (bodyT CC 83) ⟨tmOf [(0, .sl (.st 51) x0)] 0 22, [], 0⟩ fun r => prjR GG [.str] r.1).trans (by kernel_rfl)

theorem s_l06Digits_eq (x0 : Int) : s_l06Digits x0 = if (x0 == 0) = true then some [48] else s_l06Digits_L5 x0 [] x0 :=
  (den_run CC 84 (bodyT CC 84) ⟨tmOf [(0, .int .i64 x0)] 0 31, [], 0⟩ fun r => prjR GG [.str] r.1).trans (by kernel_rfl)

theorem s_l22Words_eq : s_l22Words = some ([[], [], [], [102, 97, 105, 108], [97, 108, 116], [97, 110, 100], [108, 105, 109, 105, 116], [110, 111, 116], [105, 102], [101, 118, 101, 114, 121], [114, 101, 112, 101, 97, 116], [], [116, 111], [101, 97, 99, 104], [105, 110, 100, 101, 120], [115, 116, 111, 114, 101], [115, 101, 116], [98, 97, 99, 107], [97, 99, 116, 105, 118, 97, 116, 101]]) :=
  (den_run CC 85 (bodyT CC 85) ⟨tmOf [] 0 2, [], 0⟩ fun r => prjR GG [(.sl .str)] r.1).trans (by kernel_rfl)

theorem i_countGen_eq (x0 : TGen) (x1 : Int) : i_countGen x0 x1 = if (decide (w64 (x1 + 1) > 60)) = true then some 61 else (i_Gen_hasForm x0.re).bind fun r199 => if (!r199) = true then some 61 else i_countGen_L5 (w64 (x1 + 1)) x0.fKids (len x0.fKids) 0 :=
  (den_run CC 86 (bodyT CC 86) ⟨tmOf [(0, .st 51 x0), (1, .int .i64 x1)] 0 30, [], 0⟩ fun r => prjR GG [(.int .i64)] r.1).trans (by kernel_rfl)

theorem i_genNames_eq : i_genNames = some ([[], [], [], [102, 97, 105, 108], [97, 108, 116], [97, 110, 100], [108, 105, 109, 105, 116], [110, 111, 116], [105, 102], [101, 118, 101, 114, 121], [114, 101, 112, 101, 97, 116], [], [116, 111], [101, 97, 99, 104], [105, 110, 100, 101, 120], [115, 116, 111, 114, 101], [115, 101, 116], [98, 97, 99, 107], [97, 99, 116, 105, 118, 97, 116, 101]]) :=
  (den_run CC 87 (bodyT CC 87) ⟨tmOf [] 0 2, [], 0⟩ fun r => prjR GG [(.sl .str)] r.1).trans (by kernel_rfl)

theorem i_Value_text_eq (x0 : TValue) : i_Value_text x0 = if (x0.fKind == 1) = true then (i_QuoteText x0.fText).bind fun r199 => some r199 else if (x0.fKind == 2) = true then (i_decimal x0.fNum).bind fun r198 => some r198 else if (x0.fKind == 3) = true then ((app ([60]) x0.fText) : Option (List UInt8)).bind fun y197 => ((app y197 ([62])) : Option (List UInt8)).bind fun y196 => some y196 else if (x0.fKind == 7) = true then ((app ([46]) x0.fText) : Option (List UInt8)).bind fun y196 => some y196 else if (x0.fKind == 8) = true then ((app ([42]) x0.fText) : Option (List UInt8)).bind fun y195 => some y195 else (i_typeName x0.fKind).bind fun r195 => ((app r195 ([35])) : Option (List UInt8)).bind fun y194 => (i_decimal x0.fRef).bind fun r193 => ((app y194 r193) : Option (List UInt8)).bind fun y192 => some y192 :=
  (den_run CC 88 (bodyT CC 88) ⟨tmOf [(0, .st 44 x0)] 0 39, [], 0⟩ fun r => prjR GG [.str] r.1).trans (by kernel_rfl)

theorem i_Gen_text_L15_eq (x0 : (List UInt8)) (x1 : Int) (x2 : Int) (x3 : (List UInt8)) (x4 : Int) (x5 : Int) (x6 : (List UInt8)) (x7 : Int) (x8 : (List TGen)) (x9 : (List (List UInt8))) : i_Gen_text_L15 x0 x1 x2 x3 x4 x5 x6 x7 x8 x9 = i_Gen_text_L16 x0 x8 (len x8) 0 x9 :=
  (den_run CC 48 (lbl CC 48 15) ⟨tmOf [(1, .ref 0 0), (3, .arr 1), (4, .str x0)] 0 63, [.box 57 [.int .i64 x1, .int .i64 x2, .str x3, .int .i64 x4, .int .i64 x5, .str x6, .int .i64 x7, .sl (.st 51) x8] false, .arr 9 .str x9 false], 0⟩ fun r => prjR GG [.str] r.1).trans (by kernel_rfl)

theorem l_eqGenS_L4_eq (x0 : (List TGen)) (x1 : (List TGen)) (x2 : Int) : l_eqGenS_L4 x0 x1 x2 = if (decide (x2 < len x0)) = true then ((idx x0 x2) : Option TGen).bind fun y199 => ((idx x1 x2) : Option TGen).bind fun y198 => (l_eqGen y199.re y198.re).bind fun r197 => if (!r197) = true then some (false) else l_eqGenS_L4 x0 x1 (w64 (x2 + 1)) else some (true) :=
  (den_run CC 49 (lbl CC 49 4) ⟨tmOf [(0, .sl (.st 51) x0), (1, .sl (.st 51) x1), (5, .int .i64 x2)] 0 27, [], 0⟩ fun r => prjR GG [.bool] r.1).trans (by kernel_rfl)

theorem i_QuoteText_eq (x0 : (List UInt8)) : i_QuoteText x0 = ((replAllS x0 ([34]) ([34, 34])) : Option (List UInt8)).bind fun y200 => ((app ([34]) y200) : Option (List UInt8)).bind fun y199 => ((app y199 ([34])) : Option (List UInt8)).bind fun y198 => some y198 :=
  (den_run CC 70 (bodyT CC 70) ⟨tmOf [(0, .str x0)] 0 7, [], 0⟩ fun r => prjR GG [.str] r.1).trans (by kernel_rfl)

theorem s_IsName_eq (x0 : (List UInt8)) : s_IsName x0 = if (!x0 == []) = true then if (decide (len x0 ≤ 12)) = true then (s_l02NameEnd x0 0).bind fun r198 => some (r198 == len x0) else some (false) else some (false) :=
  (den_run CC 77 (bodyT CC 77) ⟨tmOf [(0, .str x0)] 0 17, [], 0⟩ fun r => prjR GG [.bool] r.1).trans (by kernel_rfl)

theorem i_isObjectId_eq (x0 : Int) : i_isObjectId x0 = (i_within x0 1 1000000).bind fun r200 => some r200 :=
  (den_run CC 79 (bodyT CC 79) ⟨tmOf [(0, .int .i64 x0)] 0 5, [], 0⟩ fun r => prjR GG [.bool] r.1).trans (by kernel_rfl)

theorem i_IsName_eq (x0 : (List UInt8)) : i_IsName x0 = if (decide (len x0 ≥ 1)) = true then if (decide (len x0 ≤ 12)) = true then ((idx x0 0) : Option UInt8).bind fun y198 => (i_isLetter (ib y198)).bind fun r197 => if r197 = true then (i_areAll_byte__i_isNameByte (List.map (fun (b : UInt8) ↦ ib b) x0)).bind fun r195 => some r195 else some (false) else some (false) else some (false) :=
  (den_run CC 80 (bodyT CC 80) ⟨tmOf [(0, .str x0)] 0 21, [], 0⟩ fun r => prjR GG [.bool] r.1).trans (by kernel_rfl)

theorem s_l22Shape_eq (x0 : Int) (x1 : Int) (x2 : (List UInt8)) (x3 : Int) (x4 : Int) (x5 : (List UInt8)) (x6 : Int) (x7 : (List TGen)) : s_l22Shape x0 x1 x2 x3 x4 x5 x6 x7 = (s_l00In x0 1 18).bind fun r200 => if (!r200) = true then some (false) else (s_l22Kids x0).bind fun r198 => if (len x7 != r198) = true then some (false) else if (x0 != 6) = true then if (x1 != 0) = true then s_l22Shape_L4 else if (x0 != 1) = true then if (!(x3 == 0 && (x4 == 0 && (x5 == [] && (x6 == 0 && true))))) = true then s_l22Shape_L4 else s_l22Shape_L5 x0 x1 x2 x3 x4 x5 x6 x7 else s_l22Shape_L5 x0 x1 x2 x3 x4 x5 x6 x7 else if (x0 != 1) = true then if (!(x3 == 0 && (x4 == 0 && (x5 == [] && (x6 == 0 && true))))) = true then s_l22Shape_L4 else s_l22Shape_L5 x0 x1 x2 x3 x4 x5 x6 x7 else s_l22Shape_L5 x0 x1 x2 x3 x4 x5 x6 x7 :=
  (den_run CC 107 (bodyT CC 107) ⟨tmOf [(0, .pc [.int .i64 x0, .int .i64 x1, .str x2, .int .i64 x3, .int .i64 x4, .str x5, .int .i64 x6, .sl (.st 51) x7])] 0 125, [], 0⟩ fun r => prjR GG [.bool] r.1).trans (by kernel_rfl)

theorem s_l22Size_L5_eq (x0 : Int) (x1 : Int) (x2 : (List UInt8)) (x3 : Int) (x4 : Int) (x5 : (List UInt8)) (x6 : Int) (x7 : (List TGen)) (x8 : Int) (x9 : Int) : s_l22Size_L5 x0 x1 x2 x3 x4 x5 x6 x7 x8 x9 = if (decide (x9 < len x7)) = true then if (decide (x8 ≤ 60)) = true then ((idx x7 x9) : Option TGen).bind fun y198 => (s_l22Size y198.fKind y198.fNum y198.fText y198.fValue.fKind y198.fValue.fNum y198.fValue.fText y198.fValue.fRef y198.fKids).bind fun r197 => s_l22Size_L5 x0 x1 x2 x3 x4 x5 x6 x7 (w64 (x8 + r197)) (w64 (x9 + 1)) else some x8 else some x8 :=
  (den_run CC 81 (lbl CC 81 5) ⟨tmOf [(0, .pc [.int .i64 x0, .int .i64 x1, .str x2, .int .i64 x3, .int .i64 x4, .str x5, .int .i64 x6, .sl (.st 51) x7]), (3, .int .i64 x8), (4, .int .i64 x9)] 0 31, [], 0⟩ fun r => prjR GG [(.int .i64)] r.1).trans (by kernel_rfl)

theorem s_QuoteText_eq (x0 : (List UInt8)) : s_QuoteText x0 = s_QuoteText_L3 x0 [34] 0 :=
  (den_run CC 108 (bodyT CC 108) ⟨tmOf [(0, .str x0)] 0 26, [], 0⟩ fun r => prjR GG [.str] r.1).trans (by kernel_rfl)

theorem s_DataType_eq (x0 : TValue) : s_DataType x0 = (s_ValidValue x0).bind fun r200 => if (!r200) = true then some [] else ((idx [[115, 116, 114, 105, 110, 103], [105, 110, 116, 101, 103, 101, 114], [112, 97, 116, 116, 101, 114, 110], [97, 114, 114, 97, 121], [116, 97, 98, 108, 101], [114, 101, 99, 111, 114, 100], [110, 97, 109, 101], [101, 120, 112, 114, 101, 115, 115, 105, 111, 110]] (w64 (x0.fKind - 1))) : Option (List UInt8)).bind fun y198 => (([[115, 116, 114, 105, 110, 103], [105, 110, 116, 101, 103, 101, 114], [112, 97, 116, 116, 101, 114, 110], [97, 114, 114, 97, 121], [116, 97, 98, 108, 101], [114, 101, 99, 111, 114, 100], [110, 97, 109, 101], [101, 120, 112, 114, 101, 115, 115, 105, 111, 110]][Int.toNat (w64 (x0.fKind - 1))]?) : Option (List UInt8)).bind fun y197 => some y197 :=
  (den_run CC 109 (bodyT CC 109) ⟨tmOf [(0, .st 44 x0)] 0 12, [], 0⟩ fun r => prjR GG [.str] r.1).trans (by kernel_rfl)

theorem s_l22List_L3_eq (x0 : (List TGen)) (x1 : (List UInt8)) (x2 : Int) : s_l22List_L3 x0 x1 x2 = if (decide (x2 < len x0)) = true then if (decide (x2 > 0)) = true then ((app x1 ([44])) : Option (List UInt8)).bind fun y198 => ((idx x0 x2) : Option TGen).bind fun y197 => (s_l22Print y197.fKind y197.fNum y197.fText y197.fValue.fKind y197.fValue.fNum y197.fValue.fText y197.fValue.fRef y197.fKids).bind fun r196 => ((app y198 r196) : Option (List UInt8)).bind fun y195 => s_l22List_L3 x0 y195 (w64 (x2 + 1)) else ((idx x0 x2) : Option TGen).bind fun y198 => (s_l22Print y198.fKind y198.fNum y198.fText y198.fValue.fKind y198.fValue.fNum y198.fValue.fText y198.fValue.fRef y198.fKids).bind fun r197 => ((app x1 r197) : Option (List UInt8)).bind fun y196 => s_l22List_L3 x0 y196 (w64 (x2 + 1)) else some x1 :=
  (den_run CC 83 (lbl CC 83 3) ⟨tmOf [(0, .sl (.st 51) x0), (3, .str x1), (4, .int .i64 x2)] 0 22, [], 0⟩ fun r => prjR GG [.str] r.1).trans (by kernel_rfl)

theorem s_l06Digits_L5_eq (x0 : Int) (x1 : (List UInt8)) (x2 : Int) : s_l06Digits_L5 x0 x1 x2 = if (x2 != 0) = true then ((rem x2 10) : Option Int).bind fun y199 => if (decide (y199 < 0)) = true then ((app (List.map (fun (n : Int) ↦ UInt8.ofNat (Int.toNat n)) [Go.IntKind.wrap Go.IntKind.u8 (w64 (48 + w64 (0 - y199)))]) x1) : Option (List UInt8)).bind fun y197 => ((quo Go.IntKind.i64 x2 10) : Option Int).bind fun y196 => s_l06Digits_L5 x0 y197 y196 else ((app (List.map (fun (n : Int) ↦ UInt8.ofNat (Int.toNat n)) [Go.IntKind.wrap Go.IntKind.u8 (w64 (48 + y199))]) x1) : Option (List UInt8)).bind fun y197 => ((quo Go.IntKind.i64 x2 10) : Option Int).bind fun y196 => s_l06Digits_L5 x0 y197 y196 else if (decide (x0 < 0)) = true then ((app ([45]) x1) : Option (List UInt8)).bind fun y198 => some y198 else some x1 :=
  (den_run CC 84 (lbl CC 84 5) ⟨tmOf [(0, .int .i64 x0), (3, .str x1), (4, .int .i64 x2)] 0 31, [], 0⟩ fun r => prjR GG [.str] r.1).trans (by kernel_rfl)

theorem i_Gen_hasForm_eq (x0 : TGen) : i_Gen_hasForm x0 = if (x0.fKind == 1) = true then (i_isData x0.fValue).bind fun r199 => i_Gen_hasForm_L13 (x0.fNum == 0) (x0.fText == []) r199 x0.fKind x0.fNum x0.fText x0.fValue.fKind x0.fValue.fNum x0.fValue.fText x0.fValue.fRef x0.fKids else if (x0.fKind == 2) = true then i_Gen_hasForm_L8 (x0.fNum == 0) (x0.fValue.fKind == 0 && (x0.fValue.fNum == 0 && (x0.fValue.fText == [] && (x0.fValue.fRef == 0 && true)))) x0.fKind x0.fNum x0.fText x0.fValue.fKind x0.fValue.fNum x0.fValue.fText x0.fValue.fRef x0.fKids else if (x0.fKind == 16) = true then i_Gen_hasForm_L8 (x0.fNum == 0) (x0.fValue.fKind == 0 && (x0.fValue.fNum == 0 && (x0.fValue.fText == [] && (x0.fValue.fRef == 0 && true)))) x0.fKind x0.fNum x0.fText x0.fValue.fKind x0.fValue.fNum x0.fValue.fText x0.fValue.fRef x0.fKids else if (x0.fKind == 17) = true then i_Gen_hasForm_L8 (x0.fNum == 0) (x0.fValue.fKind == 0 && (x0.fValue.fNum == 0 && (x0.fValue.fText == [] && (x0.fValue.fRef == 0 && true)))) x0.fKind x0.fNum x0.fText x0.fValue.fKind x0.fValue.fNum x0.fValue.fText x0.fValue.fRef x0.fKids else i_Gen_hasForm_L9 (x0.fNum == 0) (x0.fText == []) (x0.fValue.fKind == 0 && (x0.fValue.fNum == 0 && (x0.fValue.fText == [] && (x0.fValue.fRef == 0 && true)))) x0.fKind x0.fKind x0.fNum x0.fText x0.fValue.fKind x0.fValue.fNum x0.fValue.fText x0.fValue.fRef x0.fKids :=
  (den_run CC 110 (bodyT CC 110) ⟨tmOf [(0, .st 51 x0)] 0 61, [], 0⟩ fun r => prjR GG [.bool] r.1).trans (by kernel_rfl)

theorem i_countGen_L5_eq (x0 : Int) (x1 : (List TGen)) (x2 : Int) (x3 : Int) : i_countGen_L5 x0 x1 x2 x3 = if (decide (x3 < x2)) = true then ((idx x1 x3) : Option TGen).bind fun y199 => (i_countGen y199.re x0).bind fun r198 => if (decide (r198 > 60)) = true then some r198 else i_countGen_L5 r198 x1 x2 (w64 (x3 + 1)) else some x0 :=
  (den_run CC 86 (lbl CC 86 5) ⟨tmOf [(1, .int .i64 x0), (17, .sl (.st 51) x1), (18, .int .i64 x2), (19, .int .i64 x3)] 0 30, [], 0⟩ fun r => prjR GG [(.int .i64)] r.1).trans (by kernel_rfl)

theorem i_typeName_eq (x0 : Int) : i_typeName x0 = ((idx [[], [115, 116, 114, 105, 110, 103], [105, 110, 116, 101, 103, 101, 114], [112, 97, 116, 116, 101, 114, 110], [97, 114, 114, 97, 121], [116, 97, 98, 108, 101], [114, 101, 99, 111, 114, 100], [110, 97, 109, 101], [101, 120, 112, 114, 101, 115, 115, 105, 111, 110]] x0) : Option (List UInt8)).bind fun y200 => some y200 :=
  (den_run CC 111 (bodyT CC 111) ⟨tmOf [(0, .int .i64 x0)] 0 8, [], 0⟩ fun r => prjR GG [.str] r.1).trans (by kernel_rfl)

theorem i_Gen_text_L16_eq (x0 : (List UInt8)) (x1 : (List TGen)) (x2 : Int) (x3 : Int) (x4 : (List (List UInt8))) : i_Gen_text_L16 x0 x1 x2 x3 x4 = if (decide (x3 < x2)) = true then ((idx x1 x3) : Option TGen).bind fun y199 => (i_Gen_text y199.re).bind fun r198 => ((app x4 [r198]) : Option (List (List UInt8))).bind fun y197 => i_Gen_text_L16 x0 x1 x2 (w64 (x3 + 1)) y197 else ((app x0 ([40])) : Option (List UInt8)).bind fun y199 => ((joinS x4 ([44])) : Option (List UInt8)).bind fun y198 => ((app y199 y198) : Option (List UInt8)).bind fun y197 => ((app y197 ([41])) : Option (List UInt8)).bind fun y196 => some y196 :=
  (den_run CC 48 (lbl CC 48 16) ⟨tmOf [(3, .arr 0), (4, .str x0), (45, .sl (.st 51) x1), (46, .int .i64 x2), (47, .int .i64 x3)] 0 63, [.arr 9 .str x4 false], 0⟩ fun r => prjR GG [.str] r.1).trans (by kernel_rfl)

theorem s_l02NameEnd_eq (x0 : (List UInt8)) (x1 : Int) : s_l02NameEnd x0 x1 = if (decide (x1 ≥ len x0)) = true then some x1 else ((idx x0 x1) : Option UInt8).bind fun y199 => (s_l02Letter (ib y199)).bind fun r198 => if (!r198) = true then some x1 else s_l02NameEnd_L3 x0 x1 :=
  (den_run CC 103 (bodyT CC 103) ⟨tmOf [(0, .str x0), (1, .int .i64 x1)] 0 42, [], 0⟩ fun r => prjR GG [(.int .i64)] r.1).trans (by kernel_rfl)

theorem i_isLetter_eq (x0 : Int) : i_isLetter x0 = if (decide (x0 ≥ 65)) = true then if (decide (x0 ≤ 90)) = true then some (true) else if (decide (x0 ≥ 97)) = true then some (decide (x0 ≤ 122)) else some (false) else if (decide (x0 ≥ 97)) = true then some (decide (x0 ≤ 122)) else some (false) :=
  (den_run CC 104 (bodyT CC 104) ⟨tmOf [(0, .int .u8 x0)] 0 17, [], 0⟩ fun r => prjR GG [.bool] r.1).trans (by kernel_rfl)

theorem i_areAll_byte__i_isNameByte_eq (x0 : (List Int)) : i_areAll_byte__i_isNameByte x0 = i_areAll_byte_L2__i_isNameByte x0 (len x0) 0 :=
  (den_run CC 105 (bodyT CC 105) ⟨tmOf [(0, .sl (.int .u8) x0), (1, .fn 106 [])] 0 18, [], 0⟩ fun r => prjR GG [.bool] r.1).trans (by kernel_rfl)

theorem s_l22Kids_eq (x0 : Int) : s_l22Kids x0 = if (x0 == 6) = true then s_l22Kids_L9 else if (x0 == 7) = true then s_l22Kids_L9 else if (x0 == 10) = true then s_l22Kids_L9 else if (x0 == 13) = true then s_l22Kids_L9 else if (x0 == 16) = true then s_l22Kids_L9 else if (x0 == 17) = true then s_l22Kids_L9 else if (x0 == 18) = true then s_l22Kids_L9 else s_l22Kids_L10 x0 :=
  (den_run CC 127 (bodyT CC 127) ⟨tmOf [(0, .int .i64 x0)] 0 22, [], 0⟩ fun r => prjR GG [(.int .i64)] r.1).trans (by kernel_rfl)

theorem s_l22Shape_L4_eq : s_l22Shape_L4 = some (false) :=
  (den_run CC 107 (lbl CC 107 4) ⟨tmOf [] 0 125, [], 0⟩ fun r => prjR GG [.bool] r.1).trans (by kernel_rfl)

theorem s_l22Shape_L5_eq (x0 : Int) (x1 : Int) (x2 : (List UInt8)) (x3 : Int) (x4 : Int) (x5 : (List UInt8)) (x6 : Int) (x7 : (List TGen)) : s_l22Shape_L5 x0 x1 x2 x3 x4 x5 x6 x7 = if (x0 == 1) = true then if (x2 == []) = true then (s_ValidValue (TValue.mk x3 x4 x5 x6)).bind fun r198 => if r198 = true then if (x3 == 1) = true then some (true) else if (x3 == 2) = true then some (true) else (s_l07IsRef (TValue.mk x3 x4 x5 x6)).bind fun r194 => some r194 else some (false) else some (false) else if (x0 == 2) = true then s_l22Shape_L12 x0 x1 x2 x3 x4 x5 x6 x7 else if (x0 == 16) = true then s_l22Shape_L12 x0 x1 x2 x3 x4 x5 x6 x7 else if (x0 == 17) = true then s_l22Shape_L12 x0 x1 x2 x3 x4 x5 x6 x7 else s_l22Shape_L13 x0 x1 x2 x3 x4 x5 x6 x7 x0 :=
  (den_run CC 107 (lbl CC 107 5) ⟨tmOf [(0, .pc [.int .i64 x0, .int .i64 x1, .str x2, .int .i64 x3, .int .i64 x4, .str x5, .int .i64 x6, .sl (.st 51) x7])] 0 125, [], 0⟩ fun r => prjR GG [.bool] r.1).trans (by kernel_rfl)

theorem s_QuoteText_L3_eq (x0 : (List UInt8)) (x1 : (List UInt8)) (x2 : Int) : s_QuoteText_L3 x0 x1 x2 = if (decide (x2 < len x0)) = true then ((idx x0 x2) : Option UInt8).bind fun y199 => if (ib y199 == 34) = true then ((app x1 ([34])) : Option (List UInt8)).bind fun y197 => ((cut x0 x2 (Option.getD (Option.some (w64 (x2 + 1))) (len x0))) : Option (List UInt8)).bind fun y196 => ((app y197 y196) : Option (List UInt8)).bind fun y195 => s_QuoteText_L3 x0 y195 (w64 (x2 + 1)) else ((cut x0 x2 (Option.getD (Option.some (w64 (x2 + 1))) (len x0))) : Option (List UInt8)).bind fun y197 => ((app x1 y197) : Option (List UInt8)).bind fun y196 => s_QuoteText_L3 x0 y196 (w64 (x2 + 1)) else ((app x1 ([34])) : Option (List UInt8)).bind fun y199 => some y199 :=
  (den_run CC 108 (lbl CC 108 3) ⟨tmOf [(0, .str x0), (3, .str x1), (4, .int .i64 x2)] 0 26, [], 0⟩ fun r => prjR GG [.str] r.1).trans (by kernel_rfl)

theorem i_isData_eq (x0 : TValue) : i_isData x0 = (i_ValidValue x0).bind fun r200 => if r200 = true then if (x0.fKind == 1) = true then some (true) else if (x0.fKind == 2) = true then some (true) else (i_refers x0.fKind).bind fun r196 => some r196 else some (false) :=
  (den_run CC 131 (bodyT CC 131) ⟨tmOf [(0, .st 44 x0)] 0 20, [], 0⟩ fun r => prjR GG [.bool] r.1).trans (by kernel_rfl)

theorem i_Gen_hasForm_L13_eq (x0 : Bool) (x1 : Bool) (x2 : Bool) (x3 : Int) (x4 : Int) (x5 : (List UInt8)) (x6 : Int) (x7 : Int) (x8 : (List UInt8)) (x9 : Int) (x10 : (List TGen)) : i_Gen_hasForm_L13 x0 x1 x2 x3 x4 x5 x6 x7 x8 x9 x10 = (i_within x3 1 18).bind fun r200 => if r200 = true then if x0 = true then if x1 = true then if x2 = true then (i_genKids x3).bind fun r195 => some (len x10 == r195) else some (false) else some (false) else some (false) else some (false) :=
  (den_run CC 110 (lbl CC 110 13) ⟨tmOf [(1, .ref 0 0), (3, .bool x0), (4, .bool x1), (5, .bool x2)] 0 61, [.box 57 [.int .i64 x3, .int .i64 x4, .str x5, .int .i64 x6, .int .i64 x7, .str x8, .int .i64 x9, .sl (.st 51) x10] false], 0⟩ fun r => prjR GG [.bool] r.1).trans (by kernel_rfl)

theorem i_Gen_hasForm_L8_eq (x0 : Bool) (x1 : Bool) (x2 : Int) (x3 : Int) (x4 : (List UInt8)) (x5 : Int) (x6 : Int) (x7 : (List UInt8)) (x8 : Int) (x9 : (List TGen)) : i_Gen_hasForm_L8 x0 x1 x2 x3 x4 x5 x6 x7 x8 x9 = (i_IsName x4).bind fun r200 => i_Gen_hasForm_L13 x0 r200 x1 x2 x3 x4 x5 x6 x7 x8 x9 :=
  (den_run CC 110 (lbl CC 110 8) ⟨tmOf [(1, .ref 0 0), (3, .bool x0), (5, .bool x1)] 0 61, [.box 57 [.int .i64 x2, .int .i64 x3, .str x4, .int .i64 x5, .int .i64 x6, .str x7, .int .i64 x8, .sl (.st 51) x9] false], 0⟩ fun r => prjR GG [.bool] r.1).trans (by kernel_rfl)

theorem i_Gen_hasForm_L9_eq (x0 : Bool) (x1 : Bool) (x2 : Bool) (x3 : Int) (x4 : Int) (x5 : Int) (x6 : (List UInt8)) (x7 : Int) (x8 : Int) (x9 : (List UInt8)) (x10 : Int) (x11 : (List TGen)) : i_Gen_hasForm_L9 x0 x1 x2 x3 x4 x5 x6 x7 x8 x9 x10 x11 = if (x3 == 6) = true then (i_within x5 0 60).bind fun r199 => i_Gen_hasForm_L13 r199 x1 x2 x4 x5 x6 x7 x8 x9 x10 x11 else if (x3 == 11) = true then (i_isOperatorName x6).bind fun r198 => i_Gen_hasForm_L13 x0 r198 x2 x4 x5 x6 x7 x8 x9 x10 x11 else i_Gen_hasForm_L13 x0 x1 x2 x4 x5 x6 x7 x8 x9 x10 x11 :=
  (den_run CC 110 (lbl CC 110 9) ⟨tmOf [(1, .ref 0 0), (3, .bool x0), (4, .bool x1), (5, .bool x2), (17, .int .i64 x3)] 0 61, [.box 57 [.int .i64 x4, .int .i64 x5, .str x6, .int .i64 x7, .int .i64 x8, .str x9, .int .i64 x10, .sl (.st 51) x11] false], 0⟩ fun r => prjR GG [.bool] r.1).trans (by kernel_rfl)

theorem s_l02Letter_eq (x0 : Int) : s_l02Letter x0 = if (decide (x0 ≥ 65)) = true then if (decide (x0 ≤ 90)) = true then some (true) else if (decide (x0 ≥ 97)) = true then some (decide (x0 ≤ 122)) else some (false) else if (decide (x0 ≥ 97)) = true then some (decide (x0 ≤ 122)) else some (false) :=
  (den_run CC 124 (bodyT CC 124) ⟨tmOf [(0, .int .u8 x0)] 0 17, [], 0⟩ fun r => prjR GG [.bool] r.1).trans (by kernel_rfl)

theorem s_l02NameEnd_L3_eq (x0 : (List UInt8)) (x1 : Int) : s_l02NameEnd_L3 x0 x1 = if (decide (x1 < len x0)) = true then ((idx x0 x1) : Option UInt8).bind fun y199 => (s_l02Letter (ib y199)).bind fun r198 => if r198 = true then s_l02NameEnd_L4 x0 x1 else ((idx x0 x1) : Option UInt8).bind fun y196 => (s_l02Digit (ib y196)).bind fun r195 => if r195 = true then s_l02NameEnd_L4 x0 x1 else ((idx x0 x1) : Option UInt8).bind fun y193 => if (ib y193 == 95) = true then s_l02NameEnd_L4 x0 x1 else s_l02NameEnd_L5 x1 else s_l02NameEnd_L5 x1 :=
  (den_run CC 103 (lbl CC 103 3) ⟨tmOf [(0, .str x0), (1, .int .i64 x1)] 0 42, [], 0⟩ fun r => prjR GG [(.int .i64)] r.1).trans (by kernel_rfl)

theorem i_areAll_byte_L2__i_isNameByte_eq (x0 : (List Int)) (x1 : Int) (x2 : Int) : i_areAll_byte_L2__i_isNameByte x0 x1 x2 = if (decide (x2 < x1)) = true then ((idx x0 x2) : Option Int).bind fun y199 => (i_isNameByte y199).bind fun r198 => if (!r198) = true then some (false) else i_areAll_byte_L2__i_isNameByte x0 x1 (w64 (x2 + 1)) else some (true) :=
  (den_run CC 105 (lbl CC 105 2) ⟨tmOf [(1, .fn 106 []), (7, .sl (.int .u8) x0), (8, .int .i64 x1), (9, .int .i64 x2)] 0 18, [], 0⟩ fun r => prjR GG [.bool] r.1).trans (by kernel_rfl)

theorem s_l22Kids_L9_eq : s_l22Kids_L9 = some 1 :=
  (den_run CC 127 (lbl CC 127 9) ⟨tmOf [] 0 22, [], 0⟩ fun r => prjR GG [(.int .i64)] r.1).trans (by kernel_rfl)

theorem s_l22Kids_L10_eq (x0 : Int) : s_l22Kids_L10 x0 = if (x0 == 4) = true then s_l22Kids_L15 else if (x0 == 5) = true then s_l22Kids_L15 else if (x0 == 9) = true then s_l22Kids_L15 else if (x0 == 11) = true then s_l22Kids_L15 else if (x0 == 14) = true then s_l22Kids_L15 else s_l22Kids_L16 x0 :=
  (den_run CC 127 (lbl CC 127 10) ⟨tmOf [(3, .int .i64 x0)] 0 22, [], 0⟩ fun r => prjR GG [(.int .i64)] r.1).trans (by kernel_rfl)

theorem s_l07IsRef_eq (x0 : TValue) : s_l07IsRef x0 = (s_l00In x0.fKind 4 6).bind fun r200 => some r200 :=
  (den_run CC 128 (bodyT CC 128) ⟨tmOf [(0, .st 44 x0)] 0 6, [], 0⟩ fun r => prjR GG [.bool] r.1).trans (by kernel_rfl)

theorem s_l22Shape_L12_eq (x0 : Int) (x1 : Int) (x2 : (List UInt8)) (x3 : Int) (x4 : Int) (x5 : (List UInt8)) (x6 : Int) (x7 : (List TGen)) : s_l22Shape_L12 x0 x1 x2 x3 x4 x5 x6 x7 = (s_IsName x2).bind fun r200 => some r200 :=
  (den_run CC 107 (lbl CC 107 12) ⟨tmOf [(0, .pc [.int .i64 x0, .int .i64 x1, .str x2, .int .i64 x3, .int .i64 x4, .str x5, .int .i64 x6, .sl (.st 51) x7])] 0 125, [], 0⟩ fun r => prjR GG [.bool] r.1).trans (by kernel_rfl)

theorem s_l22Shape_L13_eq (x0 : Int) (x1 : Int) (x2 : (List UInt8)) (x3 : Int) (x4 : Int) (x5 : (List UInt8)) (x6 : Int) (x7 : (List TGen)) (x8 : Int) : s_l22Shape_L13 x0 x1 x2 x3 x4 x5 x6 x7 x8 = if (x8 == 11) = true then (s_l22Operators).bind fun r199 => (s_l22Among r199 x2).bind fun r198 => some (decide (r198 ≥ 0)) else if (x8 == 6) = true then if (x2 == []) = true then (s_l00In x1 0 60).bind fun r197 => some r197 else some (false) else some (x2 == []) :=
  (den_run CC 107 (lbl CC 107 13) ⟨tmOf [(0, .pc [.int .i64 x0, .int .i64 x1, .str x2, .int .i64 x3, .int .i64 x4, .str x5, .int .i64 x6, .sl (.st 51) x7]), (53, .int .i64 x8)] 0 125, [], 0⟩ fun r => prjR GG [.bool] r.1).trans (by kernel_rfl)

theorem i_refers_eq (x0 : Int) : i_refers x0 = (i_within x0 4 6).bind fun r200 => some r200 :=
  (den_run CC 144 (bodyT CC 144) ⟨tmOf [(0, .int .i64 x0)] 0 5, [], 0⟩ fun r => prjR GG [.bool] r.1).trans (by kernel_rfl)

theorem i_genKids_eq (x0 : Int) : i_genKids x0 = if (x0 == 4) = true then i_genKids_L7 else if (x0 == 5) = true then i_genKids_L7 else if (x0 == 9) = true then i_genKids_L7 else if (x0 == 11) = true then i_genKids_L7 else if (x0 == 14) = true then i_genKids_L7 else i_genKids_L8 x0 :=
  (den_run CC 133 (bodyT CC 133) ⟨tmOf [(0, .int .i64 x0)] 0 18, [], 0⟩ fun r => prjR GG [(.int .i64)] r.1).trans (by kernel_rfl)

theorem i_isOperatorName_eq (x0 : (List UInt8)) : i_isOperatorName x0 = if (x0 == [97, 100, 100]) = true then i_isOperatorName_L17 else if (x0 == [115, 117, 98]) = true then i_isOperatorName_L17 else if (x0 == [109, 117, 108]) = true then i_isOperatorName_L17 else if (x0 == [100, 105, 118]) = true then i_isOperatorName_L17 else if (x0 == [99, 97, 116]) = true then i_isOperatorName_L17 else if (x0 == [108, 116]) = true then i_isOperatorName_L17 else if (x0 == [108, 101]) = true then i_isOperatorName_L17 else if (x0 == [101, 113]) = true then i_isOperatorName_L17 else if (x0 == [110, 101]) = true then i_isOperatorName_L17 else if (x0 == [103, 116]) = true then i_isOperatorName_L17 else if (x0 == [103, 101]) = true then i_isOperatorName_L17 else if (x0 == [115, 101, 113]) = true then i_isOperatorName_L17 else if (x0 == [115, 110, 101]) = true then i_isOperatorName_L17 else if (x0 == [115, 108, 116]) = true then i_isOperatorName_L17 else if (x0 == [105, 115]) = true then i_isOperatorName_L17 else i_isOperatorName_L18 :=
  (den_run CC 132 (bodyT CC 132) ⟨tmOf [(0, .str x0)] 0 20, [], 0⟩ fun r => prjR GG [.bool] r.1).trans (by kernel_rfl)

theorem s_l02NameEnd_L4_eq (x0 : (List UInt8)) (x1 : Int) : s_l02NameEnd_L4 x0 x1 = s_l02NameEnd_L3 x0 (w64 (x1 + 1)) :=
  (den_run CC 103 (lbl CC 103 4) ⟨tmOf [(0, .str x0), (1, .int .i64 x1)] 0 42, [], 0⟩ fun r => prjR GG [(.int .i64)] r.1).trans (by kernel_rfl)

theorem s_l02Digit_eq (x0 : Int) : s_l02Digit x0 = if (decide (x0 ≥ 48)) = true then some (decide (x0 ≤ 57)) else some (false) :=
  (den_run CC 125 (bodyT CC 125) ⟨tmOf [(0, .int .u8 x0)] 0 9, [], 0⟩ fun r => prjR GG [.bool] r.1).trans (by kernel_rfl)

theorem s_l02NameEnd_L5_eq (x0 : Int) : s_l02NameEnd_L5 x0 = some x0 :=
  (den_run CC 103 (lbl CC 103 5) ⟨tmOf [(1, .int .i64 x0)] 0 42, [], 0⟩ fun r => prjR GG [(.int .i64)] r.1).trans (by kernel_rfl)

theorem i_isNameByte_eq (x0 : Int) : i_isNameByte x0 = (i_isLetter x0).bind fun r200 => if r200 = true then some (true) else (i_isDigit x0).bind fun r198 => if r198 = true then some (true) else some (x0 == 95) :=
  (den_run CC 106 (bodyT CC 106) ⟨tmOf [(0, .int .u8 x0)] 0 13, [], 0⟩ fun r => prjR GG [.bool] r.1).trans (by kernel_rfl)

theorem s_l22Kids_L15_eq : s_l22Kids_L15 = some 2 :=
  (den_run CC 127 (lbl CC 127 15) ⟨tmOf [] 0 22, [], 0⟩ fun r => prjR GG [(.int .i64)] r.1).trans (by kernel_rfl)

theorem s_l22Kids_L16_eq (x0 : Int) : s_l22Kids_L16 x0 = if (x0 == 8) = true then s_l22Kids_L19 else if (x0 == 12) = true then s_l22Kids_L19 else if (x0 == 15) = true then s_l22Kids_L19 else s_l22Kids_L20 :=
  (den_run CC 127 (lbl CC 127 16) ⟨tmOf [(3, .int .i64 x0)] 0 22, [], 0⟩ fun r => prjR GG [(.int .i64)] r.1).trans (by kernel_rfl)

theorem s_l22Operators_eq : s_l22Operators = some ([[97, 100, 100], [115, 117, 98], [109, 117, 108], [100, 105, 118], [99, 97, 116], [108, 116], [108, 101], [101, 113], [110, 101], [103, 116], [103, 101], [115, 101, 113], [115, 110, 101], [115, 108, 116], [105, 115]]) :=
  (den_run CC 130 (bodyT CC 130) ⟨tmOf [] 0 2, [], 0⟩ fun r => prjR GG [(.sl .str)] r.1).trans (by kernel_rfl)

theorem s_l22Among_eq (x0 : (List (List UInt8))) (x1 : (List UInt8)) : s_l22Among x0 x1 = s_l22Among_L2 x0 x1 0 :=
  (den_run CC 129 (bodyT CC 129) ⟨tmOf [(0, .sl .str x0), (1, .str x1)] 0 19, [], 0⟩ fun r => prjR GG [(.int .i64)] r.1).trans (by kernel_rfl)

theorem i_genKids_L7_eq : i_genKids_L7 = some 2 :=
  (den_run CC 133 (lbl CC 133 7) ⟨tmOf [] 0 18, [], 0⟩ fun r => prjR GG [(.int .i64)] r.1).trans (by kernel_rfl)

theorem i_genKids_L8_eq (x0 : Int) : i_genKids_L8 x0 = if (x0 == 8) = true then i_genKids_L11 else if (x0 == 12) = true then i_genKids_L11 else if (x0 == 15) = true then i_genKids_L11 else i_genKids_L12 x0 :=
  (den_run CC 133 (lbl CC 133 8) ⟨tmOf [(3, .int .i64 x0)] 0 18, [], 0⟩ fun r => prjR GG [(.int .i64)] r.1).trans (by kernel_rfl)

theorem i_isOperatorName_L17_eq : i_isOperatorName_L17 = some (true) :=
  (den_run CC 132 (lbl CC 132 17) ⟨tmOf [] 0 20, [], 0⟩ fun r => prjR GG [.bool] r.1).trans (by kernel_rfl)

theorem i_isOperatorName_L18_eq : i_isOperatorName_L18 = some (false) :=
  (den_run CC 132 (lbl CC 132 18) ⟨tmOf [] 0 20, [], 0⟩ fun r => prjR GG [.bool] r.1).trans (by kernel_rfl)

theorem i_isDigit_eq (x0 : Int) : i_isDigit x0 = if (decide (x0 ≥ 48)) = true then some (decide (x0 ≤ 57)) else some (false) :=
  (den_run CC 126 (bodyT CC 126) ⟨tmOf [(0, .int .u8 x0)] 0 9, [], 0⟩ fun r => prjR GG [.bool] r.1).trans (by kernel_rfl)

theorem s_l22Kids_L19_eq : s_l22Kids_L19 = some 3 :=
  (den_run CC 127 (lbl CC 127 19) ⟨tmOf [] 0 22, [], 0⟩ fun r => prjR GG [(.int .i64)] r.1).trans (by kernel_rfl)

theorem s_l22Kids_L20_eq : s_l22Kids_L20 = some 0 :=
  (den_run CC 127 (lbl CC 127 20) ⟨tmOf [] 0 22, [], 0⟩ fun r => prjR GG [(.int .i64)] r.1).trans (by kernel_rfl)

theorem s_l22Among_L2_eq (x0 : (List (List UInt8))) (x1 : (List UInt8)) (x2 : Int) : s_l22Among_L2 x0 x1 x2 = if (decide (x2 < len x0)) = true then ((idx x0 x2) : Option (List UInt8)).bind fun y199 => if (y199 == x1) = true then some x2 else s_l22Among_L2 x0 x1 (w64 (x2 + 1)) else some (-1) :=
  (den_run CC 129 (lbl CC 129 2) ⟨tmOf [(0, .sl .str x0), (1, .str x1), (5, .int .i64 x2)] 0 19, [], 0⟩ fun r => prjR GG [(.int .i64)] r.1).trans (by kernel_rfl)

theorem i_genKids_L11_eq : i_genKids_L11 = some 3 :=
  (den_run CC 133 (lbl CC 133 11) ⟨tmOf [] 0 18, [], 0⟩ fun r => prjR GG [(.int .i64)] r.1).trans (by kernel_rfl)

theorem i_genKids_L12_eq (x0 : Int) : i_genKids_L12 x0 = if (x0 == 1) = true then i_genKids_L15 else if (x0 == 2) = true then i_genKids_L15 else if (x0 == 3) = true then i_genKids_L15 else i_genKids_L16 :=
  (den_run CC 133 (lbl CC 133 12) ⟨tmOf [(3, .int .i64 x0)] 0 18, [], 0⟩ fun r => prjR GG [(.int .i64)] r.1).trans (by kernel_rfl)

theorem i_genKids_L15_eq : i_genKids_L15 = some 0 :=
  (den_run CC 133 (lbl CC 133 15) ⟨tmOf [] 0 18, [], 0⟩ fun r => prjR GG [(.int .i64)] r.1).trans (by kernel_rfl)

theorem i_genKids_L16_eq : i_genKids_L16 = some 1 :=
  (den_run CC 133 (lbl CC 133 16) ⟨tmOf [] 0 18, [], 0⟩ fun r => prjR GG [(.int .i64)] r.1).trans (by kernel_rfl)
end Go.Dv.U
