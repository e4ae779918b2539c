/- The functions of the program as equations on plain data, each checked by the kernel. -/
import Derived.Test.YtgemfdbjkbhgbaaDoorExa
set_option linter.all false
set_option linter.unusedVariables false
set_option linter.unusedSimpArgs false
namespace Go.Dv.U
open Go Go.Dv Go.Proofs
set_option maxRecDepth 100000
noncomputable def l_FnConversions (x0 : (List Int)) : Option (Bool) := (Den CC 4 (bodyT CC 4) ⟨tmOf [(0, .sl (.int .u8) x0)] 0 163, [], 0⟩).bind fun r => prjR GG [.bool] r.1

noncomputable def l_c2Long (x0 : (List Int)) : Option (Bool) := (Den CC 7 (bodyT CC 7) ⟨tmOf [(0, .sl (.int .u8) x0)] 0 6, [], 0⟩).bind fun r => prjR GG [.bool] r.1

noncomputable def s_DrawArithmetic (x0 : (List Int)) : Option (Int × TValue × TValue) := (Den CC 13 (bodyT CC 13) ⟨tmOf [(0, .sl (.int .u8) x0)] 0 24, [], 0⟩).bind fun r => prjR GG [(.int .i64), (.st 32), (.st 32)] r.1

noncomputable def i_ToInteger (x0 : TValue) : Option (Int × Bool) := (Den CC 14 (bodyT CC 14) ⟨tmOf [(0, .st 32 x0)] 0 17, [], 0⟩).bind fun r => prjR GG [(.int .i64), .bool] r.1

noncomputable def s_ToInteger (x0 : TValue) : Option (Int × Bool) := (Den CC 15 (bodyT CC 15) ⟨tmOf [(0, .st 32 x0)] 0 25, [], 0⟩).bind fun r => prjR GG [(.int .i64), .bool] r.1

noncomputable def i_ToText (x0 : TValue) : Option ((List UInt8) × Bool) := (Den CC 16 (bodyT CC 16) ⟨tmOf [(0, .st 32 x0)] 0 21, [], 0⟩).bind fun r => prjR GG [.str, .bool] r.1

noncomputable def l_FnConversions_L14 : Option (Bool) := (Den CC 4 (lbl CC 4 14) ⟨tmOf [] 0 163, [], 0⟩).bind fun r => prjR GG [.bool] r.1

noncomputable def l_FnConversions_L15 (x0 : Int) (x1 : Int) (x2 : Int) (x3 : Int) (x4 : (List UInt8)) (x5 : Int) (x6 : Int) (x7 : Int) (x8 : (List UInt8)) (x9 : Int) (x10 : Int) (x11 : Int) (x12 : (List UInt8)) (x13 : Int) : Option (Bool) := (Den CC 4 (lbl CC 4 15) ⟨tmOf [(4, .ref 0 0), (5, .ref 1 0), (6, .int .i64 x0), (8, .int .i64 x1), (14, .ref 2 0)] 0 163, [.box 33 [.int .i64 x2, .int .i64 x3, .str x4, .int .i64 x5] false, .box 33 [.int .i64 x6, .int .i64 x7, .str x8, .int .i64 x9] false, .box 33 [.int .i64 x10, .int .i64 x11, .str x12, .int .i64 x13] false], 0⟩).bind fun r => prjR GG [.bool] r.1

noncomputable def s_l00Src_one (x0 : Int) (x1 : (List Int)) (x2 : Int) (x3 : Int) : Option ((Bool) × (((List Int) × Int × Int × Unit) × Unit)) := (Den CC 26 (bodyT CC 26) ⟨tmOf [(0, .ref 0 0), (1, .int .i64 x0)] 0 9, [.box 87 [.sl (.int .u8) x1, .int .i64 x2, .int .u64 x3] false], 1⟩).bind fun r => prjRB GG [.bool] [[.im (.sl (.int .u8)), .im (.int .i64), .im (.int .u64)]] r

noncomputable def s_l00Src_text (x0 : (List (List UInt8))) (x1 : (List Int)) (x2 : Int) (x3 : Int) : Option (((List UInt8)) × (((List Int) × Int × Int × Unit) × Unit)) := (Den CC 28 (bodyT CC 28) ⟨tmOf [(0, .ref 0 0), (1, .sl .str x0)] 0 12, [.box 87 [.sl (.int .u8) x1, .int .i64 x2, .int .u64 x3] false], 1⟩).bind fun r => prjRB GG [.str] [[.im (.sl (.int .u8)), .im (.int .i64), .im (.int .u64)]] r

noncomputable def s_l00Src_pick (x0 : Int) (x1 : (List Int)) (x2 : Int) (x3 : Int) : Option ((Int) × (((List Int) × Int × Int × Unit) × Unit)) := (Den CC 27 (bodyT CC 27) ⟨tmOf [(0, .ref 0 0), (1, .int .i64 x0)] 0 20, [.box 87 [.sl (.int .u8) x1, .int .i64 x2, .int .u64 x3] false], 1⟩).bind fun r => prjRB GG [(.int .i64)] [[.im (.sl (.int .u8)), .im (.int .i64), .im (.int .u64)]] r

noncomputable def s_l00Src_among (x0 : (List Int)) (x1 : (List Int)) (x2 : Int) (x3 : Int) : Option ((Int) × (((List Int) × Int × Int × Unit) × Unit)) := (Den CC 38 (bodyT CC 38) ⟨tmOf [(0, .ref 0 0), (1, .sl (.int .i64) x0)] 0 12, [.box 87 [.sl (.int .u8) x1, .int .i64 x2, .int .u64 x3] false], 1⟩).bind fun r => prjRB GG [(.int .i64)] [[.im (.sl (.int .u8)), .im (.int .i64), .im (.int .u64)]] r

noncomputable def s_l10Value (x0 : (List Int)) (x1 : Int) (x2 : Int) : Option ((TValue) × (((List Int) × Int × Int × Unit) × Unit)) := (Den CC 39 (bodyT CC 39) ⟨tmOf [(0, .ref 0 0)] 0 31, [.box 87 [.sl (.int .u8) x0, .int .i64 x1, .int .u64 x2] false], 1⟩).bind fun r => prjRB GG [(.st 32)] [[.im (.sl (.int .u8)), .im (.int .i64), .im (.int .u64)]] r

noncomputable def i_ValidValue (x0 : TValue) : Option (Bool) := (Den CC 40 (bodyT CC 40) ⟨tmOf [(0, .st 32 x0)] 0 80, [], 0⟩).bind fun r => prjR GG [.bool] r.1

noncomputable def i_Value_integer (x0 : TValue) : Option (Int × Bool) := (Den CC 41 (bodyT CC 41) ⟨tmOf [(0, .st 32 x0)] 0 49, [], 0⟩).bind fun r => prjR GG [(.int .i64), .bool] r.1

noncomputable def s_ValidValue (x0 : TValue) : Option (Bool) := (Den CC 42 (bodyT CC 42) ⟨tmOf [(0, .st 32 x0)] 0 55, [], 0⟩).bind fun r => prjR GG [.bool] r.1

noncomputable def s_IsNull (x0 : TValue) : Option (Bool) := (Den CC 43 (bodyT CC 43) ⟨tmOf [(0, .st 32 x0)] 0 6, [], 0⟩).bind fun r => prjR GG [.bool] r.1

noncomputable def s_l10Digits (x0 : (List UInt8)) : Option (Int × Bool) := (Den CC 44 (bodyT CC 44) ⟨tmOf [(0, .str x0)] 0 63, [], 0⟩).bind fun r => prjR GG [(.int .i64), .bool] r.1

noncomputable def i_decimal (x0 : Int) : Option ((List UInt8)) := (Den CC 45 (bodyT CC 45) ⟨tmOf [(0, .int .i64 x0)] 0 5, [], 0⟩).bind fun r => prjR GG [.str] r.1

noncomputable def i_Arithmetic (x0 : Int) (x1 : TValue) (x2 : TValue) : Option (TValue × Int) := (Den CC 17 (bodyT CC 17) ⟨tmOf [(0, .int .i64 x0), (1, .st 32 x1), (2, .st 32 x2)] 0 76, [], 0⟩).bind fun r => prjR GG [(.st 32), (.int .i64)] r.1

noncomputable def l_FnConversions_L20 (x0 : Int) (x1 : Int) (x2 : Int) (x3 : Int) (x4 : (List UInt8)) (x5 : Int) (x6 : Int) (x7 : Int) (x8 : (List UInt8)) (x9 : Int) : Option (Bool) := (Den CC 4 (lbl CC 4 20) ⟨tmOf [(4, .ref 0 0), (5, .ref 1 0), (6, .int .i64 x0), (8, .int .i64 x1)] 0 163, [.box 33 [.int .i64 x2, .int .i64 x3, .str x4, .int .i64 x5] false, .box 33 [.int .i64 x6, .int .i64 x7, .str x8, .int .i64 x9] false], 0⟩).bind fun r => prjR GG [.bool] r.1

noncomputable def i_checkValues (x0 : (List TValue)) : Option (Int) := (Den CC 46 (bodyT CC 46) ⟨tmOf [(0, .sl (.st 32) x0)] 0 6, [], 0⟩).bind fun r => prjR GG [(.int .i64)] r.1

noncomputable def i_within (x0 : Int) (x1 : Int) (x2 : Int) : Option (Bool) := (Den CC 47 (bodyT CC 47) ⟨tmOf [(0, .int .i64 x0), (1, .int .i64 x1), (2, .int .i64 x2)] 0 15, [], 0⟩).bind fun r => prjR GG [.bool] r.1

noncomputable def i_unless (x0 : Bool) (x1 : Int) : Option (Int) := (Den CC 37 (bodyT CC 37) ⟨tmOf [(0, .bool x0), (1, .int .i64 x1)] 0 7, [], 0⟩).bind fun r => prjR GG [(.int .i64)] r.1

noncomputable def i_first (x0 : (List Int)) : Option (Int) := (Den CC 36 (bodyT CC 36) ⟨tmOf [(0, .sl (.int .i64) x0)] 0 15, [], 0⟩).bind fun r => prjR GG [(.int .i64)] r.1

noncomputable def i_integers (x0 : TValue) (x1 : TValue) : Option (Int × Int × Int) := (Den CC 48 (bodyT CC 48) ⟨tmOf [(0, .st 32 x0), (1, .st 32 x1)] 0 28, [], 0⟩).bind fun r => prjR GG [(.int .i64), (.int .i64), (.int .i64)] r.1

noncomputable def s_l00In (x0 : Int) (x1 : Int) (x2 : Int) : Option (Bool) := (Den CC 52 (bodyT CC 52) ⟨tmOf [(0, .int .i64 x0), (1, .int .i64 x1), (2, .int .i64 x2)] 0 15, [], 0⟩).bind fun r => prjR GG [.bool] r.1

noncomputable def s_l00Src_next (x0 : (List Int)) (x1 : Int) (x2 : Int) : Option ((Int) × (((List Int) × Int × Int × Unit) × Unit)) := (Den CC 64 (bodyT CC 64) ⟨tmOf [(0, .ref 0 0)] 0 62, [.box 87 [.sl (.int .u8) x0, .int .i64 x1, .int .u64 x2] false], 1⟩).bind fun r => prjRB GG [(.int .i64)] [[.im (.sl (.int .u8)), .im (.int .i64), .im (.int .u64)]] r

noncomputable def s_l06Draw (x0 : (List Int)) (x1 : Int) (x2 : Int) : Option ((TValue) × (((List Int) × Int × Int × Unit) × Unit)) := (Den CC 74 (bodyT CC 74) ⟨tmOf [(0, .ref 0 0)] 0 84, [.box 87 [.sl (.int .u8) x0, .int .i64 x1, .int .u64 x2] false], 1⟩).bind fun r => prjRB GG [(.st 32)] [[.im (.sl (.int .u8)), .im (.int .i64), .im (.int .u64)]] r

noncomputable def s_l06Text (x0 : (List Int)) (x1 : Int) (x2 : Int) : Option (((List UInt8)) × (((List Int) × Int × Int × Unit) × Unit)) := (Den CC 75 (bodyT CC 75) ⟨tmOf [(0, .ref 0 0)] 0 10, [.box 87 [.sl (.int .u8) x0, .int .i64 x1, .int .u64 x2] false], 1⟩).bind fun r => prjRB GG [.str] [[.im (.sl (.int .u8)), .im (.int .i64), .im (.int .u64)]] r

noncomputable def i_ValidValue_L11 (x0 : Int) (x1 : Int) (x2 : (List UInt8)) (x3 : Int) : Option (Bool) := (Den CC 40 (lbl CC 40 11) ⟨tmOf [(1, .ref 0 0)] 0 80, [.box 33 [.int .i64 x0, .int .i64 x1, .str x2, .int .i64 x3] false], 0⟩).bind fun r => prjR GG [.bool] r.1

noncomputable def i_ValidValue_L12 (x0 : Int) (x1 : Int) (x2 : Int) (x3 : (List UInt8)) (x4 : Int) : Option (Bool) := (Den CC 40 (lbl CC 40 12) ⟨tmOf [(1, .ref 0 0), (4, .int .i64 x0)] 0 80, [.box 33 [.int .i64 x1, .int .i64 x2, .str x3, .int .i64 x4] false], 0⟩).bind fun r => prjR GG [.bool] r.1

noncomputable def i_IsNull (x0 : TValue) : Option (Bool) := (Den CC 77 (bodyT CC 77) ⟨tmOf [(0, .st 32 x0)] 0 6, [], 0⟩).bind fun r => prjR GG [.bool] r.1

noncomputable def strings_CutPrefix (x0 : (List UInt8)) (x1 : (List UInt8)) : Option ((List UInt8) × Bool) := (Den CC 78 (bodyT CC 78) ⟨tmOf [(0, .str x0), (1, .str x1)] 0 11, [], 0⟩).bind fun r => prjR GG [.str, .bool] r.1

noncomputable def strings_TrimPrefix (x0 : (List UInt8)) (x1 : (List UInt8)) : Option ((List UInt8)) := (Den CC 79 (bodyT CC 79) ⟨tmOf [(0, .str x0), (1, .str x1)] 0 8, [], 0⟩).bind fun r => prjR GG [.str] r.1

noncomputable def i_Value_integer_L11 : Option (Int × Bool) := (Den CC 41 (lbl CC 41 11) ⟨tmOf [] 0 49, [], 0⟩).bind fun r => prjR GG [(.int .i64), .bool] r.1

noncomputable def i_areAll_byte__i_isDigit (x0 : (List Int)) : Option (Bool) := (Den CC 65 (bodyT CC 65) ⟨tmOf [(0, .sl (.int .u8) x0), (1, .fn 70 [])] 0 18, [], 0⟩).bind fun r => prjR GG [.bool] r.1

noncomputable def i_Value_integer_L12 (x0 : (List UInt8)) (x1 : Bool) : Option (Int × Bool) := (Den CC 41 (lbl CC 41 12) ⟨tmOf [(4, .str x0), (5, .bool x1)] 0 49, [], 0⟩).bind fun r => prjR GG [(.int .i64), .bool] r.1

noncomputable def s_l06Plain (x0 : TValue) (x1 : Bool) (x2 : Bool) (x3 : Bool) : Option (Bool) := (Den CC 80 (bodyT CC 80) ⟨tmOf [(0, .st 32 x0), (1, .bool x1), (2, .bool x2), (3, .bool x3)] 0 31, [], 0⟩).bind fun r => prjR GG [.bool] r.1

noncomputable def s_ValidValue_L11 (x0 : Int) (x1 : Int) (x2 : (List UInt8)) (x3 : Int) : Option (Bool) := (Den CC 42 (lbl CC 42 11) ⟨tmOf [(1, .ref 0 0)] 0 55, [.box 33 [.int .i64 x0, .int .i64 x1, .str x2, .int .i64 x3] false], 0⟩).bind fun r => prjR GG [.bool] r.1

noncomputable def s_ValidValue_L12 (x0 : Int) (x1 : Int) (x2 : Int) (x3 : (List UInt8)) (x4 : Int) : Option (Bool) := (Den CC 42 (lbl CC 42 12) ⟨tmOf [(1, .ref 0 0), (4, .int .i64 x0)] 0 55, [.box 33 [.int .i64 x1, .int .i64 x2, .str x3, .int .i64 x4] false], 0⟩).bind fun r => prjR GG [.bool] r.1

noncomputable def s_l10Digits_L3 (x0 : (List UInt8)) : Option (Int × Bool) := (Den CC 44 (lbl CC 44 3) ⟨tmOf [(0, .str x0)] 0 63, [], 0⟩).bind fun r => prjR GG [(.int .i64), .bool] r.1

noncomputable def s_l10Digits_L4 (x0 : (List UInt8)) (x1 : Int) : Option (Int × Bool) := (Den CC 44 (lbl CC 44 4) ⟨tmOf [(0, .str x0), (4, .int .i64 x1)] 0 63, [], 0⟩).bind fun r => prjR GG [(.int .i64), .bool] r.1

noncomputable def i_bounded (x0 : Int) : Option (TValue × Int) := (Den CC 49 (bodyT CC 49) ⟨tmOf [(0, .int .i64 x0)] 0 14, [], 0⟩).bind fun r => prjR GG [(.st 32), (.int .i64)] r.1

noncomputable def i_product (x0 : Int) (x1 : Int) : Option (TValue × Int) := (Den CC 50 (bodyT CC 50) ⟨tmOf [(0, .int .i64 x0), (1, .int .i64 x1)] 0 29, [], 0⟩).bind fun r => prjR GG [(.st 32), (.int .i64)] r.1

noncomputable def i_areAll_impl_Value__i_ValidValue (x0 : (List TValue)) : Option (Bool) := (Den CC 83 (bodyT CC 83) ⟨tmOf [(0, .sl (.st 32) x0), (1, .fn 40 [])] 0 18, [], 0⟩).bind fun r => prjR GG [.bool] r.1

noncomputable def i_first_L2 (x0 : (List Int)) (x1 : Int) (x2 : Int) : Option (Int) := (Den CC 36 (lbl CC 36 2) ⟨tmOf [(5, .sl (.int .i64) x0), (6, .int .i64 x1), (7, .int .i64 x2)] 0 15, [], 0⟩).bind fun r => prjR GG [(.int .i64)] r.1

noncomputable def i_isLetter (x0 : Int) : Option (Bool) := (Den CC 68 (bodyT CC 68) ⟨tmOf [(0, .int .u8 x0)] 0 17, [], 0⟩).bind fun r => prjR GG [.bool] r.1

noncomputable def i_isDigit (x0 : Int) : Option (Bool) := (Den CC 70 (bodyT CC 70) ⟨tmOf [(0, .int .u8 x0)] 0 9, [], 0⟩).bind fun r => prjR GG [.bool] r.1

noncomputable def s_l06Draw_L13 (x0 : (List Int)) (x1 : Int) (x2 : Int) (x3 : Int) (x4 : Int) (x5 : (List UInt8)) (x6 : Int) (x7 : Int) (x8 : Int) (x9 : (List UInt8)) (x10 : Int) : Option ((TValue) × (((List Int) × Int × Int × Unit) × Unit)) := (Den CC 74 (lbl CC 74 13) ⟨tmOf [(0, .ref 0 0), (2, .ref 1 0), (3, .ref 2 0)] 0 84, [.box 87 [.sl (.int .u8) x0, .int .i64 x1, .int .u64 x2] false, .box 33 [.int .i64 x3, .int .i64 x4, .str x5, .int .i64 x6] false, .box 33 [.int .i64 x7, .int .i64 x8, .str x9, .int .i64 x10] false], 1⟩).bind fun r => prjRB GG [(.st 32)] [[.im (.sl (.int .u8)), .im (.int .i64), .im (.int .u64)]] r

noncomputable def s_l06Name (x0 : (List Int)) (x1 : Int) (x2 : Int) : Option (((List UInt8)) × (((List Int) × Int × Int × Unit) × Unit)) := (Den CC 93 (bodyT CC 93) ⟨tmOf [(0, .ref 0 0)] 0 6, [.box 87 [.sl (.int .u8) x0, .int .i64 x1, .int .u64 x2] false], 1⟩).bind fun r => prjRB GG [.str] [[.im (.sl (.int .u8)), .im (.int .i64), .im (.int .u64)]] r

noncomputable def s_l00Src_word (x0 : Int) (x1 : (List Int)) (x2 : Int) (x3 : Int) : Option (((List UInt8)) × (((List Int) × Int × Int × Unit) × Unit)) := (Den CC 94 (bodyT CC 94) ⟨tmOf [(0, .ref 0 0), (1, .int .i64 x0)] 0 23, [.box 87 [.sl (.int .u8) x1, .int .i64 x2, .int .u64 x3] false], 1⟩).bind fun r => prjRB GG [.str] [[.im (.sl (.int .u8)), .im (.int .i64), .im (.int .u64)]] r

noncomputable def i_isObjectId (x0 : Int) : Option (Bool) := (Den CC 76 (bodyT CC 76) ⟨tmOf [(0, .int .i64 x0)] 0 5, [], 0⟩).bind fun r => prjR GG [.bool] r.1

noncomputable def i_IsName (x0 : (List UInt8)) : Option (Bool) := (Den CC 61 (bodyT CC 61) ⟨tmOf [(0, .str x0)] 0 21, [], 0⟩).bind fun r => prjR GG [.bool] r.1

noncomputable def i_null : Option (TValue) := (Den CC 95 (bodyT CC 95) ⟨tmOf [] 0 2, [], 0⟩).bind fun r => prjR GG [(.st 32)] r.1

noncomputable def internal_stringslite_CutPrefix (x0 : (List UInt8)) (x1 : (List UInt8)) : Option ((List UInt8) × Bool) := (Den CC 96 (bodyT CC 96) ⟨tmOf [(0, .str x0), (1, .str x1)] 0 15, [], 0⟩).bind fun r => prjR GG [.str, .bool] r.1

noncomputable def internal_stringslite_TrimPrefix (x0 : (List UInt8)) (x1 : (List UInt8)) : Option ((List UInt8)) := (Den CC 97 (bodyT CC 97) ⟨tmOf [(0, .str x0), (1, .str x1)] 0 13, [], 0⟩).bind fun r => prjR GG [.str] r.1

noncomputable def i_areAll_byte_L2__i_isDigit (x0 : (List Int)) (x1 : Int) (x2 : Int) : Option (Bool) := (Den CC 65 (lbl CC 65 2) ⟨tmOf [(1, .fn 70 []), (7, .sl (.int .u8) x0), (8, .int .i64 x1), (9, .int .i64 x2)] 0 18, [], 0⟩).bind fun r => prjR GG [.bool] r.1

noncomputable def s_IsName (x0 : (List UInt8)) : Option (Bool) := (Den CC 81 (bodyT CC 81) ⟨tmOf [(0, .str x0)] 0 17, [], 0⟩).bind fun r => prjR GG [.bool] r.1

noncomputable def s_l10Digits_L8 (x0 : (List UInt8)) (x1 : Int) (x2 : Int) : Option (Int × Bool) := (Den CC 44 (lbl CC 44 8) ⟨tmOf [(0, .str x0), (5, .int .i64 x1), (6, .int .i64 x2)] 0 63, [], 0⟩).bind fun r => prjR GG [(.int .i64), .bool] r.1

noncomputable def i_IntegerValue (x0 : Int) : Option (TValue × Bool) := (Den CC 84 (bodyT CC 84) ⟨tmOf [(0, .int .i64 x0)] 0 11, [], 0⟩).bind fun r => prjR GG [(.st 32), .bool] r.1

noncomputable def i_magnitude (x0 : Int) : Option (Int) := (Den CC 86 (bodyT CC 86) ⟨tmOf [(0, .int .i64 x0)] 0 8, [], 0⟩).bind fun r => prjR GG [(.int .u64)] r.1

noncomputable def math_bits_Mul64 (x0 : Int) (x1 : Int) : Option (Int × Int) := (Den CC 85 (bodyT CC 85) ⟨tmOf [(0, .int .u64 x0), (1, .int .u64 x1)] 0 51, [], 0⟩).bind fun r => prjR GG [(.int .u64), (.int .u64)] r.1

noncomputable def i_areAll_impl_Value_L2__i_ValidValue (x0 : (List TValue)) (x1 : Int) (x2 : Int) : Option (Bool) := (Den CC 83 (lbl CC 83 2) ⟨tmOf [(1, .fn 40 []), (7, .sl (.st 32) x0), (8, .int .i64 x1), (9, .int .i64 x2)] 0 18, [], 0⟩).bind fun r => prjR GG [.bool] r.1

noncomputable def s_l06Draw_L27 (x0 : (List Int)) (x1 : Int) (x2 : Int) (x3 : Int) (x4 : Int) (x5 : (List UInt8)) (x6 : Int) (x7 : Int) (x8 : Int) (x9 : (List UInt8)) (x10 : Int) : Option ((TValue) × (((List Int) × Int × Int × Unit) × Unit)) := (Den CC 74 (lbl CC 74 27) ⟨tmOf [(2, .ref 1 0), (3, .ref 2 0)] 0 84, [.box 87 [.sl (.int .u8) x0, .int .i64 x1, .int .u64 x2] false, .box 33 [.int .i64 x3, .int .i64 x4, .str x5, .int .i64 x6] false, .box 33 [.int .i64 x7, .int .i64 x8, .str x9, .int .i64 x10] false], 1⟩).bind fun r => prjRB GG [(.st 32)] [[.im (.sl (.int .u8)), .im (.int .i64), .im (.int .u64)]] r

noncomputable def s_l06Draw_L25 (x0 : (List Int)) (x1 : Int) (x2 : Int) (x3 : Int) (x4 : Int) (x5 : (List UInt8)) (x6 : Int) (x7 : Int) (x8 : Int) (x9 : (List UInt8)) (x10 : Int) : Option ((TValue) × (((List Int) × Int × Int × Unit) × Unit)) := (Den CC 74 (lbl CC 74 25) ⟨tmOf [(2, .ref 1 0), (3, .ref 2 0)] 0 84, [.box 87 [.sl (.int .u8) x0, .int .i64 x1, .int .u64 x2] false, .box 33 [.int .i64 x3, .int .i64 x4, .str x5, .int .i64 x6] false, .box 33 [.int .i64 x7, .int .i64 x8, .str x9, .int .i64 x10] false], 1⟩).bind fun r => prjRB GG [(.st 32)] [[.im (.sl (.int .u8)), .im (.int .i64), .im (.int .u64)]] r

noncomputable def s_l00Src_word_L3 (x0 : Int) (x1 : (List Int)) (x2 : Int) (x3 : Int) (x4 : (List Int)) : Option (((List UInt8)) × (((List Int) × Int × Int × Unit) × Unit)) := (Den CC 94 (lbl CC 94 3) ⟨tmOf [(0, .ref 0 0), (5, .arr 1), (6, .int .i64 x0)] 0 23, [.box 87 [.sl (.int .u8) x1, .int .i64 x2, .int .u64 x3] false, .arr 5 (.int .u8) x4 false], 1⟩).bind fun r => prjRB GG [.str] [[.im (.sl (.int .u8)), .im (.int .i64), .im (.int .u64)]] r

noncomputable def i_areAll_byte__i_isNameByte (x0 : (List Int)) : Option (Bool) := (Den CC 65 (bodyT CC 65) ⟨tmOf [(0, .sl (.int .u8) x0), (1, .fn 69 [])] 0 18, [], 0⟩).bind fun r => prjR GG [.bool] r.1

noncomputable def i_textOf (x0 : (List UInt8)) : Option (TValue) := (Den CC 111 (bodyT CC 111) ⟨tmOf [(0, .str x0)] 0 5, [], 0⟩).bind fun r => prjR GG [(.st 32)] r.1

noncomputable def internal_stringslite_HasPrefix (x0 : (List UInt8)) (x1 : (List UInt8)) : Option (Bool) := (Den CC 112 (bodyT CC 112) ⟨tmOf [(0, .str x0), (1, .str x1)] 0 18, [], 0⟩).bind fun r => prjR GG [.bool] r.1

noncomputable def s_l02NameEnd (x0 : (List UInt8)) (x1 : Int) : Option (Int) := (Den CC 98 (bodyT CC 98) ⟨tmOf [(0, .str x0), (1, .int .i64 x1)] 0 42, [], 0⟩).bind fun r => prjR GG [(.int .i64)] r.1

noncomputable def i_numberOf (x0 : Int) : Option (TValue) := (Den CC 100 (bodyT CC 100) ⟨tmOf [(0, .int .i64 x0)] 0 5, [], 0⟩).bind fun r => prjR GG [(.st 32)] r.1

noncomputable def s_l02Letter (x0 : Int) : Option (Bool) := (Den CC 101 (bodyT CC 101) ⟨tmOf [(0, .int .u8 x0)] 0 17, [], 0⟩).bind fun r => prjR GG [.bool] r.1

noncomputable def s_l02Digit (x0 : Int) : Option (Bool) := (Den CC 102 (bodyT CC 102) ⟨tmOf [(0, .int .u8 x0)] 0 9, [], 0⟩).bind fun r => prjR GG [.bool] r.1

noncomputable def i_isNameByte (x0 : Int) : Option (Bool) := (Den CC 69 (bodyT CC 69) ⟨tmOf [(0, .int .u8 x0)] 0 13, [], 0⟩).bind fun r => prjR GG [.bool] r.1

noncomputable def i_areAll_byte_L2__i_isNameByte (x0 : (List Int)) (x1 : Int) (x2 : Int) : Option (Bool) := (Den CC 65 (lbl CC 65 2) ⟨tmOf [(1, .fn 69 []), (7, .sl (.int .u8) x0), (8, .int .i64 x1), (9, .int .i64 x2)] 0 18, [], 0⟩).bind fun r => prjR GG [.bool] r.1

noncomputable def s_l02NameEnd_L3 (x0 : (List UInt8)) (x1 : Int) : Option (Int) := (Den CC 98 (lbl CC 98 3) ⟨tmOf [(0, .str x0), (1, .int .i64 x1)] 0 42, [], 0⟩).bind fun r => prjR GG [(.int .i64)] r.1

noncomputable def s_l02NameEnd_L4 (x0 : (List UInt8)) (x1 : Int) : Option (Int) := (Den CC 98 (lbl CC 98 4) ⟨tmOf [(0, .str x0), (1, .int .i64 x1)] 0 42, [], 0⟩).bind fun r => prjR GG [(.int .i64)] r.1

noncomputable def s_l02NameEnd_L5 (x0 : Int) : Option (Int) := (Den CC 98 (lbl CC 98 5) ⟨tmOf [(1, .int .i64 x0)] 0 42, [], 0⟩).bind fun r => prjR GG [(.int .i64)] r.1

theorem l_FnConversions_eq (x0 : (List Int)) : l_FnConversions x0 = (l_c2Long x0).bind fun r200 => if r200 = true then some (true) else (s_DrawArithmetic x0).bind fun r198 => (i_ToInteger (Prod.fst (Prod.snd r198))).bind fun r197 => (i_ToInteger (Prod.snd (Prod.snd r198))).bind fun r196 => if (!Prod.snd r197) = true then (s_ToInteger (Prod.fst (Prod.snd r198))).bind fun r194 => (s_ToInteger (Prod.snd (Prod.snd r198))).bind fun r193 => if (Prod.snd r197 == Prod.snd r194) = true then some (Prod.snd r196 == Prod.snd r193) else some (false) else if (!Prod.snd r196) = true then (s_ToInteger (Prod.fst (Prod.snd r198))).bind fun r193 => (s_ToInteger (Prod.snd (Prod.snd r198))).bind fun r192 => if (Prod.snd r197 == Prod.snd r193) = true then some (Prod.snd r196 == Prod.snd r192) else some (false) else (i_ToText (TValue.mk (Int.ofNat 2) (Prod.fst r197) [] (Int.ofNat 0))).bind fun r193 => (i_ToInteger (TValue.mk (Int.ofNat 1) (Int.ofNat 0) (Prod.fst r193) (Int.ofNat 0))).bind fun r192 => if (!Prod.snd r193) = true then l_FnConversions_L14 else if (!Prod.snd r192) = true then l_FnConversions_L14 else if (Prod.fst r192 != Prod.fst r197) = true then l_FnConversions_L14 else l_FnConversions_L15 (Prod.fst r197) (Prod.fst r196) (TValue.fKind (Prod.fst (Prod.snd r198))) (TValue.fNum (Prod.fst (Prod.snd r198))) (TValue.fText (Prod.fst (Prod.snd r198))) (TValue.fRef (Prod.fst (Prod.snd r198))) (TValue.fKind (Prod.snd (Prod.snd r198))) (TValue.fNum (Prod.snd (Prod.snd r198))) (TValue.fText (Prod.snd (Prod.snd r198))) (TValue.fRef (Prod.snd (Prod.snd r198))) 2 (Prod.fst r197) [] 0 :=
  (den_run CC 4 (bodyT CC 4) ⟨tmOf [(0, .sl (.int .u8) x0)] 0 163, [], 0⟩ fun r => prjR GG [.bool] r.1).trans (by kernel_rfl)

theorem l_c2Long_eq (x0 : (List Int)) : l_c2Long x0 = some (decide (len x0 > 1048576)) :=
  (den_run CC 7 (bodyT CC 7) ⟨tmOf [(0, .sl (.int .u8) x0)] 0 6, [], 0⟩ fun r => prjR GG [.bool] r.1).trans (by kernel_rfl)

theorem s_DrawArithmetic_eq (x0 : (List Int)) : s_DrawArithmetic x0 = (s_l00Src_pick 4 x0 0 0).bind fun r200 => (s_l00Src_one 20 (Prod.fst (Prod.fst (Prod.snd r200))) (Prod.fst (Prod.snd (Prod.fst (Prod.snd r200)))) (Prod.fst (Prod.snd (Prod.snd (Prod.fst (Prod.snd r200)))))).bind fun r199 => if (Prod.fst r199) = true then (s_l00Src_among ([0, 7, 12, -1]) (Prod.fst (Prod.fst (Prod.snd r199))) (Prod.fst (Prod.snd (Prod.fst (Prod.snd r199)))) (Prod.fst (Prod.snd (Prod.snd (Prod.fst (Prod.snd r199)))))).bind fun r197 => (s_l10Value (Prod.fst (Prod.fst (Prod.snd r197))) (Prod.fst (Prod.snd (Prod.fst (Prod.snd r197)))) (Prod.fst (Prod.snd (Prod.snd (Prod.fst (Prod.snd r197)))))).bind fun r196 => (s_l10Value (Prod.fst (Prod.fst (Prod.snd r196))) (Prod.fst (Prod.snd (Prod.fst (Prod.snd r196)))) (Prod.fst (Prod.snd (Prod.snd (Prod.fst (Prod.snd r196)))))).bind fun r195 => some ((Prod.fst r197), (Prod.fst r196), (Prod.fst r195)) else (s_l10Value (Prod.fst (Prod.fst (Prod.snd r199))) (Prod.fst (Prod.snd (Prod.fst (Prod.snd r199)))) (Prod.fst (Prod.snd (Prod.snd (Prod.fst (Prod.snd r199)))))).bind fun r197 => (s_l10Value (Prod.fst (Prod.fst (Prod.snd r197))) (Prod.fst (Prod.snd (Prod.fst (Prod.snd r197)))) (Prod.fst (Prod.snd (Prod.snd (Prod.fst (Prod.snd r197)))))).bind fun r196 => some ((w64 (8 + Prod.fst r200)), (Prod.fst r197), (Prod.fst r196)) :=
  (den_run CC 13 (bodyT CC 13) ⟨tmOf [(0, .sl (.int .u8) x0)] 0 24, [], 0⟩ fun r => prjR GG [(.int .i64), (.st 32), (.st 32)] r.1).trans (by kernel_rfl)

theorem i_ToInteger_eq (x0 : TValue) : i_ToInteger x0 = (i_ValidValue x0).bind fun r200 => if (!r200) = true then some (0, (false)) else (i_Value_integer x0).bind fun r198 => if (!Prod.snd r198) = true then some (0, (false)) else some ((Prod.fst r198), (true)) :=
  (den_run CC 14 (bodyT CC 14) ⟨tmOf [(0, .st 32 x0)] 0 17, [], 0⟩ fun r => prjR GG [(.int .i64), .bool] r.1).trans (by kernel_rfl)

theorem s_ToInteger_eq (x0 : TValue) : s_ToInteger x0 = (s_ValidValue x0).bind fun r200 => if (!r200) = true then some (0, (false)) else if (x0.fKind == 2) = true then some (x0.fNum, (true)) else (s_IsNull x0).bind fun r197 => if r197 = true then some (0, (true)) else if (x0.fKind == 1) = true then (s_l10Digits x0.fText).bind fun r194 => some ((Prod.fst r194), (Prod.snd r194)) else some (0, (false)) :=
  (den_run CC 15 (bodyT CC 15) ⟨tmOf [(0, .st 32 x0)] 0 25, [], 0⟩ fun r => prjR GG [(.int .i64), .bool] r.1).trans (by kernel_rfl)

theorem i_ToText_eq (x0 : TValue) : i_ToText x0 = (i_ValidValue x0).bind fun r200 => if (!r200) = true then some ([], (false)) else if (x0.fKind == 1) = true then some (x0.fText, (true)) else if (x0.fKind == 2) = true then (i_decimal x0.fNum).bind fun r196 => some ((r196), (true)) else some ([], (false)) :=
  (den_run CC 16 (bodyT CC 16) ⟨tmOf [(0, .st 32 x0)] 0 21, [], 0⟩ fun r => prjR GG [.str, .bool] r.1).trans (by kernel_rfl)

theorem l_FnConversions_L15_eq (x0 : Int) (x1 : Int) (x2 : Int) (x3 : Int) (x4 : (List UInt8)) (x5 : Int) (x6 : Int) (x7 : Int) (x8 : (List UInt8)) (x9 : Int) (x10 : Int) (x11 : Int) (x12 : (List UInt8)) (x13 : Int) : l_FnConversions_L15 x0 x1 x2 x3 x4 x5 x6 x7 x8 x9 x10 x11 x12 x13 = (i_Arithmetic 8 (TValue.mk x2 x3 x4 x5) (TValue.mk x6 x7 x8 x9)).bind fun r200 => if (Prod.snd r200 == 0) = true then (i_Arithmetic 9 (Prod.fst r200) (TValue.mk x6 x7 x8 x9)).bind fun r198 => if (Prod.snd r198 != 0) = true then some (false) else if (!(TValue.fKind (Prod.fst r198) == x10 && (TValue.fNum (Prod.fst r198) == x11 && (TValue.fText (Prod.fst r198) == x12 && (TValue.fRef (Prod.fst r198) == x13 && true))))) = true then some (false) else l_FnConversions_L20 x0 x1 x2 x3 x4 x5 x6 x7 x8 x9 else l_FnConversions_L20 x0 x1 x2 x3 x4 x5 x6 x7 x8 x9 :=
  (den_run CC 4 (lbl CC 4 15) ⟨tmOf [(4, .ref 0 0), (5, .ref 1 0), (6, .int .i64 x0), (8, .int .i64 x1), (14, .ref 2 0)] 0 163, [.box 33 [.int .i64 x2, .int .i64 x3, .str x4, .int .i64 x5] false, .box 33 [.int .i64 x6, .int .i64 x7, .str x8, .int .i64 x9] false, .box 33 [.int .i64 x10, .int .i64 x11, .str x12, .int .i64 x13] false], 0⟩ fun r => prjR GG [.bool] r.1).trans (by kernel_rfl)

theorem s_l00Src_one_eq (x0 : Int) (x1 : (List Int)) (x2 : Int) (x3 : Int) : s_l00Src_one x0 x1 x2 x3 = (s_l00Src_pick x0 x1 x2 x3).bind fun r200 => some (((Prod.fst r200 == 0)), (((Prod.fst (Prod.fst (Prod.snd r200))), (Prod.fst (Prod.snd (Prod.fst (Prod.snd r200)))), (Prod.fst (Prod.snd (Prod.snd (Prod.fst (Prod.snd r200))))), ()), ())) :=
  (den_run CC 26 (bodyT CC 26) ⟨tmOf [(0, .ref 0 0), (1, .int .i64 x0)] 0 9, [.box 87 [.sl (.int .u8) x1, .int .i64 x2, .int .u64 x3] false], 1⟩ fun r => prjRB GG [.bool] [[.im (.sl (.int .u8)), .im (.int .i64), .im (.int .u64)]] r).trans (by kernel_rfl)

theorem s_l00Src_text_eq (x0 : (List (List UInt8))) (x1 : (List Int)) (x2 : Int) (x3 : Int) : s_l00Src_text x0 x1 x2 x3 = (s_l00Src_pick (len x0) x1 x2 x3).bind fun r200 => ((idx x0 (Prod.fst r200)) : Option (List UInt8)).bind fun y199 => some ((y199), (((Prod.fst (Prod.fst (Prod.snd r200))), (Prod.fst (Prod.snd (Prod.fst (Prod.snd r200)))), (Prod.fst (Prod.snd (Prod.snd (Prod.fst (Prod.snd r200))))), ()), ())) :=
  (den_run CC 28 (bodyT CC 28) ⟨tmOf [(0, .ref 0 0), (1, .sl .str x0)] 0 12, [.box 87 [.sl (.int .u8) x1, .int .i64 x2, .int .u64 x3] false], 1⟩ fun r => prjRB GG [.str] [[.im (.sl (.int .u8)), .im (.int .i64), .im (.int .u64)]] r).trans (by kernel_rfl)

theorem s_l00Src_pick_eq (x0 : Int) (x1 : (List Int)) (x2 : Int) (x3 : Int) : s_l00Src_pick x0 x1 x2 x3 = if (decide (x0 ≤ 1)) = true then some ((0), (((x1), (x2), (x3), ()), ())) else (s_l00Src_next x1 x2 x3).bind fun r199 => if (decide (x0 > 200)) = true then (s_l00Src_next (Prod.fst (Prod.fst (Prod.snd r199))) (Prod.fst (Prod.snd (Prod.fst (Prod.snd r199)))) (Prod.fst (Prod.snd (Prod.snd (Prod.fst (Prod.snd r199)))))).bind fun r197 => ((rem (w64 (w64 (Prod.fst r199 * 256) + Prod.fst r197)) x0) : Option Int).bind fun y196 => some ((y196), (((Prod.fst (Prod.fst (Prod.snd r197))), (Prod.fst (Prod.snd (Prod.fst (Prod.snd r197)))), (Prod.fst (Prod.snd (Prod.snd (Prod.fst (Prod.snd r197))))), ()), ())) else ((rem (Prod.fst r199) x0) : Option Int).bind fun y197 => some ((y197), (((Prod.fst (Prod.fst (Prod.snd r199))), (Prod.fst (Prod.snd (Prod.fst (Prod.snd r199)))), (Prod.fst (Prod.snd (Prod.snd (Prod.fst (Prod.snd r199))))), ()), ())) :=
  (den_run CC 27 (bodyT CC 27) ⟨tmOf [(0, .ref 0 0), (1, .int .i64 x0)] 0 20, [.box 87 [.sl (.int .u8) x1, .int .i64 x2, .int .u64 x3] false], 1⟩ fun r => prjRB GG [(.int .i64)] [[.im (.sl (.int .u8)), .im (.int .i64), .im (.int .u64)]] r).trans (by kernel_rfl)

theorem s_l00Src_among_eq (x0 : (List Int)) (x1 : (List Int)) (x2 : Int) (x3 : Int) : s_l00Src_among x0 x1 x2 x3 = (s_l00Src_pick (len x0) x1 x2 x3).bind fun r200 => ((idx x0 (Prod.fst r200)) : Option Int).bind fun y199 => some ((y199), (((Prod.fst (Prod.fst (Prod.snd r200))), (Prod.fst (Prod.snd (Prod.fst (Prod.snd r200)))), (Prod.fst (Prod.snd (Prod.snd (Prod.fst (Prod.snd r200))))), ()), ())) :=
  (den_run CC 38 (bodyT CC 38) ⟨tmOf [(0, .ref 0 0), (1, .sl (.int .i64) x0)] 0 12, [.box 87 [.sl (.int .u8) x1, .int .i64 x2, .int .u64 x3] false], 1⟩ fun r => prjRB GG [(.int .i64)] [[.im (.sl (.int .u8)), .im (.int .i64), .im (.int .u64)]] r).trans (by kernel_rfl)

theorem s_l10Value_eq (x0 : (List Int)) (x1 : Int) (x2 : Int) : s_l10Value x0 x1 x2 = (s_l00Src_pick 8 x0 x1 x2).bind fun r200 => if (Prod.fst r200 == 0) = true then (s_l06Draw (Prod.fst (Prod.fst (Prod.snd r200))) (Prod.fst (Prod.snd (Prod.fst (Prod.snd r200)))) (Prod.fst (Prod.snd (Prod.snd (Prod.fst (Prod.snd r200)))))).bind fun r198 => some (((Prod.fst r198)), (((Prod.fst (Prod.fst (Prod.snd r198))), (Prod.fst (Prod.snd (Prod.fst (Prod.snd r198)))), (Prod.fst (Prod.snd (Prod.snd (Prod.fst (Prod.snd r198))))), ()), ())) else if (Prod.fst r200 == 1) = true then (s_l00Src_text ([[], [48], [55], [45, 55], [43, 55], [48, 48, 55], [49, 48, 48, 48, 48, 48, 48, 48, 48, 48, 48, 48, 48], [45, 49, 48, 48, 48, 48, 48, 48, 48, 48, 48, 48, 48, 49], [57, 57, 57, 57, 57, 57, 57, 57, 57, 57, 57, 57, 57], [48, 48, 48, 48, 48, 48, 48, 48, 48, 48, 48, 48, 48, 48], [43], [45], [49, 32], [97], [49, 50, 120]]) (Prod.fst (Prod.fst (Prod.snd r200))) (Prod.fst (Prod.snd (Prod.fst (Prod.snd r200)))) (Prod.fst (Prod.snd (Prod.snd (Prod.fst (Prod.snd r200)))))).bind fun r197 => some (((TValue.mk (Int.ofNat 1) (Int.ofNat 0) (Prod.fst r197) (Int.ofNat 0))), (((Prod.fst (Prod.fst (Prod.snd r197))), (Prod.fst (Prod.snd (Prod.fst (Prod.snd r197)))), (Prod.fst (Prod.snd (Prod.snd (Prod.fst (Prod.snd r197))))), ()), ())) else if (Prod.fst r200 == 2) = true then (s_l00Src_text ([[], [48], [55], [45, 55], [43, 55], [48, 48, 55], [49, 48, 48, 48, 48, 48, 48, 48, 48, 48, 48, 48, 48], [45, 49, 48, 48, 48, 48, 48, 48, 48, 48, 48, 48, 48, 49], [57, 57, 57, 57, 57, 57, 57, 57, 57, 57, 57, 57, 57], [48, 48, 48, 48, 48, 48, 48, 48, 48, 48, 48, 48, 48, 48], [43], [45], [49, 32], [97], [49, 50, 120]]) (Prod.fst (Prod.fst (Prod.snd r200))) (Prod.fst (Prod.snd (Prod.fst (Prod.snd r200)))) (Prod.fst (Prod.snd (Prod.snd (Prod.fst (Prod.snd r200)))))).bind fun r196 => some (((TValue.mk (Int.ofNat 1) (Int.ofNat 0) (Prod.fst r196) (Int.ofNat 0))), (((Prod.fst (Prod.fst (Prod.snd r196))), (Prod.fst (Prod.snd (Prod.fst (Prod.snd r196)))), (Prod.fst (Prod.snd (Prod.snd (Prod.fst (Prod.snd r196))))), ()), ())) else if (Prod.fst r200 == 3) = true then (s_l06Text (Prod.fst (Prod.fst (Prod.snd r200))) (Prod.fst (Prod.snd (Prod.fst (Prod.snd r200)))) (Prod.fst (Prod.snd (Prod.snd (Prod.fst (Prod.snd r200)))))).bind fun r195 => some (((TValue.mk (Int.ofNat 1) (Int.ofNat 0) (Prod.fst r195) (Int.ofNat 0))), (((Prod.fst (Prod.fst (Prod.snd r195))), (Prod.fst (Prod.snd (Prod.fst (Prod.snd r195)))), (Prod.fst (Prod.snd (Prod.snd (Prod.fst (Prod.snd r195))))), ()), ())) else if (Prod.fst r200 == 4) = true then (s_l00Src_among ([1000000000000, -1000000000000, 1000000, -1000000, 1000001, 500000000000]) (Prod.fst (Prod.fst (Prod.snd r200))) (Prod.fst (Prod.snd (Prod.fst (Prod.snd r200)))) (Prod.fst (Prod.snd (Prod.snd (Prod.fst (Prod.snd r200)))))).bind fun r194 => some (((TValue.mk (Int.ofNat 2) (Prod.fst r194) [] (Int.ofNat 0))), (((Prod.fst (Prod.fst (Prod.snd r194))), (Prod.fst (Prod.snd (Prod.fst (Prod.snd r194)))), (Prod.fst (Prod.snd (Prod.snd (Prod.fst (Prod.snd r194))))), ()), ())) else (s_l00Src_pick 40 (Prod.fst (Prod.fst (Prod.snd r200))) (Prod.fst (Prod.snd (Prod.fst (Prod.snd r200)))) (Prod.fst (Prod.snd (Prod.snd (Prod.fst (Prod.snd r200)))))).bind fun r194 => some (((TValue.mk (Int.ofNat 2) (Decidable.rec (fun (h : ¬(Go.IntKind.signed Go.IntKind.i64 && decide ((Prod.fst r194 - 20) % 2 ^ Go.IntKind.bits Go.IntKind.i64 ≥ 2 ^ (Go.IntKind.bits Go.IntKind.i64 - 1))) = true) ↦ (Prod.fst r194 - 20) % 2 ^ Go.IntKind.bits Go.IntKind.i64) (fun (h : (Go.IntKind.signed Go.IntKind.i64 && decide ((Prod.fst r194 - 20) % 2 ^ Go.IntKind.bits Go.IntKind.i64 ≥ 2 ^ (Go.IntKind.bits Go.IntKind.i64 - 1))) = true) ↦ (Prod.fst r194 - 20) % 2 ^ Go.IntKind.bits Go.IntKind.i64 - 2 ^ Go.IntKind.bits Go.IntKind.i64) (instDecidableEqBool (Go.IntKind.signed Go.IntKind.i64 && decide ((Prod.fst r194 - 20) % 2 ^ Go.IntKind.bits Go.IntKind.i64 ≥ 2 ^ (Go.IntKind.bits Go.IntKind.i64 - 1))) true)) [] (Int.ofNat 0))), (((Prod.fst (Prod.fst (Prod.snd r194))), (Prod.fst (Prod.snd (Prod.fst (Prod.snd r194)))), (Prod.fst (Prod.snd (Prod.snd (Prod.fst (Prod.snd r194))))), ()), ())) :=
  (den_run CC 39 (bodyT CC 39) ⟨tmOf [(0, .ref 0 0)] 0 31, [.box 87 [.sl (.int .u8) x0, .int .i64 x1, .int .u64 x2] false], 1⟩ fun r => prjRB GG [(.st 32)] [[.im (.sl (.int .u8)), .im (.int .i64), .im (.int .u64)]] r).trans (by kernel_rfl)

theorem i_ValidValue_eq (x0 : TValue) : i_ValidValue x0 = if (x0.fKind == 1) = true then if (x0.fKind == 1 && (x0.fNum == 0 && (x0.fText == x0.fText && (x0.fRef == 0 && true)))) = true then some (decide (len x0.fText ≤ 200)) else some (false) else if (x0.fKind == 2) = true then if (x0.fKind == 2 && (x0.fNum == x0.fNum && (x0.fText == [] && (x0.fRef == 0 && true)))) = true then (i_within x0.fNum (-1000000000000) 1000000000000).bind fun r197 => some r197 else some (false) else if (x0.fKind == 3) = true then if (x0.fKind == 3 && (x0.fNum == 0 && (x0.fText == x0.fText && (x0.fRef == 0 && true)))) = true then if (decide (len x0.fText ≥ 1)) = true then some (decide (len x0.fText ≤ 1200)) else some (false) else some (false) else if (x0.fKind == 4) = true then i_ValidValue_L11 x0.fKind x0.fNum x0.fText x0.fRef else if (x0.fKind == 5) = true then i_ValidValue_L11 x0.fKind x0.fNum x0.fText x0.fRef else if (x0.fKind == 6) = true then i_ValidValue_L11 x0.fKind x0.fNum x0.fText x0.fRef else i_ValidValue_L12 x0.fKind x0.fKind x0.fNum x0.fText x0.fRef :=
  (den_run CC 40 (bodyT CC 40) ⟨tmOf [(0, .st 32 x0)] 0 80, [], 0⟩ fun r => prjR GG [.bool] r.1).trans (by kernel_rfl)

theorem i_Value_integer_eq (x0 : TValue) : i_Value_integer x0 = if (x0.fKind == 2) = true then some (x0.fNum, (true)) else (i_IsNull x0).bind fun r199 => if r199 = true then some (0, (true)) else if (x0.fKind != 1) = true then some (0, (false)) else (strings_CutPrefix x0.fText [45]).bind fun r196 => if (!Prod.snd r196) = true then (strings_TrimPrefix (Prod.fst r196) [43]).bind fun r194 => if (r194 == []) = true then i_Value_integer_L11 else (i_areAll_byte__i_isDigit (List.map (fun (b : UInt8) ↦ ib b) r194)).bind fun r192 => if (!r192) = true then i_Value_integer_L11 else i_Value_integer_L12 r194 (Prod.snd r196) else if (Prod.fst r196 == []) = true then i_Value_integer_L11 else (i_areAll_byte__i_isDigit (List.map (fun (b : UInt8) ↦ ib b) (Prod.fst r196))).bind fun r193 => if (!r193) = true then i_Value_integer_L11 else i_Value_integer_L12 (Prod.fst r196) (Prod.snd r196) :=
  (den_run CC 41 (bodyT CC 41) ⟨tmOf [(0, .st 32 x0)] 0 49, [], 0⟩ fun r => prjR GG [(.int .i64), .bool] r.1).trans (by kernel_rfl)

theorem s_ValidValue_eq (x0 : TValue) : s_ValidValue x0 = if (x0.fKind == 1) = true then (s_l06Plain x0 (false) (true) (false)).bind fun r199 => if r199 = true then some (decide (len x0.fText ≤ 200)) else some (false) else if (x0.fKind == 2) = true then (s_l06Plain x0 (true) (false) (false)).bind fun r198 => if r198 = true then (s_l00In x0.fNum (-1000000000000) 1000000000000).bind fun r196 => some r196 else some (false) else if (x0.fKind == 3) = true then (s_l06Plain x0 (false) (true) (false)).bind fun r197 => if r197 = true then (s_l00In (len x0.fText) 1 1200).bind fun r195 => some r195 else some (false) else if (x0.fKind == 4) = true then s_ValidValue_L11 x0.fKind x0.fNum x0.fText x0.fRef else if (x0.fKind == 5) = true then s_ValidValue_L11 x0.fKind x0.fNum x0.fText x0.fRef else if (x0.fKind == 6) = true then s_ValidValue_L11 x0.fKind x0.fNum x0.fText x0.fRef else s_ValidValue_L12 x0.fKind x0.fKind x0.fNum x0.fText x0.fRef :=
  (den_run CC 42 (bodyT CC 42) ⟨tmOf [(0, .st 32 x0)] 0 55, [], 0⟩ fun r => prjR GG [.bool] r.1).trans (by kernel_rfl)

theorem s_IsNull_eq (x0 : TValue) : s_IsNull x0 = some (x0.fKind == 1 && (x0.fNum == 0 && (x0.fText == [] && (x0.fRef == 0 && true)))) :=
  (den_run CC 43 (bodyT CC 43) ⟨tmOf [(0, .st 32 x0)] 0 6, [], 0⟩ fun r => prjR GG [.bool] r.1).trans (by kernel_rfl)

theorem s_l10Digits_eq (x0 : (List UInt8)) : s_l10Digits x0 = if (!x0 == []) = true then ((idx x0 0) : Option UInt8).bind fun y199 => if (ib y199 == 43) = true then s_l10Digits_L3 x0 else ((idx x0 0) : Option UInt8).bind fun y197 => if (ib y197 == 45) = true then s_l10Digits_L3 x0 else s_l10Digits_L4 x0 0 else s_l10Digits_L4 x0 0 :=
  (den_run CC 44 (bodyT CC 44) ⟨tmOf [(0, .str x0)] 0 63, [], 0⟩ fun r => prjR GG [(.int .i64), .bool] r.1).trans (by kernel_rfl)

theorem i_decimal_eq (x0 : Int) : i_decimal x0 = ((itoaS x0 10) : Option (List UInt8)).bind fun y200 => some y200 :=
  (den_run CC 45 (bodyT CC 45) ⟨tmOf [(0, .int .i64 x0)] 0 5, [], 0⟩ fun r => prjR GG [.str] r.1).trans (by kernel_rfl)

theorem i_Arithmetic_eq (x0 : Int) (x1 : TValue) (x2 : TValue) : i_Arithmetic x0 x1 x2 = (i_checkValues ([x1, x2])).bind fun r200 => (i_within x0 8 11).bind fun r199 => (i_unless r199 1).bind fun r198 => (i_first ([r200, r198])).bind fun r197 => if (r197 != 0) = true then some ((TValue.mk (Int.ofNat 0) (Int.ofNat 0) [] (Int.ofNat 0)), r197) else (i_integers x1 x2).bind fun r195 => if (x0 != 11) = true then (i_unless (true) 8).bind fun r193 => (i_first ([Prod.snd (Prod.snd r195), r193])).bind fun r192 => if (r192 != 0) = true then some ((TValue.mk (Int.ofNat 0) (Int.ofNat 0) [] (Int.ofNat 0)), r192) else if (x0 == 8) = true then (i_bounded (w64 (Prod.fst r195 + Prod.fst (Prod.snd r195)))).bind fun r189 => some ((Prod.fst r189), (Prod.snd r189)) else if (x0 == 9) = true then (i_bounded (w64 (Prod.fst r195 - Prod.fst (Prod.snd r195)))).bind fun r188 => some ((Prod.fst r188), (Prod.snd r188)) else if (x0 == 10) = true then (i_product (Prod.fst r195) (Prod.fst (Prod.snd r195))).bind fun r187 => some ((Prod.fst r187), (Prod.snd r187)) else ((quo Go.IntKind.i64 (Prod.fst r195) (Prod.fst (Prod.snd r195))) : Option Int).bind fun y187 => (i_bounded y187).bind fun r186 => some ((Prod.fst r186), (Prod.snd r186)) else (i_unless (Prod.fst (Prod.snd r195) != 0) 8).bind fun r193 => (i_first ([Prod.snd (Prod.snd r195), r193])).bind fun r192 => if (r192 != 0) = true then some ((TValue.mk (Int.ofNat 0) (Int.ofNat 0) [] (Int.ofNat 0)), r192) else if (x0 == 8) = true then (i_bounded (w64 (Prod.fst r195 + Prod.fst (Prod.snd r195)))).bind fun r189 => some ((Prod.fst r189), (Prod.snd r189)) else if (x0 == 9) = true then (i_bounded (w64 (Prod.fst r195 - Prod.fst (Prod.snd r195)))).bind fun r188 => some ((Prod.fst r188), (Prod.snd r188)) else if (x0 == 10) = true then (i_product (Prod.fst r195) (Prod.fst (Prod.snd r195))).bind fun r187 => some ((Prod.fst r187), (Prod.snd r187)) else ((quo Go.IntKind.i64 (Prod.fst r195) (Prod.fst (Prod.snd r195))) : Option Int).bind fun y187 => (i_bounded y187).bind fun r186 => some ((Prod.fst r186), (Prod.snd r186)) :=
  (den_run CC 17 (bodyT CC 17) ⟨tmOf [(0, .int .i64 x0), (1, .st 32 x1), (2, .st 32 x2)] 0 76, [], 0⟩ fun r => prjR GG [(.st 32), (.int .i64)] r.1).trans (by kernel_rfl)

theorem l_FnConversions_L20_eq (x0 : Int) (x1 : Int) (x2 : Int) (x3 : Int) (x4 : (List UInt8)) (x5 : Int) (x6 : Int) (x7 : Int) (x8 : (List UInt8)) (x9 : Int) : l_FnConversions_L20 x0 x1 x2 x3 x4 x5 x6 x7 x8 x9 = (i_Arithmetic 11 (TValue.mk x2 x3 x4 x5) (TValue.mk x6 x7 x8 x9)).bind fun r200 => if (x1 == 0) = true then some (Prod.snd r200 == 8) else (i_Arithmetic 10 (Prod.fst r200) (TValue.mk x6 x7 x8 x9)).bind fun r198 => if (Prod.snd r200 == 0) = true then if (Prod.snd r198 == 0) = true then if (w64 (x0 - TValue.fNum (Prod.fst r198)) != 0) = true then if (decide (w64 (x0 - TValue.fNum (Prod.fst r198)) < 0) == decide (x0 < 0)) = true then some (decide ((if w64 (0 - w64 (x0 - TValue.fNum (Prod.fst r198))) > w64 (x0 - TValue.fNum (Prod.fst r198)) then w64 (0 - w64 (x0 - TValue.fNum (Prod.fst r198))) else w64 (x0 - TValue.fNum (Prod.fst r198))) < if w64 (0 - x1) > x1 then w64 (0 - x1) else x1)) else some (false) else if (decide (w64 (x0 - TValue.fNum (Prod.fst r198)) < 0) == false) = true then some (decide ((if w64 (0 - w64 (x0 - TValue.fNum (Prod.fst r198))) > w64 (x0 - TValue.fNum (Prod.fst r198)) then w64 (0 - w64 (x0 - TValue.fNum (Prod.fst r198))) else w64 (x0 - TValue.fNum (Prod.fst r198))) < if w64 (0 - x1) > x1 then w64 (0 - x1) else x1)) else some (false) else some (false) else some (false) :=
  (den_run CC 4 (lbl CC 4 20) ⟨tmOf [(4, .ref 0 0), (5, .ref 1 0), (6, .int .i64 x0), (8, .int .i64 x1)] 0 163, [.box 33 [.int .i64 x2, .int .i64 x3, .str x4, .int .i64 x5] false, .box 33 [.int .i64 x6, .int .i64 x7, .str x8, .int .i64 x9] false], 0⟩ fun r => prjR GG [.bool] r.1).trans (by kernel_rfl)

theorem i_checkValues_eq (x0 : (List TValue)) : i_checkValues x0 = (i_areAll_impl_Value__i_ValidValue x0).bind fun r200 => (i_unless r200 1).bind fun r199 => some r199 :=
  (den_run CC 46 (bodyT CC 46) ⟨tmOf [(0, .sl (.st 32) x0)] 0 6, [], 0⟩ fun r => prjR GG [(.int .i64)] r.1).trans (by kernel_rfl)

theorem i_within_eq (x0 : Int) (x1 : Int) (x2 : Int) : i_within x0 x1 x2 = if (decide (x0 ≥ x1)) = true then some (decide (x0 ≤ x2)) else some (false) :=
  (den_run CC 47 (bodyT CC 47) ⟨tmOf [(0, .int .i64 x0), (1, .int .i64 x1), (2, .int .i64 x2)] 0 15, [], 0⟩ fun r => prjR GG [.bool] r.1).trans (by kernel_rfl)

theorem i_unless_eq (x0 : Bool) (x1 : Int) : i_unless x0 x1 = if x0 = true then some 0 else some x1 :=
  (den_run CC 37 (bodyT CC 37) ⟨tmOf [(0, .bool x0), (1, .int .i64 x1)] 0 7, [], 0⟩ fun r => prjR GG [(.int .i64)] r.1).trans (by kernel_rfl)

theorem i_first_eq (x0 : (List Int)) : i_first x0 = i_first_L2 x0 (len x0) 0 :=
  (den_run CC 36 (bodyT CC 36) ⟨tmOf [(0, .sl (.int .i64) x0)] 0 15, [], 0⟩ fun r => prjR GG [(.int .i64)] r.1).trans (by kernel_rfl)

theorem i_integers_eq (x0 : TValue) (x1 : TValue) : i_integers x0 x1 = (i_Value_integer x0).bind fun r200 => (i_Value_integer x1).bind fun r199 => if (Prod.snd r200) = true then (i_unless (Prod.snd r199) 4).bind fun r197 => some ((Prod.fst r200), (Prod.fst r199), r197) else (i_unless (false) 4).bind fun r197 => some ((Prod.fst r200), (Prod.fst r199), r197) :=
  (den_run CC 48 (bodyT CC 48) ⟨tmOf [(0, .st 32 x0), (1, .st 32 x1)] 0 28, [], 0⟩ fun r => prjR GG [(.int .i64), (.int .i64), (.int .i64)] r.1).trans (by kernel_rfl)

theorem s_l00In_eq (x0 : Int) (x1 : Int) (x2 : Int) : s_l00In x0 x1 x2 = if (decide (x0 ≥ x1)) = true then some (decide (x0 ≤ x2)) else some (false) :=
  (den_run CC 52 (bodyT CC 52) ⟨tmOf [(0, .int .i64 x0), (1, .int .i64 x1), (2, .int .i64 x2)] 0 15, [], 0⟩ fun r => prjR GG [.bool] r.1).trans (by kernel_rfl)

theorem s_l00Src_next_eq (x0 : (List Int)) (x1 : Int) (x2 : Int) : s_l00Src_next x0 x1 x2 = if (decide (x1 < len x0)) = true then ((idx x0 x1) : Option Int).bind fun y199 => if (decide (w64 (x1 + 1) ≤ len x0)) = true then some (((w64 y199)), (((x0), (w64 (x1 + 1)), (Go.IntKind.wrap Go.IntKind.u64 (Go.IntKind.wrap Go.IntKind.u64 (Go.IntKind.wrap Go.IntKind.u64 (x2 * 6364136223846793005) + Go.IntKind.wrap Go.IntKind.u64 (w64 y199)) + 1442695040888963407)), ()), ())) else ((shr Go.IntKind.u64 (Go.IntKind.wrap Go.IntKind.u64 (Go.IntKind.wrap Go.IntKind.u64 (Go.IntKind.wrap Go.IntKind.u64 (x2 * 6364136223846793005) + Go.IntKind.wrap Go.IntKind.u64 (w64 y199)) + 1442695040888963407)) 40) : Option Int).bind fun y197 => some (((w64 (bitsOp Go.BinOp.and Go.IntKind.u64 y197 255))), (((x0), (w64 (x1 + 1)), (Go.IntKind.wrap Go.IntKind.u64 (Go.IntKind.wrap Go.IntKind.u64 (Go.IntKind.wrap Go.IntKind.u64 (x2 * 6364136223846793005) + Go.IntKind.wrap Go.IntKind.u64 (w64 y199)) + 1442695040888963407)), ()), ())) else if (decide (w64 (x1 + 1) ≤ len x0)) = true then some ((0), (((x0), (w64 (x1 + 1)), (Go.IntKind.wrap Go.IntKind.u64 (Go.IntKind.wrap Go.IntKind.u64 (Go.IntKind.wrap Go.IntKind.u64 (x2 * 6364136223846793005) + Go.IntKind.wrap Go.IntKind.u64 0) + 1442695040888963407)), ()), ())) else ((shr Go.IntKind.u64 (Go.IntKind.wrap Go.IntKind.u64 (Go.IntKind.wrap Go.IntKind.u64 (Go.IntKind.wrap Go.IntKind.u64 (x2 * 6364136223846793005) + Go.IntKind.wrap Go.IntKind.u64 0) + 1442695040888963407)) 40) : Option Int).bind fun y198 => some (((w64 (bitsOp Go.BinOp.and Go.IntKind.u64 y198 255))), (((x0), (w64 (x1 + 1)), (Go.IntKind.wrap Go.IntKind.u64 (Go.IntKind.wrap Go.IntKind.u64 (Go.IntKind.wrap Go.IntKind.u64 (x2 * 6364136223846793005) + Go.IntKind.wrap Go.IntKind.u64 0) + 1442695040888963407)), ()), ())) :=
  (den_run CC 64 (bodyT CC 64) ⟨tmOf [(0, .ref 0 0)] 0 62, [.box 87 [.sl (.int .u8) x0, .int .i64 x1, .int .u64 x2] false], 1⟩ fun r => prjRB GG [(.int .i64)] [[.im (.sl (.int .u8)), .im (.int .i64), .im (.int .u64)]] r).trans (by kernel_rfl)

theorem s_l06Draw_eq (x0 : (List Int)) (x1 : Int) (x2 : Int) : s_l06Draw x0 x1 x2 = (s_l00Src_pick 8 x0 x1 x2).bind fun r200 => if (w64 (1 + Prod.fst r200) == 1) = true then (s_l06Text (Prod.fst (Prod.fst (Prod.snd r200))) (Prod.fst (Prod.snd (Prod.fst (Prod.snd r200)))) (Prod.fst (Prod.snd (Prod.snd (Prod.fst (Prod.snd r200)))))).bind fun r198 => s_l06Draw_L13 (Prod.fst (Prod.fst (Prod.snd r198))) (Prod.fst (Prod.snd (Prod.fst (Prod.snd r198)))) (Prod.fst (Prod.snd (Prod.snd (Prod.fst (Prod.snd r198))))) 0 0 [] 0 (w64 (1 + Prod.fst r200)) 0 (Prod.fst r198) 0 else if (w64 (1 + Prod.fst r200) == 2) = true then (s_l00Src_pick 100000 (Prod.fst (Prod.fst (Prod.snd r200))) (Prod.fst (Prod.snd (Prod.fst (Prod.snd r200)))) (Prod.fst (Prod.snd (Prod.snd (Prod.fst (Prod.snd r200)))))).bind fun r197 => (s_l00Src_pick 1000 (Prod.fst (Prod.fst (Prod.snd r197))) (Prod.fst (Prod.snd (Prod.fst (Prod.snd r197)))) (Prod.fst (Prod.snd (Prod.snd (Prod.fst (Prod.snd r197)))))).bind fun r196 => (s_l00Src_among ([0, 1, -1, 7, 42, -300, 1000000000000, -1000000000000, Prod.fst r197, w64 (0 - Prod.fst r196)]) (Prod.fst (Prod.fst (Prod.snd r196))) (Prod.fst (Prod.snd (Prod.fst (Prod.snd r196)))) (Prod.fst (Prod.snd (Prod.snd (Prod.fst (Prod.snd r196)))))).bind fun r195 => s_l06Draw_L13 (Prod.fst (Prod.fst (Prod.snd r195))) (Prod.fst (Prod.snd (Prod.fst (Prod.snd r195)))) (Prod.fst (Prod.snd (Prod.snd (Prod.fst (Prod.snd r195))))) 0 0 [] 0 (w64 (1 + Prod.fst r200)) (Prod.fst r195) [] 0 else if (w64 (1 + Prod.fst r200) == 3) = true then (s_l00Src_text ([[114, 101, 109], [97, 114, 98], [108, 101, 110, 40, 51, 41], [99, 97, 116, 40, 34, 97, 34, 44, 114, 101, 109, 41], [97, 108, 116, 40, 34, 120, 34, 44, 115, 112, 97, 110, 40, 34, 97, 98, 34, 41, 41]]) (Prod.fst (Prod.fst (Prod.snd r200))) (Prod.fst (Prod.snd (Prod.fst (Prod.snd r200)))) (Prod.fst (Prod.snd (Prod.snd (Prod.fst (Prod.snd r200)))))).bind fun r196 => s_l06Draw_L13 (Prod.fst (Prod.fst (Prod.snd r196))) (Prod.fst (Prod.snd (Prod.fst (Prod.snd r196)))) (Prod.fst (Prod.snd (Prod.snd (Prod.fst (Prod.snd r196))))) 0 0 [] 0 (w64 (1 + Prod.fst r200)) 0 (Prod.fst r196) 0 else if (w64 (1 + Prod.fst r200) == 7) = true then (s_l06Name (Prod.fst (Prod.fst (Prod.snd r200))) (Prod.fst (Prod.snd (Prod.fst (Prod.snd r200)))) (Prod.fst (Prod.snd (Prod.snd (Prod.fst (Prod.snd r200)))))).bind fun r195 => s_l06Draw_L13 (Prod.fst (Prod.fst (Prod.snd r195))) (Prod.fst (Prod.snd (Prod.fst (Prod.snd r195)))) (Prod.fst (Prod.snd (Prod.snd (Prod.fst (Prod.snd r195))))) 0 0 [] 0 (w64 (1 + Prod.fst r200)) 0 (Prod.fst r195) 0 else if (w64 (1 + Prod.fst r200) == 8) = true then (s_l06Name (Prod.fst (Prod.fst (Prod.snd r200))) (Prod.fst (Prod.snd (Prod.fst (Prod.snd r200)))) (Prod.fst (Prod.snd (Prod.snd (Prod.fst (Prod.snd r200)))))).bind fun r194 => s_l06Draw_L13 (Prod.fst (Prod.fst (Prod.snd r194))) (Prod.fst (Prod.snd (Prod.fst (Prod.snd r194)))) (Prod.fst (Prod.snd (Prod.snd (Prod.fst (Prod.snd r194))))) 0 0 [] 0 (w64 (1 + Prod.fst r200)) 0 (Prod.fst r194) 0 else (s_l00Src_pick 9 (Prod.fst (Prod.fst (Prod.snd r200))) (Prod.fst (Prod.snd (Prod.fst (Prod.snd r200)))) (Prod.fst (Prod.snd (Prod.snd (Prod.fst (Prod.snd r200)))))).bind fun r194 => s_l06Draw_L13 (Prod.fst (Prod.fst (Prod.snd r194))) (Prod.fst (Prod.snd (Prod.fst (Prod.snd r194)))) (Prod.fst (Prod.snd (Prod.snd (Prod.fst (Prod.snd r194))))) 0 0 [] 0 (w64 (1 + Prod.fst r200)) 0 [] (w64 (1 + Prod.fst r194)) :=
  (den_run CC 74 (bodyT CC 74) ⟨tmOf [(0, .ref 0 0)] 0 84, [.box 87 [.sl (.int .u8) x0, .int .i64 x1, .int .u64 x2] false], 1⟩ fun r => prjRB GG [(.st 32)] [[.im (.sl (.int .u8)), .im (.int .i64), .im (.int .u64)]] r).trans (by kernel_rfl)

theorem s_l06Text_eq (x0 : (List Int)) (x1 : Int) (x2 : Int) : s_l06Text x0 x1 x2 = (s_l00Src_one 3 x0 x1 x2).bind fun r200 => if (Prod.fst r200) = true then (s_l00Src_text ([[], [97], [97, 98], [49, 50], [45, 55], [34], [97, 34, 98], [105, 116, 39, 115], [32, 32, 120, 32], [10], [48, 48], [104, 101, 108, 108, 111, 32, 119, 111, 114, 108, 100]]) (Prod.fst (Prod.fst (Prod.snd r200))) (Prod.fst (Prod.snd (Prod.fst (Prod.snd r200)))) (Prod.fst (Prod.snd (Prod.snd (Prod.fst (Prod.snd r200)))))).bind fun r198 => some (((Prod.fst r198)), (((Prod.fst (Prod.fst (Prod.snd r198))), (Prod.fst (Prod.snd (Prod.fst (Prod.snd r198)))), (Prod.fst (Prod.snd (Prod.snd (Prod.fst (Prod.snd r198))))), ()), ())) else (s_l00Src_word 12 (Prod.fst (Prod.fst (Prod.snd r200))) (Prod.fst (Prod.snd (Prod.fst (Prod.snd r200)))) (Prod.fst (Prod.snd (Prod.snd (Prod.fst (Prod.snd r200)))))).bind fun r198 => some (((Prod.fst r198)), (((Prod.fst (Prod.fst (Prod.snd r198))), (Prod.fst (Prod.snd (Prod.fst (Prod.snd r198)))), (Prod.fst (Prod.snd (Prod.snd (Prod.fst (Prod.snd r198))))), ()), ())) :=
  (den_run CC 75 (bodyT CC 75) ⟨tmOf [(0, .ref 0 0)] 0 10, [.box 87 [.sl (.int .u8) x0, .int .i64 x1, .int .u64 x2] false], 1⟩ fun r => prjRB GG [.str] [[.im (.sl (.int .u8)), .im (.int .i64), .im (.int .u64)]] r).trans (by kernel_rfl)

theorem i_ValidValue_L11_eq (x0 : Int) (x1 : Int) (x2 : (List UInt8)) (x3 : Int) : i_ValidValue_L11 x0 x1 x2 x3 = if (x0 == x0 && (x1 == 0 && (x2 == [] && (x3 == x3 && true)))) = true then (i_isObjectId x3).bind fun r199 => some r199 else some (false) :=
  (den_run CC 40 (lbl CC 40 11) ⟨tmOf [(1, .ref 0 0)] 0 80, [.box 33 [.int .i64 x0, .int .i64 x1, .str x2, .int .i64 x3] false], 0⟩ fun r => prjR GG [.bool] r.1).trans (by kernel_rfl)

theorem i_ValidValue_L12_eq (x0 : Int) (x1 : Int) (x2 : Int) (x3 : (List UInt8)) (x4 : Int) : i_ValidValue_L12 x0 x1 x2 x3 x4 = if (x0 == 7) = true then if (x1 == x1 && (x2 == 0 && (x3 == x3 && (x4 == 0 && true)))) = true then (i_IsName x3).bind fun r198 => some r198 else some (false) else if (x0 == 8) = true then if (x1 == x1 && (x2 == 0 && (x3 == x3 && (x4 == 0 && true)))) = true then (i_IsName x3).bind fun r197 => some r197 else some (false) else some (false) :=
  (den_run CC 40 (lbl CC 40 12) ⟨tmOf [(1, .ref 0 0), (4, .int .i64 x0)] 0 80, [.box 33 [.int .i64 x1, .int .i64 x2, .str x3, .int .i64 x4] false], 0⟩ fun r => prjR GG [.bool] r.1).trans (by kernel_rfl)

theorem i_IsNull_eq (x0 : TValue) : i_IsNull x0 = (i_null).bind fun r200 => some (x0.fKind == r200.fKind && (x0.fNum == r200.fNum && (x0.fText == r200.fText && (x0.fRef == r200.fRef && true)))) :=
  (den_run CC 77 (bodyT CC 77) ⟨tmOf [(0, .st 32 x0)] 0 6, [], 0⟩ fun r => prjR GG [.bool] r.1).trans (by kernel_rfl)

theorem strings_CutPrefix_eq (x0 : (List UInt8)) (x1 : (List UInt8)) : strings_CutPrefix x0 x1 = (internal_stringslite_CutPrefix x0 x1).bind fun r200 => some ((Prod.fst r200), (Prod.snd r200)) :=
  (den_run CC 78 (bodyT CC 78) ⟨tmOf [(0, .str x0), (1, .str x1)] 0 11, [], 0⟩ fun r => prjR GG [.str, .bool] r.1).trans (by kernel_rfl)

theorem strings_TrimPrefix_eq (x0 : (List UInt8)) (x1 : (List UInt8)) : strings_TrimPrefix x0 x1 = (internal_stringslite_TrimPrefix x0 x1).bind fun r200 => some r200 :=
  (den_run CC 79 (bodyT CC 79) ⟨tmOf [(0, .str x0), (1, .str x1)] 0 8, [], 0⟩ fun r => prjR GG [.str] r.1).trans (by kernel_rfl)

theorem i_Value_integer_L11_eq : i_Value_integer_L11 = some (0, (false)) :=
  (den_run CC 41 (lbl CC 41 11) ⟨tmOf [] 0 49, [], 0⟩ fun r => prjR GG [(.int .i64), .bool] r.1).trans (by kernel_rfl)

theorem i_areAll_byte__i_isDigit_eq (x0 : (List Int)) : i_areAll_byte__i_isDigit x0 = i_areAll_byte_L2__i_isDigit x0 (len x0) 0 :=
  (den_run CC 65 (bodyT CC 65) ⟨tmOf [(0, .sl (.int .u8) x0), (1, .fn 70 [])] 0 18, [], 0⟩ fun r => prjR GG [.bool] r.1).trans (by kernel_rfl)

theorem i_Value_integer_L12_eq (x0 : (List UInt8)) (x1 : Bool) : i_Value_integer_L12 x0 x1 = ((readIntS x0) : Option (Int × Bool)).bind fun y200 => if x1 = true then some ((w64 (0 - Prod.fst y200)), (Prod.snd y200)) else some ((Prod.fst y200), (Prod.snd y200)) :=
  (den_run CC 41 (lbl CC 41 12) ⟨tmOf [(4, .str x0), (5, .bool x1)] 0 49, [], 0⟩ fun r => prjR GG [(.int .i64), .bool] r.1).trans (by kernel_rfl)

theorem s_l06Plain_eq (x0 : TValue) (x1 : Bool) (x2 : Bool) (x3 : Bool) : s_l06Plain x0 x1 x2 x3 = if x1 = true then if x2 = true then if x3 = true then some (true) else some (x0.fRef == 0) else if (x0.fText == []) = true then if x3 = true then some (true) else some (x0.fRef == 0) else some (false) else if (x0.fNum == 0) = true then if x2 = true then if x3 = true then some (true) else some (x0.fRef == 0) else if (x0.fText == []) = true then if x3 = true then some (true) else some (x0.fRef == 0) else some (false) else some (false) :=
  (den_run CC 80 (bodyT CC 80) ⟨tmOf [(0, .st 32 x0), (1, .bool x1), (2, .bool x2), (3, .bool x3)] 0 31, [], 0⟩ fun r => prjR GG [.bool] r.1).trans (by kernel_rfl)

theorem s_ValidValue_L11_eq (x0 : Int) (x1 : Int) (x2 : (List UInt8)) (x3 : Int) : s_ValidValue_L11 x0 x1 x2 x3 = (s_l06Plain (TValue.mk x0 x1 x2 x3) (false) (false) (true)).bind fun r200 => if r200 = true then (s_l00In x3 1 1000000).bind fun r198 => some r198 else some (false) :=
  (den_run CC 42 (lbl CC 42 11) ⟨tmOf [(1, .ref 0 0)] 0 55, [.box 33 [.int .i64 x0, .int .i64 x1, .str x2, .int .i64 x3] false], 0⟩ fun r => prjR GG [.bool] r.1).trans (by kernel_rfl)

theorem s_ValidValue_L12_eq (x0 : Int) (x1 : Int) (x2 : Int) (x3 : (List UInt8)) (x4 : Int) : s_ValidValue_L12 x0 x1 x2 x3 x4 = if (x0 == 7) = true then (s_l06Plain (TValue.mk x1 x2 x3 x4) (false) (true) (false)).bind fun r199 => if r199 = true then (s_IsName x3).bind fun r197 => some r197 else some (false) else if (x0 == 8) = true then (s_l06Plain (TValue.mk x1 x2 x3 x4) (false) (true) (false)).bind fun r198 => if r198 = true then (s_IsName x3).bind fun r196 => some r196 else some (false) else some (false) :=
  (den_run CC 42 (lbl CC 42 12) ⟨tmOf [(1, .ref 0 0), (4, .int .i64 x0)] 0 55, [.box 33 [.int .i64 x1, .int .i64 x2, .str x3, .int .i64 x4] false], 0⟩ fun r => prjR GG [.bool] r.1).trans (by kernel_rfl)

theorem s_l10Digits_L3_eq (x0 : (List UInt8)) : s_l10Digits_L3 x0 = s_l10Digits_L4 x0 1 :=
  (den_run CC 44 (lbl CC 44 3) ⟨tmOf [(0, .str x0)] 0 63, [], 0⟩ fun r => prjR GG [(.int .i64), .bool] r.1).trans (by kernel_rfl)

theorem s_l10Digits_L4_eq (x0 : (List UInt8)) (x1 : Int) : s_l10Digits_L4 x0 x1 = if (len x0 == x1) = true then some (0, (false)) else if (decide (w64 (len x0 - x1) > 13)) = true then some (0, (false)) else s_l10Digits_L8 x0 0 x1 :=
  (den_run CC 44 (lbl CC 44 4) ⟨tmOf [(0, .str x0), (4, .int .i64 x1)] 0 63, [], 0⟩ fun r => prjR GG [(.int .i64), .bool] r.1).trans (by kernel_rfl)

theorem i_bounded_eq (x0 : Int) : i_bounded x0 = (i_IntegerValue x0).bind fun r200 => (i_unless (Prod.snd r200) 3).bind fun r199 => some ((Prod.fst r200), r199) :=
  (den_run CC 49 (bodyT CC 49) ⟨tmOf [(0, .int .i64 x0)] 0 14, [], 0⟩ fun r => prjR GG [(.st 32), (.int .i64)] r.1).trans (by kernel_rfl)

theorem i_product_eq (x0 : Int) (x1 : Int) : i_product x0 x1 = (i_magnitude x0).bind fun r200 => (i_magnitude x1).bind fun r199 => (math_bits_Mul64 r200 r199).bind fun r198 => if (decide (Prod.fst r198 > 0)) = true then some ((TValue.mk (Int.ofNat 0) (Int.ofNat 0) [] (Int.ofNat 0)), 3) else if (decide (Prod.snd r198 > 1000000000000)) = true then some ((TValue.mk (Int.ofNat 0) (Int.ofNat 0) [] (Int.ofNat 0)), 3) else (i_bounded (w64 (x0 * x1))).bind fun r195 => some ((Prod.fst r195), (Prod.snd r195)) :=
  (den_run CC 50 (bodyT CC 50) ⟨tmOf [(0, .int .i64 x0), (1, .int .i64 x1)] 0 29, [], 0⟩ fun r => prjR GG [(.st 32), (.int .i64)] r.1).trans (by kernel_rfl)

theorem i_areAll_impl_Value__i_ValidValue_eq (x0 : (List TValue)) : i_areAll_impl_Value__i_ValidValue x0 = i_areAll_impl_Value_L2__i_ValidValue x0 (len x0) 0 :=
  (den_run CC 83 (bodyT CC 83) ⟨tmOf [(0, .sl (.st 32) x0), (1, .fn 40 [])] 0 18, [], 0⟩ fun r => prjR GG [.bool] r.1).trans (by kernel_rfl)

theorem i_first_L2_eq (x0 : (List Int)) (x1 : Int) (x2 : Int) : i_first_L2 x0 x1 x2 = if (decide (x2 < x1)) = true then ((idx x0 x2) : Option Int).bind fun y199 => if (y199 != 0) = true then some y199 else i_first_L2 x0 x1 (w64 (x2 + 1)) else some 0 :=
  (den_run CC 36 (lbl CC 36 2) ⟨tmOf [(5, .sl (.int .i64) x0), (6, .int .i64 x1), (7, .int .i64 x2)] 0 15, [], 0⟩ fun r => prjR GG [(.int .i64)] r.1).trans (by kernel_rfl)

theorem i_isLetter_eq (x0 : Int) : i_isLetter x0 = if (decide (x0 ≥ 65)) = true then if (decide (x0 ≤ 90)) = true then some (true) else if (decide (x0 ≥ 97)) = true then some (decide (x0 ≤ 122)) else some (false) else if (decide (x0 ≥ 97)) = true then some (decide (x0 ≤ 122)) else some (false) :=
  (den_run CC 68 (bodyT CC 68) ⟨tmOf [(0, .int .u8 x0)] 0 17, [], 0⟩ fun r => prjR GG [.bool] r.1).trans (by kernel_rfl)

theorem i_isDigit_eq (x0 : Int) : i_isDigit x0 = if (decide (x0 ≥ 48)) = true then some (decide (x0 ≤ 57)) else some (false) :=
  (den_run CC 70 (bodyT CC 70) ⟨tmOf [(0, .int .u8 x0)] 0 9, [], 0⟩ fun r => prjR GG [.bool] r.1).trans (by kernel_rfl)

theorem s_l06Draw_L13_eq (x0 : (List Int)) (x1 : Int) (x2 : Int) (x3 : Int) (x4 : Int) (x5 : (List UInt8)) (x6 : Int) (x7 : Int) (x8 : Int) (x9 : (List UInt8)) (x10 : Int) : s_l06Draw_L13 x0 x1 x2 x3 x4 x5 x6 x7 x8 x9 x10 = (s_l00Src_one 12 x0 x1 x2).bind fun r200 => if (Prod.fst r200) = true then (s_l00Src_pick 6 (Prod.fst (Prod.fst (Prod.snd r200))) (Prod.fst (Prod.snd (Prod.fst (Prod.snd r200)))) (Prod.fst (Prod.snd (Prod.snd (Prod.fst (Prod.snd r200)))))).bind fun r198 => if (Prod.fst r198 == 0) = true then (s_l00Src_among ([0, 9, -1, 2]) (Prod.fst (Prod.fst (Prod.snd r198))) (Prod.fst (Prod.snd (Prod.fst (Prod.snd r198)))) (Prod.fst (Prod.snd (Prod.snd (Prod.fst (Prod.snd r198)))))).bind fun r196 => s_l06Draw_L27 (Prod.fst (Prod.fst (Prod.snd r196))) (Prod.fst (Prod.snd (Prod.fst (Prod.snd r196)))) (Prod.fst (Prod.snd (Prod.snd (Prod.fst (Prod.snd r196))))) x3 x4 x5 x6 (Prod.fst r196) x8 x9 x10 else if (Prod.fst r198 == 1) = true then (s_l00Src_among ([1, 1000000000001, -1000000000001]) (Prod.fst (Prod.fst (Prod.snd r198))) (Prod.fst (Prod.snd (Prod.fst (Prod.snd r198)))) (Prod.fst (Prod.snd (Prod.snd (Prod.fst (Prod.snd r198)))))).bind fun r195 => s_l06Draw_L27 (Prod.fst (Prod.fst (Prod.snd r195))) (Prod.fst (Prod.snd (Prod.fst (Prod.snd r195)))) (Prod.fst (Prod.snd (Prod.snd (Prod.fst (Prod.snd r195))))) x3 x4 x5 x6 x7 (Prod.fst r195) x9 x10 else if (Prod.fst r198 == 2) = true then (s_l00Src_among ([-1, 0, 1000000, 1000001]) (Prod.fst (Prod.fst (Prod.snd r198))) (Prod.fst (Prod.snd (Prod.fst (Prod.snd r198)))) (Prod.fst (Prod.snd (Prod.snd (Prod.fst (Prod.snd r198)))))).bind fun r194 => s_l06Draw_L27 (Prod.fst (Prod.fst (Prod.snd r194))) (Prod.fst (Prod.snd (Prod.fst (Prod.snd r194)))) (Prod.fst (Prod.snd (Prod.snd (Prod.fst (Prod.snd r194))))) x3 x4 x5 x6 x7 x8 x9 (Prod.fst r194) else if (Prod.fst r198 == 3) = true then (s_l06Text (Prod.fst (Prod.fst (Prod.snd r198))) (Prod.fst (Prod.snd (Prod.fst (Prod.snd r198)))) (Prod.fst (Prod.snd (Prod.snd (Prod.fst (Prod.snd r198)))))).bind fun r193 => ((app x9 (Prod.fst r193)) : Option (List UInt8)).bind fun y192 => s_l06Draw_L27 (Prod.fst (Prod.fst (Prod.snd r193))) (Prod.fst (Prod.snd (Prod.fst (Prod.snd r193)))) (Prod.fst (Prod.snd (Prod.snd (Prod.fst (Prod.snd r193))))) x3 x4 x5 x6 x7 x8 y192 x10 else if (Prod.fst r198 == 4) = true then s_l06Draw_L25 (Prod.fst (Prod.fst (Prod.snd r198))) (Prod.fst (Prod.snd (Prod.fst (Prod.snd r198)))) (Prod.fst (Prod.snd (Prod.snd (Prod.fst (Prod.snd r198))))) x3 x4 x5 x6 x7 x8 x9 x10 else s_l06Draw_L27 (Prod.fst (Prod.fst (Prod.snd r198))) (Prod.fst (Prod.snd (Prod.fst (Prod.snd r198)))) (Prod.fst (Prod.snd (Prod.snd (Prod.fst (Prod.snd r198))))) x3 x4 x5 x6 x7 x8 [] x10 else s_l06Draw_L27 (Prod.fst (Prod.fst (Prod.snd r200))) (Prod.fst (Prod.snd (Prod.fst (Prod.snd r200)))) (Prod.fst (Prod.snd (Prod.snd (Prod.fst (Prod.snd r200))))) x3 x4 x5 x6 x7 x8 x9 x10 :=
  (den_run CC 74 (lbl CC 74 13) ⟨tmOf [(0, .ref 0 0), (2, .ref 1 0), (3, .ref 2 0)] 0 84, [.box 87 [.sl (.int .u8) x0, .int .i64 x1, .int .u64 x2] false, .box 33 [.int .i64 x3, .int .i64 x4, .str x5, .int .i64 x6] false, .box 33 [.int .i64 x7, .int .i64 x8, .str x9, .int .i64 x10] false], 1⟩ fun r => prjRB GG [(.st 32)] [[.im (.sl (.int .u8)), .im (.int .i64), .im (.int .u64)]] r).trans (by kernel_rfl)

theorem s_l06Name_eq (x0 : (List Int)) (x1 : Int) (x2 : Int) : s_l06Name x0 x1 x2 = (s_l00Src_text ([[65], [66], [88], [79, 85, 84], [110, 49], [70, 111, 111, 95, 50], [65, 66, 67, 68, 69, 70, 71, 72, 73, 74, 75, 76], [90, 57]]) x0 x1 x2).bind fun r200 => some (((Prod.fst r200)), (((Prod.fst (Prod.fst (Prod.snd r200))), (Prod.fst (Prod.snd (Prod.fst (Prod.snd r200)))), (Prod.fst (Prod.snd (Prod.snd (Prod.fst (Prod.snd r200))))), ()), ())) :=
  (den_run CC 93 (bodyT CC 93) ⟨tmOf [(0, .ref 0 0)] 0 6, [.box 87 [.sl (.int .u8) x0, .int .i64 x1, .int .u64 x2] false], 1⟩ fun r => prjRB GG [.str] [[.im (.sl (.int .u8)), .im (.int .i64), .im (.int .u64)]] r).trans (by kernel_rfl)

theorem s_l00Src_word_eq (x0 : Int) (x1 : (List Int)) (x2 : Int) (x3 : Int) : s_l00Src_word x0 x1 x2 x3 = (s_l00Src_pick x0 x1 x2 x3).bind fun r200 => s_l00Src_word_L3 (Prod.fst r200) (Prod.fst (Prod.fst (Prod.snd r200))) (Prod.fst (Prod.snd (Prod.fst (Prod.snd r200)))) (Prod.fst (Prod.snd (Prod.snd (Prod.fst (Prod.snd r200))))) ([]) :=
  (den_run CC 94 (bodyT CC 94) ⟨tmOf [(0, .ref 0 0), (1, .int .i64 x0)] 0 23, [.box 87 [.sl (.int .u8) x1, .int .i64 x2, .int .u64 x3] false], 1⟩ fun r => prjRB GG [.str] [[.im (.sl (.int .u8)), .im (.int .i64), .im (.int .u64)]] r).trans (by kernel_rfl)

theorem i_isObjectId_eq (x0 : Int) : i_isObjectId x0 = (i_within x0 1 1000000).bind fun r200 => some r200 :=
  (den_run CC 76 (bodyT CC 76) ⟨tmOf [(0, .int .i64 x0)] 0 5, [], 0⟩ fun r => prjR GG [.bool] r.1).trans (by kernel_rfl)

theorem i_IsName_eq (x0 : (List UInt8)) : i_IsName x0 = if (decide (len x0 ≥ 1)) = true then if (decide (len x0 ≤ 12)) = true then ((idx x0 0) : Option UInt8).bind fun y198 => (i_isLetter (ib y198)).bind fun r197 => if r197 = true then (i_areAll_byte__i_isNameByte (List.map (fun (b : UInt8) ↦ ib b) x0)).bind fun r195 => some r195 else some (false) else some (false) else some (false) :=
  (den_run CC 61 (bodyT CC 61) ⟨tmOf [(0, .str x0)] 0 21, [], 0⟩ fun r => prjR GG [.bool] r.1).trans (by kernel_rfl)

theorem i_null_eq : i_null = (i_textOf []).bind fun r200 => some r200 :=
  (den_run CC 95 (bodyT CC 95) ⟨tmOf [] 0 2, [], 0⟩ fun r => prjR GG [(.st 32)] r.1).trans (by kernel_rfl)

theorem internal_stringslite_CutPrefix_eq (x0 : (List UInt8)) (x1 : (List UInt8)) : internal_stringslite_CutPrefix x0 x1 = (internal_stringslite_HasPrefix x0 x1).bind fun r200 => if (!r200) = true then some ((x0), (false)) else ((cut x0 (len x1) (Option.getD Option.none (len x0))) : Option (List UInt8)).bind fun y198 => some ((y198), (true)) :=
  (den_run CC 96 (bodyT CC 96) ⟨tmOf [(0, .str x0), (1, .str x1)] 0 15, [], 0⟩ fun r => prjR GG [.str, .bool] r.1).trans (by kernel_rfl)

theorem internal_stringslite_TrimPrefix_eq (x0 : (List UInt8)) (x1 : (List UInt8)) : internal_stringslite_TrimPrefix x0 x1 = (internal_stringslite_HasPrefix x0 x1).bind fun r200 => if r200 = true then ((cut x0 (len x1) (Option.getD Option.none (len x0))) : Option (List UInt8)).bind fun y198 => some y198 else some x0 :=
  (den_run CC 97 (bodyT CC 97) ⟨tmOf [(0, .str x0), (1, .str x1)] 0 13, [], 0⟩ fun r => prjR GG [.str] r.1).trans (by kernel_rfl)

theorem i_areAll_byte_L2__i_isDigit_eq (x0 : (List Int)) (x1 : Int) (x2 : Int) : i_areAll_byte_L2__i_isDigit x0 x1 x2 = if (decide (x2 < x1)) = true then ((idx x0 x2) : Option Int).bind fun y199 => (i_isDigit y199).bind fun r198 => if (!r198) = true then some (false) else i_areAll_byte_L2__i_isDigit x0 x1 (w64 (x2 + 1)) else some (true) :=
  (den_run CC 65 (lbl CC 65 2) ⟨tmOf [(1, .fn 70 []), (7, .sl (.int .u8) x0), (8, .int .i64 x1), (9, .int .i64 x2)] 0 18, [], 0⟩ fun r => prjR GG [.bool] r.1).trans (by kernel_rfl)

theorem s_IsName_eq (x0 : (List UInt8)) : s_IsName x0 = if (!x0 == []) = true then if (decide (len x0 ≤ 12)) = true then (s_l02NameEnd x0 0).bind fun r198 => some (r198 == len x0) else some (false) else some (false) :=
  (den_run CC 81 (bodyT CC 81) ⟨tmOf [(0, .str x0)] 0 17, [], 0⟩ fun r => prjR GG [.bool] r.1).trans (by kernel_rfl)

theorem s_l10Digits_L8_eq (x0 : (List UInt8)) (x1 : Int) (x2 : Int) : s_l10Digits_L8 x0 x1 x2 = if (decide (x2 < len x0)) = true then ((idx x0 x2) : Option UInt8).bind fun y199 => if (decide (ib y199 < 48)) = true then some (0, (false)) else ((idx x0 x2) : Option UInt8).bind fun y197 => if (decide (ib y197 > 57)) = true then some (0, (false)) else ((idx x0 x2) : Option UInt8).bind fun y195 => s_l10Digits_L8 x0 (w64 (w64 (x1 * 10) + w64 (Go.IntKind.wrap Go.IntKind.u8 (ib y195 - 48)))) (w64 (x2 + 1)) else if (decide (x1 > 1000000000000)) = true then some (0, (false)) else ((idx x0 0) : Option UInt8).bind fun y198 => if (ib y198 == 45) = true then some ((w64 (0 - x1)), (true)) else some ((x1), (true)) :=
  (den_run CC 44 (lbl CC 44 8) ⟨tmOf [(0, .str x0), (5, .int .i64 x1), (6, .int .i64 x2)] 0 63, [], 0⟩ fun r => prjR GG [(.int .i64), .bool] r.1).trans (by kernel_rfl)

theorem i_IntegerValue_eq (x0 : Int) : i_IntegerValue x0 = (i_numberOf x0).bind fun r200 => (i_ValidValue r200).bind fun r199 => if r199 = true then some ((r200), (true)) else some ((TValue.mk (Int.ofNat 0) (Int.ofNat 0) [] (Int.ofNat 0)), (false)) :=
  (den_run CC 84 (bodyT CC 84) ⟨tmOf [(0, .int .i64 x0)] 0 11, [], 0⟩ fun r => prjR GG [(.st 32), .bool] r.1).trans (by kernel_rfl)

theorem i_magnitude_eq (x0 : Int) : i_magnitude x0 = some (Go.IntKind.wrap Go.IntKind.u64 (if w64 (0 - x0) > x0 then w64 (0 - x0) else x0)) :=
  (den_run CC 86 (bodyT CC 86) ⟨tmOf [(0, .int .i64 x0)] 0 8, [], 0⟩ fun r => prjR GG [(.int .u64)] r.1).trans (by kernel_rfl)

theorem math_bits_Mul64_eq (x0 : Int) (x1 : Int) : math_bits_Mul64 x0 x1 = ((shr Go.IntKind.u64 x0 32) : Option Int).bind fun y200 => ((shr Go.IntKind.u64 x1 32) : Option Int).bind fun y199 => ((shr Go.IntKind.u64 (Go.IntKind.wrap Go.IntKind.u64 (bitsOp Go.BinOp.and Go.IntKind.u64 x0 4294967295 * bitsOp Go.BinOp.and Go.IntKind.u64 x1 4294967295)) 32) : Option Int).bind fun y198 => ((shr Go.IntKind.u64 (Go.IntKind.wrap Go.IntKind.u64 (Go.IntKind.wrap Go.IntKind.u64 (y200 * bitsOp Go.BinOp.and Go.IntKind.u64 x1 4294967295) + y198)) 32) : Option Int).bind fun y197 => ((shr Go.IntKind.u64 (Go.IntKind.wrap Go.IntKind.u64 (bitsOp Go.BinOp.and Go.IntKind.u64 (Go.IntKind.wrap Go.IntKind.u64 (Go.IntKind.wrap Go.IntKind.u64 (y200 * bitsOp Go.BinOp.and Go.IntKind.u64 x1 4294967295) + y198)) 4294967295 + Go.IntKind.wrap Go.IntKind.u64 (bitsOp Go.BinOp.and Go.IntKind.u64 x0 4294967295 * y199))) 32) : Option Int).bind fun y196 => some ((Go.IntKind.wrap Go.IntKind.u64 (Go.IntKind.wrap Go.IntKind.u64 (Go.IntKind.wrap Go.IntKind.u64 (y200 * y199) + y197) + y196)), (Go.IntKind.wrap Go.IntKind.u64 (x0 * x1))) :=
  (den_run CC 85 (bodyT CC 85) ⟨tmOf [(0, .int .u64 x0), (1, .int .u64 x1)] 0 51, [], 0⟩ fun r => prjR GG [(.int .u64), (.int .u64)] r.1).trans (by kernel_rfl)

theorem i_areAll_impl_Value_L2__i_ValidValue_eq (x0 : (List TValue)) (x1 : Int) (x2 : Int) : i_areAll_impl_Value_L2__i_ValidValue x0 x1 x2 = if (decide (x2 < x1)) = true then ((idx x0 x2) : Option TValue).bind fun y199 => (i_ValidValue y199).bind fun r198 => if (!r198) = true then some (false) else i_areAll_impl_Value_L2__i_ValidValue x0 x1 (w64 (x2 + 1)) else some (true) :=
  (den_run CC 83 (lbl CC 83 2) ⟨tmOf [(1, .fn 40 []), (7, .sl (.st 32) x0), (8, .int .i64 x1), (9, .int .i64 x2)] 0 18, [], 0⟩ fun r => prjR GG [.bool] r.1).trans (by kernel_rfl)

theorem s_l06Draw_L27_eq (x0 : (List Int)) (x1 : Int) (x2 : Int) (x3 : Int) (x4 : Int) (x5 : (List UInt8)) (x6 : Int) (x7 : Int) (x8 : Int) (x9 : (List UInt8)) (x10 : Int) : s_l06Draw_L27 x0 x1 x2 x3 x4 x5 x6 x7 x8 x9 x10 = some (((TValue.mk x7 x8 x9 x10)), (((x0), (x1), (x2), ()), ())) :=
  (den_run CC 74 (lbl CC 74 27) ⟨tmOf [(2, .ref 1 0), (3, .ref 2 0)] 0 84, [.box 87 [.sl (.int .u8) x0, .int .i64 x1, .int .u64 x2] false, .box 33 [.int .i64 x3, .int .i64 x4, .str x5, .int .i64 x6] false, .box 33 [.int .i64 x7, .int .i64 x8, .str x9, .int .i64 x10] false], 1⟩ fun r => prjRB GG [(.st 32)] [[.im (.sl (.int .u8)), .im (.int .i64), .im (.int .u64)]] r).trans (by kernel_rfl)

theorem s_l06Draw_L25_eq (x0 : (List Int)) (x1 : Int) (x2 : Int) (x3 : Int) (x4 : Int) (x5 : (List UInt8)) (x6 : Int) (x7 : Int) (x8 : Int) (x9 : (List UInt8)) (x10 : Int) : s_l06Draw_L25 x0 x1 x2 x3 x4 x5 x6 x7 x8 x9 x10 = if (decide (len x9 ≤ 201)) = true then ((app x9 ([108, 111, 110, 103, 32, 116, 101, 120, 116, 44, 32])) : Option (List UInt8)).bind fun y199 => s_l06Draw_L25 x0 x1 x2 x3 x4 x5 x6 x7 x8 y199 x10 else s_l06Draw_L27 x0 x1 x2 x3 x4 x5 x6 x7 x8 x9 x10 :=
  (den_run CC 74 (lbl CC 74 25) ⟨tmOf [(2, .ref 1 0), (3, .ref 2 0)] 0 84, [.box 87 [.sl (.int .u8) x0, .int .i64 x1, .int .u64 x2] false, .box 33 [.int .i64 x3, .int .i64 x4, .str x5, .int .i64 x6] false, .box 33 [.int .i64 x7, .int .i64 x8, .str x9, .int .i64 x10] false], 1⟩ fun r => prjRB GG [(.st 32)] [[.im (.sl (.int .u8)), .im (.int .i64), .im (.int .u64)]] r).trans (by kernel_rfl)

theorem s_l00Src_word_L3_eq (x0 : Int) (x1 : (List Int)) (x2 : Int) (x3 : Int) (x4 : (List Int)) : s_l00Src_word_L3 x0 x1 x2 x3 x4 = if (decide (x0 > 0)) = true then (s_l00Src_next x1 x2 x3).bind fun r199 => ((app x4 [Go.IntKind.wrap Go.IntKind.u8 (Prod.fst r199)]) : Option (List Int)).bind fun y198 => s_l00Src_word_L3 (w64 (x0 - 1)) (Prod.fst (Prod.fst (Prod.snd r199))) (Prod.fst (Prod.snd (Prod.fst (Prod.snd r199)))) (Prod.fst (Prod.snd (Prod.snd (Prod.fst (Prod.snd r199))))) y198 else some (((List.map (fun (n : Int) ↦ UInt8.ofNat (Int.toNat n)) x4)), (((x1), (x2), (x3), ()), ())) :=
  (den_run CC 94 (lbl CC 94 3) ⟨tmOf [(0, .ref 0 0), (5, .arr 1), (6, .int .i64 x0)] 0 23, [.box 87 [.sl (.int .u8) x1, .int .i64 x2, .int .u64 x3] false, .arr 5 (.int .u8) x4 false], 1⟩ fun r => prjRB GG [.str] [[.im (.sl (.int .u8)), .im (.int .i64), .im (.int .u64)]] r).trans (by kernel_rfl)

theorem i_areAll_byte__i_isNameByte_eq (x0 : (List Int)) : i_areAll_byte__i_isNameByte x0 = i_areAll_byte_L2__i_isNameByte x0 (len x0) 0 :=
  (den_run CC 65 (bodyT CC 65) ⟨tmOf [(0, .sl (.int .u8) x0), (1, .fn 69 [])] 0 18, [], 0⟩ fun r => prjR GG [.bool] r.1).trans (by kernel_rfl)

theorem i_textOf_eq (x0 : (List UInt8)) : i_textOf x0 = some (TValue.mk (Int.ofNat 1) (Int.ofNat 0) x0 (Int.ofNat 0)) :=
  (den_run CC 111 (bodyT CC 111) ⟨tmOf [(0, .str x0)] 0 5, [], 0⟩ fun r => prjR GG [(.st 32)] r.1).trans (by kernel_rfl)

theorem internal_stringslite_HasPrefix_eq (x0 : (List UInt8)) (x1 : (List UInt8)) : internal_stringslite_HasPrefix x0 x1 = if (decide (len x0 ≥ len x1)) = true then ((cut x0 0 (Option.getD (Option.some (len x1)) (len x0))) : Option (List UInt8)).bind fun y199 => some (y199 == x1) else some (false) :=
  (den_run CC 112 (bodyT CC 112) ⟨tmOf [(0, .str x0), (1, .str x1)] 0 18, [], 0⟩ fun r => prjR GG [.bool] r.1).trans (by kernel_rfl)

theorem s_l02NameEnd_eq (x0 : (List UInt8)) (x1 : Int) : s_l02NameEnd x0 x1 = if (decide (x1 ≥ len x0)) = true then some x1 else ((idx x0 x1) : Option UInt8).bind fun y199 => (s_l02Letter (ib y199)).bind fun r198 => if (!r198) = true then some x1 else s_l02NameEnd_L3 x0 x1 :=
  (den_run CC 98 (bodyT CC 98) ⟨tmOf [(0, .str x0), (1, .int .i64 x1)] 0 42, [], 0⟩ fun r => prjR GG [(.int .i64)] r.1).trans (by kernel_rfl)

theorem i_numberOf_eq (x0 : Int) : i_numberOf x0 = some (TValue.mk (Int.ofNat 2) x0 [] (Int.ofNat 0)) :=
  (den_run CC 100 (bodyT CC 100) ⟨tmOf [(0, .int .i64 x0)] 0 5, [], 0⟩ fun r => prjR GG [(.st 32)] r.1).trans (by kernel_rfl)

theorem s_l02Letter_eq (x0 : Int) : s_l02Letter x0 = if (decide (x0 ≥ 65)) = true then if (decide (x0 ≤ 90)) = true then some (true) else if (decide (x0 ≥ 97)) = true then some (decide (x0 ≤ 122)) else some (false) else if (decide (x0 ≥ 97)) = true then some (decide (x0 ≤ 122)) else some (false) :=
  (den_run CC 101 (bodyT CC 101) ⟨tmOf [(0, .int .u8 x0)] 0 17, [], 0⟩ fun r => prjR GG [.bool] r.1).trans (by kernel_rfl)

theorem s_l02Digit_eq (x0 : Int) : s_l02Digit x0 = if (decide (x0 ≥ 48)) = true then some (decide (x0 ≤ 57)) else some (false) :=
  (den_run CC 102 (bodyT CC 102) ⟨tmOf [(0, .int .u8 x0)] 0 9, [], 0⟩ fun r => prjR GG [.bool] r.1).trans (by kernel_rfl)

theorem i_isNameByte_eq (x0 : Int) : i_isNameByte x0 = (i_isLetter x0).bind fun r200 => if r200 = true then some (true) else (i_isDigit x0).bind fun r198 => if r198 = true then some (true) else some (x0 == 95) :=
  (den_run CC 69 (bodyT CC 69) ⟨tmOf [(0, .int .u8 x0)] 0 13, [], 0⟩ fun r => prjR GG [.bool] r.1).trans (by kernel_rfl)

theorem i_areAll_byte_L2__i_isNameByte_eq (x0 : (List Int)) (x1 : Int) (x2 : Int) : i_areAll_byte_L2__i_isNameByte x0 x1 x2 = if (decide (x2 < x1)) = true then ((idx x0 x2) : Option Int).bind fun y199 => (i_isNameByte y199).bind fun r198 => if (!r198) = true then some (false) else i_areAll_byte_L2__i_isNameByte x0 x1 (w64 (x2 + 1)) else some (true) :=
  (den_run CC 65 (lbl CC 65 2) ⟨tmOf [(1, .fn 69 []), (7, .sl (.int .u8) x0), (8, .int .i64 x1), (9, .int .i64 x2)] 0 18, [], 0⟩ fun r => prjR GG [.bool] r.1).trans (by kernel_rfl)

theorem s_l02NameEnd_L3_eq (x0 : (List UInt8)) (x1 : Int) : s_l02NameEnd_L3 x0 x1 = if (decide (x1 < len x0)) = true then ((idx x0 x1) : Option UInt8).bind fun y199 => (s_l02Letter (ib y199)).bind fun r198 => if r198 = true then s_l02NameEnd_L4 x0 x1 else ((idx x0 x1) : Option UInt8).bind fun y196 => (s_l02Digit (ib y196)).bind fun r195 => if r195 = true then s_l02NameEnd_L4 x0 x1 else ((idx x0 x1) : Option UInt8).bind fun y193 => if (ib y193 == 95) = true then s_l02NameEnd_L4 x0 x1 else s_l02NameEnd_L5 x1 else s_l02NameEnd_L5 x1 :=
  (den_run CC 98 (lbl CC 98 3) ⟨tmOf [(0, .str x0), (1, .int .i64 x1)] 0 42, [], 0⟩ fun r => prjR GG [(.int .i64)] r.1).trans (by kernel_rfl)

theorem s_l02NameEnd_L4_eq (x0 : (List UInt8)) (x1 : Int) : s_l02NameEnd_L4 x0 x1 = s_l02NameEnd_L3 x0 (w64 (x1 + 1)) :=
  (den_run CC 98 (lbl CC 98 4) ⟨tmOf [(0, .str x0), (1, .int .i64 x1)] 0 42, [], 0⟩ fun r => prjR GG [(.int .i64)] r.1).trans (by kernel_rfl)

theorem s_l02NameEnd_L5_eq (x0 : Int) : s_l02NameEnd_L5 x0 = some x0 :=
  (den_run CC 98 (lbl CC 98 5) ⟨tmOf [(1, .int .i64 x0)] 0 42, [], 0⟩ fun r => prjR GG [(.int .i64)] r.1).trans (by kernel_rfl)
end Go.Dv.U
