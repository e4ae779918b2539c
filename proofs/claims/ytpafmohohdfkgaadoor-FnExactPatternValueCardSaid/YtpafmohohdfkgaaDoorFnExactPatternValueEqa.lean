/- The functions of the program as equations on plain data, each checked by the kernel. -/
import Derived.Test.YtpafmohohdfkgaaDoorExa
set_option linter.all false
set_option linter.unusedVariables false
set_option linter.unusedSimpArgs false
namespace Go.Dv.U
open Go Go.Dv Go.Proofs
set_option maxRecDepth 100000
noncomputable def l_FnExactPatternValue (x0 : TPattern) : Option (Bool) := (Den CC 5 (bodyT CC 5) ⟨tmOf [(0, .st 34 x0)] 0 41, [], 0⟩).bind fun r => prjR GG [.bool] r.1

noncomputable def l_szPattern (x0 : TPattern) (x1 : Int) : Option (Int) := (Den CC 12 (bodyT CC 12) ⟨tmOf [(0, .st 34 x0), (1, .int .i64 x1)] 0 19, [], 0⟩).bind fun r => prjR GG [(.int .i64)] r.1

noncomputable def l_toPattern (x0 : TPattern) : Option (TPattern) := (Den CC 14 (bodyT CC 14) ⟨tmOf [(0, .st 34 x0)] 0 18, [], 0⟩).bind fun r => prjR GG [(.st 34)] r.1

noncomputable def s_PatternText (x0 : TPattern) : Option ((List UInt8)) := (Den CC 13 (bodyT CC 13) ⟨tmOf [(0, .st 34 x0)] 0 8, [], 0⟩).bind fun r => prjR GG [.str] r.1

noncomputable def l_eqPattern (x0 : TPattern) (x1 : TPattern) : Option (Bool) := (Den CC 16 (bodyT CC 16) ⟨tmOf [(0, .st 34 x0), (1, .st 34 x1)] 0 26, [], 0⟩).bind fun r => prjR GG [.bool] r.1

noncomputable def s_PatternValue (x0 : TPattern) : Option (TValue × Int) := (Den CC 17 (bodyT CC 17) ⟨tmOf [(0, .st 34 x0)] 0 17, [], 0⟩).bind fun r => prjR GG [(.st 44), (.int .i64)] r.1

noncomputable def i_PatternValue (x0 : TPattern) : Option (TValue × Int) := (Den CC 18 (bodyT CC 18) ⟨tmOf [(0, .st 34 x0)] 0 17, [], 0⟩).bind fun r => prjR GG [(.st 44), (.int .i64)] r.1

noncomputable def l_eqValue (x0 : TValue) (x1 : TValue) : Option (Bool) := (Den CC 19 (bodyT CC 19) ⟨tmOf [(0, .st 44 x0), (1, .st 44 x1)] 0 25, [], 0⟩).bind fun r => prjR GG [.bool] r.1

noncomputable def l_szPatternS (x0 : (List TPattern)) (x1 : Int) : Option (Int) := (Den CC 32 (bodyT CC 32) ⟨tmOf [(0, .sl (.st 34) x0), (1, .int .i64 x1)] 0 27, [], 0⟩).bind fun r => prjR GG [(.int .i64)] r.1

noncomputable def l_toPatternS (x0 : (List TPattern)) : Option ((List TPattern)) := (Den CC 35 (bodyT CC 35) ⟨tmOf [(0, .sl (.st 34) x0)] 0 23, [], 0⟩).bind fun r => prjR GG [(.sl (.st 34))] r.1

noncomputable def s_ValidPattern (x0 : TPattern) : Option (Bool) := (Den CC 33 (bodyT CC 33) ⟨tmOf [(0, .st 34 x0)] 0 6, [], 0⟩).bind fun r => prjR GG [.bool] r.1

noncomputable def s_l11Text (x0 : TPattern) : Option ((List UInt8)) := (Den CC 34 (bodyT CC 34) ⟨tmOf [(0, .st 34 x0)] 0 70, [], 0⟩).bind fun r => prjR GG [.str] r.1

noncomputable def i_ValidPattern (x0 : TPattern) : Option (Bool) := (Den CC 36 (bodyT CC 36) ⟨tmOf [(0, .st 34 x0)] 0 6, [], 0⟩).bind fun r => prjR GG [.bool] r.1

noncomputable def i_Pattern_text (x0 : TPattern) : Option ((List UInt8)) := (Den CC 37 (bodyT CC 37) ⟨tmOf [(0, .st 34 x0)] 0 72, [], 0⟩).bind fun r => prjR GG [.str] r.1

noncomputable def l_eqPatternS (x0 : (List TPattern)) (x1 : (List TPattern)) : Option (Bool) := (Den CC 38 (bodyT CC 38) ⟨tmOf [(0, .sl (.st 34) x0), (1, .sl (.st 34) x1)] 0 27, [], 0⟩).bind fun r => prjR GG [.bool] r.1

noncomputable def s_ValidValue (x0 : TValue) : Option (Bool) := (Den CC 39 (bodyT CC 39) ⟨tmOf [(0, .st 44 x0)] 0 55, [], 0⟩).bind fun r => prjR GG [.bool] r.1

noncomputable def i_ValidValue (x0 : TValue) : Option (Bool) := (Den CC 40 (bodyT CC 40) ⟨tmOf [(0, .st 44 x0)] 0 80, [], 0⟩).bind fun r => prjR GG [.bool] r.1

noncomputable def i_decimal (x0 : Int) : Option ((List UInt8)) := (Den CC 60 (bodyT CC 60) ⟨tmOf [(0, .int .i64 x0)] 0 5, [], 0⟩).bind fun r => prjR GG [.str] r.1

noncomputable def l_szPatternS_L5 (x0 : (List TPattern)) (x1 : Int) (x2 : Int) : Option (Int) := (Den CC 32 (lbl CC 32 5) ⟨tmOf [(0, .sl (.st 34) x0), (1, .int .i64 x1), (5, .int .i64 x2)] 0 27, [], 0⟩).bind fun r => prjR GG [(.int .i64)] r.1

noncomputable def l_toPatternS_L3 (x0 : (List TPattern)) (x1 : Int) (x2 : (List TPattern)) : Option ((List TPattern)) := (Den CC 35 (lbl CC 35 3) ⟨tmOf [(0, .sl (.st 34) x0), (3, .arr 0), (4, .int .i64 x1)] 0 23, [.arr 40 (.st 34) x2 false], 0⟩).bind fun r => prjR GG [(.sl (.st 34))] r.1

noncomputable def s_l11Valid (x0 : TPattern) (x1 : Int) : Option (Int) := (Den CC 65 (bodyT CC 65) ⟨tmOf [(0, .st 34 x0), (1, .int .i64 x1)] 0 37, [], 0⟩).bind fun r => prjR GG [(.int .i64)] r.1

noncomputable def s_l11Literal (x0 : (List UInt8)) : Option ((List UInt8)) := (Den CC 66 (bodyT CC 66) ⟨tmOf [(0, .str x0)] 0 29, [], 0⟩).bind fun r => prjR GG [.str] r.1

noncomputable def s_l11Word (x0 : Int) : Option ((List UInt8) × (List UInt8)) := (Den CC 67 (bodyT CC 67) ⟨tmOf [(0, .int .i64 x0)] 0 51, [], 0⟩).bind fun r => prjR GG [.str, .str] r.1

noncomputable def s_l11Text_L9 (x0 : (List UInt8)) (x1 : (List UInt8)) (x2 : Int) (x3 : Int) (x4 : Int) (x5 : Int) (x6 : (List UInt8)) (x7 : (List TPattern)) : Option ((List UInt8)) := (Den CC 34 (lbl CC 34 9) ⟨tmOf [(1, .ref 0 0), (4, .str x0), (5, .str x1), (6, .int .i64 x2), (7, .int .i64 x3)] 0 70, [.box 40 [.int .i64 x4, .int .i64 x5, .str x6, .sl (.st 34) x7] false], 0⟩).bind fun r => prjR GG [.str] r.1

noncomputable def i_countPattern (x0 : TPattern) (x1 : Int) : Option (Int) := (Den CC 69 (bodyT CC 69) ⟨tmOf [(0, .st 34 x0), (1, .int .i64 x1)] 0 44, [], 0⟩).bind fun r => prjR GG [(.int .i64)] r.1

noncomputable def i_Pattern_text_L3 (x0 : (List TPattern)) (x1 : Int) (x2 : Int) (x3 : Int) (x4 : Int) (x5 : (List UInt8)) (x6 : (List TPattern)) (x7 : (List (List UInt8))) : Option ((List UInt8)) := (Den CC 37 (lbl CC 37 3) ⟨tmOf [(1, .ref 0 0), (3, .arr 1), (9, .sl (.st 34) x0), (10, .int .i64 x1), (11, .int .i64 x2)] 0 72, [.box 40 [.int .i64 x3, .int .i64 x4, .str x5, .sl (.st 34) x6] false, .arr 9 .str x7 false], 0⟩).bind fun r => prjR GG [.str] r.1

noncomputable def l_eqPatternS_L4 (x0 : (List TPattern)) (x1 : (List TPattern)) (x2 : Int) : Option (Bool) := (Den CC 38 (lbl CC 38 4) ⟨tmOf [(0, .sl (.st 34) x0), (1, .sl (.st 34) x1), (5, .int .i64 x2)] 0 27, [], 0⟩).bind fun r => prjR GG [.bool] r.1

noncomputable def s_l06Plain (x0 : TValue) (x1 : Bool) (x2 : Bool) (x3 : Bool) : Option (Bool) := (Den CC 75 (bodyT CC 75) ⟨tmOf [(0, .st 44 x0), (1, .bool x1), (2, .bool x2), (3, .bool x3)] 0 31, [], 0⟩).bind fun r => prjR GG [.bool] r.1

noncomputable def s_l00In (x0 : Int) (x1 : Int) (x2 : Int) : Option (Bool) := (Den CC 76 (bodyT CC 76) ⟨tmOf [(0, .int .i64 x0), (1, .int .i64 x1), (2, .int .i64 x2)] 0 15, [], 0⟩).bind fun r => prjR GG [.bool] r.1

noncomputable def s_ValidValue_L11 (x0 : Int) (x1 : Int) (x2 : (List UInt8)) (x3 : Int) : Option (Bool) := (Den CC 39 (lbl CC 39 11) ⟨tmOf [(1, .ref 0 0)] 0 55, [.box 45 [.int .i64 x0, .int .i64 x1, .str x2, .int .i64 x3] false], 0⟩).bind fun r => prjR GG [.bool] r.1

noncomputable def s_ValidValue_L12 (x0 : Int) (x1 : Int) (x2 : Int) (x3 : (List UInt8)) (x4 : Int) : Option (Bool) := (Den CC 39 (lbl CC 39 12) ⟨tmOf [(1, .ref 0 0), (4, .int .i64 x0)] 0 55, [.box 45 [.int .i64 x1, .int .i64 x2, .str x3, .int .i64 x4] false], 0⟩).bind fun r => prjR GG [.bool] r.1

noncomputable def i_within (x0 : Int) (x1 : Int) (x2 : Int) : Option (Bool) := (Den CC 78 (bodyT CC 78) ⟨tmOf [(0, .int .i64 x0), (1, .int .i64 x1), (2, .int .i64 x2)] 0 15, [], 0⟩).bind fun r => prjR GG [.bool] r.1

noncomputable def i_ValidValue_L11 (x0 : Int) (x1 : Int) (x2 : (List UInt8)) (x3 : Int) : Option (Bool) := (Den CC 40 (lbl CC 40 11) ⟨tmOf [(1, .ref 0 0)] 0 80, [.box 45 [.int .i64 x0, .int .i64 x1, .str x2, .int .i64 x3] false], 0⟩).bind fun r => prjR GG [.bool] r.1

noncomputable def i_ValidValue_L12 (x0 : Int) (x1 : Int) (x2 : Int) (x3 : (List UInt8)) (x4 : Int) : Option (Bool) := (Den CC 40 (lbl CC 40 12) ⟨tmOf [(1, .ref 0 0), (4, .int .i64 x0)] 0 80, [.box 45 [.int .i64 x1, .int .i64 x2, .str x3, .int .i64 x4] false], 0⟩).bind fun r => prjR GG [.bool] r.1

noncomputable def s_l11Node (x0 : TPattern) : Option (Bool) := (Den CC 99 (bodyT CC 99) ⟨tmOf [(0, .st 34 x0)] 0 70, [], 0⟩).bind fun r => prjR GG [.bool] r.1

noncomputable def s_l11Valid_L5 (x0 : Int) (x1 : Int) (x2 : Int) (x3 : Int) (x4 : Int) (x5 : (List UInt8)) (x6 : (List TPattern)) : Option (Int) := (Den CC 65 (lbl CC 65 5) ⟨tmOf [(1, .int .i64 x0), (2, .ref 0 0), (5, .int .i64 x1), (6, .int .i64 x2)] 0 37, [.box 40 [.int .i64 x3, .int .i64 x4, .str x5, .sl (.st 34) x6] false], 0⟩).bind fun r => prjR GG [(.int .i64)] r.1

noncomputable def s_l11Literal_L3 (x0 : (List UInt8)) (x1 : Int) (x2 : (List Int)) : Option ((List UInt8)) := (Den CC 66 (lbl CC 66 3) ⟨tmOf [(0, .str x0), (3, .arr 0), (4, .int .i64 x1)] 0 29, [.arr 5 (.int .u8) x2 false], 0⟩).bind fun r => prjR GG [.str] r.1

noncomputable def s_l11Text_L10 (x0 : (List UInt8)) (x1 : (List UInt8)) (x2 : Int) (x3 : Int) (x4 : Int) (x5 : Int) (x6 : (List UInt8)) (x7 : (List TPattern)) : Option ((List UInt8)) := (Den CC 34 (lbl CC 34 10) ⟨tmOf [(1, .ref 0 0), (4, .str x0), (5, .str x1), (6, .int .i64 x2), (7, .int .i64 x3)] 0 70, [.box 40 [.int .i64 x4, .int .i64 x5, .str x6, .sl (.st 34) x7] false], 0⟩).bind fun r => prjR GG [.str] r.1

noncomputable def s_l11Digits (x0 : Int) : Option ((List UInt8)) := (Den CC 68 (bodyT CC 68) ⟨tmOf [(0, .int .i64 x0)] 0 20, [], 0⟩).bind fun r => prjR GG [.str] r.1

noncomputable def i_countPattern_L3 : Option (Int) := (Den CC 69 (lbl CC 69 3) ⟨tmOf [] 0 44, [], 0⟩).bind fun r => prjR GG [(.int .i64)] r.1

noncomputable def i_isArgument (x0 : Int) (x1 : Int) (x2 : (List UInt8)) : Option (Bool) := (Den CC 100 (bodyT CC 100) ⟨tmOf [(0, .int .i64 x0), (1, .int .i64 x1), (2, .str x2)] 0 57, [], 0⟩).bind fun r => prjR GG [.bool] r.1

noncomputable def i_kidsOf (x0 : Int) : Option (Int) := (Den CC 101 (bodyT CC 101) ⟨tmOf [(0, .int .i64 x0)] 0 11, [], 0⟩).bind fun r => prjR GG [(.int .i64)] r.1

noncomputable def i_countPattern_L4 (x0 : Int) (x1 : Int) (x2 : Int) (x3 : (List UInt8)) (x4 : (List TPattern)) : Option (Int) := (Den CC 69 (lbl CC 69 4) ⟨tmOf [(1, .int .i64 x0), (2, .ref 0 0)] 0 44, [.box 40 [.int .i64 x1, .int .i64 x2, .str x3, .sl (.st 34) x4] false], 0⟩).bind fun r => prjR GG [(.int .i64)] r.1

noncomputable def i_QuoteText (x0 : (List UInt8)) : Option ((List UInt8)) := (Den CC 70 (bodyT CC 70) ⟨tmOf [(0, .str x0)] 0 7, [], 0⟩).bind fun r => prjR GG [.str] r.1

noncomputable def i_hasSet (x0 : Int) : Option (Bool) := (Den CC 71 (bodyT CC 71) ⟨tmOf [(0, .int .i64 x0)] 0 5, [], 0⟩).bind fun r => prjR GG [.bool] r.1

noncomputable def i_Pattern_text_L15 (x0 : Int) (x1 : Int) (x2 : (List UInt8)) (x3 : (List TPattern)) (x4 : (List (List UInt8))) : Option ((List UInt8)) := (Den CC 37 (lbl CC 37 15) ⟨tmOf [(1, .ref 0 0), (3, .arr 1)] 0 72, [.box 40 [.int .i64 x0, .int .i64 x1, .str x2, .sl (.st 34) x3] false, .arr 9 .str x4 false], 0⟩).bind fun r => prjR GG [.str] r.1

noncomputable def i_hasNumber (x0 : Int) : Option (Bool) := (Den CC 72 (bodyT CC 72) ⟨tmOf [(0, .int .i64 x0)] 0 5, [], 0⟩).bind fun r => prjR GG [.bool] r.1

noncomputable def i_hasName (x0 : Int) : Option (Bool) := (Den CC 73 (bodyT CC 73) ⟨tmOf [(0, .int .i64 x0)] 0 5, [], 0⟩).bind fun r => prjR GG [.bool] r.1

noncomputable def s_IsName (x0 : (List UInt8)) : Option (Bool) := (Den CC 77 (bodyT CC 77) ⟨tmOf [(0, .str x0)] 0 17, [], 0⟩).bind fun r => prjR GG [.bool] r.1

noncomputable def i_isObjectId (x0 : Int) : Option (Bool) := (Den CC 79 (bodyT CC 79) ⟨tmOf [(0, .int .i64 x0)] 0 5, [], 0⟩).bind fun r => prjR GG [.bool] r.1

noncomputable def i_IsName (x0 : (List UInt8)) : Option (Bool) := (Den CC 80 (bodyT CC 80) ⟨tmOf [(0, .str x0)] 0 21, [], 0⟩).bind fun r => prjR GG [.bool] r.1

noncomputable def s_l11Form (x0 : Int) : Option (Int × (List UInt8)) := (Den CC 120 (bodyT CC 120) ⟨tmOf [(0, .int .i64 x0)] 0 37, [], 0⟩).bind fun r => prjR GG [(.int .i64), .str] r.1

noncomputable def i_isShort (x0 : (List UInt8)) : Option (Bool) := (Den CC 121 (bodyT CC 121) ⟨tmOf [(0, .str x0)] 0 6, [], 0⟩).bind fun r => prjR GG [.bool] r.1

noncomputable def i_isPatternKind (x0 : Int) : Option (Bool) := (Den CC 122 (bodyT CC 122) ⟨tmOf [(0, .int .i64 x0)] 0 5, [], 0⟩).bind fun r => prjR GG [.bool] r.1

noncomputable def i_kidsOf_L8 : Option (Int) := (Den CC 101 (lbl CC 101 8) ⟨tmOf [] 0 11, [], 0⟩).bind fun r => prjR GG [(.int .i64)] r.1

noncomputable def i_kidsOf_L9 : Option (Int) := (Den CC 101 (lbl CC 101 9) ⟨tmOf [] 0 11, [], 0⟩).bind fun r => prjR GG [(.int .i64)] r.1

noncomputable def i_countPattern_L5 (x0 : Int) (x1 : (List TPattern)) (x2 : Int) (x3 : Int) : Option (Int) := (Den CC 69 (lbl CC 69 5) ⟨tmOf [(1, .int .i64 x0), (31, .sl (.st 34) x1), (32, .int .i64 x2), (33, .int .i64 x3)] 0 44, [], 0⟩).bind fun r => prjR GG [(.int .i64)] r.1

noncomputable def i_patternNames : Option ((List (List UInt8))) := (Den CC 74 (bodyT CC 74) ⟨tmOf [] 0 2, [], 0⟩).bind fun r => prjR GG [(.sl .str)] r.1

noncomputable def s_l02NameEnd (x0 : (List UInt8)) (x1 : Int) : Option (Int) := (Den CC 103 (bodyT CC 103) ⟨tmOf [(0, .str x0), (1, .int .i64 x1)] 0 42, [], 0⟩).bind fun r => prjR GG [(.int .i64)] r.1

noncomputable def i_isLetter (x0 : Int) : Option (Bool) := (Den CC 104 (bodyT CC 104) ⟨tmOf [(0, .int .u8 x0)] 0 17, [], 0⟩).bind fun r => prjR GG [.bool] r.1

noncomputable def i_areAll_byte__i_isNameByte (x0 : (List Int)) : Option (Bool) := (Den CC 105 (bodyT CC 105) ⟨tmOf [(0, .sl (.int .u8) x0), (1, .fn 106 [])] 0 18, [], 0⟩).bind fun r => prjR GG [.bool] r.1

noncomputable def s_l11Form_L7 (x0 : (List UInt8)) (x1 : Int) (x2 : (List UInt8)) (x3 : Int) : Option (Int × (List UInt8)) := (Den CC 120 (lbl CC 120 7) ⟨tmOf [(5, .str x0), (6, .int .i64 x1), (7, .str x2), (8, .int .i64 x3)] 0 37, [], 0⟩).bind fun r => prjR GG [(.int .i64), .str] r.1

noncomputable def s_l02Letter (x0 : Int) : Option (Bool) := (Den CC 124 (bodyT CC 124) ⟨tmOf [(0, .int .u8 x0)] 0 17, [], 0⟩).bind fun r => prjR GG [.bool] r.1

noncomputable def s_l02NameEnd_L3 (x0 : (List UInt8)) (x1 : Int) : Option (Int) := (Den CC 103 (lbl CC 103 3) ⟨tmOf [(0, .str x0), (1, .int .i64 x1)] 0 42, [], 0⟩).bind fun r => prjR GG [(.int .i64)] r.1

noncomputable def i_areAll_byte_L2__i_isNameByte (x0 : (List Int)) (x1 : Int) (x2 : Int) : Option (Bool) := (Den CC 105 (lbl CC 105 2) ⟨tmOf [(1, .fn 106 []), (7, .sl (.int .u8) x0), (8, .int .i64 x1), (9, .int .i64 x2)] 0 18, [], 0⟩).bind fun r => prjR GG [.bool] r.1

noncomputable def s_l02NameEnd_L4 (x0 : (List UInt8)) (x1 : Int) : Option (Int) := (Den CC 103 (lbl CC 103 4) ⟨tmOf [(0, .str x0), (1, .int .i64 x1)] 0 42, [], 0⟩).bind fun r => prjR GG [(.int .i64)] r.1

noncomputable def s_l02Digit (x0 : Int) : Option (Bool) := (Den CC 125 (bodyT CC 125) ⟨tmOf [(0, .int .u8 x0)] 0 9, [], 0⟩).bind fun r => prjR GG [.bool] r.1

noncomputable def s_l02NameEnd_L5 (x0 : Int) : Option (Int) := (Den CC 103 (lbl CC 103 5) ⟨tmOf [(1, .int .i64 x0)] 0 42, [], 0⟩).bind fun r => prjR GG [(.int .i64)] r.1

noncomputable def i_isNameByte (x0 : Int) : Option (Bool) := (Den CC 106 (bodyT CC 106) ⟨tmOf [(0, .int .u8 x0)] 0 13, [], 0⟩).bind fun r => prjR GG [.bool] r.1

noncomputable def i_isDigit (x0 : Int) : Option (Bool) := (Den CC 126 (bodyT CC 126) ⟨tmOf [(0, .int .u8 x0)] 0 9, [], 0⟩).bind fun r => prjR GG [.bool] r.1

theorem l_FnExactPatternValue_eq (x0 : TPattern) : l_FnExactPatternValue x0 = (l_szPattern x0.re 1048576).bind fun r200 => if (decide (r200 < 0)) = true then some (true) else (l_toPattern x0.re).bind fun r198 => (s_PatternValue r198).bind fun r197 => (l_toPattern x0.re).bind fun r196 => (i_PatternValue r196.re).bind fun r195 => (l_eqValue (Prod.fst r195) (Prod.fst r197)).bind fun r194 => if (!r194) = true then some (false) else if (Prod.snd r195 != Prod.snd r197) = true then some (false) else (l_toPattern x0.re).bind fun r191 => (l_eqPattern r196.re r191).bind fun r190 => if (!r190) = true then some (false) else some (true) :=
  (den_run CC 5 (bodyT CC 5) ⟨tmOf [(0, .st 34 x0)] 0 41, [], 0⟩ fun r => prjR GG [.bool] r.1).trans (by kernel_rfl)

theorem l_szPattern_eq (x0 : TPattern) (x1 : Int) : l_szPattern x0 x1 = if (decide (w64 (x1 - len x0.fText) < 0)) = true then some (-1) else (l_szPatternS x0.fKids (w64 (x1 - len x0.fText))).bind fun r199 => if (decide (r199 < 0)) = true then some (-1) else some r199 :=
  (den_run CC 12 (bodyT CC 12) ⟨tmOf [(0, .st 34 x0), (1, .int .i64 x1)] 0 19, [], 0⟩ fun r => prjR GG [(.int .i64)] r.1).trans (by kernel_rfl)

theorem l_toPattern_eq (x0 : TPattern) : l_toPattern x0 = (l_toPatternS x0.fKids).bind fun r200 => some (TPattern.mk x0.fKind x0.fNum x0.fText r200) :=
  (den_run CC 14 (bodyT CC 14) ⟨tmOf [(0, .st 34 x0)] 0 18, [], 0⟩ fun r => prjR GG [(.st 34)] r.1).trans (by kernel_rfl)

theorem s_PatternText_eq (x0 : TPattern) : s_PatternText x0 = (s_ValidPattern x0.re).bind fun r200 => if (!r200) = true then some [] else (s_l11Text x0.re).bind fun r198 => some r198 :=
  (den_run CC 13 (bodyT CC 13) ⟨tmOf [(0, .st 34 x0)] 0 8, [], 0⟩ fun r => prjR GG [.str] r.1).trans (by kernel_rfl)

theorem l_eqPattern_eq (x0 : TPattern) (x1 : TPattern) : l_eqPattern x0 x1 = if (x0.fKind != x1.fKind) = true then some (false) else if (x0.fNum != x1.fNum) = true then some (false) else if (!x0.fText == x1.fText) = true then some (false) else (l_eqPatternS x0.fKids x1.fKids).bind fun r197 => if (!r197) = true then some (false) else some (true) :=
  (den_run CC 16 (bodyT CC 16) ⟨tmOf [(0, .st 34 x0), (1, .st 34 x1)] 0 26, [], 0⟩ fun r => prjR GG [.bool] r.1).trans (by kernel_rfl)

theorem s_PatternValue_eq (x0 : TPattern) : s_PatternValue x0 = (s_ValidPattern x0.re).bind fun r200 => if (!r200) = true then some ((TValue.mk (Int.ofNat 0) (Int.ofNat 0) [] (Int.ofNat 0)), 1) else (s_PatternText x0.re).bind fun r198 => (s_ValidValue (TValue.mk (Int.ofNat 3) (Int.ofNat 0) r198 (Int.ofNat 0))).bind fun r197 => if (!r197) = true then some ((TValue.mk (Int.ofNat 0) (Int.ofNat 0) [] (Int.ofNat 0)), 6) else some ((TValue.mk (Int.ofNat 3) (Int.ofNat 0) r198 (Int.ofNat 0)), 0) :=
  (den_run CC 17 (bodyT CC 17) ⟨tmOf [(0, .st 34 x0)] 0 17, [], 0⟩ fun r => prjR GG [(.st 44), (.int .i64)] r.1).trans (by kernel_rfl)

theorem i_PatternValue_eq (x0 : TPattern) : i_PatternValue x0 = (i_ValidPattern x0.re).bind fun r200 => if (!r200) = true then some ((TValue.mk (Int.ofNat 0) (Int.ofNat 0) [] (Int.ofNat 0)), 1) else (i_Pattern_text x0.re).bind fun r198 => (i_ValidValue (TValue.mk (Int.ofNat 3) (Int.ofNat 0) r198 (Int.ofNat 0))).bind fun r197 => if (!r197) = true then some ((TValue.mk (Int.ofNat 0) (Int.ofNat 0) [] (Int.ofNat 0)), 6) else some ((TValue.mk (Int.ofNat 3) (Int.ofNat 0) r198 (Int.ofNat 0)), 0) :=
  (den_run CC 18 (bodyT CC 18) ⟨tmOf [(0, .st 34 x0)] 0 17, [], 0⟩ fun r => prjR GG [(.st 44), (.int .i64)] r.1).trans (by kernel_rfl)

theorem l_eqValue_eq (x0 : TValue) (x1 : TValue) : l_eqValue x0 x1 = if (x0.fKind != x1.fKind) = true then some (false) else if (x0.fNum != x1.fNum) = true then some (false) else if (!x0.fText == x1.fText) = true then some (false) else if (x0.fRef != x1.fRef) = true then some (false) else some (true) :=
  (den_run CC 19 (bodyT CC 19) ⟨tmOf [(0, .st 44 x0), (1, .st 44 x1)] 0 25, [], 0⟩ fun r => prjR GG [.bool] r.1).trans (by kernel_rfl)

theorem l_szPatternS_eq (x0 : (List TPattern)) (x1 : Int) : l_szPatternS x0 x1 = if (decide (w64 (x1 - len x0) < 0)) = true then some (-1) else l_szPatternS_L5 x0 (w64 (x1 - len x0)) 0 :=
  (den_run CC 32 (bodyT CC 32) ⟨tmOf [(0, .sl (.st 34) x0), (1, .int .i64 x1)] 0 27, [], 0⟩ fun r => prjR GG [(.int .i64)] r.1).trans (by kernel_rfl)

theorem l_toPatternS_eq (x0 : (List TPattern)) : l_toPatternS x0 = ((mk (len x0) (TPattern.mk (Int.ofNat 0) (Int.ofNat 0) [] [])) : Option (List TPattern)).bind fun y200 => l_toPatternS_L3 x0 0 y200 :=
  (den_run CC 35 (bodyT CC 35) ⟨tmOf [(0, .sl (.st 34) x0)] 0 23, [], 0⟩ fun r => prjR GG [(.sl (.st 34))] r.1).trans (by kernel_rfl)

theorem s_ValidPattern_eq (x0 : TPattern) : s_ValidPattern x0 = (s_l11Valid x0.re 60).bind fun r200 => some (decide (r200 > 0)) :=
  (den_run CC 33 (bodyT CC 33) ⟨tmOf [(0, .st 34 x0)] 0 6, [], 0⟩ fun r => prjR GG [.bool] r.1).trans (by kernel_rfl)

theorem s_l11Text_eq (x0 : TPattern) : s_l11Text x0 = if (x0.fKind == 1) = true then (s_l11Literal x0.fText).bind fun r199 => some r199 else (s_l11Word x0.fKind).bind fun r199 => if (Prod.snd r199 == []) = true then some (Prod.fst r199) else ((app (Prod.fst r199) ([40])) : Option (List UInt8)).bind fun y197 => s_l11Text_L9 (Prod.snd r199) y197 0 0 x0.fKind x0.fNum x0.fText x0.fKids :=
  (den_run CC 34 (bodyT CC 34) ⟨tmOf [(0, .st 34 x0)] 0 70, [], 0⟩ fun r => prjR GG [.str] r.1).trans (by kernel_rfl)

theorem i_ValidPattern_eq (x0 : TPattern) : i_ValidPattern x0 = (i_countPattern x0.re 0).bind fun r200 => some (decide (r200 ≤ 60)) :=
  (den_run CC 36 (bodyT CC 36) ⟨tmOf [(0, .st 34 x0)] 0 6, [], 0⟩ fun r => prjR GG [.bool] r.1).trans (by kernel_rfl)

theorem i_Pattern_text_eq (x0 : TPattern) : i_Pattern_text x0 = i_Pattern_text_L3 x0.fKids (len x0.fKids) 0 x0.fKind x0.fNum x0.fText x0.fKids ([]) :=
  (den_run CC 37 (bodyT CC 37) ⟨tmOf [(0, .st 34 x0)] 0 72, [], 0⟩ fun r => prjR GG [.str] r.1).trans (by kernel_rfl)

theorem l_eqPatternS_eq (x0 : (List TPattern)) (x1 : (List TPattern)) : l_eqPatternS x0 x1 = if (len x0 != len x1) = true then some (false) else l_eqPatternS_L4 x0 x1 0 :=
  (den_run CC 38 (bodyT CC 38) ⟨tmOf [(0, .sl (.st 34) x0), (1, .sl (.st 34) x1)] 0 27, [], 0⟩ fun r => prjR GG [.bool] r.1).trans (by kernel_rfl)

theorem s_ValidValue_eq (x0 : TValue) : s_ValidValue x0 = if (x0.fKind == 1) = true then (s_l06Plain x0 (false) (true) (false)).bind fun r199 => if r199 = true then some (decide (len x0.fText ≤ 200)) else some (false) else if (x0.fKind == 2) = true then (s_l06Plain x0 (true) (false) (false)).bind fun r198 => if r198 = true then (s_l00In x0.fNum (-1000000000000) 1000000000000).bind fun r196 => some r196 else some (false) else if (x0.fKind == 3) = true then (s_l06Plain x0 (false) (true) (false)).bind fun r197 => if r197 = true then (s_l00In (len x0.fText) 1 1200).bind fun r195 => some r195 else some (false) else if (x0.fKind == 4) = true then s_ValidValue_L11 x0.fKind x0.fNum x0.fText x0.fRef else if (x0.fKind == 5) = true then s_ValidValue_L11 x0.fKind x0.fNum x0.fText x0.fRef else if (x0.fKind == 6) = true then s_ValidValue_L11 x0.fKind x0.fNum x0.fText x0.fRef else s_ValidValue_L12 x0.fKind x0.fKind x0.fNum x0.fText x0.fRef :=
  (den_run CC 39 (bodyT CC 39) ⟨tmOf [(0, .st 44 x0)] 0 55, [], 0⟩ fun r => prjR GG [.bool] r.1).trans (by kernel_rfl)

theorem i_ValidValue_eq (x0 : TValue) : i_ValidValue x0 = if (x0.fKind == 1) = true then if (x0.fKind == 1 && (x0.fNum == 0 && (x0.fText == x0.fText && (x0.fRef == 0 && true)))) = true then some (decide (len x0.fText ≤ 200)) else some (false) else if (x0.fKind == 2) = true then if (x0.fKind == 2 && (x0.fNum == x0.fNum && (x0.fText == [] && (x0.fRef == 0 && true)))) = true then (i_within x0.fNum (-1000000000000) 1000000000000).bind fun r197 => some r197 else some (false) else if (x0.fKind == 3) = true then if (x0.fKind == 3 && (x0.fNum == 0 && (x0.fText == x0.fText && (x0.fRef == 0 && true)))) = true then if (decide (len x0.fText ≥ 1)) = true then some (decide (len x0.fText ≤ 1200)) else some (false) else some (false) else if (x0.fKind == 4) = true then i_ValidValue_L11 x0.fKind x0.fNum x0.fText x0.fRef else if (x0.fKind == 5) = true then i_ValidValue_L11 x0.fKind x0.fNum x0.fText x0.fRef else if (x0.fKind == 6) = true then i_ValidValue_L11 x0.fKind x0.fNum x0.fText x0.fRef else i_ValidValue_L12 x0.fKind x0.fKind x0.fNum x0.fText x0.fRef :=
  (den_run CC 40 (bodyT CC 40) ⟨tmOf [(0, .st 44 x0)] 0 80, [], 0⟩ fun r => prjR GG [.bool] r.1).trans (by kernel_rfl)

theorem i_decimal_eq (x0 : Int) : i_decimal x0 = ((itoaS x0 10) : Option (List UInt8)).bind fun y200 => some y200 :=
  (den_run CC 60 (bodyT CC 60) ⟨tmOf [(0, .int .i64 x0)] 0 5, [], 0⟩ fun r => prjR GG [.str] r.1).trans (by kernel_rfl)

theorem l_szPatternS_L5_eq (x0 : (List TPattern)) (x1 : Int) (x2 : Int) : l_szPatternS_L5 x0 x1 x2 = if (decide (x2 < len x0)) = true then ((idx x0 x2) : Option TPattern).bind fun y199 => (l_szPattern y199.re x1).bind fun r198 => if (decide (r198 < 0)) = true then some (-1) else l_szPatternS_L5 x0 r198 (w64 (x2 + 1)) else some x1 :=
  (den_run CC 32 (lbl CC 32 5) ⟨tmOf [(0, .sl (.st 34) x0), (1, .int .i64 x1), (5, .int .i64 x2)] 0 27, [], 0⟩ fun r => prjR GG [(.int .i64)] r.1).trans (by kernel_rfl)

theorem l_toPatternS_L3_eq (x0 : (List TPattern)) (x1 : Int) (x2 : (List TPattern)) : l_toPatternS_L3 x0 x1 x2 = if (decide (x1 < len x0)) = true then ((idx x0 x1) : Option TPattern).bind fun y199 => (l_toPattern y199.re).bind fun r198 => ((idx x2 x1) : Option TPattern).bind fun y197 => ((x2[Int.toNat x1]?) : Option TPattern).bind fun y196 => l_toPatternS_L3 x0 (w64 (x1 + 1)) (upd x2 (Int.toNat x1) r198.re) else some x2 :=
  (den_run CC 35 (lbl CC 35 3) ⟨tmOf [(0, .sl (.st 34) x0), (3, .arr 0), (4, .int .i64 x1)] 0 23, [.arr 40 (.st 34) x2 false], 0⟩ fun r => prjR GG [(.sl (.st 34))] r.1).trans (by kernel_rfl)

theorem s_l11Valid_eq (x0 : TPattern) (x1 : Int) : s_l11Valid x0 x1 = if (decide (x1 < 1)) = true then some (-1) else (s_l11Node x0.re).bind fun r199 => if (!r199) = true then some (-1) else s_l11Valid_L5 x1 1 0 x0.fKind x0.fNum x0.fText x0.fKids :=
  (den_run CC 65 (bodyT CC 65) ⟨tmOf [(0, .st 34 x0), (1, .int .i64 x1)] 0 37, [], 0⟩ fun r => prjR GG [(.int .i64)] r.1).trans (by kernel_rfl)

theorem s_l11Literal_eq (x0 : (List UInt8)) : s_l11Literal x0 = s_l11Literal_L3 x0 0 ([34]) :=
  (den_run CC 66 (bodyT CC 66) ⟨tmOf [(0, .str x0)] 0 29, [], 0⟩ fun r => prjR GG [.str] r.1).trans (by kernel_rfl)

theorem s_l11Word_eq (x0 : Int) : s_l11Word x0 = if (x0 == 2) = true then some ([97, 110, 121], [115]) else if (x0 == 3) = true then some ([110, 111, 116, 97, 110, 121], [115]) else if (x0 == 4) = true then some ([115, 112, 97, 110], [115]) else if (x0 == 5) = true then some ([98, 114, 101, 97, 107], [115]) else if (x0 == 6) = true then some ([108, 101, 110], [110]) else if (x0 == 7) = true then some ([112, 111, 115], [110]) else if (x0 == 8) = true then some ([114, 112, 111, 115], [110]) else if (x0 == 9) = true then some ([116, 97, 98], [110]) else if (x0 == 10) = true then some ([114, 116, 97, 98], [110]) else if (x0 == 11) = true then some ([114, 101, 109], []) else if (x0 == 12) = true then some ([97, 114, 98], []) else if (x0 == 13) = true then some ([98, 97, 108], []) else if (x0 == 14) = true then some ([102, 101, 110, 99, 101], []) else if (x0 == 15) = true then some ([97, 98, 111, 114, 116], []) else if (x0 == 16) = true then some ([102, 97, 105, 108], []) else if (x0 == 17) = true then some ([115, 117, 99, 99, 101, 101, 100], []) else if (x0 == 18) = true then some ([97, 108, 116], [112, 112]) else if (x0 == 19) = true then some ([99, 97, 116], [112, 112]) else if (x0 == 20) = true then some ([97, 114, 98, 110, 111], [112]) else if (x0 == 21) = true then some ([99, 111, 110, 100], [112, 120]) else if (x0 == 22) = true then some ([110, 111, 119], [112, 120]) else if (x0 == 23) = true then some ([99, 117, 114, 115, 111, 114], [120]) else if (x0 == 24) = true then some ([100, 101, 102, 101, 114], [120]) else some ([], []) :=
  (den_run CC 67 (bodyT CC 67) ⟨tmOf [(0, .int .i64 x0)] 0 51, [], 0⟩ fun r => prjR GG [.str, .str] r.1).trans (by kernel_rfl)

theorem s_l11Text_L9_eq (x0 : (List UInt8)) (x1 : (List UInt8)) (x2 : Int) (x3 : Int) (x4 : Int) (x5 : Int) (x6 : (List UInt8)) (x7 : (List TPattern)) : s_l11Text_L9 x0 x1 x2 x3 x4 x5 x6 x7 = if (decide (x3 < len x0)) = true then if (decide (x3 > 0)) = true then ((app x1 ([44])) : Option (List UInt8)).bind fun y198 => ((idx x0 x3) : Option UInt8).bind fun y197 => if (ib y197 == 115) = true then (s_l11Literal x6).bind fun r195 => ((app y198 r195) : Option (List UInt8)).bind fun y194 => s_l11Text_L10 x0 y194 x2 x3 x4 x5 x6 x7 else if (ib y197 == 110) = true then (s_l11Digits x5).bind fun r194 => ((app y198 r194) : Option (List UInt8)).bind fun y193 => s_l11Text_L10 x0 y193 x2 x3 x4 x5 x6 x7 else if (ib y197 == 120) = true then ((app y198 x6) : Option (List UInt8)).bind fun y193 => s_l11Text_L10 x0 y193 x2 x3 x4 x5 x6 x7 else ((idx x7 x2) : Option TPattern).bind fun y193 => (s_l11Text y193.re).bind fun r192 => ((app y198 r192) : Option (List UInt8)).bind fun y191 => s_l11Text_L10 x0 y191 (w64 (x2 + 1)) x3 x4 x5 x6 x7 else ((idx x0 x3) : Option UInt8).bind fun y198 => if (ib y198 == 115) = true then (s_l11Literal x6).bind fun r196 => ((app x1 r196) : Option (List UInt8)).bind fun y195 => s_l11Text_L10 x0 y195 x2 x3 x4 x5 x6 x7 else if (ib y198 == 110) = true then (s_l11Digits x5).bind fun r195 => ((app x1 r195) : Option (List UInt8)).bind fun y194 => s_l11Text_L10 x0 y194 x2 x3 x4 x5 x6 x7 else if (ib y198 == 120) = true then ((app x1 x6) : Option (List UInt8)).bind fun y194 => s_l11Text_L10 x0 y194 x2 x3 x4 x5 x6 x7 else ((idx x7 x2) : Option TPattern).bind fun y194 => (s_l11Text y194.re).bind fun r193 => ((app x1 r193) : Option (List UInt8)).bind fun y192 => s_l11Text_L10 x0 y192 (w64 (x2 + 1)) x3 x4 x5 x6 x7 else ((app x1 ([41])) : Option (List UInt8)).bind fun y199 => some y199 :=
  (den_run CC 34 (lbl CC 34 9) ⟨tmOf [(1, .ref 0 0), (4, .str x0), (5, .str x1), (6, .int .i64 x2), (7, .int .i64 x3)] 0 70, [.box 40 [.int .i64 x4, .int .i64 x5, .str x6, .sl (.st 34) x7] false], 0⟩ fun r => prjR GG [.str] r.1).trans (by kernel_rfl)

theorem i_countPattern_eq (x0 : TPattern) (x1 : Int) : i_countPattern x0 x1 = if (decide (w64 (x1 + 1) > 60)) = true then i_countPattern_L3 else (i_isArgument x0.fKind x0.fNum x0.fText).bind fun r199 => if (!r199) = true then i_countPattern_L3 else (i_kidsOf x0.fKind).bind fun r197 => if (len x0.fKids != r197) = true then i_countPattern_L3 else i_countPattern_L4 (w64 (x1 + 1)) x0.fKind x0.fNum x0.fText x0.fKids :=
  (den_run CC 69 (bodyT CC 69) ⟨tmOf [(0, .st 34 x0), (1, .int .i64 x1)] 0 44, [], 0⟩ fun r => prjR GG [(.int .i64)] r.1).trans (by kernel_rfl)

theorem i_Pattern_text_L3_eq (x0 : (List TPattern)) (x1 : Int) (x2 : Int) (x3 : Int) (x4 : Int) (x5 : (List UInt8)) (x6 : (List TPattern)) (x7 : (List (List UInt8))) : i_Pattern_text_L3 x0 x1 x2 x3 x4 x5 x6 x7 = if (decide (x2 < x1)) = true then ((idx x0 x2) : Option TPattern).bind fun y199 => (i_Pattern_text y199.re).bind fun r198 => ((app x7 [r198]) : Option (List (List UInt8))).bind fun y197 => i_Pattern_text_L3 x0 x1 (w64 (x2 + 1)) x3 x4 x5 x6 y197 else if (x3 == 1) = true then (i_QuoteText x5).bind fun r198 => some r198 else (i_hasSet x3).bind fun r198 => if r198 = true then (i_QuoteText x5).bind fun r196 => ((app x7 [r196]) : Option (List (List UInt8))).bind fun y195 => i_Pattern_text_L15 x3 x4 x5 x6 y195 else (i_hasNumber x3).bind fun r196 => if r196 = true then (i_decimal x4).bind fun r194 => ((app x7 [r194]) : Option (List (List UInt8))).bind fun y193 => i_Pattern_text_L15 x3 x4 x5 x6 y193 else (i_hasName x3).bind fun r194 => if r194 = true then ((app x7 [x5]) : Option (List (List UInt8))).bind fun y192 => i_Pattern_text_L15 x3 x4 x5 x6 y192 else i_Pattern_text_L15 x3 x4 x5 x6 x7 :=
  (den_run CC 37 (lbl CC 37 3) ⟨tmOf [(1, .ref 0 0), (3, .arr 1), (9, .sl (.st 34) x0), (10, .int .i64 x1), (11, .int .i64 x2)] 0 72, [.box 40 [.int .i64 x3, .int .i64 x4, .str x5, .sl (.st 34) x6] false, .arr 9 .str x7 false], 0⟩ fun r => prjR GG [.str] r.1).trans (by kernel_rfl)

theorem l_eqPatternS_L4_eq (x0 : (List TPattern)) (x1 : (List TPattern)) (x2 : Int) : l_eqPatternS_L4 x0 x1 x2 = if (decide (x2 < len x0)) = true then ((idx x0 x2) : Option TPattern).bind fun y199 => ((idx x1 x2) : Option TPattern).bind fun y198 => (l_eqPattern y199.re y198.re).bind fun r197 => if (!r197) = true then some (false) else l_eqPatternS_L4 x0 x1 (w64 (x2 + 1)) else some (true) :=
  (den_run CC 38 (lbl CC 38 4) ⟨tmOf [(0, .sl (.st 34) x0), (1, .sl (.st 34) x1), (5, .int .i64 x2)] 0 27, [], 0⟩ fun r => prjR GG [.bool] r.1).trans (by kernel_rfl)

theorem s_l06Plain_eq (x0 : TValue) (x1 : Bool) (x2 : Bool) (x3 : Bool) : s_l06Plain x0 x1 x2 x3 = if x1 = true then if x2 = true then if x3 = true then some (true) else some (x0.fRef == 0) else if (x0.fText == []) = true then if x3 = true then some (true) else some (x0.fRef == 0) else some (false) else if (x0.fNum == 0) = true then if x2 = true then if x3 = true then some (true) else some (x0.fRef == 0) else if (x0.fText == []) = true then if x3 = true then some (true) else some (x0.fRef == 0) else some (false) else some (false) :=
  (den_run CC 75 (bodyT CC 75) ⟨tmOf [(0, .st 44 x0), (1, .bool x1), (2, .bool x2), (3, .bool x3)] 0 31, [], 0⟩ fun r => prjR GG [.bool] r.1).trans (by kernel_rfl)

theorem s_l00In_eq (x0 : Int) (x1 : Int) (x2 : Int) : s_l00In x0 x1 x2 = if (decide (x0 ≥ x1)) = true then some (decide (x0 ≤ x2)) else some (false) :=
  (den_run CC 76 (bodyT CC 76) ⟨tmOf [(0, .int .i64 x0), (1, .int .i64 x1), (2, .int .i64 x2)] 0 15, [], 0⟩ fun r => prjR GG [.bool] r.1).trans (by kernel_rfl)

theorem s_ValidValue_L11_eq (x0 : Int) (x1 : Int) (x2 : (List UInt8)) (x3 : Int) : s_ValidValue_L11 x0 x1 x2 x3 = (s_l06Plain (TValue.mk x0 x1 x2 x3) (false) (false) (true)).bind fun r200 => if r200 = true then (s_l00In x3 1 1000000).bind fun r198 => some r198 else some (false) :=
  (den_run CC 39 (lbl CC 39 11) ⟨tmOf [(1, .ref 0 0)] 0 55, [.box 45 [.int .i64 x0, .int .i64 x1, .str x2, .int .i64 x3] false], 0⟩ fun r => prjR GG [.bool] r.1).trans (by kernel_rfl)

theorem s_ValidValue_L12_eq (x0 : Int) (x1 : Int) (x2 : Int) (x3 : (List UInt8)) (x4 : Int) : s_ValidValue_L12 x0 x1 x2 x3 x4 = if (x0 == 7) = true then (s_l06Plain (TValue.mk x1 x2 x3 x4) (false) (true) (false)).bind fun r199 => if r199 = true then (s_IsName x3).bind fun r197 => some r197 else some (false) else if (x0 == 8) = true then (s_l06Plain (TValue.mk x1 x2 x3 x4) (false) (true) (false)).bind fun r198 => if r198 = true then (s_IsName x3).bind fun r196 => some r196 else some (false) else some (false) :=
  (den_run CC 39 (lbl CC 39 12) ⟨tmOf [(1, .ref 0 0), (4, .int .i64 x0)] 0 55, [.box 45 [.int .i64 x1, .int .i64 x2, .str x3, .int .i64 x4] false], 0⟩ fun r => prjR GG [.bool] r.1).trans (by kernel_rfl)

theorem i_within_eq (x0 : Int) (x1 : Int) (x2 : Int) : i_within x0 x1 x2 = if (decide (x0 ≥ x1)) = true then some (decide (x0 ≤ x2)) else some (false) :=
  (den_run CC 78 (bodyT CC 78) ⟨tmOf [(0, .int .i64 x0), (1, .int .i64 x1), (2, .int .i64 x2)] 0 15, [], 0⟩ fun r => prjR GG [.bool] r.1).trans (by kernel_rfl)

theorem i_ValidValue_L11_eq (x0 : Int) (x1 : Int) (x2 : (List UInt8)) (x3 : Int) : i_ValidValue_L11 x0 x1 x2 x3 = if (x0 == x0 && (x1 == 0 && (x2 == [] && (x3 == x3 && true)))) = true then (i_isObjectId x3).bind fun r199 => some r199 else some (false) :=
  (den_run CC 40 (lbl CC 40 11) ⟨tmOf [(1, .ref 0 0)] 0 80, [.box 45 [.int .i64 x0, .int .i64 x1, .str x2, .int .i64 x3] false], 0⟩ fun r => prjR GG [.bool] r.1).trans (by kernel_rfl)

theorem i_ValidValue_L12_eq (x0 : Int) (x1 : Int) (x2 : Int) (x3 : (List UInt8)) (x4 : Int) : i_ValidValue_L12 x0 x1 x2 x3 x4 = if (x0 == 7) = true then if (x1 == x1 && (x2 == 0 && (x3 == x3 && (x4 == 0 && true)))) = true then (i_IsName x3).bind fun r198 => some r198 else some (false) else if (x0 == 8) = true then if (x1 == x1 && (x2 == 0 && (x3 == x3 && (x4 == 0 && true)))) = true then (i_IsName x3).bind fun r197 => some r197 else some (false) else some (false) :=
  (den_run CC 40 (lbl CC 40 12) ⟨tmOf [(1, .ref 0 0), (4, .int .i64 x0)] 0 80, [.box 45 [.int .i64 x1, .int .i64 x2, .str x3, .int .i64 x4] false], 0⟩ fun r => prjR GG [.bool] r.1).trans (by kernel_rfl)

theorem s_l11Node_eq (x0 : TPattern) : s_l11Node x0 = (s_l00In x0.fKind 1 24).bind fun r200 => if (!r200) = true then some (false) else (s_l11Form x0.fKind).bind fun r198 => if (len x0.fKids != Prod.fst r198) = true then some (false) else if (Prod.snd r198 == [115]) = true then if (x0.fNum == 0) = true then if (decide (len x0.fText ≤ 200)) = true then if (x0.fKind == 1) = true then some (true) else some (!x0.fText == []) else some (false) else some (false) else if (Prod.snd r198 == [110]) = true then if (x0.fText == []) = true then (s_l00In x0.fNum 0 200).bind fun r193 => some r193 else some (false) else if (Prod.snd r198 == [120]) = true then if (x0.fNum == 0) = true then (s_IsName x0.fText).bind fun r192 => some r192 else some (false) else if (x0.fNum == 0) = true then some (x0.fText == []) else some (false) :=
  (den_run CC 99 (bodyT CC 99) ⟨tmOf [(0, .st 34 x0)] 0 70, [], 0⟩ fun r => prjR GG [.bool] r.1).trans (by kernel_rfl)

theorem s_l11Valid_L5_eq (x0 : Int) (x1 : Int) (x2 : Int) (x3 : Int) (x4 : Int) (x5 : (List UInt8)) (x6 : (List TPattern)) : s_l11Valid_L5 x0 x1 x2 x3 x4 x5 x6 = if (decide (x2 < len x6)) = true then ((idx x6 x2) : Option TPattern).bind fun y199 => (s_l11Valid y199.re (w64 (x0 - x1))).bind fun r198 => if (decide (r198 < 0)) = true then some (-1) else s_l11Valid_L5 x0 (w64 (x1 + r198)) (w64 (x2 + 1)) x3 x4 x5 x6 else some x1 :=
  (den_run CC 65 (lbl CC 65 5) ⟨tmOf [(1, .int .i64 x0), (2, .ref 0 0), (5, .int .i64 x1), (6, .int .i64 x2)] 0 37, [.box 40 [.int .i64 x3, .int .i64 x4, .str x5, .sl (.st 34) x6] false], 0⟩ fun r => prjR GG [(.int .i64)] r.1).trans (by kernel_rfl)

theorem s_l11Literal_L3_eq (x0 : (List UInt8)) (x1 : Int) (x2 : (List Int)) : s_l11Literal_L3 x0 x1 x2 = if (decide (x1 < len x0)) = true then ((idx x0 x1) : Option UInt8).bind fun y199 => ((app x2 [ib y199]) : Option (List Int)).bind fun y198 => ((idx x0 x1) : Option UInt8).bind fun y197 => if (ib y197 == 34) = true then ((app y198 [34]) : Option (List Int)).bind fun y195 => s_l11Literal_L3 x0 (w64 (x1 + 1)) y195 else s_l11Literal_L3 x0 (w64 (x1 + 1)) y198 else ((app x2 [34]) : Option (List Int)).bind fun y199 => some (List.map (fun (n : Int) ↦ UInt8.ofNat (Int.toNat n)) y199) :=
  (den_run CC 66 (lbl CC 66 3) ⟨tmOf [(0, .str x0), (3, .arr 0), (4, .int .i64 x1)] 0 29, [.arr 5 (.int .u8) x2 false], 0⟩ fun r => prjR GG [.str] r.1).trans (by kernel_rfl)

theorem s_l11Text_L10_eq (x0 : (List UInt8)) (x1 : (List UInt8)) (x2 : Int) (x3 : Int) (x4 : Int) (x5 : Int) (x6 : (List UInt8)) (x7 : (List TPattern)) : s_l11Text_L10 x0 x1 x2 x3 x4 x5 x6 x7 = s_l11Text_L9 x0 x1 x2 (w64 (x3 + 1)) x4 x5 x6 x7 :=
  (den_run CC 34 (lbl CC 34 10) ⟨tmOf [(1, .ref 0 0), (4, .str x0), (5, .str x1), (6, .int .i64 x2), (7, .int .i64 x3)] 0 70, [.box 40 [.int .i64 x4, .int .i64 x5, .str x6, .sl (.st 34) x7] false], 0⟩ fun r => prjR GG [.str] r.1).trans (by kernel_rfl)

theorem s_l11Digits_eq (x0 : Int) : s_l11Digits x0 = if (decide (x0 < 10)) = true then some (List.map (fun (n : Int) ↦ UInt8.ofNat (Int.toNat n)) [Go.IntKind.wrap Go.IntKind.u8 (w64 (48 + x0))]) else ((quo Go.IntKind.i64 x0 10) : Option Int).bind fun y199 => (s_l11Digits y199).bind fun r198 => ((rem x0 10) : Option Int).bind fun y197 => ((app r198 (List.map (fun (n : Int) ↦ UInt8.ofNat (Int.toNat n)) [Go.IntKind.wrap Go.IntKind.u8 (w64 (48 + y197))])) : Option (List UInt8)).bind fun y196 => some y196 :=
  (den_run CC 68 (bodyT CC 68) ⟨tmOf [(0, .int .i64 x0)] 0 20, [], 0⟩ fun r => prjR GG [.str] r.1).trans (by kernel_rfl)

theorem i_countPattern_L3_eq : i_countPattern_L3 = some 61 :=
  (den_run CC 69 (lbl CC 69 3) ⟨tmOf [] 0 44, [], 0⟩ fun r => prjR GG [(.int .i64)] r.1).trans (by kernel_rfl)

theorem i_isArgument_eq (x0 : Int) (x1 : Int) (x2 : (List UInt8)) : i_isArgument x0 x1 x2 = if (x0 == 1) = true then if (x1 == 0) = true then (i_isShort x2).bind fun r198 => some r198 else some (false) else (i_hasSet x0).bind fun r199 => if r199 = true then if (x1 == 0) = true then if (!x2 == []) = true then (i_isShort x2).bind fun r195 => some r195 else some (false) else some (false) else (i_hasNumber x0).bind fun r197 => if r197 = true then if (x2 == []) = true then (i_within x1 0 200).bind fun r194 => some r194 else some (false) else (i_hasName x0).bind fun r195 => if r195 = true then if (x1 == 0) = true then (i_IsName x2).bind fun r192 => some r192 else some (false) else (i_isPatternKind x0).bind fun r193 => if r193 = true then if (x1 == 0) = true then some (x2 == []) else some (false) else some (false) :=
  (den_run CC 100 (bodyT CC 100) ⟨tmOf [(0, .int .i64 x0), (1, .int .i64 x1), (2, .str x2)] 0 57, [], 0⟩ fun r => prjR GG [.bool] r.1).trans (by kernel_rfl)

theorem i_kidsOf_eq (x0 : Int) : i_kidsOf x0 = if (x0 == 18) = true then some 2 else if (x0 == 19) = true then some 2 else if (x0 == 20) = true then i_kidsOf_L8 else if (x0 == 21) = true then i_kidsOf_L8 else if (x0 == 22) = true then i_kidsOf_L8 else i_kidsOf_L9 :=
  (den_run CC 101 (bodyT CC 101) ⟨tmOf [(0, .int .i64 x0)] 0 11, [], 0⟩ fun r => prjR GG [(.int .i64)] r.1).trans (by kernel_rfl)

theorem i_countPattern_L4_eq (x0 : Int) (x1 : Int) (x2 : Int) (x3 : (List UInt8)) (x4 : (List TPattern)) : i_countPattern_L4 x0 x1 x2 x3 x4 = i_countPattern_L5 x0 x4 (len x4) 0 :=
  (den_run CC 69 (lbl CC 69 4) ⟨tmOf [(1, .int .i64 x0), (2, .ref 0 0)] 0 44, [.box 40 [.int .i64 x1, .int .i64 x2, .str x3, .sl (.st 34) x4] false], 0⟩ fun r => prjR GG [(.int .i64)] r.1).trans (by kernel_rfl)

theorem i_QuoteText_eq (x0 : (List UInt8)) : i_QuoteText x0 = ((replAllS x0 ([34]) ([34, 34])) : Option (List UInt8)).bind fun y200 => ((app ([34]) y200) : Option (List UInt8)).bind fun y199 => ((app y199 ([34])) : Option (List UInt8)).bind fun y198 => some y198 :=
  (den_run CC 70 (bodyT CC 70) ⟨tmOf [(0, .str x0)] 0 7, [], 0⟩ fun r => prjR GG [.str] r.1).trans (by kernel_rfl)

theorem i_hasSet_eq (x0 : Int) : i_hasSet x0 = (i_within x0 2 5).bind fun r200 => some r200 :=
  (den_run CC 71 (bodyT CC 71) ⟨tmOf [(0, .int .i64 x0)] 0 5, [], 0⟩ fun r => prjR GG [.bool] r.1).trans (by kernel_rfl)

theorem i_Pattern_text_L15_eq (x0 : Int) (x1 : Int) (x2 : (List UInt8)) (x3 : (List TPattern)) (x4 : (List (List UInt8))) : i_Pattern_text_L15 x0 x1 x2 x3 x4 = (i_patternNames).bind fun r200 => ((idx r200 x0) : Option (List UInt8)).bind fun y199 => if (len x4 == 0) = true then some y199 else ((app y199 ([40])) : Option (List UInt8)).bind fun y197 => ((joinS x4 ([44])) : Option (List UInt8)).bind fun y196 => ((app y197 y196) : Option (List UInt8)).bind fun y195 => ((app y195 ([41])) : Option (List UInt8)).bind fun y194 => some y194 :=
  (den_run CC 37 (lbl CC 37 15) ⟨tmOf [(1, .ref 0 0), (3, .arr 1)] 0 72, [.box 40 [.int .i64 x0, .int .i64 x1, .str x2, .sl (.st 34) x3] false, .arr 9 .str x4 false], 0⟩ fun r => prjR GG [.str] r.1).trans (by kernel_rfl)

theorem i_hasNumber_eq (x0 : Int) : i_hasNumber x0 = (i_within x0 6 10).bind fun r200 => some r200 :=
  (den_run CC 72 (bodyT CC 72) ⟨tmOf [(0, .int .i64 x0)] 0 5, [], 0⟩ fun r => prjR GG [.bool] r.1).trans (by kernel_rfl)

theorem i_hasName_eq (x0 : Int) : i_hasName x0 = (i_within x0 21 24).bind fun r200 => some r200 :=
  (den_run CC 73 (bodyT CC 73) ⟨tmOf [(0, .int .i64 x0)] 0 5, [], 0⟩ fun r => prjR GG [.bool] r.1).trans (by kernel_rfl)

theorem s_IsName_eq (x0 : (List UInt8)) : s_IsName x0 = if (!x0 == []) = true then if (decide (len x0 ≤ 12)) = true then (s_l02NameEnd x0 0).bind fun r198 => some (r198 == len x0) else some (false) else some (false) :=
  (den_run CC 77 (bodyT CC 77) ⟨tmOf [(0, .str x0)] 0 17, [], 0⟩ fun r => prjR GG [.bool] r.1).trans (by kernel_rfl)

theorem i_isObjectId_eq (x0 : Int) : i_isObjectId x0 = (i_within x0 1 1000000).bind fun r200 => some r200 :=
  (den_run CC 79 (bodyT CC 79) ⟨tmOf [(0, .int .i64 x0)] 0 5, [], 0⟩ fun r => prjR GG [.bool] r.1).trans (by kernel_rfl)

theorem i_IsName_eq (x0 : (List UInt8)) : i_IsName x0 = if (decide (len x0 ≥ 1)) = true then if (decide (len x0 ≤ 12)) = true then ((idx x0 0) : Option UInt8).bind fun y198 => (i_isLetter (ib y198)).bind fun r197 => if r197 = true then (i_areAll_byte__i_isNameByte (List.map (fun (b : UInt8) ↦ ib b) x0)).bind fun r195 => some r195 else some (false) else some (false) else some (false) :=
  (den_run CC 80 (bodyT CC 80) ⟨tmOf [(0, .str x0)] 0 21, [], 0⟩ fun r => prjR GG [.bool] r.1).trans (by kernel_rfl)

theorem s_l11Form_eq (x0 : Int) : s_l11Form x0 = if (x0 == 1) = true then some (0, [115]) else (s_l11Word x0).bind fun r199 => s_l11Form_L7 (Prod.snd r199) 0 [] 0 :=
  (den_run CC 120 (bodyT CC 120) ⟨tmOf [(0, .int .i64 x0)] 0 37, [], 0⟩ fun r => prjR GG [(.int .i64), .str] r.1).trans (by kernel_rfl)

theorem i_isShort_eq (x0 : (List UInt8)) : i_isShort x0 = some (decide (len x0 ≤ 200)) :=
  (den_run CC 121 (bodyT CC 121) ⟨tmOf [(0, .str x0)] 0 6, [], 0⟩ fun r => prjR GG [.bool] r.1).trans (by kernel_rfl)

theorem i_isPatternKind_eq (x0 : Int) : i_isPatternKind x0 = (i_within x0 1 24).bind fun r200 => some r200 :=
  (den_run CC 122 (bodyT CC 122) ⟨tmOf [(0, .int .i64 x0)] 0 5, [], 0⟩ fun r => prjR GG [.bool] r.1).trans (by kernel_rfl)

theorem i_kidsOf_L8_eq : i_kidsOf_L8 = some 1 :=
  (den_run CC 101 (lbl CC 101 8) ⟨tmOf [] 0 11, [], 0⟩ fun r => prjR GG [(.int .i64)] r.1).trans (by kernel_rfl)

theorem i_kidsOf_L9_eq : i_kidsOf_L9 = some 0 :=
  (den_run CC 101 (lbl CC 101 9) ⟨tmOf [] 0 11, [], 0⟩ fun r => prjR GG [(.int .i64)] r.1).trans (by kernel_rfl)

theorem i_countPattern_L5_eq (x0 : Int) (x1 : (List TPattern)) (x2 : Int) (x3 : Int) : i_countPattern_L5 x0 x1 x2 x3 = if (decide (x3 < x2)) = true then ((idx x1 x3) : Option TPattern).bind fun y199 => (i_countPattern y199.re x0).bind fun r198 => if (decide (r198 > 60)) = true then some r198 else i_countPattern_L5 r198 x1 x2 (w64 (x3 + 1)) else some x0 :=
  (den_run CC 69 (lbl CC 69 5) ⟨tmOf [(1, .int .i64 x0), (31, .sl (.st 34) x1), (32, .int .i64 x2), (33, .int .i64 x3)] 0 44, [], 0⟩ fun r => prjR GG [(.int .i64)] r.1).trans (by kernel_rfl)

theorem i_patternNames_eq : i_patternNames = some ([[], [], [97, 110, 121], [110, 111, 116, 97, 110, 121], [115, 112, 97, 110], [98, 114, 101, 97, 107], [108, 101, 110], [112, 111, 115], [114, 112, 111, 115], [116, 97, 98], [114, 116, 97, 98], [114, 101, 109], [97, 114, 98], [98, 97, 108], [102, 101, 110, 99, 101], [97, 98, 111, 114, 116], [102, 97, 105, 108], [115, 117, 99, 99, 101, 101, 100], [97, 108, 116], [99, 97, 116], [97, 114, 98, 110, 111], [99, 111, 110, 100], [110, 111, 119], [99, 117, 114, 115, 111, 114], [100, 101, 102, 101, 114]]) :=
  (den_run CC 74 (bodyT CC 74) ⟨tmOf [] 0 2, [], 0⟩ fun r => prjR GG [(.sl .str)] r.1).trans (by kernel_rfl)

theorem s_l02NameEnd_eq (x0 : (List UInt8)) (x1 : Int) : s_l02NameEnd x0 x1 = if (decide (x1 ≥ len x0)) = true then some x1 else ((idx x0 x1) : Option UInt8).bind fun y199 => (s_l02Letter (ib y199)).bind fun r198 => if (!r198) = true then some x1 else s_l02NameEnd_L3 x0 x1 :=
  (den_run CC 103 (bodyT CC 103) ⟨tmOf [(0, .str x0), (1, .int .i64 x1)] 0 42, [], 0⟩ fun r => prjR GG [(.int .i64)] r.1).trans (by kernel_rfl)

theorem i_isLetter_eq (x0 : Int) : i_isLetter x0 = if (decide (x0 ≥ 65)) = true then if (decide (x0 ≤ 90)) = true then some (true) else if (decide (x0 ≥ 97)) = true then some (decide (x0 ≤ 122)) else some (false) else if (decide (x0 ≥ 97)) = true then some (decide (x0 ≤ 122)) else some (false) :=
  (den_run CC 104 (bodyT CC 104) ⟨tmOf [(0, .int .u8 x0)] 0 17, [], 0⟩ fun r => prjR GG [.bool] r.1).trans (by kernel_rfl)

theorem i_areAll_byte__i_isNameByte_eq (x0 : (List Int)) : i_areAll_byte__i_isNameByte x0 = i_areAll_byte_L2__i_isNameByte x0 (len x0) 0 :=
  (den_run CC 105 (bodyT CC 105) ⟨tmOf [(0, .sl (.int .u8) x0), (1, .fn 106 [])] 0 18, [], 0⟩ fun r => prjR GG [.bool] r.1).trans (by kernel_rfl)

theorem s_l11Form_L7_eq (x0 : (List UInt8)) (x1 : Int) (x2 : (List UInt8)) (x3 : Int) : s_l11Form_L7 x0 x1 x2 x3 = if (decide (x3 < len x0)) = true then ((idx x0 x3) : Option UInt8).bind fun y199 => if (ib y199 == 112) = true then s_l11Form_L7 x0 (w64 (x1 + 1)) x2 (w64 (x3 + 1)) else ((cut x0 x3 (Option.getD (Option.some (w64 (x3 + 1))) (len x0))) : Option (List UInt8)).bind fun y197 => ((app x2 y197) : Option (List UInt8)).bind fun y196 => s_l11Form_L7 x0 x1 y196 (w64 (x3 + 1)) else some ((x1), x2) :=
  (den_run CC 120 (lbl CC 120 7) ⟨tmOf [(5, .str x0), (6, .int .i64 x1), (7, .str x2), (8, .int .i64 x3)] 0 37, [], 0⟩ fun r => prjR GG [(.int .i64), .str] r.1).trans (by kernel_rfl)

theorem s_l02Letter_eq (x0 : Int) : s_l02Letter x0 = if (decide (x0 ≥ 65)) = true then if (decide (x0 ≤ 90)) = true then some (true) else if (decide (x0 ≥ 97)) = true then some (decide (x0 ≤ 122)) else some (false) else if (decide (x0 ≥ 97)) = true then some (decide (x0 ≤ 122)) else some (false) :=
  (den_run CC 124 (bodyT CC 124) ⟨tmOf [(0, .int .u8 x0)] 0 17, [], 0⟩ fun r => prjR GG [.bool] r.1).trans (by kernel_rfl)

theorem s_l02NameEnd_L3_eq (x0 : (List UInt8)) (x1 : Int) : s_l02NameEnd_L3 x0 x1 = if (decide (x1 < len x0)) = true then ((idx x0 x1) : Option UInt8).bind fun y199 => (s_l02Letter (ib y199)).bind fun r198 => if r198 = true then s_l02NameEnd_L4 x0 x1 else ((idx x0 x1) : Option UInt8).bind fun y196 => (s_l02Digit (ib y196)).bind fun r195 => if r195 = true then s_l02NameEnd_L4 x0 x1 else ((idx x0 x1) : Option UInt8).bind fun y193 => if (ib y193 == 95) = true then s_l02NameEnd_L4 x0 x1 else s_l02NameEnd_L5 x1 else s_l02NameEnd_L5 x1 :=
  (den_run CC 103 (lbl CC 103 3) ⟨tmOf [(0, .str x0), (1, .int .i64 x1)] 0 42, [], 0⟩ fun r => prjR GG [(.int .i64)] r.1).trans (by kernel_rfl)

theorem i_areAll_byte_L2__i_isNameByte_eq (x0 : (List Int)) (x1 : Int) (x2 : Int) : i_areAll_byte_L2__i_isNameByte x0 x1 x2 = if (decide (x2 < x1)) = true then ((idx x0 x2) : Option Int).bind fun y199 => (i_isNameByte y199).bind fun r198 => if (!r198) = true then some (false) else i_areAll_byte_L2__i_isNameByte x0 x1 (w64 (x2 + 1)) else some (true) :=
  (den_run CC 105 (lbl CC 105 2) ⟨tmOf [(1, .fn 106 []), (7, .sl (.int .u8) x0), (8, .int .i64 x1), (9, .int .i64 x2)] 0 18, [], 0⟩ fun r => prjR GG [.bool] r.1).trans (by kernel_rfl)

theorem s_l02NameEnd_L4_eq (x0 : (List UInt8)) (x1 : Int) : s_l02NameEnd_L4 x0 x1 = s_l02NameEnd_L3 x0 (w64 (x1 + 1)) :=
  (den_run CC 103 (lbl CC 103 4) ⟨tmOf [(0, .str x0), (1, .int .i64 x1)] 0 42, [], 0⟩ fun r => prjR GG [(.int .i64)] r.1).trans (by kernel_rfl)

theorem s_l02Digit_eq (x0 : Int) : s_l02Digit x0 = if (decide (x0 ≥ 48)) = true then some (decide (x0 ≤ 57)) else some (false) :=
  (den_run CC 125 (bodyT CC 125) ⟨tmOf [(0, .int .u8 x0)] 0 9, [], 0⟩ fun r => prjR GG [.bool] r.1).trans (by kernel_rfl)

theorem s_l02NameEnd_L5_eq (x0 : Int) : s_l02NameEnd_L5 x0 = some x0 :=
  (den_run CC 103 (lbl CC 103 5) ⟨tmOf [(1, .int .i64 x0)] 0 42, [], 0⟩ fun r => prjR GG [(.int .i64)] r.1).trans (by kernel_rfl)

theorem i_isNameByte_eq (x0 : Int) : i_isNameByte x0 = (i_isLetter x0).bind fun r200 => if r200 = true then some (true) else (i_isDigit x0).bind fun r198 => if r198 = true then some (true) else some (x0 == 95) :=
  (den_run CC 106 (bodyT CC 106) ⟨tmOf [(0, .int .u8 x0)] 0 13, [], 0⟩ fun r => prjR GG [.bool] r.1).trans (by kernel_rfl)

theorem i_isDigit_eq (x0 : Int) : i_isDigit x0 = if (decide (x0 ≥ 48)) = true then some (decide (x0 ≤ 57)) else some (false) :=
  (den_run CC 126 (bodyT CC 126) ⟨tmOf [(0, .int .u8 x0)] 0 9, [], 0⟩ fun r => prjR GG [.bool] r.1).trans (by kernel_rfl)
end Go.Dv.U
