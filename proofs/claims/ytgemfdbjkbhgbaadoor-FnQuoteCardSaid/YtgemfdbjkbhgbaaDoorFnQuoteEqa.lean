/- The functions of the program as equations on plain data, each checked by the kernel. -/
import Derived.Test.YtgemfdbjkbhgbaaDoorExa
set_option linter.all false
set_option linter.unusedVariables false
set_option linter.unusedSimpArgs false
namespace Go.Dv.U
open Go Go.Dv Go.Proofs
set_option maxRecDepth 100000
noncomputable def l_FnQuote (x0 : (List Int)) : Option (Bool) := (Den CC 3 (bodyT CC 3) ⟨tmOf [(0, .sl (.int .u8) x0)] 0 51, [], 0⟩).bind fun r => prjR GG [.bool] r.1

noncomputable def l_c2Long (x0 : (List Int)) : Option (Bool) := (Den CC 7 (bodyT CC 7) ⟨tmOf [(0, .sl (.int .u8) x0)] 0 6, [], 0⟩).bind fun r => prjR GG [.bool] r.1

noncomputable def s_DrawCanQuote (x0 : (List Int)) : Option ((List UInt8)) := (Den CC 8 (bodyT CC 8) ⟨tmOf [(0, .sl (.int .u8) x0)] 0 30, [], 0⟩).bind fun r => prjR GG [.str] r.1

noncomputable def i_CanQuote (x0 : (List UInt8)) : Option (Bool) := (Den CC 9 (bodyT CC 9) ⟨tmOf [(0, .str x0)] 0 19, [], 0⟩).bind fun r => prjR GG [.bool] r.1

noncomputable def i_QuoteString (x0 : (List UInt8)) : Option ((List UInt8)) := (Den CC 10 (bodyT CC 10) ⟨tmOf [(0, .str x0)] 0 16, [], 0⟩).bind fun r => prjR GG [.str] r.1

noncomputable def s_CanQuote (x0 : (List UInt8)) : Option (Bool) := (Den CC 11 (bodyT CC 11) ⟨tmOf [(0, .str x0)] 0 19, [], 0⟩).bind fun r => prjR GG [.bool] r.1

noncomputable def i_ScanTokens (x0 : (List UInt8)) : Option ((List TToken) × Int × Int) := (Den CC 12 (bodyT CC 12) ⟨tmOf [(0, .str x0)] 0 81, [], 0⟩).bind fun r => prjR GG [(.sl (.st 30)), (.int .i64), (.int .i64)] r.1

noncomputable def s_l00Src_one (x0 : Int) (x1 : (List Int)) (x2 : Int) (x3 : Int) : Option ((Bool) × (((List Int) × Int × Int × Unit) × Unit)) := (Den CC 26 (bodyT CC 26) ⟨tmOf [(0, .ref 0 0), (1, .int .i64 x0)] 0 9, [.box 87 [.sl (.int .u8) x1, .int .i64 x2, .int .u64 x3] false], 1⟩).bind fun r => prjRB GG [.bool] [[.im (.sl (.int .u8)), .im (.int .i64), .im (.int .u64)]] r

noncomputable def s_DrawCanQuote_L7 (x0 : Int) (x1 : (List Int)) (x2 : Int) (x3 : Int) (x4 : (List Int)) : Option ((List UInt8)) := (Den CC 8 (lbl CC 8 7) ⟨tmOf [(3, .ref 0 0), (4, .arr 1), (5, .int .i64 x0)] 0 30, [.box 87 [.sl (.int .u8) x1, .int .i64 x2, .int .u64 x3] false, .arr 5 (.int .u8) x4 false], 0⟩).bind fun r => prjR GG [.str] r.1

noncomputable def s_l00Src_text (x0 : (List (List UInt8))) (x1 : (List Int)) (x2 : Int) (x3 : Int) : Option (((List UInt8)) × (((List Int) × Int × Int × Unit) × Unit)) := (Den CC 28 (bodyT CC 28) ⟨tmOf [(0, .ref 0 0), (1, .sl .str x0)] 0 12, [.box 87 [.sl (.int .u8) x1, .int .i64 x2, .int .u64 x3] false], 1⟩).bind fun r => prjRB GG [.str] [[.im (.sl (.int .u8)), .im (.int .i64), .im (.int .u64)]] r

noncomputable def i_isPlainText (x0 : (List UInt8)) : Option (Bool) := (Den CC 29 (bodyT CC 29) ⟨tmOf [(0, .str x0)] 0 6, [], 0⟩).bind fun r => prjR GG [.bool] r.1

noncomputable def s_l01Printable (x0 : (List UInt8)) (x1 : Bool) : Option (Bool) := (Den CC 31 (bodyT CC 31) ⟨tmOf [(0, .str x0), (1, .bool x1)] 0 32, [], 0⟩).bind fun r => prjR GG [.bool] r.1

noncomputable def s_l02Holds (x0 : (List UInt8)) (x1 : Int) : Option (Bool) := (Den CC 32 (bodyT CC 32) ⟨tmOf [(0, .str x0), (1, .int .u8 x1)] 0 17, [], 0⟩).bind fun r => prjR GG [.bool] r.1

noncomputable def i_ScanTokens_L5 (x0 : (List UInt8)) (x1 : Int) (x2 : (List TToken)) : Option ((List TToken) × Int × Int) := (Den CC 12 (lbl CC 12 5) ⟨tmOf [(0, .str x0), (5, .arr 0), (6, .int .i64 x1)] 0 81, [.arr 31 (.st 30) x2 false], 0⟩).bind fun r => prjR GG [(.sl (.st 30)), (.int .i64), (.int .i64)] r.1

noncomputable def s_l00Src_pick (x0 : Int) (x1 : (List Int)) (x2 : Int) (x3 : Int) : Option ((Int) × (((List Int) × Int × Int × Unit) × Unit)) := (Den CC 27 (bodyT CC 27) ⟨tmOf [(0, .ref 0 0), (1, .int .i64 x0)] 0 20, [.box 87 [.sl (.int .u8) x1, .int .i64 x2, .int .u64 x3] false], 1⟩).bind fun r => prjRB GG [(.int .i64)] [[.im (.sl (.int .u8)), .im (.int .i64), .im (.int .u64)]] r

noncomputable def i_unless (x0 : Bool) (x1 : Int) : Option (Int) := (Den CC 37 (bodyT CC 37) ⟨tmOf [(0, .bool x0), (1, .int .i64 x1)] 0 7, [], 0⟩).bind fun r => prjR GG [(.int .i64)] r.1

noncomputable def i_first (x0 : (List Int)) : Option (Int) := (Den CC 36 (bodyT CC 36) ⟨tmOf [(0, .sl (.int .i64) x0)] 0 15, [], 0⟩).bind fun r => prjR GG [(.int .i64)] r.1

noncomputable def i_areAll_byte__i_isPlain (x0 : (List Int)) : Option (Bool) := (Den CC 65 (bodyT CC 65) ⟨tmOf [(0, .sl (.int .u8) x0), (1, .fn 66 [])] 0 18, [], 0⟩).bind fun r => prjR GG [.bool] r.1

noncomputable def s_l01Printable_L2 (x0 : (List UInt8)) (x1 : Bool) (x2 : Int) : Option (Bool) := (Den CC 31 (lbl CC 31 2) ⟨tmOf [(0, .str x0), (1, .bool x1), (5, .int .i64 x2)] 0 32, [], 0⟩).bind fun r => prjR GG [.bool] r.1

noncomputable def s_l02Holds_L2 (x0 : (List UInt8)) (x1 : Int) (x2 : Int) : Option (Bool) := (Den CC 32 (lbl CC 32 2) ⟨tmOf [(0, .str x0), (1, .int .u8 x1), (5, .int .i64 x2)] 0 17, [], 0⟩).bind fun r => prjR GG [.bool] r.1

noncomputable def i_span__i_ScanTokens_c1 (x0 : (List UInt8)) (x1 : Int) : Option (Int) := (Den CC 33 (bodyT CC 33) ⟨tmOf [(0, .str x0), (1, .int .i64 x1), (2, .fn 34 [])] 0 25, [], 0⟩).bind fun r => prjR GG [(.int .i64)] r.1

noncomputable def i_scanToken (x0 : (List UInt8)) (x1 : Int) : Option (TToken × Int × Bool) := (Den CC 35 (bodyT CC 35) ⟨tmOf [(0, .str x0), (1, .int .i64 x1)] 0 101, [], 0⟩).bind fun r => prjR GG [(.st 30), (.int .i64), .bool] r.1

noncomputable def i_ScanTokens_L16 (x0 : (List UInt8)) (x1 : Int) (x2 : (List TToken)) (x3 : Int) (x4 : Int) (x5 : (List UInt8)) (x6 : Bool) (x7 : Bool) : Option ((List TToken) × Int × Int) := (Den CC 12 (lbl CC 12 16) ⟨tmOf [(0, .str x0), (5, .arr 0), (6, .int .i64 x1), (8, .ref 1 0)] 0 81, [.arr 31 (.st 30) x2 false, .box 31 [.int .i64 x3, .int .i64 x4, .str x5, .bool x6, .bool x7] false], 0⟩).bind fun r => prjR GG [(.sl (.st 30)), (.int .i64), (.int .i64)] r.1

noncomputable def s_l00Src_next (x0 : (List Int)) (x1 : Int) (x2 : Int) : Option ((Int) × (((List Int) × Int × Int × Unit) × Unit)) := (Den CC 64 (bodyT CC 64) ⟨tmOf [(0, .ref 0 0)] 0 62, [.box 87 [.sl (.int .u8) x0, .int .i64 x1, .int .u64 x2] false], 1⟩).bind fun r => prjRB GG [(.int .i64)] [[.im (.sl (.int .u8)), .im (.int .i64), .im (.int .u64)]] r

noncomputable def i_first_L2 (x0 : (List Int)) (x1 : Int) (x2 : Int) : Option (Int) := (Den CC 36 (lbl CC 36 2) ⟨tmOf [(5, .sl (.int .i64) x0), (6, .int .i64 x1), (7, .int .i64 x2)] 0 15, [], 0⟩).bind fun r => prjR GG [(.int .i64)] r.1

noncomputable def i_areAll_byte_L2__i_isPlain (x0 : (List Int)) (x1 : Int) (x2 : Int) : Option (Bool) := (Den CC 65 (lbl CC 65 2) ⟨tmOf [(1, .fn 66 []), (7, .sl (.int .u8) x0), (8, .int .i64 x1), (9, .int .i64 x2)] 0 18, [], 0⟩).bind fun r => prjR GG [.bool] r.1

noncomputable def s_l01Printable_L5 : Option (Bool) := (Den CC 31 (lbl CC 31 5) ⟨tmOf [] 0 32, [], 0⟩).bind fun r => prjR GG [.bool] r.1

noncomputable def s_l01Printable_L3 (x0 : (List UInt8)) (x1 : Bool) (x2 : Int) : Option (Bool) := (Den CC 31 (lbl CC 31 3) ⟨tmOf [(0, .str x0), (1, .bool x1), (5, .int .i64 x2)] 0 32, [], 0⟩).bind fun r => prjR GG [.bool] r.1

noncomputable def i_span_L2__i_ScanTokens_c1 (x0 : (List UInt8)) (x1 : Int) (x2 : Int) : Option (Int) := (Den CC 33 (lbl CC 33 2) ⟨tmOf [(0, .str x0), (1, .int .i64 x1), (2, .fn 34 []), (7, .int .i64 x2)] 0 25, [], 0⟩).bind fun r => prjR GG [(.int .i64)] r.1

noncomputable def i_isLetter (x0 : Int) : Option (Bool) := (Den CC 68 (bodyT CC 68) ⟨tmOf [(0, .int .u8 x0)] 0 17, [], 0⟩).bind fun r => prjR GG [.bool] r.1

noncomputable def i_span__i_isNameByte (x0 : (List UInt8)) (x1 : Int) : Option (Int) := (Den CC 33 (bodyT CC 33) ⟨tmOf [(0, .str x0), (1, .int .i64 x1), (2, .fn 69 [])] 0 25, [], 0⟩).bind fun r => prjR GG [(.int .i64)] r.1

noncomputable def i_isDigit (x0 : Int) : Option (Bool) := (Den CC 70 (bodyT CC 70) ⟨tmOf [(0, .int .u8 x0)] 0 9, [], 0⟩).bind fun r => prjR GG [.bool] r.1

noncomputable def i_span__i_isDigit (x0 : (List UInt8)) (x1 : Int) : Option (Int) := (Den CC 33 (bodyT CC 33) ⟨tmOf [(0, .str x0), (1, .int .i64 x1), (2, .fn 70 [])] 0 25, [], 0⟩).bind fun r => prjR GG [(.int .i64)] r.1

noncomputable def i_span__i_scanToken_c1 (x0 : (List UInt8)) (x1 : Int) (x2 : Int) : Option (Int) := (Den CC 33 (bodyT CC 33) ⟨tmOf [(0, .str x0), (1, .int .i64 x1), (2, .fn 72 [.pc [.int .u8 x2]])] 0 25, [], 0⟩).bind fun r => prjR GG [(.int .i64)] r.1

noncomputable def i_isPlain (x0 : Int) : Option (Bool) := (Den CC 66 (bodyT CC 66) ⟨tmOf [(0, .int .u8 x0)] 0 9, [], 0⟩).bind fun r => prjR GG [.bool] r.1

noncomputable def i_ScanTokens_c1 (x0 : Int) : Option (Bool) := (Den CC 34 (bodyT CC 34) ⟨tmOf [(0, .int .u8 x0)] 0 5, [], 0⟩).bind fun r => prjR GG [.bool] r.1

noncomputable def i_span_L2__i_scanToken_c1 (x0 : (List UInt8)) (x1 : Int) (x2 : Int) (x3 : Int) : Option (Int) := (Den CC 33 (lbl CC 33 2) ⟨tmOf [(0, .str x0), (1, .int .i64 x1), (2, .fn 72 [.pc [.int .u8 x2]]), (7, .int .i64 x3)] 0 25, [], 0⟩).bind fun r => prjR GG [(.int .i64)] r.1

noncomputable def i_scanToken_c1 (x0 : Int) (x1 : Int) : Option (Bool) := (Den CC 72 (bodyT CC 72) ⟨tmOf [(0, .int .u8 x0), (1, .pc [.int .u8 x1])] 0 7, [], 0⟩).bind fun r => prjR GG [.bool] r.1

theorem l_FnQuote_eq (x0 : (List Int)) : l_FnQuote x0 = (l_c2Long x0).bind fun r200 => if r200 = true then some (true) else (s_DrawCanQuote x0).bind fun r198 => (i_CanQuote r198).bind fun r197 => if (!r197) = true then (i_QuoteString r198).bind fun r195 => if (r195 == []) = true then (s_CanQuote r198).bind fun r193 => some (!r193) else some (false) else (i_QuoteString r198).bind fun r195 => (i_ScanTokens r195).bind fun r194 => if (Prod.snd (Prod.snd r194) == 0) = true then if (len (Prod.fst r194) == 1) = true then ((idx (Prod.fst r194) 0) : Option TToken).bind fun y191 => if (y191.fKind == 3) = true then ((idx (Prod.fst r194) 0) : Option TToken).bind fun y189 => some (y189.fText == r198) else some (false) else some (false) else some (false) :=
  (den_run CC 3 (bodyT CC 3) ⟨tmOf [(0, .sl (.int .u8) x0)] 0 51, [], 0⟩ fun r => prjR GG [.bool] r.1).trans (by kernel_rfl)

theorem l_c2Long_eq (x0 : (List Int)) : l_c2Long x0 = some (decide (len x0 > 1048576)) :=
  (den_run CC 7 (bodyT CC 7) ⟨tmOf [(0, .sl (.int .u8) x0)] 0 6, [], 0⟩ fun r => prjR GG [.bool] r.1).trans (by kernel_rfl)

theorem s_DrawCanQuote_eq (x0 : (List Int)) : s_DrawCanQuote x0 = (s_l00Src_one 6 x0 0 0).bind fun r200 => if (Prod.fst r200) = true then ((mk 3 0) : Option (List Int)).bind fun y198 => some (List.map (fun (n : Int) ↦ UInt8.ofNat (Int.toNat n)) y198) else (s_l00Src_one 6 (Prod.fst (Prod.fst (Prod.snd r200))) (Prod.fst (Prod.snd (Prod.fst (Prod.snd r200)))) (Prod.fst (Prod.snd (Prod.snd (Prod.fst (Prod.snd r200)))))).bind fun r198 => if (Prod.fst r198) = true then s_DrawCanQuote_L7 0 (Prod.fst (Prod.fst (Prod.snd r198))) (Prod.fst (Prod.snd (Prod.fst (Prod.snd r198)))) (Prod.fst (Prod.snd (Prod.snd (Prod.fst (Prod.snd r198))))) ([]) else (s_l00Src_text ([[], [97], [105, 116, 39, 115], [115, 97, 121, 32, 34, 120, 34], [39, 34]]) (Prod.fst (Prod.fst (Prod.snd r198))) (Prod.fst (Prod.snd (Prod.fst (Prod.snd r198)))) (Prod.fst (Prod.snd (Prod.snd (Prod.fst (Prod.snd r198)))))).bind fun r196 => some (Prod.fst r196) :=
  (den_run CC 8 (bodyT CC 8) ⟨tmOf [(0, .sl (.int .u8) x0)] 0 30, [], 0⟩ fun r => prjR GG [.str] r.1).trans (by kernel_rfl)

theorem i_CanQuote_eq (x0 : (List UInt8)) : i_CanQuote x0 = if (decide (len x0 ≤ 200)) = true then (i_isPlainText x0).bind fun r199 => if r199 = true then ((containsS x0 ([39])) : Option Bool).bind fun y197 => if y197 = true then ((containsS x0 ([34])) : Option Bool).bind fun y195 => some (!y195) else some (true) else some (false) else some (false) :=
  (den_run CC 9 (bodyT CC 9) ⟨tmOf [(0, .str x0)] 0 19, [], 0⟩ fun r => prjR GG [.bool] r.1).trans (by kernel_rfl)

theorem i_QuoteString_eq (x0 : (List UInt8)) : i_QuoteString x0 = (i_CanQuote x0).bind fun r200 => if (!r200) = true then some [] else ((containsS x0 ([39])) : Option Bool).bind fun y198 => if y198 = true then ((app ([34]) x0) : Option (List UInt8)).bind fun y196 => ((app y196 ([34])) : Option (List UInt8)).bind fun y195 => some y195 else ((app ([39]) x0) : Option (List UInt8)).bind fun y196 => ((app y196 ([39])) : Option (List UInt8)).bind fun y195 => some y195 :=
  (den_run CC 10 (bodyT CC 10) ⟨tmOf [(0, .str x0)] 0 16, [], 0⟩ fun r => prjR GG [.str] r.1).trans (by kernel_rfl)

theorem s_CanQuote_eq (x0 : (List UInt8)) : s_CanQuote x0 = if (decide (len x0 ≤ 200)) = true then (s_l01Printable x0 (false)).bind fun r199 => if r199 = true then (s_l02Holds x0 39).bind fun r197 => if r197 = true then (s_l02Holds x0 34).bind fun r195 => some (!r195) else some (true) else some (false) else some (false) :=
  (den_run CC 11 (bodyT CC 11) ⟨tmOf [(0, .str x0)] 0 19, [], 0⟩ fun r => prjR GG [.bool] r.1).trans (by kernel_rfl)

theorem i_ScanTokens_eq (x0 : (List UInt8)) : i_ScanTokens x0 = if (decide (len x0 > 4000)) = true then some (([]), 0, 1) else (i_isPlainText x0).bind fun r199 => if (!r199) = true then some (([]), 0, 1) else i_ScanTokens_L5 x0 0 ([]) :=
  (den_run CC 12 (bodyT CC 12) ⟨tmOf [(0, .str x0)] 0 81, [], 0⟩ fun r => prjR GG [(.sl (.st 30)), (.int .i64), (.int .i64)] r.1).trans (by kernel_rfl)

theorem s_l00Src_one_eq (x0 : Int) (x1 : (List Int)) (x2 : Int) (x3 : Int) : s_l00Src_one x0 x1 x2 x3 = (s_l00Src_pick x0 x1 x2 x3).bind fun r200 => some (((Prod.fst r200 == 0)), (((Prod.fst (Prod.fst (Prod.snd r200))), (Prod.fst (Prod.snd (Prod.fst (Prod.snd r200)))), (Prod.fst (Prod.snd (Prod.snd (Prod.fst (Prod.snd r200))))), ()), ())) :=
  (den_run CC 26 (bodyT CC 26) ⟨tmOf [(0, .ref 0 0), (1, .int .i64 x0)] 0 9, [.box 87 [.sl (.int .u8) x1, .int .i64 x2, .int .u64 x3] false], 1⟩ fun r => prjRB GG [.bool] [[.im (.sl (.int .u8)), .im (.int .i64), .im (.int .u64)]] r).trans (by kernel_rfl)

theorem s_DrawCanQuote_L7_eq (x0 : Int) (x1 : (List Int)) (x2 : Int) (x3 : Int) (x4 : (List Int)) : s_DrawCanQuote_L7 x0 x1 x2 x3 x4 = (s_l00Src_pick 3 x1 x2 x3).bind fun r200 => if (decide (x0 < w64 (199 + Prod.fst r200))) = true then ((app x4 [97]) : Option (List Int)).bind fun y198 => s_DrawCanQuote_L7 (w64 (x0 + 1)) (Prod.fst (Prod.fst (Prod.snd r200))) (Prod.fst (Prod.snd (Prod.fst (Prod.snd r200)))) (Prod.fst (Prod.snd (Prod.snd (Prod.fst (Prod.snd r200))))) y198 else some (List.map (fun (n : Int) ↦ UInt8.ofNat (Int.toNat n)) x4) :=
  (den_run CC 8 (lbl CC 8 7) ⟨tmOf [(3, .ref 0 0), (4, .arr 1), (5, .int .i64 x0)] 0 30, [.box 87 [.sl (.int .u8) x1, .int .i64 x2, .int .u64 x3] false, .arr 5 (.int .u8) x4 false], 0⟩ fun r => prjR GG [.str] r.1).trans (by kernel_rfl)

theorem s_l00Src_text_eq (x0 : (List (List UInt8))) (x1 : (List Int)) (x2 : Int) (x3 : Int) : s_l00Src_text x0 x1 x2 x3 = (s_l00Src_pick (len x0) x1 x2 x3).bind fun r200 => ((idx x0 (Prod.fst r200)) : Option (List UInt8)).bind fun y199 => some ((y199), (((Prod.fst (Prod.fst (Prod.snd r200))), (Prod.fst (Prod.snd (Prod.fst (Prod.snd r200)))), (Prod.fst (Prod.snd (Prod.snd (Prod.fst (Prod.snd r200))))), ()), ())) :=
  (den_run CC 28 (bodyT CC 28) ⟨tmOf [(0, .ref 0 0), (1, .sl .str x0)] 0 12, [.box 87 [.sl (.int .u8) x1, .int .i64 x2, .int .u64 x3] false], 1⟩ fun r => prjRB GG [.str] [[.im (.sl (.int .u8)), .im (.int .i64), .im (.int .u64)]] r).trans (by kernel_rfl)

theorem i_isPlainText_eq (x0 : (List UInt8)) : i_isPlainText x0 = (i_areAll_byte__i_isPlain (List.map (fun (b : UInt8) ↦ ib b) x0)).bind fun r200 => some r200 :=
  (den_run CC 29 (bodyT CC 29) ⟨tmOf [(0, .str x0)] 0 6, [], 0⟩ fun r => prjR GG [.bool] r.1).trans (by kernel_rfl)

theorem s_l01Printable_eq (x0 : (List UInt8)) (x1 : Bool) : s_l01Printable x0 x1 = s_l01Printable_L2 x0 x1 0 :=
  (den_run CC 31 (bodyT CC 31) ⟨tmOf [(0, .str x0), (1, .bool x1)] 0 32, [], 0⟩ fun r => prjR GG [.bool] r.1).trans (by kernel_rfl)

theorem s_l02Holds_eq (x0 : (List UInt8)) (x1 : Int) : s_l02Holds x0 x1 = s_l02Holds_L2 x0 x1 0 :=
  (den_run CC 32 (bodyT CC 32) ⟨tmOf [(0, .str x0), (1, .int .u8 x1)] 0 17, [], 0⟩ fun r => prjR GG [.bool] r.1).trans (by kernel_rfl)

theorem i_ScanTokens_L5_eq (x0 : (List UInt8)) (x1 : Int) (x2 : (List TToken)) : i_ScanTokens_L5 x0 x1 x2 = if (decide (x1 < len x0)) = true then (i_span__i_ScanTokens_c1 x0 x1).bind fun r199 => if (w64 (x1 + r199) == len x0) = true then some ((x2), 0, 0) else (i_scanToken x0 (w64 (x1 + r199))).bind fun r197 => (i_unless (Prod.snd (Prod.snd r197)) 2).bind fun r196 => (i_unless (decide (len x2 < 120)) 6).bind fun r195 => (i_first ([r196, r195])).bind fun r194 => if (r194 != 0) = true then some (([]), (w64 (x1 + r199)), r194) else if (decide (r199 > 0)) = true then if (w64 (w64 (x1 + r199) + Prod.fst (Prod.snd r197)) == len x0) = true then i_ScanTokens_L16 x0 (w64 (w64 (x1 + r199) + Prod.fst (Prod.snd r197))) x2 (TToken.fKind (Prod.fst r197)) (TToken.fNum (Prod.fst r197)) (TToken.fText (Prod.fst r197)) (true) (true) else ((idx x0 (w64 (w64 (x1 + r199) + Prod.fst (Prod.snd r197)))) : Option UInt8).bind fun y190 => i_ScanTokens_L16 x0 (w64 (w64 (x1 + r199) + Prod.fst (Prod.snd r197))) x2 (TToken.fKind (Prod.fst r197)) (TToken.fNum (Prod.fst r197)) (TToken.fText (Prod.fst r197)) (true) (ib y190 == 32) else if (w64 (w64 (x1 + r199) + Prod.fst (Prod.snd r197)) == len x0) = true then i_ScanTokens_L16 x0 (w64 (w64 (x1 + r199) + Prod.fst (Prod.snd r197))) x2 (TToken.fKind (Prod.fst r197)) (TToken.fNum (Prod.fst r197)) (TToken.fText (Prod.fst r197)) (len x2 == 0) (true) else ((idx x0 (w64 (w64 (x1 + r199) + Prod.fst (Prod.snd r197)))) : Option UInt8).bind fun y190 => i_ScanTokens_L16 x0 (w64 (w64 (x1 + r199) + Prod.fst (Prod.snd r197))) x2 (TToken.fKind (Prod.fst r197)) (TToken.fNum (Prod.fst r197)) (TToken.fText (Prod.fst r197)) (len x2 == 0) (ib y190 == 32) else some ((x2), 0, 0) :=
  (den_run CC 12 (lbl CC 12 5) ⟨tmOf [(0, .str x0), (5, .arr 0), (6, .int .i64 x1)] 0 81, [.arr 31 (.st 30) x2 false], 0⟩ fun r => prjR GG [(.sl (.st 30)), (.int .i64), (.int .i64)] r.1).trans (by kernel_rfl)

theorem s_l00Src_pick_eq (x0 : Int) (x1 : (List Int)) (x2 : Int) (x3 : Int) : s_l00Src_pick x0 x1 x2 x3 = if (decide (x0 ≤ 1)) = true then some ((0), (((x1), (x2), (x3), ()), ())) else (s_l00Src_next x1 x2 x3).bind fun r199 => if (decide (x0 > 200)) = true then (s_l00Src_next (Prod.fst (Prod.fst (Prod.snd r199))) (Prod.fst (Prod.snd (Prod.fst (Prod.snd r199)))) (Prod.fst (Prod.snd (Prod.snd (Prod.fst (Prod.snd r199)))))).bind fun r197 => ((rem (w64 (w64 (Prod.fst r199 * 256) + Prod.fst r197)) x0) : Option Int).bind fun y196 => some ((y196), (((Prod.fst (Prod.fst (Prod.snd r197))), (Prod.fst (Prod.snd (Prod.fst (Prod.snd r197)))), (Prod.fst (Prod.snd (Prod.snd (Prod.fst (Prod.snd r197))))), ()), ())) else ((rem (Prod.fst r199) x0) : Option Int).bind fun y197 => some ((y197), (((Prod.fst (Prod.fst (Prod.snd r199))), (Prod.fst (Prod.snd (Prod.fst (Prod.snd r199)))), (Prod.fst (Prod.snd (Prod.snd (Prod.fst (Prod.snd r199))))), ()), ())) :=
  (den_run CC 27 (bodyT CC 27) ⟨tmOf [(0, .ref 0 0), (1, .int .i64 x0)] 0 20, [.box 87 [.sl (.int .u8) x1, .int .i64 x2, .int .u64 x3] false], 1⟩ fun r => prjRB GG [(.int .i64)] [[.im (.sl (.int .u8)), .im (.int .i64), .im (.int .u64)]] r).trans (by kernel_rfl)

theorem i_unless_eq (x0 : Bool) (x1 : Int) : i_unless x0 x1 = if x0 = true then some 0 else some x1 :=
  (den_run CC 37 (bodyT CC 37) ⟨tmOf [(0, .bool x0), (1, .int .i64 x1)] 0 7, [], 0⟩ fun r => prjR GG [(.int .i64)] r.1).trans (by kernel_rfl)

theorem i_first_eq (x0 : (List Int)) : i_first x0 = i_first_L2 x0 (len x0) 0 :=
  (den_run CC 36 (bodyT CC 36) ⟨tmOf [(0, .sl (.int .i64) x0)] 0 15, [], 0⟩ fun r => prjR GG [(.int .i64)] r.1).trans (by kernel_rfl)

theorem i_areAll_byte__i_isPlain_eq (x0 : (List Int)) : i_areAll_byte__i_isPlain x0 = i_areAll_byte_L2__i_isPlain x0 (len x0) 0 :=
  (den_run CC 65 (bodyT CC 65) ⟨tmOf [(0, .sl (.int .u8) x0), (1, .fn 66 [])] 0 18, [], 0⟩ fun r => prjR GG [.bool] r.1).trans (by kernel_rfl)

theorem s_l01Printable_L2_eq (x0 : (List UInt8)) (x1 : Bool) (x2 : Int) : s_l01Printable_L2 x0 x1 x2 = if (decide (x2 < len x0)) = true then ((idx x0 x2) : Option UInt8).bind fun y199 => if (decide (ib y199 < 32)) = true then if x1 = true then ((idx x0 x2) : Option UInt8).bind fun y196 => if (!ib y196 == 10) = true then s_l01Printable_L5 else s_l01Printable_L3 x0 x1 x2 else s_l01Printable_L5 else ((idx x0 x2) : Option UInt8).bind fun y197 => if (decide (ib y197 > 126)) = true then if x1 = true then ((idx x0 x2) : Option UInt8).bind fun y194 => if (!ib y194 == 10) = true then s_l01Printable_L5 else s_l01Printable_L3 x0 x1 x2 else s_l01Printable_L5 else s_l01Printable_L3 x0 x1 x2 else some (true) :=
  (den_run CC 31 (lbl CC 31 2) ⟨tmOf [(0, .str x0), (1, .bool x1), (5, .int .i64 x2)] 0 32, [], 0⟩ fun r => prjR GG [.bool] r.1).trans (by kernel_rfl)

theorem s_l02Holds_L2_eq (x0 : (List UInt8)) (x1 : Int) (x2 : Int) : s_l02Holds_L2 x0 x1 x2 = if (decide (x2 < len x0)) = true then ((idx x0 x2) : Option UInt8).bind fun y199 => if (ib y199 == x1) = true then some (true) else s_l02Holds_L2 x0 x1 (w64 (x2 + 1)) else some (false) :=
  (den_run CC 32 (lbl CC 32 2) ⟨tmOf [(0, .str x0), (1, .int .u8 x1), (5, .int .i64 x2)] 0 17, [], 0⟩ fun r => prjR GG [.bool] r.1).trans (by kernel_rfl)

theorem i_span__i_ScanTokens_c1_eq (x0 : (List UInt8)) (x1 : Int) : i_span__i_ScanTokens_c1 x0 x1 = i_span_L2__i_ScanTokens_c1 x0 x1 x1 :=
  (den_run CC 33 (bodyT CC 33) ⟨tmOf [(0, .str x0), (1, .int .i64 x1), (2, .fn 34 [])] 0 25, [], 0⟩ fun r => prjR GG [(.int .i64)] r.1).trans (by kernel_rfl)

theorem i_scanToken_eq (x0 : (List UInt8)) (x1 : Int) : i_scanToken x0 x1 = ((idx x0 x1) : Option UInt8).bind fun y200 => (i_isLetter (ib y200)).bind fun r199 => if r199 = true then (i_span__i_isNameByte x0 x1).bind fun r197 => ((cut x0 x1 (Option.getD (Option.some (w64 (x1 + r197))) (len x0))) : Option (List UInt8)).bind fun y196 => some ((TToken.mk (Int.ofNat 1) (Int.ofNat 0) y196 false false), (r197), (decide (r197 ≤ 12))) else (i_isDigit (ib y200)).bind fun r197 => if r197 = true then (i_span__i_isDigit x0 x1).bind fun r195 => ((cut x0 x1 (Option.getD (Option.some (w64 (x1 + r195))) (len x0))) : Option (List UInt8)).bind fun y194 => ((readIntS y194) : Option (Int × Bool)).bind fun y193 => some ((TToken.mk (Int.ofNat 2) (Prod.fst y193) [] false false), (r195), (Prod.snd y193)) else if (ib y200 == 39) = true then (i_span__i_scanToken_c1 x0 (w64 (x1 + 1)) (ib y200)).bind fun r194 => ((cut x0 (w64 (x1 + 1)) (Option.getD (Option.some (w64 (w64 (x1 + 1) + r194))) (len x0))) : Option (List UInt8)).bind fun y193 => if (decide (w64 (w64 (x1 + 1) + r194) < len x0)) = true then some ((TToken.mk (Int.ofNat 3) (Int.ofNat 0) y193 false false), (w64 (r194 + 2)), (decide (r194 ≤ 200))) else some ((TToken.mk (Int.ofNat 3) (Int.ofNat 0) y193 false false), (w64 (r194 + 2)), (false)) else if (ib y200 == 34) = true then (i_span__i_scanToken_c1 x0 (w64 (x1 + 1)) (ib y200)).bind fun r193 => ((cut x0 (w64 (x1 + 1)) (Option.getD (Option.some (w64 (w64 (x1 + 1) + r193))) (len x0))) : Option (List UInt8)).bind fun y192 => if (decide (w64 (w64 (x1 + 1) + r193) < len x0)) = true then some ((TToken.mk (Int.ofNat 3) (Int.ofNat 0) y192 false false), (w64 (r193 + 2)), (decide (r193 ≤ 200))) else some ((TToken.mk (Int.ofNat 3) (Int.ofNat 0) y192 false false), (w64 (r193 + 2)), (false)) else ((indexByteS ([43, 45, 42, 47, 124, 46, 36, 64, 61]) (ib y200)) : Option Int).bind fun y193 => if (decide (y193 ≥ 0)) = true then ((chr (ib y200)) : Option (List UInt8)).bind fun y191 => some ((TToken.mk (Int.ofNat 4) (Int.ofNat 0) y191 false false), 1, (true)) else ((indexByteS ([40, 41, 60, 62, 44, 58]) (ib y200)) : Option Int).bind fun y191 => some ((TToken.mk (Decidable.rec (fun (h : ¬(Go.IntKind.signed Go.IntKind.i64 && decide ((5 + y191) % 2 ^ Go.IntKind.bits Go.IntKind.i64 ≥ 2 ^ (Go.IntKind.bits Go.IntKind.i64 - 1))) = true) ↦ (5 + y191) % 2 ^ Go.IntKind.bits Go.IntKind.i64) (fun (h : (Go.IntKind.signed Go.IntKind.i64 && decide ((5 + y191) % 2 ^ Go.IntKind.bits Go.IntKind.i64 ≥ 2 ^ (Go.IntKind.bits Go.IntKind.i64 - 1))) = true) ↦ (5 + y191) % 2 ^ Go.IntKind.bits Go.IntKind.i64 - 2 ^ Go.IntKind.bits Go.IntKind.i64) (instDecidableEqBool (Go.IntKind.signed Go.IntKind.i64 && decide ((5 + y191) % 2 ^ Go.IntKind.bits Go.IntKind.i64 ≥ 2 ^ (Go.IntKind.bits Go.IntKind.i64 - 1))) true)) (Int.ofNat 0) [] false false), 1, (decide (y191 ≥ 0))) :=
  (den_run CC 35 (bodyT CC 35) ⟨tmOf [(0, .str x0), (1, .int .i64 x1)] 0 101, [], 0⟩ fun r => prjR GG [(.st 30), (.int .i64), .bool] r.1).trans (by kernel_rfl)

theorem i_ScanTokens_L16_eq (x0 : (List UInt8)) (x1 : Int) (x2 : (List TToken)) (x3 : Int) (x4 : Int) (x5 : (List UInt8)) (x6 : Bool) (x7 : Bool) : i_ScanTokens_L16 x0 x1 x2 x3 x4 x5 x6 x7 = ((app x2 [TToken.mk x3 x4 x5 x6 x7]) : Option (List TToken)).bind fun y200 => i_ScanTokens_L5 x0 x1 y200 :=
  (den_run CC 12 (lbl CC 12 16) ⟨tmOf [(0, .str x0), (5, .arr 0), (6, .int .i64 x1), (8, .ref 1 0)] 0 81, [.arr 31 (.st 30) x2 false, .box 31 [.int .i64 x3, .int .i64 x4, .str x5, .bool x6, .bool x7] false], 0⟩ fun r => prjR GG [(.sl (.st 30)), (.int .i64), (.int .i64)] r.1).trans (by kernel_rfl)

theorem s_l00Src_next_eq (x0 : (List Int)) (x1 : Int) (x2 : Int) : s_l00Src_next x0 x1 x2 = if (decide (x1 < len x0)) = true then ((idx x0 x1) : Option Int).bind fun y199 => if (decide (w64 (x1 + 1) ≤ len x0)) = true then some (((w64 y199)), (((x0), (w64 (x1 + 1)), (Go.IntKind.wrap Go.IntKind.u64 (Go.IntKind.wrap Go.IntKind.u64 (Go.IntKind.wrap Go.IntKind.u64 (x2 * 6364136223846793005) + Go.IntKind.wrap Go.IntKind.u64 (w64 y199)) + 1442695040888963407)), ()), ())) else ((shr Go.IntKind.u64 (Go.IntKind.wrap Go.IntKind.u64 (Go.IntKind.wrap Go.IntKind.u64 (Go.IntKind.wrap Go.IntKind.u64 (x2 * 6364136223846793005) + Go.IntKind.wrap Go.IntKind.u64 (w64 y199)) + 1442695040888963407)) 40) : Option Int).bind fun y197 => some (((w64 (bitsOp Go.BinOp.and Go.IntKind.u64 y197 255))), (((x0), (w64 (x1 + 1)), (Go.IntKind.wrap Go.IntKind.u64 (Go.IntKind.wrap Go.IntKind.u64 (Go.IntKind.wrap Go.IntKind.u64 (x2 * 6364136223846793005) + Go.IntKind.wrap Go.IntKind.u64 (w64 y199)) + 1442695040888963407)), ()), ())) else if (decide (w64 (x1 + 1) ≤ len x0)) = true then some ((0), (((x0), (w64 (x1 + 1)), (Go.IntKind.wrap Go.IntKind.u64 (Go.IntKind.wrap Go.IntKind.u64 (Go.IntKind.wrap Go.IntKind.u64 (x2 * 6364136223846793005) + Go.IntKind.wrap Go.IntKind.u64 0) + 1442695040888963407)), ()), ())) else ((shr Go.IntKind.u64 (Go.IntKind.wrap Go.IntKind.u64 (Go.IntKind.wrap Go.IntKind.u64 (Go.IntKind.wrap Go.IntKind.u64 (x2 * 6364136223846793005) + Go.IntKind.wrap Go.IntKind.u64 0) + 1442695040888963407)) 40) : Option Int).bind fun y198 => some (((w64 (bitsOp Go.BinOp.and Go.IntKind.u64 y198 255))), (((x0), (w64 (x1 + 1)), (Go.IntKind.wrap Go.IntKind.u64 (Go.IntKind.wrap Go.IntKind.u64 (Go.IntKind.wrap Go.IntKind.u64 (x2 * 6364136223846793005) + Go.IntKind.wrap Go.IntKind.u64 0) + 1442695040888963407)), ()), ())) :=
  (den_run CC 64 (bodyT CC 64) ⟨tmOf [(0, .ref 0 0)] 0 62, [.box 87 [.sl (.int .u8) x0, .int .i64 x1, .int .u64 x2] false], 1⟩ fun r => prjRB GG [(.int .i64)] [[.im (.sl (.int .u8)), .im (.int .i64), .im (.int .u64)]] r).trans (by kernel_rfl)

theorem i_first_L2_eq (x0 : (List Int)) (x1 : Int) (x2 : Int) : i_first_L2 x0 x1 x2 = if (decide (x2 < x1)) = true then ((idx x0 x2) : Option Int).bind fun y199 => if (y199 != 0) = true then some y199 else i_first_L2 x0 x1 (w64 (x2 + 1)) else some 0 :=
  (den_run CC 36 (lbl CC 36 2) ⟨tmOf [(5, .sl (.int .i64) x0), (6, .int .i64 x1), (7, .int .i64 x2)] 0 15, [], 0⟩ fun r => prjR GG [(.int .i64)] r.1).trans (by kernel_rfl)

theorem i_areAll_byte_L2__i_isPlain_eq (x0 : (List Int)) (x1 : Int) (x2 : Int) : i_areAll_byte_L2__i_isPlain x0 x1 x2 = if (decide (x2 < x1)) = true then ((idx x0 x2) : Option Int).bind fun y199 => (i_isPlain y199).bind fun r198 => if (!r198) = true then some (false) else i_areAll_byte_L2__i_isPlain x0 x1 (w64 (x2 + 1)) else some (true) :=
  (den_run CC 65 (lbl CC 65 2) ⟨tmOf [(1, .fn 66 []), (7, .sl (.int .u8) x0), (8, .int .i64 x1), (9, .int .i64 x2)] 0 18, [], 0⟩ fun r => prjR GG [.bool] r.1).trans (by kernel_rfl)

theorem s_l01Printable_L5_eq : s_l01Printable_L5 = some (false) :=
  (den_run CC 31 (lbl CC 31 5) ⟨tmOf [] 0 32, [], 0⟩ fun r => prjR GG [.bool] r.1).trans (by kernel_rfl)

theorem s_l01Printable_L3_eq (x0 : (List UInt8)) (x1 : Bool) (x2 : Int) : s_l01Printable_L3 x0 x1 x2 = s_l01Printable_L2 x0 x1 (w64 (x2 + 1)) :=
  (den_run CC 31 (lbl CC 31 3) ⟨tmOf [(0, .str x0), (1, .bool x1), (5, .int .i64 x2)] 0 32, [], 0⟩ fun r => prjR GG [.bool] r.1).trans (by kernel_rfl)

theorem i_span_L2__i_ScanTokens_c1_eq (x0 : (List UInt8)) (x1 : Int) (x2 : Int) : i_span_L2__i_ScanTokens_c1 x0 x1 x2 = if (decide (x2 < len x0)) = true then ((idx x0 x2) : Option UInt8).bind fun y199 => (i_ScanTokens_c1 (ib y199)).bind fun r198 => if r198 = true then i_span_L2__i_ScanTokens_c1 x0 x1 (w64 (x2 + 1)) else some (w64 (x2 - x1)) else some (w64 (x2 - x1)) :=
  (den_run CC 33 (lbl CC 33 2) ⟨tmOf [(0, .str x0), (1, .int .i64 x1), (2, .fn 34 []), (7, .int .i64 x2)] 0 25, [], 0⟩ fun r => prjR GG [(.int .i64)] r.1).trans (by kernel_rfl)

theorem i_isLetter_eq (x0 : Int) : i_isLetter x0 = if (decide (x0 ≥ 65)) = true then if (decide (x0 ≤ 90)) = true then some (true) else if (decide (x0 ≥ 97)) = true then some (decide (x0 ≤ 122)) else some (false) else if (decide (x0 ≥ 97)) = true then some (decide (x0 ≤ 122)) else some (false) :=
  (den_run CC 68 (bodyT CC 68) ⟨tmOf [(0, .int .u8 x0)] 0 17, [], 0⟩ fun r => prjR GG [.bool] r.1).trans (by kernel_rfl)

theorem i_isDigit_eq (x0 : Int) : i_isDigit x0 = if (decide (x0 ≥ 48)) = true then some (decide (x0 ≤ 57)) else some (false) :=
  (den_run CC 70 (bodyT CC 70) ⟨tmOf [(0, .int .u8 x0)] 0 9, [], 0⟩ fun r => prjR GG [.bool] r.1).trans (by kernel_rfl)

theorem i_span__i_scanToken_c1_eq (x0 : (List UInt8)) (x1 : Int) (x2 : Int) : i_span__i_scanToken_c1 x0 x1 x2 = i_span_L2__i_scanToken_c1 x0 x1 x2 x1 :=
  (den_run CC 33 (bodyT CC 33) ⟨tmOf [(0, .str x0), (1, .int .i64 x1), (2, .fn 72 [.pc [.int .u8 x2]])] 0 25, [], 0⟩ fun r => prjR GG [(.int .i64)] r.1).trans (by kernel_rfl)

theorem i_isPlain_eq (x0 : Int) : i_isPlain x0 = if (decide (x0 ≥ 32)) = true then some (decide (x0 ≤ 126)) else some (false) :=
  (den_run CC 66 (bodyT CC 66) ⟨tmOf [(0, .int .u8 x0)] 0 9, [], 0⟩ fun r => prjR GG [.bool] r.1).trans (by kernel_rfl)

theorem i_ScanTokens_c1_eq (x0 : Int) : i_ScanTokens_c1 x0 = some (x0 == 32) :=
  (den_run CC 34 (bodyT CC 34) ⟨tmOf [(0, .int .u8 x0)] 0 5, [], 0⟩ fun r => prjR GG [.bool] r.1).trans (by kernel_rfl)

theorem i_span_L2__i_scanToken_c1_eq (x0 : (List UInt8)) (x1 : Int) (x2 : Int) (x3 : Int) : i_span_L2__i_scanToken_c1 x0 x1 x2 x3 = if (decide (x3 < len x0)) = true then ((idx x0 x3) : Option UInt8).bind fun y199 => (i_scanToken_c1 (ib y199) x2).bind fun r198 => if r198 = true then i_span_L2__i_scanToken_c1 x0 x1 x2 (w64 (x3 + 1)) else some (w64 (x3 - x1)) else some (w64 (x3 - x1)) :=
  (den_run CC 33 (lbl CC 33 2) ⟨tmOf [(0, .str x0), (1, .int .i64 x1), (2, .fn 72 [.pc [.int .u8 x2]]), (7, .int .i64 x3)] 0 25, [], 0⟩ fun r => prjR GG [(.int .i64)] r.1).trans (by kernel_rfl)

theorem i_scanToken_c1_eq (x0 : Int) (x1 : Int) : i_scanToken_c1 x0 x1 = some (x0 != x1) :=
  (den_run CC 72 (bodyT CC 72) ⟨tmOf [(0, .int .u8 x0), (1, .pc [.int .u8 x1])] 0 7, [], 0⟩ fun r => prjR GG [.bool] r.1).trans (by kernel_rfl)
end Go.Dv.U
