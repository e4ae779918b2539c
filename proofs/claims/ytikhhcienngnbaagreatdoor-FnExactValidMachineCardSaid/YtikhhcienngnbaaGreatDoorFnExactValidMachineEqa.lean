/- The functions of the program as equations on plain data, each checked by the kernel. -/
import Derived.Test.YtikhhcienngnbaaGreatDoorExa
set_option linter.all false
set_option linter.unusedVariables false
set_option linter.unusedSimpArgs false
namespace Go.Dv.U
open Go Go.Dv Go.Proofs
set_option maxRecDepth 100000
noncomputable def fV (x0:aj) (x1:aq):Option (Bool):=(Den CC 3 (az CC 3) ⟨aA [(0,.st 23 x0),(1,.st 41 x1)] 0 45,[],0⟩).bind fun r=>aC GG [.bool] r.1
noncomputable def tS (x0:aj) (x1:Int):Option (Int):=(Den CC 4 (az CC 4) ⟨aA [(0,.st 23 x0),(1,.int .i64 x1)] 0 12,[],0⟩).bind fun r=>aC GG [(.int .i64)] r.1
noncomputable def tT (x0:aq) (x1:Int):Option (Int):=(Den CC 5 (az CC 5) ⟨aA [(0,.st 41 x0),(1,.int .i64 x1)] 0 24,[],0⟩).bind fun r=>aC GG [(.int .i64)] r.1
noncomputable def lZ (x0:aj):Option (aj):=(Den CC 7 (az CC 7) ⟨aA [(0,.st 23 x0)] 0 9,[],0⟩).bind fun r=>aC GG [(.st 23)] r.1
noncomputable def l0 (x0:aq):Option (aq):=(Den CC 8 (az CC 8) ⟨aA [(0,.st 41 x0)] 0 38,[],0⟩).bind fun r=>aC GG [(.st 41)] r.1
noncomputable def nM (x0:aj) (x1:aq):Option (Bool):=(Den CC 6 (az CC 6) ⟨aA [(0,.st 23 x0),(1,.st 41 x1)] 0 13,[],0⟩).bind fun r=>aC GG [.bool] r.1
noncomputable def nN (x0:aj) (x1:aq):Option (Bool):=(Den CC 9 (az CC 9) ⟨aA [(0,.st 23 x0),(1,.st 41 x1)] 0 13,[],0⟩).bind fun r=>aC GG [.bool] r.1
noncomputable def tU (x0 x1:aj):Option (Bool):=(Den CC 10 (az CC 10) ⟨aA [(0,.st 23 x0),(1,.st 23 x1)] 0 11,[],0⟩).bind fun r=>aC GG [.bool] r.1
noncomputable def tV (x0 x1:aq):Option (Bool):=(Den CC 11 (az CC 11) ⟨aA [(0,.st 41 x0),(1,.st 41 x1)] 0 58,[],0⟩).bind fun r=>aC GG [.bool] r.1
noncomputable def nO (x0:List aa) (x1:Int):Option (Int):=(Den CC 12 (az CC 12) ⟨aA [(0,.sl (.st 100) x0),(1,.int .i64 x1)] 0 27,[],0⟩).bind fun r=>aC GG [(.int .i64)] r.1
noncomputable def wX (x0:ay) (x1:Int):Option (Int):=(Den CC 13 (az CC 13) ⟨aA [(0,.st 37 x0),(1,.int .i64 x1)] 0 24,[],0⟩).bind fun r=>aC GG [(.int .i64)] r.1
noncomputable def oy (x0:List ap) (x1:Int):Option (Int):=(Den CC 14 (az CC 14) ⟨aA [(0,.sl (.st 106) x0),(1,.int .i64 x1)] 0 27,[],0⟩).bind fun r=>aC GG [(.int .i64)] r.1
noncomputable def nP (x0:List ae) (x1:Int):Option (Int):=(Den CC 15 (az CC 15) ⟨aA [(0,.sl (.st 109) x0),(1,.int .i64 x1)] 0 27,[],0⟩).bind fun r=>aC GG [(.int .i64)] r.1
noncomputable def nQ (x0:List aa):Option ((List aa)):=(Den CC 19 (az CC 19) ⟨aA [(0,.sl (.st 100) x0)] 0 23,[],0⟩).bind fun r=>aC GG [(.sl (.st 100))] r.1
noncomputable def wY (x0:ay):Option (ay):=(Den CC 20 (az CC 20) ⟨aA [(0,.st 37 x0)] 0 17,[],0⟩).bind fun r=>aC GG [(.st 37)] r.1
noncomputable def oz (x0:List ap):Option ((List ap)):=(Den CC 21 (az CC 21) ⟨aA [(0,.sl (.st 106) x0)] 0 23,[],0⟩).bind fun r=>aC GG [(.sl (.st 106))] r.1
noncomputable def nR (x0:List ae):Option ((List ae)):=(Den CC 22 (az CC 22) ⟨aA [(0,.sl (.st 109) x0)] 0 23,[],0⟩).bind fun r=>aC GG [(.sl (.st 109))] r.1
noncomputable def nS (x0:aj):Option (Bool):=(Den CC 16 (az CC 16) ⟨aA [(0,.st 23 x0)] 0 46,[],0⟩).bind fun r=>aC GG [.bool] r.1
noncomputable def AP (x0:aj):Option ((((List av)×(List Int)×(List Int)×Unit)×Unit)):=(Den CC 18 (az CC 18) ⟨aA [(0,.st 23 x0)] 0 38,[],0⟩).bind fun r=>mI GG [(true,[.ow 129 (.st 128),.ow 2 (.int .i64),.ow 2 (.int .i64)])] r
noncomputable def r4 (x0:b9) (x1:aq):Option (Bool):=(Den CC 17 (az CC 17) ⟨aA [(0,.st 79 x0),(1,.st 41 x1)] 0 173,[],0⟩).bind fun r=>aC GG [.bool] r.1
noncomputable def nT (x0:aj):Option (Bool):=(Den CC 23 (az CC 23) ⟨aA [(0,.st 23 x0)] 0 44,[],0⟩).bind fun r=>aC GG [.bool] r.1
noncomputable def AQ (x0:aj):Option (aQ):=(Den CC 24 (az CC 24) ⟨aA [(0,.st 23 x0)] 0 11,[],0⟩).bind fun r=>aC GG [(.st 86)] r.1
noncomputable def gM (x0:aQ) (x1:aq):Option (Bool):=(Den CC 25 (az CC 25) ⟨aA [(0,.st 86 x0),(1,.st 41 x1)] 0 73,[],0⟩).bind fun r=>aC GG [.bool] r.1
noncomputable def nU (x0 x1:List aa):Option (Bool):=(Den CC 26 (az CC 26) ⟨aA [(0,.sl (.st 100) x0),(1,.sl (.st 100) x1)] 0 27,[],0⟩).bind fun r=>aC GG [.bool] r.1
noncomputable def wZ (x0 x1:ay):Option (Bool):=(Den CC 27 (az CC 27) ⟨aA [(0,.st 37 x0),(1,.st 37 x1)] 0 23,[],0⟩).bind fun r=>aC GG [.bool] r.1
noncomputable def oA (x0 x1:List ap):Option (Bool):=(Den CC 28 (az CC 28) ⟨aA [(0,.sl (.st 106) x0),(1,.sl (.st 106) x1)] 0 27,[],0⟩).bind fun r=>aC GG [.bool] r.1
noncomputable def nV (x0 x1:List ae):Option (Bool):=(Den CC 29 (az CC 29) ⟨aA [(0,.sl (.st 109) x0),(1,.sl (.st 109) x1)] 0 27,[],0⟩).bind fun r=>aC GG [.bool] r.1
noncomputable def gj (x0:List aa) (x1 x2:Int):Option (Int):=(Den CC 12 (lbl CC 12 5) ⟨aA [(0,.sl (.st 100) x0),(1,.int .i64 x1),(5,.int .i64 x2)] 0 27,[],0⟩).bind fun r=>aC GG [(.int .i64)] r.1
noncomputable def EA (x0:aJ) (x1:Int):Option (Int):=(Den CC 31 (az CC 31) ⟨aA [(0,.st 26 x0),(1,.int .i64 x1)] 0 12,[],0⟩).bind fun r=>aC GG [(.int .i64)] r.1
noncomputable def AR (x0:aB) (x1:Int):Option (Int):=(Den CC 32 (az CC 32) ⟨aA [(0,.st 31 x0),(1,.int .i64 x1)] 0 24,[],0⟩).bind fun r=>aC GG [(.int .i64)] r.1
noncomputable def tW (x0:au) (x1:Int):Option (Int):=(Den CC 33 (az CC 33) ⟨aA [(0,.st 35 x0),(1,.int .i64 x1)] 0 30,[],0⟩).bind fun r=>aC GG [(.int .i64)] r.1
noncomputable def ly (x0:List ap) (x1 x2:Int):Option (Int):=(Den CC 14 (lbl CC 14 5) ⟨aA [(0,.sl (.st 106) x0),(1,.int .i64 x1),(5,.int .i64 x2)] 0 27,[],0⟩).bind fun r=>aC GG [(.int .i64)] r.1
noncomputable def gk (x0:List ae) (x1 x2:Int):Option (Int):=(Den CC 15 (lbl CC 15 5) ⟨aA [(0,.sl (.st 109) x0),(1,.int .i64 x1),(5,.int .i64 x2)] 0 27,[],0⟩).bind fun r=>aC GG [(.int .i64)] r.1
noncomputable def gl (x0:List aa) (x1:Int) (x2:List aa):Option ((List aa)):=(Den CC 19 (lbl CC 19 3) ⟨aA [(0,.sl (.st 100) x0),(3,.arr 0),(4,.int .i64 x1)] 0 23,[.arr 116 (.st 100) x2 false],0⟩).bind fun r=>aC GG [(.sl (.st 100))] r.1
noncomputable def EB (x0:aJ):Option (aJ):=(Den CC 48 (az CC 48) ⟨aA [(0,.st 26 x0)] 0 12,[],0⟩).bind fun r=>aC GG [(.st 26)] r.1
noncomputable def AS (x0:aB):Option (aB):=(Den CC 49 (az CC 49) ⟨aA [(0,.st 31 x0)] 0 17,[],0⟩).bind fun r=>aC GG [(.st 31)] r.1
noncomputable def tX (x0:au):Option (au):=(Den CC 50 (az CC 50) ⟨aA [(0,.st 35 x0)] 0 24,[],0⟩).bind fun r=>aC GG [(.st 35)] r.1
noncomputable def lz (x0:List ap) (x1:Int) (x2:List ap):Option ((List ap)):=(Den CC 21 (lbl CC 21 3) ⟨aA [(0,.sl (.st 106) x0),(3,.arr 0),(4,.int .i64 x1)] 0 23,[.arr 136 (.st 106) x2 false],0⟩).bind fun r=>aC GG [(.sl (.st 106))] r.1
noncomputable def gm (x0:List ae) (x1:Int) (x2:List ae):Option ((List ae)):=(Den CC 22 (lbl CC 22 3) ⟨aA [(0,.sl (.st 109) x0),(3,.arr 0),(4,.int .i64 x1)] 0 23,[.arr 126 (.st 109) x2 false],0⟩).bind fun r=>aC GG [(.sl (.st 109))] r.1
noncomputable def eM (x0:Int) (x1:List aa):Option (Bool):=(Den CC 16 (lbl CC 16 4) ⟨aA [(1,.ref 0 0),(3,.int .i64 x0)] 0 46,[.box 48 [.sl (.st 100) x1] false],0⟩).bind fun r=>aC GG [.bool] r.1
noncomputable def m6 (x0:Int) (x1:List aa) (x2:List av) (x3 x4:List Int) (x5:List av) (x6 x7:List Int):Option ((((List av)×(List Int)×(List Int)×Unit)×Unit)):=(Den CC 18 (lbl CC 18 3) ⟨aA [(1,.ref 0 0),(2,.ref 1 0),(3,.ref 5 0),(4,.int .i64 x0)] 0 38,[.box 48 [.sl (.st 100) x1] false,.box 80 [.arr 2,.arr 3,.arr 4] false,.arr 129 (.st 128) x2 false,.arr 2 (.int .i64) x3 false,.arr 2 (.int .i64) x4 false,.box 80 [.arr 6,.arr 7,.arr 8] false,.arr 129 (.st 128) x5 false,.arr 2 (.int .i64) x6 false,.arr 2 (.int .i64) x7 false],0⟩).bind fun r=>mI GG [(true,[.ow 129 (.st 128),.ow 2 (.int .i64),.ow 2 (.int .i64)])] r
noncomputable def dX (x0 x1 x2:Int):Option (Bool):=(Den CC 40 (az CC 40) ⟨aA [(0,.int .i64 x0),(1,.int .i64 x1),(2,.int .i64 x2)] 0 15,[],0⟩).bind fun r=>aC GG [.bool] r.1
noncomputable def iR : Option (Bool):=(Den CC 17 (lbl CC 17 3) ⟨aA [] 0 173,[],0⟩).bind fun r=>aC GG [.bool] r.1
noncomputable def vo (x0:List av) (x1 x2:List Int) (x3 x4 x5:Int) (x6:List am) (x7:List ak) (x8:List ah) (x9:List ac) (x10:(List (List UInt8))) (x11:Int) (x12:(List (List UInt8))) (x13:List aE) (x14:(List (List UInt8))) (x15:List ap) (x16:List ae) (x17 x18 x19 x20 x21:Int):Option (Bool):=(Den CC 17 (lbl CC 17 4) ⟨aA [(2,.ref 0 0),(3,.ref 1 0)] 0 173,[.box 80 [.sl (.st 128) x0,.sl (.int .i64) x1,.sl (.int .i64) x2] false,.box 66 [.int .i64 x3,.int .i64 x4,.int .i64 x5,.sl (.st 203) x6,.sl (.st 207) x7,.sl (.st 227) x8,.sl (.st 230) x9,.sl .str x10,.int .i64 x11,.sl .str x12,.sl (.st 233) x13,.sl .str x14,.sl (.st 106) x15,.sl (.st 109) x16,.int .i64 x17,.int .i64 x18,.int .i64 x19,.int .i64 x20,.int .i64 x21] false],0⟩).bind fun r=>aC GG [.bool] r.1
noncomputable def bX (x0:List aa):Option (Bool):=(Den CC 53 (az CC 53) ⟨aA [(0,.sl (.st 100) x0),(1,.fn 54 [])] 0 18,[],0⟩).bind fun r=>aC GG [.bool] r.1
noncomputable def eN (x0:List aa) (x1 x2:Int) (x3:List aa):Option (Bool):=(Den CC 23 (lbl CC 23 4) ⟨aA [(1,.ref 0 0),(16,.sl (.st 100) x0),(17,.int .i64 x1),(18,.int .i64 x2)] 0 44,[.box 48 [.sl (.st 100) x3] false],0⟩).bind fun r=>aC GG [.bool] r.1
noncomputable def nW (x0:aj):Option ((((List av)×(List Int)×(List Int)×Unit)×Unit)):=(Den CC 58 (az CC 58) ⟨aA [(0,.st 23 x0)] 0 38,[],0⟩).bind fun r=>mI GG [(true,[.ow 129 (.st 128),.ow 2 (.int .i64),.ow 2 (.int .i64)])] r
noncomputable def tp (x0:b9):Option ((((List Int)×Unit)×Unit)):=(Den CC 59 (az CC 59) ⟨aA [(0,.st 79 x0)] 0 57,[],0⟩).bind fun r=>mI GG [(false,[.ow 2 (.int .i64)])] r
noncomputable def cY (x0 x1 x2:Int):Option (Bool):=(Den CC 60 (az CC 60) ⟨aA [(0,.int .i64 x0),(1,.int .i64 x1),(2,.int .i64 x2)] 0 15,[],0⟩).bind fun r=>aC GG [.bool] r.1
noncomputable def bA : Option (Bool):=(Den CC 25 (lbl CC 25 5) ⟨aA [] 0 73,[],0⟩).bind fun r=>aC GG [.bool] r.1
noncomputable def dE (x0:List aa) (x1:List av) (x2 x3 x4:List Int) (x5 x6 x7:Int) (x8:List am) (x9:List ak) (x10:List ah) (x11:List ac) (x12:(List (List UInt8))) (x13:Int) (x14:(List (List UInt8))) (x15:List aE) (x16:(List (List UInt8))) (x17:List ap) (x18:List ae) (x19 x20 x21 x22 x23:Int):Option (Bool):=(Den CC 25 (lbl CC 25 6) ⟨aA [(2,.ref 0 0),(3,.ref 1 0)] 0 73,[.box 87 [.sl (.st 100) x0,.sl (.st 128) x1,.sl (.int .i64) x2,.sl (.int .i64) x3,.sl (.int .i64) x4] false,.box 66 [.int .i64 x5,.int .i64 x6,.int .i64 x7,.sl (.st 203) x8,.sl (.st 207) x9,.sl (.st 227) x10,.sl (.st 230) x11,.sl .str x12,.int .i64 x13,.sl .str x14,.sl (.st 233) x15,.sl .str x16,.sl (.st 106) x17,.sl (.st 109) x18,.int .i64 x19,.int .i64 x20,.int .i64 x21,.int .i64 x22,.int .i64 x23] false],0⟩).bind fun r=>aC GG [.bool] r.1
noncomputable def gn (x0 x1:List aa) (x2:Int):Option (Bool):=(Den CC 26 (lbl CC 26 4) ⟨aA [(0,.sl (.st 100) x0),(1,.sl (.st 100) x1),(5,.int .i64 x2)] 0 27,[],0⟩).bind fun r=>aC GG [.bool] r.1
noncomputable def EC (x0 x1:aJ):Option (Bool):=(Den CC 70 (az CC 70) ⟨aA [(0,.st 26 x0),(1,.st 26 x1)] 0 16,[],0⟩).bind fun r=>aC GG [.bool] r.1
noncomputable def AT (x0 x1:aB):Option (Bool):=(Den CC 71 (az CC 71) ⟨aA [(0,.st 31 x0),(1,.st 31 x1)] 0 23,[],0⟩).bind fun r=>aC GG [.bool] r.1
noncomputable def tY (x0 x1:au):Option (Bool):=(Den CC 72 (az CC 72) ⟨aA [(0,.st 35 x0),(1,.st 35 x1)] 0 34,[],0⟩).bind fun r=>aC GG [.bool] r.1
noncomputable def lA (x0 x1:List ap) (x2:Int):Option (Bool):=(Den CC 28 (lbl CC 28 4) ⟨aA [(0,.sl (.st 106) x0),(1,.sl (.st 106) x1),(5,.int .i64 x2)] 0 27,[],0⟩).bind fun r=>aC GG [.bool] r.1
noncomputable def gq (x0 x1:List ae) (x2:Int):Option (Bool):=(Den CC 29 (lbl CC 29 4) ⟨aA [(0,.sl (.st 109) x0),(1,.sl (.st 109) x1),(5,.int .i64 x2)] 0 27,[],0⟩).bind fun r=>aC GG [.bool] r.1
noncomputable def iS (x0:aa) (x1:Int):Option (Int):=(Den CC 30 (az CC 30) ⟨aA [(0,.st 100 x0),(1,.int .i64 x1)] 0 37,[],0⟩).bind fun r=>aC GG [(.int .i64)] r.1
noncomputable def tZ (x0:List am) (x1:Int):Option (Int):=(Den CC 77 (az CC 77) ⟨aA [(0,.sl (.st 203) x0),(1,.int .i64 x1)] 0 27,[],0⟩).bind fun r=>aC GG [(.int .i64)] r.1
noncomputable def m7 (x0:List ak) (x1:Int):Option (Int):=(Den CC 78 (az CC 78) ⟨aA [(0,.sl (.st 207) x0),(1,.int .i64 x1)] 0 27,[],0⟩).bind fun r=>aC GG [(.int .i64)] r.1
noncomputable def pd (x0:List ah) (x1:Int):Option (Int):=(Den CC 79 (az CC 79) ⟨aA [(0,.sl (.st 227) x0),(1,.int .i64 x1)] 0 27,[],0⟩).bind fun r=>aC GG [(.int .i64)] r.1
noncomputable def l4 (x0:List ac) (x1:Int):Option (Int):=(Den CC 80 (az CC 80) ⟨aA [(0,.sl (.st 230) x0),(1,.int .i64 x1)] 0 27,[],0⟩).bind fun r=>aC GG [(.int .i64)] r.1
noncomputable def eZ (x0:(List (List UInt8))) (x1:Int):Option (Int):=(Den CC 81 (az CC 81) ⟨aA [(0,.sl .str x0),(1,.int .i64 x1)] 0 28,[],0⟩).bind fun r=>aC GG [(.int .i64)] r.1
noncomputable def AU (x0:List aE) (x1:Int):Option (Int):=(Den CC 82 (az CC 82) ⟨aA [(0,.sl (.st 233) x0),(1,.int .i64 x1)] 0 27,[],0⟩).bind fun r=>aC GG [(.int .i64)] r.1
noncomputable def l5 (x0:ap) (x1:Int):Option (Int):=(Den CC 34 (az CC 34) ⟨aA [(0,.st 106 x0),(1,.int .i64 x1)] 0 13,[],0⟩).bind fun r=>aC GG [(.int .i64)] r.1
noncomputable def iT (x0:ae) (x1:Int):Option (Int):=(Den CC 35 (az CC 35) ⟨aA [(0,.st 109 x0),(1,.int .i64 x1)] 0 19,[],0⟩).bind fun r=>aC GG [(.int .i64)] r.1
noncomputable def iU (x0:aa):Option (aa):=(Den CC 47 (az CC 47) ⟨aA [(0,.st 100 x0)] 0 33,[],0⟩).bind fun r=>aC GG [(.st 100)] r.1
noncomputable def t6 (x0:List am):Option ((List am)):=(Den CC 98 (az CC 98) ⟨aA [(0,.sl (.st 203) x0)] 0 23,[],0⟩).bind fun r=>aC GG [(.sl (.st 203))] r.1
noncomputable def m8 (x0:List ak):Option ((List ak)):=(Den CC 99 (az CC 99) ⟨aA [(0,.sl (.st 207) x0)] 0 23,[],0⟩).bind fun r=>aC GG [(.sl (.st 207))] r.1
noncomputable def pf (x0:List ah):Option ((List ah)):=(Den CC 100 (az CC 100) ⟨aA [(0,.sl (.st 227) x0)] 0 23,[],0⟩).bind fun r=>aC GG [(.sl (.st 227))] r.1
noncomputable def l8 (x0:List ac):Option ((List ac)):=(Den CC 101 (az CC 101) ⟨aA [(0,.sl (.st 230) x0)] 0 23,[],0⟩).bind fun r=>aC GG [(.sl (.st 230))] r.1
noncomputable def e8 (x0:(List (List UInt8))):Option ((List (List UInt8))):=(Den CC 102 (az CC 102) ⟨aA [(0,.sl .str x0)] 0 22,[],0⟩).bind fun r=>aC GG [(.sl .str)] r.1
noncomputable def AV (x0:List aE):Option ((List aE)):=(Den CC 103 (az CC 103) ⟨aA [(0,.sl (.st 233) x0)] 0 23,[],0⟩).bind fun r=>aC GG [(.sl (.st 233))] r.1
noncomputable def l9 (x0:ap):Option (ap):=(Den CC 51 (az CC 51) ⟨aA [(0,.st 106 x0)] 0 17,[],0⟩).bind fun r=>aC GG [(.st 106)] r.1
noncomputable def iV (x0:ae):Option (ae):=(Den CC 52 (az CC 52) ⟨aA [(0,.st 109 x0)] 0 21,[],0⟩).bind fun r=>aC GG [(.st 109)] r.1
noncomputable def kV (x0:aa):Option (Bool):=(Den CC 36 (az CC 36) ⟨aA [(0,.st 100 x0)] 0 27,[],0⟩).bind fun r=>aC GG [.bool] r.1
noncomputable def gu : Option (Bool):=(Den CC 16 (lbl CC 16 8) ⟨aA [] 0 46,[],0⟩).bind fun r=>aC GG [.bool] r.1
noncomputable def pg (x0:List UInt8):Option (Bool):=(Den CC 37 (az CC 37) ⟨aA [(0,.str x0)] 0 9,[],0⟩).bind fun r=>aC GG [.bool] r.1
noncomputable def r5 (x0:aj) (x1:List UInt8):Option (Int):=(Den CC 38 (az CC 38) ⟨aA [(0,.st 23 x0),(1,.str x1)] 0 26,[],0⟩).bind fun r=>aC GG [(.int .i64)] r.1
noncomputable def jK (x0:Int) (x1:List aa):Option (Bool):=(Den CC 16 (lbl CC 16 5) ⟨aA [(1,.ref 0 0),(3,.int .i64 x0)] 0 46,[.box 48 [.sl (.st 100) x1] false],0⟩).bind fun r=>aC GG [.bool] r.1
noncomputable def AW (x0:aj):Option ((List UInt8)):=(Den CC 39 (az CC 39) ⟨aA [(0,.st 23 x0)] 0 22,[],0⟩).bind fun r=>aC GG [.str] r.1
noncomputable def nX (x0:aj) (x1:Int):Option ((((List av)×Unit)×Unit)):=(Den CC 46 (az CC 46) ⟨aA [(0,.st 23 x0),(1,.int .i64 x1)] 0 28,[],0⟩).bind fun r=>mI GG [(false,[.ow 129 (.st 128)])] r
noncomputable def ph : Option (Bool):=(Den CC 17 (lbl CC 17 5) ⟨aA [] 0 173,[],0⟩).bind fun r=>aC GG [.bool] r.1
noncomputable def pi (x0:List av) (x1 x2:List Int) (x3 x4 x5:Int) (x6:List am) (x7:List ak) (x8:List ah) (x9:List ac) (x10:(List (List UInt8))) (x11:Int) (x12:(List (List UInt8))) (x13:List aE) (x14:(List (List UInt8))) (x15:List ap) (x16:List ae) (x17 x18 x19 x20 x21:Int):Option (Bool):=(Den CC 17 (lbl CC 17 6) ⟨aA [(2,.ref 0 0),(3,.ref 1 0)] 0 173,[.box 80 [.sl (.st 128) x0,.sl (.int .i64) x1,.sl (.int .i64) x2] false,.box 66 [.int .i64 x3,.int .i64 x4,.int .i64 x5,.sl (.st 203) x6,.sl (.st 207) x7,.sl (.st 227) x8,.sl (.st 230) x9,.sl .str x10,.int .i64 x11,.sl .str x12,.sl (.st 233) x13,.sl .str x14,.sl (.st 106) x15,.sl (.st 109) x16,.int .i64 x17,.int .i64 x18,.int .i64 x19,.int .i64 x20,.int .i64 x21] false],0⟩).bind fun r=>aC GG [.bool] r.1
noncomputable def bp (x0:List aa) (x1 x2:Int):Option (Bool):=(Den CC 53 (lbl CC 53 2) ⟨aA [(1,.fn 54 []),(7,.sl (.st 100) x0),(8,.int .i64 x1),(9,.int .i64 x2)] 0 18,[],0⟩).bind fun r=>aC GG [.bool] r.1
noncomputable def qy (x0:List UInt8):Option (Bool):=(Den CC 55 (az CC 55) ⟨aA [(0,.str x0)] 0 9,[],0⟩).bind fun r=>aC GG [.bool] r.1
noncomputable def jL : Option (Bool):=(Den CC 23 (lbl CC 23 7) ⟨aA [] 0 44,[],0⟩).bind fun r=>aC GG [.bool] r.1
noncomputable def eG (x0:aj) (x1:List UInt8):Option (Int):=(Den CC 56 (az CC 56) ⟨aA [(0,.st 23 x0),(1,.str x1)] 0 9,[],0⟩).bind fun r=>aC GG [(.int .i64)] r.1
noncomputable def jM (x0:List aa) (x1 x2:Int) (x3:List aa):Option (Bool):=(Den CC 23 (lbl CC 23 8) ⟨aA [(1,.ref 0 0),(16,.sl (.st 100) x0),(17,.int .i64 x1),(18,.int .i64 x2)] 0 44,[.box 48 [.sl (.st 100) x3] false],0⟩).bind fun r=>aC GG [.bool] r.1
noncomputable def nY (x0:aj):Option ((List UInt8)):=(Den CC 57 (az CC 57) ⟨aA [(0,.st 23 x0)] 0 20,[],0⟩).bind fun r=>aC GG [.str] r.1
noncomputable def gv (x0 x1:Int) (x2:List aa) (x3:List av) (x4 x5:List Int) (x6:List av) (x7 x8:List Int):Option ((((List av)×(List Int)×(List Int)×Unit)×Unit)):=(Den CC 58 (lbl CC 58 3) ⟨aA [(1,.ref 0 0),(2,.ref 1 0),(3,.ref 5 0),(8,.int .i64 x0),(9,.int .i64 x1)] 0 38,[.box 48 [.sl (.st 100) x2] false,.box 80 [.arr 2,.arr 3,.arr 4] false,.arr 129 (.st 128) x3 false,.arr 2 (.int .i64) x4 false,.arr 2 (.int .i64) x5 false,.box 80 [.arr 6,.arr 7,.arr 8] false,.arr 129 (.st 128) x6 false,.arr 2 (.int .i64) x7 false,.arr 2 (.int .i64) x8 false],0⟩).bind fun r=>mI GG [(true,[.ow 129 (.st 128),.ow 2 (.int .i64),.ow 2 (.int .i64)])] r
noncomputable def dL (x0:List Int) (x1 x2:Int) (x3:List av) (x4 x5 x6:List Int):Option ((((List Int)×Unit)×Unit)):=(Den CC 59 (lbl CC 59 3) ⟨aA [(1,.ref 0 0),(3,.arr 1),(14,.sl (.int .i64) x0),(15,.int .i64 x1),(16,.int .i64 x2)] 0 57,[.box 80 [.sl (.st 128) x3,.sl (.int .i64) x4,.sl (.int .i64) x5] false,.arr 2 (.int .i64) x6 false],0⟩).bind fun r=>mI GG [(false,[.ow 2 (.int .i64)])] r
noncomputable def pj (x0:ay):Option (Bool):=(Den CC 61 (az CC 61) ⟨aA [(0,.st 37 x0)] 0 25,[],0⟩).bind fun r=>aC GG [.bool] r.1
noncomputable def dF : Option (Bool):=(Den CC 25 (lbl CC 25 7) ⟨aA [] 0 73,[],0⟩).bind fun r=>aC GG [.bool] r.1
noncomputable def b0 (x0:List ap) (x1:Int) (x2:List am):Option (Bool):=(Den CC 62 (az CC 62) ⟨aA [(0,.sl (.st 106) x0),(1,.fn 1000063 [.ag [.int .i64 x1,.sl (.st 203) x2]])] 0 18,[],0⟩).bind fun r=>aC GG [.bool] r.1
noncomputable def iW (x0:List aa) (x1:List av) (x2 x3 x4:List Int) (x5 x6 x7:Int) (x8:List am) (x9:List ak) (x10:List ah) (x11:List ac) (x12:(List (List UInt8))) (x13:Int) (x14:(List (List UInt8))) (x15:List aE) (x16:(List (List UInt8))) (x17:List ap) (x18:List ae) (x19 x20 x21 x22 x23:Int):Option (Bool):=(Den CC 25 (lbl CC 25 8) ⟨aA [(2,.ref 0 0),(3,.ref 1 0)] 0 73,[.box 87 [.sl (.st 100) x0,.sl (.st 128) x1,.sl (.int .i64) x2,.sl (.int .i64) x3,.sl (.int .i64) x4] false,.box 66 [.int .i64 x5,.int .i64 x6,.int .i64 x7,.sl (.st 203) x8,.sl (.st 207) x9,.sl (.st 227) x10,.sl (.st 230) x11,.sl .str x12,.int .i64 x13,.sl .str x14,.sl (.st 233) x15,.sl .str x16,.sl (.st 106) x17,.sl (.st 109) x18,.int .i64 x19,.int .i64 x20,.int .i64 x21,.int .i64 x22,.int .i64 x23] false],0⟩).bind fun r=>aC GG [.bool] r.1
noncomputable def iX (x0 x1:aa):Option (Bool):=(Den CC 69 (az CC 69) ⟨aA [(0,.st 100 x0),(1,.st 100 x1)] 0 49,[],0⟩).bind fun r=>aC GG [.bool] r.1
noncomputable def t7 (x0 x1:List am):Option (Bool):=(Den CC 132 (az CC 132) ⟨aA [(0,.sl (.st 203) x0),(1,.sl (.st 203) x1)] 0 27,[],0⟩).bind fun r=>aC GG [.bool] r.1
noncomputable def m9 (x0 x1:List ak):Option (Bool):=(Den CC 133 (az CC 133) ⟨aA [(0,.sl (.st 207) x0),(1,.sl (.st 207) x1)] 0 27,[],0⟩).bind fun r=>aC GG [.bool] r.1
noncomputable def pk (x0 x1:List ah):Option (Bool):=(Den CC 134 (az CC 134) ⟨aA [(0,.sl (.st 227) x0),(1,.sl (.st 227) x1)] 0 27,[],0⟩).bind fun r=>aC GG [.bool] r.1
noncomputable def ma (x0 x1:List ac):Option (Bool):=(Den CC 135 (az CC 135) ⟨aA [(0,.sl (.st 230) x0),(1,.sl (.st 230) x1)] 0 27,[],0⟩).bind fun r=>aC GG [.bool] r.1
noncomputable def e9 (x0:(List (List UInt8))) (x1:(List (List UInt8))):Option (Bool):=(Den CC 136 (az CC 136) ⟨aA [(0,.sl .str x0),(1,.sl .str x1)] 0 26,[],0⟩).bind fun r=>aC GG [.bool] r.1
noncomputable def AX (x0 x1:List aE):Option (Bool):=(Den CC 137 (az CC 137) ⟨aA [(0,.sl (.st 233) x0),(1,.sl (.st 233) x1)] 0 27,[],0⟩).bind fun r=>aC GG [.bool] r.1
noncomputable def mb (x0 x1:ap):Option (Bool):=(Den CC 73 (az CC 73) ⟨aA [(0,.st 106 x0),(1,.st 106 x1)] 0 25,[],0⟩).bind fun r=>aC GG [.bool] r.1
noncomputable def iY (x0 x1:ae):Option (Bool):=(Den CC 74 (az CC 74) ⟨aA [(0,.st 109 x0),(1,.st 109 x1)] 0 31,[],0⟩).bind fun r=>aC GG [.bool] r.1
noncomputable def nc (x0:ai) (x1:Int):Option (Int):=(Den CC 75 (az CC 75) ⟨aA [(0,.st 96 x0),(1,.int .i64 x1)] 0 19,[],0⟩).bind fun r=>aC GG [(.int .i64)] r.1
noncomputable def ED (x0:aK) (x1:Int):Option (Int):=(Den CC 76 (az CC 76) ⟨aA [(0,.st 98 x0),(1,.int .i64 x1)] 0 27,[],0⟩).bind fun r=>aC GG [(.int .i64)] r.1
noncomputable def jX (x0:List am) (x1 x2:Int):Option (Int):=(Den CC 77 (lbl CC 77 5) ⟨aA [(0,.sl (.st 203) x0),(1,.int .i64 x1),(5,.int .i64 x2)] 0 27,[],0⟩).bind fun r=>aC GG [(.int .i64)] r.1
noncomputable def iZ (x0:List ak) (x1 x2:Int):Option (Int):=(Den CC 78 (lbl CC 78 5) ⟨aA [(0,.sl (.st 207) x0),(1,.int .i64 x1),(5,.int .i64 x2)] 0 27,[],0⟩).bind fun r=>aC GG [(.int .i64)] r.1
noncomputable def ij (x0:List ah) (x1 x2:Int):Option (Int):=(Den CC 79 (lbl CC 79 5) ⟨aA [(0,.sl (.st 227) x0),(1,.int .i64 x1),(5,.int .i64 x2)] 0 27,[],0⟩).bind fun r=>aC GG [(.int .i64)] r.1
noncomputable def fH (x0:List ac) (x1 x2:Int):Option (Int):=(Den CC 80 (lbl CC 80 5) ⟨aA [(0,.sl (.st 230) x0),(1,.int .i64 x1),(5,.int .i64 x2)] 0 27,[],0⟩).bind fun r=>aC GG [(.int .i64)] r.1
noncomputable def jY (x0:(List (List UInt8))) (x1 x2:Int):Option (Int):=(Den CC 81 (lbl CC 81 5) ⟨aA [(0,.sl .str x0),(1,.int .i64 x1),(5,.int .i64 x2)] 0 28,[],0⟩).bind fun r=>aC GG [(.int .i64)] r.1
noncomputable def nd (x0:List aE) (x1 x2:Int):Option (Int):=(Den CC 82 (lbl CC 82 5) ⟨aA [(0,.sl (.st 233) x0),(1,.int .i64 x1),(5,.int .i64 x2)] 0 27,[],0⟩).bind fun r=>aC GG [(.int .i64)] r.1
noncomputable def nf (x0:ai):Option (ai):=(Den CC 96 (az CC 96) ⟨aA [(0,.st 96 x0)] 0 18,[],0⟩).bind fun r=>aC GG [(.st 96)] r.1
noncomputable def EE (x0:aK):Option (aK):=(Den CC 97 (az CC 97) ⟨aA [(0,.st 98 x0)] 0 14,[],0⟩).bind fun r=>aC GG [(.st 98)] r.1
noncomputable def jZ (x0:List am) (x1:Int) (x2:List am):Option ((List am)):=(Den CC 98 (lbl CC 98 3) ⟨aA [(0,.sl (.st 203) x0),(3,.arr 0),(4,.int .i64 x1)] 0 23,[.arr 204 (.st 203) x2 false],0⟩).bind fun r=>aC GG [(.sl (.st 203))] r.1
noncomputable def i7 (x0:List ak) (x1:Int) (x2:List ak):Option ((List ak)):=(Den CC 99 (lbl CC 99 3) ⟨aA [(0,.sl (.st 207) x0),(3,.arr 0),(4,.int .i64 x1)] 0 23,[.arr 208 (.st 207) x2 false],0⟩).bind fun r=>aC GG [(.sl (.st 207))] r.1
noncomputable def ik (x0:List ah) (x1:Int) (x2:List ah):Option ((List ah)):=(Den CC 100 (lbl CC 100 3) ⟨aA [(0,.sl (.st 227) x0),(3,.arr 0),(4,.int .i64 x1)] 0 23,[.arr 243 (.st 227) x2 false],0⟩).bind fun r=>aC GG [(.sl (.st 227))] r.1
noncomputable def fI (x0:List ac) (x1:Int) (x2:List ac):Option ((List ac)):=(Den CC 101 (lbl CC 101 3) ⟨aA [(0,.sl (.st 230) x0),(3,.arr 0),(4,.int .i64 x1)] 0 23,[.arr 245 (.st 230) x2 false],0⟩).bind fun r=>aC GG [(.sl (.st 230))] r.1
noncomputable def kc (x0:(List (List UInt8))) (x1:Int) (x2:(List (List UInt8))):Option ((List (List UInt8))):=(Den CC 102 (lbl CC 102 3) ⟨aA [(0,.sl .str x0),(3,.arr 0),(4,.int .i64 x1)] 0 22,[.arr 9 .str x2 false],0⟩).bind fun r=>aC GG [(.sl .str)] r.1
noncomputable def ng (x0:List aE) (x1:Int) (x2:List aE):Option ((List aE)):=(Den CC 103 (lbl CC 103 3) ⟨aA [(0,.sl (.st 233) x0),(3,.arr 0),(4,.int .i64 x1)] 0 23,[.arr 259 (.st 233) x2 false],0⟩).bind fun r=>aC GG [(.sl (.st 233))] r.1
noncomputable def AY (x0:aa):Option (Bool):=(Den CC 83 (az CC 83) ⟨aA [(0,.st 100 x0)] 0 61,[],0⟩).bind fun r=>aC GG [.bool] r.1
noncomputable def r6 (x0:aa):Option ((List UInt8)):=(Den CC 84 (az CC 84) ⟨aA [(0,.st 100 x0)] 0 38,[],0⟩).bind fun r=>aC GG [.str] r.1
noncomputable def qz (x0:List UInt8):Option ((List aN)×Int×Int):=(Den CC 85 (az CC 85) ⟨aA [(0,.str x0)] 0 19,[],0⟩).bind fun r=>aC GG [(.sl (.st 267)),(.int .i64),(.int .i64)] r.1
noncomputable def fa (x0:List UInt8) (x1:Int) (x2:List aa):Option (Int):=(Den CC 38 (lbl CC 38 2) ⟨aA [(1,.str x0),(2,.ref 0 0),(5,.int .i64 x1)] 0 26,[.box 48 [.sl (.st 100) x2] false],0⟩).bind fun r=>aC GG [(.int .i64)] r.1
noncomputable def kA (x0:List UInt8) (x1:Int) (x2:List aa):Option ((List UInt8)):=(Den CC 39 (lbl CC 39 3) ⟨aA [(1,.ref 0 0),(3,.str x0),(4,.int .i64 x1)] 0 22,[.box 48 [.sl (.st 100) x2] false],0⟩).bind fun r=>aC GG [.str] r.1
noncomputable def AZ (x0:List UInt8) (x1:Bool) (x2 x3:Int) (x4:List UInt8) (x5:List ai) (x6:Bool) (x7 x8:Int) (x9:List UInt8) (x10:List ai) (x11:Bool) (x12 x13:Int) (x14:List UInt8) (x15:List ai) (x16 x17 x18:List UInt8):Option ((((List av)×Unit)×Unit)):=(Den CC 94 (az CC 94) ⟨aA [(0,.pc [.str x0,.bool x1,.int .i64 x2,.int .i64 x3,.str x4,.sl (.st 96) x5,.bool x6,.int .i64 x7,.int .i64 x8,.str x9,.sl (.st 96) x10,.bool x11,.int .i64 x12,.int .i64 x13,.str x14,.sl (.st 96) x15,.str x16,.str x17,.str x18])] 0 99,[],0⟩).bind fun r=>mI GG [(false,[.ow 129 (.st 128)])] r
noncomputable def oB (x0:aj) (x1:Int) (x2:Bool):Option (av):=(Den CC 95 (az CC 95) ⟨aA [(0,.st 23 x0),(1,.int .i64 x1),(2,.bool x2)] 0 41,[],0⟩).bind fun r=>aC GG [(.st 128)] r.1
noncomputable def pm (x0:ay):Option (Bool):=(Den CC 41 (az CC 41) ⟨aA [(0,.st 37 x0)] 0 24,[],0⟩).bind fun r=>aC GG [.bool] r.1
noncomputable def lB : Option (Bool):=(Den CC 17 (lbl CC 17 7) ⟨aA [] 0 173,[],0⟩).bind fun r=>aC GG [.bool] r.1
noncomputable def vp (x0:aJ) (x1:List ap):Option (Bool):=(Den CC 42 (az CC 42) ⟨aA [(0,.st 26 x0),(1,.sl (.st 106) x1)] 0 21,[],0⟩).bind fun r=>aC GG [.bool] r.1
noncomputable def vq (x0:List av) (x1 x2:List Int) (x3 x4 x5:Int) (x6:List am) (x7:List ak) (x8:List ah) (x9:List ac) (x10:(List (List UInt8))) (x11:Int) (x12:(List (List UInt8))) (x13:List aE) (x14:(List (List UInt8))) (x15:List ap) (x16:List ae) (x17 x18 x19 x20 x21:Int):Option (Bool):=(Den CC 17 (lbl CC 17 8) ⟨aA [(2,.ref 0 0),(3,.ref 1 0)] 0 173,[.box 80 [.sl (.st 128) x0,.sl (.int .i64) x1,.sl (.int .i64) x2] false,.box 66 [.int .i64 x3,.int .i64 x4,.int .i64 x5,.sl (.st 203) x6,.sl (.st 207) x7,.sl (.st 227) x8,.sl (.st 230) x9,.sl .str x10,.int .i64 x11,.sl .str x12,.sl (.st 233) x13,.sl .str x14,.sl (.st 106) x15,.sl (.st 109) x16,.int .i64 x17,.int .i64 x18,.int .i64 x19,.int .i64 x20,.int .i64 x21] false],0⟩).bind fun r=>aC GG [.bool] r.1
noncomputable def il (x0:aa):Option (Bool):=(Den CC 54 (az CC 54) ⟨aA [(0,.st 100 x0)] 0 89,[],0⟩).bind fun r=>aC GG [.bool] r.1
noncomputable def bF (x0:List aa) (x1:List UInt8):Option (Int):=(Den CC 110 (az CC 110) ⟨aA [(0,.sl (.st 100) x0),(1,.fn 111 [.pc [.str x1]])] 0 19,[],0⟩).bind fun r=>aC GG [(.int .i64)] r.1
noncomputable def gw (x0:List aa) (x1 x2:Int) (x3:List Int):Option ((List UInt8)):=(Den CC 57 (lbl CC 57 3) ⟨aA [(3,.ref 0 0),(8,.sl (.st 100) x0),(9,.int .i64 x1),(10,.int .i64 x2)] 0 20,[.box 193 [.nilp,.arr 1] false,.arr 5 (.int .u8) x3 false],0⟩).bind fun r=>aC GG [.str] r.1
noncomputable def fb (x0:aj) (x1:Int):Option ((((List av)×Unit)×Unit)):=(Den CC 114 (az CC 114) ⟨aA [(0,.st 23 x0),(1,.int .i64 x1)] 0 25,[],0⟩).bind fun r=>mI GG [(false,[.ow 129 (.st 128)])] r
noncomputable def gy (x0 x1:Int) (x2:List Int) (x3 x4:Int) (x5:List av) (x6 x7 x8:List Int):Option ((((List Int)×Unit)×Unit)):=(Den CC 59 (lbl CC 59 6) ⟨aA [(1,.ref 0 0),(3,.arr 1),(5,.int .i64 x0),(6,.int .i64 x1),(14,.sl (.int .i64) x2),(15,.int .i64 x3),(16,.int .i64 x4)] 0 57,[.box 80 [.sl (.st 128) x5,.sl (.int .i64) x6,.sl (.int .i64) x7] false,.arr 2 (.int .i64) x8 false],0⟩).bind fun r=>mI GG [(false,[.ow 2 (.int .i64)])] r
noncomputable def t8 (x0:aJ):Option (Bool):=(Den CC 116 (az CC 116) ⟨aA [(0,.st 26 x0)] 0 47,[],0⟩).bind fun r=>aC GG [.bool] r.1
noncomputable def qA (x0:aB):Option (Bool):=(Den CC 117 (az CC 117) ⟨aA [(0,.st 31 x0)] 0 49,[],0⟩).bind fun r=>aC GG [.bool] r.1
noncomputable def nZ (x0:au):Option (Bool):=(Den CC 118 (az CC 118) ⟨aA [(0,.st 35 x0)] 0 60,[],0⟩).bind fun r=>aC GG [.bool] r.1
noncomputable def kW (x0:aB):Option ((((List ap)×Unit)×Unit)):=(Den CC 119 (az CC 119) ⟨aA [(0,.st 31 x0)] 0 21,[],0⟩).bind fun r=>mI GG [(false,[.ow 136 (.st 106)])] r
noncomputable def bP (x0:Int) (x1:List am) (x2:List ap) (x3 x4:Int):Option (Bool):=(Den CC 62 (lbl CC 62 2) ⟨aA [(1,.fn 1000063 [.ag [.int .i64 x0,.sl (.st 203) x1]]),(7,.sl (.st 106) x2),(8,.int .i64 x3),(9,.int .i64 x4)] 0 18,[],0⟩).bind fun r=>aC GG [.bool] r.1
noncomputable def bJ (x0:List ae) (x1:List aa) (x2:List av) (x3 x4 x5:List Int) (x6 x7 x8:Int) (x9:List am) (x10:List ak) (x11:List ah) (x12:List ac) (x13:(List (List UInt8))) (x14:Int) (x15:(List (List UInt8))) (x16:List aE) (x17:(List (List UInt8))) (x18:List ap) (x19:List ae) (x20 x21 x22 x23 x24:Int):Option (Bool):=(Den CC 66 (az CC 66) ⟨aA [(0,.sl (.st 109) x0),(1,.fn 64 [.pc [.sl (.st 100) x1,.sl (.st 128) x2,.sl (.int .i64) x3,.sl (.int .i64) x4,.sl (.int .i64) x5],.pc [.int .i64 x6,.int .i64 x7,.int .i64 x8,.sl (.st 203) x9,.sl (.st 207) x10,.sl (.st 227) x11,.sl (.st 230) x12,.sl .str x13,.int .i64 x14,.sl .str x15,.sl (.st 233) x16,.sl .str x17,.sl (.st 106) x18,.sl (.st 109) x19,.int .i64 x20,.int .i64 x21,.int .i64 x22,.int .i64 x23,.int .i64 x24]])] 0 18,[],0⟩).bind fun r=>aC GG [.bool] r.1
noncomputable def fc (x0:aQ) (x1:aq):Option (Bool):=(Den CC 67 (az CC 67) ⟨aA [(0,.st 86 x0),(1,.st 41 x1)] 0 33,[],0⟩).bind fun r=>aC GG [.bool] r.1
noncomputable def dG (x0:aQ) (x1:aq):Option (Bool):=(Den CC 68 (az CC 68) ⟨aA [(0,.st 86 x0),(1,.st 41 x1)] 0 77,[],0⟩).bind fun r=>aC GG [.bool] r.1
noncomputable def nh (x0 x1:ai):Option (Bool):=(Den CC 130 (az CC 130) ⟨aA [(0,.st 96 x0),(1,.st 96 x1)] 0 26,[],0⟩).bind fun r=>aC GG [.bool] r.1
noncomputable def EF (x0 x1:aK):Option (Bool):=(Den CC 131 (az CC 131) ⟨aA [(0,.st 98 x0),(1,.st 98 x1)] 0 20,[],0⟩).bind fun r=>aC GG [.bool] r.1
noncomputable def ke (x0 x1:List am) (x2:Int):Option (Bool):=(Den CC 132 (lbl CC 132 4) ⟨aA [(0,.sl (.st 203) x0),(1,.sl (.st 203) x1),(5,.int .i64 x2)] 0 27,[],0⟩).bind fun r=>aC GG [.bool] r.1
noncomputable def i8 (x0 x1:List ak) (x2:Int):Option (Bool):=(Den CC 133 (lbl CC 133 4) ⟨aA [(0,.sl (.st 207) x0),(1,.sl (.st 207) x1),(5,.int .i64 x2)] 0 27,[],0⟩).bind fun r=>aC GG [.bool] r.1
noncomputable def io (x0 x1:List ah) (x2:Int):Option (Bool):=(Den CC 134 (lbl CC 134 4) ⟨aA [(0,.sl (.st 227) x0),(1,.sl (.st 227) x1),(5,.int .i64 x2)] 0 27,[],0⟩).bind fun r=>aC GG [.bool] r.1
noncomputable def fJ (x0 x1:List ac) (x2:Int):Option (Bool):=(Den CC 135 (lbl CC 135 4) ⟨aA [(0,.sl (.st 230) x0),(1,.sl (.st 230) x1),(5,.int .i64 x2)] 0 27,[],0⟩).bind fun r=>aC GG [.bool] r.1
noncomputable def kf (x0:(List (List UInt8))) (x1:(List (List UInt8))) (x2:Int):Option (Bool):=(Den CC 136 (lbl CC 136 4) ⟨aA [(0,.sl .str x0),(1,.sl .str x1),(5,.int .i64 x2)] 0 26,[],0⟩).bind fun r=>aC GG [.bool] r.1
noncomputable def ni (x0 x1:List aE) (x2:Int):Option (Bool):=(Den CC 137 (lbl CC 137 4) ⟨aA [(0,.sl (.st 233) x0),(1,.sl (.st 233) x1),(5,.int .i64 x2)] 0 27,[],0⟩).bind fun r=>aC GG [.bool] r.1
noncomputable def A0 (x0:List ai) (x1:Int):Option (Int):=(Den CC 138 (az CC 138) ⟨aA [(0,.sl (.st 96) x0),(1,.int .i64 x1)] 0 27,[],0⟩).bind fun r=>aC GG [(.int .i64)] r.1
noncomputable def oC (x0:am) (x1:Int):Option (Int):=(Den CC 139 (az CC 139) ⟨aA [(0,.st 203 x0),(1,.int .i64 x1)] 0 31,[],0⟩).bind fun r=>aC GG [(.int .i64)] r.1
noncomputable def mc (x0:ak) (x1:Int):Option (Int):=(Den CC 140 (az CC 140) ⟨aA [(0,.st 207 x0),(1,.int .i64 x1)] 0 19,[],0⟩).bind fun r=>aC GG [(.int .i64)] r.1
noncomputable def kB (x0:ah) (x1:Int):Option (Int):=(Den CC 141 (az CC 141) ⟨aA [(0,.st 227 x0),(1,.int .i64 x1)] 0 32,[],0⟩).bind fun r=>aC GG [(.int .i64)] r.1
noncomputable def gY (x0:ac) (x1:Int):Option (Int):=(Den CC 142 (az CC 142) ⟨aA [(0,.st 230 x0),(1,.int .i64 x1)] 0 19,[],0⟩).bind fun r=>aC GG [(.int .i64)] r.1
noncomputable def vt (x0:aE) (x1:Int):Option (Int):=(Den CC 143 (az CC 143) ⟨aA [(0,.st 233 x0),(1,.int .i64 x1)] 0 19,[],0⟩).bind fun r=>aC GG [(.int .i64)] r.1
noncomputable def A1 (x0:List ai):Option ((List ai)):=(Den CC 163 (az CC 163) ⟨aA [(0,.sl (.st 96) x0)] 0 23,[],0⟩).bind fun r=>aC GG [(.sl (.st 96))] r.1
noncomputable def oD (x0:am):Option (am):=(Den CC 164 (az CC 164) ⟨aA [(0,.st 203 x0)] 0 29,[],0⟩).bind fun r=>aC GG [(.st 203)] r.1
noncomputable def md (x0:ak):Option (ak):=(Den CC 165 (az CC 165) ⟨aA [(0,.st 207 x0)] 0 12,[],0⟩).bind fun r=>aC GG [(.st 207)] r.1
noncomputable def kC (x0:ah):Option (ah):=(Den CC 166 (az CC 166) ⟨aA [(0,.st 227 x0)] 0 19,[],0⟩).bind fun r=>aC GG [(.st 227)] r.1
noncomputable def gZ (x0:ac):Option (ac):=(Den CC 167 (az CC 167) ⟨aA [(0,.st 230 x0)] 0 12,[],0⟩).bind fun r=>aC GG [(.st 230)] r.1
noncomputable def vu (x0:aE):Option (aE):=(Den CC 168 (az CC 168) ⟨aA [(0,.st 233 x0)] 0 18,[],0⟩).bind fun r=>aC GG [(.st 233)] r.1
noncomputable def oE (x0:List UInt8):Option (Bool):=(Den CC 144 (az CC 144) ⟨aA [(0,.str x0)] 0 9,[],0⟩).bind fun r=>aC GG [.bool] r.1
noncomputable def iC : Option (Bool):=(Den CC 83 (lbl CC 83 2) ⟨aA [] 0 61,[],0⟩).bind fun r=>aC GG [.bool] r.1
noncomputable def pn (x0:aK):Option (Bool):=(Den CC 145 (az CC 145) ⟨aA [(0,.st 98 x0)] 0 29,[],0⟩).bind fun r=>aC GG [.bool] r.1
noncomputable def qB (x0:Bool) (x1:ai):Option (Bool):=(Den CC 146 (az CC 146) ⟨aA [(0,.bool x0),(1,.st 96 x1)] 0 11,[],0⟩).bind fun r=>aC GG [.bool] r.1
noncomputable def yR (x0:List UInt8) (x1:Bool) (x2 x3:Int) (x4:List UInt8) (x5:List ai) (x6:Bool) (x7 x8:Int) (x9:List UInt8) (x10:List ai) (x11:Bool) (x12 x13:Int) (x14:List UInt8) (x15:List ai) (x16 x17 x18:List UInt8):Option (Bool):=(Den CC 83 (lbl CC 83 3) ⟨aA [(1,.ref 0 0)] 0 61,[.box 116 [.str x0,.bool x1,.int .i64 x2,.int .i64 x3,.str x4,.sl (.st 96) x5,.bool x6,.int .i64 x7,.int .i64 x8,.str x9,.sl (.st 96) x10,.bool x11,.int .i64 x12,.int .i64 x13,.str x14,.sl (.st 96) x15,.str x16,.str x17,.str x18] false],0⟩).bind fun r=>aC GG [.bool] r.1
noncomputable def qC (x0 x1:Int) (x2:List UInt8) (x3:List ai) (x4:Int):Option ((List UInt8)):=(Den CC 147 (az CC 147) ⟨aA [(0,.pc [.int .i64 x0,.int .i64 x1,.str x2,.sl (.st 96) x3]),(1,.int .i64 x4)] 0 15,[],0⟩).bind fun r=>aC GG [.str] r.1
noncomputable def dM (x0 x1:Int) (x2:List UInt8) (x3:List ai):Option ((List UInt8)):=(Den CC 148 (az CC 148) ⟨aA [(0,.pc [.int .i64 x0,.int .i64 x1,.str x2,.sl (.st 96) x3])] 0 141,[],0⟩).bind fun r=>aC GG [.str] r.1
noncomputable def gz (x0 x1:List UInt8) (x2:Bool) (x3 x4:Int) (x5:List UInt8) (x6:List ai) (x7:Bool) (x8 x9:Int) (x10:List UInt8) (x11:List ai) (x12:Bool) (x13 x14:Int) (x15:List UInt8) (x16:List ai) (x17 x18 x19:List UInt8):Option ((List UInt8)):=(Den CC 84 (lbl CC 84 6) ⟨aA [(1,.ref 0 0),(3,.str x0)] 0 38,[.box 116 [.str x1,.bool x2,.int .i64 x3,.int .i64 x4,.str x5,.sl (.st 96) x6,.bool x7,.int .i64 x8,.int .i64 x9,.str x10,.sl (.st 96) x11,.bool x12,.int .i64 x13,.int .i64 x14,.str x15,.sl (.st 96) x16,.str x17,.str x18,.str x19] false],0⟩).bind fun r=>aC GG [.str] r.1
noncomputable def g7 (x0:List UInt8) (x1:Bool):Option (Bool):=(Den CC 150 (az CC 150) ⟨aA [(0,.str x0),(1,.bool x1)] 0 32,[],0⟩).bind fun r=>aC GG [.bool] r.1
noncomputable def Gy (x0:List UInt8):Option ((List aN)×Int×Int):=(Den CC 151 (az CC 151) ⟨aA [(0,.str x0)] 0 64,[],0⟩).bind fun r=>aC GG [(.sl (.st 267)),(.int .i64),(.int .i64)] r.1
noncomputable def dA (x0 x1:Int) (x2:List UInt8) (x3:List ai):Option ((((List av)×Unit)×Unit)):=(Den CC 160 (az CC 160) ⟨aA [(0,.pc [.int .i64 x0,.int .i64 x1,.str x2,.sl (.st 96) x3])] 0 155,[],0⟩).bind fun r=>mI GG [(false,[.ow 129 (.st 128)])] r
noncomputable def ua (x0 x1:Int) (x2:List UInt8) (x3:List ai):Option ((((List av)×Unit)×(Int×Int×(List UInt8)×Unit)×(Int×Int×(List UInt8)×Unit)×(Bool×Unit)×Unit)):=(Den CC 161 (az CC 161) ⟨aA [(0,.pc [.int .i64 x0,.int .i64 x1,.str x2,.sl (.st 96) x3])] 0 89,[],0⟩).bind fun r=>mI GG [(false,[.ow 129 (.st 128)]),(true,[.im (.int .i64),.im (.int .i64),.im .str]),(true,[.im (.int .i64),.im (.int .i64),.im .str]),(false,[.im .bool])] r
noncomputable def ja (x0:List av) (x1 x2:Int) (x3:List UInt8):Option ((((List av)×Unit)×Unit)):=(Den CC 94 (lbl CC 94 21) ⟨aA [(3,.arr 0),(6,.ref 1 0)] 0 99,[.arr 129 (.st 128) x0 false,.box 129 [.int .i64 x1,.int .i64 x2,.str x3] false],0⟩).bind fun r=>mI GG [(false,[.ow 129 (.st 128)])] r
noncomputable def A2 (x0:aj) (x1:aK) (x2:Bool) (x3:Int):Option (Int×Int):=(Den CC 162 (az CC 162) ⟨aA [(0,.st 23 x0),(1,.st 98 x1),(2,.bool x2),(3,.int .i64 x3)] 0 43,[],0⟩).bind fun r=>aC GG [(.int .i64),(.int .i64)] r.1
noncomputable def po (x0:aJ):Option (Bool):=(Den CC 86 (az CC 86) ⟨aA [(0,.st 26 x0)] 0 4,[],0⟩).bind fun r=>aC GG [.bool] r.1
noncomputable def nj (x0:aB):Option (Bool):=(Den CC 87 (az CC 87) ⟨aA [(0,.st 31 x0)] 0 134,[],0⟩).bind fun r=>aC GG [.bool] r.1
noncomputable def n7 (x0:au):Option (Bool):=(Den CC 88 (az CC 88) ⟨aA [(0,.st 35 x0)] 0 4,[],0⟩).bind fun r=>aC GG [.bool] r.1
noncomputable def me (x0:aB):Option ((((List ap)×Unit)×Unit)):=(Den CC 89 (az CC 89) ⟨aA [(0,.st 31 x0)] 0 26,[],0⟩).bind fun r=>mI GG [(false,[.ow 136 (.st 106)])] r
noncomputable def kD (x0:List ap) (x1 x2:Int) (x3:List am):Option (Bool):=(Den CC 42 (lbl CC 42 2) ⟨aA [(1,.sl (.st 106) x0),(2,.ref 0 0),(5,.int .i64 x1)] 0 21,[.box 52 [.int .i64 x2,.sl (.st 203) x3] false],0⟩).bind fun r=>aC GG [.bool] r.1
noncomputable def qD (x0:b9):Option ((((List Int)×Unit)×Unit)):=(Den CC 43 (az CC 43) ⟨aA [(0,.st 79 x0)] 0 53,[],0⟩).bind fun r=>mI GG [(false,[.ow 2 (.int .i64)])] r
noncomputable def g8 (x0 x1:Int) (x2:List av) (x3 x4:List Int) (x5 x6 x7:Int) (x8:List am) (x9:List ak) (x10:List ah) (x11:List ac) (x12:(List (List UInt8))) (x13:Int) (x14:(List (List UInt8))) (x15:List aE) (x16:(List (List UInt8))) (x17:List ap) (x18:List ae) (x19 x20 x21 x22 x23:Int) (x24:List Int):Option (Bool):=(Den CC 17 (lbl CC 17 11) ⟨aA [(2,.ref 0 0),(3,.ref 1 0),(6,.arr 2),(7,.int .i64 x0),(8,.int .i64 x1)] 0 173,[.box 80 [.sl (.st 128) x2,.sl (.int .i64) x3,.sl (.int .i64) x4] false,.box 66 [.int .i64 x5,.int .i64 x6,.int .i64 x7,.sl (.st 203) x8,.sl (.st 207) x9,.sl (.st 227) x10,.sl (.st 230) x11,.sl .str x12,.int .i64 x13,.sl .str x14,.sl (.st 233) x15,.sl .str x16,.sl (.st 106) x17,.sl (.st 109) x18,.int .i64 x19,.int .i64 x20,.int .i64 x21,.int .i64 x22,.int .i64 x23] false,.arr 2 (.int .i64) x24 false],0⟩).bind fun r=>aC GG [.bool] r.1
noncomputable def qE (x0:List UInt8):Option (Bool):=(Den CC 104 (az CC 104) ⟨aA [(0,.str x0)] 0 5,[],0⟩).bind fun r=>aC GG [.bool] r.1
noncomputable def cc : Option (Bool):=(Den CC 54 (lbl CC 54 2) ⟨aA [] 0 89,[],0⟩).bind fun r=>aC GG [.bool] r.1
noncomputable def pp (x0:aK):Option (Bool):=(Den CC 105 (az CC 105) ⟨aA [(0,.st 98 x0)] 0 21,[],0⟩).bind fun r=>aC GG [.bool] r.1
noncomputable def dS (x0:List UInt8) (x1:Bool) (x2 x3:Int) (x4:List UInt8) (x5:List ai) (x6:Bool) (x7 x8:Int) (x9:List UInt8) (x10:List ai) (x11:Bool) (x12 x13:Int) (x14:List UInt8) (x15:List ai) (x16 x17 x18:List UInt8):Option (Bool):=(Den CC 54 (lbl CC 54 3) ⟨aA [(1,.ref 0 0)] 0 89,[.box 116 [.str x0,.bool x1,.int .i64 x2,.int .i64 x3,.str x4,.sl (.st 96) x5,.bool x6,.int .i64 x7,.int .i64 x8,.str x9,.sl (.st 96) x10,.bool x11,.int .i64 x12,.int .i64 x13,.str x14,.sl (.st 96) x15,.str x16,.str x17,.str x18] false],0⟩).bind fun r=>aC GG [.bool] r.1
noncomputable def aG (x0:List aa) (x1:List UInt8) (x2 x3:Int):Option (Int):=(Den CC 110 (lbl CC 110 2) ⟨aA [(0,.sl (.st 100) x0),(1,.fn 111 [.pc [.str x1]]),(7,.int .i64 x2),(8,.int .i64 x3)] 0 19,[],0⟩).bind fun r=>aC GG [(.int .i64)] r.1
noncomputable def fp (x0:aa):Option ((List UInt8)):=(Den CC 107 (az CC 107) ⟨aA [(0,.st 100 x0)] 0 41,[],0⟩).bind fun r=>aC GG [.str] r.1
noncomputable def bN (x0:List aa) (x1 x2:Int) (x3:List Int):Option ((List UInt8)):=(Den CC 57 (lbl CC 57 3) ⟨aA [(3,.ref 0 0),(8,.sl (.st 100) x0),(9,.int .i64 x1),(10,.int .i64 x2)] 0 20,[.box 193 [.ref 0 0,.arr 1] false,.arr 5 (.int .u8) x3 false],0⟩).bind fun r=>aC GG [.str] r.1
noncomputable def kX (x0:aa):Option ((((List av)×Unit)×Unit)):=(Den CC 184 (az CC 184) ⟨aA [(0,.st 100 x0)] 0 29,[],0⟩).bind fun r=>mI GG [(false,[.ow 129 (.st 128)])] r
noncomputable def ej (x0:aj) (x1:Int) (x2:Bool):Option (av):=(Den CC 185 (az CC 185) ⟨aA [(0,.st 23 x0),(1,.int .i64 x1),(2,.bool x2)] 0 38,[],0⟩).bind fun r=>aC GG [(.st 128)] r.1
noncomputable def n8 (x0:av):Option (Int×Int):=(Den CC 115 (az CC 115) ⟨aA [(0,.st 128 x0)] 0 18,[],0⟩).bind fun r=>aC GG [(.int .i64),(.int .i64)] r.1
noncomputable def kg : Option (Bool):=(Den CC 116 (lbl CC 116 2) ⟨aA [] 0 47,[],0⟩).bind fun r=>aC GG [.bool] r.1
noncomputable def cw (x0:List am):Option (Bool):=(Den CC 187 (az CC 187) ⟨aA [(0,.sl (.st 203) x0),(1,.fn 188 [])] 0 18,[],0⟩).bind fun r=>aC GG [.bool] r.1
noncomputable def tq (x0:Int) (x1:List am):Option (Bool):=(Den CC 116 (lbl CC 116 3) ⟨aA [(1,.ref 0 0)] 0 47,[.box 52 [.int .i64 x0,.sl (.st 203) x1] false],0⟩).bind fun r=>aC GG [.bool] r.1
noncomputable def jb : Option (Bool):=(Den CC 117 (lbl CC 117 2) ⟨aA [] 0 49,[],0⟩).bind fun r=>aC GG [.bool] r.1
noncomputable def qF (x0:List ak) (x1:List ah) (x2:List ac):Option (Bool):=(Den CC 117 (lbl CC 117 3) ⟨aA [(1,.ref 0 0)] 0 49,[.box 57 [.sl (.st 207) x0,.sl (.st 227) x1,.sl (.st 230) x2] false],0⟩).bind fun r=>aC GG [.bool] r.1
noncomputable def eO : Option (Bool):=(Den CC 118 (lbl CC 118 3) ⟨aA [] 0 60,[],0⟩).bind fun r=>aC GG [.bool] r.1
noncomputable def dJ (x0:(List (List UInt8))) (x1:Int) (x2:(List (List UInt8))) (x3:List aE) (x4:(List (List UInt8))):Option (Bool):=(Den CC 118 (lbl CC 118 4) ⟨aA [(1,.ref 0 0),(3,.fn 202 [])] 0 60,[.box 60 [.sl .str x0,.int .i64 x1,.sl .str x2,.sl (.st 233) x3,.sl .str x4] false],0⟩).bind fun r=>aC GG [.bool] r.1
noncomputable def cy (x0:List ak) (x1 x2:Int) (x3:List ap):Option ((((List ap)×Unit)×Unit)):=(Den CC 119 (lbl CC 119 3) ⟨aA [(3,.arr 0),(8,.sl (.st 207) x0),(9,.int .i64 x1),(10,.int .i64 x2)] 0 21,[.arr 136 (.st 106) x3 false],0⟩).bind fun r=>mI GG [(false,[.ow 136 (.st 106)])] r
noncomputable def mf (x0:aJ) (x1:ap):Option (Bool):=(Den CC 63 (az CC 63) ⟨aA [(0,.st 26 x0),(1,.st 106 x1)] 0 35,[],0⟩).bind fun r=>aC GG [.bool] r.1
noncomputable def aS (x0:List aa) (x1:List av) (x2 x3 x4:List Int) (x5 x6 x7:Int) (x8:List am) (x9:List ak) (x10:List ah) (x11:List ac) (x12:(List (List UInt8))) (x13:Int) (x14:(List (List UInt8))) (x15:List aE) (x16:(List (List UInt8))) (x17:List ap) (x18:List ae) (x19 x20 x21 x22 x23:Int) (x24:List ae) (x25 x26:Int):Option (Bool):=(Den CC 66 (lbl CC 66 2) ⟨aA [(1,.fn 64 [.pc [.sl (.st 100) x0,.sl (.st 128) x1,.sl (.int .i64) x2,.sl (.int .i64) x3,.sl (.int .i64) x4],.pc [.int .i64 x5,.int .i64 x6,.int .i64 x7,.sl (.st 203) x8,.sl (.st 207) x9,.sl (.st 227) x10,.sl (.st 230) x11,.sl .str x12,.int .i64 x13,.sl .str x14,.sl (.st 233) x15,.sl .str x16,.sl (.st 106) x17,.sl (.st 109) x18,.int .i64 x19,.int .i64 x20,.int .i64 x21,.int .i64 x22,.int .i64 x23]]),(7,.sl (.st 109) x24),(8,.int .i64 x25),(9,.int .i64 x26)] 0 18,[],0⟩).bind fun r=>aC GG [.bool] r.1
noncomputable def cZ (x0:Int) (x1:List ae) (x2 x3:Int) (x4:List aa) (x5:List av) (x6 x7 x8:List Int) (x9 x10 x11:Int) (x12:List am) (x13:List ak) (x14:List ah) (x15:List ac) (x16:(List (List UInt8))) (x17:Int) (x18:(List (List UInt8))) (x19:List aE) (x20:(List (List UInt8))) (x21:List ap) (x22:List ae) (x23 x24 x25 x26 x27:Int):Option (Bool):=(Den CC 67 (lbl CC 67 3) ⟨aA [(2,.ref 0 0),(3,.ref 1 0),(5,.int .i64 x0),(9,.sl (.st 109) x1),(10,.int .i64 x2),(11,.int .i64 x3)] 0 33,[.box 87 [.sl (.st 100) x4,.sl (.st 128) x5,.sl (.int .i64) x6,.sl (.int .i64) x7,.sl (.int .i64) x8] false,.box 66 [.int .i64 x9,.int .i64 x10,.int .i64 x11,.sl (.st 203) x12,.sl (.st 207) x13,.sl (.st 227) x14,.sl (.st 230) x15,.sl .str x16,.int .i64 x17,.sl .str x18,.sl (.st 233) x19,.sl .str x20,.sl (.st 106) x21,.sl (.st 109) x22,.int .i64 x23,.int .i64 x24,.int .i64 x25,.int .i64 x26,.int .i64 x27] false],0⟩).bind fun r=>aC GG [.bool] r.1
noncomputable def qG (x0 x1:Int):Option (Bool):=(Den CC 128 (az CC 128) ⟨aA [(0,.int .i64 x0),(1,.int .i64 x1)] 0 12,[],0⟩).bind fun r=>aC GG [.bool] r.1
noncomputable def gK : Option (Bool):=(Den CC 68 (lbl CC 68 5) ⟨aA [] 0 77,[],0⟩).bind fun r=>aC GG [.bool] r.1
noncomputable def c6 (x0:Int) (x1:List aa) (x2:List av) (x3 x4 x5:List Int) (x6 x7 x8:Int) (x9:List am) (x10:List ak) (x11:List ah) (x12:List ac) (x13:(List (List UInt8))) (x14:Int) (x15:(List (List UInt8))) (x16:List aE) (x17:(List (List UInt8))) (x18:List ap) (x19:List ae) (x20 x21 x22 x23 x24:Int):Option (Bool):=(Den CC 68 (lbl CC 68 6) ⟨aA [(2,.ref 0 0),(3,.ref 1 0),(5,.int .i64 x0)] 0 77,[.box 87 [.sl (.st 100) x1,.sl (.st 128) x2,.sl (.int .i64) x3,.sl (.int .i64) x4,.sl (.int .i64) x5] false,.box 66 [.int .i64 x6,.int .i64 x7,.int .i64 x8,.sl (.st 203) x9,.sl (.st 207) x10,.sl (.st 227) x11,.sl (.st 230) x12,.sl .str x13,.int .i64 x14,.sl .str x15,.sl (.st 233) x16,.sl .str x17,.sl (.st 106) x18,.sl (.st 109) x19,.int .i64 x20,.int .i64 x21,.int .i64 x22,.int .i64 x23,.int .i64 x24] false],0⟩).bind fun r=>aC GG [.bool] r.1
noncomputable def A3 (x0 x1:List ai):Option (Bool):=(Den CC 216 (az CC 216) ⟨aA [(0,.sl (.st 96) x0),(1,.sl (.st 96) x1)] 0 27,[],0⟩).bind fun r=>aC GG [.bool] r.1
noncomputable def oF (x0 x1:am):Option (Bool):=(Den CC 217 (az CC 217) ⟨aA [(0,.st 203 x0),(1,.st 203 x1)] 0 43,[],0⟩).bind fun r=>aC GG [.bool] r.1
noncomputable def mg (x0 x1:ak):Option (Bool):=(Den CC 218 (az CC 218) ⟨aA [(0,.st 207 x0),(1,.st 207 x1)] 0 16,[],0⟩).bind fun r=>aC GG [.bool] r.1
noncomputable def kE (x0 x1:ah):Option (Bool):=(Den CC 219 (az CC 219) ⟨aA [(0,.st 227 x0),(1,.st 227 x1)] 0 27,[],0⟩).bind fun r=>aC GG [.bool] r.1
noncomputable def g9 (x0 x1:ac):Option (Bool):=(Den CC 220 (az CC 220) ⟨aA [(0,.st 230 x0),(1,.st 230 x1)] 0 16,[],0⟩).bind fun r=>aC GG [.bool] r.1
noncomputable def vw (x0 x1:aE):Option (Bool):=(Den CC 221 (az CC 221) ⟨aA [(0,.st 233 x0),(1,.st 233 x1)] 0 26,[],0⟩).bind fun r=>aC GG [.bool] r.1
noncomputable def nk (x0:List ai) (x1 x2:Int):Option (Int):=(Den CC 138 (lbl CC 138 5) ⟨aA [(0,.sl (.st 96) x0),(1,.int .i64 x1),(5,.int .i64 x2)] 0 27,[],0⟩).bind fun r=>aC GG [(.int .i64)] r.1
noncomputable def nq (x0:List ai) (x1:Int) (x2:List ai):Option ((List ai)):=(Den CC 163 (lbl CC 163 3) ⟨aA [(0,.sl (.st 96) x0),(3,.arr 0),(4,.int .i64 x1)] 0 23,[.arr 113 (.st 96) x2 false],0⟩).bind fun r=>aC GG [(.sl (.st 96))] r.1
noncomputable def em (x0:List UInt8):Option (Bool):=(Den CC 92 (az CC 92) ⟨aA [(0,.str x0)] 0 17,[],0⟩).bind fun r=>aC GG [.bool] r.1
noncomputable def n9 : Option (Bool):=(Den CC 145 (lbl CC 145 2) ⟨aA [] 0 29,[],0⟩).bind fun r=>aC GG [.bool] r.1
noncomputable def oa (x0 x1 x2:List UInt8):Option (Bool):=(Den CC 145 (lbl CC 145 3) ⟨aA [(1,.ref 0 0)] 0 29,[.box 114 [.str x0,.str x1,.str x2] false],0⟩).bind fun r=>aC GG [.bool] r.1
noncomputable def A4 (x0:ai):Option (Bool):=(Den CC 222 (az CC 222) ⟨aA [(0,.st 96 x0)] 0 4,[],0⟩).bind fun r=>aC GG [.bool] r.1
noncomputable def DZ (x0 x1:ai):Option (Bool):=(Den CC 223 (az CC 223) ⟨aA [(0,.st 96 x0),(1,.st 96 x1)] 0 6,[],0⟩).bind fun r=>aC GG [.bool] r.1
noncomputable def qH : Option (Bool):=(Den CC 83 (lbl CC 83 4) ⟨aA [] 0 61,[],0⟩).bind fun r=>aC GG [.bool] r.1
noncomputable def qI (x0:List UInt8) (x1:Bool) (x2 x3:Int) (x4:List UInt8) (x5:List ai) (x6:Bool) (x7 x8:Int) (x9:List UInt8) (x10:List ai) (x11:Bool) (x12 x13:Int) (x14:List UInt8) (x15:List ai) (x16 x17 x18:List UInt8):Option (Bool):=(Den CC 83 (lbl CC 83 5) ⟨aA [(1,.ref 0 0)] 0 61,[.box 116 [.str x0,.bool x1,.int .i64 x2,.int .i64 x3,.str x4,.sl (.st 96) x5,.bool x6,.int .i64 x7,.int .i64 x8,.str x9,.sl (.st 96) x10,.bool x11,.int .i64 x12,.int .i64 x13,.str x14,.sl (.st 96) x15,.str x16,.str x17,.str x18] false],0⟩).bind fun r=>aC GG [.bool] r.1
noncomputable def r7 (x0 x1:Int) (x2:List UInt8) (x3:List ai):Option (Int):=(Den CC 224 (az CC 224) ⟨aA [(0,.pc [.int .i64 x0,.int .i64 x1,.str x2,.sl (.st 96) x3])] 0 26,[],0⟩).bind fun r=>aC GG [(.int .i64)] r.1
noncomputable def pq (x0:List UInt8):Option ((List UInt8)):=(Den CC 225 (az CC 225) ⟨aA [(0,.str x0)] 0 14,[],0⟩).bind fun r=>aC GG [.str] r.1
noncomputable def Ai (x0:Int):Option ((List UInt8)):=(Den CC 226 (az CC 226) ⟨aA [(0,.int .i64 x0)] 0 29,[],0⟩).bind fun r=>aC GG [.str] r.1
noncomputable def ey (x0 x1:Int) (x2:List UInt8) (x3:List ai) (x4:List UInt8) (x5:Int):Option ((List UInt8)):=(Den CC 148 (lbl CC 148 23) ⟨aA [(0,.pc [.int .i64 x0,.int .i64 x1,.str x2,.sl (.st 96) x3]),(3,.str x4),(4,.int .i64 x5)] 0 141,[],0⟩).bind fun r=>aC GG [.str] r.1
noncomputable def A5 (x0:Int):Option ((List UInt8)):=(Den CC 227 (az CC 227) ⟨aA [(0,.int .i64 x0)] 0 18,[],0⟩).bind fun r=>aC GG [.str] r.1
noncomputable def oG (x0:aK):Option ((List UInt8)):=(Den CC 149 (az CC 149) ⟨aA [(0,.st 98 x0)] 0 38,[],0⟩).bind fun r=>aC GG [.str] r.1
noncomputable def hC (x0:List UInt8):Option ((List UInt8)):=(Den CC 84 (lbl CC 84 10) ⟨aA [(3,.str x0)] 0 38,[],0⟩).bind fun r=>aC GG [.str] r.1
noncomputable def gA (x0:List UInt8) (x1:Bool) (x2:Int):Option (Bool):=(Den CC 150 (lbl CC 150 2) ⟨aA [(0,.str x0),(1,.bool x1),(5,.int .i64 x2)] 0 32,[],0⟩).bind fun r=>aC GG [.bool] r.1
noncomputable def eY (x0:List UInt8) (x1:Int) (x2:Bool) (x3:List aN):Option ((List aN)×Int×Int):=(Den CC 151 (lbl CC 151 4) ⟨aA [(0,.str x0),(5,.arr 0),(6,.int .i64 x1),(7,.bool x2)] 0 64,[.arr 268 (.st 267) x3 false],0⟩).bind fun r=>aC GG [(.sl (.st 267)),(.int .i64),(.int .i64)] r.1
noncomputable def fW (x0 x1:Int) (x2:List UInt8) (x3:List ai) (x4:Int) (x5:List av):Option ((((List av)×Unit)×Unit)):=(Den CC 160 (lbl CC 160 6) ⟨aA [(0,.pc [.int .i64 x0,.int .i64 x1,.str x2,.sl (.st 96) x3]),(3,.arr 0),(4,.int .i64 x4)] 0 155,[.arr 129 (.st 128) x5 false],0⟩).bind fun r=>mI GG [(false,[.ow 129 (.st 128)])] r
noncomputable def iD (x0:Int) (x1:List UInt8) (x2:List aa):Option (Int×Int):=(Den CC 162 (lbl CC 162 6) ⟨aA [(3,.int .i64 x0),(4,.ref 0 0),(10,.str x1)] 0 43,[.box 48 [.sl (.st 100) x2] false],0⟩).bind fun r=>aC GG [(.int .i64),(.int .i64)] r.1
noncomputable def EG (x0:Int) (x1:List am):Option (Bool):=(Den CC 152 (az CC 152) ⟨aA [(0,.pc [.int .i64 x0,.sl (.st 203) x1])] 0 84,[],0⟩).bind fun r=>aC GG [.bool] r.1
noncomputable def jc : Option (Bool):=(Den CC 87 (lbl CC 87 2) ⟨aA [] 0 134,[],0⟩).bind fun r=>aC GG [.bool] r.1
noncomputable def qJ (x0:List ak) (x1:List ah) (x2:List ac):Option (Bool):=(Den CC 87 (lbl CC 87 3) ⟨aA [(1,.ref 0 0)] 0 134,[.box 57 [.sl (.st 207) x0,.sl (.st 227) x1,.sl (.st 230) x2] false],0⟩).bind fun r=>aC GG [.bool] r.1
noncomputable def Nc (x0:(List (List UInt8))) (x1:Int) (x2:(List (List UInt8))) (x3:List aE) (x4:(List (List UInt8))):Option (Bool):=(Den CC 157 (az CC 157) ⟨aA [(0,.pc [.sl .str x0,.int .i64 x1,.sl .str x2,.sl (.st 233) x3,.sl .str x4])] 0 89,[],0⟩).bind fun r=>aC GG [.bool] r.1
noncomputable def cQ (x0:Int) (x1:List ak) (x2:List ah) (x3:List ac) (x4:List ap):Option ((((List ap)×Unit)×Unit)):=(Den CC 89 (lbl CC 89 5) ⟨aA [(1,.ref 0 0),(3,.arr 1),(4,.int .i64 x0)] 0 26,[.box 57 [.sl (.st 207) x1,.sl (.st 227) x2,.sl (.st 230) x3] false,.arr 136 (.st 106) x4 false],0⟩).bind fun r=>mI GG [(false,[.ow 136 (.st 106)])] r
noncomputable def lS (x0:aJ) (x1:ap):Option (Bool):=(Den CC 90 (az CC 90) ⟨aA [(0,.st 26 x0),(1,.st 106 x1)] 0 10,[],0⟩).bind fun r=>aC GG [.bool] r.1
noncomputable def fZ (x0:Int) (x1:List av) (x2 x3 x4:List Int):Option ((((List Int)×Unit)×Unit)):=(Den CC 43 (lbl CC 43 3) ⟨aA [(1,.ref 0 0),(3,.arr 1),(4,.int .i64 x0)] 0 53,[.box 80 [.sl (.st 128) x1,.sl (.int .i64) x2,.sl (.int .i64) x3] false,.arr 2 (.int .i64) x4 false],0⟩).bind fun r=>mI GG [(false,[.ow 2 (.int .i64)])] r
noncomputable def w7 (x0:b9) (x1:aJ) (x2:ae):Option (Bool):=(Den CC 44 (az CC 44) ⟨aA [(0,.st 79 x0),(1,.st 26 x1),(2,.st 109 x2)] 0 47,[],0⟩).bind fun r=>aC GG [.bool] r.1
noncomputable def tu : Option (Bool):=(Den CC 17 (lbl CC 17 21) ⟨aA [] 0 173,[],0⟩).bind fun r=>aC GG [.bool] r.1
noncomputable def kh (x0:Int) (x1:List av) (x2 x3:List Int) (x4 x5 x6:Int) (x7:List am) (x8:List ak) (x9:List ah) (x10:List ac) (x11:(List (List UInt8))) (x12:Int) (x13:(List (List UInt8))) (x14:List aE) (x15:(List (List UInt8))) (x16:List ap) (x17:List ae) (x18 x19 x20 x21 x22:Int):Option (Bool):=(Den CC 17 (lbl CC 17 22) ⟨aA [(2,.ref 0 0),(3,.ref 1 0),(10,.int .i64 x0)] 0 173,[.box 80 [.sl (.st 128) x1,.sl (.int .i64) x2,.sl (.int .i64) x3] false,.box 66 [.int .i64 x4,.int .i64 x5,.int .i64 x6,.sl (.st 203) x7,.sl (.st 207) x8,.sl (.st 227) x9,.sl (.st 230) x10,.sl .str x11,.int .i64 x12,.sl .str x13,.sl (.st 233) x14,.sl .str x15,.sl (.st 106) x16,.sl (.st 109) x17,.int .i64 x18,.int .i64 x19,.int .i64 x20,.int .i64 x21,.int .i64 x22] false],0⟩).bind fun r=>aC GG [.bool] r.1
noncomputable def di (x0:List UInt8):Option (Bool):=(Den CC 124 (az CC 124) ⟨aA [(0,.str x0)] 0 21,[],0⟩).bind fun r=>aC GG [.bool] r.1
noncomputable def pr (x0:aK):Option ((List (List UInt8))):=(Den CC 170 (az CC 170) ⟨aA [(0,.st 98 x0)] 0 27,[],0⟩).bind fun r=>aC GG [(.sl .str)] r.1
noncomputable def dY (x0:(List (List UInt8))):Option (Bool):=(Den CC 169 (az CC 169) ⟨aA [(0,.sl .str x0),(1,.fn 104 [])] 0 18,[],0⟩).bind fun r=>aC GG [.bool] r.1
noncomputable def vz (x0:Bool) (x1:ai):Option (Bool):=(Den CC 106 (az CC 106) ⟨aA [(0,.bool x0),(1,.st 96 x1)] 0 11,[],0⟩).bind fun r=>aC GG [.bool] r.1
noncomputable def fe : Option (Bool):=(Den CC 54 (lbl CC 54 4) ⟨aA [] 0 89,[],0⟩).bind fun r=>aC GG [.bool] r.1
noncomputable def mh (x0:List UInt8) (x1:Bool) (x2 x3:Int) (x4:List UInt8) (x5:List ai) (x6:Bool) (x7 x8:Int) (x9:List UInt8) (x10:List ai) (x11:Bool) (x12 x13:Int) (x14:List UInt8) (x15:List ai) (x16 x17 x18:List UInt8):Option (Bool):=(Den CC 54 (lbl CC 54 5) ⟨aA [(1,.ref 0 0)] 0 89,[.box 116 [.str x0,.bool x1,.int .i64 x2,.int .i64 x3,.str x4,.sl (.st 96) x5,.bool x6,.int .i64 x7,.int .i64 x8,.str x9,.sl (.st 96) x10,.bool x11,.int .i64 x12,.int .i64 x13,.str x14,.sl (.st 96) x15,.str x16,.str x17,.str x18] false],0⟩).bind fun r=>aC GG [.bool] r.1
noncomputable def jd (x0:aa) (x1:List UInt8):Option (Bool):=(Den CC 111 (az CC 111) ⟨aA [(0,.st 100 x0),(1,.pc [.str x1])] 0 8,[],0⟩).bind fun r=>aC GG [.bool] r.1
noncomputable def je (x0:ai) (x1:Int):Option ((List UInt8)):=(Den CC 173 (az CC 173) ⟨aA [(0,.st 96 x0),(1,.int .i64 x1)] 0 16,[],0⟩).bind fun r=>aC GG [.str] r.1
noncomputable def du (x0:ai):Option ((List UInt8)):=(Den CC 174 (az CC 174) ⟨aA [(0,.st 96 x0)] 0 133,[],0⟩).bind fun r=>aC GG [.str] r.1
noncomputable def db (x0 x1:List UInt8) (x2:Bool) (x3 x4:Int) (x5:List UInt8) (x6:List ai) (x7:Bool) (x8 x9:Int) (x10:List UInt8) (x11:List ai) (x12:Bool) (x13 x14:Int) (x15:List UInt8) (x16:List ai) (x17 x18 x19:List UInt8):Option ((List UInt8)):=(Den CC 107 (lbl CC 107 6) ⟨aA [(1,.ref 0 0),(3,.str x0)] 0 41,[.box 116 [.str x1,.bool x2,.int .i64 x3,.int .i64 x4,.str x5,.sl (.st 96) x6,.bool x7,.int .i64 x8,.int .i64 x9,.str x10,.sl (.st 96) x11,.bool x12,.int .i64 x13,.int .i64 x14,.str x15,.sl (.st 96) x16,.str x17,.str x18,.str x19] false],0⟩).bind fun r=>aC GG [.str] r.1
noncomputable def jf (x0:aa):Option ((((List av)×Unit)×Unit)):=(Den CC 256 (az CC 256) ⟨aA [(0,.st 100 x0)] 0 55,[],0⟩).bind fun r=>mI GG [(false,[.ow 129 (.st 128)])] r
noncomputable def lC (x0:List ai):Option ((((List av)×Unit)×Unit)):=(Den CC 257 (az CC 257) ⟨aA [(0,.sl (.st 96) x0)] 0 19,[],0⟩).bind fun r=>mI GG [(false,[.ow 129 (.st 128)])] r
noncomputable def oc (x0:aj) (x1:aK) (x2:Bool) (x3:Int):Option (Int×Int):=(Den CC 258 (az CC 258) ⟨aA [(0,.st 23 x0),(1,.st 98 x1),(2,.bool x2),(3,.int .i64 x3)] 0 31,[],0⟩).bind fun r=>aC GG [(.int .i64),(.int .i64)] r.1
noncomputable def yS (x0:av):Option (aI):=(Den CC 186 (az CC 186) ⟨aA [(0,.st 128 x0)] 0 9,[],0⟩).bind fun r=>aC GG [(.st 276)] r.1
noncomputable def bj (x0:List am) (x1 x2:Int):Option (Bool):=(Den CC 187 (lbl CC 187 2) ⟨aA [(1,.fn 188 []),(7,.sl (.st 203) x0),(8,.int .i64 x1),(9,.int .i64 x2)] 0 18,[],0⟩).bind fun r=>aC GG [.bool] r.1
noncomputable def kj (x0:Int) (x1:List am) (x2 x3 x4:Int) (x5:List am):Option (Bool):=(Den CC 116 (lbl CC 116 5) ⟨aA [(1,.ref 0 0),(3,.int .i64 x0),(23,.sl (.st 203) x1),(24,.int .i64 x2),(25,.int .i64 x3)] 0 47,[.box 52 [.int .i64 x4,.sl (.st 203) x5] false],0⟩).bind fun r=>aC GG [.bool] r.1
noncomputable def df (x0:List ak):Option (Bool):=(Den CC 191 (az CC 191) ⟨aA [(0,.sl (.st 207) x0),(1,.fn 192 [])] 0 26,[],0⟩).bind fun r=>aC GG [.bool] r.1
noncomputable def cU (x0:List ah):Option (Bool):=(Den CC 193 (az CC 193) ⟨aA [(0,.sl (.st 227) x0),(1,.fn 194 [])] 0 26,[],0⟩).bind fun r=>aC GG [.bool] r.1
noncomputable def dg (x0:List ac):Option (Bool):=(Den CC 195 (az CC 195) ⟨aA [(0,.sl (.st 230) x0),(1,.fn 196 [])] 0 26,[],0⟩).bind fun r=>aC GG [.bool] r.1
noncomputable def jg (x0:Bool) (x1:List ak) (x2:List ah) (x3:List ac):Option (Bool):=(Den CC 117 (lbl CC 117 4) ⟨aA [(1,.ref 0 0),(3,.bool x0)] 0 49,[.box 57 [.sl (.st 207) x1,.sl (.st 227) x2,.sl (.st 230) x3] false],0⟩).bind fun r=>aC GG [.bool] r.1
noncomputable def ch (x0:(List (List UInt8))):Option (Bool):=(Den CC 169 (az CC 169) ⟨aA [(0,.sl .str x0),(1,.fn 203 [])] 0 18,[],0⟩).bind fun r=>aC GG [.bool] r.1
noncomputable def cG (x0:(List (List UInt8))):Option (Bool):=(Den CC 169 (az CC 169) ⟨aA [(0,.sl .str x0),(1,.fn 202 [])] 0 18,[],0⟩).bind fun r=>aC GG [.bool] r.1
noncomputable def gB (x0:Bool) (x1:(List (List UInt8))) (x2:Int) (x3:(List (List UInt8))) (x4:List aE) (x5:(List (List UInt8))):Option (Bool):=(Den CC 118 (lbl CC 118 5) ⟨aA [(1,.ref 0 0),(4,.bool x0)] 0 60,[.box 60 [.sl .str x1,.int .i64 x2,.sl .str x3,.sl (.st 233) x4,.sl .str x5] false],0⟩).bind fun r=>aC GG [.bool] r.1
noncomputable def eo (x0:ap):Option (Bool):=(Den CC 120 (az CC 120) ⟨aA [(0,.st 106 x0)] 0 80,[],0⟩).bind fun r=>aC GG [.bool] r.1
noncomputable def J6 (x0:Int):Option (Bool):=(Den CC 121 (az CC 121) ⟨aA [(0,.int .i64 x0)] 0 5,[],0⟩).bind fun r=>aC GG [.bool] r.1
noncomputable def pt (x0:aJ) (x1:Int):Option (Int):=(Den CC 122 (az CC 122) ⟨aA [(0,.st 26 x0),(1,.int .i64 x1)] 0 17,[],0⟩).bind fun r=>aC GG [(.int .i64)] r.1
noncomputable def yT (x0:Int):Option (Int):=(Den CC 123 (az CC 123) ⟨aA [(0,.int .i64 x0)] 0 6,[],0⟩).bind fun r=>aC GG [(.int .i64)] r.1
noncomputable def dH (x0:ae) (x1:List aa) (x2:List av) (x3 x4 x5:List Int) (x6 x7 x8:Int) (x9:List am) (x10:List ak) (x11:List ah) (x12:List ac) (x13:(List (List UInt8))) (x14:Int) (x15:(List (List UInt8))) (x16:List aE) (x17:(List (List UInt8))) (x18:List ap) (x19:List ae) (x20 x21 x22 x23 x24:Int):Option (Bool):=(Den CC 64 (az CC 64) ⟨aA [(0,.st 109 x0),(1,.pc [.sl (.st 100) x1,.sl (.st 128) x2,.sl (.int .i64) x3,.sl (.int .i64) x4,.sl (.int .i64) x5]),(2,.pc [.int .i64 x6,.int .i64 x7,.int .i64 x8,.sl (.st 203) x9,.sl (.st 207) x10,.sl (.st 227) x11,.sl (.st 230) x12,.sl .str x13,.int .i64 x14,.sl .str x15,.sl (.st 233) x16,.sl .str x17,.sl (.st 106) x18,.sl (.st 109) x19,.int .i64 x20,.int .i64 x21,.int .i64 x22,.int .i64 x23,.int .i64 x24])] 0 11,[],0⟩).bind fun r=>aC GG [.bool] r.1
noncomputable def kF (x0:b9) (x1:Int):Option (Int):=(Den CC 129 (az CC 129) ⟨aA [(0,.st 79 x0),(1,.int .i64 x1)] 0 25,[],0⟩).bind fun r=>aC GG [(.int .i64)] r.1
noncomputable def nt (x0 x1:List ai) (x2:Int):Option (Bool):=(Den CC 216 (lbl CC 216 4) ⟨aA [(0,.sl (.st 96) x0),(1,.sl (.st 96) x1),(5,.int .i64 x2)] 0 27,[],0⟩).bind fun r=>aC GG [.bool] r.1
noncomputable def nu (x0:List UInt8) (x1:Int):Option (Int):=(Den CC 159 (az CC 159) ⟨aA [(0,.str x0),(1,.int .i64 x1)] 0 42,[],0⟩).bind fun r=>aC GG [(.int .i64)] r.1
noncomputable def Ix (x0 x1:Int) (x2:List UInt8) (x3:List ai):Option (Bool):=(Den CC 272 (az CC 272) ⟨aA [(0,.pc [.int .i64 x0,.int .i64 x1,.str x2,.sl (.st 96) x3])] 0 10,[],0⟩).bind fun r=>aC GG [.bool] r.1
noncomputable def A6 (x0 x1:Int) (x2:List UInt8) (x3:List ai) (x4 x5:Int) (x6:List UInt8) (x7:List ai):Option (Bool):=(Den CC 273 (az CC 273) ⟨aA [(0,.pc [.int .i64 x0,.int .i64 x1,.str x2,.sl (.st 96) x3]),(1,.pc [.int .i64 x4,.int .i64 x5,.str x6,.sl (.st 96) x7])] 0 73,[],0⟩).bind fun r=>aC GG [.bool] r.1
noncomputable def od : Option (Int):=(Den CC 224 (lbl CC 224 11) ⟨aA [] 0 26,[],0⟩).bind fun r=>aC GG [(.int .i64)] r.1
noncomputable def tv (x0:Int):Option (Int):=(Den CC 224 (lbl CC 224 12) ⟨aA [(6,.int .i64 x0)] 0 26,[],0⟩).bind fun r=>aC GG [(.int .i64)] r.1
noncomputable def r8 (x0:List UInt8):Option (Bool):=(Den CC 274 (az CC 274) ⟨aA [(0,.str x0)] 0 19,[],0⟩).bind fun r=>aC GG [.bool] r.1
noncomputable def oH (x0:List UInt8) (x1:Int):Option (Bool):=(Den CC 275 (az CC 275) ⟨aA [(0,.str x0),(1,.int .u8 x1)] 0 17,[],0⟩).bind fun r=>aC GG [.bool] r.1
noncomputable def pw (x0:Int) (x1:List UInt8):Option ((List UInt8)):=(Den CC 226 (lbl CC 226 4) ⟨aA [(0,.int .i64 x0),(3,.str x1)] 0 29,[],0⟩).bind fun r=>aC GG [.str] r.1
noncomputable def lD (x0 x1 x2 x3:List UInt8):Option ((List UInt8)):=(Den CC 149 (lbl CC 149 8) ⟨aA [(1,.ref 0 0),(3,.str x0)] 0 38,[.box 114 [.str x1,.str x2,.str x3] false],0⟩).bind fun r=>aC GG [.str] r.1
noncomputable def eP : Option (Bool):=(Den CC 150 (lbl CC 150 5) ⟨aA [] 0 32,[],0⟩).bind fun r=>aC GG [.bool] r.1
noncomputable def gC (x0:List UInt8) (x1:Bool) (x2:Int):Option (Bool):=(Den CC 150 (lbl CC 150 3) ⟨aA [(0,.str x0),(1,.bool x1),(5,.int .i64 x2)] 0 32,[],0⟩).bind fun r=>aC GG [.bool] r.1
noncomputable def EH (x0:List UInt8) (x1:Int):Option (aN×Int):=(Den CC 228 (az CC 228) ⟨aA [(0,.str x0),(1,.int .i64 x1)] 0 145,[],0⟩).bind fun r=>aC GG [(.st 267),(.int .i64)] r.1
noncomputable def lE (x0 x1:Int) (x2:List UInt8) (x3:List ai) (x4:List av):Option ((((List av)×Unit)×Unit)):=(Den CC 160 (lbl CC 160 19) ⟨aA [(0,.pc [.int .i64 x0,.int .i64 x1,.str x2,.sl (.st 96) x3]),(3,.arr 0)] 0 155,[.arr 129 (.st 128) x4 false],0⟩).bind fun r=>mI GG [(false,[.ow 129 (.st 128)])] r
noncomputable def vA (x0 x1:Int) (x2:List UInt8) (x3:List ai) (x4:Int) (x5:List av):Option ((((List av)×Unit)×Unit)):=(Den CC 160 (lbl CC 160 20) ⟨aA [(0,.pc [.int .i64 x0,.int .i64 x1,.str x2,.sl (.st 96) x3]),(3,.arr 0),(64,.int .i64 x4)] 0 155,[.arr 129 (.st 128) x5 false],0⟩).bind fun r=>mI GG [(false,[.ow 129 (.st 128)])] r
noncomputable def r9 (x0:aj) (x1:Int):Option (Int):=(Den CC 240 (az CC 240) ⟨aA [(0,.st 23 x0),(1,.int .i64 x1)] 0 20,[],0⟩).bind fun r=>aC GG [(.int .i64)] r.1
noncomputable def sA (x0:Int) (x1:List am) (x2:Int):Option (Bool):=(Den CC 152 (lbl CC 152 4) ⟨aA [(0,.pc [.int .i64 x0,.sl (.st 203) x1]),(3,.int .i64 x2)] 0 84,[],0⟩).bind fun r=>aC GG [.bool] r.1
noncomputable def jh (x0:Int) (x1:List ak) (x2:List ah) (x3:List ac):Option (Bool):=(Den CC 87 (lbl CC 87 4) ⟨aA [(1,.ref 0 0),(3,.int .i64 x0)] 0 134,[.box 57 [.sl (.st 207) x1,.sl (.st 227) x2,.sl (.st 230) x3] false],0⟩).bind fun r=>aC GG [.bool] r.1
noncomputable def lT (x0:(List (List UInt8))) (x1 x2:Int):Option (Bool):=(Den CC 233 (az CC 233) ⟨aA [(0,.sl .str x0),(1,.int .i64 x1),(2,.int .i64 x2)] 0 25,[],0⟩).bind fun r=>aC GG [.bool] r.1
noncomputable def lU : Option (Bool):=(Den CC 157 (lbl CC 157 2) ⟨aA [] 0 89,[],0⟩).bind fun r=>aC GG [.bool] r.1
noncomputable def D0 (x0:(List (List UInt8))) (x1:Int) (x2:(List (List UInt8))) (x3:List aE) (x4:(List (List UInt8))):Option (Bool):=(Den CC 157 (lbl CC 157 3) ⟨aA [(0,.pc [.sl .str x0,.int .i64 x1,.sl .str x2,.sl (.st 233) x3,.sl .str x4])] 0 89,[],0⟩).bind fun r=>aC GG [.bool] r.1
noncomputable def oI (x0:Int) (x1:List am) (x2:ap):Option (Bool):=(Den CC 158 (az CC 158) ⟨aA [(0,.pc [.int .i64 x0,.sl (.st 203) x1]),(1,.st 106 x2)] 0 32,[],0⟩).bind fun r=>aC GG [.bool] r.1
noncomputable def ji (x0 x1 x2:Int) (x3:List av) (x4 x5 x6:List Int):Option ((((List Int)×Unit)×Unit)):=(Den CC 43 (lbl CC 43 7) ⟨aA [(1,.ref 0 0),(3,.arr 1),(4,.int .i64 x0),(5,.int .i64 x1),(6,.int .i64 x2)] 0 53,[.box 80 [.sl (.st 128) x3,.sl (.int .i64) x4,.sl (.int .i64) x5] false,.arr 2 (.int .i64) x6 false],0⟩).bind fun r=>mI GG [(false,[.ow 2 (.int .i64)])] r
noncomputable def lF : Option (Bool):=(Den CC 44 (lbl CC 44 2) ⟨aA [] 0 47,[],0⟩).bind fun r=>aC GG [.bool] r.1
noncomputable def w8 (x0:aJ) (x1:List ak):Option (Bool):=(Den CC 93 (az CC 93) ⟨aA [(0,.st 26 x0),(1,.sl (.st 207) x1)] 0 32,[],0⟩).bind fun r=>aC GG [.bool] r.1
noncomputable def vB (x0:List av) (x1 x2:List Int) (x3:List UInt8) (x4:List ak) (x5 x6 x7:Int):Option (Bool):=(Den CC 44 (lbl CC 44 3) ⟨aA [(3,.ref 0 0),(5,.ref 1 0)] 0 47,[.box 80 [.sl (.st 128) x0,.sl (.int .i64) x1,.sl (.int .i64) x2] false,.box 126 [.str x3,.sl (.st 207) x4,.int .i64 x5,.int .i64 x6,.int .i64 x7] false],0⟩).bind fun r=>aC GG [.bool] r.1
noncomputable def sB (x0:b9) (x1:Int):Option (Int):=(Den CC 45 (az CC 45) ⟨aA [(0,.st 79 x0),(1,.int .i64 x1)] 0 26,[],0⟩).bind fun r=>aC GG [(.int .i64)] r.1
noncomputable def oJ (x0:Int):Option (Bool):=(Den CC 212 (az CC 212) ⟨aA [(0,.int .u8 x0)] 0 17,[],0⟩).bind fun r=>aC GG [.bool] r.1
noncomputable def dT (x0:List Int):Option (Bool):=(Den CC 213 (az CC 213) ⟨aA [(0,.sl (.int .u8) x0),(1,.fn 214 [])] 0 18,[],0⟩).bind fun r=>aC GG [.bool] r.1
noncomputable def d4 (x0 x1:Int) (x2:(List (List UInt8))) (x3:(List (List UInt8))):Option ((List (List UInt8))):=(Den CC 170 (lbl CC 170 3) ⟨aA [(3,.arr 0),(13,.arr 1),(14,.int .i64 x0),(15,.int .i64 x1)] 0 27,[.arr 9 .str x2 false,.arr 9 .str x3 false],0⟩).bind fun r=>aC GG [(.sl .str)] r.1
noncomputable def ct (x0:(List (List UInt8))) (x1 x2:Int):Option (Bool):=(Den CC 169 (lbl CC 169 2) ⟨aA [(1,.fn 104 []),(7,.sl .str x0),(8,.int .i64 x1),(9,.int .i64 x2)] 0 18,[],0⟩).bind fun r=>aC GG [.bool] r.1
noncomputable def ub (x0:ai):Option (Bool):=(Den CC 171 (az CC 171) ⟨aA [(0,.st 96 x0)] 0 6,[],0⟩).bind fun r=>aC GG [.bool] r.1
noncomputable def w9 (x0 x1:ai):Option (Bool):=(Den CC 172 (az CC 172) ⟨aA [(0,.st 96 x0),(1,.st 96 x1)] 0 31,[],0⟩).bind fun r=>aC GG [.bool] r.1
noncomputable def mj : Option (Bool):=(Den CC 54 (lbl CC 54 6) ⟨aA [] 0 89,[],0⟩).bind fun r=>aC GG [.bool] r.1
noncomputable def dc (x0:List UInt8) (x1:Bool) (x2 x3:Int) (x4:List UInt8) (x5:List ai) (x6:Bool) (x7 x8:Int) (x9:List UInt8) (x10:List ai) (x11:Bool) (x12 x13:Int) (x14:List UInt8) (x15:List ai) (x16 x17 x18:List UInt8):Option (Bool):=(Den CC 54 (lbl CC 54 7) ⟨aA [(1,.ref 0 0)] 0 89,[.box 116 [.str x0,.bool x1,.int .i64 x2,.int .i64 x3,.str x4,.sl (.st 96) x5,.bool x6,.int .i64 x7,.int .i64 x8,.str x9,.sl (.st 96) x10,.bool x11,.int .i64 x12,.int .i64 x13,.str x14,.sl (.st 96) x15,.str x16,.str x17,.str x18] false],0⟩).bind fun r=>aC GG [.bool] r.1
noncomputable def EI (x0:Int):Option (Int):=(Den CC 243 (az CC 243) ⟨aA [(0,.int .i64 x0)] 0 23,[],0⟩).bind fun r=>aC GG [(.int .i64)] r.1
noncomputable def py (x0:List UInt8):Option ((List UInt8)):=(Den CC 244 (az CC 244) ⟨aA [(0,.str x0)] 0 16,[],0⟩).bind fun r=>aC GG [.str] r.1
noncomputable def A7 (x0:Int):Option ((List UInt8)):=(Den CC 245 (az CC 245) ⟨aA [(0,.int .i64 x0)] 0 5,[],0⟩).bind fun r=>aC GG [.str] r.1
noncomputable def eQ (x0:List ai) (x1 x2 x3 x4:Int) (x5:List UInt8) (x6:List ai) (x7:(List (List UInt8))):Option ((List UInt8)):=(Den CC 174 (lbl CC 174 11) ⟨aA [(1,.ref 0 0),(4,.arr 1),(36,.sl (.st 96) x0),(37,.int .i64 x1),(38,.int .i64 x2)] 0 133,[.box 113 [.int .i64 x3,.int .i64 x4,.str x5,.sl (.st 96) x6] false,.arr 9 .str x7 false],0⟩).bind fun r=>aC GG [.str] r.1
noncomputable def vC (x0:Int):Option (Bool):=(Den CC 247 (az CC 247) ⟨aA [(0,.int .i64 x0)] 0 5,[],0⟩).bind fun r=>aC GG [.bool] r.1
noncomputable def vD (x0:Int):Option ((List UInt8)):=(Den CC 248 (az CC 248) ⟨aA [(0,.int .i64 x0)] 0 8,[],0⟩).bind fun r=>aC GG [.str] r.1
noncomputable def mn (x0:aK):Option ((List UInt8)):=(Den CC 175 (az CC 175) ⟨aA [(0,.st 98 x0)] 0 33,[],0⟩).bind fun r=>aC GG [.str] r.1
noncomputable def dB (x0:List UInt8):Option ((List UInt8)):=(Den CC 107 (lbl CC 107 11) ⟨aA [(3,.str x0)] 0 41,[],0⟩).bind fun r=>aC GG [.str] r.1
noncomputable def jN (x0:ai):Option ((((List av)×Int×Int×(List UInt8)×Int×Int×(List UInt8)×Unit)×(Bool×Unit)×Unit)):=(Den CC 290 (az CC 290) ⟨aA [(0,.st 96 x0)] 0 68,[],0⟩).bind fun r=>mI GG [(true,[.ow 129 (.st 128),.im (.int .i64),.im (.int .i64),.im .str,.im (.int .i64),.im (.int .i64),.im .str]),(false,[.im .bool])] r
noncomputable def f0 (x0:ai):Option ((((List av)×Unit)×Unit)):=(Den CC 292 (az CC 292) ⟨aA [(0,.st 96 x0)] 0 22,[],0⟩).bind fun r=>mI GG [(false,[.ow 129 (.st 128)])] r
noncomputable def cX (x0:(List (List av))):Option ((((List av)×Unit)×Unit)):=(Den CC 291 (az CC 291) ⟨aA [(0,.sl (.sl (.st 128)) x0)] 0 36,[],0⟩).bind fun r=>mI GG [(false,[.ow 129 (.st 128)])] r
noncomputable def iy (x0:List ai) (x1 x2:Int) (x3:List av):Option ((((List av)×Unit)×Unit)):=(Den CC 257 (lbl CC 257 3) ⟨aA [(3,.arr 0),(7,.sl (.st 96) x0),(8,.int .i64 x1),(9,.int .i64 x2)] 0 19,[.arr 129 (.st 128) x3 false],0⟩).bind fun r=>mI GG [(false,[.ow 129 (.st 128)])] r
noncomputable def eR (x0:Int) (x1:List UInt8) (x2:List aa):Option (Int×Int):=(Den CC 258 (lbl CC 258 6) ⟨aA [(3,.int .i64 x0),(4,.ref 0 0),(10,.str x1)] 0 31,[.box 48 [.sl (.st 100) x2] false],0⟩).bind fun r=>aC GG [(.int .i64),(.int .i64)] r.1
noncomputable def yU : Option ((List aI)):=(Den CC 259 (az CC 259) ⟨aA [] 0 33,[],0⟩).bind fun r=>aC GG [(.sl (.st 276))] r.1
noncomputable def lG (x0:am):Option (Bool):=(Den CC 188 (az CC 188) ⟨aA [(0,.st 203 x0)] 0 126,[],0⟩).bind fun r=>aC GG [.bool] r.1
noncomputable def co (x0:List am) (x1:Int) (x2:List am):Option (Bool):=(Den CC 187 (az CC 187) ⟨aA [(0,.sl (.st 203) x0),(1,.fn 189 [.pc [.int .i64 x1,.sl (.st 203) x2]])] 0 18,[],0⟩).bind fun r=>aC GG [.bool] r.1
noncomputable def bB (x0:List ak) (x1:Int):Option (Bool):=(Den CC 191 (lbl CC 191 2) ⟨aA [(0,.sl (.st 207) x0),(1,.fn 192 []),(5,.int .i64 x1)] 0 26,[],0⟩).bind fun r=>aC GG [.bool] r.1
noncomputable def bm (x0:List ah) (x1:Int):Option (Bool):=(Den CC 193 (lbl CC 193 2) ⟨aA [(0,.sl (.st 227) x0),(1,.fn 194 []),(5,.int .i64 x1)] 0 26,[],0⟩).bind fun r=>aC GG [.bool] r.1
noncomputable def bC (x0:List ac) (x1:Int):Option (Bool):=(Den CC 195 (lbl CC 195 2) ⟨aA [(0,.sl (.st 230) x0),(1,.fn 196 []),(5,.int .i64 x1)] 0 26,[],0⟩).bind fun r=>aC GG [.bool] r.1
noncomputable def dh (x0:List ak):Option (Bool):=(Den CC 125 (az CC 125) ⟨aA [(0,.sl (.st 207) x0),(1,.fn 197 [])] 0 18,[],0⟩).bind fun r=>aC GG [.bool] r.1
noncomputable def cV (x0:List ah):Option (Bool):=(Den CC 198 (az CC 198) ⟨aA [(0,.sl (.st 227) x0),(1,.fn 199 [])] 0 18,[],0⟩).bind fun r=>aC GG [.bool] r.1
noncomputable def cu (x0:List ac):Option (Bool):=(Den CC 200 (az CC 200) ⟨aA [(0,.sl (.st 230) x0),(1,.fn 201 [])] 0 18,[],0⟩).bind fun r=>aC GG [.bool] r.1
noncomputable def bU (x0:(List (List UInt8))) (x1 x2:Int):Option (Bool):=(Den CC 169 (lbl CC 169 2) ⟨aA [(1,.fn 203 []),(7,.sl .str x0),(8,.int .i64 x1),(9,.int .i64 x2)] 0 18,[],0⟩).bind fun r=>aC GG [.bool] r.1
noncomputable def bq (x0:(List (List UInt8))) (x1 x2:Int):Option (Bool):=(Den CC 169 (lbl CC 169 2) ⟨aA [(1,.fn 202 []),(7,.sl .str x0),(8,.int .i64 x1),(9,.int .i64 x2)] 0 18,[],0⟩).bind fun r=>aC GG [.bool] r.1
noncomputable def cJ (x0:List aE):Option (Bool):=(Den CC 204 (az CC 204) ⟨aA [(0,.sl (.st 233) x0),(1,.fn 205 [])] 0 18,[],0⟩).bind fun r=>aC GG [.bool] r.1
noncomputable def cK (x0:List aE):Option (Bool):=(Den CC 206 (az CC 206) ⟨aA [(0,.sl (.st 233) x0),(1,.fn 207 [])] 0 26,[],0⟩).bind fun r=>aC GG [.bool] r.1
noncomputable def ip (x0 x1:Int) (x2:List UInt8) (x3:Int):Option (Bool):=(Den CC 120 (lbl CC 120 11) ⟨aA [(1,.ref 0 0)] 0 80,[.box 136 [.int .i64 x0,.int .i64 x1,.str x2,.int .i64 x3] false],0⟩).bind fun r=>aC GG [.bool] r.1
noncomputable def p0 (x0 x1 x2:Int) (x3:List UInt8) (x4:Int):Option (Bool):=(Den CC 120 (lbl CC 120 12) ⟨aA [(1,.ref 0 0),(4,.int .i64 x0)] 0 80,[.box 136 [.int .i64 x1,.int .i64 x2,.str x3,.int .i64 x4] false],0⟩).bind fun r=>aC GG [.bool] r.1
noncomputable def bI (x0:List am) (x1:Int):Option (Int×Bool):=(Den CC 209 (az CC 209) ⟨aA [(0,.sl (.st 203) x0),(1,.int .i64 x1),(2,.fn 210 [])] 0 49,[],0⟩).bind fun r=>aC GG [(.int .i64),.bool] r.1
noncomputable def jj (x0:aQ) (x1:aJ) (x2:ae):Option (Bool):=(Den CC 65 (az CC 65) ⟨aA [(0,.st 86 x0),(1,.st 26 x1),(2,.st 109 x2)] 0 28,[],0⟩).bind fun r=>aC GG [.bool] r.1
noncomputable def dV (x0:List Int) (x1:Int):Option (Int×Bool):=(Den CC 215 (az CC 215) ⟨aA [(0,.sl (.int .i64) x0),(1,.int .i64 x1)] 0 54,[],0⟩).bind fun r=>aC GG [(.int .i64),.bool] r.1
noncomputable def mo (x0:Int):Option (Bool):=(Den CC 238 (az CC 238) ⟨aA [(0,.int .u8 x0)] 0 17,[],0⟩).bind fun r=>aC GG [.bool] r.1
noncomputable def jk (x0:List UInt8) (x1:Int):Option (Int):=(Den CC 159 (lbl CC 159 3) ⟨aA [(0,.str x0),(1,.int .i64 x1)] 0 42,[],0⟩).bind fun r=>aC GG [(.int .i64)] r.1
noncomputable def vE (x0 x1:Int) (x2:List UInt8) (x3:List ai):Option (Int):=(Den CC 303 (az CC 303) ⟨aA [(0,.pc [.int .i64 x0,.int .i64 x1,.str x2,.sl (.st 96) x3])] 0 28,[],0⟩).bind fun r=>aC GG [(.int .i64)] r.1
noncomputable def oK (x0 x1:Int) (x2:List UInt8) (x3:List ai):Option (Bool):=(Den CC 304 (az CC 304) ⟨aA [(0,.pc [.int .i64 x0,.int .i64 x1,.str x2,.sl (.st 96) x3])] 0 24,[],0⟩).bind fun r=>aC GG [.bool] r.1
noncomputable def kG : Option (Bool):=(Den CC 273 (lbl CC 273 2) ⟨aA [] 0 73,[],0⟩).bind fun r=>aC GG [.bool] r.1
noncomputable def yV (x0 x1:Int) (x2:List UInt8) (x3:List ai) (x4 x5:Int) (x6:List UInt8) (x7:List ai):Option (Bool):=(Den CC 273 (lbl CC 273 3) ⟨aA [(0,.pc [.int .i64 x0,.int .i64 x1,.str x2,.sl (.st 96) x3]),(1,.pc [.int .i64 x4,.int .i64 x5,.str x6,.sl (.st 96) x7])] 0 73,[],0⟩).bind fun r=>aC GG [.bool] r.1
noncomputable def fC : Option (Int):=(Den CC 224 (lbl CC 224 20) ⟨aA [] 0 26,[],0⟩).bind fun r=>aC GG [(.int .i64)] r.1
noncomputable def tx : Option (Int):=(Den CC 224 (lbl CC 224 21) ⟨aA [] 0 26,[],0⟩).bind fun r=>aC GG [(.int .i64)] r.1
noncomputable def lH (x0:List UInt8) (x1 x2:Int):Option (Bool):=(Den CC 275 (lbl CC 275 2) ⟨aA [(0,.str x0),(1,.int .u8 x1),(5,.int .i64 x2)] 0 17,[],0⟩).bind fun r=>aC GG [.bool] r.1
noncomputable def oL (x0:Int):Option (Bool):=(Den CC 239 (az CC 239) ⟨aA [(0,.int .u8 x0)] 0 9,[],0⟩).bind fun r=>aC GG [.bool] r.1
noncomputable def nv (x0:List UInt8) (x1 x2 x3 x4 x5:Int) (x6:List UInt8) (x7 x8:Bool):Option (aN×Int):=(Den CC 228 (lbl CC 228 10) ⟨aA [(0,.str x0),(1,.int .i64 x1),(4,.ref 0 0),(8,.int .i64 x2),(9,.int .i64 x3)] 0 145,[.box 268 [.int .i64 x4,.int .i64 x5,.str x6,.bool x7,.bool x8] false],0⟩).bind fun r=>aC GG [(.st 267),(.int .i64)] r.1
noncomputable def iE (x0:List UInt8) (x1 x2 x3 x4 x5:Int) (x6:List UInt8) (x7 x8:Bool):Option (aN×Int):=(Den CC 228 (lbl CC 228 18) ⟨aA [(0,.str x0),(1,.int .i64 x1),(4,.ref 0 0),(6,.int .u8 x2),(10,.int .i64 x3)] 0 145,[.box 268 [.int .i64 x4,.int .i64 x5,.str x6,.bool x7,.bool x8] false],0⟩).bind fun r=>aC GG [(.st 267),(.int .i64)] r.1
noncomputable def pz (x0:Int):Option (Bool):=(Den CC 276 (az CC 276) ⟨aA [(0,.int .u8 x0)] 0 14,[],0⟩).bind fun r=>aC GG [.bool] r.1
noncomputable def f5 (x0 x1:Int) (x2:List UInt8) (x3 x4 x5:Int) (x6:List UInt8) (x7 x8:Bool):Option (aN×Int):=(Den CC 228 (lbl CC 228 27) ⟨aA [(1,.int .i64 x0),(4,.ref 0 0),(6,.int .u8 x1),(11,.str x2),(12,.int .i64 x3)] 0 145,[.box 268 [.int .i64 x4,.int .i64 x5,.str x6,.bool x7,.bool x8] false],0⟩).bind fun r=>aC GG [(.st 267),(.int .i64)] r.1
noncomputable def uc (x0:am):Option (Bool):=(Den CC 229 (az CC 229) ⟨aA [(0,.st 203 x0)] 0 101,[],0⟩).bind fun r=>aC GG [.bool] r.1
noncomputable def sC : Option (Bool):=(Den CC 152 (lbl CC 152 8) ⟨aA [] 0 84,[],0⟩).bind fun r=>aC GG [.bool] r.1
noncomputable def xa (x0:Int) (x1:List am) (x2:Int):Option (Bool):=(Den CC 152 (lbl CC 152 5) ⟨aA [(0,.pc [.int .i64 x0,.sl (.st 203) x1]),(3,.int .i64 x2)] 0 84,[],0⟩).bind fun r=>aC GG [.bool] r.1
noncomputable def jO (x0:Int) (x1:List am) (x2:Int):Option (Bool):=(Den CC 152 (lbl CC 152 10) ⟨aA [(0,.pc [.int .i64 x0,.sl (.st 203) x1]),(5,.int .i64 x2)] 0 84,[],0⟩).bind fun r=>aC GG [.bool] r.1
noncomputable def f6 : Option (Bool):=(Den CC 87 (lbl CC 87 8) ⟨aA [] 0 134,[],0⟩).bind fun r=>aC GG [.bool] r.1
noncomputable def f7 (x0:ap):Option (Bool):=(Den CC 153 (az CC 153) ⟨aA [(0,.st 106 x0)] 0 55,[],0⟩).bind fun r=>aC GG [.bool] r.1
noncomputable def EJ (x0:ap):Option (Bool):=(Den CC 154 (az CC 154) ⟨aA [(0,.st 106 x0)] 0 6,[],0⟩).bind fun r=>aC GG [.bool] r.1
noncomputable def mq (x0:Int) (x1:List ak) (x2:List ah) (x3:List ac):Option (Bool):=(Den CC 87 (lbl CC 87 5) ⟨aA [(1,.ref 0 0),(3,.int .i64 x0)] 0 134,[.box 57 [.sl (.st 207) x1,.sl (.st 227) x2,.sl (.st 230) x3] false],0⟩).bind fun r=>aC GG [.bool] r.1
noncomputable def fq (x0:Int) (x1:List ak) (x2:List ah) (x3:List ac):Option (Bool):=(Den CC 87 (lbl CC 87 10) ⟨aA [(1,.ref 0 0),(5,.int .i64 x0)] 0 134,[.box 57 [.sl (.st 207) x1,.sl (.st 227) x2,.sl (.st 230) x3] false],0⟩).bind fun r=>aC GG [.bool] r.1
noncomputable def ep (x0:(List (List UInt8))) (x1 x2:Int):Option (Bool):=(Den CC 233 (lbl CC 233 4) ⟨aA [(0,.sl .str x0),(2,.int .i64 x1),(7,.int .i64 x2)] 0 25,[],0⟩).bind fun r=>aC GG [.bool] r.1
noncomputable def lV (x0:(List (List UInt8))) (x1:Int) (x2:(List (List UInt8))) (x3:List aE) (x4:(List (List UInt8))) (x5:Int):Option (Bool):=(Den CC 157 (lbl CC 157 4) ⟨aA [(0,.pc [.sl .str x0,.int .i64 x1,.sl .str x2,.sl (.st 233) x3,.sl .str x4]),(3,.int .i64 x5)] 0 89,[],0⟩).bind fun r=>aC GG [.bool] r.1
noncomputable def D1 (x0:ap):Option (Bool):=(Den CC 235 (az CC 235) ⟨aA [(0,.st 106 x0)] 0 6,[],0⟩).bind fun r=>aC GG [.bool] r.1
noncomputable def A8 (x0:Int) (x1:List am) (x2:Int):Option (Int):=(Den CC 236 (az CC 236) ⟨aA [(0,.pc [.int .i64 x0,.sl (.st 203) x1]),(1,.int .i64 x2)] 0 26,[],0⟩).bind fun r=>aC GG [(.int .i64)] r.1
noncomputable def qK (x0:Int):Option (Int):=(Den CC 237 (az CC 237) ⟨aA [(0,.int .i64 x0)] 0 6,[],0⟩).bind fun r=>aC GG [(.int .i64)] r.1
noncomputable def ud (x0:av):Option (Int×Int):=(Den CC 91 (az CC 91) ⟨aA [(0,.st 128 x0)] 0 42,[],0⟩).bind fun r=>aC GG [(.int .i64),(.int .i64)] r.1
noncomputable def ff (x0:List ak) (x1 x2:Int) (x3:List am):Option (Bool):=(Den CC 93 (lbl CC 93 2) ⟨aA [(1,.sl (.st 207) x0),(2,.ref 0 0),(5,.int .i64 x1)] 0 32,[.box 52 [.int .i64 x2,.sl (.st 203) x3] false],0⟩).bind fun r=>aC GG [.bool] r.1
noncomputable def lI (x0 x1:Int) (x2:List av) (x3 x4:List Int):Option (Int):=(Den CC 45 (lbl CC 45 2) ⟨aA [(1,.int .i64 x0),(2,.ref 0 0),(5,.int .i64 x1)] 0 26,[.box 80 [.sl (.st 128) x2,.sl (.int .i64) x3,.sl (.int .i64) x4] false],0⟩).bind fun r=>aC GG [(.int .i64)] r.1
noncomputable def cn (x0:List Int) (x1 x2:Int):Option (Bool):=(Den CC 213 (lbl CC 213 2) ⟨aA [(1,.fn 214 []),(7,.sl (.int .u8) x0),(8,.int .i64 x1),(9,.int .i64 x2)] 0 18,[],0⟩).bind fun r=>aC GG [.bool] r.1
noncomputable def nw (x0:ai) (x1:Int):Option (Int):=(Den CC 241 (az CC 241) ⟨aA [(0,.st 96 x0),(1,.int .i64 x1)] 0 30,[],0⟩).bind fun r=>aC GG [(.int .i64)] r.1
noncomputable def ba (x0 x1:List ai):Option (Bool):=(Den CC 242 (az CC 242) ⟨aA [(0,.sl (.st 96) x0),(1,.sl (.st 96) x1),(2,.fn 172 [])] 0 32,[],0⟩).bind fun r=>aC GG [.bool] r.1
noncomputable def fK (x0 x1:List UInt8):Option ((List UInt8)):=(Den CC 109 (az CC 109) ⟨aA [(0,.str x0),(1,.str x1)] 0 8,[],0⟩).bind fun r=>aC GG [.str] r.1
noncomputable def qL (x0:List UInt8):Option ((List aN)×Int×Int):=(Den CC 108 (az CC 108) ⟨aA [(0,.str x0)] 0 81,[],0⟩).bind fun r=>aC GG [(.sl (.st 267)),(.int .i64),(.int .i64)] r.1
noncomputable def ue : Option (Int):=(Den CC 243 (lbl CC 243 11) ⟨aA [] 0 23,[],0⟩).bind fun r=>aC GG [(.int .i64)] r.1
noncomputable def A9 (x0:Int):Option (Int):=(Den CC 243 (lbl CC 243 12) ⟨aA [(3,.int .i64 x0)] 0 23,[],0⟩).bind fun r=>aC GG [(.int .i64)] r.1
noncomputable def sD (x0:List UInt8):Option (Bool):=(Den CC 283 (az CC 283) ⟨aA [(0,.str x0)] 0 19,[],0⟩).bind fun r=>aC GG [.bool] r.1
noncomputable def fD (x0:List UInt8):Option ((List UInt8)):=(Den CC 175 (lbl CC 175 8) ⟨aA [(3,.str x0)] 0 33,[],0⟩).bind fun r=>aC GG [.str] r.1
noncomputable def hT (x0:List ai) (x1 x2:Int) (x3:List UInt8) (x4:List ai):Option ((((List av)×Unit)×Unit)):=(Den CC 292 (lbl CC 292 4) ⟨aA [(1,.ref 0 0),(3,.sl (.st 96) x0)] 0 22,[.box 113 [.int .i64 x1,.int .i64 x2,.str x3,.sl (.st 96) x4] false],0⟩).bind fun r=>mI GG [(false,[.ow 129 (.st 128)])] r
noncomputable def bS (x0:(List (List av))) (x1:Int) (x2:(List (List av))) (x3 x4:Int):Option ((((List av)×Unit)×Unit)):=(Den CC 291 (lbl CC 291 3) ⟨aA [(0,.sl (.sl (.st 128)) x0),(3,.int .i64 x1),(9,.sl (.sl (.st 128)) x2),(10,.int .i64 x3),(11,.int .i64 x4)] 0 36,[],0⟩).bind fun r=>mI GG [(false,[.ow 129 (.st 128)])] r
noncomputable def jl (x0:aj) (x1:Int):Option (Int):=(Den CC 294 (az CC 294) ⟨aA [(0,.st 23 x0),(1,.int .i64 x1)] 0 19,[],0⟩).bind fun r=>aC GG [(.int .i64)] r.1
noncomputable def tz (x0:aj) (x1:List UInt8):Option (Int×Int):=(Den CC 295 (az CC 295) ⟨aA [(0,.st 23 x0),(1,.str x1)] 0 22,[],0⟩).bind fun r=>aC GG [(.int .i64),(.int .i64)] r.1
noncomputable def ny (x0:Int):Option (Bool):=(Den CC 208 (az CC 208) ⟨aA [(0,.int .i64 x0)] 0 5,[],0⟩).bind fun r=>aC GG [.bool] r.1
noncomputable def iq : Option (Bool):=(Den CC 188 (lbl CC 188 2) ⟨aA [] 0 126,[],0⟩).bind fun r=>aC GG [.bool] r.1
noncomputable def b7 (x0:List ap):Option (Bool):=(Den CC 62 (az CC 62) ⟨aA [(0,.sl (.st 106) x0),(1,.fn 120 [])] 0 18,[],0⟩).bind fun r=>aC GG [.bool] r.1
noncomputable def p5 (x0 x1:Int) (x2:List UInt8) (x3:Int) (x4 x5:List ap) (x6 x7:Int) (x8:List UInt8) (x9:Int):Option (Bool):=(Den CC 188 (lbl CC 188 3) ⟨aA [(1,.ref 0 0)] 0 126,[.box 204 [.int .i64 x0,.int .i64 x1,.str x2,.int .i64 x3,.sl (.st 106) x4,.sl (.st 106) x5,.int .i64 x6,.int .i64 x7,.str x8,.int .i64 x9] false],0⟩).bind fun r=>aC GG [.bool] r.1
noncomputable def aV (x0:Int) (x1 x2:List am) (x3 x4:Int):Option (Bool):=(Den CC 187 (lbl CC 187 2) ⟨aA [(1,.fn 189 [.pc [.int .i64 x0,.sl (.st 203) x1]]),(7,.sl (.st 203) x2),(8,.int .i64 x3),(9,.int .i64 x4)] 0 18,[],0⟩).bind fun r=>aC GG [.bool] r.1
noncomputable def mr (x0:ak):Option ((List UInt8)):=(Den CC 192 (az CC 192) ⟨aA [(0,.st 207 x0)] 0 5,[],0⟩).bind fun r=>aC GG [.str] r.1
noncomputable def kY (x0:ah):Option ((List UInt8)):=(Den CC 194 (az CC 194) ⟨aA [(0,.st 227 x0)] 0 5,[],0⟩).bind fun r=>aC GG [.str] r.1
noncomputable def qM (x0:ac):Option ((List UInt8)):=(Den CC 196 (az CC 196) ⟨aA [(0,.st 230 x0)] 0 5,[],0⟩).bind fun r=>aC GG [.str] r.1
noncomputable def bD (x0:List ak) (x1 x2:Int):Option (Bool):=(Den CC 125 (lbl CC 125 2) ⟨aA [(1,.fn 197 []),(7,.sl (.st 207) x0),(8,.int .i64 x1),(9,.int .i64 x2)] 0 18,[],0⟩).bind fun r=>aC GG [.bool] r.1
noncomputable def bn (x0:List ah) (x1 x2:Int):Option (Bool):=(Den CC 198 (lbl CC 198 2) ⟨aA [(1,.fn 199 []),(7,.sl (.st 227) x0),(8,.int .i64 x1),(9,.int .i64 x2)] 0 18,[],0⟩).bind fun r=>aC GG [.bool] r.1
noncomputable def bc (x0:List ac) (x1 x2:Int):Option (Bool):=(Den CC 200 (lbl CC 200 2) ⟨aA [(1,.fn 201 []),(7,.sl (.st 230) x0),(8,.int .i64 x1),(9,.int .i64 x2)] 0 18,[],0⟩).bind fun r=>aC GG [.bool] r.1
noncomputable def Ba (x0:List UInt8):Option (Bool):=(Den CC 203 (az CC 203) ⟨aA [(0,.str x0)] 0 6,[],0⟩).bind fun r=>aC GG [.bool] r.1
noncomputable def jP (x0:List UInt8):Option (Bool):=(Den CC 202 (az CC 202) ⟨aA [(0,.str x0)] 0 6,[],0⟩).bind fun r=>aC GG [.bool] r.1
noncomputable def bu (x0:List aE) (x1 x2:Int):Option (Bool):=(Den CC 204 (lbl CC 204 2) ⟨aA [(1,.fn 205 []),(7,.sl (.st 233) x0),(8,.int .i64 x1),(9,.int .i64 x2)] 0 18,[],0⟩).bind fun r=>aC GG [.bool] r.1
noncomputable def bO (x0:List aE) (x1:Int):Option (Bool):=(Den CC 206 (lbl CC 206 2) ⟨aA [(0,.sl (.st 233) x0),(1,.fn 207 []),(5,.int .i64 x1)] 0 26,[],0⟩).bind fun r=>aC GG [.bool] r.1
noncomputable def aL (x0:List am) (x1 x2 x3 x4:Int):Option (Int×Bool):=(Den CC 209 (lbl CC 209 3) ⟨aA [(0,.sl (.st 203) x0),(1,.int .i64 x1),(2,.fn 210 []),(8,.int .i64 x2),(9,.int .i64 x3),(10,.int .i64 x4)] 0 49,[],0⟩).bind fun r=>aC GG [(.int .i64),.bool] r.1
noncomputable def dn (x0:List ak) (x1:Int) (x2:List am):Option (Bool):=(Den CC 125 (az CC 125) ⟨aA [(0,.sl (.st 207) x0),(1,.fn 1000126 [.ag [.int .i64 x1,.sl (.st 203) x2]])] 0 18,[],0⟩).bind fun r=>aC GG [.bool] r.1
noncomputable def mu (x0:aQ) (x1:ae):Option (Bool):=(Den CC 127 (az CC 127) ⟨aA [(0,.st 86 x0),(1,.st 109 x1)] 0 39,[],0⟩).bind fun r=>aC GG [.bool] r.1
noncomputable def aY (x0:List Int) (x1 x2 x3 x4:Int):Option (Int×Bool):=(Den CC 215 (lbl CC 215 3) ⟨aA [(0,.sl (.int .i64) x0),(1,.int .i64 x1),(6,.int .i64 x2),(7,.int .i64 x3),(8,.int .i64 x4)] 0 54,[],0⟩).bind fun r=>aC GG [(.int .i64),.bool] r.1
noncomputable def jm (x0:List UInt8) (x1:Int):Option (Int):=(Den CC 159 (lbl CC 159 4) ⟨aA [(0,.str x0),(1,.int .i64 x1)] 0 42,[],0⟩).bind fun r=>aC GG [(.int .i64)] r.1
noncomputable def mv (x0:Int):Option (Int):=(Den CC 159 (lbl CC 159 5) ⟨aA [(1,.int .i64 x0)] 0 42,[],0⟩).bind fun r=>aC GG [(.int .i64)] r.1
noncomputable def kH (x0 x1:Int) (x2:List UInt8) (x3:List ai) (x4 x5:Int):Option (Int):=(Den CC 303 (lbl CC 303 3) ⟨aA [(0,.pc [.int .i64 x0,.int .i64 x1,.str x2,.sl (.st 96) x3]),(3,.int .i64 x4),(4,.int .i64 x5)] 0 28,[],0⟩).bind fun r=>aC GG [(.int .i64)] r.1
noncomputable def xb (x0 x1:Int) (x2:List UInt8) (x3:List ai):Option (Bool):=(Den CC 319 (az CC 319) ⟨aA [(0,.pc [.int .i64 x0,.int .i64 x1,.str x2,.sl (.st 96) x3])] 0 145,[],0⟩).bind fun r=>aC GG [.bool] r.1
noncomputable def lJ (x0 x1:Int) (x2:List UInt8) (x3:List ai) (x4:Int):Option (Bool):=(Den CC 304 (lbl CC 304 4) ⟨aA [(0,.pc [.int .i64 x0,.int .i64 x1,.str x2,.sl (.st 96) x3]),(3,.int .i64 x4)] 0 24,[],0⟩).bind fun r=>aC GG [.bool] r.1
noncomputable def qN (x0 x1:Int) (x2:List UInt8) (x3:List ai) (x4 x5:Int) (x6:List UInt8) (x7:List ai) (x8:Int):Option (Bool):=(Den CC 273 (lbl CC 273 4) ⟨aA [(0,.pc [.int .i64 x0,.int .i64 x1,.str x2,.sl (.st 96) x3]),(1,.pc [.int .i64 x4,.int .i64 x5,.str x6,.sl (.st 96) x7]),(5,.int .i64 x8)] 0 73,[],0⟩).bind fun r=>aC GG [.bool] r.1
noncomputable def yW (x0:List UInt8) (x1 x2 x3 x4 x5:Int) (x6:List UInt8) (x7 x8:Bool):Option (aN×Int):=(Den CC 228 (lbl CC 228 11) ⟨aA [(0,.str x0),(1,.int .i64 x1),(4,.ref 0 0),(8,.int .i64 x2),(9,.int .i64 x3)] 0 145,[.box 268 [.int .i64 x4,.int .i64 x5,.str x6,.bool x7,.bool x8] false],0⟩).bind fun r=>aC GG [(.st 267),(.int .i64)] r.1
noncomputable def kI (x0 x1 x2 x3 x4:Int) (x5:List UInt8) (x6 x7:Bool):Option (aN×Int):=(Den CC 228 (lbl CC 228 13) ⟨aA [(1,.int .i64 x0),(4,.ref 0 0),(8,.int .i64 x1),(9,.int .i64 x2)] 0 145,[.box 268 [.int .i64 x3,.int .i64 x4,.str x5,.bool x6,.bool x7] false],0⟩).bind fun r=>aC GG [(.st 267),(.int .i64)] r.1
noncomputable def kJ (x0 x1:Int) (x2:List UInt8) (x3 x4:Bool):Option (aN×Int):=(Den CC 228 (lbl CC 228 21) ⟨aA [(4,.ref 0 0)] 0 145,[.box 268 [.int .i64 x0,.int .i64 x1,.str x2,.bool x3,.bool x4] false],0⟩).bind fun r=>aC GG [(.st 267),(.int .i64)] r.1
noncomputable def qO (x0:List UInt8) (x1 x2 x3 x4:Int) (x5:List UInt8) (x6 x7:Bool):Option (aN×Int):=(Den CC 228 (lbl CC 228 22) ⟨aA [(0,.str x0),(1,.int .i64 x1),(4,.ref 0 0),(10,.int .i64 x2)] 0 145,[.box 268 [.int .i64 x3,.int .i64 x4,.str x5,.bool x6,.bool x7] false],0⟩).bind fun r=>aC GG [(.st 267),(.int .i64)] r.1
noncomputable def bW : Option (Bool):=(Den CC 276 (lbl CC 276 11) ⟨aA [] 0 14,[],0⟩).bind fun r=>aC GG [.bool] r.1
noncomputable def oM : Option (Bool):=(Den CC 276 (lbl CC 276 12) ⟨aA [] 0 14,[],0⟩).bind fun r=>aC GG [.bool] r.1
noncomputable def d5 (x0:List ap) (x1:Int):Option (Bool):=(Den CC 277 (az CC 277) ⟨aA [(0,.sl (.st 106) x0),(1,.int .i64 x1)] 0 22,[],0⟩).bind fun r=>aC GG [.bool] r.1
noncomputable def lK (x0:List ap):Option (Bool):=(Den CC 278 (az CC 278) ⟨aA [(0,.sl (.st 106) x0)] 0 25,[],0⟩).bind fun r=>aC GG [.bool] r.1
noncomputable def mw (x0:List ap):Option (Bool):=(Den CC 279 (az CC 279) ⟨aA [(0,.sl (.st 106) x0)] 0 36,[],0⟩).bind fun r=>aC GG [.bool] r.1
noncomputable def vF (x0:Int) (x1:List am) (x2 x3:Int) (x4:List UInt8) (x5:Int) (x6 x7:List ap) (x8 x9:Int) (x10:List UInt8) (x11:Int):Option (Bool):=(Den CC 230 (az CC 230) ⟨aA [(0,.pc [.int .i64 x0,.sl (.st 203) x1]),(1,.pc [.int .i64 x2,.int .i64 x3,.str x4,.int .i64 x5,.sl (.st 106) x6,.sl (.st 106) x7,.int .i64 x8,.int .i64 x9,.str x10,.int .i64 x11])] 0 34,[],0⟩).bind fun r=>aC GG [.bool] r.1
noncomputable def iF (x0:ap) (x1 x2 x3:Bool):Option (Bool):=(Den CC 231 (az CC 231) ⟨aA [(0,.st 106 x0),(1,.bool x1),(2,.bool x2),(3,.bool x3)] 0 31,[],0⟩).bind fun r=>aC GG [.bool] r.1
noncomputable def ir (x0 x1:Int) (x2:List UInt8) (x3:Int):Option (Bool):=(Den CC 153 (lbl CC 153 11) ⟨aA [(1,.ref 0 0)] 0 55,[.box 136 [.int .i64 x0,.int .i64 x1,.str x2,.int .i64 x3] false],0⟩).bind fun r=>aC GG [.bool] r.1
noncomputable def p6 (x0 x1 x2:Int) (x3:List UInt8) (x4:Int):Option (Bool):=(Den CC 153 (lbl CC 153 12) ⟨aA [(1,.ref 0 0),(4,.int .i64 x0)] 0 55,[.box 136 [.int .i64 x1,.int .i64 x2,.str x3,.int .i64 x4] false],0⟩).bind fun r=>aC GG [.bool] r.1
noncomputable def pA (x0:ah):Option (Bool):=(Den CC 155 (az CC 155) ⟨aA [(0,.st 227 x0)] 0 33,[],0⟩).bind fun r=>aC GG [.bool] r.1
noncomputable def kZ : Option (Bool):=(Den CC 87 (lbl CC 87 13) ⟨aA [] 0 134,[],0⟩).bind fun r=>aC GG [.bool] r.1
noncomputable def k5 (x0:Int) (x1:List ak) (x2:List ah) (x3:List ac):Option (Bool):=(Den CC 87 (lbl CC 87 11) ⟨aA [(1,.ref 0 0),(5,.int .i64 x0)] 0 134,[.box 57 [.sl (.st 207) x1,.sl (.st 227) x2,.sl (.st 230) x3] false],0⟩).bind fun r=>aC GG [.bool] r.1
noncomputable def fu (x0:Int) (x1:List ak) (x2:List ah) (x3:List ac):Option (Bool):=(Den CC 87 (lbl CC 87 15) ⟨aA [(1,.ref 0 0),(6,.int .i64 x0)] 0 134,[.box 57 [.sl (.st 207) x1,.sl (.st 227) x2,.sl (.st 230) x3] false],0⟩).bind fun r=>aC GG [.bool] r.1
noncomputable def Bb (x0:aE):Option (Bool):=(Den CC 234 (az CC 234) ⟨aA [(0,.st 233 x0)] 0 35,[],0⟩).bind fun r=>aC GG [.bool] r.1
noncomputable def xc : Option (Bool):=(Den CC 157 (lbl CC 157 7) ⟨aA [] 0 89,[],0⟩).bind fun r=>aC GG [.bool] r.1
noncomputable def xd (x0:(List (List UInt8))) (x1:Int) (x2:(List (List UInt8))) (x3:List aE) (x4:(List (List UInt8))) (x5:Int):Option (Bool):=(Den CC 157 (lbl CC 157 5) ⟨aA [(0,.pc [.sl .str x0,.int .i64 x1,.sl .str x2,.sl (.st 233) x3,.sl .str x4]),(3,.int .i64 x5)] 0 89,[],0⟩).bind fun r=>aC GG [.bool] r.1
noncomputable def iG (x0:Int) (x1:List am) (x2 x3:Int):Option (Int):=(Den CC 236 (lbl CC 236 2) ⟨aA [(0,.pc [.int .i64 x0,.sl (.st 203) x1]),(1,.int .i64 x2),(5,.int .i64 x3)] 0 26,[],0⟩).bind fun r=>aC GG [(.int .i64)] r.1
noncomputable def eA : Option (Int×Int):=(Den CC 91 (lbl CC 91 8) ⟨aA [] 0 42,[],0⟩).bind fun r=>aC GG [(.int .i64),(.int .i64)] r.1
noncomputable def tA (x0 x1 x2:Int) (x3:List UInt8):Option (Int×Int):=(Den CC 91 (lbl CC 91 9) ⟨aA [(1,.ref 0 0),(5,.int .i64 x0)] 0 42,[.box 129 [.int .i64 x1,.int .i64 x2,.str x3] false],0⟩).bind fun r=>aC GG [(.int .i64),(.int .i64)] r.1
noncomputable def kK (x0:Int):Option (Bool):=(Den CC 214 (az CC 214) ⟨aA [(0,.int .u8 x0)] 0 13,[],0⟩).bind fun r=>aC GG [.bool] r.1
noncomputable def k6 (x0:ai):Option (Bool):=(Den CC 282 (az CC 282) ⟨aA [(0,.st 96 x0)] 0 116,[],0⟩).bind fun r=>aC GG [.bool] r.1
noncomputable def f8 (x0:Int) (x1:List ai) (x2 x3:Int):Option (Int):=(Den CC 241 (lbl CC 241 5) ⟨aA [(1,.int .i64 x0),(17,.sl (.st 96) x1),(18,.int .i64 x2),(19,.int .i64 x3)] 0 30,[],0⟩).bind fun r=>aC GG [(.int .i64)] r.1
noncomputable def aX (x0 x1:List ai) (x2 x3:Int):Option (Bool):=(Den CC 242 (lbl CC 242 4) ⟨aA [(1,.sl (.st 96) x0),(2,.fn 172 []),(15,.sl (.st 96) x1),(16,.int .i64 x2),(17,.int .i64 x3)] 0 32,[],0⟩).bind fun r=>aC GG [.bool] r.1
noncomputable def eS (x0 x1:List UInt8):Option ((List UInt8)):=(Den CC 182 (az CC 182) ⟨aA [(0,.str x0),(1,.str x1)] 0 13,[],0⟩).bind fun r=>aC GG [.str] r.1
noncomputable def lL (x0:List UInt8):Option (Bool):=(Den CC 176 (az CC 176) ⟨aA [(0,.str x0)] 0 6,[],0⟩).bind fun r=>aC GG [.bool] r.1
noncomputable def jn (x0:List UInt8) (x1:Int) (x2:List aN):Option ((List aN)×Int×Int):=(Den CC 108 (lbl CC 108 5) ⟨aA [(0,.str x0),(5,.arr 0),(6,.int .i64 x1)] 0 81,[.arr 268 (.st 267) x2 false],0⟩).bind fun r=>aC GG [(.sl (.st 267)),(.int .i64),(.int .i64)] r.1
noncomputable def jQ : Option (Int):=(Den CC 243 (lbl CC 243 20) ⟨aA [] 0 23,[],0⟩).bind fun r=>aC GG [(.int .i64)] r.1
noncomputable def Bc : Option (Int):=(Den CC 243 (lbl CC 243 21) ⟨aA [] 0 23,[],0⟩).bind fun r=>aC GG [(.int .i64)] r.1
noncomputable def k7 (x0:ai):Option (av):=(Den CC 314 (az CC 314) ⟨aA [(0,.st 96 x0)] 0 64,[],0⟩).bind fun r=>aC GG [(.st 128)] r.1
noncomputable def bQ (x0:(List (List av))) (x1 x2:Int) (x3:List av):Option ((((List av)×Unit)×Unit)):=(Den CC 291 (lbl CC 291 11) ⟨aA [(6,.arr 0),(25,.sl (.sl (.st 128)) x0),(26,.int .i64 x1),(27,.int .i64 x2)] 0 36,[.arr 129 (.st 128) x3 false],0⟩).bind fun r=>mI GG [(false,[.ow 129 (.st 128)])] r
noncomputable def kL (x0:aj) (x1:Int):Option (Bool):=(Den CC 315 (az CC 315) ⟨aA [(0,.st 23 x0),(1,.int .i64 x1)] 0 10,[],0⟩).bind fun r=>aC GG [.bool] r.1
noncomputable def bE (x0:List ap) (x1 x2:Int):Option (Bool):=(Den CC 62 (lbl CC 62 2) ⟨aA [(1,.fn 120 []),(7,.sl (.st 106) x0),(8,.int .i64 x1),(9,.int .i64 x2)] 0 18,[],0⟩).bind fun r=>aC GG [.bool] r.1
noncomputable def km (x0:List ap):Option (Bool):=(Den CC 260 (az CC 260) ⟨aA [(0,.sl (.st 106) x0)] 0 18,[],0⟩).bind fun r=>aC GG [.bool] r.1
noncomputable def iu (x0:Bool) (x1 x2:Int) (x3:List UInt8) (x4:Int) (x5 x6:List ap) (x7 x8:Int) (x9:List UInt8) (x10:Int):Option (Bool):=(Den CC 188 (lbl CC 188 8) ⟨aA [(1,.ref 0 0),(3,.bool x0)] 0 126,[.box 204 [.int .i64 x1,.int .i64 x2,.str x3,.int .i64 x4,.sl (.st 106) x5,.sl (.st 106) x6,.int .i64 x7,.int .i64 x8,.str x9,.int .i64 x10] false],0⟩).bind fun r=>aC GG [.bool] r.1
noncomputable def dp (x0:List ap):Option (Bool):=(Den CC 62 (az CC 62) ⟨aA [(0,.sl (.st 106) x0),(1,.fn 261 [])] 0 18,[],0⟩).bind fun r=>aC GG [.bool] r.1
noncomputable def dN (x0:Bool) (x1 x2:Int) (x3:List UInt8) (x4:Int) (x5 x6:List ap) (x7 x8:Int) (x9:List UInt8) (x10:Int):Option (Bool):=(Den CC 188 (lbl CC 188 12) ⟨aA [(1,.ref 0 0),(5,.bool x0)] 0 126,[.box 204 [.int .i64 x1,.int .i64 x2,.str x3,.int .i64 x4,.sl (.st 106) x5,.sl (.st 106) x6,.int .i64 x7,.int .i64 x8,.str x9,.int .i64 x10] false],0⟩).bind fun r=>aC GG [.bool] r.1
noncomputable def kn (x0:am) (x1:Int) (x2:List am):Option (Bool):=(Den CC 189 (az CC 189) ⟨aA [(0,.st 203 x0),(1,.pc [.int .i64 x1,.sl (.st 203) x2])] 0 9,[],0⟩).bind fun r=>aC GG [.bool] r.1
noncomputable def gD (x0:ak):Option (Bool):=(Den CC 197 (az CC 197) ⟨aA [(0,.st 207 x0)] 0 17,[],0⟩).bind fun r=>aC GG [.bool] r.1
noncomputable def fL (x0:ah):Option (Bool):=(Den CC 199 (az CC 199) ⟨aA [(0,.st 227 x0)] 0 45,[],0⟩).bind fun r=>aC GG [.bool] r.1
noncomputable def eH (x0:ac):Option (Bool):=(Den CC 201 (az CC 201) ⟨aA [(0,.st 230 x0)] 0 11,[],0⟩).bind fun r=>aC GG [.bool] r.1
noncomputable def ko (x0:aE):Option (Bool):=(Den CC 205 (az CC 205) ⟨aA [(0,.st 233 x0)] 0 49,[],0⟩).bind fun r=>aC GG [.bool] r.1
noncomputable def qP (x0:aE):Option ((List UInt8)):=(Den CC 207 (az CC 207) ⟨aA [(0,.st 233 x0)] 0 5,[],0⟩).bind fun r=>aC GG [.str] r.1
noncomputable def oe (x0:am) (x1:Int):Option (Int):=(Den CC 210 (az CC 210) ⟨aA [(0,.st 203 x0),(1,.int .i64 x1)] 0 9,[],0⟩).bind fun r=>aC GG [(.int .i64)] r.1
noncomputable def bK (x0:Int) (x1:List am) (x2:List ak) (x3 x4:Int):Option (Bool):=(Den CC 125 (lbl CC 125 2) ⟨aA [(1,.fn 1000126 [.ag [.int .i64 x0,.sl (.st 203) x1]]),(7,.sl (.st 207) x2),(8,.int .i64 x3),(9,.int .i64 x4)] 0 18,[],0⟩).bind fun r=>aC GG [.bool] r.1
noncomputable def tB (x0 x1:Int):Option (Bool):=(Den CC 270 (az CC 270) ⟨aA [(0,.int .i64 x0),(1,.int .i64 x1)] 0 17,[],0⟩).bind fun r=>aC GG [.bool] r.1
noncomputable def jo (x0:Int):Option (Bool):=(Den CC 271 (az CC 271) ⟨aA [(0,.int .i64 x0)] 0 6,[],0⟩).bind fun r=>aC GG [.bool] r.1
noncomputable def hU (x0 x1:Int) (x2:List UInt8) (x3:List ai) (x4:Int):Option (Bool):=(Den CC 319 (lbl CC 319 13) ⟨aA [(0,.pc [.int .i64 x0,.int .i64 x1,.str x2,.sl (.st 96) x3]),(3,.int .i64 x4)] 0 145,[],0⟩).bind fun r=>aC GG [.bool] r.1
noncomputable def tC (x0 x1:Int) (x2:List UInt8) (x3:List ai) (x4:Bool) (x5:Int):Option (Bool):=(Den CC 319 (lbl CC 319 14) ⟨aA [(0,.pc [.int .i64 x0,.int .i64 x1,.str x2,.sl (.st 96) x3]),(4,.bool x4),(8,.int .i64 x5)] 0 145,[],0⟩).bind fun r=>aC GG [.bool] r.1
noncomputable def dd (x0:List ap) (x1:Int):Option (Bool):=(Den CC 277 (lbl CC 277 4) ⟨aA [(0,.sl (.st 106) x0),(5,.int .i64 x1)] 0 22,[],0⟩).bind fun r=>aC GG [.bool] r.1
noncomputable def dv (x0:List ap) (x1:Int):Option (Bool):=(Den CC 278 (lbl CC 278 2) ⟨aA [(0,.sl (.st 106) x0),(3,.int .i64 x1)] 0 25,[],0⟩).bind fun r=>aC GG [.bool] r.1
noncomputable def dt (x0:List ap) (x1:Int):Option (Bool):=(Den CC 279 (lbl CC 279 2) ⟨aA [(0,.sl (.st 106) x0),(3,.int .i64 x1)] 0 36,[],0⟩).bind fun r=>aC GG [.bool] r.1
noncomputable def pB (x0:Int) (x1:List am) (x2:List ap):Option (Bool):=(Den CC 280 (az CC 280) ⟨aA [(0,.pc [.int .i64 x0,.sl (.st 203) x1]),(1,.sl (.st 106) x2)] 0 19,[],0⟩).bind fun r=>aC GG [.bool] r.1
noncomputable def fw : Option (Bool):=(Den CC 155 (lbl CC 155 2) ⟨aA [] 0 33,[],0⟩).bind fun r=>aC GG [.bool] r.1
noncomputable def p7 (x0:List UInt8) (x1:(List (List UInt8))) (x2:(List (List UInt8))) (x3:List UInt8):Option (Bool):=(Den CC 155 (lbl CC 155 3) ⟨aA [(1,.pc [.str x0,.sl .str x1,.sl .str x2,.str x3])] 0 33,[],0⟩).bind fun r=>aC GG [.bool] r.1
noncomputable def Bd (x0:ac):Option (Bool):=(Den CC 156 (az CC 156) ⟨aA [(0,.st 230 x0)] 0 17,[],0⟩).bind fun r=>aC GG [.bool] r.1
noncomputable def k8 : Option (Bool):=(Den CC 87 (lbl CC 87 18) ⟨aA [] 0 134,[],0⟩).bind fun r=>aC GG [.bool] r.1
noncomputable def k9 (x0:Int) (x1:List ak) (x2:List ah) (x3:List ac):Option (Bool):=(Den CC 87 (lbl CC 87 16) ⟨aA [(1,.ref 0 0),(6,.int .i64 x0)] 0 134,[.box 57 [.sl (.st 207) x1,.sl (.st 227) x2,.sl (.st 230) x3] false],0⟩).bind fun r=>aC GG [.bool] r.1
noncomputable def nz : Option (Bool):=(Den CC 234 (lbl CC 234 2) ⟨aA [] 0 35,[],0⟩).bind fun r=>aC GG [.bool] r.1
noncomputable def yX (x0:List UInt8) (x1:(List (List UInt8))) (x2 x3:Int):Option (Bool):=(Den CC 234 (lbl CC 234 3) ⟨aA [(1,.ref 0 0)] 0 35,[.box 259 [.str x0,.sl .str x1,.int .i64 x2,.int .i64 x3] false],0⟩).bind fun r=>aC GG [.bool] r.1
noncomputable def f9 : Option (Int×Int):=(Den CC 91 (lbl CC 91 16) ⟨aA [] 0 42,[],0⟩).bind fun r=>aC GG [(.int .i64),(.int .i64)] r.1
noncomputable def qQ (x0 x1 x2:Int) (x3:List UInt8):Option (Int×Int):=(Den CC 91 (lbl CC 91 17) ⟨aA [(1,.ref 0 0),(5,.int .i64 x0)] 0 42,[.box 129 [.int .i64 x1,.int .i64 x2,.str x3] false],0⟩).bind fun r=>aC GG [(.int .i64),(.int .i64)] r.1
noncomputable def qR (x0:Int):Option (Bool):=(Den CC 250 (az CC 250) ⟨aA [(0,.int .u8 x0)] 0 9,[],0⟩).bind fun r=>aC GG [.bool] r.1
noncomputable def xe (x0:Int):Option (Bool):=(Den CC 288 (az CC 288) ⟨aA [(0,.int .i64 x0)] 0 5,[],0⟩).bind fun r=>aC GG [.bool] r.1
noncomputable def gN : Option (Bool):=(Den CC 282 (lbl CC 282 11) ⟨aA [] 0 116,[],0⟩).bind fun r=>aC GG [.bool] r.1
noncomputable def lj (x0 x1 x2:Int) (x3:List UInt8) (x4:List ai):Option (Bool):=(Den CC 282 (lbl CC 282 12) ⟨aA [(1,.ref 0 0),(3,.int .i64 x0)] 0 116,[.box 113 [.int .i64 x1,.int .i64 x2,.str x3,.sl (.st 96) x4] false],0⟩).bind fun r=>aC GG [.bool] r.1
noncomputable def dq (x0 x1:List UInt8):Option (Bool):=(Den CC 254 (az CC 254) ⟨aA [(0,.str x0),(1,.str x1)] 0 18,[],0⟩).bind fun r=>aC GG [.bool] r.1
noncomputable def iH (x0:List Int):Option (Bool):=(Den CC 213 (az CC 213) ⟨aA [(0,.sl (.int .u8) x0),(1,.fn 249 [])] 0 18,[],0⟩).bind fun r=>aC GG [.bool] r.1
noncomputable def fg (x0:List UInt8) (x1:Int):Option (Int):=(Den CC 177 (az CC 177) ⟨aA [(0,.str x0),(1,.int .i64 x1),(2,.fn 178 [])] 0 25,[],0⟩).bind fun r=>aC GG [(.int .i64)] r.1
noncomputable def uf (x0:List UInt8) (x1:Int):Option (aN×Int×Bool):=(Den CC 179 (az CC 179) ⟨aA [(0,.str x0),(1,.int .i64 x1)] 0 101,[],0⟩).bind fun r=>aC GG [(.st 267),(.int .i64),.bool] r.1
noncomputable def Aj (x0:Bool) (x1:Int):Option (Int):=(Den CC 181 (az CC 181) ⟨aA [(0,.bool x0),(1,.int .i64 x1)] 0 7,[],0⟩).bind fun r=>aC GG [(.int .i64)] r.1
noncomputable def Iy (x0:List Int):Option (Int):=(Den CC 180 (az CC 180) ⟨aA [(0,.sl (.int .i64) x0)] 0 15,[],0⟩).bind fun r=>aC GG [(.int .i64)] r.1
noncomputable def ee (x0:List UInt8) (x1:Int) (x2:List aN) (x3 x4:Int) (x5:List UInt8) (x6 x7:Bool):Option ((List aN)×Int×Int):=(Den CC 108 (lbl CC 108 16) ⟨aA [(0,.str x0),(5,.arr 0),(6,.int .i64 x1),(8,.ref 1 0)] 0 81,[.arr 268 (.st 267) x2 false,.box 268 [.int .i64 x3,.int .i64 x4,.str x5,.bool x6,.bool x7] false],0⟩).bind fun r=>aC GG [(.sl (.st 267)),(.int .i64),(.int .i64)] r.1
noncomputable def eI (x0 x1:Int) (x2:List UInt8) (x3:List ai) (x4 x5:Int) (x6:List UInt8):Option (av):=(Den CC 314 (lbl CC 314 11) ⟨aA [(1,.ref 0 0),(2,.ref 1 0)] 0 64,[.box 113 [.int .i64 x0,.int .i64 x1,.str x2,.sl (.st 96) x3] false,.box 129 [.int .i64 x4,.int .i64 x5,.str x6] false],0⟩).bind fun r=>aC GG [(.st 128)] r.1
noncomputable def lk (x0 x1 x2:Int) (x3:List UInt8) (x4:List ai) (x5 x6:Int) (x7:List UInt8):Option (av):=(Den CC 314 (lbl CC 314 12) ⟨aA [(1,.ref 0 0),(2,.ref 1 0),(4,.int .i64 x0)] 0 64,[.box 113 [.int .i64 x1,.int .i64 x2,.str x3,.sl (.st 96) x4] false,.box 129 [.int .i64 x5,.int .i64 x6,.str x7] false],0⟩).bind fun r=>aC GG [(.st 128)] r.1
noncomputable def dO (x0 x1:List ap) (x2 x3:Int):Option (Bool):=(Den CC 260 (lbl CC 260 2) ⟨aA [(0,.sl (.st 106) x0),(5,.sl (.st 106) x1),(6,.int .i64 x2),(7,.int .i64 x3)] 0 18,[],0⟩).bind fun r=>aC GG [.bool] r.1
noncomputable def bL (x0:List ap) (x1 x2:Int):Option (Bool):=(Den CC 62 (lbl CC 62 2) ⟨aA [(1,.fn 261 []),(7,.sl (.st 106) x0),(8,.int .i64 x1),(9,.int .i64 x2)] 0 18,[],0⟩).bind fun r=>aC GG [.bool] r.1
noncomputable def nA (x0:am):Option ((((List ap)×Unit)×Unit)):=(Den CC 190 (az CC 190) ⟨aA [(0,.st 203 x0)] 0 19,[],0⟩).bind fun r=>mI GG [(false,[.ow 136 (.st 106)])] r
noncomputable def EK (x0:ap):Option (Bool):=(Den CC 263 (az CC 263) ⟨aA [(0,.st 106 x0)] 0 6,[],0⟩).bind fun r=>aC GG [.bool] r.1
noncomputable def dr (x0:(List (List (List UInt8)))):Option ((List (List UInt8))):=(Den CC 264 (az CC 264) ⟨aA [(0,.sl (.sl .str) x0)] 0 36,[],0⟩).bind fun r=>aC GG [(.sl .str)] r.1
noncomputable def dj (x0:(List (List UInt8))):Option (Bool):=(Den CC 169 (az CC 169) ⟨aA [(0,.sl .str x0),(1,.fn 124 [])] 0 18,[],0⟩).bind fun r=>aC GG [.bool] r.1
noncomputable def ug (x0:(List (List UInt8))):Option (Bool):=(Den CC 267 (az CC 267) ⟨aA [(0,.sl .str x0)] 0 23,[],0⟩).bind fun r=>aC GG [.bool] r.1
noncomputable def de (x0 x1:Bool) (x2:List UInt8) (x3:(List (List UInt8))) (x4 x5:Int):Option (Bool):=(Den CC 205 (lbl CC 205 3) ⟨aA [(1,.ref 0 0),(3,.bool x0),(4,.bool x1)] 0 49,[.box 259 [.str x2,.sl .str x3,.int .i64 x4,.int .i64 x5] false],0⟩).bind fun r=>aC GG [.bool] r.1
noncomputable def jR (x0 x1:Int):Option (Int):=(Den CC 211 (az CC 211) ⟨aA [(0,.int .i64 x0),(1,.int .i64 x1)] 0 20,[],0⟩).bind fun r=>aC GG [(.int .i64)] r.1
noncomputable def kp (x0:aJ) (x1:ak):Option (Bool):=(Den CC 126 (az CC 126) ⟨aA [(0,.st 26 x0),(1,.st 207 x1)] 0 14,[],0⟩).bind fun r=>aC GG [.bool] r.1
noncomputable def ga (x0:Int):Option (Bool):=(Den CC 269 (az CC 269) ⟨aA [(0,.int .i64 x0)] 0 6,[],0⟩).bind fun r=>aC GG [.bool] r.1
noncomputable def dk (x0 x1:Int) (x2:List UInt8) (x3:List ai) (x4:Int) (x5:Bool):Option (Bool):=(Den CC 319 (lbl CC 319 32) ⟨aA [(0,.pc [.int .i64 x0,.int .i64 x1,.str x2,.sl (.st 96) x3]),(3,.int .i64 x4),(4,.bool x5)] 0 145,[],0⟩).bind fun r=>aC GG [.bool] r.1
noncomputable def dK (x0 x1:Int) (x2:List UInt8) (x3:List ai) (x4:Bool):Option (Bool):=(Den CC 319 (lbl CC 319 26) ⟨aA [(0,.pc [.int .i64 x0,.int .i64 x1,.str x2,.sl (.st 96) x3]),(4,.bool x4)] 0 145,[],0⟩).bind fun r=>aC GG [.bool] r.1
noncomputable def tD (x0 x1:Int) (x2:List UInt8) (x3:List ai) (x4:Bool) (x5:Int):Option (Bool):=(Den CC 319 (lbl CC 319 27) ⟨aA [(0,.pc [.int .i64 x0,.int .i64 x1,.str x2,.sl (.st 96) x3]),(4,.bool x4),(8,.int .i64 x5)] 0 145,[],0⟩).bind fun r=>aC GG [.bool] r.1
noncomputable def iv (x0:List ap) (x1 x2:Int):Option (Bool):=(Den CC 278 (lbl CC 278 5) ⟨aA [(0,.sl (.st 106) x0),(3,.int .i64 x1),(4,.int .i64 x2)] 0 25,[],0⟩).bind fun r=>aC GG [.bool] r.1
noncomputable def hY (x0:Int) (x1:List am) (x2:List ap) (x3:Int):Option (Bool):=(Den CC 280 (lbl CC 280 2) ⟨aA [(0,.pc [.int .i64 x0,.sl (.st 203) x1]),(1,.sl (.st 106) x2),(5,.int .i64 x3)] 0 19,[],0⟩).bind fun r=>aC GG [.bool] r.1
noncomputable def sE (x0:(List (List UInt8))):Option (Bool):=(Den CC 232 (az CC 232) ⟨aA [(0,.sl .str x0)] 0 26,[],0⟩).bind fun r=>aC GG [.bool] r.1
noncomputable def jp : Option (Int×Int):=(Den CC 91 (lbl CC 91 25) ⟨aA [] 0 42,[],0⟩).bind fun r=>aC GG [(.int .i64),(.int .i64)] r.1
noncomputable def qS (x0:Int):Option (Int×Int):=(Den CC 91 (lbl CC 91 26) ⟨aA [(5,.int .i64 x0)] 0 42,[],0⟩).bind fun r=>aC GG [(.int .i64),(.int .i64)] r.1
noncomputable def gO (x0:Int):Option (Bool):=(Den CC 282 (lbl CC 282 18) ⟨aA [(3,.int .i64 x0)] 0 116,[],0⟩).bind fun r=>aC GG [.bool] r.1
noncomputable def lm (x0 x1 x2:Int) (x3:List UInt8) (x4:List ai):Option (Bool):=(Den CC 282 (lbl CC 282 19) ⟨aA [(1,.ref 0 0),(3,.int .i64 x0)] 0 116,[.box 113 [.int .i64 x1,.int .i64 x2,.str x3,.sl (.st 96) x4] false],0⟩).bind fun r=>aC GG [.bool] r.1
noncomputable def cR (x0:List Int) (x1 x2:Int):Option (Bool):=(Den CC 213 (lbl CC 213 2) ⟨aA [(1,.fn 249 []),(7,.sl (.int .u8) x0),(8,.int .i64 x1),(9,.int .i64 x2)] 0 18,[],0⟩).bind fun r=>aC GG [.bool] r.1
noncomputable def c8 (x0:List UInt8) (x1 x2:Int):Option (Int):=(Den CC 177 (lbl CC 177 2) ⟨aA [(0,.str x0),(1,.int .i64 x1),(2,.fn 178 []),(7,.int .i64 x2)] 0 25,[],0⟩).bind fun r=>aC GG [(.int .i64)] r.1
noncomputable def gP (x0:List UInt8) (x1:Int):Option (Int):=(Den CC 177 (az CC 177) ⟨aA [(0,.str x0),(1,.int .i64 x1),(2,.fn 214 [])] 0 25,[],0⟩).bind fun r=>aC GG [(.int .i64)] r.1
noncomputable def jS (x0:List UInt8) (x1:Int):Option (Int):=(Den CC 177 (az CC 177) ⟨aA [(0,.str x0),(1,.int .i64 x1),(2,.fn 250 [])] 0 25,[],0⟩).bind fun r=>aC GG [(.int .i64)] r.1
noncomputable def da (x0:List UInt8) (x1 x2:Int):Option (Int):=(Den CC 177 (az CC 177) ⟨aA [(0,.str x0),(1,.int .i64 x1),(2,.fn 252 [.pc [.int .u8 x2]])] 0 25,[],0⟩).bind fun r=>aC GG [(.int .i64)] r.1
noncomputable def xf (x0:List Int) (x1 x2:Int):Option (Int):=(Den CC 180 (lbl CC 180 2) ⟨aA [(5,.sl (.int .i64) x0),(6,.int .i64 x1),(7,.int .i64 x2)] 0 15,[],0⟩).bind fun r=>aC GG [(.int .i64)] r.1
noncomputable def cL (x0:List ap) (x1:ap):Option (Bool):=(Den CC 296 (az CC 296) ⟨aA [(0,.sl (.st 106) x0),(1,.st 106 x1)] 0 9,[],0⟩).bind fun r=>aC GG [.bool] r.1
noncomputable def vG (x0:ap):Option (Bool):=(Den CC 261 (az CC 261) ⟨aA [(0,.st 106 x0)] 0 13,[],0⟩).bind fun r=>aC GG [.bool] r.1
noncomputable def cz (x0:(List (List ap))):Option ((((List ap)×Unit)×Unit)):=(Den CC 262 (az CC 262) ⟨aA [(0,.sl (.sl (.st 106)) x0)] 0 36,[],0⟩).bind fun r=>mI GG [(false,[.ow 136 (.st 106)])] r
noncomputable def Nd : Option (ap):=(Den CC 299 (az CC 299) ⟨aA [] 0 2,[],0⟩).bind fun r=>aC GG [(.st 106)] r.1
noncomputable def cS (x0:(List (List (List UInt8)))) (x1:Int) (x2:(List (List (List UInt8)))) (x3 x4:Int):Option ((List (List UInt8))):=(Den CC 264 (lbl CC 264 3) ⟨aA [(0,.sl (.sl .str) x0),(3,.int .i64 x1),(9,.sl (.sl .str) x2),(10,.int .i64 x3),(11,.int .i64 x4)] 0 36,[],0⟩).bind fun r=>aC GG [(.sl .str)] r.1
noncomputable def cC (x0:(List (List UInt8))) (x1 x2:Int):Option (Bool):=(Den CC 169 (lbl CC 169 2) ⟨aA [(1,.fn 124 []),(7,.sl .str x0),(8,.int .i64 x1),(9,.int .i64 x2)] 0 18,[],0⟩).bind fun r=>aC GG [.bool] r.1
noncomputable def kr : Option (Bool):=(Den CC 267 (lbl CC 267 2) ⟨aA [] 0 23,[],0⟩).bind fun r=>aC GG [.bool] r.1
noncomputable def tE (x0:(List (List UInt8))):Option (Bool):=(Den CC 267 (lbl CC 267 3) ⟨aA [(0,.sl .str x0)] 0 23,[],0⟩).bind fun r=>aC GG [.bool] r.1
noncomputable def J7 (x0:Int):Option (Bool):=(Den CC 268 (az CC 268) ⟨aA [(0,.int .i64 x0)] 0 5,[],0⟩).bind fun r=>aC GG [.bool] r.1
noncomputable def og : Option (Bool):=(Den CC 319 (lbl CC 319 31) ⟨aA [] 0 145,[],0⟩).bind fun r=>aC GG [.bool] r.1
noncomputable def uh (x0 x1:ap):Option (Bool):=(Den CC 305 (az CC 305) ⟨aA [(0,.st 106 x0),(1,.st 106 x1)] 0 8,[],0⟩).bind fun r=>aC GG [.bool] r.1
noncomputable def lM (x0:(List (List UInt8))) (x1:Int):Option (Bool):=(Den CC 232 (lbl CC 232 2) ⟨aA [(0,.sl .str x0),(3,.int .i64 x1)] 0 26,[],0⟩).bind fun r=>aC GG [.bool] r.1
noncomputable def my : Option (Int×Int):=(Den CC 91 (lbl CC 91 33) ⟨aA [] 0 42,[],0⟩).bind fun r=>aC GG [(.int .i64),(.int .i64)] r.1
noncomputable def qT (x0:Int):Option (Int×Int):=(Den CC 91 (lbl CC 91 34) ⟨aA [(5,.int .i64 x0)] 0 42,[],0⟩).bind fun r=>aC GG [(.int .i64),(.int .i64)] r.1
noncomputable def xg (x0:Int):Option (Bool):=(Den CC 306 (az CC 306) ⟨aA [(0,.int .i64 x0)] 0 5,[],0⟩).bind fun r=>aC GG [.bool] r.1
noncomputable def vH (x0:Int):Option (Bool):=(Den CC 249 (az CC 249) ⟨aA [(0,.int .u8 x0)] 0 9,[],0⟩).bind fun r=>aC GG [.bool] r.1
noncomputable def qU (x0:Int):Option (Bool):=(Den CC 178 (az CC 178) ⟨aA [(0,.int .u8 x0)] 0 5,[],0⟩).bind fun r=>aC GG [.bool] r.1
noncomputable def dI (x0:List UInt8) (x1 x2:Int):Option (Int):=(Den CC 177 (lbl CC 177 2) ⟨aA [(0,.str x0),(1,.int .i64 x1),(2,.fn 214 []),(7,.int .i64 x2)] 0 25,[],0⟩).bind fun r=>aC GG [(.int .i64)] r.1
noncomputable def eJ (x0:List UInt8) (x1 x2:Int):Option (Int):=(Den CC 177 (lbl CC 177 2) ⟨aA [(0,.str x0),(1,.int .i64 x1),(2,.fn 250 []),(7,.int .i64 x2)] 0 25,[],0⟩).bind fun r=>aC GG [(.int .i64)] r.1
noncomputable def dl (x0:List UInt8) (x1 x2 x3:Int):Option (Int):=(Den CC 177 (lbl CC 177 2) ⟨aA [(0,.str x0),(1,.int .i64 x1),(2,.fn 252 [.pc [.int .u8 x2]]),(7,.int .i64 x3)] 0 25,[],0⟩).bind fun r=>aC GG [(.int .i64)] r.1
noncomputable def eT (x0:List ap) (x1:ap):Option (Int):=(Den CC 316 (az CC 316) ⟨aA [(0,.sl (.st 106) x0),(1,.st 106 x1)] 0 19,[],0⟩).bind fun r=>aC GG [(.int .i64)] r.1
noncomputable def EL (x0:List UInt8):Option (ap):=(Den CC 297 (az CC 297) ⟨aA [(0,.str x0)] 0 5,[],0⟩).bind fun r=>aC GG [(.st 106)] r.1
noncomputable def cf (x0:(List (List ap))) (x1:Int) (x2:(List (List ap))) (x3 x4:Int):Option ((((List ap)×Unit)×Unit)):=(Den CC 262 (lbl CC 262 3) ⟨aA [(0,.sl (.sl (.st 106)) x0),(3,.int .i64 x1),(9,.sl (.sl (.st 106)) x2),(10,.int .i64 x3),(11,.int .i64 x4)] 0 36,[],0⟩).bind fun r=>mI GG [(false,[.ow 136 (.st 106)])] r
noncomputable def cM (x0:(List (List (List UInt8)))) (x1 x2:Int) (x3:(List (List UInt8))):Option ((List (List UInt8))):=(Den CC 264 (lbl CC 264 11) ⟨aA [(6,.arr 0),(25,.sl (.sl .str) x0),(26,.int .i64 x1),(27,.int .i64 x2)] 0 36,[.arr 9 .str x3 false],0⟩).bind fun r=>aC GG [(.sl .str)] r.1
noncomputable def Iz (x0:(List (List UInt8))) (x1:List UInt8):Option (Int):=(Den CC 281 (az CC 281) ⟨aA [(0,.sl .str x0),(1,.str x1)] 0 19,[],0⟩).bind fun r=>aC GG [(.int .i64)] r.1
noncomputable def tF (x0 x1:Int):Option (Bool):=(Den CC 252 (az CC 252) ⟨aA [(0,.int .u8 x0),(1,.pc [.int .u8 x1])] 0 7,[],0⟩).bind fun r=>aC GG [.bool] r.1
noncomputable def aW (x0:List ap) (x1 x2 x3 x4:Int) (x5:List UInt8) (x6:Int):Option (Int):=(Den CC 316 (lbl CC 316 2) ⟨aA [(0,.sl (.st 106) x0),(3,.ref 0 0),(7,.int .i64 x1),(8,.int .i64 x2)] 0 19,[.box 136 [.int .i64 x3,.int .i64 x4,.str x5,.int .i64 x6] false],0⟩).bind fun r=>aC GG [(.int .i64)] r.1
noncomputable def cd (x0:(List (List ap))) (x1 x2:Int) (x3:List ap):Option ((((List ap)×Unit)×Unit)):=(Den CC 262 (lbl CC 262 11) ⟨aA [(6,.arr 0),(25,.sl (.sl (.st 106)) x0),(26,.int .i64 x1),(27,.int .i64 x2)] 0 36,[.arr 136 (.st 106) x3 false],0⟩).bind fun r=>mI GG [(false,[.ow 136 (.st 106)])] r
noncomputable def sF (x0:(List (List UInt8))) (x1:List UInt8) (x2:Int):Option (Int):=(Den CC 281 (lbl CC 281 2) ⟨aA [(0,.sl .str x0),(1,.str x1),(5,.int .i64 x2)] 0 19,[],0⟩).bind fun r=>aC GG [(.int .i64)] r.1
theorem oN (x0:aj) (x1:aq):fV x0 x1=(tS x0 1048576).bind fun ra=>if (decide (ra<0))=true then some (true) else (tT x1 ra).bind fun rb=>if (decide (rb<0))=true then some (true) else (lZ x0).bind fun rc=>(l0 x1).bind fun rd=>(nM rc rd).bind fun re=>(lZ x0).bind fun rf=>(l0 x1).bind fun rg=>(nN rf rg).bind fun rh=>if (!rh==re)=true then some (false) else (lZ x0).bind fun ri=>(tU rf ri).bind fun rj=>if (!rj)=true then some (false) else (l0 x1).bind fun rk=>(tV rg rk).bind fun rl=>if (!rl)=true then some (false) else some (true):=
  (ab CC _ _ _ _).trans (by kernel_rfl)
theorem CE (x0:aj) (x1:Int):tS x0 x1=(nO x0.fStatements x1).bind fun ra=>if (decide (ra<0))=true then some (-1) else some ra:=
  (ab CC _ _ _ _).trans (by kernel_rfl)
theorem CF (x0:aq) (x1:Int):tT x0 x1=(wX x0.fMemory x1).bind fun ra=>if (decide (ra<0))=true then some (-1) else (oy x0.fStack ra).bind fun rb=>if (decide (rb<0))=true then some (-1) else (nP x0.fFrames rb).bind fun rc=>if (decide (rc<0))=true then some (-1) else some rc:=
  (ab CC _ _ _ _).trans (by kernel_rfl)
theorem CG (x0:aj):lZ x0=(nQ x0.fStatements).bind fun ra=>some (aj.mk ra):=
  (ab CC _ _ _ _).trans (by kernel_rfl)
theorem CH (x0:aq):l0 x0=(wY x0.fMemory).bind fun ra=>(oz x0.fStack).bind fun rb=>(nR x0.fFrames).bind fun rc=>some (aq.mk x0.fStatus x0.fCode ra rb rc x0.fPC x0.fBase x0.fAt x0.fSteps x0.fFuel):=
  (ab CC _ _ _ _).trans (by kernel_rfl)
theorem xh (x0:aj) (x1:aq):nM x0 x1=(nS x0).bind fun ra=>if ra=true then (AP x0).bind fun rb=>(r4 (b9.mk rb.1.1 rb.1.2.1 rb.1.2.2.1) x1).bind fun rc=>some rc else some (false):=
  (ab CC _ _ _ _).trans (by kernel_rfl)
theorem xi (x0:aj) (x1:aq):nN x0 x1=(nT x0).bind fun ra=>if ra=true then (AQ x0).bind fun rb=>(gM rb x1).bind fun rc=>some rc else some (false):=
  (ab CC _ _ _ _).trans (by kernel_rfl)
theorem CI (x0 x1:aj):tU x0 x1=(nU x0.fStatements x1.fStatements).bind fun ra=>if (!ra)=true then some (false) else some (true):=
  (ab CC _ _ _ _).trans (by kernel_rfl)
theorem CJ (x0 x1:aq):tV x0 x1=if (x0.fStatus !=x1.fStatus)=true then some (false) else if (x0.fCode !=x1.fCode)=true then some (false) else (wZ x0.fMemory x1.fMemory).bind fun ra=>if (!ra)=true then some (false) else (oA x0.fStack x1.fStack).bind fun rb=>if (!rb)=true then some (false) else (nV x0.fFrames x1.fFrames).bind fun rc=>if (!rc)=true then some (false) else if (x0.fPC !=x1.fPC)=true then some (false) else if (x0.fBase !=x1.fBase)=true then some (false) else if (x0.fAt !=x1.fAt)=true then some (false) else if (x0.fSteps !=x1.fSteps)=true then some (false) else if (x0.fFuel !=x1.fFuel)=true then some (false) else some (true):=
  (ab CC _ _ _ _).trans (by kernel_rfl)
theorem xj (x0:List aa) (x1:Int):nO x0 x1=if (decide (w64 (x1-len x0)<0))=true then some (-1) else gj x0 (w64 (x1-len x0)) 0:=
  (ab CC _ _ _ _).trans (by kernel_rfl)
theorem EM (x0:ay) (x1:Int):wX x0 x1=(EA x0.fHeap x1).bind fun ra=>if (decide (ra<0))=true then some (-1) else (AR x0.fScope ra).bind fun rb=>if (decide (rb<0))=true then some (-1) else (tW x0.fConsole rb).bind fun rc=>if (decide (rc<0))=true then some (-1) else some rc:=
  (ab CC _ _ _ _).trans (by kernel_rfl)
theorem EN (x0:List ap) (x1:Int):oy x0 x1=if (decide (w64 (x1-len x0)<0))=true then some (-1) else ly x0 (w64 (x1-len x0)) 0:=
  (ab CC _ _ _ _).trans (by kernel_rfl)
theorem xk (x0:List ae) (x1:Int):nP x0 x1=if (decide (w64 (x1-len x0)<0))=true then some (-1) else gk x0 (w64 (x1-len x0)) 0:=
  (ab CC _ _ _ _).trans (by kernel_rfl)
theorem xl (x0:List aa):nQ x0=((mk (len x0) (aa.mk [] false (ai.mk (Int.ofNat 0) (Int.ofNat 0) [] []) false (ai.mk (Int.ofNat 0) (Int.ofNat 0) [] []) false (ai.mk (Int.ofNat 0) (Int.ofNat 0) [] []) (aK.mk [] [] []))):Option (List aa)).bind fun ra=>gl x0 0 ra:=
  (ab CC _ _ _ _).trans (by kernel_rfl)
theorem EO (x0:ay):wY x0=(EB x0.fHeap).bind fun ra=>(AS x0.fScope).bind fun rb=>(tX x0.fConsole).bind fun rc=>some (ay.mk ra rb rc):=
  (ab CC _ _ _ _).trans (by kernel_rfl)
theorem EP (x0:List ap):oz x0=((mk (len x0) (ap.mk (Int.ofNat 0) (Int.ofNat 0) [] (Int.ofNat 0))):Option (List ap)).bind fun ra=>lz x0 0 ra:=
  (ab CC _ _ _ _).trans (by kernel_rfl)
theorem xm (x0:List ae):nR x0=((mk (len x0) (ae.mk [] [] (Int.ofNat 0) (Int.ofNat 0) (Int.ofNat 0))):Option (List ae)).bind fun ra=>gm x0 0 ra:=
  (ab CC _ _ _ _).trans (by kernel_rfl)
theorem xn (x0:aj):nS x0=if (decide (len x0.fStatements>80))=true then some (false) else eM 0 x0.fStatements:=
  (ab CC _ _ _ _).trans (by kernel_rfl)
theorem Gz (x0:aj):AP x0=m6 0 x0.fStatements ([]) ([]) ([]) ([]) ([]) ([]):=
  (ab CC _ _ _ _).trans (by kernel_rfl)
theorem EQ (x0:b9) (x1:aq):r4 x0 x1=(dX x1.fStatus 1 3).bind fun ra=>if (!ra)=true then iR else (dX x1.fFuel 0 4000).bind fun rb=>if (!rb)=true then iR else (dX x1.fSteps 0 x1.fFuel).bind fun rc=>if (!rc)=true then iR else (dX x1.fPC 0 (w64 (len x0.fInstrs-1))).bind fun rd=>if (!rd)=true then iR else vo x0.fInstrs x0.fEntries x0.fFails x1.fStatus x1.fCode x1.fMemory.fHeap.fNext x1.fMemory.fHeap.fObjects x1.fMemory.fScope.fVars x1.fMemory.fScope.fFunctions x1.fMemory.fScope.fTypes x1.fMemory.fConsole.fInput x1.fMemory.fConsole.fAt x1.fMemory.fConsole.fOutput x1.fMemory.fConsole.fFiles x1.fMemory.fConsole.fTrace x1.fStack x1.fFrames x1.fPC x1.fBase x1.fAt x1.fSteps x1.fFuel:=
  (ab CC _ _ _ _).trans (by kernel_rfl)
theorem xp (x0:aj):nT x0=if (decide (len x0.fStatements>80))=true then some (false) else (bX x0.fStatements).bind fun ra=>if (!ra)=true then some (false) else eN x0.fStatements (len x0.fStatements) 0 x0.fStatements:=
  (ab CC _ _ _ _).trans (by kernel_rfl)
theorem GA (x0:aj):AQ x0=(nW x0).bind fun ra=>(tp (b9.mk ra.1.1 ra.1.2.1 ra.1.2.2.1)).bind fun rb=>some (aQ.mk x0 (b9.mk ra.1.1 ra.1.2.1 ra.1.2.2.1) rb.1.1):=
  (ab CC _ _ _ _).trans (by kernel_rfl)
theorem pC (x0:aQ) (x1:aq):gM x0 x1=if (x1.fStatus==3)=true then (cY x1.fCode 1 11).bind fun ra=>(cY x1.fStatus 1 3).bind fun rb=>if (!rb)=true then bA else if (!ra)=true then bA else (cY x1.fFuel 0 4000).bind fun rc=>if (!rc)=true then bA else (cY x1.fSteps 0 x1.fFuel).bind fun rd=>if (!rd)=true then bA else dE x0.fP.fStatements x0.fCode.fInstrs x0.fCode.fEntries x0.fCode.fFails x0.fHeights x1.fStatus x1.fCode x1.fMemory.fHeap.fNext x1.fMemory.fHeap.fObjects x1.fMemory.fScope.fVars x1.fMemory.fScope.fFunctions x1.fMemory.fScope.fTypes x1.fMemory.fConsole.fInput x1.fMemory.fConsole.fAt x1.fMemory.fConsole.fOutput x1.fMemory.fConsole.fFiles x1.fMemory.fConsole.fTrace x1.fStack x1.fFrames x1.fPC x1.fBase x1.fAt x1.fSteps x1.fFuel else (cY x1.fStatus 1 3).bind fun ra=>if (!ra)=true then bA else if (!x1.fCode==0)=true then bA else (cY x1.fFuel 0 4000).bind fun re=>if (!re)=true then bA else (cY x1.fSteps 0 x1.fFuel).bind fun rf=>if (!rf)=true then bA else dE x0.fP.fStatements x0.fCode.fInstrs x0.fCode.fEntries x0.fCode.fFails x0.fHeights x1.fStatus x1.fCode x1.fMemory.fHeap.fNext x1.fMemory.fHeap.fObjects x1.fMemory.fScope.fVars x1.fMemory.fScope.fFunctions x1.fMemory.fScope.fTypes x1.fMemory.fConsole.fInput x1.fMemory.fConsole.fAt x1.fMemory.fConsole.fOutput x1.fMemory.fConsole.fFiles x1.fMemory.fConsole.fTrace x1.fStack x1.fFrames x1.fPC x1.fBase x1.fAt x1.fSteps x1.fFuel:=
  (ab CC _ _ _ _).trans (by kernel_rfl)
theorem xq (x0 x1:List aa):nU x0 x1=if (len x0 !=len x1)=true then some (false) else gn x0 x1 0:=
  (ab CC _ _ _ _).trans (by kernel_rfl)
theorem ER (x0 x1:ay):wZ x0 x1=(EC x0.fHeap x1.fHeap).bind fun ra=>if (!ra)=true then some (false) else (AT x0.fScope x1.fScope).bind fun rb=>if (!rb)=true then some (false) else (tY x0.fConsole x1.fConsole).bind fun rc=>if (!rc)=true then some (false) else some (true):=
  (ab CC _ _ _ _).trans (by kernel_rfl)
theorem ES (x0 x1:List ap):oA x0 x1=if (len x0 !=len x1)=true then some (false) else lA x0 x1 0:=
  (ab CC _ _ _ _).trans (by kernel_rfl)
theorem xr (x0 x1:List ae):nV x0 x1=if (len x0 !=len x1)=true then some (false) else gq x0 x1 0:=
  (ab CC _ _ _ _).trans (by kernel_rfl)
theorem sO (x0:List aa) (x1 x2:Int):gj x0 x1 x2=if (decide (x2<len x0))=true then (idx x0 x2).bind fun ra=>(iS (aa.mk ra.fLabel ra.fHasSubject ra.fSubject.re ra.fHasPattern ra.fPattern.re ra.fHasReplace ra.fReplace.re ra.fGoto) x1).bind fun rb=>if (decide (rb<0))=true then some (-1) else gj x0 rb (w64 (x2+1)) else some x1:=
  (ab CC _ _ _ _).trans (by kernel_rfl)
theorem IA (x0:aJ) (x1:Int):EA x0 x1=(tZ x0.fObjects x1).bind fun ra=>if (decide (ra<0))=true then some (-1) else some ra:=
  (ab CC _ _ _ _).trans (by kernel_rfl)
theorem GB (x0:aB) (x1:Int):AR x0 x1=(m7 x0.fVars x1).bind fun ra=>if (decide (ra<0))=true then some (-1) else (pd x0.fFunctions ra).bind fun rb=>if (decide (rb<0))=true then some (-1) else (l4 x0.fTypes rb).bind fun rc=>if (decide (rc<0))=true then some (-1) else some rc:=
  (ab CC _ _ _ _).trans (by kernel_rfl)
theorem CK (x0:au) (x1:Int):tW x0 x1=(eZ x0.fInput x1).bind fun ra=>if (decide (ra<0))=true then some (-1) else (eZ x0.fOutput ra).bind fun rb=>if (decide (rb<0))=true then some (-1) else (AU x0.fFiles rb).bind fun rc=>if (decide (rc<0))=true then some (-1) else (eZ x0.fTrace rc).bind fun rd=>if (decide (rd<0))=true then some (-1) else some rd:=
  (ab CC _ _ _ _).trans (by kernel_rfl)
theorem zf (x0:List ap) (x1 x2:Int):ly x0 x1 x2=if (decide (x2<len x0))=true then (idx x0 x2).bind fun ra=>(l5 ra x1).bind fun rb=>if (decide (rb<0))=true then some (-1) else ly x0 rb (w64 (x2+1)) else some x1:=
  (ab CC _ _ _ _).trans (by kernel_rfl)
theorem sP (x0:List ae) (x1 x2:Int):gk x0 x1 x2=if (decide (x2<len x0))=true then (idx x0 x2).bind fun ra=>(iT ra x1).bind fun rb=>if (decide (rb<0))=true then some (-1) else gk x0 rb (w64 (x2+1)) else some x1:=
  (ab CC _ _ _ _).trans (by kernel_rfl)
theorem sQ (x0:List aa) (x1:Int) (x2:List aa):gl x0 x1 x2=if (decide (x1<len x0))=true then (idx x0 x1).bind fun ra=>(iU (aa.mk ra.fLabel ra.fHasSubject ra.fSubject.re ra.fHasPattern ra.fPattern.re ra.fHasReplace ra.fReplace.re ra.fGoto)).bind fun rb=>(idx x2 x1).bind fun rc=>((x2[Int.toNat x1]?):Option aa).bind fun rd=>gl x0 (w64 (x1+1)) (upd x2 (Int.toNat x1) (aa.mk rb.fLabel rb.fHasSubject rb.fSubject.re rb.fHasPattern rb.fPattern.re rb.fHasReplace rb.fReplace.re rb.fGoto)) else some x2:=
  (ab CC _ _ _ _).trans (by kernel_rfl)
theorem IB (x0:aJ):EB x0=(t6 x0.fObjects).bind fun ra=>some (aJ.mk x0.fNext ra):=
  (ab CC _ _ _ _).trans (by kernel_rfl)
theorem GC (x0:aB):AS x0=(m8 x0.fVars).bind fun ra=>(pf x0.fFunctions).bind fun rb=>(l8 x0.fTypes).bind fun rc=>some (aB.mk ra rb rc):=
  (ab CC _ _ _ _).trans (by kernel_rfl)
theorem CL (x0:au):tX x0=(e8 x0.fInput).bind fun ra=>(e8 x0.fOutput).bind fun rb=>(AV x0.fFiles).bind fun rc=>(e8 x0.fTrace).bind fun rd=>some (au.mk ra x0.fAt rb rc rd):=
  (ab CC _ _ _ _).trans (by kernel_rfl)
theorem zg (x0:List ap) (x1:Int) (x2:List ap):lz x0 x1 x2=if (decide (x1<len x0))=true then (idx x0 x1).bind fun ra=>(l9 ra).bind fun rb=>(idx x2 x1).bind fun rc=>((x2[Int.toNat x1]?):Option ap).bind fun rd=>lz x0 (w64 (x1+1)) (upd x2 (Int.toNat x1) rb) else some x2:=
  (ab CC _ _ _ _).trans (by kernel_rfl)
theorem sR (x0:List ae) (x1:Int) (x2:List ae):gm x0 x1 x2=if (decide (x1<len x0))=true then (idx x0 x1).bind fun ra=>(iV ra).bind fun rb=>(idx x2 x1).bind fun rc=>((x2[Int.toNat x1]?):Option ae).bind fun rd=>gm x0 (w64 (x1+1)) (upd x2 (Int.toNat x1) rb) else some x2:=
  (ab CC _ _ _ _).trans (by kernel_rfl)
theorem ln (x0:Int) (x1:List aa):eM x0 x1=if (decide (x0<len x1))=true then (idx x1 x0).bind fun ra=>(kV (aa.mk ra.fLabel ra.fHasSubject ra.fSubject.re ra.fHasPattern ra.fPattern.re ra.fHasReplace ra.fReplace.re ra.fGoto)).bind fun rb=>if (!rb)=true then gu else (pg ra.fLabel).bind fun rc=>if rc=true then gu else if (!ra.fLabel==[])=true then (r5 (aj.mk x1) ra.fLabel).bind fun rd=>if (rd !=x0)=true then gu else jK x0 x1 else jK x0 x1 else (AW (aj.mk x1)).bind fun re=>some (decide (len re<=4000)):=
  (ab CC _ _ _ _).trans (by kernel_rfl)
theorem qV (x0:Int) (x1:List aa) (x2:List av) (x3 x4:List Int) (x5:List av) (x6 x7:List Int):m6 x0 x1 x2 x3 x4 x5 x6 x7=if (decide (x0<len x1))=true then (app x6 [len x5]).bind fun ra=>(nX (aj.mk x1) x0).bind fun rb=>(app x5 rb.1.1).bind fun rc=>(app x7 [w64 (len rc-1)]).bind fun rd=>m6 (w64 (x0+1)) x1 x2 x3 x4 rc ra rd else some (((x5),(x6),(x7),()),()):=
  (ab CC _ _ _ _).trans (by kernel_rfl)
theorem KT (x0 x1 x2:Int):dX x0 x1 x2=if (decide (x0>=x1))=true then some (decide (x0<=x2)) else some (false):=
  (ab CC _ _ _ _).trans (by kernel_rfl)
theorem zh : iR=some (false):=
  (ab CC _ _ _ _).trans (by kernel_rfl)
theorem zi (x0:List av) (x1 x2:List Int) (x3 x4 x5:Int) (x6:List am) (x7:List ak) (x8:List ah) (x9:List ac) (x10:(List (List UInt8))) (x11:Int) (x12:(List (List UInt8))) (x13:List aE) (x14:(List (List UInt8))) (x15:List ap) (x16:List ae) (x17 x18 x19 x20 x21:Int):vo x0 x1 x2 x3 x4 x5 x6 x7 x8 x9 x10 x11 x12 x13 x14 x15 x16 x17 x18 x19 x20 x21=(dX x4 1 11).bind fun ra=>if (!(x3==3)==ra)=true then ph else if (x3 !=3)=true then if (x4 !=0)=true then ph else pi x0 x1 x2 x3 x4 x5 x6 x7 x8 x9 x10 x11 x12 x13 x14 x15 x16 x17 x18 x19 x20 x21 else pi x0 x1 x2 x3 x4 x5 x6 x7 x8 x9 x10 x11 x12 x13 x14 x15 x16 x17 x18 x19 x20 x21:=
  (ab CC _ _ _ _).trans (by kernel_rfl)
theorem eW (x0:List aa):bX x0=bp x0 (len x0) 0:=
  (ab CC _ _ _ _).trans (by kernel_rfl)
theorem lp (x0:List aa) (x1 x2:Int) (x3:List aa):eN x0 x1 x2 x3=if (decide (x2<x1))=true then (idx x0 x2).bind fun ra=>if (!ra.fLabel==[])=true then (qy ra.fLabel).bind fun rb=>if rb=true then jL else (eG (aj.mk x3) ra.fLabel).bind fun rc=>if (rc !=x2)=true then jL else jM x0 x1 x2 x3 else jM x0 x1 x2 x3 else (nY (aj.mk x3)).bind fun rd=>some (decide (len rd<=4000)):=
  (ab CC _ _ _ _).trans (by kernel_rfl)
theorem xt (x0:aj):nW x0=gv (len x0.fStatements) 0 x0.fStatements ([]) ([]) ([]) ([]) ([]) ([]):=
  (ab CC _ _ _ _).trans (by kernel_rfl)
theorem xu (x0:b9):tp x0=((mk (len x0.fInstrs) 0):Option (List Int)).bind fun ra=>dL x0.fFails (len x0.fFails) 0 x0.fInstrs x0.fEntries x0.fFails ra:=
  (ab CC _ _ _ _).trans (by kernel_rfl)
theorem IC (x0 x1 x2:Int):cY x0 x1 x2=if (decide (x0>=x1))=true then some (decide (x0<=x2)) else some (false):=
  (ab CC _ _ _ _).trans (by kernel_rfl)
theorem mJ : bA=some (false):=
  (ab CC _ _ _ _).trans (by kernel_rfl)
theorem mK (x0:List aa) (x1:List av) (x2 x3 x4:List Int) (x5 x6 x7:Int) (x8:List am) (x9:List ak) (x10:List ah) (x11:List ac) (x12:(List (List UInt8))) (x13:Int) (x14:(List (List UInt8))) (x15:List aE) (x16:(List (List UInt8))) (x17:List ap) (x18:List ae) (x19 x20 x21 x22 x23:Int):dE x0 x1 x2 x3 x4 x5 x6 x7 x8 x9 x10 x11 x12 x13 x14 x15 x16 x17 x18 x19 x20 x21 x22 x23=(pj (ay.mk (aJ.mk x7 x8) (aB.mk x9 x10 x11) (au.mk x12 x13 x14 x15 x16))).bind fun ra=>if (!ra)=true then dF else (b0 x17 x7 x8).bind fun rb=>if (!rb)=true then dF else if (decide (len x18>12))=true then dF else iW x0 x1 x2 x3 x4 x5 x6 x7 x8 x9 x10 x11 x12 x13 x14 x15 x16 x17 x18 x19 x20 x21 x22 x23:=
  (ab CC _ _ _ _).trans (by kernel_rfl)
theorem sS (x0 x1:List aa) (x2:Int):gn x0 x1 x2=if (decide (x2<len x0))=true then (idx x0 x2).bind fun ra=>(idx x1 x2).bind fun rb=>(iX (aa.mk ra.fLabel ra.fHasSubject ra.fSubject.re ra.fHasPattern ra.fPattern.re ra.fHasReplace ra.fReplace.re ra.fGoto) (aa.mk rb.fLabel rb.fHasSubject rb.fSubject.re rb.fHasPattern rb.fPattern.re rb.fHasReplace rb.fReplace.re rb.fGoto)).bind fun rc=>if (!rc)=true then some (false) else gn x0 x1 (w64 (x2+1)) else some (true):=
  (ab CC _ _ _ _).trans (by kernel_rfl)
theorem ID (x0 x1:aJ):EC x0 x1=if (x0.fNext !=x1.fNext)=true then some (false) else (t7 x0.fObjects x1.fObjects).bind fun ra=>if (!ra)=true then some (false) else some (true):=
  (ab CC _ _ _ _).trans (by kernel_rfl)
theorem GD (x0 x1:aB):AT x0 x1=(m9 x0.fVars x1.fVars).bind fun ra=>if (!ra)=true then some (false) else (pk x0.fFunctions x1.fFunctions).bind fun rb=>if (!rb)=true then some (false) else (ma x0.fTypes x1.fTypes).bind fun rc=>if (!rc)=true then some (false) else some (true):=
  (ab CC _ _ _ _).trans (by kernel_rfl)
theorem CM (x0 x1:au):tY x0 x1=(e9 x0.fInput x1.fInput).bind fun ra=>if (!ra)=true then some (false) else if (x0.fAt !=x1.fAt)=true then some (false) else (e9 x0.fOutput x1.fOutput).bind fun rb=>if (!rb)=true then some (false) else (AX x0.fFiles x1.fFiles).bind fun rc=>if (!rc)=true then some (false) else (e9 x0.fTrace x1.fTrace).bind fun rd=>if (!rd)=true then some (false) else some (true):=
  (ab CC _ _ _ _).trans (by kernel_rfl)
theorem zj (x0 x1:List ap) (x2:Int):lA x0 x1 x2=if (decide (x2<len x0))=true then (idx x0 x2).bind fun ra=>(idx x1 x2).bind fun rb=>(mb ra rb).bind fun rc=>if (!rc)=true then some (false) else lA x0 x1 (w64 (x2+1)) else some (true):=
  (ab CC _ _ _ _).trans (by kernel_rfl)
theorem sT (x0 x1:List ae) (x2:Int):gq x0 x1 x2=if (decide (x2<len x0))=true then (idx x0 x2).bind fun ra=>(idx x1 x2).bind fun rb=>(iY ra rb).bind fun rc=>if (!rc)=true then some (false) else gq x0 x1 (w64 (x2+1)) else some (true):=
  (ab CC _ _ _ _).trans (by kernel_rfl)
theorem zk (x0:aa) (x1:Int):iS x0 x1=if (decide (w64 (x1-len x0.fLabel)<0))=true then some (-1) else (nc x0.fSubject.re (w64 (x1-len x0.fLabel))).bind fun ra=>if (decide (ra<0))=true then some (-1) else (nc x0.fPattern.re ra).bind fun rb=>if (decide (rb<0))=true then some (-1) else (nc x0.fReplace.re rb).bind fun rc=>if (decide (rc<0))=true then some (-1) else (ED x0.fGoto rc).bind fun rd=>if (decide (rd<0))=true then some (-1) else some rd:=
  (ab CC _ _ _ _).trans (by kernel_rfl)
theorem CN (x0:List am) (x1:Int):tZ x0 x1=if (decide (w64 (x1-len x0)<0))=true then some (-1) else jX x0 (w64 (x1-len x0)) 0:=
  (ab CC _ _ _ _).trans (by kernel_rfl)
theorem Be (x0:List ak) (x1:Int):m7 x0 x1=if (decide (w64 (x1-len x0)<0))=true then some (-1) else iZ x0 (w64 (x1-len x0)) 0:=
  (ab CC _ _ _ _).trans (by kernel_rfl)
theorem zl (x0:List ah) (x1:Int):pd x0 x1=if (decide (w64 (x1-len x0)<0))=true then some (-1) else ij x0 (w64 (x1-len x0)) 0:=
  (ab CC _ _ _ _).trans (by kernel_rfl)
theorem vI (x0:List ac) (x1:Int):l4 x0 x1=if (decide (w64 (x1-len x0)<0))=true then some (-1) else fH x0 (w64 (x1-len x0)) 0:=
  (ab CC _ _ _ _).trans (by kernel_rfl)
theorem CO (x0:(List (List UInt8))) (x1:Int):eZ x0 x1=if (decide (w64 (x1-len x0)<0))=true then some (-1) else jY x0 (w64 (x1-len x0)) 0:=
  (ab CC _ _ _ _).trans (by kernel_rfl)
theorem GE (x0:List aE) (x1:Int):AU x0 x1=if (decide (w64 (x1-len x0)<0))=true then some (-1) else nd x0 (w64 (x1-len x0)) 0:=
  (ab CC _ _ _ _).trans (by kernel_rfl)
theorem GF (x0:ap) (x1:Int):l5 x0 x1=if (decide (w64 (x1-len x0.fText)<0))=true then some (-1) else some (w64 (x1-len x0.fText)):=
  (ab CC _ _ _ _).trans (by kernel_rfl)
theorem zm (x0:ae) (x1:Int):iT x0 x1=if (decide (w64 (x1-len x0.fName)<0))=true then some (-1) else (m7 x0.fSaved (w64 (x1-len x0.fName))).bind fun ra=>if (decide (ra<0))=true then some (-1) else some ra:=
  (ab CC _ _ _ _).trans (by kernel_rfl)
theorem zn (x0:aa):iU x0=(nf x0.fSubject.re).bind fun ra=>(nf x0.fPattern.re).bind fun rb=>(nf x0.fReplace.re).bind fun rc=>(EE x0.fGoto).bind fun rd=>some (aa.mk x0.fLabel x0.fHasSubject ra.re x0.fHasPattern rb.re x0.fHasReplace rc.re rd):=
  (ab CC _ _ _ _).trans (by kernel_rfl)
theorem CP (x0:List am):t6 x0=((mk (len x0) (am.mk (Int.ofNat 0) (Int.ofNat 0) [] (Int.ofNat 0) [] [] (ap.mk (Int.ofNat 0) (Int.ofNat 0) [] (Int.ofNat 0)))):Option (List am)).bind fun ra=>jZ x0 0 ra:=
  (ab CC _ _ _ _).trans (by kernel_rfl)
theorem Bg (x0:List ak):m8 x0=((mk (len x0) (ak.mk [] (ap.mk (Int.ofNat 0) (Int.ofNat 0) [] (Int.ofNat 0)))):Option (List ak)).bind fun ra=>i7 x0 0 ra:=
  (ab CC _ _ _ _).trans (by kernel_rfl)
theorem zo (x0:List ah):pf x0=((mk (len x0) (ah.mk [] [] [] [])):Option (List ah)).bind fun ra=>ik x0 0 ra:=
  (ab CC _ _ _ _).trans (by kernel_rfl)
theorem vJ (x0:List ac):l8 x0=((mk (len x0) (ac.mk [] [])):Option (List ac)).bind fun ra=>fI x0 0 ra:=
  (ab CC _ _ _ _).trans (by kernel_rfl)
theorem CQ (x0:(List (List UInt8))):e8 x0=((mk (len x0) ([])):Option (List (List UInt8))).bind fun ra=>kc x0 0 ra:=
  (ab CC _ _ _ _).trans (by kernel_rfl)
theorem GH (x0:List aE):AV x0=((mk (len x0) (aE.mk [] [] (Int.ofNat 0) (Int.ofNat 0))):Option (List aE)).bind fun ra=>ng x0 0 ra:=
  (ab CC _ _ _ _).trans (by kernel_rfl)
theorem GI (x0:ap):l9 x0=some x0:=
  (ab CC _ _ _ _).trans (by kernel_rfl)
theorem zp (x0:ae):iV x0=(m8 x0.fSaved).bind fun ra=>some (ae.mk x0.fName ra x0.fPC x0.fBase x0.fAt):=
  (ab CC _ _ _ _).trans (by kernel_rfl)
theorem ui (x0:aa):kV x0=(AY (aa.mk x0.fLabel x0.fHasSubject x0.fSubject.re x0.fHasPattern x0.fPattern.re x0.fHasReplace x0.fReplace.re x0.fGoto)).bind fun ra=>if (!ra)=true then some (false) else (r6 (aa.mk x0.fLabel x0.fHasSubject x0.fSubject.re x0.fHasPattern x0.fPattern.re x0.fHasReplace x0.fReplace.re x0.fGoto)).bind fun rb=>if (decide (len rb>4000))=true then some (false) else (cut rb (len x0.fLabel) (Option.getD Option.none (len rb))).bind fun rc=>(qz rc).bind fun rd=>some (rd.2.2==0):=
  (ab CC _ _ _ _).trans (by kernel_rfl)
theorem sU : gu=some (false):=
  (ab CC _ _ _ _).trans (by kernel_rfl)
theorem zq (x0:List UInt8):pg x0=if (x0==[82,69,84,85,82,78])=true then some (true) else some (x0==[70,82,69,84,85,82,78]):=
  (ab CC _ _ _ _).trans (by kernel_rfl)
theorem ET (x0:aj) (x1:List UInt8):r5 x0 x1=fa x1 0 x0.fStatements:=
  (ab CC _ _ _ _).trans (by kernel_rfl)
theorem sV (x0:Int) (x1:List aa):jK x0 x1=eM (w64 (x0+1)) x1:=
  (ab CC _ _ _ _).trans (by kernel_rfl)
theorem GJ (x0:aj):AW x0=kA [] 0 x0.fStatements:=
  (ab CC _ _ _ _).trans (by kernel_rfl)
theorem xv (x0:aj) (x1:Int):nX x0 x1=(idx x0.fStatements x1).bind fun ra=>(AZ ra.fLabel ra.fHasSubject ra.fSubject.fKind ra.fSubject.fNum ra.fSubject.fText ra.fSubject.fKids ra.fHasPattern ra.fPattern.fKind ra.fPattern.fNum ra.fPattern.fText ra.fPattern.fKids ra.fHasReplace ra.fReplace.fKind ra.fReplace.fNum ra.fReplace.fText ra.fReplace.fKids ra.fGoto.fAlways ra.fGoto.fSuccess ra.fGoto.fFailure).bind fun rb=>((app [av.mk (Int.ofNat 1) x1 []] rb.1.1):Option (List av)).bind fun rc=>(oB x0 x1 (true)).bind fun rd=>(app rc [rd]).bind fun re=>(oB x0 x1 (false)).bind fun rf=>(app re [rf]).bind fun rg=>some (((rg),()),()):=
  (ab CC _ _ _ _).trans (by kernel_rfl)
theorem zr : ph=some (false):=
  (ab CC _ _ _ _).trans (by kernel_rfl)
theorem zt (x0:List av) (x1 x2:List Int) (x3 x4 x5:Int) (x6:List am) (x7:List ak) (x8:List ah) (x9:List ac) (x10:(List (List UInt8))) (x11:Int) (x12:(List (List UInt8))) (x13:List aE) (x14:(List (List UInt8))) (x15:List ap) (x16:List ae) (x17 x18 x19 x20 x21:Int):pi x0 x1 x2 x3 x4 x5 x6 x7 x8 x9 x10 x11 x12 x13 x14 x15 x16 x17 x18 x19 x20 x21=(pm (ay.mk (aJ.mk x5 x6) (aB.mk x7 x8 x9) (au.mk x10 x11 x12 x13 x14))).bind fun ra=>if (!ra)=true then lB else (vp (aJ.mk x5 x6) x15).bind fun rb=>if (!rb)=true then lB else if (decide (len x16>12))=true then lB else vq x0 x1 x2 x3 x4 x5 x6 x7 x8 x9 x10 x11 x12 x13 x14 x15 x16 x17 x18 x19 x20 x21:=
  (ab CC _ _ _ _).trans (by kernel_rfl)
theorem eB (x0:List aa) (x1 x2:Int):bp x0 x1 x2=if (decide (x2<x1))=true then (idx x0 x2).bind fun ra=>(il (aa.mk ra.fLabel ra.fHasSubject ra.fSubject.re ra.fHasPattern ra.fPattern.re ra.fHasReplace ra.fReplace.re ra.fGoto)).bind fun rb=>if (!rb)=true then some (false) else bp x0 x1 (w64 (x2+1)) else some (true):=
  (ab CC _ _ _ _).trans (by kernel_rfl)
theorem Bh (x0:List UInt8):qy x0=if (x0==[82,69,84,85,82,78])=true then some (true) else some (x0==[70,82,69,84,85,82,78]):=
  (ab CC _ _ _ _).trans (by kernel_rfl)
theorem sW : jL=some (false):=
  (ab CC _ _ _ _).trans (by kernel_rfl)
theorem pD (x0:aj) (x1:List UInt8):eG x0 x1=(bF x0.fStatements x1).bind fun ra=>some ra:=
  (ab CC _ _ _ _).trans (by kernel_rfl)
theorem sX (x0:List aa) (x1 x2:Int) (x3:List aa):jM x0 x1 x2 x3=eN x0 x1 (w64 (x2+1)) x3:=
  (ab CC _ _ _ _).trans (by kernel_rfl)
theorem xw (x0:aj):nY x0=gw x0.fStatements (len x0.fStatements) 0 ([]):=
  (ab CC _ _ _ _).trans (by kernel_rfl)
theorem lq (x0 x1:Int) (x2:List aa) (x3:List av) (x4 x5:List Int) (x6:List av) (x7 x8:List Int):gv x0 x1 x2 x3 x4 x5 x6 x7 x8=if (decide (x1<x0))=true then (app x7 [len x6]).bind fun ra=>(fb (aj.mk x2) x1).bind fun rb=>(app x6 rb.1.1).bind fun rc=>(app x8 [w64 (len rc-1)]).bind fun rd=>gv x0 (w64 (x1+1)) x2 x3 x4 x5 rc ra rd else some (((x6),(x7),(x8),()),()):=
  (ab CC _ _ _ _).trans (by kernel_rfl)
theorem lr (x0:List Int) (x1 x2:Int) (x3:List av) (x4 x5 x6:List Int):dL x0 x1 x2 x3 x4 x5 x6=if (decide (x2<x1))=true then (idx x0 x2).bind fun ra=>(idx x4 x2).bind fun rb=>gy ra (w64 (rb+1)) x0 x1 x2 x3 x4 x5 x6 else some (((x6),()),()):=
  (ab CC _ _ _ _).trans (by kernel_rfl)
theorem zu (x0:ay):pj x0=(t8 x0.fHeap).bind fun ra=>if ra=true then (qA x0.fScope).bind fun rb=>if rb=true then (nZ x0.fConsole).bind fun rc=>if rc=true then (kW x0.fScope).bind fun rd=>(b0 rd.1.1 x0.fHeap.fNext x0.fHeap.fObjects).bind fun re=>some re else some (false) else some (false) else some (false):=
  (ab CC _ _ _ _).trans (by kernel_rfl)
theorem mL : dF=some (false):=
  (ab CC _ _ _ _).trans (by kernel_rfl)
theorem jT (x0:List ap) (x1:Int) (x2:List am):b0 x0 x1 x2=bP x1 x2 x0 (len x0) 0:=
  (ab CC _ _ _ _).trans (by kernel_rfl)
theorem mM (x0:List aa) (x1:List av) (x2 x3 x4:List Int) (x5 x6 x7:Int) (x8:List am) (x9:List ak) (x10:List ah) (x11:List ac) (x12:(List (List UInt8))) (x13:Int) (x14:(List (List UInt8))) (x15:List aE) (x16:(List (List UInt8))) (x17:List ap) (x18:List ae) (x19 x20 x21 x22 x23:Int):iW x0 x1 x2 x3 x4 x5 x6 x7 x8 x9 x10 x11 x12 x13 x14 x15 x16 x17 x18 x19 x20 x21 x22 x23=(bJ x18 x0 x1 x2 x3 x4 x5 x6 x7 x8 x9 x10 x11 x12 x13 x14 x15 x16 x17 x18 x19 x20 x21 x22 x23).bind fun ra=>if ra=true then (fc (aQ.mk (aj.mk x0) (b9.mk x1 x2 x3) x4) (aq.mk x5 x6 (ay.mk (aJ.mk x7 x8) (aB.mk x9 x10 x11) (au.mk x12 x13 x14 x15 x16)) x17 x18 x19 x20 x21 x22 x23)).bind fun rb=>if rb=true then (dG (aQ.mk (aj.mk x0) (b9.mk x1 x2 x3) x4) (aq.mk x5 x6 (ay.mk (aJ.mk x7 x8) (aB.mk x9 x10 x11) (au.mk x12 x13 x14 x15 x16)) x17 x18 x19 x20 x21 x22 x23)).bind fun rc=>some rc else some (false) else some (false):=
  (ab CC _ _ _ _).trans (by kernel_rfl)
theorem zw (x0 x1:aa):iX x0 x1=if (!x0.fLabel==x1.fLabel)=true then some (false) else if (!x0.fHasSubject==x1.fHasSubject)=true then some (false) else (nh x0.fSubject.re x1.fSubject.re).bind fun ra=>if (!ra)=true then some (false) else if (!x0.fHasPattern==x1.fHasPattern)=true then some (false) else (nh x0.fPattern.re x1.fPattern.re).bind fun rb=>if (!rb)=true then some (false) else if (!x0.fHasReplace==x1.fHasReplace)=true then some (false) else (nh x0.fReplace.re x1.fReplace.re).bind fun rc=>if (!rc)=true then some (false) else (EF x0.fGoto x1.fGoto).bind fun rd=>if (!rd)=true then some (false) else some (true):=
  (ab CC _ _ _ _).trans (by kernel_rfl)
theorem CR (x0 x1:List am):t7 x0 x1=if (len x0 !=len x1)=true then some (false) else ke x0 x1 0:=
  (ab CC _ _ _ _).trans (by kernel_rfl)
theorem Bi (x0 x1:List ak):m9 x0 x1=if (len x0 !=len x1)=true then some (false) else i8 x0 x1 0:=
  (ab CC _ _ _ _).trans (by kernel_rfl)
theorem zx (x0 x1:List ah):pk x0 x1=if (len x0 !=len x1)=true then some (false) else io x0 x1 0:=
  (ab CC _ _ _ _).trans (by kernel_rfl)
theorem vK (x0 x1:List ac):ma x0 x1=if (len x0 !=len x1)=true then some (false) else fJ x0 x1 0:=
  (ab CC _ _ _ _).trans (by kernel_rfl)
theorem CS (x0:(List (List UInt8))) (x1:(List (List UInt8))):e9 x0 x1=if (len x0 !=len x1)=true then some (false) else kf x0 x1 0:=
  (ab CC _ _ _ _).trans (by kernel_rfl)
theorem GK (x0 x1:List aE):AX x0 x1=if (len x0 !=len x1)=true then some (false) else ni x0 x1 0:=
  (ab CC _ _ _ _).trans (by kernel_rfl)
theorem GL (x0 x1:ap):mb x0 x1=if (x0.fKind !=x1.fKind)=true then some (false) else if (x0.fNum !=x1.fNum)=true then some (false) else if (!x0.fText==x1.fText)=true then some (false) else if (x0.fRef !=x1.fRef)=true then some (false) else some (true):=
  (ab CC _ _ _ _).trans (by kernel_rfl)
theorem zy (x0 x1:ae):iY x0 x1=if (!x0.fName==x1.fName)=true then some (false) else (m9 x0.fSaved x1.fSaved).bind fun ra=>if (!ra)=true then some (false) else if (x0.fPC !=x1.fPC)=true then some (false) else if (x0.fBase !=x1.fBase)=true then some (false) else if (x0.fAt !=x1.fAt)=true then some (false) else some (true):=
  (ab CC _ _ _ _).trans (by kernel_rfl)
theorem IE (x0:ai) (x1:Int):nc x0 x1=if (decide (w64 (x1-len x0.fText)<0))=true then some (-1) else (A0 x0.fKids (w64 (x1-len x0.fText))).bind fun ra=>if (decide (ra<0))=true then some (-1) else some ra:=
  (ab CC _ _ _ _).trans (by kernel_rfl)
theorem IF (x0:aK) (x1:Int):ED x0 x1=if (decide (w64 (x1-len x0.fAlways)<0))=true then some (-1) else if (decide (w64 (w64 (x1-len x0.fAlways)-len x0.fSuccess)<0))=true then some (-1) else if (decide (w64 (w64 (w64 (x1-len x0.fAlways)-len x0.fSuccess)-len x0.fFailure)<0))=true then some (-1) else some (w64 (w64 (w64 (x1-len x0.fAlways)-len x0.fSuccess)-len x0.fFailure)):=
  (ab CC _ _ _ _).trans (by kernel_rfl)
theorem xx (x0:List am) (x1 x2:Int):jX x0 x1 x2=if (decide (x2<len x0))=true then (idx x0 x2).bind fun ra=>(oC ra x1).bind fun rb=>if (decide (rb<0))=true then some (-1) else jX x0 rb (w64 (x2+1)) else some x1:=
  (ab CC _ _ _ _).trans (by kernel_rfl)
theorem vL (x0:List ak) (x1 x2:Int):iZ x0 x1 x2=if (decide (x2<len x0))=true then (idx x0 x2).bind fun ra=>(mc ra x1).bind fun rb=>if (decide (rb<0))=true then some (-1) else iZ x0 rb (w64 (x2+1)) else some x1:=
  (ab CC _ _ _ _).trans (by kernel_rfl)
theorem uj (x0:List ah) (x1 x2:Int):ij x0 x1 x2=if (decide (x2<len x0))=true then (idx x0 x2).bind fun ra=>(kB ra x1).bind fun rb=>if (decide (rb<0))=true then some (-1) else ij x0 rb (w64 (x2+1)) else some x1:=
  (ab CC _ _ _ _).trans (by kernel_rfl)
theorem qW (x0:List ac) (x1 x2:Int):fH x0 x1 x2=if (decide (x2<len x0))=true then (idx x0 x2).bind fun ra=>(gY ra x1).bind fun rb=>if (decide (rb<0))=true then some (-1) else fH x0 rb (w64 (x2+1)) else some x1:=
  (ab CC _ _ _ _).trans (by kernel_rfl)
theorem xy (x0:(List (List UInt8))) (x1 x2:Int):jY x0 x1 x2=if (decide (x2<len x0))=true then (idx x0 x2).bind fun ra=>if (decide (w64 (x1-len ra)<0))=true then some (-1) else jY x0 (w64 (x1-len ra)) (w64 (x2+1)) else some x1:=
  (ab CC _ _ _ _).trans (by kernel_rfl)
theorem Bj (x0:List aE) (x1 x2:Int):nd x0 x1 x2=if (decide (x2<len x0))=true then (idx x0 x2).bind fun ra=>(vt ra x1).bind fun rb=>if (decide (rb<0))=true then some (-1) else nd x0 rb (w64 (x2+1)) else some x1:=
  (ab CC _ _ _ _).trans (by kernel_rfl)
theorem IG (x0:ai):nf x0=(A1 x0.fKids).bind fun ra=>some (ai.mk x0.fKind x0.fNum x0.fText ra):=
  (ab CC _ _ _ _).trans (by kernel_rfl)
theorem IH (x0:aK):EE x0=some x0:=
  (ab CC _ _ _ _).trans (by kernel_rfl)
end Go.Dv.U
