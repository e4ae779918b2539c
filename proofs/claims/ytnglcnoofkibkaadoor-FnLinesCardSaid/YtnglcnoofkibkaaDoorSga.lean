/- The types of this program and the places where its loops are cut. -/
import Derived.Test.YtnglcnoofkibkaaDoorDvc
import Derived.Test.YtnglcnoofkibkaaDoorChecked
set_option linter.all false
set_option linter.unusedVariables false
set_option linter.unusedSimpArgs false
namespace Go.Dv.U

open Go Go.Dv Go.Proofs

set_option maxRecDepth 100000

structure TRuntime_boundsError where
  fX : Int
  fY : Int
  fSigned : Bool
  fCode : Int

structure TRuntime_errorAddressString where
  fMsg : (List UInt8)
  fAddr : Int

structure TLine where
  fNumber : Int
  fText : (List UInt8)

structure TSpec_l00Src where
  fCode : (List Int)
  fAt : Int
  fSeed : Int

structure TUtf8_acceptRange where
  fLo : Int
  fHi : Int

def SS : Nat → Type
  | 7 => TRuntime_boundsError
  | 13 => TRuntime_errorAddressString
  | 28 => TLine
  | 48 => TSpec_l00Src
  | 87 => TUtf8_acceptRange
  | _ => Empty

def TRuntime_boundsError.ts : List Ty := [(.int .i64), (.int .i64), .bool, (.int .u8)]

def TRuntime_boundsError.to (x : TRuntime_boundsError) : lDen SS TRuntime_boundsError.ts := (x.fX, x.fY, x.fSigned, x.fCode, ())

def TRuntime_boundsError.of (p : lDen SS TRuntime_boundsError.ts) : TRuntime_boundsError := (⟨p.1, p.2.1, p.2.2.1, p.2.2.2.1⟩ : TRuntime_boundsError)

def TRuntime_errorAddressString.ts : List Ty := [.str, (.int .u64)]

def TRuntime_errorAddressString.to (x : TRuntime_errorAddressString) : lDen SS TRuntime_errorAddressString.ts := (x.fMsg, x.fAddr, ())

def TRuntime_errorAddressString.of (p : lDen SS TRuntime_errorAddressString.ts) : TRuntime_errorAddressString := (⟨p.1, p.2.1⟩ : TRuntime_errorAddressString)

def TLine.ts : List Ty := [(.int .i64), .str]

def TLine.to (x : TLine) : lDen SS TLine.ts := (x.fNumber, x.fText, ())

def TLine.of (p : lDen SS TLine.ts) : TLine := (⟨p.1, p.2.1⟩ : TLine)

def TSpec_l00Src.ts : List Ty := [(.sl (.int .u8)), (.int .i64), (.int .u64)]

def TSpec_l00Src.to (x : TSpec_l00Src) : lDen SS TSpec_l00Src.ts := (x.fCode, x.fAt, x.fSeed, ())

def TSpec_l00Src.of (p : lDen SS TSpec_l00Src.ts) : TSpec_l00Src := (⟨p.1, p.2.1, p.2.2.1⟩ : TSpec_l00Src)

def TUtf8_acceptRange.ts : List Ty := [(.int .u8), (.int .u8)]

def TUtf8_acceptRange.to (x : TUtf8_acceptRange) : lDen SS TUtf8_acceptRange.ts := (x.fLo, x.fHi, ())

def TUtf8_acceptRange.of (p : lDen SS TUtf8_acceptRange.ts) : TUtf8_acceptRange := (⟨p.1, p.2.1⟩ : TUtf8_acceptRange)

def scells : (n : Nat) → SS n → List (V SS)
  | 7, x => cellsL SS TRuntime_boundsError.ts (TRuntime_boundsError.to x)
  | 13, x => cellsL SS TRuntime_errorAddressString.ts (TRuntime_errorAddressString.to x)
  | 28, x => cellsL SS TLine.ts (TLine.to x)
  | 48, x => cellsL SS TSpec_l00Src.ts (TSpec_l00Src.to x)
  | 87, x => cellsL SS TUtf8_acceptRange.ts (TUtf8_acceptRange.to x)
  | _, _ => []

def smake : (n : Nat) → List (V SS) → Option (SS n)
  | 7, c => (prjL SS TRuntime_boundsError.ts c).map TRuntime_boundsError.of
  | 13, c => (prjL SS TRuntime_errorAddressString.ts c).map TRuntime_errorAddressString.of
  | 28, c => (prjL SS TLine.ts c).map TLine.of
  | 48, c => (prjL SS TSpec_l00Src.ts c).map TSpec_l00Src.of
  | 87, c => (prjL SS TUtf8_acceptRange.ts c).map TUtf8_acceptRange.of
  | _, _ => none

def scsz : Nat → Nat
  | 7 => 4
  | 13 => 2
  | 28 => 2
  | 48 => 3
  | 87 => 2
  | _ => 0

def scty : Nat → List Ty
  | 7 => TRuntime_boundsError.ts
  | 13 => TRuntime_errorAddressString.ts
  | 28 => TLine.ts
  | 48 => TSpec_l00Src.ts
  | 87 => TUtf8_acceptRange.ts
  | n => [.st n]

def stys : TypeId → Option Ty
  | 2 => some (.int .i64)
  | 3 => some (.int .i64)
  | 4 => some .bool
  | 5 => some (.int .u8)
  | 6 => some (.int .u8)
  | 7 => some (.st 7)
  | 8 => some (.st 7)
  | 9 => some .str
  | 10 => some .str
  | 11 => some .str
  | 12 => some (.int .u64)
  | 13 => some (.st 13)
  | 14 => some (.st 13)
  | 21 => some (.int .i32)
  | 22 => some (.sl (.int .u8))
  | 25 => some (.sl (.st 28))
  | 28 => some (.st 28)
  | 29 => some (.st 28)
  | 31 => some (.ptr (.st 48))
  | 37 => some (.sl .str)
  | 47 => some (.int .u64)
  | 48 => some (.st 48)
  | 49 => some (.st 48)
  | 73 => some (.int .u64)
  | 87 => some (.st 87)
  | 88 => some (.st 87)
  | 91 => some (.int .u32)
  | 100 => some (.int .u8)
  | 101 => some (.int .u8)
  | 103 => some (.int .i32)
  | 104 => some (.int .i32)
  | _ => none

def sel : Ty → TypeId
  | (.int .u8) => 5
  | (.st 28) => 29
  | .str => 9
  | _ => 0

def sfl : Nat → Bool
  | 7 => true
  | 13 => true
  | 28 => true
  | 48 => false
  | 87 => true
  | _ => false

def GG : Sig where
  S := SS
  csz := scsz
  cells := scells
  make := smake
  tyOf := stys
  el := sel
  fl := sfl

theorem TRuntime_boundsError.ok : SOk GG 7 TRuntime_boundsError.ts TRuntime_boundsError.to TRuntime_boundsError.of := ⟨rfl, fun _ => rfl, fun _ => rfl, rfl, fun _ => rfl, rfl⟩

theorem TRuntime_errorAddressString.ok : SOk GG 13 TRuntime_errorAddressString.ts TRuntime_errorAddressString.to TRuntime_errorAddressString.of := ⟨rfl, fun _ => rfl, fun _ => rfl, rfl, fun _ => rfl, rfl⟩

theorem TLine.ok : SOk GG 28 TLine.ts TLine.to TLine.of := ⟨rfl, fun _ => rfl, fun _ => rfl, rfl, fun _ => rfl, rfl⟩

theorem TSpec_l00Src.ok : SOk GG 48 TSpec_l00Src.ts TSpec_l00Src.to TSpec_l00Src.of := ⟨rfl, fun _ => rfl, fun _ => rfl, rfl, fun _ => rfl, rfl⟩

theorem TUtf8_acceptRange.ok : SOk GG 87 TUtf8_acceptRange.ts TUtf8_acceptRange.to TUtf8_acceptRange.of := ⟨rfl, fun _ => rfl, fun _ => rfl, rfl, fun _ => rfl, rfl⟩

def TRuntime_boundsError.re (x : TRuntime_boundsError) : TRuntime_boundsError := TRuntime_boundsError.mk x.fX x.fY x.fSigned x.fCode

@[simp] theorem TRuntime_boundsError.re_eq (x : TRuntime_boundsError) : x.re = x := by cases x; rfl

theorem TRuntime_boundsError.eta (x : TRuntime_boundsError) : TRuntime_boundsError.mk x.fX x.fY x.fSigned x.fCode = x := by cases x; rfl

def TRuntime_errorAddressString.re (x : TRuntime_errorAddressString) : TRuntime_errorAddressString := TRuntime_errorAddressString.mk x.fMsg x.fAddr

@[simp] theorem TRuntime_errorAddressString.re_eq (x : TRuntime_errorAddressString) : x.re = x := by cases x; rfl

theorem TRuntime_errorAddressString.eta (x : TRuntime_errorAddressString) : TRuntime_errorAddressString.mk x.fMsg x.fAddr = x := by cases x; rfl

def TLine.re (x : TLine) : TLine := TLine.mk x.fNumber x.fText

@[simp] theorem TLine.re_eq (x : TLine) : x.re = x := by cases x; rfl

theorem TLine.eta (x : TLine) : TLine.mk x.fNumber x.fText = x := by cases x; rfl

def TSpec_l00Src.re (x : TSpec_l00Src) : TSpec_l00Src := TSpec_l00Src.mk x.fCode x.fAt x.fSeed

@[simp] theorem TSpec_l00Src.re_eq (x : TSpec_l00Src) : x.re = x := by cases x; rfl

theorem TSpec_l00Src.eta (x : TSpec_l00Src) : TSpec_l00Src.mk x.fCode x.fAt x.fSeed = x := by cases x; rfl

def TUtf8_acceptRange.re (x : TUtf8_acceptRange) : TUtf8_acceptRange := TUtf8_acceptRange.mk x.fLo x.fHi

@[simp] theorem TUtf8_acceptRange.re_eq (x : TUtf8_acceptRange) : x.re = x := by cases x; rfl

theorem TUtf8_acceptRange.eta (x : TUtf8_acceptRange) : TUtf8_acceptRange.mk x.fLo x.fHi = x := by cases x; rfl

theorem SS_empty {n : Nat} (h7 : ¬ n = 7) (h13 : ¬ n = 13) (h28 : ¬ n = 28) (h48 : ¬ n = 48) (h87 : ¬ n = 87) : SS n = Empty := by
  unfold SS
  split <;> first | rfl | (exfalso; omega)

theorem GG.law (n : Nat) : SLaw GG n := by
  by_cases h7 : n = 7
  · subst h7; exact TRuntime_boundsError.ok.law
  by_cases h13 : n = 13
  · subst h13; exact TRuntime_errorAddressString.ok.law
  by_cases h28 : n = 28
  · subst h28; exact TLine.ok.law
  by_cases h48 : n = 48
  · subst h48; exact TSpec_l00Src.ok.law
  by_cases h87 : n = 87
  · subst h87; exact TUtf8_acceptRange.ok.law
  exact .empty fun x => (cast (SS_empty h7 h13 h28 h48 h87) x).elim

theorem GG.ok : SigOk GG := sigOk_of GG.law

noncomputable def OO : Opn GG where
  P := Tryd.prog
  tab := [(2, (.int .i64)), (3, (.int .i64)), (4, .bool), (5, (.int .u8)), (6, (.int .u8)), (7, (.st 7)), (8, (.st 7)), (9, .str), (10, .str), (11, .str), (12, (.int .u64)), (13, (.st 13)), (14, (.st 13)), (21, (.int .i32)), (22, (.sl (.int .u8))), (25, (.sl (.st 28))), (28, (.st 28)), (29, (.st 28)), (37, (.sl .str)), (47, (.int .u64)), (48, (.st 48)), (49, (.st 48)), (73, (.int .u64)), (87, (.st 87)), (88, (.st 87)), (91, (.int .u32)), (100, (.int .u8)), (101, (.int .u8)), (103, (.int .i32)), (104, (.int .i32))]
  cty := scty

theorem OO.tot (n : Nat) (vs : List (V SS)) (h : Leaves GG (scty n) vs) : ∃ x, smake n vs = some x ∧ scells n x = vs := by
  by_cases h7 : n = 7
  · subst h7; exact TRuntime_boundsError.ok.tot h
  by_cases h13 : n = 13
  · subst h13; exact TRuntime_errorAddressString.ok.tot h
  by_cases h28 : n = 28
  · subst h28; exact TLine.ok.tot h
  by_cases h48 : n = 48
  · subst h48; exact TSpec_l00Src.ok.tot h
  by_cases h87 : n = 87
  · subst h87; exact TUtf8_acceptRange.ok.tot h
  exfalso
  have e : scty n = [.st n] := by
    unfold scty
    split <;> first | rfl | (exfalso; omega)
  rw [e] at h
  obtain ⟨x⟩ := leaves_st h
  exact (cast (SS_empty h7 h13 h28 h48 h87) x : Empty).elim

theorem OO.ok : OpnOk OO := ⟨by kernel_rfl, OO.tot⟩

def cut3 : Nat → Option (List (Nat × Option Ty))
  | 8 => some [(4, none)]
  | 24 => some [(4, none), (12, none), (15, none)]
  | 11 => some [(4, none), (10, none)]
  | 7 => some [(4, none), (6, none), (7, none), (9, none)]
  | _ => none

def cut6 : Nat → Option (List (Nat × Option Ty))
  | 8 => some [(7, none), (24, none), (25, none), (26, none)]
  | 11 => some [(7, none), (9, none), (24, none), (25, none), (26, none), (32, none), (33, none), (34, none)]
  | _ => none

def cut7 : Nat → Option (List (Nat × Option Ty))
  | 18 => some [(5, none), (10, none), (11, none)]
  | 22 => some [(5, none), (10, none), (11, none), (12, none), (13, none)]
  | 6 => some [(5, none), (6, none), (7, none)]
  | 7 => some [(5, none), (6, none), (7, none)]
  | _ => none

def cut8 : Nat → Option (List (Nat × Option Ty))
  | 3 => some [(3, none), (7, none), (8, none), (9, none)]
  | _ => none

def cut10 : Nat → Option (List (Nat × Option Ty))
  | 18 => some [(3, none)]
  | 3 => some [(0, none), (3, none), (4, none)]
  | 4 => some [(0, none), (3, none), (4, none)]
  | 15 => some [(3, none), (5, none)]
  | _ => none

def cut12 : Nat → Option (List (Nat × Option Ty))
  | 3 => some [(4, none), (10, none), (11, none), (12, none)]
  | 12 => some [(4, none), (10, none), (11, none), (12, none)]
  | _ => none

def cut13 : Nat → Option (List (Nat × Option Ty))
  | 3 => some [(0, none), (3, none), (4, none), (5, none), (10, none), (11, none)]
  | 14 => some [(0, none), (3, none), (4, none), (5, none), (10, none), (11, none)]
  | _ => none

def cut17 : Nat → Option (List (Nat × Option Ty))
  | 2 => some [(0, none), (3, none)]
  | _ => none

def cut20 : Nat → Option (List (Nat × Option Ty))
  | 5 => some [(0, none), (3, none), (4, none), (5, none), (6, none)]
  | 6 => some [(0, none), (3, none), (4, none), (5, none), (6, none)]
  | _ => none

def cut31 : Nat → Option (List (Nat × Option Ty))
  | 4 => some [(0, none), (1, none)]
  | 5 => some [(0, none), (1, none)]
  | _ => none

def cut32 : Nat → Option (List (Nat × Option Ty))
  | 2 => some [(0, none), (1, none), (5, none)]
  | 3 => some [(0, none), (1, none), (5, none)]
  | 5 => some []
  | _ => none

def cut33 : Nat → Option (List (Nat × Option Ty))
  | 4 => some [(0, none), (1, none), (5, none), (6, none), (7, none)]
  | _ => none

def cut37 : Nat → Option (List (Nat × Option Ty))
  | 2 => some [(1, none), (7, none), (8, none), (9, none)]
  | _ => none

def cut39 : Nat → Option (List (Nat × Option Ty))
  | 8 => some [(0, none), (1, none), (2, none), (3, none)]
  | 21 => some [(0, none), (2, none), (10, none), (11, none), (77, none), (78, none)]
  | 13 => some [(0, none), (1, none), (2, none), (10, none), (11, none), (52, none), (53, none)]
  | 7 => some [(0, none), (1, none), (2, none), (9, none)]
  | _ => none

def cut43 : Nat → Option (List (Nat × Option Ty))
  | 1 => some [(0, none), (1, none)]
  | _ => none

def cut44 : Nat → Option (List (Nat × Option Ty))
  | 1 => some [(0, none), (1, none)]
  | _ => none

def cut45 : Nat → Option (List (Nat × Option Ty))
  | 2 => some [(0, none), (2, none), (4, none)]
  | _ => none

def cut46 : Nat → Option (List (Nat × Option Ty))
  | 1 => some [(0, none), (1, none)]
  | _ => none

def cut47 : Nat → Option (List (Nat × Option Ty))
  | 1 => some [(0, none), (1, none)]
  | _ => none

def cut48 : Nat → Option (List (Nat × Option Ty))
  | 1 => some [(0, none), (1, none)]
  | _ => none

def cut49 : Nat → Option (List (Nat × Option Ty))
  | 1 => some [(0, none), (1, none)]
  | 7 => some [(0, none)]
  | _ => none

def cut51 : Nat → Option (List (Nat × Option Ty))
  | 6 => some [(0, none), (1, none), (5, none)]
  | _ => none

def cut55 : Nat → Option (List (Nat × Option Ty))
  | 11 => some [(0, none), (1, none), (2, none), (3, none), (9, none), (10, none)]
  | _ => none

def cut60 : Nat → Option (List (Nat × Option Ty))
  | 10 => some [(0, none), (4, none), (5, none), (6, none)]
  | 15 => some [(0, none), (4, none), (5, none)]
  | _ => none

def cut61 : Nat → Option (List (Nat × Option Ty))
  | 2 => some [(2, none), (4, none)]
  | _ => none

def cut64 : Nat → Option (List (Nat × Option Ty))
  | 9 => some [(0, none), (1, none)]
  | 10 => some [(0, none), (1, none), (5, none)]
  | 15 => some [(0, none), (1, none), (5, none), (6, none), (7, none), (8, none), (9, none), (10, none)]
  | 22 => some [(8, none)]
  | 23 => some [(0, none), (1, none), (5, none), (6, none), (7, none), (8, none), (9, none), (10, none)]
  | 31 => some [(0, none), (1, none), (8, none)]
  | _ => none

def cut65 : Nat → Option (List (Nat × Option Ty))
  | 20 => some []
  | 21 => some [(0, none), (5, none), (8, none), (10, none), (11, none)]
  | _ => none

def cut66 : Nat → Option (List (Nat × Option Ty))
  | 4 => some [(0, none), (1, none)]
  | 6 => some [(0, none), (1, none), (6, none), (7, none)]
  | _ => none

def cut68 : Nat → Option (List (Nat × Option Ty))
  | 38 => some [(175, none)]
  | _ => none

def cut74 : Nat → Option (List (Nat × Option Ty))
  | 11 => some [(0, none), (1, none), (5, none), (6, none), (7, none), (8, none), (10, none)]
  | 5 => some [(0, none), (1, none), (5, none), (6, none), (7, none), (8, none), (9, none)]
  | _ => none

def cut76 : Nat → Option (List (Nat × Option Ty))
  | 4 => some []
  | 5 => some []
  | _ => none

def cut78 : Nat → Option (List (Nat × Option Ty))
  | 8 => some [(4, none), (6, none), (7, none), (8, none)]
  | 3 => some [(0, none), (4, none), (5, none)]
  | _ => none

def cutT : FuncId → Nat → Option (List (Nat × Option Ty))
  | 3 => cut3
  | 6 => cut6
  | 7 => cut7
  | 8 => cut8
  | 10 => cut10
  | 12 => cut12
  | 13 => cut13
  | 17 => cut17
  | 20 => cut20
  | 31 => cut31
  | 32 => cut32
  | 33 => cut33
  | 37 => cut37
  | 39 => cut39
  | 43 => cut43
  | 44 => cut44
  | 45 => cut45
  | 46 => cut46
  | 47 => cut47
  | 48 => cut48
  | 49 => cut49
  | 51 => cut51
  | 55 => cut55
  | 60 => cut60
  | 61 => cut61
  | 64 => cut64
  | 65 => cut65
  | 66 => cut66
  | 68 => cut68
  | 74 => cut74
  | 76 => cut76
  | 78 => cut78
  | _ => fun _ => none

def extT : FuncId → Option (Sigma fun rt : List Ty => List (V GG.S) → Option (rDen GG.S rt))
  | 27 => some ⟨[.str], replAllV⟩
  | 31 => some ⟨[.str], trimV⟩
  | 40 => some ⟨[.sl .str], splitV⟩
  | 75 => some ⟨[.int .i64], indexByteV⟩
  | _ => none

def bldF : FuncId → Option (Nat × TypeId × TypeId)
  | 21 => some (1, 41, 5)
  | 22 => some (3, 41, 5)
  | _ => none

def ctorT : FuncId → Option (TypeId × (List (V GG.S) → Option (List (V GG.S))))
  | 9 => some (49, srcV)
  | _ => none

noncomputable def CC : Cfg GG where
  P := Tryd.prog
  refs := fun f => [10, 23, 24, 25, 35, 36].contains f
  ext := U.extT
  cut := cutT
  glob := fun _ => none
  gint := fun g => g == 0
  gtab := fun _ => none
  own := fun _ => none
  bld := U.bldF
  ctor := U.ctorT
  eat := fun _ => none
  trE := fun e => [].contains e
  ownR := fun f => [].contains f
  wrf := fun f => [].contains f
  grw := fun _ => none

end Go.Dv.U
