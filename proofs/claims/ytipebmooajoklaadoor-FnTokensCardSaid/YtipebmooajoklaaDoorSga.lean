/- The types of this program and the places where its loops are cut. -/
import Derived.Test.YtipebmooajoklaaDoorDvc
import Derived.Test.YtipebmooajoklaaDoorChecked
set_option linter.all false
set_option linter.unusedVariables false
set_option linter.unusedSimpArgs false
namespace Go.Dv.U

open Go Go.Dv Go.Proofs

set_option maxRecDepth 100000

structure TRuntime_boundsError where
  fX : Int
  fY : Int
  fSigned : Bool
  fCode : Int

structure TRuntime_errorAddressString where
  fMsg : (List UInt8)
  fAddr : Int

structure TToken where
  fKind : Int
  fNum : Int
  fText : (List UInt8)
  fBefore : Bool
  fAfter : Bool

structure TSpec_l00Src where
  fCode : (List Int)
  fAt : Int
  fSeed : Int

structure TErrors_errorString where
  fS : (List UInt8)

def SS : Nat → Type
  | 7 => TRuntime_boundsError
  | 13 => TRuntime_errorAddressString
  | 29 => TToken
  | 55 => TSpec_l00Src
  | 107 => TErrors_errorString
  | _ => Empty

def TRuntime_boundsError.ts : List Ty := [(.int .i64), (.int .i64), .bool, (.int .u8)]

def TRuntime_boundsError.to (x : TRuntime_boundsError) : lDen SS TRuntime_boundsError.ts := (x.fX, x.fY, x.fSigned, x.fCode, ())

def TRuntime_boundsError.of (p : lDen SS TRuntime_boundsError.ts) : TRuntime_boundsError := (⟨p.1, p.2.1, p.2.2.1, p.2.2.2.1⟩ : TRuntime_boundsError)

def TRuntime_errorAddressString.ts : List Ty := [.str, (.int .u64)]

def TRuntime_errorAddressString.to (x : TRuntime_errorAddressString) : lDen SS TRuntime_errorAddressString.ts := (x.fMsg, x.fAddr, ())

def TRuntime_errorAddressString.of (p : lDen SS TRuntime_errorAddressString.ts) : TRuntime_errorAddressString := (⟨p.1, p.2.1⟩ : TRuntime_errorAddressString)

def TToken.ts : List Ty := [(.int .i64), (.int .i64), .str, .bool, .bool]

def TToken.to (x : TToken) : lDen SS TToken.ts := (x.fKind, x.fNum, x.fText, x.fBefore, x.fAfter, ())

def TToken.of (p : lDen SS TToken.ts) : TToken := (⟨p.1, p.2.1, p.2.2.1, p.2.2.2.1, p.2.2.2.2.1⟩ : TToken)

def TSpec_l00Src.ts : List Ty := [(.sl (.int .u8)), (.int .i64), (.int .u64)]

def TSpec_l00Src.to (x : TSpec_l00Src) : lDen SS TSpec_l00Src.ts := (x.fCode, x.fAt, x.fSeed, ())

def TSpec_l00Src.of (p : lDen SS TSpec_l00Src.ts) : TSpec_l00Src := (⟨p.1, p.2.1, p.2.2.1⟩ : TSpec_l00Src)

def TErrors_errorString.ts : List Ty := [.str]

def TErrors_errorString.to (x : TErrors_errorString) : lDen SS TErrors_errorString.ts := (x.fS, ())

def TErrors_errorString.of (p : lDen SS TErrors_errorString.ts) : TErrors_errorString := (⟨p.1⟩ : TErrors_errorString)

def scells : (n : Nat) → SS n → List (V SS)
  | 7, x => cellsL SS TRuntime_boundsError.ts (TRuntime_boundsError.to x)
  | 13, x => cellsL SS TRuntime_errorAddressString.ts (TRuntime_errorAddressString.to x)
  | 29, x => cellsL SS TToken.ts (TToken.to x)
  | 55, x => cellsL SS TSpec_l00Src.ts (TSpec_l00Src.to x)
  | 107, x => cellsL SS TErrors_errorString.ts (TErrors_errorString.to x)
  | _, _ => []

def smake : (n : Nat) → List (V SS) → Option (SS n)
  | 7, c => (prjL SS TRuntime_boundsError.ts c).map TRuntime_boundsError.of
  | 13, c => (prjL SS TRuntime_errorAddressString.ts c).map TRuntime_errorAddressString.of
  | 29, c => (prjL SS TToken.ts c).map TToken.of
  | 55, c => (prjL SS TSpec_l00Src.ts c).map TSpec_l00Src.of
  | 107, c => (prjL SS TErrors_errorString.ts c).map TErrors_errorString.of
  | _, _ => none

def scsz : Nat → Nat
  | 7 => 4
  | 13 => 2
  | 29 => 5
  | 55 => 3
  | 107 => 1
  | _ => 0

def scty : Nat → List Ty
  | 7 => TRuntime_boundsError.ts
  | 13 => TRuntime_errorAddressString.ts
  | 29 => TToken.ts
  | 55 => TSpec_l00Src.ts
  | 107 => TErrors_errorString.ts
  | n => [.st n]

def stys : TypeId → Option Ty
  | 2 => some (.int .i64)
  | 3 => some (.int .i64)
  | 4 => some .bool
  | 5 => some (.int .u8)
  | 6 => some (.int .u8)
  | 7 => some (.st 7)
  | 8 => some (.st 7)
  | 9 => some .str
  | 10 => some .str
  | 11 => some .str
  | 12 => some (.int .u64)
  | 13 => some (.st 13)
  | 14 => some (.st 13)
  | 21 => some (.int .i32)
  | 22 => some (.sl (.int .u8))
  | 25 => some (.sl (.st 29))
  | 29 => some (.st 29)
  | 30 => some (.st 29)
  | 32 => some (.ptr (.st 55))
  | 54 => some (.int .u64)
  | 55 => some (.st 55)
  | 56 => some (.st 55)
  | 59 => some (.sl .str)
  | 64 => some (.sl (.int .i64))
  | 79 => some (.int .u64)
  | 81 => some (.int .i64)
  | 100 => some (.int .u32)
  | 106 => some (.ptr (.st 107))
  | 107 => some (.st 107)
  | 108 => some (.st 107)
  | 118 => some (.int .u8)
  | 119 => some (.int .u8)
  | 121 => some (.int .i32)
  | 122 => some (.int .i32)
  | _ => none

def sel : Ty → TypeId
  | (.int .i64) => 2
  | (.int .u8) => 5
  | (.st 29) => 30
  | .str => 9
  | _ => 0

def sfl : Nat → Bool
  | 7 => true
  | 13 => true
  | 29 => true
  | 55 => false
  | 107 => true
  | _ => false

def GG : Sig where
  S := SS
  csz := scsz
  cells := scells
  make := smake
  tyOf := stys
  el := sel
  fl := sfl

theorem TRuntime_boundsError.ok : SOk GG 7 TRuntime_boundsError.ts TRuntime_boundsError.to TRuntime_boundsError.of := ⟨rfl, fun _ => rfl, fun _ => rfl, rfl, fun _ => rfl, rfl⟩

theorem TRuntime_errorAddressString.ok : SOk GG 13 TRuntime_errorAddressString.ts TRuntime_errorAddressString.to TRuntime_errorAddressString.of := ⟨rfl, fun _ => rfl, fun _ => rfl, rfl, fun _ => rfl, rfl⟩

theorem TToken.ok : SOk GG 29 TToken.ts TToken.to TToken.of := ⟨rfl, fun _ => rfl, fun _ => rfl, rfl, fun _ => rfl, rfl⟩

theorem TSpec_l00Src.ok : SOk GG 55 TSpec_l00Src.ts TSpec_l00Src.to TSpec_l00Src.of := ⟨rfl, fun _ => rfl, fun _ => rfl, rfl, fun _ => rfl, rfl⟩

theorem TErrors_errorString.ok : SOk GG 107 TErrors_errorString.ts TErrors_errorString.to TErrors_errorString.of := ⟨rfl, fun _ => rfl, fun _ => rfl, rfl, fun _ => rfl, rfl⟩

def TRuntime_boundsError.re (x : TRuntime_boundsError) : TRuntime_boundsError := TRuntime_boundsError.mk x.fX x.fY x.fSigned x.fCode

@[simp] theorem TRuntime_boundsError.re_eq (x : TRuntime_boundsError) : x.re = x := by cases x; rfl

theorem TRuntime_boundsError.eta (x : TRuntime_boundsError) : TRuntime_boundsError.mk x.fX x.fY x.fSigned x.fCode = x := by cases x; rfl

def TRuntime_errorAddressString.re (x : TRuntime_errorAddressString) : TRuntime_errorAddressString := TRuntime_errorAddressString.mk x.fMsg x.fAddr

@[simp] theorem TRuntime_errorAddressString.re_eq (x : TRuntime_errorAddressString) : x.re = x := by cases x; rfl

theorem TRuntime_errorAddressString.eta (x : TRuntime_errorAddressString) : TRuntime_errorAddressString.mk x.fMsg x.fAddr = x := by cases x; rfl

def TToken.re (x : TToken) : TToken := TToken.mk x.fKind x.fNum x.fText x.fBefore x.fAfter

@[simp] theorem TToken.re_eq (x : TToken) : x.re = x := by cases x; rfl

theorem TToken.eta (x : TToken) : TToken.mk x.fKind x.fNum x.fText x.fBefore x.fAfter = x := by cases x; rfl

def TSpec_l00Src.re (x : TSpec_l00Src) : TSpec_l00Src := TSpec_l00Src.mk x.fCode x.fAt x.fSeed

@[simp] theorem TSpec_l00Src.re_eq (x : TSpec_l00Src) : x.re = x := by cases x; rfl

theorem TSpec_l00Src.eta (x : TSpec_l00Src) : TSpec_l00Src.mk x.fCode x.fAt x.fSeed = x := by cases x; rfl

def TErrors_errorString.re (x : TErrors_errorString) : TErrors_errorString := TErrors_errorString.mk x.fS

@[simp] theorem TErrors_errorString.re_eq (x : TErrors_errorString) : x.re = x := by cases x; rfl

theorem TErrors_errorString.eta (x : TErrors_errorString) : TErrors_errorString.mk x.fS = x := by cases x; rfl

theorem SS_empty {n : Nat} (h7 : ¬ n = 7) (h13 : ¬ n = 13) (h29 : ¬ n = 29) (h55 : ¬ n = 55) (h107 : ¬ n = 107) : SS n = Empty := by
  unfold SS
  split <;> first | rfl | (exfalso; omega)

theorem GG.law (n : Nat) : SLaw GG n := by
  by_cases h7 : n = 7
  · subst h7; exact TRuntime_boundsError.ok.law
  by_cases h13 : n = 13
  · subst h13; exact TRuntime_errorAddressString.ok.law
  by_cases h29 : n = 29
  · subst h29; exact TToken.ok.law
  by_cases h55 : n = 55
  · subst h55; exact TSpec_l00Src.ok.law
  by_cases h107 : n = 107
  · subst h107; exact TErrors_errorString.ok.law
  exact .empty fun x => (cast (SS_empty h7 h13 h29 h55 h107) x).elim

theorem GG.ok : SigOk GG := sigOk_of GG.law

noncomputable def OO : Opn GG where
  P := Tryd.prog
  tab := [(2, (.int .i64)), (3, (.int .i64)), (4, .bool), (5, (.int .u8)), (6, (.int .u8)), (7, (.st 7)), (8, (.st 7)), (9, .str), (10, .str), (11, .str), (12, (.int .u64)), (13, (.st 13)), (14, (.st 13)), (21, (.int .i32)), (22, (.sl (.int .u8))), (25, (.sl (.st 29))), (29, (.st 29)), (30, (.st 29)), (54, (.int .u64)), (55, (.st 55)), (56, (.st 55)), (59, (.sl .str)), (64, (.sl (.int .i64))), (79, (.int .u64)), (81, (.int .i64)), (100, (.int .u32)), (107, (.st 107)), (108, (.st 107)), (118, (.int .u8)), (119, (.int .u8)), (121, (.int .i32)), (122, (.int .i32))]
  cty := scty

theorem OO.tot (n : Nat) (vs : List (V SS)) (h : Leaves GG (scty n) vs) : ∃ x, smake n vs = some x ∧ scells n x = vs := by
  by_cases h7 : n = 7
  · subst h7; exact TRuntime_boundsError.ok.tot h
  by_cases h13 : n = 13
  · subst h13; exact TRuntime_errorAddressString.ok.tot h
  by_cases h29 : n = 29
  · subst h29; exact TToken.ok.tot h
  by_cases h55 : n = 55
  · subst h55; exact TSpec_l00Src.ok.tot h
  by_cases h107 : n = 107
  · subst h107; exact TErrors_errorString.ok.tot h
  exfalso
  have e : scty n = [.st n] := by
    unfold scty
    split <;> first | rfl | (exfalso; omega)
  rw [e] at h
  obtain ⟨x⟩ := leaves_st h
  exact (cast (SS_empty h7 h13 h29 h55 h107) x : Empty).elim

theorem OO.ok : OpnOk OO := ⟨by kernel_rfl, OO.tot⟩

def cut3 : Nat → Option (List (Nat × Option Ty))
  | 8 => some [(4, none)]
  | 12 => some [(4, none), (10, none), (13, none)]
  | 7 => some [(4, none), (6, none), (7, none), (9, none)]
  | _ => none

def cut6 : Nat → Option (List (Nat × Option Ty))
  | 16 => some [(0, none), (5, none), (6, none), (8, none)]
  | 5 => some [(0, none), (5, none), (6, none)]
  | _ => none

def cut8 : Nat → Option (List (Nat × Option Ty))
  | 8 => some [(0, none), (3, none), (5, none), (10, none), (11, none), (12, none)]
  | 9 => some [(0, none), (3, none), (5, none), (10, none), (11, none), (12, none)]
  | 5 => some [(0, none), (3, none), (10, none), (11, none), (12, none)]
  | _ => none

def cut11 : Nat → Option (List (Nat × Option Ty))
  | 19 => some [(0, none), (3, none), (5, none)]
  | 3 => some [(0, none), (3, none), (4, none)]
  | 22 => some [(3, none)]
  | _ => none

def cut13 : Nat → Option (List (Nat × Option Ty))
  | 2 => some [(0, none), (1, none), (2, none), (7, none)]
  | _ => none

def cut16 : Nat → Option (List (Nat × Option Ty))
  | 2 => some [(5, none), (6, none), (7, none)]
  | _ => none

def cut18 : Nat → Option (List (Nat × Option Ty))
  | 2 => some [(0, none), (1, none), (5, none)]
  | 3 => some [(0, none), (1, none), (5, none)]
  | 5 => some []
  | _ => none

def cut19 : Nat → Option (List (Nat × Option Ty))
  | 4 => some [(0, none), (5, none), (6, none), (7, none)]
  | _ => none

def cut20 : Nat → Option (List (Nat × Option Ty))
  | 2 => some [(1, none), (7, none), (8, none), (9, none)]
  | _ => none

def cut32 : Nat → Option (List (Nat × Option Ty))
  | 2 => some [(1, none), (7, none), (8, none), (9, none)]
  | _ => none

def cut40 : Nat → Option (List (Nat × Option Ty))
  | 10 => some [(0, none), (1, none), (4, none), (8, none), (9, none)]
  | 11 => some [(0, none), (1, none), (4, none), (8, none), (9, none)]
  | 13 => some [(1, none), (4, none), (8, none), (9, none)]
  | 18 => some [(0, none), (1, none), (4, none), (6, none), (10, none)]
  | 21 => some [(4, none)]
  | 22 => some [(0, none), (1, none), (4, none), (10, none)]
  | 27 => some [(1, none), (4, none), (6, none), (11, none), (12, none)]
  | _ => none

def cut49 : Nat → Option (List (Nat × Option Ty))
  | 3 => some [(0, none), (1, none)]
  | 4 => some [(0, none), (1, none)]
  | 5 => some [(1, none)]
  | _ => none

def cut51 : Nat → Option (List (Nat × Option Ty))
  | 11 => some []
  | 12 => some []
  | _ => none

def cut55 : Nat → Option (List (Nat × Option Ty))
  | 16 => some [(2, none), (8, none), (9, none)]
  | 10 => some [(0, none), (1, none), (2, none), (8, none)]
  | 20 => some [(10, none)]
  | 21 => some [(8, none), (9, none)]
  | _ => none

def cut58 : Nat → Option (List (Nat × Option Ty))
  | 8 => some [(0, none), (5, none), (6, none)]
  | _ => none

def cut59 : Nat → Option (List (Nat × Option Ty))
  | 9 => some [(0, none), (1, none)]
  | 10 => some [(0, none), (1, none), (5, none)]
  | 15 => some [(0, none), (1, none), (5, none), (6, none), (7, none), (8, none), (9, none), (10, none)]
  | 22 => some [(8, none)]
  | 23 => some [(0, none), (1, none), (5, none), (6, none), (7, none), (8, none), (9, none), (10, none)]
  | 31 => some [(0, none), (1, none), (8, none)]
  | _ => none

def cut60 : Nat → Option (List (Nat × Option Ty))
  | 32 => some [(0, none), (1, none), (2, none), (8, none), (9, none), (10, none)]
  | 36 => some [(1, none), (8, none), (9, none), (10, none), (11, none), (12, none), (13, none), (99, none), (100, none), (101, none)]
  | 10 => some [(0, none), (2, none), (8, none), (9, none)]
  | 43 => some [(1, none), (8, none), (9, none), (10, none), (11, none), (12, none), (13, none), (15, none), (99, none), (100, none), (101, none)]
  | 44 => some [(1, none), (8, none), (9, none), (10, none), (11, none), (12, none), (13, none), (15, none), (99, none), (100, none), (101, none)]
  | 13 => some [(0, none), (2, none), (8, none), (9, none)]
  | 46 => some [(1, none), (8, none), (9, none), (10, none), (11, none), (12, none), (13, none), (16, none), (99, none), (100, none), (101, none)]
  | 15 => some [(0, none), (2, none), (8, none), (9, none)]
  | 19 => some [(0, none), (2, none), (8, none), (9, none)]
  | 21 => some [(0, none), (1, none), (2, none), (8, none), (9, none)]
  | 55 => some [(1, none), (8, none), (9, none), (10, none), (11, none), (12, none), (13, none), (99, none), (100, none), (101, none)]
  | 25 => some [(0, none), (1, none), (2, none), (8, none), (9, none)]
  | _ => none

def cut67 : Nat → Option (List (Nat × Option Ty))
  | 1 => some [(0, none), (1, none), (4, none)]
  | 25 => some [(0, none), (4, none), (12, none)]
  | _ => none

def cut68 : Nat → Option (List (Nat × Option Ty))
  | 2 => some [(0, none), (1, none), (2, none), (3, none), (4, none), (10, none), (11, none)]
  | 3 => some [(0, none), (1, none), (2, none), (3, none), (4, none), (10, none), (11, none)]
  | 11 => some [(0, none), (1, none), (3, none), (4, none), (10, none), (11, none), (12, none), (13, none), (14, none), (15, none), (16, none)]
  | 18 => some [(0, none), (1, none), (3, none), (4, none), (10, none), (11, none), (12, none), (13, none), (17, none)]
  | 28 => some [(0, none), (4, none), (10, none), (11, none), (12, none), (13, none)]
  | _ => none

def cut71 : Nat → Option (List (Nat × Option Ty))
  | 11 => some [(0, none), (1, none), (5, none), (6, none), (7, none), (8, none), (10, none)]
  | 5 => some [(0, none), (1, none), (5, none), (6, none), (7, none), (8, none), (9, none)]
  | _ => none

def cut73 : Nat → Option (List (Nat × Option Ty))
  | 4 => some [(0, none), (3, none), (4, none)]
  | 5 => some [(0, none), (3, none), (4, none)]
  | 7 => some [(0, none)]
  | 10 => some [(0, none), (3, none), (4, none), (5, none)]
  | 11 => some [(0, none), (3, none), (4, none), (5, none)]
  | 13 => some [(0, none), (4, none), (5, none)]
  | 14 => some [(0, none), (3, none), (4, none), (5, none)]
  | _ => none

def cut78 : Nat → Option (List (Nat × Option Ty))
  | 7 => some [(0, none), (2, none)]
  | _ => none

def cut82 : Nat → Option (List (Nat × Option Ty))
  | 8 => some [(4, none), (6, none), (7, none), (8, none)]
  | 3 => some [(0, none), (4, none), (5, none)]
  | _ => none

def cutT : FuncId → Nat → Option (List (Nat × Option Ty))
  | 3 => cut3
  | 6 => cut6
  | 8 => cut8
  | 11 => cut11
  | 13 => cut13
  | 16 => cut16
  | 18 => cut18
  | 19 => cut19
  | 20 => cut20
  | 32 => cut32
  | 40 => cut40
  | 49 => cut49
  | 51 => cut51
  | 55 => cut55
  | 58 => cut58
  | 59 => cut59
  | 60 => cut60
  | 67 => cut67
  | 68 => cut68
  | 71 => cut71
  | 73 => cut73
  | 78 => cut78
  | 82 => cut82
  | _ => fun _ => none

def extT : FuncId → Option (Sigma fun rt : List Ty => List (V GG.S) → Option (rDen GG.S rt))
  | 37 => some ⟨[.int .i64, .bool], readIntV⟩
  | 39 => some ⟨[.int .i64], indexByteV⟩
  | 44 => some ⟨[.bool], containsV⟩
  | 53 => some ⟨[.str], itoaV⟩
  | _ => none

def bldF : FuncId → Option (Nat × TypeId × TypeId)
  | 21 => some (1, 46, 5)
  | 23 => some (3, 46, 5)
  | _ => none

def ctorT : FuncId → Option (TypeId × (List (V GG.S) → Option (List (V GG.S))))
  | 10 => some (56, srcV)
  | _ => none

noncomputable def CC : Cfg GG where
  P := Tryd.prog
  refs := fun f => [11, 29, 30, 31, 45].contains f
  ext := U.extT
  cut := cutT
  glob := fun _ => none
  gint := fun g => g == 0
  gtab := fun | 3 => some ((Lib.pow10Tab.map fun z => Value.int .u64 z).toArray) | _ => none
  own := fun _ => none
  bld := U.bldF
  ctor := U.ctorT
  eat := fun _ => none
  trE := fun e => [].contains e
  ownR := fun f => [].contains f
  wrf := fun f => [].contains f
  grw := fun _ => none

end Go.Dv.U
