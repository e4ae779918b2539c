/- The types of this program and the places where its loops are cut. -/
import Derived.Test.YtfkdpppgeaecoaaGreatDvb
import Derived.Test.YtfkdpppgeaecoaaGreatChecked
set_option linter.all false
set_option linter.unusedVariables false
set_option linter.unusedSimpArgs false
namespace Go.Dv.U

open Go Go.Dv Go.Proofs

set_option maxRecDepth 100000

structure TRuntime_boundsError where
  fX : Int
  fY : Int
  fSigned : Bool
  fCode : Int

structure TRuntime_errorAddressString where
  fMsg : (List UInt8)
  fAddr : Int

structure TValue where
  fKind : Int
  fNum : Int
  fText : (List UInt8)
  fRef : Int

structure TBinding where
  fName : (List UInt8)
  fValue : TValue

structure TFunction where
  fName : (List UInt8)
  fParams : (List (List UInt8))
  fLocals : (List (List UInt8))
  fLabel : (List UInt8)

structure TRecordType where
  fName : (List UInt8)
  fFields : (List (List UInt8))

structure TScope where
  fVars : (List TBinding)
  fFunctions : (List TFunction)
  fTypes : (List TRecordType)

def SS : Nat → Type
  | 7 => TRuntime_boundsError
  | 13 => TRuntime_errorAddressString
  | 25 => TScope
  | 28 => TValue
  | 56 => TBinding
  | 60 => TFunction
  | 63 => TRecordType
  | _ => Empty

def TRuntime_boundsError.ts : List Ty := [(.int .i64), (.int .i64), .bool, (.int .u8)]

def TRuntime_boundsError.to (x : TRuntime_boundsError) : lDen SS TRuntime_boundsError.ts := (x.fX, x.fY, x.fSigned, x.fCode, ())

def TRuntime_boundsError.of (p : lDen SS TRuntime_boundsError.ts) : TRuntime_boundsError := (⟨p.1, p.2.1, p.2.2.1, p.2.2.2.1⟩ : TRuntime_boundsError)

def TRuntime_errorAddressString.ts : List Ty := [.str, (.int .u64)]

def TRuntime_errorAddressString.to (x : TRuntime_errorAddressString) : lDen SS TRuntime_errorAddressString.ts := (x.fMsg, x.fAddr, ())

def TRuntime_errorAddressString.of (p : lDen SS TRuntime_errorAddressString.ts) : TRuntime_errorAddressString := (⟨p.1, p.2.1⟩ : TRuntime_errorAddressString)

def TScope.ts : List Ty := [(.sl (.st 56)), (.sl (.st 60)), (.sl (.st 63))]

def TScope.to (x : TScope) : lDen SS TScope.ts := (x.fVars, x.fFunctions, x.fTypes, ())

def TScope.of (p : lDen SS TScope.ts) : TScope := (⟨p.1, p.2.1, p.2.2.1⟩ : TScope)

def TValue.ts : List Ty := [(.int .i64), (.int .i64), .str, (.int .i64)]

def TValue.to (x : TValue) : lDen SS TValue.ts := (x.fKind, x.fNum, x.fText, x.fRef, ())

def TValue.of (p : lDen SS TValue.ts) : TValue := (⟨p.1, p.2.1, p.2.2.1, p.2.2.2.1⟩ : TValue)

def TBinding.ts : List Ty := [.str, (.int .i64), (.int .i64), .str, (.int .i64)]

def TBinding.to (x : TBinding) : lDen SS TBinding.ts := (x.fName, x.fValue.fKind, x.fValue.fNum, x.fValue.fText, x.fValue.fRef, ())

def TBinding.of (p : lDen SS TBinding.ts) : TBinding := (⟨p.1, (⟨p.2.1, p.2.2.1, p.2.2.2.1, p.2.2.2.2.1⟩ : TValue)⟩ : TBinding)

def TFunction.ts : List Ty := [.str, (.sl .str), (.sl .str), .str]

def TFunction.to (x : TFunction) : lDen SS TFunction.ts := (x.fName, x.fParams, x.fLocals, x.fLabel, ())

def TFunction.of (p : lDen SS TFunction.ts) : TFunction := (⟨p.1, p.2.1, p.2.2.1, p.2.2.2.1⟩ : TFunction)

def TRecordType.ts : List Ty := [.str, (.sl .str)]

def TRecordType.to (x : TRecordType) : lDen SS TRecordType.ts := (x.fName, x.fFields, ())

def TRecordType.of (p : lDen SS TRecordType.ts) : TRecordType := (⟨p.1, p.2.1⟩ : TRecordType)

def scells : (n : Nat) → SS n → List (V SS)
  | 7, x => cellsL SS TRuntime_boundsError.ts (TRuntime_boundsError.to x)
  | 13, x => cellsL SS TRuntime_errorAddressString.ts (TRuntime_errorAddressString.to x)
  | 25, x => cellsL SS TScope.ts (TScope.to x)
  | 28, x => cellsL SS TValue.ts (TValue.to x)
  | 56, x => cellsL SS TBinding.ts (TBinding.to x)
  | 60, x => cellsL SS TFunction.ts (TFunction.to x)
  | 63, x => cellsL SS TRecordType.ts (TRecordType.to x)
  | _, _ => []

def smake : (n : Nat) → List (V SS) → Option (SS n)
  | 7, c => (prjL SS TRuntime_boundsError.ts c).map TRuntime_boundsError.of
  | 13, c => (prjL SS TRuntime_errorAddressString.ts c).map TRuntime_errorAddressString.of
  | 25, c => (prjL SS TScope.ts c).map TScope.of
  | 28, c => (prjL SS TValue.ts c).map TValue.of
  | 56, c => (prjL SS TBinding.ts c).map TBinding.of
  | 60, c => (prjL SS TFunction.ts c).map TFunction.of
  | 63, c => (prjL SS TRecordType.ts c).map TRecordType.of
  | _, _ => none

def scsz : Nat → Nat
  | 7 => 4
  | 13 => 2
  | 25 => 3
  | 28 => 4
  | 56 => 5
  | 60 => 4
  | 63 => 2
  | _ => 0

def scty : Nat → List Ty
  | 7 => TRuntime_boundsError.ts
  | 13 => TRuntime_errorAddressString.ts
  | 25 => TScope.ts
  | 28 => TValue.ts
  | 56 => TBinding.ts
  | 60 => TFunction.ts
  | 63 => TRecordType.ts
  | n => [.st n]

def stys : TypeId → Option Ty
  | 2 => some (.int .i64)
  | 3 => some (.int .i64)
  | 4 => some .bool
  | 5 => some (.int .u8)
  | 6 => some (.int .u8)
  | 7 => some (.st 7)
  | 8 => some (.st 7)
  | 9 => some .str
  | 10 => some .str
  | 11 => some .str
  | 12 => some (.int .u64)
  | 13 => some (.st 13)
  | 14 => some (.st 13)
  | 21 => some (.int .i32)
  | 22 => some (.sl (.st 56))
  | 23 => some (.sl (.st 60))
  | 24 => some (.sl (.st 63))
  | 25 => some (.st 25)
  | 26 => some (.st 25)
  | 28 => some (.st 28)
  | 29 => some (.st 28)
  | 32 => some (.sl (.st 56))
  | 33 => some (.sl (.st 60))
  | 34 => some (.sl (.st 63))
  | 35 => some (.st 25)
  | 36 => some (.st 25)
  | 55 => some (.st 28)
  | 56 => some (.st 56)
  | 57 => some (.st 56)
  | 59 => some (.sl .str)
  | 60 => some (.st 60)
  | 61 => some (.st 60)
  | 63 => some (.st 63)
  | 64 => some (.st 63)
  | 65 => some (.st 56)
  | 66 => some (.st 56)
  | 69 => some (.st 60)
  | 71 => some (.st 63)
  | 90 => some (.sl (.int .u8))
  | 111 => some (.sl (.sl .str))
  | 114 => some (.int .u64)
  | 118 => some (.int .i64)
  | 126 => some (.int .u32)
  | 128 => some (.int .u64)
  | 129 => some (.int .u64)
  | 145 => some (.int .u8)
  | 146 => some (.int .u8)
  | 149 => some (.int .i32)
  | 150 => some (.int .i32)
  | _ => none

def GG : Sig where
  S := SS
  csz := scsz
  cells := scells
  make := smake
  tyOf := stys

theorem TRuntime_boundsError.ok : SOk GG 7 TRuntime_boundsError.ts TRuntime_boundsError.to TRuntime_boundsError.of := ⟨rfl, fun _ => rfl, fun _ => rfl, rfl, fun _ => rfl⟩

theorem TRuntime_errorAddressString.ok : SOk GG 13 TRuntime_errorAddressString.ts TRuntime_errorAddressString.to TRuntime_errorAddressString.of := ⟨rfl, fun _ => rfl, fun _ => rfl, rfl, fun _ => rfl⟩

theorem TScope.ok : SOk GG 25 TScope.ts TScope.to TScope.of := ⟨rfl, fun _ => rfl, fun _ => rfl, rfl, fun _ => rfl⟩

theorem TValue.ok : SOk GG 28 TValue.ts TValue.to TValue.of := ⟨rfl, fun _ => rfl, fun _ => rfl, rfl, fun _ => rfl⟩

theorem TBinding.ok : SOk GG 56 TBinding.ts TBinding.to TBinding.of := ⟨rfl, fun _ => rfl, fun _ => rfl, rfl, fun _ => rfl⟩

theorem TFunction.ok : SOk GG 60 TFunction.ts TFunction.to TFunction.of := ⟨rfl, fun _ => rfl, fun _ => rfl, rfl, fun _ => rfl⟩

theorem TRecordType.ok : SOk GG 63 TRecordType.ts TRecordType.to TRecordType.of := ⟨rfl, fun _ => rfl, fun _ => rfl, rfl, fun _ => rfl⟩

def TRuntime_boundsError.re (x : TRuntime_boundsError) : TRuntime_boundsError := TRuntime_boundsError.mk x.fX x.fY x.fSigned x.fCode

@[simp] theorem TRuntime_boundsError.re_eq (x : TRuntime_boundsError) : x.re = x := by cases x; rfl

theorem TRuntime_boundsError.eta (x : TRuntime_boundsError) : TRuntime_boundsError.mk x.fX x.fY x.fSigned x.fCode = x := by cases x; rfl

def TRuntime_errorAddressString.re (x : TRuntime_errorAddressString) : TRuntime_errorAddressString := TRuntime_errorAddressString.mk x.fMsg x.fAddr

@[simp] theorem TRuntime_errorAddressString.re_eq (x : TRuntime_errorAddressString) : x.re = x := by cases x; rfl

theorem TRuntime_errorAddressString.eta (x : TRuntime_errorAddressString) : TRuntime_errorAddressString.mk x.fMsg x.fAddr = x := by cases x; rfl

def TScope.re (x : TScope) : TScope := TScope.mk x.fVars x.fFunctions x.fTypes

@[simp] theorem TScope.re_eq (x : TScope) : x.re = x := by cases x; rfl

theorem TScope.eta (x : TScope) : TScope.mk x.fVars x.fFunctions x.fTypes = x := by cases x; rfl

def TValue.re (x : TValue) : TValue := TValue.mk x.fKind x.fNum x.fText x.fRef

@[simp] theorem TValue.re_eq (x : TValue) : x.re = x := by cases x; rfl

theorem TValue.eta (x : TValue) : TValue.mk x.fKind x.fNum x.fText x.fRef = x := by cases x; rfl

def TBinding.re (x : TBinding) : TBinding := TBinding.mk x.fName x.fValue

@[simp] theorem TBinding.re_eq (x : TBinding) : x.re = x := by cases x; rfl

theorem TBinding.eta (x : TBinding) : TBinding.mk x.fName x.fValue = x := by cases x; rfl

def TFunction.re (x : TFunction) : TFunction := TFunction.mk x.fName x.fParams x.fLocals x.fLabel

@[simp] theorem TFunction.re_eq (x : TFunction) : x.re = x := by cases x; rfl

theorem TFunction.eta (x : TFunction) : TFunction.mk x.fName x.fParams x.fLocals x.fLabel = x := by cases x; rfl

def TRecordType.re (x : TRecordType) : TRecordType := TRecordType.mk x.fName x.fFields

@[simp] theorem TRecordType.re_eq (x : TRecordType) : x.re = x := by cases x; rfl

theorem TRecordType.eta (x : TRecordType) : TRecordType.mk x.fName x.fFields = x := by cases x; rfl

theorem SS_empty {n : Nat} (h7 : ¬ n = 7) (h13 : ¬ n = 13) (h25 : ¬ n = 25) (h28 : ¬ n = 28) (h56 : ¬ n = 56) (h60 : ¬ n = 60) (h63 : ¬ n = 63) : SS n = Empty := by
  unfold SS
  split <;> first | rfl | (exfalso; omega)

theorem GG.law (n : Nat) : SLaw GG n := by
  by_cases h7 : n = 7
  · subst h7; exact TRuntime_boundsError.ok.law
  by_cases h13 : n = 13
  · subst h13; exact TRuntime_errorAddressString.ok.law
  by_cases h25 : n = 25
  · subst h25; exact TScope.ok.law
  by_cases h28 : n = 28
  · subst h28; exact TValue.ok.law
  by_cases h56 : n = 56
  · subst h56; exact TBinding.ok.law
  by_cases h60 : n = 60
  · subst h60; exact TFunction.ok.law
  by_cases h63 : n = 63
  · subst h63; exact TRecordType.ok.law
  exact .empty fun x => (cast (SS_empty h7 h13 h25 h28 h56 h60 h63) x).elim

theorem GG.ok : SigOk GG := sigOk_of GG.law

noncomputable def OO : Opn GG where
  P := Tryz.prog
  tab := [(2, (.int .i64)), (3, (.int .i64)), (4, .bool), (5, (.int .u8)), (6, (.int .u8)), (7, (.st 7)), (8, (.st 7)), (9, .str), (10, .str), (11, .str), (12, (.int .u64)), (13, (.st 13)), (14, (.st 13)), (21, (.int .i32)), (22, (.sl (.st 56))), (23, (.sl (.st 60))), (24, (.sl (.st 63))), (25, (.st 25)), (26, (.st 25)), (28, (.st 28)), (29, (.st 28)), (32, (.sl (.st 56))), (33, (.sl (.st 60))), (34, (.sl (.st 63))), (35, (.st 25)), (36, (.st 25)), (55, (.st 28)), (56, (.st 56)), (57, (.st 56)), (59, (.sl .str)), (60, (.st 60)), (61, (.st 60)), (63, (.st 63)), (64, (.st 63)), (65, (.st 56)), (66, (.st 56)), (69, (.st 60)), (71, (.st 63)), (90, (.sl (.int .u8))), (111, (.sl (.sl .str))), (114, (.int .u64)), (118, (.int .i64)), (126, (.int .u32)), (128, (.int .u64)), (129, (.int .u64)), (145, (.int .u8)), (146, (.int .u8)), (149, (.int .i32)), (150, (.int .i32))]
  cty := scty

theorem OO.tot (n : Nat) (vs : List (V SS)) (h : Leaves GG (scty n) vs) : ∃ x, smake n vs = some x ∧ scells n x = vs := by
  by_cases h7 : n = 7
  · subst h7; exact TRuntime_boundsError.ok.tot h
  by_cases h13 : n = 13
  · subst h13; exact TRuntime_errorAddressString.ok.tot h
  by_cases h25 : n = 25
  · subst h25; exact TScope.ok.tot h
  by_cases h28 : n = 28
  · subst h28; exact TValue.ok.tot h
  by_cases h56 : n = 56
  · subst h56; exact TBinding.ok.tot h
  by_cases h60 : n = 60
  · subst h60; exact TFunction.ok.tot h
  by_cases h63 : n = 63
  · subst h63; exact TRecordType.ok.tot h
  exfalso
  have e : scty n = [.st n] := by
    unfold scty
    split <;> first | rfl | (exfalso; omega)
  rw [e] at h
  obtain ⟨x⟩ := leaves_st h
  exact (cast (SS_empty h7 h13 h25 h28 h56 h60 h63) x : Empty).elim

theorem OO.ok : OpnOk OO := ⟨by kernel_rfl, OO.tot⟩

def cut10 : Nat → Option (List (Nat × Option Ty))
  | 5 => some [(0, none), (1, none), (5, none)]
  | _ => none

def cut11 : Nat → Option (List (Nat × Option Ty))
  | 5 => some [(0, none), (1, none), (5, none)]
  | _ => none

def cut12 : Nat → Option (List (Nat × Option Ty))
  | 5 => some [(0, none), (1, none), (5, none)]
  | _ => none

def cut13 : Nat → Option (List (Nat × Option Ty))
  | 2 => some []
  | 3 => some [(1, none)]
  | 4 => some [(1, none), (3, none)]
  | 5 => some [(1, none), (3, none)]
  | 8 => some []
  | 10 => some [(1, none), (5, none)]
  | 11 => some [(1, none), (5, none)]
  | 13 => some []
  | 15 => some [(1, none), (6, none)]
  | 16 => some [(1, none), (6, none)]
  | 18 => some []
  | _ => none

def cut15 : Nat → Option (List (Nat × Option Ty))
  | 2 => some [(1, none), (2, none), (4, none), (5, none)]
  | _ => none

def cut16 : Nat → Option (List (Nat × Option Ty))
  | 3 => some [(0, none), (3, none), (4, none)]
  | _ => none

def cut17 : Nat → Option (List (Nat × Option Ty))
  | 3 => some [(0, none), (3, none), (4, none)]
  | _ => none

def cut18 : Nat → Option (List (Nat × Option Ty))
  | 3 => some [(0, none), (3, none), (4, none)]
  | _ => none

def cut19 : Nat → Option (List (Nat × Option Ty))
  | 2 => some []
  | 3 => some [(1, none)]
  | 4 => some [(1, none), (3, none)]
  | _ => none

def cut22 : Nat → Option (List (Nat × Option Ty))
  | 4 => some [(0, none), (1, none), (5, none)]
  | _ => none

def cut23 : Nat → Option (List (Nat × Option Ty))
  | 4 => some [(0, none), (1, none), (5, none)]
  | _ => none

def cut24 : Nat → Option (List (Nat × Option Ty))
  | 4 => some [(0, none), (1, none), (5, none)]
  | _ => none

def cut28 : Nat → Option (List (Nat × Option Ty))
  | 11 => some [(1, none)]
  | 12 => some [(1, none), (4, none)]
  | _ => none

def cut30 : Nat → Option (List (Nat × Option Ty))
  | 2 => some []
  | 3 => some [(1, some (.ptr (.st 60)))]
  | _ => none

def cut32 : Nat → Option (List (Nat × Option Ty))
  | 3 => some [(0, none), (1, none)]
  | 4 => some [(0, none), (1, none)]
  | 5 => some [(1, none)]
  | _ => none

def cut37 : Nat → Option (List (Nat × Option Ty))
  | 2 => some [(0, none), (1, none), (5, none)]
  | _ => none

def cut39 : Nat → Option (List (Nat × Option Ty))
  | 2 => some [(0, none), (1, none), (5, none)]
  | _ => none

def cut41 : Nat → Option (List (Nat × Option Ty))
  | 2 => some [(0, none), (1, none), (5, none)]
  | _ => none

def cut43 : Nat → Option (List (Nat × Option Ty))
  | 2 => some [(1, none), (7, none), (8, none), (9, none)]
  | _ => none

def cut45 : Nat → Option (List (Nat × Option Ty))
  | 2 => some [(1, none), (7, none), (8, none), (9, none)]
  | _ => none

def cut47 : Nat → Option (List (Nat × Option Ty))
  | 2 => some [(1, none), (7, none), (8, none), (9, none)]
  | _ => none

def cut50 : Nat → Option (List (Nat × Option Ty))
  | 2 => some [(1, none), (7, none), (8, none), (9, none)]
  | _ => none

def cut58 : Nat → Option (List (Nat × Option Ty))
  | 5 => some [(0, none), (1, none), (5, none)]
  | _ => none

def cut61 : Nat → Option (List (Nat × Option Ty))
  | 2 => some [(0, none), (3, none)]
  | _ => none

def cut65 : Nat → Option (List (Nat × Option Ty))
  | 3 => some [(0, none), (3, none), (4, none)]
  | _ => none

def cut66 : Nat → Option (List (Nat × Option Ty))
  | 11 => some [(1, none)]
  | 12 => some [(1, none), (4, none)]
  | _ => none

def cut68 : Nat → Option (List (Nat × Option Ty))
  | 11 => some [(6, none), (25, none), (26, none), (27, none)]
  | 3 => some [(0, none), (3, none), (9, none), (10, none), (11, none)]
  | _ => none

def cut69 : Nat → Option (List (Nat × Option Ty))
  | 2 => some [(1, none), (7, none), (8, none), (9, none)]
  | _ => none

def cut72 : Nat → Option (List (Nat × Option Ty))
  | 2 => some []
  | 3 => some [(0, none)]
  | _ => none

def cut74 : Nat → Option (List (Nat × Option Ty))
  | 3 => some [(0, none), (1, none), (2, none), (8, none), (9, none), (10, none)]
  | _ => none

def cut78 : Nat → Option (List (Nat × Option Ty))
  | 4 => some [(0, none), (1, none), (5, none)]
  | _ => none

def cut79 : Nat → Option (List (Nat × Option Ty))
  | 2 => some [(0, none), (1, none), (5, none)]
  | _ => none

def cut82 : Nat → Option (List (Nat × Option Ty))
  | 6 => some [(0, none)]
  | _ => none

def cut84 : Nat → Option (List (Nat × Option Ty))
  | 9 => some [(0, none), (3, none), (4, none), (5, none)]
  | 4 => some [(0, none), (3, none)]
  | _ => none

def cut86 : Nat → Option (List (Nat × Option Ty))
  | 16 => some [(0, none), (1, none), (2, none), (3, none), (8, none), (9, none), (10, none), (11, none)]
  | 17 => some [(0, none), (1, none), (2, none), (3, none), (8, none), (9, none), (10, none), (11, none)]
  | 2 => some [(0, none), (1, none), (2, none), (3, none), (8, none), (9, none)]
  | 15 => some [(0, none), (1, none), (2, none), (3, none), (8, none), (9, none), (10, none), (11, none), (12, none)]
  | _ => none

def cut88 : Nat → Option (List (Nat × Option Ty))
  | 1 => some [(0, none), (1, none), (2, none), (6, none)]
  | 4 => some [(0, none), (1, none), (2, none), (6, none), (7, none)]
  | _ => none

def cut89 : Nat → Option (List (Nat × Option Ty))
  | 8 => some [(0, none), (6, none), (7, none), (10, none)]
  | 4 => some [(0, none), (6, none), (7, none), (8, none), (9, none)]
  | _ => none

def cut90 : Nat → Option (List (Nat × Option Ty))
  | 5 => some [(0, none), (1, none), (6, none), (7, none), (8, none), (9, none)]
  | _ => none

def cut91 : Nat → Option (List (Nat × Option Ty))
  | 12 => some [(9, none), (11, none)]
  | _ => none

def cut92 : Nat → Option (List (Nat × Option Ty))
  | 2 => some [(0, none), (6, none), (7, none)]
  | _ => none

def cut93 : Nat → Option (List (Nat × Option Ty))
  | 3 => some [(0, none), (1, none), (2, none), (7, none), (8, none)]
  | 4 => some [(0, none), (1, none), (2, none), (7, none), (8, none)]
  | 5 => some [(0, none), (1, none), (2, none), (7, none), (8, none)]
  | 14 => some [(0, none), (1, none), (2, none), (7, none), (8, none), (9, none)]
  | 18 => some [(0, none), (1, none), (2, none), (7, none), (8, none)]
  | 20 => some [(0, none), (1, none), (2, none), (7, none), (8, none), (10, none)]
  | _ => none

def cut95 : Nat → Option (List (Nat × Option Ty))
  | 3 => some [(0, none), (1, none), (9, none), (10, none)]
  | 5 => some [(0, none), (1, none), (9, none), (10, none)]
  | _ => none

def cut96 : Nat → Option (List (Nat × Option Ty))
  | 13 => some [(0, none), (1, none), (10, none), (11, none)]
  | 3 => some [(0, none), (1, none), (10, none), (11, none)]
  | 5 => some [(0, none), (1, none), (10, none), (11, none)]
  | 15 => some [(0, none), (1, none), (10, none), (11, none)]
  | _ => none

def cut97 : Nat → Option (List (Nat × Option Ty))
  | 7 => some [(0, none), (2, none)]
  | _ => none

def cut98 : Nat → Option (List (Nat × Option Ty))
  | 7 => some [(0, none), (2, none)]
  | _ => none

def cut99 : Nat → Option (List (Nat × Option Ty))
  | 1 => some [(0, none), (2, none), (3, none), (8, none)]
  | 5 => some [(0, none), (2, none), (3, none), (8, none), (9, none)]
  | _ => none

def cutT : FuncId → Nat → Option (List (Nat × Option Ty))
  | 10 => cut10
  | 11 => cut11
  | 12 => cut12
  | 13 => cut13
  | 15 => cut15
  | 16 => cut16
  | 17 => cut17
  | 18 => cut18
  | 19 => cut19
  | 22 => cut22
  | 23 => cut23
  | 24 => cut24
  | 28 => cut28
  | 30 => cut30
  | 32 => cut32
  | 37 => cut37
  | 39 => cut39
  | 41 => cut41
  | 43 => cut43
  | 45 => cut45
  | 47 => cut47
  | 50 => cut50
  | 58 => cut58
  | 61 => cut61
  | 65 => cut65
  | 66 => cut66
  | 68 => cut68
  | 69 => cut69
  | 72 => cut72
  | 74 => cut74
  | 78 => cut78
  | 79 => cut79
  | 82 => cut82
  | 84 => cut84
  | 86 => cut86
  | 88 => cut88
  | 89 => cut89
  | 90 => cut90
  | 91 => cut91
  | 92 => cut92
  | 93 => cut93
  | 95 => cut95
  | 96 => cut96
  | 97 => cut97
  | 98 => cut98
  | 99 => cut99
  | _ => fun _ => none

def ownT : FuncId → Option (TypeId × (List (V GG.S) → Option (List (List UInt8))))
  | 71 => some (9, cloneV)
  | 82 => some (9, growV)
  | _ => none

def eatT : FuncId → Option (TypeId × (List (List UInt8) → Option (List (List UInt8))))
  | 70 => some (9, sortS)
  | _ => none

noncomputable def CC : Cfg GG where
  P := Tryz.prog
  refs := fun _ => false
  ext := fun _ => none
  cut := cutT
  glob := fun _ => none
  own := U.ownT
  eat := U.eatT

end Go.Dv.U
