/- The types of this program and the places where its loops are cut. -/
import Derived.Test.YtfkdpppgeaecoaaDvb
import Derived.Test.YtfkdpppgeaecoaaChecked
set_option linter.all false
set_option linter.unusedVariables false
set_option linter.unusedSimpArgs false
namespace Go.Dv.U

open Go Go.Dv Go.Proofs

set_option maxRecDepth 100000

structure TRuntime_boundsError where
  fX : Int
  fY : Int
  fSigned : Bool
  fCode : Int

structure TRuntime_errorAddressString where
  fMsg : (List UInt8)
  fAddr : Int

structure TValue where
  fKind : Int
  fNum : Int
  fText : (List UInt8)
  fRef : Int

structure TBinding where
  fName : (List UInt8)
  fValue : TValue

structure TFunction where
  fName : (List UInt8)
  fParams : (List (List UInt8))
  fLocals : (List (List UInt8))
  fLabel : (List UInt8)

structure TRecordType where
  fName : (List UInt8)
  fFields : (List (List UInt8))

structure TScope where
  fVars : (List TBinding)
  fFunctions : (List TFunction)
  fTypes : (List TRecordType)

def SS : Nat → Type
  | 7 => TRuntime_boundsError
  | 13 => TRuntime_errorAddressString
  | 25 => TScope
  | 40 => TValue
  | 42 => TBinding
  | 48 => TFunction
  | 51 => TRecordType
  | _ => Empty

def TRuntime_boundsError.ts : List Ty := [(.int .i64), (.int .i64), .bool, (.int .u8)]

def TRuntime_boundsError.to (x : TRuntime_boundsError) : lDen SS TRuntime_boundsError.ts := (x.fX, x.fY, x.fSigned, x.fCode, ())

def TRuntime_boundsError.of (p : lDen SS TRuntime_boundsError.ts) : TRuntime_boundsError := (⟨p.1, p.2.1, p.2.2.1, p.2.2.2.1⟩ : TRuntime_boundsError)

def TRuntime_errorAddressString.ts : List Ty := [.str, (.int .u64)]

def TRuntime_errorAddressString.to (x : TRuntime_errorAddressString) : lDen SS TRuntime_errorAddressString.ts := (x.fMsg, x.fAddr, ())

def TRuntime_errorAddressString.of (p : lDen SS TRuntime_errorAddressString.ts) : TRuntime_errorAddressString := (⟨p.1, p.2.1⟩ : TRuntime_errorAddressString)

def TScope.ts : List Ty := [(.sl (.st 42)), (.sl (.st 48)), (.sl (.st 51))]

def TScope.to (x : TScope) : lDen SS TScope.ts := (x.fVars, x.fFunctions, x.fTypes, ())

def TScope.of (p : lDen SS TScope.ts) : TScope := (⟨p.1, p.2.1, p.2.2.1⟩ : TScope)

def TValue.ts : List Ty := [(.int .i64), (.int .i64), .str, (.int .i64)]

def TValue.to (x : TValue) : lDen SS TValue.ts := (x.fKind, x.fNum, x.fText, x.fRef, ())

def TValue.of (p : lDen SS TValue.ts) : TValue := (⟨p.1, p.2.1, p.2.2.1, p.2.2.2.1⟩ : TValue)

def TBinding.ts : List Ty := [.str, (.int .i64), (.int .i64), .str, (.int .i64)]

def TBinding.to (x : TBinding) : lDen SS TBinding.ts := (x.fName, x.fValue.fKind, x.fValue.fNum, x.fValue.fText, x.fValue.fRef, ())

def TBinding.of (p : lDen SS TBinding.ts) : TBinding := (⟨p.1, (⟨p.2.1, p.2.2.1, p.2.2.2.1, p.2.2.2.2.1⟩ : TValue)⟩ : TBinding)

def TFunction.ts : List Ty := [.str, (.sl .str), (.sl .str), .str]

def TFunction.to (x : TFunction) : lDen SS TFunction.ts := (x.fName, x.fParams, x.fLocals, x.fLabel, ())

def TFunction.of (p : lDen SS TFunction.ts) : TFunction := (⟨p.1, p.2.1, p.2.2.1, p.2.2.2.1⟩ : TFunction)

def TRecordType.ts : List Ty := [.str, (.sl .str)]

def TRecordType.to (x : TRecordType) : lDen SS TRecordType.ts := (x.fName, x.fFields, ())

def TRecordType.of (p : lDen SS TRecordType.ts) : TRecordType := (⟨p.1, p.2.1⟩ : TRecordType)

def scells : (n : Nat) → SS n → List (V SS)
  | 7, x => cellsL SS TRuntime_boundsError.ts (TRuntime_boundsError.to x)
  | 13, x => cellsL SS TRuntime_errorAddressString.ts (TRuntime_errorAddressString.to x)
  | 25, x => cellsL SS TScope.ts (TScope.to x)
  | 40, x => cellsL SS TValue.ts (TValue.to x)
  | 42, x => cellsL SS TBinding.ts (TBinding.to x)
  | 48, x => cellsL SS TFunction.ts (TFunction.to x)
  | 51, x => cellsL SS TRecordType.ts (TRecordType.to x)
  | _, _ => []

def smake : (n : Nat) → List (V SS) → Option (SS n)
  | 7, c => (prjL SS TRuntime_boundsError.ts c).map TRuntime_boundsError.of
  | 13, c => (prjL SS TRuntime_errorAddressString.ts c).map TRuntime_errorAddressString.of
  | 25, c => (prjL SS TScope.ts c).map TScope.of
  | 40, c => (prjL SS TValue.ts c).map TValue.of
  | 42, c => (prjL SS TBinding.ts c).map TBinding.of
  | 48, c => (prjL SS TFunction.ts c).map TFunction.of
  | 51, c => (prjL SS TRecordType.ts c).map TRecordType.of
  | _, _ => none

def scsz : Nat → Nat
  | 7 => 4
  | 13 => 2
  | 25 => 3
  | 40 => 4
  | 42 => 5
  | 48 => 4
  | 51 => 2
  | _ => 0

def scty : Nat → List Ty
  | 7 => TRuntime_boundsError.ts
  | 13 => TRuntime_errorAddressString.ts
  | 25 => TScope.ts
  | 40 => TValue.ts
  | 42 => TBinding.ts
  | 48 => TFunction.ts
  | 51 => TRecordType.ts
  | n => [.st n]

def stys : TypeId → Option Ty
  | 2 => some (.int .i64)
  | 3 => some (.int .i64)
  | 4 => some .bool
  | 5 => some (.int .u8)
  | 6 => some (.int .u8)
  | 7 => some (.st 7)
  | 8 => some (.st 7)
  | 9 => some .str
  | 10 => some .str
  | 11 => some .str
  | 12 => some (.int .u64)
  | 13 => some (.st 13)
  | 14 => some (.st 13)
  | 21 => some (.int .i32)
  | 22 => some (.sl (.st 42))
  | 23 => some (.sl (.st 48))
  | 24 => some (.sl (.st 51))
  | 25 => some (.st 25)
  | 26 => some (.st 25)
  | 29 => some (.sl (.st 42))
  | 30 => some (.sl (.st 48))
  | 31 => some (.sl (.st 51))
  | 32 => some (.st 25)
  | 33 => some (.st 25)
  | 40 => some (.st 40)
  | 41 => some (.st 40)
  | 42 => some (.st 42)
  | 43 => some (.st 42)
  | 47 => some (.sl .str)
  | 48 => some (.st 48)
  | 49 => some (.st 48)
  | 51 => some (.st 51)
  | 52 => some (.st 51)
  | 71 => some (.st 40)
  | 72 => some (.st 42)
  | 73 => some (.st 42)
  | 75 => some (.st 48)
  | 77 => some (.st 51)
  | 97 => some (.sl (.int .u8))
  | 100 => some (.sl (.sl .str))
  | 108 => some (.int .u64)
  | 110 => some (.int .i64)
  | 119 => some (.int .u32)
  | 121 => some (.int .u64)
  | 122 => some (.int .u64)
  | 138 => some (.int .u8)
  | 139 => some (.int .u8)
  | 142 => some (.int .i32)
  | 143 => some (.int .i32)
  | _ => none

def GG : Sig where
  S := SS
  csz := scsz
  cells := scells
  make := smake
  tyOf := stys

theorem TRuntime_boundsError.ok : SOk GG 7 TRuntime_boundsError.ts TRuntime_boundsError.to TRuntime_boundsError.of := ⟨rfl, fun _ => rfl, fun _ => rfl, rfl, fun _ => rfl⟩

theorem TRuntime_errorAddressString.ok : SOk GG 13 TRuntime_errorAddressString.ts TRuntime_errorAddressString.to TRuntime_errorAddressString.of := ⟨rfl, fun _ => rfl, fun _ => rfl, rfl, fun _ => rfl⟩

theorem TScope.ok : SOk GG 25 TScope.ts TScope.to TScope.of := ⟨rfl, fun _ => rfl, fun _ => rfl, rfl, fun _ => rfl⟩

theorem TValue.ok : SOk GG 40 TValue.ts TValue.to TValue.of := ⟨rfl, fun _ => rfl, fun _ => rfl, rfl, fun _ => rfl⟩

theorem TBinding.ok : SOk GG 42 TBinding.ts TBinding.to TBinding.of := ⟨rfl, fun _ => rfl, fun _ => rfl, rfl, fun _ => rfl⟩

theorem TFunction.ok : SOk GG 48 TFunction.ts TFunction.to TFunction.of := ⟨rfl, fun _ => rfl, fun _ => rfl, rfl, fun _ => rfl⟩

theorem TRecordType.ok : SOk GG 51 TRecordType.ts TRecordType.to TRecordType.of := ⟨rfl, fun _ => rfl, fun _ => rfl, rfl, fun _ => rfl⟩

def TRuntime_boundsError.re (x : TRuntime_boundsError) : TRuntime_boundsError := TRuntime_boundsError.mk x.fX x.fY x.fSigned x.fCode

@[simp] theorem TRuntime_boundsError.re_eq (x : TRuntime_boundsError) : x.re = x := by cases x; rfl

theorem TRuntime_boundsError.eta (x : TRuntime_boundsError) : TRuntime_boundsError.mk x.fX x.fY x.fSigned x.fCode = x := by cases x; rfl

def TRuntime_errorAddressString.re (x : TRuntime_errorAddressString) : TRuntime_errorAddressString := TRuntime_errorAddressString.mk x.fMsg x.fAddr

@[simp] theorem TRuntime_errorAddressString.re_eq (x : TRuntime_errorAddressString) : x.re = x := by cases x; rfl

theorem TRuntime_errorAddressString.eta (x : TRuntime_errorAddressString) : TRuntime_errorAddressString.mk x.fMsg x.fAddr = x := by cases x; rfl

def TScope.re (x : TScope) : TScope := TScope.mk x.fVars x.fFunctions x.fTypes

@[simp] theorem TScope.re_eq (x : TScope) : x.re = x := by cases x; rfl

theorem TScope.eta (x : TScope) : TScope.mk x.fVars x.fFunctions x.fTypes = x := by cases x; rfl

def TValue.re (x : TValue) : TValue := TValue.mk x.fKind x.fNum x.fText x.fRef

@[simp] theorem TValue.re_eq (x : TValue) : x.re = x := by cases x; rfl

theorem TValue.eta (x : TValue) : TValue.mk x.fKind x.fNum x.fText x.fRef = x := by cases x; rfl

def TBinding.re (x : TBinding) : TBinding := TBinding.mk x.fName x.fValue

@[simp] theorem TBinding.re_eq (x : TBinding) : x.re = x := by cases x; rfl

theorem TBinding.eta (x : TBinding) : TBinding.mk x.fName x.fValue = x := by cases x; rfl

def TFunction.re (x : TFunction) : TFunction := TFunction.mk x.fName x.fParams x.fLocals x.fLabel

@[simp] theorem TFunction.re_eq (x : TFunction) : x.re = x := by cases x; rfl

theorem TFunction.eta (x : TFunction) : TFunction.mk x.fName x.fParams x.fLocals x.fLabel = x := by cases x; rfl

def TRecordType.re (x : TRecordType) : TRecordType := TRecordType.mk x.fName x.fFields

@[simp] theorem TRecordType.re_eq (x : TRecordType) : x.re = x := by cases x; rfl

theorem TRecordType.eta (x : TRecordType) : TRecordType.mk x.fName x.fFields = x := by cases x; rfl

theorem SS_empty {n : Nat} (h7 : ¬ n = 7) (h13 : ¬ n = 13) (h25 : ¬ n = 25) (h40 : ¬ n = 40) (h42 : ¬ n = 42) (h48 : ¬ n = 48) (h51 : ¬ n = 51) : SS n = Empty := by
  unfold SS
  split <;> first | rfl | (exfalso; omega)

theorem GG.law (n : Nat) : SLaw GG n := by
  by_cases h7 : n = 7
  · subst h7; exact TRuntime_boundsError.ok.law
  by_cases h13 : n = 13
  · subst h13; exact TRuntime_errorAddressString.ok.law
  by_cases h25 : n = 25
  · subst h25; exact TScope.ok.law
  by_cases h40 : n = 40
  · subst h40; exact TValue.ok.law
  by_cases h42 : n = 42
  · subst h42; exact TBinding.ok.law
  by_cases h48 : n = 48
  · subst h48; exact TFunction.ok.law
  by_cases h51 : n = 51
  · subst h51; exact TRecordType.ok.law
  exact .empty fun x => (cast (SS_empty h7 h13 h25 h40 h42 h48 h51) x).elim

theorem GG.ok : SigOk GG := sigOk_of GG.law

noncomputable def OO : Opn GG where
  P := Try.prog
  tab := [(2, (.int .i64)), (3, (.int .i64)), (4, .bool), (5, (.int .u8)), (6, (.int .u8)), (7, (.st 7)), (8, (.st 7)), (9, .str), (10, .str), (11, .str), (12, (.int .u64)), (13, (.st 13)), (14, (.st 13)), (21, (.int .i32)), (22, (.sl (.st 42))), (23, (.sl (.st 48))), (24, (.sl (.st 51))), (25, (.st 25)), (26, (.st 25)), (29, (.sl (.st 42))), (30, (.sl (.st 48))), (31, (.sl (.st 51))), (32, (.st 25)), (33, (.st 25)), (40, (.st 40)), (41, (.st 40)), (42, (.st 42)), (43, (.st 42)), (47, (.sl .str)), (48, (.st 48)), (49, (.st 48)), (51, (.st 51)), (52, (.st 51)), (71, (.st 40)), (72, (.st 42)), (73, (.st 42)), (75, (.st 48)), (77, (.st 51)), (97, (.sl (.int .u8))), (100, (.sl (.sl .str))), (108, (.int .u64)), (110, (.int .i64)), (119, (.int .u32)), (121, (.int .u64)), (122, (.int .u64)), (138, (.int .u8)), (139, (.int .u8)), (142, (.int .i32)), (143, (.int .i32))]
  cty := scty

theorem OO.tot (n : Nat) (vs : List (V SS)) (h : Leaves GG (scty n) vs) : ∃ x, smake n vs = some x ∧ scells n x = vs := by
  by_cases h7 : n = 7
  · subst h7; exact TRuntime_boundsError.ok.tot h
  by_cases h13 : n = 13
  · subst h13; exact TRuntime_errorAddressString.ok.tot h
  by_cases h25 : n = 25
  · subst h25; exact TScope.ok.tot h
  by_cases h40 : n = 40
  · subst h40; exact TValue.ok.tot h
  by_cases h42 : n = 42
  · subst h42; exact TBinding.ok.tot h
  by_cases h48 : n = 48
  · subst h48; exact TFunction.ok.tot h
  by_cases h51 : n = 51
  · subst h51; exact TRecordType.ok.tot h
  exfalso
  have e : scty n = [.st n] := by
    unfold scty
    split <;> first | rfl | (exfalso; omega)
  rw [e] at h
  obtain ⟨x⟩ := leaves_st h
  exact (cast (SS_empty h7 h13 h25 h40 h42 h48 h51) x : Empty).elim

theorem OO.ok : OpnOk OO := ⟨by kernel_rfl, OO.tot⟩

def cut5 : Nat → Option (List (Nat × Option Ty))
  | 2 => some []
  | 3 => some [(1, none)]
  | 4 => some [(1, none), (3, none)]
  | 5 => some [(1, none), (3, none)]
  | 8 => some []
  | 10 => some [(1, none), (5, none)]
  | 11 => some [(1, none), (5, none)]
  | 13 => some []
  | 15 => some [(1, none), (6, none)]
  | 16 => some [(1, none), (6, none)]
  | 18 => some []
  | _ => none

def cut7 : Nat → Option (List (Nat × Option Ty))
  | 2 => some []
  | 3 => some [(1, none)]
  | 4 => some [(1, none), (3, none)]
  | _ => none

def cut9 : Nat → Option (List (Nat × Option Ty))
  | 5 => some [(0, none), (1, none), (5, none)]
  | _ => none

def cut10 : Nat → Option (List (Nat × Option Ty))
  | 5 => some [(0, none), (1, none), (5, none)]
  | _ => none

def cut11 : Nat → Option (List (Nat × Option Ty))
  | 5 => some [(0, none), (1, none), (5, none)]
  | _ => none

def cut13 : Nat → Option (List (Nat × Option Ty))
  | 11 => some [(1, none)]
  | 12 => some [(1, none), (4, none)]
  | _ => none

def cut15 : Nat → Option (List (Nat × Option Ty))
  | 2 => some []
  | 3 => some [(1, some (.ptr (.st 48)))]
  | _ => none

def cut17 : Nat → Option (List (Nat × Option Ty))
  | 3 => some [(0, none), (3, none), (4, none)]
  | _ => none

def cut18 : Nat → Option (List (Nat × Option Ty))
  | 3 => some [(0, none), (3, none), (4, none)]
  | _ => none

def cut19 : Nat → Option (List (Nat × Option Ty))
  | 3 => some [(0, none), (3, none), (4, none)]
  | _ => none

def cut20 : Nat → Option (List (Nat × Option Ty))
  | 2 => some [(0, none), (1, none), (5, none)]
  | _ => none

def cut22 : Nat → Option (List (Nat × Option Ty))
  | 2 => some [(0, none), (1, none), (5, none)]
  | _ => none

def cut24 : Nat → Option (List (Nat × Option Ty))
  | 2 => some [(0, none), (1, none), (5, none)]
  | _ => none

def cut26 : Nat → Option (List (Nat × Option Ty))
  | 2 => some [(1, none), (7, none), (8, none), (9, none)]
  | _ => none

def cut28 : Nat → Option (List (Nat × Option Ty))
  | 2 => some [(1, none), (7, none), (8, none), (9, none)]
  | _ => none

def cut30 : Nat → Option (List (Nat × Option Ty))
  | 2 => some [(1, none), (7, none), (8, none), (9, none)]
  | _ => none

def cut32 : Nat → Option (List (Nat × Option Ty))
  | 4 => some [(0, none), (1, none), (5, none)]
  | _ => none

def cut33 : Nat → Option (List (Nat × Option Ty))
  | 4 => some [(0, none), (1, none), (5, none)]
  | _ => none

def cut34 : Nat → Option (List (Nat × Option Ty))
  | 4 => some [(0, none), (1, none), (5, none)]
  | _ => none

def cut38 : Nat → Option (List (Nat × Option Ty))
  | 3 => some [(0, none), (1, none)]
  | 4 => some [(0, none), (1, none)]
  | 5 => some [(1, none)]
  | _ => none

def cut41 : Nat → Option (List (Nat × Option Ty))
  | 2 => some [(0, none), (3, none)]
  | _ => none

def cut46 : Nat → Option (List (Nat × Option Ty))
  | 11 => some [(1, none)]
  | 12 => some [(1, none), (4, none)]
  | _ => none

def cut48 : Nat → Option (List (Nat × Option Ty))
  | 11 => some [(6, none), (25, none), (26, none), (27, none)]
  | 3 => some [(0, none), (3, none), (9, none), (10, none), (11, none)]
  | _ => none

def cut49 : Nat → Option (List (Nat × Option Ty))
  | 2 => some [(1, none), (7, none), (8, none), (9, none)]
  | _ => none

def cut52 : Nat → Option (List (Nat × Option Ty))
  | 2 => some []
  | 3 => some [(0, none)]
  | _ => none

def cut57 : Nat → Option (List (Nat × Option Ty))
  | 5 => some [(0, none), (1, none), (5, none)]
  | _ => none

def cut60 : Nat → Option (List (Nat × Option Ty))
  | 2 => some [(0, none), (1, none), (5, none)]
  | _ => none

def cut62 : Nat → Option (List (Nat × Option Ty))
  | 3 => some [(0, none), (3, none), (4, none)]
  | _ => none

def cut64 : Nat → Option (List (Nat × Option Ty))
  | 2 => some [(1, none), (7, none), (8, none), (9, none)]
  | _ => none

def cut69 : Nat → Option (List (Nat × Option Ty))
  | 6 => some [(0, none)]
  | _ => none

def cut71 : Nat → Option (List (Nat × Option Ty))
  | 9 => some [(0, none), (3, none), (4, none), (5, none)]
  | 4 => some [(0, none), (3, none)]
  | _ => none

def cut73 : Nat → Option (List (Nat × Option Ty))
  | 4 => some [(0, none), (1, none), (5, none)]
  | _ => none

def cut76 : Nat → Option (List (Nat × Option Ty))
  | 16 => some [(0, none), (1, none), (2, none), (3, none), (8, none), (9, none), (10, none), (11, none)]
  | 17 => some [(0, none), (1, none), (2, none), (3, none), (8, none), (9, none), (10, none), (11, none)]
  | 2 => some [(0, none), (1, none), (2, none), (3, none), (8, none), (9, none)]
  | 15 => some [(0, none), (1, none), (2, none), (3, none), (8, none), (9, none), (10, none), (11, none), (12, none)]
  | _ => none

def cut78 : Nat → Option (List (Nat × Option Ty))
  | 1 => some [(0, none), (1, none), (2, none), (6, none)]
  | 4 => some [(0, none), (1, none), (2, none), (6, none), (7, none)]
  | _ => none

def cut79 : Nat → Option (List (Nat × Option Ty))
  | 8 => some [(0, none), (6, none), (7, none), (10, none)]
  | 4 => some [(0, none), (6, none), (7, none), (8, none), (9, none)]
  | _ => none

def cut80 : Nat → Option (List (Nat × Option Ty))
  | 5 => some [(0, none), (1, none), (6, none), (7, none), (8, none), (9, none)]
  | _ => none

def cut81 : Nat → Option (List (Nat × Option Ty))
  | 12 => some [(9, none), (11, none)]
  | _ => none

def cut82 : Nat → Option (List (Nat × Option Ty))
  | 2 => some [(0, none), (6, none), (7, none)]
  | _ => none

def cut83 : Nat → Option (List (Nat × Option Ty))
  | 3 => some [(0, none), (1, none), (2, none), (7, none), (8, none)]
  | 4 => some [(0, none), (1, none), (2, none), (7, none), (8, none)]
  | 5 => some [(0, none), (1, none), (2, none), (7, none), (8, none)]
  | 14 => some [(0, none), (1, none), (2, none), (7, none), (8, none), (9, none)]
  | 18 => some [(0, none), (1, none), (2, none), (7, none), (8, none)]
  | 20 => some [(0, none), (1, none), (2, none), (7, none), (8, none), (10, none)]
  | _ => none

def cut85 : Nat → Option (List (Nat × Option Ty))
  | 3 => some [(0, none), (1, none), (9, none), (10, none)]
  | 5 => some [(0, none), (1, none), (9, none), (10, none)]
  | _ => none

def cut86 : Nat → Option (List (Nat × Option Ty))
  | 13 => some [(0, none), (1, none), (10, none), (11, none)]
  | 3 => some [(0, none), (1, none), (10, none), (11, none)]
  | 5 => some [(0, none), (1, none), (10, none), (11, none)]
  | 15 => some [(0, none), (1, none), (10, none), (11, none)]
  | _ => none

def cut87 : Nat → Option (List (Nat × Option Ty))
  | 7 => some [(0, none), (2, none)]
  | _ => none

def cut88 : Nat → Option (List (Nat × Option Ty))
  | 7 => some [(0, none), (2, none)]
  | _ => none

def cut89 : Nat → Option (List (Nat × Option Ty))
  | 1 => some [(0, none), (2, none), (3, none), (8, none)]
  | 5 => some [(0, none), (2, none), (3, none), (8, none), (9, none)]
  | _ => none

def cutT : FuncId → Nat → Option (List (Nat × Option Ty))
  | 5 => cut5
  | 7 => cut7
  | 9 => cut9
  | 10 => cut10
  | 11 => cut11
  | 13 => cut13
  | 15 => cut15
  | 17 => cut17
  | 18 => cut18
  | 19 => cut19
  | 20 => cut20
  | 22 => cut22
  | 24 => cut24
  | 26 => cut26
  | 28 => cut28
  | 30 => cut30
  | 32 => cut32
  | 33 => cut33
  | 34 => cut34
  | 38 => cut38
  | 41 => cut41
  | 46 => cut46
  | 48 => cut48
  | 49 => cut49
  | 52 => cut52
  | 57 => cut57
  | 60 => cut60
  | 62 => cut62
  | 64 => cut64
  | 69 => cut69
  | 71 => cut71
  | 73 => cut73
  | 76 => cut76
  | 78 => cut78
  | 79 => cut79
  | 80 => cut80
  | 81 => cut81
  | 82 => cut82
  | 83 => cut83
  | 85 => cut85
  | 86 => cut86
  | 87 => cut87
  | 88 => cut88
  | 89 => cut89
  | _ => fun _ => none

def ownT : FuncId → Option (TypeId × (List (V GG.S) → Option (List (List UInt8))))
  | 51 => some (9, cloneV)
  | 69 => some (9, growV)
  | _ => none

def eatT : FuncId → Option (TypeId × (List (List UInt8) → Option (List (List UInt8))))
  | 50 => some (9, sortS)
  | _ => none

noncomputable def CC : Cfg GG where
  P := Try.prog
  refs := fun _ => false
  ext := fun _ => none
  cut := cutT
  glob := fun _ => none
  own := U.ownT
  eat := U.eatT

end Go.Dv.U
