/- The types of this program and the places where its loops are cut. -/
import Derived.Test.YthifliapgmalpaaGreatDvc
import Derived.Test.YthifliapgmalpaaGreatChecked
set_option linter.all false
set_option linter.unusedVariables false
set_option linter.unusedSimpArgs false
namespace Go.Dv.U

open Go Go.Dv Go.Proofs

set_option maxRecDepth 100000

structure TRuntime_boundsError where
  fX : Int
  fY : Int
  fSigned : Bool
  fCode : Int

structure TRuntime_errorAddressString where
  fMsg : (List UInt8)
  fAddr : Int

structure TValue where
  fKind : Int
  fNum : Int
  fText : (List UInt8)
  fRef : Int

structure TBinding where
  fName : (List UInt8)
  fValue : TValue

structure TFunction where
  fName : (List UInt8)
  fParams : (List (List UInt8))
  fLocals : (List (List UInt8))
  fLabel : (List UInt8)

structure TRecordType where
  fName : (List UInt8)
  fFields : (List (List UInt8))

structure TScope where
  fVars : (List TBinding)
  fFunctions : (List TFunction)
  fTypes : (List TRecordType)

def SS : Nat → Type
  | 7 => TRuntime_boundsError
  | 13 => TRuntime_errorAddressString
  | 25 => TScope
  | 45 => TValue
  | 47 => TBinding
  | 67 => TFunction
  | 70 => TRecordType
  | _ => Empty

def TRuntime_boundsError.ts : List Ty := [(.int .i64), (.int .i64), .bool, (.int .u8)]

def TRuntime_boundsError.to (x : TRuntime_boundsError) : lDen SS TRuntime_boundsError.ts := (x.fX, x.fY, x.fSigned, x.fCode, ())

def TRuntime_boundsError.of (p : lDen SS TRuntime_boundsError.ts) : TRuntime_boundsError := (⟨p.1, p.2.1, p.2.2.1, p.2.2.2.1⟩ : TRuntime_boundsError)

def TRuntime_errorAddressString.ts : List Ty := [.str, (.int .u64)]

def TRuntime_errorAddressString.to (x : TRuntime_errorAddressString) : lDen SS TRuntime_errorAddressString.ts := (x.fMsg, x.fAddr, ())

def TRuntime_errorAddressString.of (p : lDen SS TRuntime_errorAddressString.ts) : TRuntime_errorAddressString := (⟨p.1, p.2.1⟩ : TRuntime_errorAddressString)

def TScope.ts : List Ty := [(.sl (.st 47)), (.sl (.st 67)), (.sl (.st 70))]

def TScope.to (x : TScope) : lDen SS TScope.ts := (x.fVars, x.fFunctions, x.fTypes, ())

def TScope.of (p : lDen SS TScope.ts) : TScope := (⟨p.1, p.2.1, p.2.2.1⟩ : TScope)

def TValue.ts : List Ty := [(.int .i64), (.int .i64), .str, (.int .i64)]

def TValue.to (x : TValue) : lDen SS TValue.ts := (x.fKind, x.fNum, x.fText, x.fRef, ())

def TValue.of (p : lDen SS TValue.ts) : TValue := (⟨p.1, p.2.1, p.2.2.1, p.2.2.2.1⟩ : TValue)

def TBinding.ts : List Ty := [.str, (.int .i64), (.int .i64), .str, (.int .i64)]

def TBinding.to (x : TBinding) : lDen SS TBinding.ts := (x.fName, x.fValue.fKind, x.fValue.fNum, x.fValue.fText, x.fValue.fRef, ())

def TBinding.of (p : lDen SS TBinding.ts) : TBinding := (⟨p.1, (⟨p.2.1, p.2.2.1, p.2.2.2.1, p.2.2.2.2.1⟩ : TValue)⟩ : TBinding)

def TFunction.ts : List Ty := [.str, (.sl .str), (.sl .str), .str]

def TFunction.to (x : TFunction) : lDen SS TFunction.ts := (x.fName, x.fParams, x.fLocals, x.fLabel, ())

def TFunction.of (p : lDen SS TFunction.ts) : TFunction := (⟨p.1, p.2.1, p.2.2.1, p.2.2.2.1⟩ : TFunction)

def TRecordType.ts : List Ty := [.str, (.sl .str)]

def TRecordType.to (x : TRecordType) : lDen SS TRecordType.ts := (x.fName, x.fFields, ())

def TRecordType.of (p : lDen SS TRecordType.ts) : TRecordType := (⟨p.1, p.2.1⟩ : TRecordType)

def scells : (n : Nat) → SS n → List (V SS)
  | 7, x => cellsL SS TRuntime_boundsError.ts (TRuntime_boundsError.to x)
  | 13, x => cellsL SS TRuntime_errorAddressString.ts (TRuntime_errorAddressString.to x)
  | 25, x => cellsL SS TScope.ts (TScope.to x)
  | 45, x => cellsL SS TValue.ts (TValue.to x)
  | 47, x => cellsL SS TBinding.ts (TBinding.to x)
  | 67, x => cellsL SS TFunction.ts (TFunction.to x)
  | 70, x => cellsL SS TRecordType.ts (TRecordType.to x)
  | _, _ => []

def smake : (n : Nat) → List (V SS) → Option (SS n)
  | 7, c => (prjL SS TRuntime_boundsError.ts c).map TRuntime_boundsError.of
  | 13, c => (prjL SS TRuntime_errorAddressString.ts c).map TRuntime_errorAddressString.of
  | 25, c => (prjL SS TScope.ts c).map TScope.of
  | 45, c => (prjL SS TValue.ts c).map TValue.of
  | 47, c => (prjL SS TBinding.ts c).map TBinding.of
  | 67, c => (prjL SS TFunction.ts c).map TFunction.of
  | 70, c => (prjL SS TRecordType.ts c).map TRecordType.of
  | _, _ => none

def scsz : Nat → Nat
  | 7 => 4
  | 13 => 2
  | 25 => 3
  | 45 => 4
  | 47 => 5
  | 67 => 4
  | 70 => 2
  | _ => 0

def scty : Nat → List Ty
  | 7 => TRuntime_boundsError.ts
  | 13 => TRuntime_errorAddressString.ts
  | 25 => TScope.ts
  | 45 => TValue.ts
  | 47 => TBinding.ts
  | 67 => TFunction.ts
  | 70 => TRecordType.ts
  | n => [.st n]

def stys : TypeId → Option Ty
  | 2 => some (.int .i64)
  | 3 => some (.int .i64)
  | 4 => some .bool
  | 5 => some (.int .u8)
  | 6 => some (.int .u8)
  | 7 => some (.st 7)
  | 8 => some (.st 7)
  | 9 => some .str
  | 10 => some .str
  | 11 => some .str
  | 12 => some (.int .u64)
  | 13 => some (.st 13)
  | 14 => some (.st 13)
  | 21 => some (.int .i32)
  | 22 => some (.sl (.st 47))
  | 23 => some (.sl (.st 67))
  | 24 => some (.sl (.st 70))
  | 25 => some (.st 25)
  | 26 => some (.st 25)
  | 28 => some (.sl (.st 45))
  | 30 => some (.sl (.st 47))
  | 31 => some (.sl (.st 67))
  | 32 => some (.sl (.st 70))
  | 33 => some (.st 25)
  | 34 => some (.st 25)
  | 45 => some (.st 45)
  | 46 => some (.st 45)
  | 47 => some (.st 47)
  | 48 => some (.st 47)
  | 62 => some (.st 45)
  | 63 => some (.st 47)
  | 64 => some (.st 47)
  | 66 => some (.sl .str)
  | 67 => some (.st 67)
  | 68 => some (.st 67)
  | 70 => some (.st 70)
  | 71 => some (.st 70)
  | 75 => some (.st 67)
  | 77 => some (.st 70)
  | 96 => some (.sl (.int .u8))
  | 112 => some (.sl (.sl .str))
  | 118 => some (.int .u64)
  | 120 => some (.int .i64)
  | 129 => some (.int .u32)
  | 131 => some (.int .u64)
  | 132 => some (.int .u64)
  | 148 => some (.int .u8)
  | 149 => some (.int .u8)
  | 152 => some (.int .i32)
  | 153 => some (.int .i32)
  | _ => none

def sel : Ty → TypeId
  | (.int .u8) => 5
  | (.sl .str) => 66
  | (.st 45) => 46
  | (.st 47) => 48
  | (.st 67) => 75
  | (.st 70) => 77
  | .str => 9
  | _ => 0

def sfl : Nat → Bool
  | 7 => true
  | 13 => true
  | 25 => false
  | 45 => true
  | 47 => true
  | 67 => false
  | 70 => false
  | _ => false

def GG : Sig where
  S := SS
  csz := scsz
  cells := scells
  make := smake
  tyOf := stys
  el := sel
  fl := sfl

theorem TRuntime_boundsError.ok : SOk GG 7 TRuntime_boundsError.ts TRuntime_boundsError.to TRuntime_boundsError.of := ⟨rfl, fun _ => rfl, fun _ => rfl, rfl, fun _ => rfl, rfl⟩

theorem TRuntime_errorAddressString.ok : SOk GG 13 TRuntime_errorAddressString.ts TRuntime_errorAddressString.to TRuntime_errorAddressString.of := ⟨rfl, fun _ => rfl, fun _ => rfl, rfl, fun _ => rfl, rfl⟩

theorem TScope.ok : SOk GG 25 TScope.ts TScope.to TScope.of := ⟨rfl, fun _ => rfl, fun _ => rfl, rfl, fun _ => rfl, rfl⟩

theorem TValue.ok : SOk GG 45 TValue.ts TValue.to TValue.of := ⟨rfl, fun _ => rfl, fun _ => rfl, rfl, fun _ => rfl, rfl⟩

theorem TBinding.ok : SOk GG 47 TBinding.ts TBinding.to TBinding.of := ⟨rfl, fun _ => rfl, fun _ => rfl, rfl, fun _ => rfl, rfl⟩

theorem TFunction.ok : SOk GG 67 TFunction.ts TFunction.to TFunction.of := ⟨rfl, fun _ => rfl, fun _ => rfl, rfl, fun _ => rfl, rfl⟩

theorem TRecordType.ok : SOk GG 70 TRecordType.ts TRecordType.to TRecordType.of := ⟨rfl, fun _ => rfl, fun _ => rfl, rfl, fun _ => rfl, rfl⟩

def TRuntime_boundsError.re (x : TRuntime_boundsError) : TRuntime_boundsError := TRuntime_boundsError.mk x.fX x.fY x.fSigned x.fCode

@[simp] theorem TRuntime_boundsError.re_eq (x : TRuntime_boundsError) : x.re = x := by cases x; rfl

theorem TRuntime_boundsError.eta (x : TRuntime_boundsError) : TRuntime_boundsError.mk x.fX x.fY x.fSigned x.fCode = x := by cases x; rfl

def TRuntime_errorAddressString.re (x : TRuntime_errorAddressString) : TRuntime_errorAddressString := TRuntime_errorAddressString.mk x.fMsg x.fAddr

@[simp] theorem TRuntime_errorAddressString.re_eq (x : TRuntime_errorAddressString) : x.re = x := by cases x; rfl

theorem TRuntime_errorAddressString.eta (x : TRuntime_errorAddressString) : TRuntime_errorAddressString.mk x.fMsg x.fAddr = x := by cases x; rfl

def TScope.re (x : TScope) : TScope := TScope.mk x.fVars x.fFunctions x.fTypes

@[simp] theorem TScope.re_eq (x : TScope) : x.re = x := by cases x; rfl

theorem TScope.eta (x : TScope) : TScope.mk x.fVars x.fFunctions x.fTypes = x := by cases x; rfl

def TValue.re (x : TValue) : TValue := TValue.mk x.fKind x.fNum x.fText x.fRef

@[simp] theorem TValue.re_eq (x : TValue) : x.re = x := by cases x; rfl

theorem TValue.eta (x : TValue) : TValue.mk x.fKind x.fNum x.fText x.fRef = x := by cases x; rfl

def TBinding.re (x : TBinding) : TBinding := TBinding.mk x.fName x.fValue

@[simp] theorem TBinding.re_eq (x : TBinding) : x.re = x := by cases x; rfl

theorem TBinding.eta (x : TBinding) : TBinding.mk x.fName x.fValue = x := by cases x; rfl

def TFunction.re (x : TFunction) : TFunction := TFunction.mk x.fName x.fParams x.fLocals x.fLabel

@[simp] theorem TFunction.re_eq (x : TFunction) : x.re = x := by cases x; rfl

theorem TFunction.eta (x : TFunction) : TFunction.mk x.fName x.fParams x.fLocals x.fLabel = x := by cases x; rfl

def TRecordType.re (x : TRecordType) : TRecordType := TRecordType.mk x.fName x.fFields

@[simp] theorem TRecordType.re_eq (x : TRecordType) : x.re = x := by cases x; rfl

theorem TRecordType.eta (x : TRecordType) : TRecordType.mk x.fName x.fFields = x := by cases x; rfl

theorem SS_empty {n : Nat} (h7 : ¬ n = 7) (h13 : ¬ n = 13) (h25 : ¬ n = 25) (h45 : ¬ n = 45) (h47 : ¬ n = 47) (h67 : ¬ n = 67) (h70 : ¬ n = 70) : SS n = Empty := by
  unfold SS
  split <;> first | rfl | (exfalso; omega)

theorem GG.law (n : Nat) : SLaw GG n := by
  by_cases h7 : n = 7
  · subst h7; exact TRuntime_boundsError.ok.law
  by_cases h13 : n = 13
  · subst h13; exact TRuntime_errorAddressString.ok.law
  by_cases h25 : n = 25
  · subst h25; exact TScope.ok.law
  by_cases h45 : n = 45
  · subst h45; exact TValue.ok.law
  by_cases h47 : n = 47
  · subst h47; exact TBinding.ok.law
  by_cases h67 : n = 67
  · subst h67; exact TFunction.ok.law
  by_cases h70 : n = 70
  · subst h70; exact TRecordType.ok.law
  exact .empty fun x => (cast (SS_empty h7 h13 h25 h45 h47 h67 h70) x).elim

theorem GG.ok : SigOk GG := sigOk_of GG.law

noncomputable def OO : Opn GG where
  P := Tryz.prog
  tab := [(2, (.int .i64)), (3, (.int .i64)), (4, .bool), (5, (.int .u8)), (6, (.int .u8)), (7, (.st 7)), (8, (.st 7)), (9, .str), (10, .str), (11, .str), (12, (.int .u64)), (13, (.st 13)), (14, (.st 13)), (21, (.int .i32)), (22, (.sl (.st 47))), (23, (.sl (.st 67))), (24, (.sl (.st 70))), (25, (.st 25)), (26, (.st 25)), (28, (.sl (.st 45))), (30, (.sl (.st 47))), (31, (.sl (.st 67))), (32, (.sl (.st 70))), (33, (.st 25)), (34, (.st 25)), (45, (.st 45)), (46, (.st 45)), (47, (.st 47)), (48, (.st 47)), (62, (.st 45)), (63, (.st 47)), (64, (.st 47)), (66, (.sl .str)), (67, (.st 67)), (68, (.st 67)), (70, (.st 70)), (71, (.st 70)), (75, (.st 67)), (77, (.st 70)), (96, (.sl (.int .u8))), (112, (.sl (.sl .str))), (118, (.int .u64)), (120, (.int .i64)), (129, (.int .u32)), (131, (.int .u64)), (132, (.int .u64)), (148, (.int .u8)), (149, (.int .u8)), (152, (.int .i32)), (153, (.int .i32))]
  cty := scty

theorem OO.tot (n : Nat) (vs : List (V SS)) (h : Leaves GG (scty n) vs) : ∃ x, smake n vs = some x ∧ scells n x = vs := by
  by_cases h7 : n = 7
  · subst h7; exact TRuntime_boundsError.ok.tot h
  by_cases h13 : n = 13
  · subst h13; exact TRuntime_errorAddressString.ok.tot h
  by_cases h25 : n = 25
  · subst h25; exact TScope.ok.tot h
  by_cases h45 : n = 45
  · subst h45; exact TValue.ok.tot h
  by_cases h47 : n = 47
  · subst h47; exact TBinding.ok.tot h
  by_cases h67 : n = 67
  · subst h67; exact TFunction.ok.tot h
  by_cases h70 : n = 70
  · subst h70; exact TRecordType.ok.tot h
  exfalso
  have e : scty n = [.st n] := by
    unfold scty
    split <;> first | rfl | (exfalso; omega)
  rw [e] at h
  obtain ⟨x⟩ := leaves_st h
  exact (cast (SS_empty h7 h13 h25 h45 h47 h67 h70) x : Empty).elim

theorem OO.ok : OpnOk OO := ⟨by kernel_rfl, OO.tot⟩

def cut5 : Nat → Option (List (Nat × Option Ty))
  | 5 => some [(1, none), (3, none), (4, none)]
  | _ => none

def cut8 : Nat → Option (List (Nat × Option Ty))
  | 4 => some [(0, none), (1, none), (5, none)]
  | _ => none

def cut11 : Nat → Option (List (Nat × Option Ty))
  | 2 => some [(0, none), (1, none), (5, none)]
  | _ => none

def cut12 : Nat → Option (List (Nat × Option Ty))
  | 2 => some [(0, none), (1, none), (5, none)]
  | _ => none

def cut13 : Nat → Option (List (Nat × Option Ty))
  | 5 => some [(0, none), (1, none), (5, none)]
  | _ => none

def cut14 : Nat → Option (List (Nat × Option Ty))
  | 5 => some [(0, none), (1, none), (5, none)]
  | _ => none

def cut15 : Nat → Option (List (Nat × Option Ty))
  | 5 => some [(0, none), (1, none), (5, none)]
  | _ => none

def cut16 : Nat → Option (List (Nat × Option Ty))
  | 2 => some []
  | 3 => some [(1, none)]
  | 4 => some [(1, none), (3, none)]
  | 5 => some [(1, none), (3, none)]
  | 8 => some []
  | 10 => some [(1, none), (5, none)]
  | 11 => some [(1, none), (5, none)]
  | 13 => some []
  | 15 => some [(1, none), (6, none)]
  | 16 => some [(1, none), (6, none)]
  | 18 => some []
  | _ => none

def cut17 : Nat → Option (List (Nat × Option Ty))
  | 3 => some [(0, none), (3, none), (4, none)]
  | _ => none

def cut18 : Nat → Option (List (Nat × Option Ty))
  | 3 => some [(0, none), (3, none), (4, none)]
  | _ => none

def cut19 : Nat → Option (List (Nat × Option Ty))
  | 3 => some [(0, none), (3, none), (4, none)]
  | _ => none

def cut20 : Nat → Option (List (Nat × Option Ty))
  | 2 => some []
  | 3 => some [(1, none)]
  | 4 => some [(1, none), (3, none)]
  | _ => none

def cut21 : Nat → Option (List (Nat × Option Ty))
  | 3 => some [(3, none), (8, none), (9, none), (10, none)]
  | _ => none

def cut23 : Nat → Option (List (Nat × Option Ty))
  | 4 => some [(0, none), (1, none), (5, none)]
  | _ => none

def cut24 : Nat → Option (List (Nat × Option Ty))
  | 4 => some [(0, none), (1, none), (5, none)]
  | _ => none

def cut25 : Nat → Option (List (Nat × Option Ty))
  | 4 => some [(0, none), (1, none), (5, none)]
  | _ => none

def cut26 : Nat → Option (List (Nat × Option Ty))
  | 2 => some [(0, none), (1, none), (5, none)]
  | _ => none

def cut27 : Nat → Option (List (Nat × Option Ty))
  | 2 => some [(0, none), (1, none), (5, none)]
  | _ => none

def cut28 : Nat → Option (List (Nat × Option Ty))
  | 2 => some [(0, none), (1, none), (5, none)]
  | _ => none

def cut29 : Nat → Option (List (Nat × Option Ty))
  | 4 => some [(0, none), (3, none)]
  | _ => none

def cut34 : Nat → Option (List (Nat × Option Ty))
  | 11 => some [(1, none)]
  | 12 => some [(1, none), (4, none)]
  | _ => none

def cut36 : Nat → Option (List (Nat × Option Ty))
  | 2 => some []
  | 3 => some [(1, some (.ptr (.st 67)))]
  | _ => none

def cut41 : Nat → Option (List (Nat × Option Ty))
  | 2 => some [(0, none), (1, none), (5, none)]
  | _ => none

def cut43 : Nat → Option (List (Nat × Option Ty))
  | 2 => some [(0, none), (1, none), (5, none)]
  | _ => none

def cut45 : Nat → Option (List (Nat × Option Ty))
  | 2 => some [(0, none), (1, none), (5, none)]
  | _ => none

def cut47 : Nat → Option (List (Nat × Option Ty))
  | 2 => some [(1, none), (7, none), (8, none), (9, none)]
  | _ => none

def cut49 : Nat → Option (List (Nat × Option Ty))
  | 2 => some [(1, none), (7, none), (8, none), (9, none)]
  | _ => none

def cut51 : Nat → Option (List (Nat × Option Ty))
  | 2 => some [(1, none), (7, none), (8, none), (9, none)]
  | _ => none

def cut56 : Nat → Option (List (Nat × Option Ty))
  | 2 => some [(0, none), (1, none), (5, none)]
  | _ => none

def cut58 : Nat → Option (List (Nat × Option Ty))
  | 5 => some [(0, none), (1, none), (5, none)]
  | _ => none

def cut59 : Nat → Option (List (Nat × Option Ty))
  | 3 => some [(0, none), (1, none)]
  | 4 => some [(0, none), (1, none)]
  | 5 => some [(1, none)]
  | _ => none

def cut62 : Nat → Option (List (Nat × Option Ty))
  | 2 => some [(0, none), (3, none)]
  | _ => none

def cut64 : Nat → Option (List (Nat × Option Ty))
  | 3 => some [(0, none), (3, none), (4, none)]
  | _ => none

def cut66 : Nat → Option (List (Nat × Option Ty))
  | 11 => some [(1, none)]
  | 12 => some [(1, none), (4, none)]
  | _ => none

def cut68 : Nat → Option (List (Nat × Option Ty))
  | 11 => some [(6, none), (25, none), (26, none), (27, none)]
  | 3 => some [(0, none), (3, none), (9, none), (10, none), (11, none)]
  | _ => none

def cut69 : Nat → Option (List (Nat × Option Ty))
  | 2 => some [(1, none), (7, none), (8, none), (9, none)]
  | _ => none

def cut72 : Nat → Option (List (Nat × Option Ty))
  | 2 => some []
  | 3 => some [(0, none)]
  | _ => none

def cut73 : Nat → Option (List (Nat × Option Ty))
  | 4 => some [(0, none), (1, none), (5, none)]
  | _ => none

def cut76 : Nat → Option (List (Nat × Option Ty))
  | 2 => some [(0, none), (1, none), (5, none)]
  | _ => none

def cut78 : Nat → Option (List (Nat × Option Ty))
  | 2 => some [(1, none), (7, none), (8, none), (9, none)]
  | _ => none

def cut83 : Nat → Option (List (Nat × Option Ty))
  | 6 => some [(0, none)]
  | _ => none

def cut85 : Nat → Option (List (Nat × Option Ty))
  | 9 => some [(0, none), (3, none), (4, none), (5, none)]
  | 4 => some [(0, none), (3, none)]
  | _ => none

def cut88 : Nat → Option (List (Nat × Option Ty))
  | 16 => some [(0, none), (1, none), (2, none), (3, none), (8, none), (9, none), (10, none), (11, none)]
  | 17 => some [(0, none), (1, none), (2, none), (3, none), (8, none), (9, none), (10, none), (11, none)]
  | 2 => some [(0, none), (1, none), (2, none), (3, none), (8, none), (9, none)]
  | 15 => some [(0, none), (1, none), (2, none), (3, none), (8, none), (9, none), (10, none), (11, none), (12, none)]
  | _ => none

def cut90 : Nat → Option (List (Nat × Option Ty))
  | 1 => some [(0, none), (1, none), (2, none), (6, none)]
  | 4 => some [(0, none), (1, none), (2, none), (6, none), (7, none)]
  | _ => none

def cut91 : Nat → Option (List (Nat × Option Ty))
  | 8 => some [(0, none), (6, none), (7, none), (10, none)]
  | 4 => some [(0, none), (6, none), (7, none), (8, none), (9, none)]
  | _ => none

def cut92 : Nat → Option (List (Nat × Option Ty))
  | 5 => some [(0, none), (1, none), (6, none), (7, none), (8, none), (9, none)]
  | _ => none

def cut93 : Nat → Option (List (Nat × Option Ty))
  | 12 => some [(9, none), (11, none)]
  | _ => none

def cut94 : Nat → Option (List (Nat × Option Ty))
  | 2 => some [(0, none), (6, none), (7, none)]
  | _ => none

def cut95 : Nat → Option (List (Nat × Option Ty))
  | 3 => some [(0, none), (1, none), (2, none), (7, none), (8, none)]
  | 4 => some [(0, none), (1, none), (2, none), (7, none), (8, none)]
  | 5 => some [(0, none), (1, none), (2, none), (7, none), (8, none)]
  | 14 => some [(0, none), (1, none), (2, none), (7, none), (8, none), (9, none)]
  | 18 => some [(0, none), (1, none), (2, none), (7, none), (8, none)]
  | 20 => some [(0, none), (1, none), (2, none), (7, none), (8, none), (10, none)]
  | _ => none

def cut97 : Nat → Option (List (Nat × Option Ty))
  | 3 => some [(0, none), (1, none), (9, none), (10, none)]
  | 5 => some [(0, none), (1, none), (9, none), (10, none)]
  | _ => none

def cut98 : Nat → Option (List (Nat × Option Ty))
  | 13 => some [(0, none), (1, none), (10, none), (11, none)]
  | 3 => some [(0, none), (1, none), (10, none), (11, none)]
  | 5 => some [(0, none), (1, none), (10, none), (11, none)]
  | 15 => some [(0, none), (1, none), (10, none), (11, none)]
  | _ => none

def cut99 : Nat → Option (List (Nat × Option Ty))
  | 7 => some [(0, none), (2, none)]
  | _ => none

def cut100 : Nat → Option (List (Nat × Option Ty))
  | 7 => some [(0, none), (2, none)]
  | _ => none

def cut101 : Nat → Option (List (Nat × Option Ty))
  | 1 => some [(0, none), (2, none), (3, none), (8, none)]
  | 5 => some [(0, none), (2, none), (3, none), (8, none), (9, none)]
  | _ => none

def cutT : FuncId → Nat → Option (List (Nat × Option Ty))
  | 5 => cut5
  | 8 => cut8
  | 11 => cut11
  | 12 => cut12
  | 13 => cut13
  | 14 => cut14
  | 15 => cut15
  | 16 => cut16
  | 17 => cut17
  | 18 => cut18
  | 19 => cut19
  | 20 => cut20
  | 21 => cut21
  | 23 => cut23
  | 24 => cut24
  | 25 => cut25
  | 26 => cut26
  | 27 => cut27
  | 28 => cut28
  | 29 => cut29
  | 34 => cut34
  | 36 => cut36
  | 41 => cut41
  | 43 => cut43
  | 45 => cut45
  | 47 => cut47
  | 49 => cut49
  | 51 => cut51
  | 56 => cut56
  | 58 => cut58
  | 59 => cut59
  | 62 => cut62
  | 64 => cut64
  | 66 => cut66
  | 68 => cut68
  | 69 => cut69
  | 72 => cut72
  | 73 => cut73
  | 76 => cut76
  | 78 => cut78
  | 83 => cut83
  | 85 => cut85
  | 88 => cut88
  | 90 => cut90
  | 91 => cut91
  | 92 => cut92
  | 93 => cut93
  | 94 => cut94
  | 95 => cut95
  | 97 => cut97
  | 98 => cut98
  | 99 => cut99
  | 100 => cut100
  | 101 => cut101
  | _ => fun _ => none

def ownT : FuncId → Option (TypeId × (List (V GG.S) → Option (List (List UInt8))))
  | 71 => some (9, cloneV)
  | 83 => some (9, growV)
  | _ => none

def eatT : FuncId → Option (TypeId × (List (List UInt8) → Option (List (List UInt8))))
  | 70 => some (9, sortS)
  | _ => none

noncomputable def CC : Cfg GG where
  P := Tryz.prog
  refs := fun f => [103, 104, 105, 107].contains f
  ext := fun _ => none
  cut := cutT
  glob := fun _ => none
  gint := fun _ => false
  gtab := fun _ => none
  own := U.ownT
  bld := fun _ => none
  ctor := fun _ => none
  eat := U.eatT
  trE := fun e => [34, 75, 77].contains e
  ownR := fun f => [6, 7, 17, 18, 19, 21, 39, 40, 64].contains f
  wrf := fun f => [10, 11, 26, 27, 28, 56].contains f

end Go.Dv.U
