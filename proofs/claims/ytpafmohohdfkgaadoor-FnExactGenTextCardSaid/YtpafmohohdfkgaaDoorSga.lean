/- The types of this program and the places where its loops are cut. -/
import Derived.Test.YtpafmohohdfkgaaDoorDvb
import Derived.Test.YtpafmohohdfkgaaDoorChecked
set_option linter.all false
set_option linter.unusedVariables false
set_option linter.unusedSimpArgs false
namespace Go.Dv.U

open Go Go.Dv Go.Proofs

set_option maxRecDepth 100000

structure TRuntime_boundsError where
  fX : Int
  fY : Int
  fSigned : Bool
  fCode : Int

structure TRuntime_errorAddressString where
  fMsg : (List UInt8)
  fAddr : Int

structure TExpr where
  fKind : Int
  fNum : Int
  fText : (List UInt8)
  fKids : (List TExpr)

structure TPattern where
  fKind : Int
  fNum : Int
  fText : (List UInt8)
  fKids : (List TPattern)

structure TValue where
  fKind : Int
  fNum : Int
  fText : (List UInt8)
  fRef : Int

structure TGen where
  fKind : Int
  fNum : Int
  fText : (List UInt8)
  fValue : TValue
  fKids : (List TGen)

structure TUtf8_acceptRange where
  fLo : Int
  fHi : Int

def SS : Nat → Type
  | 7 => TRuntime_boundsError
  | 13 => TRuntime_errorAddressString
  | 23 => TExpr
  | 34 => TPattern
  | 44 => TValue
  | 51 => TGen
  | 159 => TUtf8_acceptRange
  | _ => Empty

def TRuntime_boundsError.ts : List Ty := [(.int .i64), (.int .i64), .bool, (.int .u8)]

def TRuntime_boundsError.to (x : TRuntime_boundsError) : lDen SS TRuntime_boundsError.ts := (x.fX, x.fY, x.fSigned, x.fCode, ())

def TRuntime_boundsError.of (p : lDen SS TRuntime_boundsError.ts) : TRuntime_boundsError := (⟨p.1, p.2.1, p.2.2.1, p.2.2.2.1⟩ : TRuntime_boundsError)

def TRuntime_errorAddressString.ts : List Ty := [.str, (.int .u64)]

def TRuntime_errorAddressString.to (x : TRuntime_errorAddressString) : lDen SS TRuntime_errorAddressString.ts := (x.fMsg, x.fAddr, ())

def TRuntime_errorAddressString.of (p : lDen SS TRuntime_errorAddressString.ts) : TRuntime_errorAddressString := (⟨p.1, p.2.1⟩ : TRuntime_errorAddressString)

def TExpr.ts : List Ty := [(.int .i64), (.int .i64), .str, (.sl (.st 23))]

def TExpr.to (x : TExpr) : lDen SS TExpr.ts := (x.fKind, x.fNum, x.fText, x.fKids, ())

def TExpr.of (p : lDen SS TExpr.ts) : TExpr := (⟨p.1, p.2.1, p.2.2.1, p.2.2.2.1⟩ : TExpr)

def TPattern.ts : List Ty := [(.int .i64), (.int .i64), .str, (.sl (.st 34))]

def TPattern.to (x : TPattern) : lDen SS TPattern.ts := (x.fKind, x.fNum, x.fText, x.fKids, ())

def TPattern.of (p : lDen SS TPattern.ts) : TPattern := (⟨p.1, p.2.1, p.2.2.1, p.2.2.2.1⟩ : TPattern)

def TValue.ts : List Ty := [(.int .i64), (.int .i64), .str, (.int .i64)]

def TValue.to (x : TValue) : lDen SS TValue.ts := (x.fKind, x.fNum, x.fText, x.fRef, ())

def TValue.of (p : lDen SS TValue.ts) : TValue := (⟨p.1, p.2.1, p.2.2.1, p.2.2.2.1⟩ : TValue)

def TGen.ts : List Ty := [(.int .i64), (.int .i64), .str, (.int .i64), (.int .i64), .str, (.int .i64), (.sl (.st 51))]

def TGen.to (x : TGen) : lDen SS TGen.ts := (x.fKind, x.fNum, x.fText, x.fValue.fKind, x.fValue.fNum, x.fValue.fText, x.fValue.fRef, x.fKids, ())

def TGen.of (p : lDen SS TGen.ts) : TGen := (⟨p.1, p.2.1, p.2.2.1, (⟨p.2.2.2.1, p.2.2.2.2.1, p.2.2.2.2.2.1, p.2.2.2.2.2.2.1⟩ : TValue), p.2.2.2.2.2.2.2.1⟩ : TGen)

def TUtf8_acceptRange.ts : List Ty := [(.int .u8), (.int .u8)]

def TUtf8_acceptRange.to (x : TUtf8_acceptRange) : lDen SS TUtf8_acceptRange.ts := (x.fLo, x.fHi, ())

def TUtf8_acceptRange.of (p : lDen SS TUtf8_acceptRange.ts) : TUtf8_acceptRange := (⟨p.1, p.2.1⟩ : TUtf8_acceptRange)

def scells : (n : Nat) → SS n → List (V SS)
  | 7, x => cellsL SS TRuntime_boundsError.ts (TRuntime_boundsError.to x)
  | 13, x => cellsL SS TRuntime_errorAddressString.ts (TRuntime_errorAddressString.to x)
  | 23, x => cellsL SS TExpr.ts (TExpr.to x)
  | 34, x => cellsL SS TPattern.ts (TPattern.to x)
  | 44, x => cellsL SS TValue.ts (TValue.to x)
  | 51, x => cellsL SS TGen.ts (TGen.to x)
  | 159, x => cellsL SS TUtf8_acceptRange.ts (TUtf8_acceptRange.to x)
  | _, _ => []

def smake : (n : Nat) → List (V SS) → Option (SS n)
  | 7, c => (prjL SS TRuntime_boundsError.ts c).map TRuntime_boundsError.of
  | 13, c => (prjL SS TRuntime_errorAddressString.ts c).map TRuntime_errorAddressString.of
  | 23, c => (prjL SS TExpr.ts c).map TExpr.of
  | 34, c => (prjL SS TPattern.ts c).map TPattern.of
  | 44, c => (prjL SS TValue.ts c).map TValue.of
  | 51, c => (prjL SS TGen.ts c).map TGen.of
  | 159, c => (prjL SS TUtf8_acceptRange.ts c).map TUtf8_acceptRange.of
  | _, _ => none

def scsz : Nat → Nat
  | 7 => 4
  | 13 => 2
  | 23 => 4
  | 34 => 4
  | 44 => 4
  | 51 => 8
  | 159 => 2
  | _ => 0

def scty : Nat → List Ty
  | 7 => TRuntime_boundsError.ts
  | 13 => TRuntime_errorAddressString.ts
  | 23 => TExpr.ts
  | 34 => TPattern.ts
  | 44 => TValue.ts
  | 51 => TGen.ts
  | 159 => TUtf8_acceptRange.ts
  | n => [.st n]

def stys : TypeId → Option Ty
  | 2 => some (.int .i64)
  | 3 => some (.int .i64)
  | 4 => some .bool
  | 5 => some (.int .u8)
  | 6 => some (.int .u8)
  | 7 => some (.st 7)
  | 8 => some (.st 7)
  | 9 => some .str
  | 10 => some .str
  | 11 => some .str
  | 12 => some (.int .u64)
  | 13 => some (.st 13)
  | 14 => some (.st 13)
  | 21 => some (.int .i32)
  | 22 => some (.sl (.st 23))
  | 23 => some (.st 23)
  | 24 => some (.st 23)
  | 27 => some (.sl (.st 23))
  | 28 => some (.st 23)
  | 29 => some (.st 23)
  | 33 => some (.sl (.st 34))
  | 34 => some (.st 34)
  | 35 => some (.st 34)
  | 38 => some (.sl (.st 34))
  | 39 => some (.st 34)
  | 40 => some (.st 34)
  | 44 => some (.st 44)
  | 45 => some (.st 44)
  | 49 => some (.st 44)
  | 50 => some (.sl (.st 51))
  | 51 => some (.st 51)
  | 52 => some (.st 51)
  | 55 => some (.sl (.st 51))
  | 56 => some (.st 51)
  | 57 => some (.st 51)
  | 63 => some (.ptr (.st 23))
  | 77 => some (.ptr (.st 51))
  | 90 => some (.sl .str)
  | 107 => some (.sl (.int .u8))
  | 135 => some (.int .u64)
  | 147 => some (.int .u64)
  | 150 => some (.int .u32)
  | 159 => some (.st 159)
  | 160 => some (.st 159)
  | 170 => some (.int .u8)
  | 171 => some (.int .u8)
  | 173 => some (.int .i32)
  | 174 => some (.int .i32)
  | _ => none

def GG : Sig where
  S := SS
  csz := scsz
  cells := scells
  make := smake
  tyOf := stys

theorem TRuntime_boundsError.ok : SOk GG 7 TRuntime_boundsError.ts TRuntime_boundsError.to TRuntime_boundsError.of := ⟨rfl, fun _ => rfl, fun _ => rfl, rfl, fun _ => rfl⟩

theorem TRuntime_errorAddressString.ok : SOk GG 13 TRuntime_errorAddressString.ts TRuntime_errorAddressString.to TRuntime_errorAddressString.of := ⟨rfl, fun _ => rfl, fun _ => rfl, rfl, fun _ => rfl⟩

theorem TExpr.ok : SOk GG 23 TExpr.ts TExpr.to TExpr.of := ⟨rfl, fun _ => rfl, fun _ => rfl, rfl, fun _ => rfl⟩

theorem TPattern.ok : SOk GG 34 TPattern.ts TPattern.to TPattern.of := ⟨rfl, fun _ => rfl, fun _ => rfl, rfl, fun _ => rfl⟩

theorem TValue.ok : SOk GG 44 TValue.ts TValue.to TValue.of := ⟨rfl, fun _ => rfl, fun _ => rfl, rfl, fun _ => rfl⟩

theorem TGen.ok : SOk GG 51 TGen.ts TGen.to TGen.of := ⟨rfl, fun _ => rfl, fun _ => rfl, rfl, fun _ => rfl⟩

theorem TUtf8_acceptRange.ok : SOk GG 159 TUtf8_acceptRange.ts TUtf8_acceptRange.to TUtf8_acceptRange.of := ⟨rfl, fun _ => rfl, fun _ => rfl, rfl, fun _ => rfl⟩

def TRuntime_boundsError.re (x : TRuntime_boundsError) : TRuntime_boundsError := TRuntime_boundsError.mk x.fX x.fY x.fSigned x.fCode

@[simp] theorem TRuntime_boundsError.re_eq (x : TRuntime_boundsError) : x.re = x := by cases x; rfl

theorem TRuntime_boundsError.eta (x : TRuntime_boundsError) : TRuntime_boundsError.mk x.fX x.fY x.fSigned x.fCode = x := by cases x; rfl

def TRuntime_errorAddressString.re (x : TRuntime_errorAddressString) : TRuntime_errorAddressString := TRuntime_errorAddressString.mk x.fMsg x.fAddr

@[simp] theorem TRuntime_errorAddressString.re_eq (x : TRuntime_errorAddressString) : x.re = x := by cases x; rfl

theorem TRuntime_errorAddressString.eta (x : TRuntime_errorAddressString) : TRuntime_errorAddressString.mk x.fMsg x.fAddr = x := by cases x; rfl

def TExpr.re (x : TExpr) : TExpr := TExpr.mk x.fKind x.fNum x.fText x.fKids

@[simp] theorem TExpr.re_eq (x : TExpr) : x.re = x := by cases x; rfl

theorem TExpr.eta (x : TExpr) : TExpr.mk x.fKind x.fNum x.fText x.fKids = x := by cases x; rfl

def TPattern.re (x : TPattern) : TPattern := TPattern.mk x.fKind x.fNum x.fText x.fKids

@[simp] theorem TPattern.re_eq (x : TPattern) : x.re = x := by cases x; rfl

theorem TPattern.eta (x : TPattern) : TPattern.mk x.fKind x.fNum x.fText x.fKids = x := by cases x; rfl

def TValue.re (x : TValue) : TValue := TValue.mk x.fKind x.fNum x.fText x.fRef

@[simp] theorem TValue.re_eq (x : TValue) : x.re = x := by cases x; rfl

theorem TValue.eta (x : TValue) : TValue.mk x.fKind x.fNum x.fText x.fRef = x := by cases x; rfl

def TGen.re (x : TGen) : TGen := TGen.mk x.fKind x.fNum x.fText x.fValue x.fKids

@[simp] theorem TGen.re_eq (x : TGen) : x.re = x := by cases x; rfl

theorem TGen.eta (x : TGen) : TGen.mk x.fKind x.fNum x.fText x.fValue x.fKids = x := by cases x; rfl

def TUtf8_acceptRange.re (x : TUtf8_acceptRange) : TUtf8_acceptRange := TUtf8_acceptRange.mk x.fLo x.fHi

@[simp] theorem TUtf8_acceptRange.re_eq (x : TUtf8_acceptRange) : x.re = x := by cases x; rfl

theorem TUtf8_acceptRange.eta (x : TUtf8_acceptRange) : TUtf8_acceptRange.mk x.fLo x.fHi = x := by cases x; rfl

theorem SS_empty {n : Nat} (h7 : ¬ n = 7) (h13 : ¬ n = 13) (h23 : ¬ n = 23) (h34 : ¬ n = 34) (h44 : ¬ n = 44) (h51 : ¬ n = 51) (h159 : ¬ n = 159) : SS n = Empty := by
  unfold SS
  split <;> first | rfl | (exfalso; omega)

theorem GG.law (n : Nat) : SLaw GG n := by
  by_cases h7 : n = 7
  · subst h7; exact TRuntime_boundsError.ok.law
  by_cases h13 : n = 13
  · subst h13; exact TRuntime_errorAddressString.ok.law
  by_cases h23 : n = 23
  · subst h23; exact TExpr.ok.law
  by_cases h34 : n = 34
  · subst h34; exact TPattern.ok.law
  by_cases h44 : n = 44
  · subst h44; exact TValue.ok.law
  by_cases h51 : n = 51
  · subst h51; exact TGen.ok.law
  by_cases h159 : n = 159
  · subst h159; exact TUtf8_acceptRange.ok.law
  exact .empty fun x => (cast (SS_empty h7 h13 h23 h34 h44 h51 h159) x).elim

theorem GG.ok : SigOk GG := sigOk_of GG.law

noncomputable def OO : Opn GG where
  P := Tryd.prog
  tab := [(2, (.int .i64)), (3, (.int .i64)), (4, .bool), (5, (.int .u8)), (6, (.int .u8)), (7, (.st 7)), (8, (.st 7)), (9, .str), (10, .str), (11, .str), (12, (.int .u64)), (13, (.st 13)), (14, (.st 13)), (21, (.int .i32)), (22, (.sl (.st 23))), (23, (.st 23)), (24, (.st 23)), (27, (.sl (.st 23))), (28, (.st 23)), (29, (.st 23)), (33, (.sl (.st 34))), (34, (.st 34)), (35, (.st 34)), (38, (.sl (.st 34))), (39, (.st 34)), (40, (.st 34)), (44, (.st 44)), (45, (.st 44)), (49, (.st 44)), (50, (.sl (.st 51))), (51, (.st 51)), (52, (.st 51)), (55, (.sl (.st 51))), (56, (.st 51)), (57, (.st 51)), (90, (.sl .str)), (107, (.sl (.int .u8))), (135, (.int .u64)), (147, (.int .u64)), (150, (.int .u32)), (159, (.st 159)), (160, (.st 159)), (170, (.int .u8)), (171, (.int .u8)), (173, (.int .i32)), (174, (.int .i32))]
  cty := scty

theorem OO.tot (n : Nat) (vs : List (V SS)) (h : Leaves GG (scty n) vs) : ∃ x, smake n vs = some x ∧ scells n x = vs := by
  by_cases h7 : n = 7
  · subst h7; exact TRuntime_boundsError.ok.tot h
  by_cases h13 : n = 13
  · subst h13; exact TRuntime_errorAddressString.ok.tot h
  by_cases h23 : n = 23
  · subst h23; exact TExpr.ok.tot h
  by_cases h34 : n = 34
  · subst h34; exact TPattern.ok.tot h
  by_cases h44 : n = 44
  · subst h44; exact TValue.ok.tot h
  by_cases h51 : n = 51
  · subst h51; exact TGen.ok.tot h
  by_cases h159 : n = 159
  · subst h159; exact TUtf8_acceptRange.ok.tot h
  exfalso
  have e : scty n = [.st n] := by
    unfold scty
    split <;> first | rfl | (exfalso; omega)
  rw [e] at h
  obtain ⟨x⟩ := leaves_st h
  exact (cast (SS_empty h7 h13 h23 h34 h44 h51 h159) x : Empty).elim

theorem OO.ok : OpnOk OO := ⟨by kernel_rfl, OO.tot⟩

def cut25 : Nat → Option (List (Nat × Option Ty))
  | 5 => some [(0, none), (1, none), (5, none)]
  | _ => none

def cut27 : Nat → Option (List (Nat × Option Ty))
  | 23 => some [(0, none), (3, none), (4, none)]
  | _ => none

def cut28 : Nat → Option (List (Nat × Option Ty))
  | 3 => some [(0, none), (3, none), (4, none)]
  | _ => none

def cut30 : Nat → Option (List (Nat × Option Ty))
  | 11 => some [(1, none), (4, none), (36, none), (37, none), (38, none)]
  | _ => none

def cut31 : Nat → Option (List (Nat × Option Ty))
  | 4 => some [(0, none), (1, none), (5, none)]
  | _ => none

def cut32 : Nat → Option (List (Nat × Option Ty))
  | 5 => some [(0, none), (1, none), (5, none)]
  | _ => none

def cut34 : Nat → Option (List (Nat × Option Ty))
  | 9 => some [(1, none), (4, none), (5, none), (6, none), (7, none)]
  | 10 => some [(1, none), (4, none), (5, none), (6, none), (7, none)]
  | _ => none

def cut35 : Nat → Option (List (Nat × Option Ty))
  | 3 => some [(0, none), (3, none), (4, none)]
  | _ => none

def cut37 : Nat → Option (List (Nat × Option Ty))
  | 3 => some [(1, none), (3, none), (9, none), (10, none), (11, none)]
  | 15 => some [(1, none), (3, none)]
  | _ => none

def cut38 : Nat → Option (List (Nat × Option Ty))
  | 4 => some [(0, none), (1, none), (5, none)]
  | _ => none

def cut39 : Nat → Option (List (Nat × Option Ty))
  | 11 => some [(1, none)]
  | 12 => some [(1, none), (4, none)]
  | _ => none

def cut40 : Nat → Option (List (Nat × Option Ty))
  | 11 => some [(1, none)]
  | 12 => some [(1, none), (4, none)]
  | _ => none

def cut42 : Nat → Option (List (Nat × Option Ty))
  | 5 => some [(0, none), (1, none), (5, none)]
  | _ => none

def cut46 : Nat → Option (List (Nat × Option Ty))
  | 3 => some [(0, none), (3, none), (4, none)]
  | _ => none

def cut48 : Nat → Option (List (Nat × Option Ty))
  | 16 => some [(3, none), (4, none), (45, none), (46, none), (47, none)]
  | 15 => some [(1, none), (3, none), (4, none)]
  | _ => none

def cut49 : Nat → Option (List (Nat × Option Ty))
  | 4 => some [(0, none), (1, none), (5, none)]
  | _ => none

def cut50 : Nat → Option (List (Nat × Option Ty))
  | 3 => some [(0, none), (3, none), (4, none)]
  | _ => none

def cut51 : Nat → Option (List (Nat × Option Ty))
  | 4 => some [(0, none), (3, none)]
  | _ => none

def cut53 : Nat → Option (List (Nat × Option Ty))
  | 4 => some [(0, none), (3, none)]
  | _ => none

def cut55 : Nat → Option (List (Nat × Option Ty))
  | 21 => some []
  | 11 => some []
  | 12 => some [(6, none)]
  | 20 => some []
  | _ => none

def cut57 : Nat → Option (List (Nat × Option Ty))
  | 5 => some [(1, none), (17, none), (18, none), (19, none)]
  | _ => none

def cut58 : Nat → Option (List (Nat × Option Ty))
  | 21 => some []
  | 11 => some []
  | 12 => some [(3, none)]
  | 20 => some []
  | _ => none

def cut61 : Nat → Option (List (Nat × Option Ty))
  | 11 => some [(0, none), (1, none), (5, none)]
  | 12 => some [(0, none), (1, none), (5, none), (39, none), (40, none), (41, none)]
  | 22 => some [(1, none), (8, none), (63, none), (64, none), (65, none)]
  | _ => none

def cut65 : Nat → Option (List (Nat × Option Ty))
  | 5 => some [(1, none), (2, none), (5, none), (6, none)]
  | _ => none

def cut66 : Nat → Option (List (Nat × Option Ty))
  | 3 => some [(0, none), (3, none), (4, none)]
  | _ => none

def cut69 : Nat → Option (List (Nat × Option Ty))
  | 3 => some []
  | 4 => some [(1, none), (2, none)]
  | 5 => some [(1, none), (31, none), (32, none), (33, none)]
  | _ => none

def cut81 : Nat → Option (List (Nat × Option Ty))
  | 5 => some [(0, none), (3, none), (4, none)]
  | _ => none

def cut83 : Nat → Option (List (Nat × Option Ty))
  | 3 => some [(0, none), (3, none), (4, none)]
  | _ => none

def cut84 : Nat → Option (List (Nat × Option Ty))
  | 5 => some [(0, none), (3, none), (4, none)]
  | _ => none

def cut86 : Nat → Option (List (Nat × Option Ty))
  | 5 => some [(1, none), (17, none), (18, none), (19, none)]
  | _ => none

def cut89 : Nat → Option (List (Nat × Option Ty))
  | 32 => some [(0, none), (3, none), (4, none)]
  | 13 => some [(0, none), (3, none)]
  | 14 => some [(0, none), (4, none), (8, none)]
  | 26 => some [(0, none), (4, none)]
  | 27 => some [(0, none), (4, none), (8, none)]
  | 31 => some []
  | _ => none

def cut91 : Nat → Option (List (Nat × Option Ty))
  | 2 => some [(0, none), (1, none), (5, none)]
  | _ => none

def cut92 : Nat → Option (List (Nat × Option Ty))
  | 19 => some [(1, none), (3, none)]
  | 18 => some [(3, none)]
  | 11 => some []
  | 12 => some [(1, none), (3, none)]
  | _ => none

def cut101 : Nat → Option (List (Nat × Option Ty))
  | 8 => some []
  | 9 => some []
  | _ => none

def cut103 : Nat → Option (List (Nat × Option Ty))
  | 3 => some [(0, none), (1, none)]
  | 4 => some [(0, none), (1, none)]
  | 5 => some [(1, none)]
  | _ => none

def cut105 : Nat → Option (List (Nat × Option Ty))
  | 2 => some [(1, none), (7, none), (8, none), (9, none)]
  | _ => none

def cut107 : Nat → Option (List (Nat × Option Ty))
  | 12 => some [(0, none)]
  | 13 => some [(0, none), (53, none)]
  | 4 => some []
  | 5 => some [(0, none)]
  | _ => none

def cut108 : Nat → Option (List (Nat × Option Ty))
  | 3 => some [(0, none), (3, none), (4, none)]
  | _ => none

def cut110 : Nat → Option (List (Nat × Option Ty))
  | 8 => some [(1, none), (3, none), (5, none)]
  | 9 => some [(1, none), (3, none), (4, none), (5, none), (17, none)]
  | 13 => some [(1, none), (3, none), (4, none), (5, none)]
  | _ => none

def cut112 : Nat → Option (List (Nat × Option Ty))
  | 2 => some [(0, none), (1, none), (5, none)]
  | 3 => some [(0, none), (1, none), (5, none)]
  | 5 => some []
  | _ => none

def cut117 : Nat → Option (List (Nat × Option Ty))
  | 8 => some [(0, none), (5, none), (6, none)]
  | _ => none

def cut120 : Nat → Option (List (Nat × Option Ty))
  | 7 => some [(5, none), (6, none), (7, none), (8, none)]
  | _ => none

def cut123 : Nat → Option (List (Nat × Option Ty))
  | 8 => some [(0, none), (1, none), (2, none), (3, none)]
  | 21 => some [(0, none), (2, none), (10, none), (11, none), (77, none), (78, none)]
  | 13 => some [(0, none), (1, none), (2, none), (10, none), (11, none), (52, none), (53, none)]
  | 7 => some [(0, none), (1, none), (2, none), (9, none)]
  | _ => none

def cut127 : Nat → Option (List (Nat × Option Ty))
  | 9 => some []
  | 10 => some [(3, none)]
  | 15 => some []
  | 16 => some [(3, none)]
  | 19 => some []
  | 20 => some []
  | _ => none

def cut129 : Nat → Option (List (Nat × Option Ty))
  | 2 => some [(0, none), (1, none), (5, none)]
  | _ => none

def cut132 : Nat → Option (List (Nat × Option Ty))
  | 17 => some []
  | 18 => some []
  | _ => none

def cut133 : Nat → Option (List (Nat × Option Ty))
  | 7 => some []
  | 8 => some [(3, none)]
  | 11 => some []
  | 12 => some [(3, none)]
  | 15 => some []
  | 16 => some []
  | _ => none

def cut135 : Nat → Option (List (Nat × Option Ty))
  | 9 => some [(0, none), (1, none)]
  | 10 => some [(0, none), (1, none), (5, none)]
  | 15 => some [(0, none), (1, none), (5, none), (6, none), (7, none), (8, none), (9, none), (10, none)]
  | 22 => some [(8, none)]
  | 23 => some [(0, none), (1, none), (5, none), (6, none), (7, none), (8, none), (9, none), (10, none)]
  | 31 => some [(0, none), (1, none), (8, none)]
  | _ => none

def cut138 : Nat → Option (List (Nat × Option Ty))
  | 1 => some [(0, none), (1, none), (4, none)]
  | 25 => some [(0, none), (4, none), (12, none)]
  | _ => none

def cut139 : Nat → Option (List (Nat × Option Ty))
  | 2 => some [(0, none), (1, none), (2, none), (3, none), (4, none), (10, none), (11, none)]
  | 3 => some [(0, none), (1, none), (2, none), (3, none), (4, none), (10, none), (11, none)]
  | 11 => some [(0, none), (1, none), (3, none), (4, none), (10, none), (11, none), (12, none), (13, none), (14, none), (15, none), (16, none)]
  | 18 => some [(0, none), (1, none), (3, none), (4, none), (10, none), (11, none), (12, none), (13, none), (17, none)]
  | 28 => some [(0, none), (4, none), (10, none), (11, none), (12, none), (13, none)]
  | _ => none

def cut142 : Nat → Option (List (Nat × Option Ty))
  | 6 => some [(0, none), (1, none), (5, none)]
  | _ => none

def cut148 : Nat → Option (List (Nat × Option Ty))
  | 11 => some [(0, none), (1, none), (5, none), (6, none), (7, none), (8, none), (10, none)]
  | 5 => some [(0, none), (1, none), (5, none), (6, none), (7, none), (8, none), (9, none)]
  | _ => none

def cut150 : Nat → Option (List (Nat × Option Ty))
  | 7 => some [(0, none), (2, none)]
  | _ => none

def cut154 : Nat → Option (List (Nat × Option Ty))
  | 2 => some [(2, none), (4, none)]
  | _ => none

def cut156 : Nat → Option (List (Nat × Option Ty))
  | 20 => some []
  | 21 => some [(0, none), (5, none), (8, none), (10, none), (11, none)]
  | _ => none

def cut158 : Nat → Option (List (Nat × Option Ty))
  | 8 => some [(4, none), (6, none), (7, none), (8, none)]
  | 3 => some [(0, none), (4, none), (5, none)]
  | _ => none

def cutT : FuncId → Nat → Option (List (Nat × Option Ty))
  | 25 => cut25
  | 27 => cut27
  | 28 => cut28
  | 30 => cut30
  | 31 => cut31
  | 32 => cut32
  | 34 => cut34
  | 35 => cut35
  | 37 => cut37
  | 38 => cut38
  | 39 => cut39
  | 40 => cut40
  | 42 => cut42
  | 46 => cut46
  | 48 => cut48
  | 49 => cut49
  | 50 => cut50
  | 51 => cut51
  | 53 => cut53
  | 55 => cut55
  | 57 => cut57
  | 58 => cut58
  | 61 => cut61
  | 65 => cut65
  | 66 => cut66
  | 69 => cut69
  | 81 => cut81
  | 83 => cut83
  | 84 => cut84
  | 86 => cut86
  | 89 => cut89
  | 91 => cut91
  | 92 => cut92
  | 101 => cut101
  | 103 => cut103
  | 105 => cut105
  | 107 => cut107
  | 108 => cut108
  | 110 => cut110
  | 112 => cut112
  | 117 => cut117
  | 120 => cut120
  | 123 => cut123
  | 127 => cut127
  | 129 => cut129
  | 132 => cut132
  | 133 => cut133
  | 135 => cut135
  | 138 => cut138
  | 139 => cut139
  | 142 => cut142
  | 148 => cut148
  | 150 => cut150
  | 154 => cut154
  | 156 => cut156
  | 158 => cut158
  | _ => fun _ => none

def extT : FuncId → Option (Sigma fun rt : List Ty => List (V GG.S) → Option (rDen GG.S rt))
  | 61 => some ⟨[.str], joinV⟩
  | 94 => some ⟨[.bool], containsV⟩
  | 95 => some ⟨[.str], itoaV⟩
  | 102 => some ⟨[.str], replAllV⟩
  | _ => none

noncomputable def CC : Cfg GG where
  P := Tryd.prog
  refs := fun f => [].contains f
  ext := U.extT
  cut := cutT
  glob := fun _ => none
  gint := fun g => g == 0
  gtab := fun | 1 => some ((Lib.pow10Tab.map fun z => Value.int .u64 z).toArray) | _ => none
  own := fun _ => none
  bld := fun _ => none
  eat := fun _ => none

end Go.Dv.U
