/- The types of this program and the places where its loops are cut. -/
import Derived.Test.YtjlphfallimbgaaGreatDoorDvc
import Derived.Test.YtjlphfallimbgaaGreatDoorChecked
set_option linter.all false
set_option linter.unusedVariables false
set_option linter.unusedSimpArgs false
namespace Go.Dv.U

open Go Go.Dv Go.Proofs

set_option maxRecDepth 100000

structure TRuntime_boundsError where
  fX : Int
  fY : Int
  fSigned : Bool
  fCode : Int

structure TRuntime_errorAddressString where
  fMsg : (List UInt8)
  fAddr : Int

structure TExpr where
  fKind : Int
  fNum : Int
  fText : (List UInt8)
  fKids : (List TExpr)

structure TGoto where
  fAlways : (List UInt8)
  fSuccess : (List UInt8)
  fFailure : (List UInt8)

structure TStatement where
  fLabel : (List UInt8)
  fHasSubject : Bool
  fSubject : TExpr
  fHasPattern : Bool
  fPattern : TExpr
  fHasReplace : Bool
  fReplace : TExpr
  fGoto : TGoto

structure TProgram where
  fStatements : (List TStatement)

structure TToken where
  fKind : Int
  fNum : Int
  fText : (List UInt8)
  fBefore : Bool
  fAfter : Bool

structure TErrors_errorString where
  fS : (List UInt8)

def SS : Nat → Type
  | 7 => TRuntime_boundsError
  | 13 => TRuntime_errorAddressString
  | 23 => TProgram
  | 38 => TExpr
  | 40 => TGoto
  | 42 => TStatement
  | 93 => TToken
  | 166 => TErrors_errorString
  | _ => Empty

def TRuntime_boundsError.ts : List Ty := [(.int .i64), (.int .i64), .bool, (.int .u8)]

def TRuntime_boundsError.to (x : TRuntime_boundsError) : lDen SS TRuntime_boundsError.ts := (x.fX, x.fY, x.fSigned, x.fCode, ())

def TRuntime_boundsError.of (p : lDen SS TRuntime_boundsError.ts) : TRuntime_boundsError := (⟨p.1, p.2.1, p.2.2.1, p.2.2.2.1⟩ : TRuntime_boundsError)

def TRuntime_errorAddressString.ts : List Ty := [.str, (.int .u64)]

def TRuntime_errorAddressString.to (x : TRuntime_errorAddressString) : lDen SS TRuntime_errorAddressString.ts := (x.fMsg, x.fAddr, ())

def TRuntime_errorAddressString.of (p : lDen SS TRuntime_errorAddressString.ts) : TRuntime_errorAddressString := (⟨p.1, p.2.1⟩ : TRuntime_errorAddressString)

def TProgram.ts : List Ty := [(.sl (.st 42))]

def TProgram.to (x : TProgram) : lDen SS TProgram.ts := (x.fStatements, ())

def TProgram.of (p : lDen SS TProgram.ts) : TProgram := (⟨p.1⟩ : TProgram)

def TExpr.ts : List Ty := [(.int .i64), (.int .i64), .str, (.sl (.st 38))]

def TExpr.to (x : TExpr) : lDen SS TExpr.ts := (x.fKind, x.fNum, x.fText, x.fKids, ())

def TExpr.of (p : lDen SS TExpr.ts) : TExpr := (⟨p.1, p.2.1, p.2.2.1, p.2.2.2.1⟩ : TExpr)

def TGoto.ts : List Ty := [.str, .str, .str]

def TGoto.to (x : TGoto) : lDen SS TGoto.ts := (x.fAlways, x.fSuccess, x.fFailure, ())

def TGoto.of (p : lDen SS TGoto.ts) : TGoto := (⟨p.1, p.2.1, p.2.2.1⟩ : TGoto)

def TStatement.ts : List Ty := [.str, .bool, (.int .i64), (.int .i64), .str, (.sl (.st 38)), .bool, (.int .i64), (.int .i64), .str, (.sl (.st 38)), .bool, (.int .i64), (.int .i64), .str, (.sl (.st 38)), .str, .str, .str]

def TStatement.to (x : TStatement) : lDen SS TStatement.ts := (x.fLabel, x.fHasSubject, x.fSubject.fKind, x.fSubject.fNum, x.fSubject.fText, x.fSubject.fKids, x.fHasPattern, x.fPattern.fKind, x.fPattern.fNum, x.fPattern.fText, x.fPattern.fKids, x.fHasReplace, x.fReplace.fKind, x.fReplace.fNum, x.fReplace.fText, x.fReplace.fKids, x.fGoto.fAlways, x.fGoto.fSuccess, x.fGoto.fFailure, ())

def TStatement.of (p : lDen SS TStatement.ts) : TStatement := (⟨p.1, p.2.1, (⟨p.2.2.1, p.2.2.2.1, p.2.2.2.2.1, p.2.2.2.2.2.1⟩ : TExpr), p.2.2.2.2.2.2.1, (⟨p.2.2.2.2.2.2.2.1, p.2.2.2.2.2.2.2.2.1, p.2.2.2.2.2.2.2.2.2.1, p.2.2.2.2.2.2.2.2.2.2.1⟩ : TExpr), p.2.2.2.2.2.2.2.2.2.2.2.1, (⟨p.2.2.2.2.2.2.2.2.2.2.2.2.1, p.2.2.2.2.2.2.2.2.2.2.2.2.2.1, p.2.2.2.2.2.2.2.2.2.2.2.2.2.2.1, p.2.2.2.2.2.2.2.2.2.2.2.2.2.2.2.1⟩ : TExpr), (⟨p.2.2.2.2.2.2.2.2.2.2.2.2.2.2.2.2.1, p.2.2.2.2.2.2.2.2.2.2.2.2.2.2.2.2.2.1, p.2.2.2.2.2.2.2.2.2.2.2.2.2.2.2.2.2.2.1⟩ : TGoto)⟩ : TStatement)

def TToken.ts : List Ty := [(.int .i64), (.int .i64), .str, .bool, .bool]

def TToken.to (x : TToken) : lDen SS TToken.ts := (x.fKind, x.fNum, x.fText, x.fBefore, x.fAfter, ())

def TToken.of (p : lDen SS TToken.ts) : TToken := (⟨p.1, p.2.1, p.2.2.1, p.2.2.2.1, p.2.2.2.2.1⟩ : TToken)

def TErrors_errorString.ts : List Ty := [.str]

def TErrors_errorString.to (x : TErrors_errorString) : lDen SS TErrors_errorString.ts := (x.fS, ())

def TErrors_errorString.of (p : lDen SS TErrors_errorString.ts) : TErrors_errorString := (⟨p.1⟩ : TErrors_errorString)

def scells : (n : Nat) → SS n → List (V SS)
  | 7, x => cellsL SS TRuntime_boundsError.ts (TRuntime_boundsError.to x)
  | 13, x => cellsL SS TRuntime_errorAddressString.ts (TRuntime_errorAddressString.to x)
  | 23, x => cellsL SS TProgram.ts (TProgram.to x)
  | 38, x => cellsL SS TExpr.ts (TExpr.to x)
  | 40, x => cellsL SS TGoto.ts (TGoto.to x)
  | 42, x => cellsL SS TStatement.ts (TStatement.to x)
  | 93, x => cellsL SS TToken.ts (TToken.to x)
  | 166, x => cellsL SS TErrors_errorString.ts (TErrors_errorString.to x)
  | _, _ => []

def smake : (n : Nat) → List (V SS) → Option (SS n)
  | 7, c => (prjL SS TRuntime_boundsError.ts c).map TRuntime_boundsError.of
  | 13, c => (prjL SS TRuntime_errorAddressString.ts c).map TRuntime_errorAddressString.of
  | 23, c => (prjL SS TProgram.ts c).map TProgram.of
  | 38, c => (prjL SS TExpr.ts c).map TExpr.of
  | 40, c => (prjL SS TGoto.ts c).map TGoto.of
  | 42, c => (prjL SS TStatement.ts c).map TStatement.of
  | 93, c => (prjL SS TToken.ts c).map TToken.of
  | 166, c => (prjL SS TErrors_errorString.ts c).map TErrors_errorString.of
  | _, _ => none

def scsz : Nat → Nat
  | 7 => 4
  | 13 => 2
  | 23 => 1
  | 38 => 4
  | 40 => 3
  | 42 => 19
  | 93 => 5
  | 166 => 1
  | _ => 0

def scty : Nat → List Ty
  | 7 => TRuntime_boundsError.ts
  | 13 => TRuntime_errorAddressString.ts
  | 23 => TProgram.ts
  | 38 => TExpr.ts
  | 40 => TGoto.ts
  | 42 => TStatement.ts
  | 93 => TToken.ts
  | 166 => TErrors_errorString.ts
  | n => [.st n]

def stys : TypeId → Option Ty
  | 2 => some (.int .i64)
  | 3 => some (.int .i64)
  | 4 => some .bool
  | 5 => some (.int .u8)
  | 6 => some (.int .u8)
  | 7 => some (.st 7)
  | 8 => some (.st 7)
  | 9 => some .str
  | 10 => some .str
  | 11 => some .str
  | 12 => some (.int .u64)
  | 13 => some (.st 13)
  | 14 => some (.st 13)
  | 21 => some (.int .i32)
  | 22 => some (.sl (.st 42))
  | 23 => some (.st 23)
  | 24 => some (.st 23)
  | 27 => some (.sl (.st 42))
  | 28 => some (.st 23)
  | 29 => some (.st 23)
  | 37 => some (.sl (.st 38))
  | 38 => some (.st 38)
  | 39 => some (.st 38)
  | 40 => some (.st 40)
  | 41 => some (.st 40)
  | 42 => some (.st 42)
  | 43 => some (.st 42)
  | 52 => some (.sl (.st 38))
  | 53 => some (.st 38)
  | 54 => some (.st 38)
  | 55 => some (.st 40)
  | 56 => some (.st 42)
  | 57 => some (.st 42)
  | 59 => some (.sl (.st 93))
  | 68 => some (.sl (.int .u8))
  | 79 => some (.ptr (.st 38))
  | 86 => some (.sl .str)
  | 93 => some (.st 93)
  | 94 => some (.st 93)
  | 117 => some (.sl (.int .i64))
  | 138 => some (.int .u64)
  | 144 => some (.int .i64)
  | 147 => some (.int .u64)
  | 154 => some (.int .u32)
  | 165 => some (.ptr (.st 166))
  | 166 => some (.st 166)
  | 167 => some (.st 166)
  | 176 => some (.int .u8)
  | 177 => some (.int .u8)
  | 179 => some (.int .i32)
  | 180 => some (.int .i32)
  | _ => none

def GG : Sig where
  S := SS
  csz := scsz
  cells := scells
  make := smake
  tyOf := stys

theorem TRuntime_boundsError.ok : SOk GG 7 TRuntime_boundsError.ts TRuntime_boundsError.to TRuntime_boundsError.of := ⟨rfl, fun _ => rfl, fun _ => rfl, rfl, fun _ => rfl⟩

theorem TRuntime_errorAddressString.ok : SOk GG 13 TRuntime_errorAddressString.ts TRuntime_errorAddressString.to TRuntime_errorAddressString.of := ⟨rfl, fun _ => rfl, fun _ => rfl, rfl, fun _ => rfl⟩

theorem TProgram.ok : SOk GG 23 TProgram.ts TProgram.to TProgram.of := ⟨rfl, fun _ => rfl, fun _ => rfl, rfl, fun _ => rfl⟩

theorem TExpr.ok : SOk GG 38 TExpr.ts TExpr.to TExpr.of := ⟨rfl, fun _ => rfl, fun _ => rfl, rfl, fun _ => rfl⟩

theorem TGoto.ok : SOk GG 40 TGoto.ts TGoto.to TGoto.of := ⟨rfl, fun _ => rfl, fun _ => rfl, rfl, fun _ => rfl⟩

theorem TStatement.ok : SOk GG 42 TStatement.ts TStatement.to TStatement.of := ⟨rfl, fun _ => rfl, fun _ => rfl, rfl, fun _ => rfl⟩

theorem TToken.ok : SOk GG 93 TToken.ts TToken.to TToken.of := ⟨rfl, fun _ => rfl, fun _ => rfl, rfl, fun _ => rfl⟩

theorem TErrors_errorString.ok : SOk GG 166 TErrors_errorString.ts TErrors_errorString.to TErrors_errorString.of := ⟨rfl, fun _ => rfl, fun _ => rfl, rfl, fun _ => rfl⟩

def TRuntime_boundsError.re (x : TRuntime_boundsError) : TRuntime_boundsError := TRuntime_boundsError.mk x.fX x.fY x.fSigned x.fCode

@[simp] theorem TRuntime_boundsError.re_eq (x : TRuntime_boundsError) : x.re = x := by cases x; rfl

theorem TRuntime_boundsError.eta (x : TRuntime_boundsError) : TRuntime_boundsError.mk x.fX x.fY x.fSigned x.fCode = x := by cases x; rfl

def TRuntime_errorAddressString.re (x : TRuntime_errorAddressString) : TRuntime_errorAddressString := TRuntime_errorAddressString.mk x.fMsg x.fAddr

@[simp] theorem TRuntime_errorAddressString.re_eq (x : TRuntime_errorAddressString) : x.re = x := by cases x; rfl

theorem TRuntime_errorAddressString.eta (x : TRuntime_errorAddressString) : TRuntime_errorAddressString.mk x.fMsg x.fAddr = x := by cases x; rfl

def TProgram.re (x : TProgram) : TProgram := TProgram.mk x.fStatements

@[simp] theorem TProgram.re_eq (x : TProgram) : x.re = x := by cases x; rfl

theorem TProgram.eta (x : TProgram) : TProgram.mk x.fStatements = x := by cases x; rfl

def TExpr.re (x : TExpr) : TExpr := TExpr.mk x.fKind x.fNum x.fText x.fKids

@[simp] theorem TExpr.re_eq (x : TExpr) : x.re = x := by cases x; rfl

theorem TExpr.eta (x : TExpr) : TExpr.mk x.fKind x.fNum x.fText x.fKids = x := by cases x; rfl

def TGoto.re (x : TGoto) : TGoto := TGoto.mk x.fAlways x.fSuccess x.fFailure

@[simp] theorem TGoto.re_eq (x : TGoto) : x.re = x := by cases x; rfl

theorem TGoto.eta (x : TGoto) : TGoto.mk x.fAlways x.fSuccess x.fFailure = x := by cases x; rfl

def TStatement.re (x : TStatement) : TStatement := TStatement.mk x.fLabel x.fHasSubject x.fSubject x.fHasPattern x.fPattern x.fHasReplace x.fReplace x.fGoto

@[simp] theorem TStatement.re_eq (x : TStatement) : x.re = x := by cases x; rfl

theorem TStatement.eta (x : TStatement) : TStatement.mk x.fLabel x.fHasSubject x.fSubject x.fHasPattern x.fPattern x.fHasReplace x.fReplace x.fGoto = x := by cases x; rfl

def TToken.re (x : TToken) : TToken := TToken.mk x.fKind x.fNum x.fText x.fBefore x.fAfter

@[simp] theorem TToken.re_eq (x : TToken) : x.re = x := by cases x; rfl

theorem TToken.eta (x : TToken) : TToken.mk x.fKind x.fNum x.fText x.fBefore x.fAfter = x := by cases x; rfl

def TErrors_errorString.re (x : TErrors_errorString) : TErrors_errorString := TErrors_errorString.mk x.fS

@[simp] theorem TErrors_errorString.re_eq (x : TErrors_errorString) : x.re = x := by cases x; rfl

theorem TErrors_errorString.eta (x : TErrors_errorString) : TErrors_errorString.mk x.fS = x := by cases x; rfl

theorem SS_empty {n : Nat} (h7 : ¬ n = 7) (h13 : ¬ n = 13) (h23 : ¬ n = 23) (h38 : ¬ n = 38) (h40 : ¬ n = 40) (h42 : ¬ n = 42) (h93 : ¬ n = 93) (h166 : ¬ n = 166) : SS n = Empty := by
  unfold SS
  split <;> first | rfl | (exfalso; omega)

theorem GG.law (n : Nat) : SLaw GG n := by
  by_cases h7 : n = 7
  · subst h7; exact TRuntime_boundsError.ok.law
  by_cases h13 : n = 13
  · subst h13; exact TRuntime_errorAddressString.ok.law
  by_cases h23 : n = 23
  · subst h23; exact TProgram.ok.law
  by_cases h38 : n = 38
  · subst h38; exact TExpr.ok.law
  by_cases h40 : n = 40
  · subst h40; exact TGoto.ok.law
  by_cases h42 : n = 42
  · subst h42; exact TStatement.ok.law
  by_cases h93 : n = 93
  · subst h93; exact TToken.ok.law
  by_cases h166 : n = 166
  · subst h166; exact TErrors_errorString.ok.law
  exact .empty fun x => (cast (SS_empty h7 h13 h23 h38 h40 h42 h93 h166) x).elim

theorem GG.ok : SigOk GG := sigOk_of GG.law

noncomputable def OO : Opn GG where
  P := Tryz.prog
  tab := [(2, (.int .i64)), (3, (.int .i64)), (4, .bool), (5, (.int .u8)), (6, (.int .u8)), (7, (.st 7)), (8, (.st 7)), (9, .str), (10, .str), (11, .str), (12, (.int .u64)), (13, (.st 13)), (14, (.st 13)), (21, (.int .i32)), (22, (.sl (.st 42))), (23, (.st 23)), (24, (.st 23)), (27, (.sl (.st 42))), (28, (.st 23)), (29, (.st 23)), (37, (.sl (.st 38))), (38, (.st 38)), (39, (.st 38)), (40, (.st 40)), (41, (.st 40)), (42, (.st 42)), (43, (.st 42)), (52, (.sl (.st 38))), (53, (.st 38)), (54, (.st 38)), (55, (.st 40)), (56, (.st 42)), (57, (.st 42)), (59, (.sl (.st 93))), (68, (.sl (.int .u8))), (86, (.sl .str)), (93, (.st 93)), (94, (.st 93)), (117, (.sl (.int .i64))), (138, (.int .u64)), (144, (.int .i64)), (147, (.int .u64)), (154, (.int .u32)), (166, (.st 166)), (167, (.st 166)), (176, (.int .u8)), (177, (.int .u8)), (179, (.int .i32)), (180, (.int .i32))]
  cty := scty

theorem OO.tot (n : Nat) (vs : List (V SS)) (h : Leaves GG (scty n) vs) : ∃ x, smake n vs = some x ∧ scells n x = vs := by
  by_cases h7 : n = 7
  · subst h7; exact TRuntime_boundsError.ok.tot h
  by_cases h13 : n = 13
  · subst h13; exact TRuntime_errorAddressString.ok.tot h
  by_cases h23 : n = 23
  · subst h23; exact TProgram.ok.tot h
  by_cases h38 : n = 38
  · subst h38; exact TExpr.ok.tot h
  by_cases h40 : n = 40
  · subst h40; exact TGoto.ok.tot h
  by_cases h42 : n = 42
  · subst h42; exact TStatement.ok.tot h
  by_cases h93 : n = 93
  · subst h93; exact TToken.ok.tot h
  by_cases h166 : n = 166
  · subst h166; exact TErrors_errorString.ok.tot h
  exfalso
  have e : scty n = [.st n] := by
    unfold scty
    split <;> first | rfl | (exfalso; omega)
  rw [e] at h
  obtain ⟨x⟩ := leaves_st h
  exact (cast (SS_empty h7 h13 h23 h38 h40 h42 h93 h166) x : Empty).elim

theorem OO.ok : OpnOk OO := ⟨by kernel_rfl, OO.tot⟩

def cut7 : Nat → Option (List (Nat × Option Ty))
  | 8 => some []
  | 4 => some [(1, none), (3, none)]
  | 5 => some [(1, none), (3, none)]
  | _ => none

def cut9 : Nat → Option (List (Nat × Option Ty))
  | 8 => some [(1, none), (16, none), (17, none), (18, none)]
  | 4 => some [(1, none), (16, none), (17, none), (18, none)]
  | 7 => some []
  | _ => none

def cut15 : Nat → Option (List (Nat × Option Ty))
  | 5 => some [(0, none), (1, none), (5, none)]
  | _ => none

def cut18 : Nat → Option (List (Nat × Option Ty))
  | 2 => some [(1, none), (2, none), (5, none)]
  | _ => none

def cut19 : Nat → Option (List (Nat × Option Ty))
  | 3 => some [(1, none), (3, none), (4, none)]
  | _ => none

def cut20 : Nat → Option (List (Nat × Option Ty))
  | 3 => some [(0, none), (3, none), (4, none)]
  | _ => none

def cut21 : Nat → Option (List (Nat × Option Ty))
  | 2 => some [(1, none), (7, none), (8, none), (9, none)]
  | _ => none

def cut22 : Nat → Option (List (Nat × Option Ty))
  | 2 => some []
  | 3 => some [(1, none)]
  | 4 => some []
  | 5 => some [(1, none)]
  | 6 => some []
  | 7 => some [(1, none)]
  | _ => none

def cut25 : Nat → Option (List (Nat × Option Ty))
  | 3 => some [(3, none), (8, none), (9, none), (10, none)]
  | _ => none

def cut26 : Nat → Option (List (Nat × Option Ty))
  | 4 => some [(0, none), (1, none), (5, none)]
  | _ => none

def cut28 : Nat → Option (List (Nat × Option Ty))
  | 2 => some []
  | 3 => some [(1, none)]
  | 4 => some []
  | 5 => some [(1, none)]
  | _ => none

def cut29 : Nat → Option (List (Nat × Option Ty))
  | 10 => some [(3, none)]
  | 6 => some [(1, none), (3, none)]
  | _ => none

def cut35 : Nat → Option (List (Nat × Option Ty))
  | 11 => some [(3, none)]
  | 6 => some [(1, none), (3, none)]
  | _ => none

def cut36 : Nat → Option (List (Nat × Option Ty))
  | 16 => some [(0, none), (5, none), (6, none), (8, none)]
  | 5 => some [(0, none), (5, none), (6, none)]
  | _ => none

def cut38 : Nat → Option (List (Nat × Option Ty))
  | 2 => some [(0, none), (1, none), (7, none), (8, none)]
  | _ => none

def cut46 : Nat → Option (List (Nat × Option Ty))
  | 2 => some []
  | 3 => some [(1, none)]
  | _ => none

def cut49 : Nat → Option (List (Nat × Option Ty))
  | 23 => some [(0, none), (3, none), (4, none)]
  | _ => none

def cut50 : Nat → Option (List (Nat × Option Ty))
  | 8 => some [(1, none), (3, none)]
  | _ => none

def cut51 : Nat → Option (List (Nat × Option Ty))
  | 2 => some [(0, none), (1, none), (5, none)]
  | 3 => some [(0, none), (1, none), (5, none)]
  | 5 => some []
  | _ => none

def cut52 : Nat → Option (List (Nat × Option Ty))
  | 4 => some [(0, none), (5, none), (6, none), (7, none)]
  | _ => none

def cut56 : Nat → Option (List (Nat × Option Ty))
  | 2 => some [(1, none), (7, none), (8, none), (9, none)]
  | _ => none

def cut57 : Nat → Option (List (Nat × Option Ty))
  | 3 => some [(3, none), (13, none), (14, none), (15, none)]
  | _ => none

def cut61 : Nat → Option (List (Nat × Option Ty))
  | 11 => some [(1, none), (4, none), (36, none), (37, none), (38, none)]
  | _ => none

def cut62 : Nat → Option (List (Nat × Option Ty))
  | 8 => some [(3, none)]
  | _ => none

def cut64 : Nat → Option (List (Nat × Option Ty))
  | 2 => some [(0, none), (1, none), (2, none), (7, none)]
  | _ => none

def cut67 : Nat → Option (List (Nat × Option Ty))
  | 2 => some [(5, none), (6, none), (7, none)]
  | _ => none

def cut73 : Nat → Option (List (Nat × Option Ty))
  | 5 => some [(0, none), (1, none), (5, none)]
  | _ => none

def cut77 : Nat → Option (List (Nat × Option Ty))
  | 21 => some []
  | 11 => some []
  | 12 => some [(6, none)]
  | 20 => some []
  | _ => none

def cut79 : Nat → Option (List (Nat × Option Ty))
  | 4 => some [(0, none), (3, none)]
  | _ => none

def cut81 : Nat → Option (List (Nat × Option Ty))
  | 10 => some [(0, none), (1, none), (4, none), (8, none), (9, none)]
  | 11 => some [(0, none), (1, none), (4, none), (8, none), (9, none)]
  | 13 => some [(1, none), (4, none), (8, none), (9, none)]
  | 18 => some [(0, none), (1, none), (4, none), (6, none), (10, none)]
  | 21 => some [(4, none)]
  | 22 => some [(0, none), (1, none), (4, none), (10, none)]
  | 27 => some [(1, none), (4, none), (6, none), (11, none), (12, none)]
  | _ => none

def cut82 : Nat → Option (List (Nat × Option Ty))
  | 3 => some [(0, none), (3, none), (4, none)]
  | _ => none

def cut84 : Nat → Option (List (Nat × Option Ty))
  | 2 => some [(1, none), (7, none), (8, none), (9, none)]
  | _ => none

def cut86 : Nat → Option (List (Nat × Option Ty))
  | 5 => some [(1, none), (17, none), (18, none), (19, none)]
  | _ => none

def cut87 : Nat → Option (List (Nat × Option Ty))
  | 4 => some [(1, none), (2, none), (15, none), (16, none), (17, none)]
  | _ => none

def cut88 : Nat → Option (List (Nat × Option Ty))
  | 21 => some []
  | 11 => some []
  | 12 => some [(3, none)]
  | 20 => some []
  | _ => none

def cut91 : Nat → Option (List (Nat × Option Ty))
  | 11 => some [(0, none), (1, none), (5, none)]
  | 12 => some [(0, none), (1, none), (5, none), (39, none), (40, none), (41, none)]
  | 22 => some [(1, none), (8, none), (63, none), (64, none), (65, none)]
  | _ => none

def cut101 : Nat → Option (List (Nat × Option Ty))
  | 4 => some [(0, none), (1, none), (5, none)]
  | _ => none

def cut102 : Nat → Option (List (Nat × Option Ty))
  | 3 => some [(0, none), (1, none)]
  | 4 => some [(0, none), (1, none)]
  | 5 => some [(1, none)]
  | _ => none

def cut104 : Nat → Option (List (Nat × Option Ty))
  | 2 => some []
  | 3 => some [(0, none), (1, none)]
  | 4 => some [(0, none), (1, none), (5, none)]
  | _ => none

def cut106 : Nat → Option (List (Nat × Option Ty))
  | 2 => some [(0, none), (1, none), (5, none)]
  | _ => none

def cut109 : Nat → Option (List (Nat × Option Ty))
  | 11 => some []
  | 12 => some []
  | _ => none

def cut110 : Nat → Option (List (Nat × Option Ty))
  | 19 => some [(1, none), (3, none)]
  | 18 => some [(3, none)]
  | 11 => some []
  | 12 => some [(1, none), (3, none)]
  | _ => none

def cut119 : Nat → Option (List (Nat × Option Ty))
  | 3 => some [(0, none), (3, none), (4, none)]
  | _ => none

def cut120 : Nat → Option (List (Nat × Option Ty))
  | 4 => some [(0, none), (3, none)]
  | _ => none

def cut123 : Nat → Option (List (Nat × Option Ty))
  | 8 => some [(0, none), (5, none), (6, none)]
  | _ => none

def cut125 : Nat → Option (List (Nat × Option Ty))
  | 16 => some [(2, none), (8, none), (9, none)]
  | 10 => some [(0, none), (1, none), (2, none), (8, none)]
  | 20 => some [(10, none)]
  | 21 => some [(8, none), (9, none)]
  | _ => none

def cut128 : Nat → Option (List (Nat × Option Ty))
  | 32 => some [(0, none), (3, none), (4, none)]
  | 13 => some [(0, none), (3, none)]
  | 14 => some [(0, none), (4, none), (8, none)]
  | 26 => some [(0, none), (4, none)]
  | 27 => some [(0, none), (4, none), (8, none)]
  | 31 => some []
  | _ => none

def cut129 : Nat → Option (List (Nat × Option Ty))
  | 9 => some [(0, none), (1, none)]
  | 10 => some [(0, none), (1, none), (5, none)]
  | 15 => some [(0, none), (1, none), (5, none), (6, none), (7, none), (8, none), (9, none), (10, none)]
  | 22 => some [(8, none)]
  | 23 => some [(0, none), (1, none), (5, none), (6, none), (7, none), (8, none), (9, none), (10, none)]
  | 31 => some [(0, none), (1, none), (8, none)]
  | _ => none

def cut132 : Nat → Option (List (Nat × Option Ty))
  | 1 => some [(0, none), (1, none), (4, none)]
  | 25 => some [(0, none), (4, none), (12, none)]
  | _ => none

def cut133 : Nat → Option (List (Nat × Option Ty))
  | 2 => some [(0, none), (1, none), (2, none), (3, none), (4, none), (10, none), (11, none)]
  | 3 => some [(0, none), (1, none), (2, none), (3, none), (4, none), (10, none), (11, none)]
  | 11 => some [(0, none), (1, none), (3, none), (4, none), (10, none), (11, none), (12, none), (13, none), (14, none), (15, none), (16, none)]
  | 18 => some [(0, none), (1, none), (3, none), (4, none), (10, none), (11, none), (12, none), (13, none), (17, none)]
  | 28 => some [(0, none), (4, none), (10, none), (11, none), (12, none), (13, none)]
  | _ => none

def cut135 : Nat → Option (List (Nat × Option Ty))
  | 32 => some [(0, none), (1, none), (2, none), (8, none), (9, none), (10, none)]
  | 36 => some [(1, none), (8, none), (9, none), (10, none), (11, none), (12, none), (13, none), (99, none), (100, none), (101, none)]
  | 10 => some [(0, none), (2, none), (8, none), (9, none)]
  | 43 => some [(1, none), (8, none), (9, none), (10, none), (11, none), (12, none), (13, none), (15, none), (99, none), (100, none), (101, none)]
  | 44 => some [(1, none), (8, none), (9, none), (10, none), (11, none), (12, none), (13, none), (15, none), (99, none), (100, none), (101, none)]
  | 13 => some [(0, none), (2, none), (8, none), (9, none)]
  | 46 => some [(1, none), (8, none), (9, none), (10, none), (11, none), (12, none), (13, none), (16, none), (99, none), (100, none), (101, none)]
  | 15 => some [(0, none), (2, none), (8, none), (9, none)]
  | 19 => some [(0, none), (2, none), (8, none), (9, none)]
  | 21 => some [(0, none), (1, none), (2, none), (8, none), (9, none)]
  | 55 => some [(1, none), (8, none), (9, none), (10, none), (11, none), (12, none), (13, none), (99, none), (100, none), (101, none)]
  | 25 => some [(0, none), (1, none), (2, none), (8, none), (9, none)]
  | _ => none

def cut143 : Nat → Option (List (Nat × Option Ty))
  | 11 => some [(0, none), (1, none), (5, none), (6, none), (7, none), (8, none), (10, none)]
  | 5 => some [(0, none), (1, none), (5, none), (6, none), (7, none), (8, none), (9, none)]
  | _ => none

def cut145 : Nat → Option (List (Nat × Option Ty))
  | 7 => some [(0, none), (2, none)]
  | _ => none

def cut150 : Nat → Option (List (Nat × Option Ty))
  | 4 => some [(0, none), (3, none), (4, none)]
  | 5 => some [(0, none), (3, none), (4, none)]
  | 7 => some [(0, none)]
  | 10 => some [(0, none), (3, none), (4, none), (5, none)]
  | 11 => some [(0, none), (3, none), (4, none), (5, none)]
  | 13 => some [(0, none), (4, none), (5, none)]
  | 14 => some [(0, none), (3, none), (4, none), (5, none)]
  | _ => none

def cut154 : Nat → Option (List (Nat × Option Ty))
  | 8 => some [(4, none), (6, none), (7, none), (8, none)]
  | 3 => some [(0, none), (4, none), (5, none)]
  | _ => none

def cutT : FuncId → Nat → Option (List (Nat × Option Ty))
  | 7 => cut7
  | 9 => cut9
  | 15 => cut15
  | 18 => cut18
  | 19 => cut19
  | 20 => cut20
  | 21 => cut21
  | 22 => cut22
  | 25 => cut25
  | 26 => cut26
  | 28 => cut28
  | 29 => cut29
  | 35 => cut35
  | 36 => cut36
  | 38 => cut38
  | 46 => cut46
  | 49 => cut49
  | 50 => cut50
  | 51 => cut51
  | 52 => cut52
  | 56 => cut56
  | 57 => cut57
  | 61 => cut61
  | 62 => cut62
  | 64 => cut64
  | 67 => cut67
  | 73 => cut73
  | 77 => cut77
  | 79 => cut79
  | 81 => cut81
  | 82 => cut82
  | 84 => cut84
  | 86 => cut86
  | 87 => cut87
  | 88 => cut88
  | 91 => cut91
  | 101 => cut101
  | 102 => cut102
  | 104 => cut104
  | 106 => cut106
  | 109 => cut109
  | 110 => cut110
  | 119 => cut119
  | 120 => cut120
  | 123 => cut123
  | 125 => cut125
  | 128 => cut128
  | 129 => cut129
  | 132 => cut132
  | 133 => cut133
  | 135 => cut135
  | 143 => cut143
  | 145 => cut145
  | 150 => cut150
  | 154 => cut154
  | _ => fun _ => none

def extT : FuncId → Option (Sigma fun rt : List Ty => List (V GG.S) → Option (rDen GG.S rt))
  | 91 => some ⟨[.str], joinV⟩
  | 96 => some ⟨[.int .i64, .bool], readIntV⟩
  | 98 => some ⟨[.int .i64], indexByteV⟩
  | 112 => some ⟨[.bool], containsV⟩
  | 113 => some ⟨[.str], itoaV⟩
  | _ => none

def bldF : FuncId → Option (Nat × TypeId × TypeId)
  | 40 => some (1, 70, 5)
  | 41 => some (3, 70, 5)
  | _ => none

noncomputable def CC : Cfg GG where
  P := Tryz.prog
  refs := fun f => [].contains f
  ext := U.extT
  cut := cutT
  glob := fun _ => none
  gint := fun g => g == 0
  gtab := fun | 1 => some ((Lib.pow10Tab.map fun z => Value.int .u64 z).toArray) | _ => none
  own := fun _ => none
  bld := U.bldF
  ctor := fun _ => none
  eat := fun _ => none

end Go.Dv.U
