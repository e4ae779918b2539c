/- The types of this program and the places where its loops are cut. -/
import Derived.Test.YtnglcnoofkibkaaGreatDoorDvc
import Derived.Test.YtnglcnoofkibkaaGreatDoorChecked
set_option linter.all false
set_option linter.unusedVariables false
set_option linter.unusedSimpArgs false
namespace Go.Dv.U

open Go Go.Dv Go.Proofs

set_option maxRecDepth 100000

structure TRuntime_boundsError where
  fX : Int
  fY : Int
  fSigned : Bool
  fCode : Int

structure TRuntime_errorAddressString where
  fMsg : (List UInt8)
  fAddr : Int

structure TExpr where
  fKind : Int
  fNum : Int
  fText : (List UInt8)
  fKids : (List TExpr)

structure TGoto where
  fAlways : (List UInt8)
  fSuccess : (List UInt8)
  fFailure : (List UInt8)

structure TStatement where
  fLabel : (List UInt8)
  fHasSubject : Bool
  fSubject : TExpr
  fHasPattern : Bool
  fPattern : TExpr
  fHasReplace : Bool
  fReplace : TExpr
  fGoto : TGoto

structure TProgram where
  fStatements : (List TStatement)

structure TSpec_l00Src where
  fCode : (List Int)
  fAt : Int
  fSeed : Int

structure TToken where
  fKind : Int
  fNum : Int
  fText : (List UInt8)
  fBefore : Bool
  fAfter : Bool

structure TErrors_errorString where
  fS : (List UInt8)

def SS : Nat → Type
  | 7 => TRuntime_boundsError
  | 13 => TRuntime_errorAddressString
  | 23 => TProgram
  | 37 => TGoto
  | 50 => TExpr
  | 52 => TStatement
  | 108 => TSpec_l00Src
  | 146 => TToken
  | 224 => TErrors_errorString
  | _ => Empty

def TRuntime_boundsError.ts : List Ty := [(.int .i64), (.int .i64), .bool, (.int .u8)]

def TRuntime_boundsError.to (x : TRuntime_boundsError) : lDen SS TRuntime_boundsError.ts := (x.fX, x.fY, x.fSigned, x.fCode, ())

def TRuntime_boundsError.of (p : lDen SS TRuntime_boundsError.ts) : TRuntime_boundsError := (⟨p.1, p.2.1, p.2.2.1, p.2.2.2.1⟩ : TRuntime_boundsError)

def TRuntime_errorAddressString.ts : List Ty := [.str, (.int .u64)]

def TRuntime_errorAddressString.to (x : TRuntime_errorAddressString) : lDen SS TRuntime_errorAddressString.ts := (x.fMsg, x.fAddr, ())

def TRuntime_errorAddressString.of (p : lDen SS TRuntime_errorAddressString.ts) : TRuntime_errorAddressString := (⟨p.1, p.2.1⟩ : TRuntime_errorAddressString)

def TProgram.ts : List Ty := [(.sl (.st 52))]

def TProgram.to (x : TProgram) : lDen SS TProgram.ts := (x.fStatements, ())

def TProgram.of (p : lDen SS TProgram.ts) : TProgram := (⟨p.1⟩ : TProgram)

def TGoto.ts : List Ty := [.str, .str, .str]

def TGoto.to (x : TGoto) : lDen SS TGoto.ts := (x.fAlways, x.fSuccess, x.fFailure, ())

def TGoto.of (p : lDen SS TGoto.ts) : TGoto := (⟨p.1, p.2.1, p.2.2.1⟩ : TGoto)

def TExpr.ts : List Ty := [(.int .i64), (.int .i64), .str, (.sl (.st 50))]

def TExpr.to (x : TExpr) : lDen SS TExpr.ts := (x.fKind, x.fNum, x.fText, x.fKids, ())

def TExpr.of (p : lDen SS TExpr.ts) : TExpr := (⟨p.1, p.2.1, p.2.2.1, p.2.2.2.1⟩ : TExpr)

def TStatement.ts : List Ty := [.str, .bool, (.int .i64), (.int .i64), .str, (.sl (.st 50)), .bool, (.int .i64), (.int .i64), .str, (.sl (.st 50)), .bool, (.int .i64), (.int .i64), .str, (.sl (.st 50)), .str, .str, .str]

def TStatement.to (x : TStatement) : lDen SS TStatement.ts := (x.fLabel, x.fHasSubject, x.fSubject.fKind, x.fSubject.fNum, x.fSubject.fText, x.fSubject.fKids, x.fHasPattern, x.fPattern.fKind, x.fPattern.fNum, x.fPattern.fText, x.fPattern.fKids, x.fHasReplace, x.fReplace.fKind, x.fReplace.fNum, x.fReplace.fText, x.fReplace.fKids, x.fGoto.fAlways, x.fGoto.fSuccess, x.fGoto.fFailure, ())

def TStatement.of (p : lDen SS TStatement.ts) : TStatement := (⟨p.1, p.2.1, (⟨p.2.2.1, p.2.2.2.1, p.2.2.2.2.1, p.2.2.2.2.2.1⟩ : TExpr), p.2.2.2.2.2.2.1, (⟨p.2.2.2.2.2.2.2.1, p.2.2.2.2.2.2.2.2.1, p.2.2.2.2.2.2.2.2.2.1, p.2.2.2.2.2.2.2.2.2.2.1⟩ : TExpr), p.2.2.2.2.2.2.2.2.2.2.2.1, (⟨p.2.2.2.2.2.2.2.2.2.2.2.2.1, p.2.2.2.2.2.2.2.2.2.2.2.2.2.1, p.2.2.2.2.2.2.2.2.2.2.2.2.2.2.1, p.2.2.2.2.2.2.2.2.2.2.2.2.2.2.2.1⟩ : TExpr), (⟨p.2.2.2.2.2.2.2.2.2.2.2.2.2.2.2.2.1, p.2.2.2.2.2.2.2.2.2.2.2.2.2.2.2.2.2.1, p.2.2.2.2.2.2.2.2.2.2.2.2.2.2.2.2.2.2.1⟩ : TGoto)⟩ : TStatement)

def TSpec_l00Src.ts : List Ty := [(.sl (.int .u8)), (.int .i64), (.int .u64)]

def TSpec_l00Src.to (x : TSpec_l00Src) : lDen SS TSpec_l00Src.ts := (x.fCode, x.fAt, x.fSeed, ())

def TSpec_l00Src.of (p : lDen SS TSpec_l00Src.ts) : TSpec_l00Src := (⟨p.1, p.2.1, p.2.2.1⟩ : TSpec_l00Src)

def TToken.ts : List Ty := [(.int .i64), (.int .i64), .str, .bool, .bool]

def TToken.to (x : TToken) : lDen SS TToken.ts := (x.fKind, x.fNum, x.fText, x.fBefore, x.fAfter, ())

def TToken.of (p : lDen SS TToken.ts) : TToken := (⟨p.1, p.2.1, p.2.2.1, p.2.2.2.1, p.2.2.2.2.1⟩ : TToken)

def TErrors_errorString.ts : List Ty := [.str]

def TErrors_errorString.to (x : TErrors_errorString) : lDen SS TErrors_errorString.ts := (x.fS, ())

def TErrors_errorString.of (p : lDen SS TErrors_errorString.ts) : TErrors_errorString := (⟨p.1⟩ : TErrors_errorString)

def scells : (n : Nat) → SS n → List (V SS)
  | 7, x => cellsL SS TRuntime_boundsError.ts (TRuntime_boundsError.to x)
  | 13, x => cellsL SS TRuntime_errorAddressString.ts (TRuntime_errorAddressString.to x)
  | 23, x => cellsL SS TProgram.ts (TProgram.to x)
  | 37, x => cellsL SS TGoto.ts (TGoto.to x)
  | 50, x => cellsL SS TExpr.ts (TExpr.to x)
  | 52, x => cellsL SS TStatement.ts (TStatement.to x)
  | 108, x => cellsL SS TSpec_l00Src.ts (TSpec_l00Src.to x)
  | 146, x => cellsL SS TToken.ts (TToken.to x)
  | 224, x => cellsL SS TErrors_errorString.ts (TErrors_errorString.to x)
  | _, _ => []

def smake : (n : Nat) → List (V SS) → Option (SS n)
  | 7, c => (prjL SS TRuntime_boundsError.ts c).map TRuntime_boundsError.of
  | 13, c => (prjL SS TRuntime_errorAddressString.ts c).map TRuntime_errorAddressString.of
  | 23, c => (prjL SS TProgram.ts c).map TProgram.of
  | 37, c => (prjL SS TGoto.ts c).map TGoto.of
  | 50, c => (prjL SS TExpr.ts c).map TExpr.of
  | 52, c => (prjL SS TStatement.ts c).map TStatement.of
  | 108, c => (prjL SS TSpec_l00Src.ts c).map TSpec_l00Src.of
  | 146, c => (prjL SS TToken.ts c).map TToken.of
  | 224, c => (prjL SS TErrors_errorString.ts c).map TErrors_errorString.of
  | _, _ => none

def scsz : Nat → Nat
  | 7 => 4
  | 13 => 2
  | 23 => 1
  | 37 => 3
  | 50 => 4
  | 52 => 19
  | 108 => 3
  | 146 => 5
  | 224 => 1
  | _ => 0

def scty : Nat → List Ty
  | 7 => TRuntime_boundsError.ts
  | 13 => TRuntime_errorAddressString.ts
  | 23 => TProgram.ts
  | 37 => TGoto.ts
  | 50 => TExpr.ts
  | 52 => TStatement.ts
  | 108 => TSpec_l00Src.ts
  | 146 => TToken.ts
  | 224 => TErrors_errorString.ts
  | n => [.st n]

def stys : TypeId → Option Ty
  | 2 => some (.int .i64)
  | 3 => some (.int .i64)
  | 4 => some .bool
  | 5 => some (.int .u8)
  | 6 => some (.int .u8)
  | 7 => some (.st 7)
  | 8 => some (.st 7)
  | 9 => some .str
  | 10 => some .str
  | 11 => some .str
  | 12 => some (.int .u64)
  | 13 => some (.st 13)
  | 14 => some (.st 13)
  | 21 => some (.int .i32)
  | 22 => some (.sl (.st 52))
  | 23 => some (.st 23)
  | 24 => some (.st 23)
  | 26 => some (.sl .str)
  | 28 => some (.sl (.st 52))
  | 29 => some (.st 23)
  | 30 => some (.st 23)
  | 37 => some (.st 37)
  | 38 => some (.st 37)
  | 42 => some (.st 37)
  | 45 => some (.sl (.int .u8))
  | 49 => some (.sl (.st 50))
  | 50 => some (.st 50)
  | 51 => some (.st 50)
  | 52 => some (.st 52)
  | 53 => some (.st 52)
  | 76 => some (.ptr (.st 108))
  | 81 => some (.sl (.st 50))
  | 82 => some (.st 50)
  | 83 => some (.st 50)
  | 84 => some (.st 52)
  | 85 => some (.st 52)
  | 94 => some (.ptr (.st 50))
  | 96 => some (.sl (.sl .str))
  | 102 => some (.sl (.int .i64))
  | 107 => some (.int .u64)
  | 108 => some (.st 108)
  | 109 => some (.st 108)
  | 111 => some (.sl (.st 146))
  | 129 => some (.int .u64)
  | 146 => some (.st 146)
  | 147 => some (.st 146)
  | 153 => some (.int .i64)
  | 162 => some (.int .u32)
  | 182 => some (.int .u64)
  | 206 => some (.int .i64)
  | 223 => some (.ptr (.st 224))
  | 224 => some (.st 224)
  | 225 => some (.st 224)
  | 234 => some (.int .u8)
  | 235 => some (.int .u8)
  | 237 => some (.int .i32)
  | 238 => some (.int .i32)
  | _ => none

def sel : Ty → TypeId
  | (.int .i64) => 2
  | (.int .u8) => 5
  | (.sl .str) => 26
  | (.st 146) => 147
  | (.st 50) => 51
  | (.st 52) => 53
  | .str => 9
  | _ => 0

def sfl : Nat → Bool
  | 7 => true
  | 13 => true
  | 23 => false
  | 37 => true
  | 50 => false
  | 52 => false
  | 108 => false
  | 146 => true
  | 224 => true
  | _ => false

def GG : Sig where
  S := SS
  csz := scsz
  cells := scells
  make := smake
  tyOf := stys
  el := sel
  fl := sfl

theorem TRuntime_boundsError.ok : SOk GG 7 TRuntime_boundsError.ts TRuntime_boundsError.to TRuntime_boundsError.of := ⟨rfl, fun _ => rfl, fun _ => rfl, rfl, fun _ => rfl, rfl⟩

theorem TRuntime_errorAddressString.ok : SOk GG 13 TRuntime_errorAddressString.ts TRuntime_errorAddressString.to TRuntime_errorAddressString.of := ⟨rfl, fun _ => rfl, fun _ => rfl, rfl, fun _ => rfl, rfl⟩

theorem TProgram.ok : SOk GG 23 TProgram.ts TProgram.to TProgram.of := ⟨rfl, fun _ => rfl, fun _ => rfl, rfl, fun _ => rfl, rfl⟩

theorem TGoto.ok : SOk GG 37 TGoto.ts TGoto.to TGoto.of := ⟨rfl, fun _ => rfl, fun _ => rfl, rfl, fun _ => rfl, rfl⟩

theorem TExpr.ok : SOk GG 50 TExpr.ts TExpr.to TExpr.of := ⟨rfl, fun _ => rfl, fun _ => rfl, rfl, fun _ => rfl, rfl⟩

theorem TStatement.ok : SOk GG 52 TStatement.ts TStatement.to TStatement.of := ⟨rfl, fun _ => rfl, fun _ => rfl, rfl, fun _ => rfl, rfl⟩

theorem TSpec_l00Src.ok : SOk GG 108 TSpec_l00Src.ts TSpec_l00Src.to TSpec_l00Src.of := ⟨rfl, fun _ => rfl, fun _ => rfl, rfl, fun _ => rfl, rfl⟩

theorem TToken.ok : SOk GG 146 TToken.ts TToken.to TToken.of := ⟨rfl, fun _ => rfl, fun _ => rfl, rfl, fun _ => rfl, rfl⟩

theorem TErrors_errorString.ok : SOk GG 224 TErrors_errorString.ts TErrors_errorString.to TErrors_errorString.of := ⟨rfl, fun _ => rfl, fun _ => rfl, rfl, fun _ => rfl, rfl⟩

def TRuntime_boundsError.re (x : TRuntime_boundsError) : TRuntime_boundsError := TRuntime_boundsError.mk x.fX x.fY x.fSigned x.fCode

@[simp] theorem TRuntime_boundsError.re_eq (x : TRuntime_boundsError) : x.re = x := by cases x; rfl

theorem TRuntime_boundsError.eta (x : TRuntime_boundsError) : TRuntime_boundsError.mk x.fX x.fY x.fSigned x.fCode = x := by cases x; rfl

def TRuntime_errorAddressString.re (x : TRuntime_errorAddressString) : TRuntime_errorAddressString := TRuntime_errorAddressString.mk x.fMsg x.fAddr

@[simp] theorem TRuntime_errorAddressString.re_eq (x : TRuntime_errorAddressString) : x.re = x := by cases x; rfl

theorem TRuntime_errorAddressString.eta (x : TRuntime_errorAddressString) : TRuntime_errorAddressString.mk x.fMsg x.fAddr = x := by cases x; rfl

def TProgram.re (x : TProgram) : TProgram := TProgram.mk x.fStatements

@[simp] theorem TProgram.re_eq (x : TProgram) : x.re = x := by cases x; rfl

theorem TProgram.eta (x : TProgram) : TProgram.mk x.fStatements = x := by cases x; rfl

def TGoto.re (x : TGoto) : TGoto := TGoto.mk x.fAlways x.fSuccess x.fFailure

@[simp] theorem TGoto.re_eq (x : TGoto) : x.re = x := by cases x; rfl

theorem TGoto.eta (x : TGoto) : TGoto.mk x.fAlways x.fSuccess x.fFailure = x := by cases x; rfl

def TExpr.re (x : TExpr) : TExpr := TExpr.mk x.fKind x.fNum x.fText x.fKids

@[simp] theorem TExpr.re_eq (x : TExpr) : x.re = x := by cases x; rfl

theorem TExpr.eta (x : TExpr) : TExpr.mk x.fKind x.fNum x.fText x.fKids = x := by cases x; rfl

def TStatement.re (x : TStatement) : TStatement := TStatement.mk x.fLabel x.fHasSubject x.fSubject x.fHasPattern x.fPattern x.fHasReplace x.fReplace x.fGoto

@[simp] theorem TStatement.re_eq (x : TStatement) : x.re = x := by cases x; rfl

theorem TStatement.eta (x : TStatement) : TStatement.mk x.fLabel x.fHasSubject x.fSubject x.fHasPattern x.fPattern x.fHasReplace x.fReplace x.fGoto = x := by cases x; rfl

def TSpec_l00Src.re (x : TSpec_l00Src) : TSpec_l00Src := TSpec_l00Src.mk x.fCode x.fAt x.fSeed

@[simp] theorem TSpec_l00Src.re_eq (x : TSpec_l00Src) : x.re = x := by cases x; rfl

theorem TSpec_l00Src.eta (x : TSpec_l00Src) : TSpec_l00Src.mk x.fCode x.fAt x.fSeed = x := by cases x; rfl

def TToken.re (x : TToken) : TToken := TToken.mk x.fKind x.fNum x.fText x.fBefore x.fAfter

@[simp] theorem TToken.re_eq (x : TToken) : x.re = x := by cases x; rfl

theorem TToken.eta (x : TToken) : TToken.mk x.fKind x.fNum x.fText x.fBefore x.fAfter = x := by cases x; rfl

def TErrors_errorString.re (x : TErrors_errorString) : TErrors_errorString := TErrors_errorString.mk x.fS

@[simp] theorem TErrors_errorString.re_eq (x : TErrors_errorString) : x.re = x := by cases x; rfl

theorem TErrors_errorString.eta (x : TErrors_errorString) : TErrors_errorString.mk x.fS = x := by cases x; rfl

theorem SS_empty {n : Nat} (h7 : ¬ n = 7) (h13 : ¬ n = 13) (h23 : ¬ n = 23) (h37 : ¬ n = 37) (h50 : ¬ n = 50) (h52 : ¬ n = 52) (h108 : ¬ n = 108) (h146 : ¬ n = 146) (h224 : ¬ n = 224) : SS n = Empty := by
  unfold SS
  split <;> first | rfl | (exfalso; omega)

theorem GG.law (n : Nat) : SLaw GG n := by
  by_cases h7 : n = 7
  · subst h7; exact TRuntime_boundsError.ok.law
  by_cases h13 : n = 13
  · subst h13; exact TRuntime_errorAddressString.ok.law
  by_cases h23 : n = 23
  · subst h23; exact TProgram.ok.law
  by_cases h37 : n = 37
  · subst h37; exact TGoto.ok.law
  by_cases h50 : n = 50
  · subst h50; exact TExpr.ok.law
  by_cases h52 : n = 52
  · subst h52; exact TStatement.ok.law
  by_cases h108 : n = 108
  · subst h108; exact TSpec_l00Src.ok.law
  by_cases h146 : n = 146
  · subst h146; exact TToken.ok.law
  by_cases h224 : n = 224
  · subst h224; exact TErrors_errorString.ok.law
  exact .empty fun x => (cast (SS_empty h7 h13 h23 h37 h50 h52 h108 h146 h224) x).elim

theorem GG.ok : SigOk GG := sigOk_of GG.law

noncomputable def OO : Opn GG where
  P := Tryz.prog
  tab := [(2, (.int .i64)), (3, (.int .i64)), (4, .bool), (5, (.int .u8)), (6, (.int .u8)), (7, (.st 7)), (8, (.st 7)), (9, .str), (10, .str), (11, .str), (12, (.int .u64)), (13, (.st 13)), (14, (.st 13)), (21, (.int .i32)), (22, (.sl (.st 52))), (23, (.st 23)), (24, (.st 23)), (26, (.sl .str)), (28, (.sl (.st 52))), (29, (.st 23)), (30, (.st 23)), (37, (.st 37)), (38, (.st 37)), (42, (.st 37)), (45, (.sl (.int .u8))), (49, (.sl (.st 50))), (50, (.st 50)), (51, (.st 50)), (52, (.st 52)), (53, (.st 52)), (81, (.sl (.st 50))), (82, (.st 50)), (83, (.st 50)), (84, (.st 52)), (85, (.st 52)), (96, (.sl (.sl .str))), (102, (.sl (.int .i64))), (107, (.int .u64)), (108, (.st 108)), (109, (.st 108)), (111, (.sl (.st 146))), (129, (.int .u64)), (146, (.st 146)), (147, (.st 146)), (153, (.int .i64)), (162, (.int .u32)), (182, (.int .u64)), (206, (.int .i64)), (224, (.st 224)), (225, (.st 224)), (234, (.int .u8)), (235, (.int .u8)), (237, (.int .i32)), (238, (.int .i32))]
  cty := scty

theorem OO.tot (n : Nat) (vs : List (V SS)) (h : Leaves GG (scty n) vs) : ∃ x, smake n vs = some x ∧ scells n x = vs := by
  by_cases h7 : n = 7
  · subst h7; exact TRuntime_boundsError.ok.tot h
  by_cases h13 : n = 13
  · subst h13; exact TRuntime_errorAddressString.ok.tot h
  by_cases h23 : n = 23
  · subst h23; exact TProgram.ok.tot h
  by_cases h37 : n = 37
  · subst h37; exact TGoto.ok.tot h
  by_cases h50 : n = 50
  · subst h50; exact TExpr.ok.tot h
  by_cases h52 : n = 52
  · subst h52; exact TStatement.ok.tot h
  by_cases h108 : n = 108
  · subst h108; exact TSpec_l00Src.ok.tot h
  by_cases h146 : n = 146
  · subst h146; exact TToken.ok.tot h
  by_cases h224 : n = 224
  · subst h224; exact TErrors_errorString.ok.tot h
  exfalso
  have e : scty n = [.st n] := by
    unfold scty
    split <;> first | rfl | (exfalso; omega)
  rw [e] at h
  obtain ⟨x⟩ := leaves_st h
  exact (cast (SS_empty h7 h13 h23 h37 h50 h52 h108 h146 h224) x : Empty).elim

theorem OO.ok : OpnOk OO := ⟨by kernel_rfl, OO.tot⟩

def cut7 : Nat → Option (List (Nat × Option Ty))
  | 9 => some [(3, none), (4, none), (5, none), (6, none)]
  | 13 => some []
  | 14 => some [(3, none), (4, none), (5, none), (6, none)]
  | 17 => some [(3, none), (4, none), (5, none), (7, none), (8, none)]
  | 18 => some [(3, none), (4, none), (5, none), (7, none), (8, none)]
  | 20 => some []
  | _ => none

def cut9 : Nat → Option (List (Nat × Option Ty))
  | 5 => some [(1, none), (3, none), (4, none)]
  | _ => none

def cut11 : Nat → Option (List (Nat × Option Ty))
  | 5 => some [(3, none), (11, none), (12, none), (13, none)]
  | _ => none

def cut12 : Nat → Option (List (Nat × Option Ty))
  | 4 => some [(0, none), (1, none), (5, none)]
  | _ => none

def cut15 : Nat → Option (List (Nat × Option Ty))
  | 2 => some [(0, none), (1, none), (5, none)]
  | _ => none

def cut16 : Nat → Option (List (Nat × Option Ty))
  | 2 => some [(0, none), (1, none), (5, none)]
  | _ => none

def cut17 : Nat → Option (List (Nat × Option Ty))
  | 9 => some [(1, none), (3, none), (4, none), (5, none), (6, none)]
  | 10 => some [(1, none), (3, none), (4, none), (5, none), (6, none)]
  | 12 => some [(1, none), (3, none), (4, none), (5, none), (6, none)]
  | 5 => some [(1, none), (3, none), (4, none)]
  | _ => none

def cut18 : Nat → Option (List (Nat × Option Ty))
  | 8 => some [(1, none), (3, none), (13, none), (14, none), (15, none), (21, none), (22, none), (23, none)]
  | 11 => some [(1, none), (3, none), (7, none), (13, none), (14, none), (15, none), (21, none), (22, none), (23, none)]
  | 12 => some [(1, none), (3, none), (13, none), (14, none), (15, none), (21, none), (22, none), (23, none)]
  | 5 => some [(1, none), (3, none), (13, none), (14, none), (15, none)]
  | _ => none

def cut19 : Nat → Option (List (Nat × Option Ty))
  | 10 => some [(1, none), (3, none), (4, none), (6, none), (7, none)]
  | 5 => some [(1, none), (3, none), (4, none)]
  | 14 => some [(1, none), (3, none), (4, none), (6, none), (7, none), (8, none), (9, none)]
  | _ => none

def cut20 : Nat → Option (List (Nat × Option Ty))
  | 8 => some [(3, none), (13, none), (14, none), (15, none), (25, none), (26, none), (27, none)]
  | 5 => some [(3, none), (13, none), (14, none), (15, none)]
  | _ => none

def cut27 : Nat → Option (List (Nat × Option Ty))
  | 8 => some []
  | 4 => some [(1, none), (3, none)]
  | 5 => some [(1, none), (3, none)]
  | _ => none

def cut29 : Nat → Option (List (Nat × Option Ty))
  | 5 => some [(0, none), (1, none), (5, none)]
  | _ => none

def cut30 : Nat → Option (List (Nat × Option Ty))
  | 3 => some [(0, none), (3, none), (4, none)]
  | _ => none

def cut31 : Nat → Option (List (Nat × Option Ty))
  | 8 => some [(1, none), (16, none), (17, none), (18, none)]
  | 4 => some [(1, none), (16, none), (17, none), (18, none)]
  | 7 => some []
  | _ => none

def cut32 : Nat → Option (List (Nat × Option Ty))
  | 4 => some [(0, none), (1, none), (5, none)]
  | _ => none

def cut33 : Nat → Option (List (Nat × Option Ty))
  | 2 => some [(0, none), (1, none), (5, none)]
  | _ => none

def cut34 : Nat → Option (List (Nat × Option Ty))
  | 4 => some [(0, none), (3, none)]
  | _ => none

def cut35 : Nat → Option (List (Nat × Option Ty))
  | 5 => some [(3, none), (17, none), (18, none), (19, none)]
  | _ => none

def cut37 : Nat → Option (List (Nat × Option Ty))
  | 2 => some [(1, none), (2, none), (5, none)]
  | _ => none

def cut38 : Nat → Option (List (Nat × Option Ty))
  | 2 => some [(0, none), (1, none), (5, none)]
  | 5 => some [(0, none)]
  | 6 => some [(0, none), (1, none), (5, none)]
  | _ => none

def cut39 : Nat → Option (List (Nat × Option Ty))
  | 3 => some [(3, none), (13, none), (14, none), (15, none)]
  | _ => none

def cut45 : Nat → Option (List (Nat × Option Ty))
  | 11 => some [(6, none), (25, none), (26, none), (27, none)]
  | 3 => some [(0, none), (3, none), (9, none), (10, none), (11, none)]
  | _ => none

def cut47 : Nat → Option (List (Nat × Option Ty))
  | 2 => some []
  | 3 => some [(1, none)]
  | _ => none

def cut49 : Nat → Option (List (Nat × Option Ty))
  | 6 => some [(3, none), (4, none), (10, none)]
  | _ => none

def cut51 : Nat → Option (List (Nat × Option Ty))
  | 2 => some [(5, none), (6, none), (7, none)]
  | _ => none

def cut54 : Nat → Option (List (Nat × Option Ty))
  | 6 => some [(3, none), (4, none), (10, none)]
  | _ => none

def cut55 : Nat → Option (List (Nat × Option Ty))
  | 3 => some [(0, none), (2, none), (3, none), (4, none)]
  | 4 => some [(0, none), (2, none), (3, none), (4, none)]
  | 7 => some [(0, none), (2, none), (3, none), (4, none), (5, none)]
  | 8 => some [(0, none), (2, none), (3, none), (4, none), (5, none)]
  | 11 => some [(0, none), (2, none), (3, none)]
  | _ => none

def cut58 : Nat → Option (List (Nat × Option Ty))
  | 3 => some [(1, none), (3, none), (4, none)]
  | _ => none

def cut61 : Nat → Option (List (Nat × Option Ty))
  | 2 => some [(1, none), (7, none), (8, none), (9, none)]
  | _ => none

def cut62 : Nat → Option (List (Nat × Option Ty))
  | 2 => some []
  | 3 => some [(1, none)]
  | 4 => some []
  | 5 => some [(1, none)]
  | 6 => some []
  | 7 => some [(1, none)]
  | _ => none

def cut63 : Nat → Option (List (Nat × Option Ty))
  | 3 => some [(3, none), (8, none), (9, none), (10, none)]
  | _ => none

def cut65 : Nat → Option (List (Nat × Option Ty))
  | 2 => some [(0, none), (1, none), (5, none)]
  | _ => none

def cut66 : Nat → Option (List (Nat × Option Ty))
  | 2 => some [(0, none), (1, none), (7, none), (8, none)]
  | _ => none

def cut69 : Nat → Option (List (Nat × Option Ty))
  | 9 => some [(0, none), (3, none), (4, none), (5, none)]
  | 4 => some [(0, none), (3, none)]
  | _ => none

def cut71 : Nat → Option (List (Nat × Option Ty))
  | 2 => some [(0, none), (1, none), (2, none)]
  | 3 => some [(0, none), (1, none), (2, none)]
  | 4 => some [(0, none), (1, none), (2, none), (7, none)]
  | _ => none

def cut72 : Nat → Option (List (Nat × Option Ty))
  | 6 => some [(0, none)]
  | _ => none

def cut73 : Nat → Option (List (Nat × Option Ty))
  | 3 => some [(1, none), (10, none), (11, none), (12, none)]
  | _ => none

def cut74 : Nat → Option (List (Nat × Option Ty))
  | 2 => some [(2, none), (3, none)]
  | _ => none

def cut78 : Nat → Option (List (Nat × Option Ty))
  | 2 => some [(1, none), (7, none), (8, none), (9, none)]
  | _ => none

def cut84 : Nat → Option (List (Nat × Option Ty))
  | 24 => some [(2, none), (3, none)]
  | 10 => some [(0, none), (2, none), (3, none)]
  | 13 => some [(0, none), (2, none), (3, none)]
  | _ => none

def cut86 : Nat → Option (List (Nat × Option Ty))
  | 2 => some []
  | 3 => some [(1, none)]
  | 4 => some []
  | 5 => some [(1, none)]
  | _ => none

def cut87 : Nat → Option (List (Nat × Option Ty))
  | 10 => some [(3, none)]
  | 6 => some [(1, none), (3, none)]
  | _ => none

def cut92 : Nat → Option (List (Nat × Option Ty))
  | 11 => some [(3, none)]
  | 6 => some [(1, none), (3, none)]
  | _ => none

def cut93 : Nat → Option (List (Nat × Option Ty))
  | 16 => some [(0, none), (5, none), (6, none), (8, none)]
  | 5 => some [(0, none), (5, none), (6, none)]
  | _ => none

def cut99 : Nat → Option (List (Nat × Option Ty))
  | 16 => some [(0, none), (1, none), (2, none), (3, none), (8, none), (9, none), (10, none), (11, none)]
  | 17 => some [(0, none), (1, none), (2, none), (3, none), (8, none), (9, none), (10, none), (11, none)]
  | 2 => some [(0, none), (1, none), (2, none), (3, none), (8, none), (9, none)]
  | 15 => some [(0, none), (1, none), (2, none), (3, none), (8, none), (9, none), (10, none), (11, none), (12, none)]
  | _ => none

def cut101 : Nat → Option (List (Nat × Option Ty))
  | 3 => some [(0, none), (3, none), (4, none)]
  | _ => none

def cut102 : Nat → Option (List (Nat × Option Ty))
  | 4 => some [(0, none), (3, none)]
  | _ => none

def cut103 : Nat → Option (List (Nat × Option Ty))
  | 11 => some [(0, none), (1, none), (5, none), (6, none), (7, none)]
  | 4 => some [(0, none), (1, none), (5, none), (6, none), (7, none)]
  | _ => none

def cut110 : Nat → Option (List (Nat × Option Ty))
  | 5 => some [(0, none), (4, none)]
  | 6 => some [(0, none), (4, none), (17, none)]
  | 22 => some [(0, none), (1, none), (4, none), (7, none), (8, none)]
  | _ => none

def cut114 : Nat → Option (List (Nat × Option Ty))
  | 23 => some [(0, none), (3, none), (4, none)]
  | _ => none

def cut115 : Nat → Option (List (Nat × Option Ty))
  | 8 => some [(1, none), (3, none)]
  | _ => none

def cut116 : Nat → Option (List (Nat × Option Ty))
  | 2 => some [(0, none), (1, none), (5, none)]
  | 3 => some [(0, none), (1, none), (5, none)]
  | 5 => some []
  | _ => none

def cut117 : Nat → Option (List (Nat × Option Ty))
  | 4 => some [(0, none), (5, none), (6, none), (7, none)]
  | _ => none

def cut118 : Nat → Option (List (Nat × Option Ty))
  | 5 => some [(0, none), (1, none), (5, none)]
  | _ => none

def cut119 : Nat → Option (List (Nat × Option Ty))
  | 3 => some [(0, none), (3, none), (4, none)]
  | _ => none

def cut123 : Nat → Option (List (Nat × Option Ty))
  | 11 => some [(1, none), (4, none), (36, none), (37, none), (38, none)]
  | _ => none

def cut124 : Nat → Option (List (Nat × Option Ty))
  | 8 => some [(3, none)]
  | _ => none

def cut126 : Nat → Option (List (Nat × Option Ty))
  | 2 => some [(0, none), (1, none), (2, none), (7, none)]
  | _ => none

def cut131 : Nat → Option (List (Nat × Option Ty))
  | 4 => some [(0, none), (1, none), (5, none)]
  | _ => none

def cut132 : Nat → Option (List (Nat × Option Ty))
  | 1 => some [(0, none), (1, none), (2, none), (6, none)]
  | 4 => some [(0, none), (1, none), (2, none), (6, none), (7, none)]
  | _ => none

def cut133 : Nat → Option (List (Nat × Option Ty))
  | 8 => some [(0, none), (6, none), (7, none), (10, none)]
  | 4 => some [(0, none), (6, none), (7, none), (8, none), (9, none)]
  | _ => none

def cut134 : Nat → Option (List (Nat × Option Ty))
  | 5 => some [(0, none), (1, none), (6, none), (7, none), (8, none), (9, none)]
  | _ => none

def cut135 : Nat → Option (List (Nat × Option Ty))
  | 12 => some [(9, none), (11, none)]
  | _ => none

def cut136 : Nat → Option (List (Nat × Option Ty))
  | 2 => some [(0, none), (6, none), (7, none)]
  | _ => none

def cut137 : Nat → Option (List (Nat × Option Ty))
  | 3 => some [(0, none), (1, none), (2, none), (7, none), (8, none)]
  | 4 => some [(0, none), (1, none), (2, none), (7, none), (8, none)]
  | 5 => some [(0, none), (1, none), (2, none), (7, none), (8, none)]
  | 14 => some [(0, none), (1, none), (2, none), (7, none), (8, none), (9, none)]
  | 18 => some [(0, none), (1, none), (2, none), (7, none), (8, none)]
  | 20 => some [(0, none), (1, none), (2, none), (7, none), (8, none), (10, none)]
  | _ => none

def cut139 : Nat → Option (List (Nat × Option Ty))
  | 3 => some [(0, none), (1, none), (9, none), (10, none)]
  | 5 => some [(0, none), (1, none), (9, none), (10, none)]
  | _ => none

def cut140 : Nat → Option (List (Nat × Option Ty))
  | 13 => some [(0, none), (1, none), (10, none), (11, none)]
  | 3 => some [(0, none), (1, none), (10, none), (11, none)]
  | 5 => some [(0, none), (1, none), (10, none), (11, none)]
  | 15 => some [(0, none), (1, none), (10, none), (11, none)]
  | _ => none

def cut141 : Nat → Option (List (Nat × Option Ty))
  | 7 => some [(0, none), (2, none)]
  | _ => none

def cut142 : Nat → Option (List (Nat × Option Ty))
  | 7 => some [(0, none), (2, none)]
  | _ => none

def cut143 : Nat → Option (List (Nat × Option Ty))
  | 32 => some [(0, none), (3, none), (4, none)]
  | 13 => some [(0, none), (3, none)]
  | 14 => some [(0, none), (4, none), (8, none)]
  | 26 => some [(0, none), (4, none)]
  | 27 => some [(0, none), (4, none), (8, none)]
  | 31 => some []
  | _ => none

def cut144 : Nat → Option (List (Nat × Option Ty))
  | 3 => some [(0, none), (1, none)]
  | 4 => some [(0, none), (1, none)]
  | 5 => some [(1, none)]
  | _ => none

def cut146 : Nat → Option (List (Nat × Option Ty))
  | 2 => some [(1, none), (7, none), (8, none), (9, none)]
  | _ => none

def cut152 : Nat → Option (List (Nat × Option Ty))
  | 21 => some []
  | 11 => some []
  | 12 => some [(6, none)]
  | 20 => some []
  | _ => none

def cut154 : Nat → Option (List (Nat × Option Ty))
  | 4 => some [(0, none), (3, none)]
  | _ => none

def cut156 : Nat → Option (List (Nat × Option Ty))
  | 10 => some [(0, none), (1, none), (4, none), (8, none), (9, none)]
  | 11 => some [(0, none), (1, none), (4, none), (8, none), (9, none)]
  | 13 => some [(1, none), (4, none), (8, none), (9, none)]
  | 18 => some [(0, none), (1, none), (4, none), (6, none), (10, none)]
  | 21 => some [(4, none)]
  | 22 => some [(0, none), (1, none), (4, none), (10, none)]
  | 27 => some [(1, none), (4, none), (6, none), (11, none), (12, none)]
  | _ => none

def cut157 : Nat → Option (List (Nat × Option Ty))
  | 5 => some [(1, none), (17, none), (18, none), (19, none)]
  | _ => none

def cut158 : Nat → Option (List (Nat × Option Ty))
  | 4 => some [(1, none), (2, none), (15, none), (16, none), (17, none)]
  | _ => none

def cut159 : Nat → Option (List (Nat × Option Ty))
  | 21 => some []
  | 11 => some []
  | 12 => some [(3, none)]
  | 20 => some []
  | _ => none

def cut162 : Nat → Option (List (Nat × Option Ty))
  | 11 => some [(0, none), (1, none), (5, none)]
  | 12 => some [(0, none), (1, none), (5, none), (39, none), (40, none), (41, none)]
  | 22 => some [(1, none), (8, none), (63, none), (64, none), (65, none)]
  | _ => none

def cut171 : Nat → Option (List (Nat × Option Ty))
  | 1 => some [(0, none), (2, none), (3, none), (8, none)]
  | 5 => some [(0, none), (2, none), (3, none), (8, none), (9, none)]
  | _ => none

def cut180 : Nat → Option (List (Nat × Option Ty))
  | 2 => some []
  | 3 => some [(0, none), (1, none)]
  | 4 => some [(0, none), (1, none), (5, none)]
  | _ => none

def cut181 : Nat → Option (List (Nat × Option Ty))
  | 2 => some [(0, none), (1, none), (5, none)]
  | _ => none

def cut182 : Nat → Option (List (Nat × Option Ty))
  | 11 => some []
  | 12 => some []
  | _ => none

def cut183 : Nat → Option (List (Nat × Option Ty))
  | 19 => some [(1, none), (3, none)]
  | 18 => some [(3, none)]
  | 11 => some []
  | 12 => some [(1, none), (3, none)]
  | _ => none

def cut194 : Nat → Option (List (Nat × Option Ty))
  | 8 => some [(0, none), (5, none), (6, none)]
  | _ => none

def cut196 : Nat → Option (List (Nat × Option Ty))
  | 16 => some [(2, none), (8, none), (9, none)]
  | 10 => some [(0, none), (1, none), (2, none), (8, none)]
  | 20 => some [(10, none)]
  | 21 => some [(8, none), (9, none)]
  | _ => none

def cut199 : Nat → Option (List (Nat × Option Ty))
  | 9 => some [(0, none), (1, none)]
  | 10 => some [(0, none), (1, none), (5, none)]
  | 15 => some [(0, none), (1, none), (5, none), (6, none), (7, none), (8, none), (9, none), (10, none)]
  | 22 => some [(8, none)]
  | 23 => some [(0, none), (1, none), (5, none), (6, none), (7, none), (8, none), (9, none), (10, none)]
  | 31 => some [(0, none), (1, none), (8, none)]
  | _ => none

def cut202 : Nat → Option (List (Nat × Option Ty))
  | 1 => some [(0, none), (1, none), (4, none)]
  | 25 => some [(0, none), (4, none), (12, none)]
  | _ => none

def cut203 : Nat → Option (List (Nat × Option Ty))
  | 2 => some [(0, none), (1, none), (2, none), (3, none), (4, none), (10, none), (11, none)]
  | 3 => some [(0, none), (1, none), (2, none), (3, none), (4, none), (10, none), (11, none)]
  | 11 => some [(0, none), (1, none), (3, none), (4, none), (10, none), (11, none), (12, none), (13, none), (14, none), (15, none), (16, none)]
  | 18 => some [(0, none), (1, none), (3, none), (4, none), (10, none), (11, none), (12, none), (13, none), (17, none)]
  | 28 => some [(0, none), (4, none), (10, none), (11, none), (12, none), (13, none)]
  | _ => none

def cut205 : Nat → Option (List (Nat × Option Ty))
  | 32 => some [(0, none), (1, none), (2, none), (8, none), (9, none), (10, none)]
  | 36 => some [(1, none), (8, none), (9, none), (10, none), (11, none), (12, none), (13, none), (99, none), (100, none), (101, none)]
  | 10 => some [(0, none), (2, none), (8, none), (9, none)]
  | 43 => some [(1, none), (8, none), (9, none), (10, none), (11, none), (12, none), (13, none), (15, none), (99, none), (100, none), (101, none)]
  | 44 => some [(1, none), (8, none), (9, none), (10, none), (11, none), (12, none), (13, none), (15, none), (99, none), (100, none), (101, none)]
  | 13 => some [(0, none), (2, none), (8, none), (9, none)]
  | 46 => some [(1, none), (8, none), (9, none), (10, none), (11, none), (12, none), (13, none), (16, none), (99, none), (100, none), (101, none)]
  | 15 => some [(0, none), (2, none), (8, none), (9, none)]
  | 19 => some [(0, none), (2, none), (8, none), (9, none)]
  | 21 => some [(0, none), (1, none), (2, none), (8, none), (9, none)]
  | 55 => some [(1, none), (8, none), (9, none), (10, none), (11, none), (12, none), (13, none), (99, none), (100, none), (101, none)]
  | 25 => some [(0, none), (1, none), (2, none), (8, none), (9, none)]
  | _ => none

def cut212 : Nat → Option (List (Nat × Option Ty))
  | 11 => some [(0, none), (1, none), (5, none), (6, none), (7, none), (8, none), (10, none)]
  | 5 => some [(0, none), (1, none), (5, none), (6, none), (7, none), (8, none), (9, none)]
  | _ => none

def cut218 : Nat → Option (List (Nat × Option Ty))
  | 4 => some [(0, none), (3, none), (4, none)]
  | 5 => some [(0, none), (3, none), (4, none)]
  | 7 => some [(0, none)]
  | 10 => some [(0, none), (3, none), (4, none), (5, none)]
  | 11 => some [(0, none), (3, none), (4, none), (5, none)]
  | 13 => some [(0, none), (4, none), (5, none)]
  | 14 => some [(0, none), (3, none), (4, none), (5, none)]
  | _ => none

def cut222 : Nat → Option (List (Nat × Option Ty))
  | 8 => some [(4, none), (6, none), (7, none), (8, none)]
  | 3 => some [(0, none), (4, none), (5, none)]
  | _ => none

def cutT : FuncId → Nat → Option (List (Nat × Option Ty))
  | 7 => cut7
  | 9 => cut9
  | 11 => cut11
  | 12 => cut12
  | 15 => cut15
  | 16 => cut16
  | 17 => cut17
  | 18 => cut18
  | 19 => cut19
  | 20 => cut20
  | 27 => cut27
  | 29 => cut29
  | 30 => cut30
  | 31 => cut31
  | 32 => cut32
  | 33 => cut33
  | 34 => cut34
  | 35 => cut35
  | 37 => cut37
  | 38 => cut38
  | 39 => cut39
  | 45 => cut45
  | 47 => cut47
  | 49 => cut49
  | 51 => cut51
  | 54 => cut54
  | 55 => cut55
  | 58 => cut58
  | 61 => cut61
  | 62 => cut62
  | 63 => cut63
  | 65 => cut65
  | 66 => cut66
  | 69 => cut69
  | 71 => cut71
  | 72 => cut72
  | 73 => cut73
  | 74 => cut74
  | 78 => cut78
  | 84 => cut84
  | 86 => cut86
  | 87 => cut87
  | 92 => cut92
  | 93 => cut93
  | 99 => cut99
  | 101 => cut101
  | 102 => cut102
  | 103 => cut103
  | 110 => cut110
  | 114 => cut114
  | 115 => cut115
  | 116 => cut116
  | 117 => cut117
  | 118 => cut118
  | 119 => cut119
  | 123 => cut123
  | 124 => cut124
  | 126 => cut126
  | 131 => cut131
  | 132 => cut132
  | 133 => cut133
  | 134 => cut134
  | 135 => cut135
  | 136 => cut136
  | 137 => cut137
  | 139 => cut139
  | 140 => cut140
  | 141 => cut141
  | 142 => cut142
  | 143 => cut143
  | 144 => cut144
  | 146 => cut146
  | 152 => cut152
  | 154 => cut154
  | 156 => cut156
  | 157 => cut157
  | 158 => cut158
  | 159 => cut159
  | 162 => cut162
  | 171 => cut171
  | 180 => cut180
  | 181 => cut181
  | 182 => cut182
  | 183 => cut183
  | 194 => cut194
  | 196 => cut196
  | 199 => cut199
  | 202 => cut202
  | 203 => cut203
  | 205 => cut205
  | 212 => cut212
  | 218 => cut218
  | 222 => cut222
  | _ => fun _ => none

def ownT : FuncId → Option (TypeId × (List (V GG.S) → Option (List (List UInt8))))
  | 72 => some (9, growV)
  | _ => none

def extT : FuncId → Option (Sigma fun rt : List Ty => List (V GG.S) → Option (rDen GG.S rt))
  | 162 => some ⟨[.str], joinV⟩
  | 166 => some ⟨[.int .i64, .bool], readIntV⟩
  | 168 => some ⟨[.int .i64], indexByteV⟩
  | 185 => some ⟨[.bool], containsV⟩
  | 186 => some ⟨[.str], itoaV⟩
  | _ => none

def eatT : FuncId → Option (TypeId × (List (List UInt8) → Option (List (List UInt8))))
  | 42 => some (9, sortS)
  | _ => none

def bldF : FuncId → Option (Nat × TypeId × TypeId)
  | 95 => some (1, 120, 5)
  | 96 => some (3, 120, 5)
  | _ => none

def ctorT : FuncId → Option (TypeId × (List (V GG.S) → Option (List (V GG.S))))
  | 56 => some (109, srcV)
  | _ => none

noncomputable def CC : Cfg GG where
  P := Tryz.prog
  refs := fun f => [55, 73, 74, 83, 84, 85, 107, 108, 109, 110, 111, 148, 173, 174, 175, 191].contains f
  ext := U.extT
  cut := cutT
  glob := fun _ => none
  gint := fun g => g == 0
  gtab := fun | 1 => some ((Lib.pow10Tab.map fun z => Value.int .u64 z).toArray) | _ => none
  own := U.ownT
  bld := U.bldF
  ctor := U.ctorT
  eat := U.eatT
  trE := fun e => [30, 51, 53].contains e
  ownR := fun f => [10, 11, 18, 20, 30, 60, 90, 119].contains f
  wrf := fun f => [14, 15, 33, 65].contains f
  grw := fun _ => none

end Go.Dv.U
