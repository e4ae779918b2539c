/- The types of this program and the places where its loops are cut. -/
import Derived.Test.YtohlmmpchllelaaGreatDoorDvd
import Derived.Test.YtohlmmpchllelaaGreatDoorChecked
set_option linter.all false
set_option linter.unusedVariables false
set_option linter.unusedSimpArgs false
namespace Go.Dv.U

open Go Go.Dv Go.Proofs

set_option maxRecDepth 100000

structure TRuntime_boundsError where
  fX : Int
  fY : Int
  fSigned : Bool
  fCode : Int

structure TRuntime_errorAddressString where
  fMsg : (List UInt8)
  fAddr : Int

structure TExpr where
  fKind : Int
  fNum : Int
  fText : (List UInt8)
  fKids : (List TExpr)

structure TSpec_l00Src where
  fCode : (List Int)
  fAt : Int
  fSeed : Int

structure TToken where
  fKind : Int
  fNum : Int
  fText : (List UInt8)
  fBefore : Bool
  fAfter : Bool

structure TParser where
  fTokens : (List TToken)
  fAt : Int

structure TErrors_errorString where
  fS : (List UInt8)

def SS : Nat → Type
  | 7 => TRuntime_boundsError
  | 13 => TRuntime_errorAddressString
  | 25 => TExpr
  | 47 => TSpec_l00Src
  | 67 => TToken
  | 97 => TParser
  | 146 => TErrors_errorString
  | _ => Empty

def TRuntime_boundsError.ts : List Ty := [(.int .i64), (.int .i64), .bool, (.int .u8)]

def TRuntime_boundsError.to (x : TRuntime_boundsError) : lDen SS TRuntime_boundsError.ts := (x.fX, x.fY, x.fSigned, x.fCode, ())

def TRuntime_boundsError.of (p : lDen SS TRuntime_boundsError.ts) : TRuntime_boundsError := (⟨p.1, p.2.1, p.2.2.1, p.2.2.2.1⟩ : TRuntime_boundsError)

def TRuntime_errorAddressString.ts : List Ty := [.str, (.int .u64)]

def TRuntime_errorAddressString.to (x : TRuntime_errorAddressString) : lDen SS TRuntime_errorAddressString.ts := (x.fMsg, x.fAddr, ())

def TRuntime_errorAddressString.of (p : lDen SS TRuntime_errorAddressString.ts) : TRuntime_errorAddressString := (⟨p.1, p.2.1⟩ : TRuntime_errorAddressString)

def TExpr.ts : List Ty := [(.int .i64), (.int .i64), .str, (.sl (.st 25))]

def TExpr.to (x : TExpr) : lDen SS TExpr.ts := (x.fKind, x.fNum, x.fText, x.fKids, ())

def TExpr.of (p : lDen SS TExpr.ts) : TExpr := (⟨p.1, p.2.1, p.2.2.1, p.2.2.2.1⟩ : TExpr)

def TSpec_l00Src.ts : List Ty := [(.sl (.int .u8)), (.int .i64), (.int .u64)]

def TSpec_l00Src.to (x : TSpec_l00Src) : lDen SS TSpec_l00Src.ts := (x.fCode, x.fAt, x.fSeed, ())

def TSpec_l00Src.of (p : lDen SS TSpec_l00Src.ts) : TSpec_l00Src := (⟨p.1, p.2.1, p.2.2.1⟩ : TSpec_l00Src)

def TToken.ts : List Ty := [(.int .i64), (.int .i64), .str, .bool, .bool]

def TToken.to (x : TToken) : lDen SS TToken.ts := (x.fKind, x.fNum, x.fText, x.fBefore, x.fAfter, ())

def TToken.of (p : lDen SS TToken.ts) : TToken := (⟨p.1, p.2.1, p.2.2.1, p.2.2.2.1, p.2.2.2.2.1⟩ : TToken)

def TParser.ts : List Ty := [(.sl (.st 67)), (.int .i64)]

def TParser.to (x : TParser) : lDen SS TParser.ts := (x.fTokens, x.fAt, ())

def TParser.of (p : lDen SS TParser.ts) : TParser := (⟨p.1, p.2.1⟩ : TParser)

def TErrors_errorString.ts : List Ty := [.str]

def TErrors_errorString.to (x : TErrors_errorString) : lDen SS TErrors_errorString.ts := (x.fS, ())

def TErrors_errorString.of (p : lDen SS TErrors_errorString.ts) : TErrors_errorString := (⟨p.1⟩ : TErrors_errorString)

def scells : (n : Nat) → SS n → List (V SS)
  | 7, x => cellsL SS TRuntime_boundsError.ts (TRuntime_boundsError.to x)
  | 13, x => cellsL SS TRuntime_errorAddressString.ts (TRuntime_errorAddressString.to x)
  | 25, x => cellsL SS TExpr.ts (TExpr.to x)
  | 47, x => cellsL SS TSpec_l00Src.ts (TSpec_l00Src.to x)
  | 67, x => cellsL SS TToken.ts (TToken.to x)
  | 97, x => cellsL SS TParser.ts (TParser.to x)
  | 146, x => cellsL SS TErrors_errorString.ts (TErrors_errorString.to x)
  | _, _ => []

def smake : (n : Nat) → List (V SS) → Option (SS n)
  | 7, c => (prjL SS TRuntime_boundsError.ts c).map TRuntime_boundsError.of
  | 13, c => (prjL SS TRuntime_errorAddressString.ts c).map TRuntime_errorAddressString.of
  | 25, c => (prjL SS TExpr.ts c).map TExpr.of
  | 47, c => (prjL SS TSpec_l00Src.ts c).map TSpec_l00Src.of
  | 67, c => (prjL SS TToken.ts c).map TToken.of
  | 97, c => (prjL SS TParser.ts c).map TParser.of
  | 146, c => (prjL SS TErrors_errorString.ts c).map TErrors_errorString.of
  | _, _ => none

def scsz : Nat → Nat
  | 7 => 4
  | 13 => 2
  | 25 => 4
  | 47 => 3
  | 67 => 5
  | 97 => 2
  | 146 => 1
  | _ => 0

def scty : Nat → List Ty
  | 7 => TRuntime_boundsError.ts
  | 13 => TRuntime_errorAddressString.ts
  | 25 => TExpr.ts
  | 47 => TSpec_l00Src.ts
  | 67 => TToken.ts
  | 97 => TParser.ts
  | 146 => TErrors_errorString.ts
  | n => [.st n]

def stys : TypeId → Option Ty
  | 2 => some (.int .i64)
  | 3 => some (.int .i64)
  | 4 => some .bool
  | 5 => some (.int .u8)
  | 6 => some (.int .u8)
  | 7 => some (.st 7)
  | 8 => some (.st 7)
  | 9 => some .str
  | 10 => some .str
  | 11 => some .str
  | 12 => some (.int .u64)
  | 13 => some (.st 13)
  | 14 => some (.st 13)
  | 21 => some (.int .i32)
  | 22 => some (.sl (.int .u8))
  | 24 => some (.sl (.st 25))
  | 25 => some (.st 25)
  | 26 => some (.st 25)
  | 32 => some (.sl (.st 67))
  | 36 => some (.ptr (.st 47))
  | 41 => some (.ptr (.st 25))
  | 46 => some (.int .u64)
  | 47 => some (.st 47)
  | 48 => some (.st 47)
  | 52 => some (.sl .str)
  | 54 => some (.sl (.int .i64))
  | 67 => some (.st 67)
  | 68 => some (.st 67)
  | 96 => some (.ptr (.st 97))
  | 97 => some (.st 97)
  | 98 => some (.st 97)
  | 101 => some (.int .u64)
  | 124 => some (.int .u32)
  | 128 => some (.int .i64)
  | 145 => some (.ptr (.st 146))
  | 146 => some (.st 146)
  | 147 => some (.st 146)
  | 154 => some (.int .u8)
  | 155 => some (.int .u8)
  | 157 => some (.int .i32)
  | 158 => some (.int .i32)
  | _ => none

def sel : Ty → TypeId
  | (.int .i64) => 2
  | (.int .u8) => 5
  | (.st 25) => 26
  | (.st 67) => 68
  | .str => 9
  | _ => 0

def sfl : Nat → Bool
  | 7 => true
  | 13 => true
  | 25 => false
  | 47 => false
  | 67 => true
  | 97 => false
  | 146 => true
  | _ => false

def GG : Sig where
  S := SS
  csz := scsz
  cells := scells
  make := smake
  tyOf := stys
  el := sel
  fl := sfl
  tre := fun e => false

theorem TRuntime_boundsError.ok : SOk GG 7 TRuntime_boundsError.ts TRuntime_boundsError.to TRuntime_boundsError.of := ⟨rfl, fun _ => rfl, fun _ => rfl, rfl, fun _ => rfl, rfl⟩

theorem TRuntime_errorAddressString.ok : SOk GG 13 TRuntime_errorAddressString.ts TRuntime_errorAddressString.to TRuntime_errorAddressString.of := ⟨rfl, fun _ => rfl, fun _ => rfl, rfl, fun _ => rfl, rfl⟩

theorem TExpr.ok : SOk GG 25 TExpr.ts TExpr.to TExpr.of := ⟨rfl, fun _ => rfl, fun _ => rfl, rfl, fun _ => rfl, rfl⟩

theorem TSpec_l00Src.ok : SOk GG 47 TSpec_l00Src.ts TSpec_l00Src.to TSpec_l00Src.of := ⟨rfl, fun _ => rfl, fun _ => rfl, rfl, fun _ => rfl, rfl⟩

theorem TToken.ok : SOk GG 67 TToken.ts TToken.to TToken.of := ⟨rfl, fun _ => rfl, fun _ => rfl, rfl, fun _ => rfl, rfl⟩

theorem TParser.ok : SOk GG 97 TParser.ts TParser.to TParser.of := ⟨rfl, fun _ => rfl, fun _ => rfl, rfl, fun _ => rfl, rfl⟩

theorem TErrors_errorString.ok : SOk GG 146 TErrors_errorString.ts TErrors_errorString.to TErrors_errorString.of := ⟨rfl, fun _ => rfl, fun _ => rfl, rfl, fun _ => rfl, rfl⟩

def TRuntime_boundsError.re (x : TRuntime_boundsError) : TRuntime_boundsError := TRuntime_boundsError.mk x.fX x.fY x.fSigned x.fCode

@[simp] theorem TRuntime_boundsError.re_eq (x : TRuntime_boundsError) : x.re = x := by cases x; rfl

theorem TRuntime_boundsError.eta (x : TRuntime_boundsError) : TRuntime_boundsError.mk x.fX x.fY x.fSigned x.fCode = x := by cases x; rfl

def TRuntime_errorAddressString.re (x : TRuntime_errorAddressString) : TRuntime_errorAddressString := TRuntime_errorAddressString.mk x.fMsg x.fAddr

@[simp] theorem TRuntime_errorAddressString.re_eq (x : TRuntime_errorAddressString) : x.re = x := by cases x; rfl

theorem TRuntime_errorAddressString.eta (x : TRuntime_errorAddressString) : TRuntime_errorAddressString.mk x.fMsg x.fAddr = x := by cases x; rfl

def TExpr.re (x : TExpr) : TExpr := TExpr.mk x.fKind x.fNum x.fText x.fKids

@[simp] theorem TExpr.re_eq (x : TExpr) : x.re = x := by cases x; rfl

theorem TExpr.eta (x : TExpr) : TExpr.mk x.fKind x.fNum x.fText x.fKids = x := by cases x; rfl

def TSpec_l00Src.re (x : TSpec_l00Src) : TSpec_l00Src := TSpec_l00Src.mk x.fCode x.fAt x.fSeed

@[simp] theorem TSpec_l00Src.re_eq (x : TSpec_l00Src) : x.re = x := by cases x; rfl

theorem TSpec_l00Src.eta (x : TSpec_l00Src) : TSpec_l00Src.mk x.fCode x.fAt x.fSeed = x := by cases x; rfl

def TToken.re (x : TToken) : TToken := TToken.mk x.fKind x.fNum x.fText x.fBefore x.fAfter

@[simp] theorem TToken.re_eq (x : TToken) : x.re = x := by cases x; rfl

theorem TToken.eta (x : TToken) : TToken.mk x.fKind x.fNum x.fText x.fBefore x.fAfter = x := by cases x; rfl

def TParser.re (x : TParser) : TParser := TParser.mk x.fTokens x.fAt

@[simp] theorem TParser.re_eq (x : TParser) : x.re = x := by cases x; rfl

theorem TParser.eta (x : TParser) : TParser.mk x.fTokens x.fAt = x := by cases x; rfl

def TErrors_errorString.re (x : TErrors_errorString) : TErrors_errorString := TErrors_errorString.mk x.fS

@[simp] theorem TErrors_errorString.re_eq (x : TErrors_errorString) : x.re = x := by cases x; rfl

theorem TErrors_errorString.eta (x : TErrors_errorString) : TErrors_errorString.mk x.fS = x := by cases x; rfl

theorem SS_empty {n : Nat} (h7 : ¬ n = 7) (h13 : ¬ n = 13) (h25 : ¬ n = 25) (h47 : ¬ n = 47) (h67 : ¬ n = 67) (h97 : ¬ n = 97) (h146 : ¬ n = 146) : SS n = Empty := by
  unfold SS
  split <;> first | rfl | (exfalso; omega)

theorem GG.law (n : Nat) : SLaw GG n := by
  by_cases h7 : n = 7
  · subst h7; exact TRuntime_boundsError.ok.law
  by_cases h13 : n = 13
  · subst h13; exact TRuntime_errorAddressString.ok.law
  by_cases h25 : n = 25
  · subst h25; exact TExpr.ok.law
  by_cases h47 : n = 47
  · subst h47; exact TSpec_l00Src.ok.law
  by_cases h67 : n = 67
  · subst h67; exact TToken.ok.law
  by_cases h97 : n = 97
  · subst h97; exact TParser.ok.law
  by_cases h146 : n = 146
  · subst h146; exact TErrors_errorString.ok.law
  exact .empty fun x => (cast (SS_empty h7 h13 h25 h47 h67 h97 h146) x).elim

theorem GG.ok : SigOk GG := sigOk_of GG.law

noncomputable def OO : Opn GG where
  P := Tryz.prog
  tab := [(2, (.int .i64)), (3, (.int .i64)), (4, .bool), (5, (.int .u8)), (6, (.int .u8)), (7, (.st 7)), (8, (.st 7)), (9, .str), (10, .str), (11, .str), (12, (.int .u64)), (13, (.st 13)), (14, (.st 13)), (21, (.int .i32)), (22, (.sl (.int .u8))), (24, (.sl (.st 25))), (25, (.st 25)), (26, (.st 25)), (32, (.sl (.st 67))), (46, (.int .u64)), (47, (.st 47)), (48, (.st 47)), (52, (.sl .str)), (54, (.sl (.int .i64))), (67, (.st 67)), (68, (.st 67)), (97, (.st 97)), (98, (.st 97)), (101, (.int .u64)), (124, (.int .u32)), (128, (.int .i64)), (146, (.st 146)), (147, (.st 146)), (154, (.int .u8)), (155, (.int .u8)), (157, (.int .i32)), (158, (.int .i32))]
  cty := scty

theorem OO.tot (n : Nat) (vs : List (V SS)) (h : Leaves GG (scty n) vs) : ∃ x, smake n vs = some x ∧ scells n x = vs := by
  by_cases h7 : n = 7
  · subst h7; exact TRuntime_boundsError.ok.tot h
  by_cases h13 : n = 13
  · subst h13; exact TRuntime_errorAddressString.ok.tot h
  by_cases h25 : n = 25
  · subst h25; exact TExpr.ok.tot h
  by_cases h47 : n = 47
  · subst h47; exact TSpec_l00Src.ok.tot h
  by_cases h67 : n = 67
  · subst h67; exact TToken.ok.tot h
  by_cases h97 : n = 97
  · subst h97; exact TParser.ok.tot h
  by_cases h146 : n = 146
  · subst h146; exact TErrors_errorString.ok.tot h
  exfalso
  have e : scty n = [.st n] := by
    unfold scty
    split <;> first | rfl | (exfalso; omega)
  rw [e] at h
  obtain ⟨x⟩ := leaves_st h
  exact (cast (SS_empty h7 h13 h25 h47 h67 h97 h146) x : Empty).elim

theorem OO.ok : OpnOk OO := ⟨by kernel_rfl, OO.tot⟩

def cut12 : Nat → Option (List (Nat × Option Ty))
  | 16 => some [(2, none), (3, none)]
  | 13 => some [(2, none), (3, none), (4, none)]
  | _ => none

def cut14 : Nat → Option (List (Nat × Option Ty))
  | 11 => some [(1, none), (4, none), (36, none), (37, none), (38, none)]
  | _ => none

def cut16 : Nat → Option (List (Nat × Option Ty))
  | 16 => some [(0, none), (5, none), (6, none), (8, none)]
  | 5 => some [(0, none), (5, none), (6, none)]
  | _ => none

def cut18 : Nat → Option (List (Nat × Option Ty))
  | 2 => some [(0, none), (1, none), (5, none)]
  | 3 => some [(0, none), (1, none), (5, none)]
  | 5 => some []
  | _ => none

def cut19 : Nat → Option (List (Nat × Option Ty))
  | 4 => some [(0, none), (5, none), (6, none), (7, none)]
  | _ => none

def cut20 : Nat → Option (List (Nat × Option Ty))
  | 2 => some []
  | 3 => some [(0, none), (1, none)]
  | 4 => some [(0, none), (1, none), (5, none)]
  | _ => none

def cut21 : Nat → Option (List (Nat × Option Ty))
  | 5 => some [(0, none), (4, none)]
  | 6 => some [(0, none), (4, none), (17, none)]
  | 22 => some [(0, none), (1, none), (4, none), (7, none), (8, none)]
  | _ => none

def cut26 : Nat → Option (List (Nat × Option Ty))
  | 5 => some [(1, none), (17, none), (18, none), (19, none)]
  | _ => none

def cut27 : Nat → Option (List (Nat × Option Ty))
  | 21 => some []
  | 11 => some []
  | 12 => some [(3, none)]
  | 20 => some []
  | _ => none


def cut34 : Nat → Option (List (Nat × Option Ty))
  | 3 => some [(0, none), (3, none), (4, none)]
  | _ => none

def cut35 : Nat → Option (List (Nat × Option Ty))
  | 4 => some [(0, none), (3, none)]
  | _ => none

def cut37 : Nat → Option (List (Nat × Option Ty))
  | 2 => some [(0, none), (1, none), (2, none), (7, none)]
  | _ => none

def cut40 : Nat → Option (List (Nat × Option Ty))
  | 2 => some [(5, none), (6, none), (7, none)]
  | _ => none

def cut42 : Nat → Option (List (Nat × Option Ty))
  | 2 => some [(6, none)]
  | 3 => some [(0, none), (1, none), (2, none), (6, none)]
  | _ => none

def cut43 : Nat → Option (List (Nat × Option Ty))
  | 10 => some [(0, none), (1, none), (4, none), (8, none), (9, none)]
  | 11 => some [(0, none), (1, none), (4, none), (8, none), (9, none)]
  | 13 => some [(1, none), (4, none), (8, none), (9, none)]
  | 18 => some [(0, none), (1, none), (4, none), (6, none), (10, none)]
  | 21 => some [(4, none)]
  | 22 => some [(0, none), (1, none), (4, none), (10, none)]
  | 27 => some [(1, none), (4, none), (6, none), (11, none), (12, none)]
  | _ => none

def cut46 : Nat → Option (List (Nat × Option Ty))
  | 19 => some [(1, none), (3, none)]
  | 18 => some [(3, none)]
  | 11 => some []
  | 12 => some [(1, none), (3, none)]
  | _ => none

def cut54 : Nat → Option (List (Nat × Option Ty))
  | 32 => some [(0, none), (3, none), (4, none)]
  | 13 => some [(0, none), (3, none)]
  | 14 => some [(0, none), (4, none), (8, none)]
  | 26 => some [(0, none), (4, none)]
  | 27 => some [(0, none), (4, none), (8, none)]
  | 31 => some []
  | _ => none

def cut55 : Nat → Option (List (Nat × Option Ty))
  | 2 => some [(1, none), (7, none), (8, none), (9, none)]
  | _ => none

def cut63 : Nat → Option (List (Nat × Option Ty))
  | 2 => some [(1, none), (7, none), (8, none), (9, none)]
  | _ => none

def cut65 : Nat → Option (List (Nat × Option Ty))
  | 6 => some [(0, none), (1, none), (4, none), (6, none)]
  | _ => none

def cut67 : Nat → Option (List (Nat × Option Ty))
  | 3 => some [(0, none), (1, none)]
  | 4 => some [(0, none), (1, none)]
  | 5 => some [(1, none)]
  | _ => none

def cut69 : Nat → Option (List (Nat × Option Ty))
  | 11 => some []
  | 12 => some []
  | _ => none


def cut83 : Nat → Option (List (Nat × Option Ty))
  | 8 => some [(0, none), (2, none), (5, none), (6, none)]
  | 13 => some [(2, none), (5, none), (6, none)]
  | 7 => some [(0, none), (2, none), (5, none), (6, none)]
  | _ => none

def cut84 : Nat → Option (List (Nat × Option Ty))
  | 8 => some [(0, none), (1, none), (6, none), (7, none)]
  | 10 => some [(0, none), (7, none)]
  | 7 => some [(0, none), (1, none), (6, none), (7, none)]
  | _ => none




def cut93 : Nat → Option (List (Nat × Option Ty))
  | 2 => some [(0, none), (1, none), (5, none)]
  | _ => none


def cut98 : Nat → Option (List (Nat × Option Ty))
  | 2 => some [(0, none), (1, none), (4, none), (6, none)]
  | _ => none

def cut101 : Nat → Option (List (Nat × Option Ty))
  | 8 => some [(3, none), (15, none)]
  | 7 => some [(3, none)]
  | _ => none




def cut116 : Nat → Option (List (Nat × Option Ty))
  | 4 => some [(0, none), (4, none)]
  | _ => none



def cutT : FuncId → Nat → Option (List (Nat × Option Ty))
  | 12 => cut12
  | 14 => cut14
  | 16 => cut16
  | 18 => cut18
  | 19 => cut19
  | 20 => cut20
  | 21 => cut21
  | 26 => cut26
  | 27 => cut27
  | 34 => cut34
  | 35 => cut35
  | 37 => cut37
  | 40 => cut40
  | 42 => cut42
  | 43 => cut43
  | 46 => cut46
  | 54 => cut54
  | 55 => cut55
  | 63 => cut63
  | 65 => cut65
  | 67 => cut67
  | 69 => cut69
  | 83 => cut83
  | 84 => cut84
  | 93 => cut93
  | 98 => cut98
  | 101 => cut101
  | 116 => cut116
  | _ => fun _ => none

def extT : FuncId → Option (Sigma fun rt : List Ty => List (V GG.S) → Option (rDen GG.S rt))
  | 30 => some ⟨[.str], joinV⟩
  | 48 => some ⟨[.bool], containsV⟩
  | 49 => some ⟨[.str], itoaV⟩
  | 60 => some ⟨[.int .i64, .bool], readIntV⟩
  | 62 => some ⟨[.int .i64], indexByteV⟩
  | _ => none

def bldF : FuncId → Option (Nat × TypeId × TypeId)
  | 51 => some (1, 82, 5)
  | 52 => some (3, 82, 5)
  | _ => none

def ctorT : FuncId → Option (TypeId × (List (V GG.S) → Option (List (V GG.S))))
  | 11 => some (48, srcV)
  | _ => none

noncomputable def CC : Cfg GG where
  P := Tryz.prog
  refs := fun f => [12, 21, 22, 23, 24, 44, 45, 65, 83, 84, 85, 98, 99, 100, 116].contains f
  ext := U.extT
  cut := cutT
  glob := fun _ => none
  gint := fun g => g == 0
  gerr := fun _ => false
  pint := fun _ => none
  cln := fun _ => none
  gtab := fun | 1 => some ((Lib.pow10Tab.map fun z => Value.int .u64 z).toArray) | _ => none
  own := fun _ => none
  bld := U.bldF
  ctor := U.ctorT
  eat := fun _ => none
  trE := fun e => [].contains e
  ownR := fun f => [21, 25].contains f
  eatR := fun f => [].contains f
  wrf := fun f => [].contains f
  grw := fun _ => none
  wtl := fun e => [26].contains e
  unl := fun f => false

end Go.Dv.U
