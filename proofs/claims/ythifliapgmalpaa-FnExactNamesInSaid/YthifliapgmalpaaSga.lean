/- The types of this program and the places where its loops are cut. -/
import Derived.Test.YthifliapgmalpaaDvc
import Derived.Test.YthifliapgmalpaaChecked
set_option linter.all false
set_option linter.unusedVariables false
set_option linter.unusedSimpArgs false
namespace Go.Dv.U

open Go Go.Dv Go.Proofs

set_option maxRecDepth 100000

structure TRuntime_boundsError where
  fX : Int
  fY : Int
  fSigned : Bool
  fCode : Int

structure TRuntime_errorAddressString where
  fMsg : (List UInt8)
  fAddr : Int

structure TExpr where
  fKind : Int
  fNum : Int
  fText : (List UInt8)
  fKids : (List TExpr)

def SS : Nat → Type
  | 7 => TRuntime_boundsError
  | 13 => TRuntime_errorAddressString
  | 23 => TExpr
  | _ => Empty

def TRuntime_boundsError.ts : List Ty := [(.int .i64), (.int .i64), .bool, (.int .u8)]

def TRuntime_boundsError.to (x : TRuntime_boundsError) : lDen SS TRuntime_boundsError.ts := (x.fX, x.fY, x.fSigned, x.fCode, ())

def TRuntime_boundsError.of (p : lDen SS TRuntime_boundsError.ts) : TRuntime_boundsError := (⟨p.1, p.2.1, p.2.2.1, p.2.2.2.1⟩ : TRuntime_boundsError)

def TRuntime_errorAddressString.ts : List Ty := [.str, (.int .u64)]

def TRuntime_errorAddressString.to (x : TRuntime_errorAddressString) : lDen SS TRuntime_errorAddressString.ts := (x.fMsg, x.fAddr, ())

def TRuntime_errorAddressString.of (p : lDen SS TRuntime_errorAddressString.ts) : TRuntime_errorAddressString := (⟨p.1, p.2.1⟩ : TRuntime_errorAddressString)

def TExpr.ts : List Ty := [(.int .i64), (.int .i64), .str, (.sl (.st 23))]

def TExpr.to (x : TExpr) : lDen SS TExpr.ts := (x.fKind, x.fNum, x.fText, x.fKids, ())

def TExpr.of (p : lDen SS TExpr.ts) : TExpr := (⟨p.1, p.2.1, p.2.2.1, p.2.2.2.1⟩ : TExpr)

def scells : (n : Nat) → SS n → List (V SS)
  | 7, x => cellsL SS TRuntime_boundsError.ts (TRuntime_boundsError.to x)
  | 13, x => cellsL SS TRuntime_errorAddressString.ts (TRuntime_errorAddressString.to x)
  | 23, x => cellsL SS TExpr.ts (TExpr.to x)
  | _, _ => []

def smake : (n : Nat) → List (V SS) → Option (SS n)
  | 7, c => (prjL SS TRuntime_boundsError.ts c).map TRuntime_boundsError.of
  | 13, c => (prjL SS TRuntime_errorAddressString.ts c).map TRuntime_errorAddressString.of
  | 23, c => (prjL SS TExpr.ts c).map TExpr.of
  | _, _ => none

def scsz : Nat → Nat
  | 7 => 4
  | 13 => 2
  | 23 => 4
  | _ => 0

def scty : Nat → List Ty
  | 7 => TRuntime_boundsError.ts
  | 13 => TRuntime_errorAddressString.ts
  | 23 => TExpr.ts
  | n => [.st n]

def stys : TypeId → Option Ty
  | 2 => some (.int .i64)
  | 3 => some (.int .i64)
  | 4 => some .bool
  | 5 => some (.int .u8)
  | 6 => some (.int .u8)
  | 7 => some (.st 7)
  | 8 => some (.st 7)
  | 9 => some .str
  | 10 => some .str
  | 11 => some .str
  | 12 => some (.int .u64)
  | 13 => some (.st 13)
  | 14 => some (.st 13)
  | 21 => some (.int .i32)
  | 22 => some (.sl (.st 23))
  | 23 => some (.st 23)
  | 24 => some (.st 23)
  | 26 => some (.sl .str)
  | 28 => some (.sl (.st 23))
  | 29 => some (.st 23)
  | 30 => some (.st 23)
  | 39 => some (.ptr (.st 23))
  | 53 => some (.sl (.int .u8))
  | 60 => some (.int .u64)
  | 68 => some (.int .i64)
  | 76 => some (.int .u32)
  | 78 => some (.int .u64)
  | 80 => some (.int .u64)
  | 100 => some (.int .u8)
  | 101 => some (.int .u8)
  | 104 => some (.int .i32)
  | 105 => some (.int .i32)
  | _ => none

def sel : Ty → TypeId
  | (.int .u8) => 5
  | (.st 23) => 30
  | .str => 9
  | _ => 0

def sfl : Nat → Bool
  | 7 => true
  | 13 => true
  | 23 => false
  | _ => false

def GG : Sig where
  S := SS
  csz := scsz
  cells := scells
  make := smake
  tyOf := stys
  el := sel
  fl := sfl

theorem TRuntime_boundsError.ok : SOk GG 7 TRuntime_boundsError.ts TRuntime_boundsError.to TRuntime_boundsError.of := ⟨rfl, fun _ => rfl, fun _ => rfl, rfl, fun _ => rfl, rfl⟩

theorem TRuntime_errorAddressString.ok : SOk GG 13 TRuntime_errorAddressString.ts TRuntime_errorAddressString.to TRuntime_errorAddressString.of := ⟨rfl, fun _ => rfl, fun _ => rfl, rfl, fun _ => rfl, rfl⟩

theorem TExpr.ok : SOk GG 23 TExpr.ts TExpr.to TExpr.of := ⟨rfl, fun _ => rfl, fun _ => rfl, rfl, fun _ => rfl, rfl⟩

def TRuntime_boundsError.re (x : TRuntime_boundsError) : TRuntime_boundsError := TRuntime_boundsError.mk x.fX x.fY x.fSigned x.fCode

@[simp] theorem TRuntime_boundsError.re_eq (x : TRuntime_boundsError) : x.re = x := by cases x; rfl

theorem TRuntime_boundsError.eta (x : TRuntime_boundsError) : TRuntime_boundsError.mk x.fX x.fY x.fSigned x.fCode = x := by cases x; rfl

def TRuntime_errorAddressString.re (x : TRuntime_errorAddressString) : TRuntime_errorAddressString := TRuntime_errorAddressString.mk x.fMsg x.fAddr

@[simp] theorem TRuntime_errorAddressString.re_eq (x : TRuntime_errorAddressString) : x.re = x := by cases x; rfl

theorem TRuntime_errorAddressString.eta (x : TRuntime_errorAddressString) : TRuntime_errorAddressString.mk x.fMsg x.fAddr = x := by cases x; rfl

def TExpr.re (x : TExpr) : TExpr := TExpr.mk x.fKind x.fNum x.fText x.fKids

@[simp] theorem TExpr.re_eq (x : TExpr) : x.re = x := by cases x; rfl

theorem TExpr.eta (x : TExpr) : TExpr.mk x.fKind x.fNum x.fText x.fKids = x := by cases x; rfl

theorem SS_empty {n : Nat} (h7 : ¬ n = 7) (h13 : ¬ n = 13) (h23 : ¬ n = 23) : SS n = Empty := by
  unfold SS
  split <;> first | rfl | (exfalso; omega)

theorem GG.law (n : Nat) : SLaw GG n := by
  by_cases h7 : n = 7
  · subst h7; exact TRuntime_boundsError.ok.law
  by_cases h13 : n = 13
  · subst h13; exact TRuntime_errorAddressString.ok.law
  by_cases h23 : n = 23
  · subst h23; exact TExpr.ok.law
  exact .empty fun x => (cast (SS_empty h7 h13 h23) x).elim

theorem GG.ok : SigOk GG := sigOk_of GG.law

noncomputable def OO : Opn GG where
  P := Try.prog
  tab := [(2, (.int .i64)), (3, (.int .i64)), (4, .bool), (5, (.int .u8)), (6, (.int .u8)), (7, (.st 7)), (8, (.st 7)), (9, .str), (10, .str), (11, .str), (12, (.int .u64)), (13, (.st 13)), (14, (.st 13)), (21, (.int .i32)), (22, (.sl (.st 23))), (23, (.st 23)), (24, (.st 23)), (26, (.sl .str)), (28, (.sl (.st 23))), (29, (.st 23)), (30, (.st 23)), (53, (.sl (.int .u8))), (60, (.int .u64)), (68, (.int .i64)), (76, (.int .u32)), (78, (.int .u64)), (80, (.int .u64)), (100, (.int .u8)), (101, (.int .u8)), (104, (.int .i32)), (105, (.int .i32))]
  cty := scty

theorem OO.tot (n : Nat) (vs : List (V SS)) (h : Leaves GG (scty n) vs) : ∃ x, smake n vs = some x ∧ scells n x = vs := by
  by_cases h7 : n = 7
  · subst h7; exact TRuntime_boundsError.ok.tot h
  by_cases h13 : n = 13
  · subst h13; exact TRuntime_errorAddressString.ok.tot h
  by_cases h23 : n = 23
  · subst h23; exact TExpr.ok.tot h
  exfalso
  have e : scty n = [.st n] := by
    unfold scty
    split <;> first | rfl | (exfalso; omega)
  rw [e] at h
  obtain ⟨x⟩ := leaves_st h
  exact (cast (SS_empty h7 h13 h23) x : Empty).elim

theorem OO.ok : OpnOk OO := ⟨by kernel_rfl, OO.tot⟩

def cut9 : Nat → Option (List (Nat × Option Ty))
  | 4 => some [(0, none), (1, none), (5, none)]
  | _ => none

def cut12 : Nat → Option (List (Nat × Option Ty))
  | 2 => some [(0, none), (1, none), (5, none)]
  | _ => none

def cut13 : Nat → Option (List (Nat × Option Ty))
  | 2 => some [(0, none), (1, none), (5, none)]
  | _ => none

def cut16 : Nat → Option (List (Nat × Option Ty))
  | 5 => some [(0, none), (1, none), (5, none)]
  | _ => none

def cut18 : Nat → Option (List (Nat × Option Ty))
  | 2 => some [(0, none), (1, none), (2, none)]
  | 3 => some [(0, none), (1, none), (2, none)]
  | 4 => some [(0, none), (1, none), (2, none), (7, none)]
  | _ => none

def cut19 : Nat → Option (List (Nat × Option Ty))
  | 3 => some [(0, none), (3, none), (4, none)]
  | _ => none

def cut22 : Nat → Option (List (Nat × Option Ty))
  | 4 => some [(0, none), (1, none), (5, none)]
  | _ => none

def cut23 : Nat → Option (List (Nat × Option Ty))
  | 2 => some [(0, none), (1, none), (5, none)]
  | _ => none

def cut24 : Nat → Option (List (Nat × Option Ty))
  | 4 => some [(0, none), (3, none)]
  | _ => none

def cut25 : Nat → Option (List (Nat × Option Ty))
  | 3 => some [(0, none), (3, none), (4, none)]
  | _ => none

def cut26 : Nat → Option (List (Nat × Option Ty))
  | 4 => some [(0, none), (3, none)]
  | _ => none

def cut27 : Nat → Option (List (Nat × Option Ty))
  | 11 => some [(0, none), (1, none), (5, none), (6, none), (7, none)]
  | 4 => some [(0, none), (1, none), (5, none), (6, none), (7, none)]
  | _ => none

def cut28 : Nat → Option (List (Nat × Option Ty))
  | 5 => some [(1, none), (17, none), (18, none), (19, none)]
  | _ => none

def cut29 : Nat → Option (List (Nat × Option Ty))
  | 3 => some [(1, none), (10, none), (11, none), (12, none)]
  | _ => none

def cut30 : Nat → Option (List (Nat × Option Ty))
  | 2 => some [(2, none), (3, none)]
  | _ => none

def cut33 : Nat → Option (List (Nat × Option Ty))
  | 32 => some [(0, none), (3, none), (4, none)]
  | 13 => some [(0, none), (3, none)]
  | 14 => some [(0, none), (4, none), (8, none)]
  | 26 => some [(0, none), (4, none)]
  | 27 => some [(0, none), (4, none), (8, none)]
  | 31 => some []
  | _ => none

def cut34 : Nat → Option (List (Nat × Option Ty))
  | 19 => some [(1, none), (3, none)]
  | 18 => some [(3, none)]
  | 11 => some []
  | 12 => some [(1, none), (3, none)]
  | _ => none

def cut37 : Nat → Option (List (Nat × Option Ty))
  | 9 => some [(0, none), (3, none), (4, none), (5, none)]
  | 4 => some [(0, none), (3, none)]
  | _ => none

def cut45 : Nat → Option (List (Nat × Option Ty))
  | 16 => some [(0, none), (1, none), (2, none), (3, none), (8, none), (9, none), (10, none), (11, none)]
  | 17 => some [(0, none), (1, none), (2, none), (3, none), (8, none), (9, none), (10, none), (11, none)]
  | 2 => some [(0, none), (1, none), (2, none), (3, none), (8, none), (9, none)]
  | 15 => some [(0, none), (1, none), (2, none), (3, none), (8, none), (9, none), (10, none), (11, none), (12, none)]
  | _ => none

def cut47 : Nat → Option (List (Nat × Option Ty))
  | 2 => some [(0, none), (1, none), (5, none)]
  | 3 => some [(0, none), (1, none), (5, none)]
  | 5 => some []
  | _ => none

def cut48 : Nat → Option (List (Nat × Option Ty))
  | 2 => some [(0, none), (1, none), (5, none)]
  | _ => none

def cut49 : Nat → Option (List (Nat × Option Ty))
  | 3 => some [(0, none), (1, none)]
  | 4 => some [(0, none), (1, none)]
  | 5 => some [(1, none)]
  | _ => none

def cut53 : Nat → Option (List (Nat × Option Ty))
  | 2 => some [(1, none), (7, none), (8, none), (9, none)]
  | _ => none

def cut55 : Nat → Option (List (Nat × Option Ty))
  | 1 => some [(0, none), (1, none), (2, none), (6, none)]
  | 4 => some [(0, none), (1, none), (2, none), (6, none), (7, none)]
  | _ => none

def cut56 : Nat → Option (List (Nat × Option Ty))
  | 8 => some [(0, none), (6, none), (7, none), (10, none)]
  | 4 => some [(0, none), (6, none), (7, none), (8, none), (9, none)]
  | _ => none

def cut57 : Nat → Option (List (Nat × Option Ty))
  | 5 => some [(0, none), (1, none), (6, none), (7, none), (8, none), (9, none)]
  | _ => none

def cut58 : Nat → Option (List (Nat × Option Ty))
  | 12 => some [(9, none), (11, none)]
  | _ => none

def cut59 : Nat → Option (List (Nat × Option Ty))
  | 2 => some [(0, none), (6, none), (7, none)]
  | _ => none

def cut60 : Nat → Option (List (Nat × Option Ty))
  | 3 => some [(0, none), (1, none), (2, none), (7, none), (8, none)]
  | 4 => some [(0, none), (1, none), (2, none), (7, none), (8, none)]
  | 5 => some [(0, none), (1, none), (2, none), (7, none), (8, none)]
  | 14 => some [(0, none), (1, none), (2, none), (7, none), (8, none), (9, none)]
  | 18 => some [(0, none), (1, none), (2, none), (7, none), (8, none)]
  | 20 => some [(0, none), (1, none), (2, none), (7, none), (8, none), (10, none)]
  | _ => none

def cut62 : Nat → Option (List (Nat × Option Ty))
  | 3 => some [(0, none), (1, none), (9, none), (10, none)]
  | 5 => some [(0, none), (1, none), (9, none), (10, none)]
  | _ => none

def cut63 : Nat → Option (List (Nat × Option Ty))
  | 13 => some [(0, none), (1, none), (10, none), (11, none)]
  | 3 => some [(0, none), (1, none), (10, none), (11, none)]
  | 5 => some [(0, none), (1, none), (10, none), (11, none)]
  | 15 => some [(0, none), (1, none), (10, none), (11, none)]
  | _ => none

def cut64 : Nat → Option (List (Nat × Option Ty))
  | 7 => some [(0, none), (2, none)]
  | _ => none

def cut65 : Nat → Option (List (Nat × Option Ty))
  | 7 => some [(0, none), (2, none)]
  | _ => none

def cut71 : Nat → Option (List (Nat × Option Ty))
  | 1 => some [(0, none), (2, none), (3, none), (8, none)]
  | 5 => some [(0, none), (2, none), (3, none), (8, none), (9, none)]
  | _ => none

def cut77 : Nat → Option (List (Nat × Option Ty))
  | 9 => some [(0, none), (1, none)]
  | 10 => some [(0, none), (1, none), (5, none)]
  | 15 => some [(0, none), (1, none), (5, none), (6, none), (7, none), (8, none), (9, none), (10, none)]
  | 22 => some [(8, none)]
  | 23 => some [(0, none), (1, none), (5, none), (6, none), (7, none), (8, none), (9, none), (10, none)]
  | 31 => some [(0, none), (1, none), (8, none)]
  | _ => none

def cut82 : Nat → Option (List (Nat × Option Ty))
  | 11 => some [(0, none), (1, none), (5, none), (6, none), (7, none), (8, none), (10, none)]
  | 5 => some [(0, none), (1, none), (5, none), (6, none), (7, none), (8, none), (9, none)]
  | _ => none

def cut84 : Nat → Option (List (Nat × Option Ty))
  | 8 => some [(4, none), (6, none), (7, none), (8, none)]
  | 3 => some [(0, none), (4, none), (5, none)]
  | _ => none

def cutT : FuncId → Nat → Option (List (Nat × Option Ty))
  | 9 => cut9
  | 12 => cut12
  | 13 => cut13
  | 16 => cut16
  | 18 => cut18
  | 19 => cut19
  | 22 => cut22
  | 23 => cut23
  | 24 => cut24
  | 25 => cut25
  | 26 => cut26
  | 27 => cut27
  | 28 => cut28
  | 29 => cut29
  | 30 => cut30
  | 33 => cut33
  | 34 => cut34
  | 37 => cut37
  | 45 => cut45
  | 47 => cut47
  | 48 => cut48
  | 49 => cut49
  | 53 => cut53
  | 55 => cut55
  | 56 => cut56
  | 57 => cut57
  | 58 => cut58
  | 59 => cut59
  | 60 => cut60
  | 62 => cut62
  | 63 => cut63
  | 64 => cut64
  | 65 => cut65
  | 71 => cut71
  | 77 => cut77
  | 82 => cut82
  | 84 => cut84
  | _ => fun _ => none

def extT : FuncId → Option (Sigma fun rt : List Ty => List (V GG.S) → Option (rDen GG.S rt))
  | 51 => some ⟨[.bool], containsV⟩
  | _ => none

def eatT : FuncId → Option (TypeId × (List (List UInt8) → Option (List (List UInt8))))
  | 32 => some (9, sortS)
  | _ => none

noncomputable def CC : Cfg GG where
  P := Try.prog
  refs := fun f => [29, 30, 73, 74, 75, 78].contains f
  ext := U.extT
  cut := cutT
  glob := fun _ => none
  gint := fun g => g == 0
  gtab := fun _ => none
  own := fun _ => none
  bld := fun _ => none
  ctor := fun _ => none
  eat := U.eatT
  trE := fun e => [30].contains e
  ownR := fun f => [7, 8, 15, 19, 21].contains f
  wrf := fun f => [11, 12, 23].contains f

end Go.Dv.U
