/- The types of this program and the places where its loops are cut. -/
import Derived.Test.YtnopaciceeakdaaDvb
import Derived.Test.YtnopaciceeakdaaChecked
set_option linter.all false
set_option linter.unusedVariables false
set_option linter.unusedSimpArgs false
namespace Go.Dv.U

open Go Go.Dv Go.Proofs

set_option maxRecDepth 100000

structure TRuntime_boundsError where
  fX : Int
  fY : Int
  fSigned : Bool
  fCode : Int

structure TRuntime_errorAddressString where
  fMsg : (List UInt8)
  fAddr : Int

structure TPattern where
  fKind : Int
  fNum : Int
  fText : (List UInt8)
  fKids : (List TPattern)

structure TSpec_l27Table where
  fEnds : (List (List Int))
  fSteps : (List Int)

structure TBounds where
  fEnds : (List (List Int))
  fSteps : (List Int)

def SS : Nat → Type
  | 7 => TRuntime_boundsError
  | 13 => TRuntime_errorAddressString
  | 23 => TPattern
  | 46 => TSpec_l27Table
  | 49 => TBounds
  | _ => Empty

def TRuntime_boundsError.ts : List Ty := [(.int .i64), (.int .i64), .bool, (.int .u8)]

def TRuntime_boundsError.to (x : TRuntime_boundsError) : lDen SS TRuntime_boundsError.ts := (x.fX, x.fY, x.fSigned, x.fCode, ())

def TRuntime_boundsError.of (p : lDen SS TRuntime_boundsError.ts) : TRuntime_boundsError := (⟨p.1, p.2.1, p.2.2.1, p.2.2.2.1⟩ : TRuntime_boundsError)

def TRuntime_errorAddressString.ts : List Ty := [.str, (.int .u64)]

def TRuntime_errorAddressString.to (x : TRuntime_errorAddressString) : lDen SS TRuntime_errorAddressString.ts := (x.fMsg, x.fAddr, ())

def TRuntime_errorAddressString.of (p : lDen SS TRuntime_errorAddressString.ts) : TRuntime_errorAddressString := (⟨p.1, p.2.1⟩ : TRuntime_errorAddressString)

def TPattern.ts : List Ty := [(.int .i64), (.int .i64), .str, (.sl (.st 23))]

def TPattern.to (x : TPattern) : lDen SS TPattern.ts := (x.fKind, x.fNum, x.fText, x.fKids, ())

def TPattern.of (p : lDen SS TPattern.ts) : TPattern := (⟨p.1, p.2.1, p.2.2.1, p.2.2.2.1⟩ : TPattern)

def TSpec_l27Table.ts : List Ty := [(.sl (.sl (.int .i64))), (.sl (.int .i64))]

def TSpec_l27Table.to (x : TSpec_l27Table) : lDen SS TSpec_l27Table.ts := (x.fEnds, x.fSteps, ())

def TSpec_l27Table.of (p : lDen SS TSpec_l27Table.ts) : TSpec_l27Table := (⟨p.1, p.2.1⟩ : TSpec_l27Table)

def TBounds.ts : List Ty := [(.sl (.sl (.int .i64))), (.sl (.int .i64))]

def TBounds.to (x : TBounds) : lDen SS TBounds.ts := (x.fEnds, x.fSteps, ())

def TBounds.of (p : lDen SS TBounds.ts) : TBounds := (⟨p.1, p.2.1⟩ : TBounds)

def scells : (n : Nat) → SS n → List (V SS)
  | 7, x => cellsL SS TRuntime_boundsError.ts (TRuntime_boundsError.to x)
  | 13, x => cellsL SS TRuntime_errorAddressString.ts (TRuntime_errorAddressString.to x)
  | 23, x => cellsL SS TPattern.ts (TPattern.to x)
  | 46, x => cellsL SS TSpec_l27Table.ts (TSpec_l27Table.to x)
  | 49, x => cellsL SS TBounds.ts (TBounds.to x)
  | _, _ => []

def smake : (n : Nat) → List (V SS) → Option (SS n)
  | 7, c => (prjL SS TRuntime_boundsError.ts c).map TRuntime_boundsError.of
  | 13, c => (prjL SS TRuntime_errorAddressString.ts c).map TRuntime_errorAddressString.of
  | 23, c => (prjL SS TPattern.ts c).map TPattern.of
  | 46, c => (prjL SS TSpec_l27Table.ts c).map TSpec_l27Table.of
  | 49, c => (prjL SS TBounds.ts c).map TBounds.of
  | _, _ => none

def scsz : Nat → Nat
  | 7 => 4
  | 13 => 2
  | 23 => 4
  | 46 => 2
  | 49 => 2
  | _ => 0

def scty : Nat → List Ty
  | 7 => TRuntime_boundsError.ts
  | 13 => TRuntime_errorAddressString.ts
  | 23 => TPattern.ts
  | 46 => TSpec_l27Table.ts
  | 49 => TBounds.ts
  | n => [.st n]

def stys : TypeId → Option Ty
  | 2 => some (.int .i64)
  | 3 => some (.int .i64)
  | 4 => some .bool
  | 5 => some (.int .u8)
  | 6 => some (.int .u8)
  | 7 => some (.st 7)
  | 8 => some (.st 7)
  | 9 => some .str
  | 10 => some .str
  | 11 => some .str
  | 12 => some (.int .u64)
  | 13 => some (.st 13)
  | 14 => some (.st 13)
  | 21 => some (.int .i32)
  | 22 => some (.sl (.st 23))
  | 23 => some (.st 23)
  | 24 => some (.st 23)
  | 27 => some (.sl (.st 23))
  | 28 => some (.st 23)
  | 29 => some (.st 23)
  | 40 => some (.sl (.int .i64))
  | 45 => some (.sl (.sl (.int .i64)))
  | 46 => some (.st 46)
  | 47 => some (.st 46)
  | 49 => some (.st 49)
  | 50 => some (.st 49)
  | 59 => some (.sl (.st 46))
  | 66 => some (.sl (.st 49))
  | 81 => some (.sl (.int .u8))
  | 89 => some (.int .u32)
  | 90 => some (.int .u8)
  | 91 => some (.int .u8)
  | 94 => some (.int .i32)
  | 95 => some (.int .i32)
  | _ => none

def GG : Sig where
  S := SS
  csz := scsz
  cells := scells
  make := smake
  tyOf := stys

theorem TRuntime_boundsError.ok : SOk GG 7 TRuntime_boundsError.ts TRuntime_boundsError.to TRuntime_boundsError.of := ⟨rfl, fun _ => rfl, fun _ => rfl, rfl, fun _ => rfl⟩

theorem TRuntime_errorAddressString.ok : SOk GG 13 TRuntime_errorAddressString.ts TRuntime_errorAddressString.to TRuntime_errorAddressString.of := ⟨rfl, fun _ => rfl, fun _ => rfl, rfl, fun _ => rfl⟩

theorem TPattern.ok : SOk GG 23 TPattern.ts TPattern.to TPattern.of := ⟨rfl, fun _ => rfl, fun _ => rfl, rfl, fun _ => rfl⟩

theorem TSpec_l27Table.ok : SOk GG 46 TSpec_l27Table.ts TSpec_l27Table.to TSpec_l27Table.of := ⟨rfl, fun _ => rfl, fun _ => rfl, rfl, fun _ => rfl⟩

theorem TBounds.ok : SOk GG 49 TBounds.ts TBounds.to TBounds.of := ⟨rfl, fun _ => rfl, fun _ => rfl, rfl, fun _ => rfl⟩

def TRuntime_boundsError.re (x : TRuntime_boundsError) : TRuntime_boundsError := TRuntime_boundsError.mk x.fX x.fY x.fSigned x.fCode

@[simp] theorem TRuntime_boundsError.re_eq (x : TRuntime_boundsError) : x.re = x := by cases x; rfl

theorem TRuntime_boundsError.eta (x : TRuntime_boundsError) : TRuntime_boundsError.mk x.fX x.fY x.fSigned x.fCode = x := by cases x; rfl

def TRuntime_errorAddressString.re (x : TRuntime_errorAddressString) : TRuntime_errorAddressString := TRuntime_errorAddressString.mk x.fMsg x.fAddr

@[simp] theorem TRuntime_errorAddressString.re_eq (x : TRuntime_errorAddressString) : x.re = x := by cases x; rfl

theorem TRuntime_errorAddressString.eta (x : TRuntime_errorAddressString) : TRuntime_errorAddressString.mk x.fMsg x.fAddr = x := by cases x; rfl

def TPattern.re (x : TPattern) : TPattern := TPattern.mk x.fKind x.fNum x.fText x.fKids

@[simp] theorem TPattern.re_eq (x : TPattern) : x.re = x := by cases x; rfl

theorem TPattern.eta (x : TPattern) : TPattern.mk x.fKind x.fNum x.fText x.fKids = x := by cases x; rfl

def TSpec_l27Table.re (x : TSpec_l27Table) : TSpec_l27Table := TSpec_l27Table.mk x.fEnds x.fSteps

@[simp] theorem TSpec_l27Table.re_eq (x : TSpec_l27Table) : x.re = x := by cases x; rfl

theorem TSpec_l27Table.eta (x : TSpec_l27Table) : TSpec_l27Table.mk x.fEnds x.fSteps = x := by cases x; rfl

def TBounds.re (x : TBounds) : TBounds := TBounds.mk x.fEnds x.fSteps

@[simp] theorem TBounds.re_eq (x : TBounds) : x.re = x := by cases x; rfl

theorem TBounds.eta (x : TBounds) : TBounds.mk x.fEnds x.fSteps = x := by cases x; rfl

theorem SS_empty {n : Nat} (h7 : ¬ n = 7) (h13 : ¬ n = 13) (h23 : ¬ n = 23) (h46 : ¬ n = 46) (h49 : ¬ n = 49) : SS n = Empty := by
  unfold SS
  split <;> first | rfl | (exfalso; omega)

theorem GG.law (n : Nat) : SLaw GG n := by
  by_cases h7 : n = 7
  · subst h7; exact TRuntime_boundsError.ok.law
  by_cases h13 : n = 13
  · subst h13; exact TRuntime_errorAddressString.ok.law
  by_cases h23 : n = 23
  · subst h23; exact TPattern.ok.law
  by_cases h46 : n = 46
  · subst h46; exact TSpec_l27Table.ok.law
  by_cases h49 : n = 49
  · subst h49; exact TBounds.ok.law
  exact .empty fun x => (cast (SS_empty h7 h13 h23 h46 h49) x).elim

theorem GG.ok : SigOk GG := sigOk_of GG.law

noncomputable def OO : Opn GG where
  P := Try.prog
  tab := [(2, (.int .i64)), (3, (.int .i64)), (4, .bool), (5, (.int .u8)), (6, (.int .u8)), (7, (.st 7)), (8, (.st 7)), (9, .str), (10, .str), (11, .str), (12, (.int .u64)), (13, (.st 13)), (14, (.st 13)), (21, (.int .i32)), (22, (.sl (.st 23))), (23, (.st 23)), (24, (.st 23)), (27, (.sl (.st 23))), (28, (.st 23)), (29, (.st 23)), (40, (.sl (.int .i64))), (45, (.sl (.sl (.int .i64)))), (46, (.st 46)), (47, (.st 46)), (49, (.st 49)), (50, (.st 49)), (59, (.sl (.st 46))), (66, (.sl (.st 49))), (81, (.sl (.int .u8))), (89, (.int .u32)), (90, (.int .u8)), (91, (.int .u8)), (94, (.int .i32)), (95, (.int .i32))]
  cty := scty

theorem OO.tot (n : Nat) (vs : List (V SS)) (h : Leaves GG (scty n) vs) : ∃ x, smake n vs = some x ∧ scells n x = vs := by
  by_cases h7 : n = 7
  · subst h7; exact TRuntime_boundsError.ok.tot h
  by_cases h13 : n = 13
  · subst h13; exact TRuntime_errorAddressString.ok.tot h
  by_cases h23 : n = 23
  · subst h23; exact TPattern.ok.tot h
  by_cases h46 : n = 46
  · subst h46; exact TSpec_l27Table.ok.tot h
  by_cases h49 : n = 49
  · subst h49; exact TBounds.ok.tot h
  exfalso
  have e : scty n = [.st n] := by
    unfold scty
    split <;> first | rfl | (exfalso; omega)
  rw [e] at h
  obtain ⟨x⟩ := leaves_st h
  exact (cast (SS_empty h7 h13 h23 h46 h49) x : Empty).elim

theorem OO.ok : OpnOk OO := ⟨by kernel_rfl, OO.tot⟩

def cut16 : Nat → Option (List (Nat × Option Ty))
  | 11 => some [(2, none), (9, none), (10, none), (11, none), (12, none)]
  | 7 => some [(2, none), (9, none), (10, none), (11, none)]
  | _ => none

def cut17 : Nat → Option (List (Nat × Option Ty))
  | 8 => some [(1, none), (8, none), (10, none), (12, none)]
  | 12 => some [(1, none), (8, none), (10, none), (12, none), (44, none), (45, none), (46, none)]
  | _ => none

def cut18 : Nat → Option (List (Nat × Option Ty))
  | 5 => some [(0, none), (1, none), (5, none)]
  | _ => none

def cut20 : Nat → Option (List (Nat × Option Ty))
  | 4 => some [(1, none), (2, none), (5, none)]
  | _ => none

def cut21 : Nat → Option (List (Nat × Option Ty))
  | 3 => some [(0, none), (3, none), (4, none)]
  | _ => none

def cut24 : Nat → Option (List (Nat × Option Ty))
  | 4 => some [(0, none), (1, none), (5, none)]
  | _ => none

def cut25 : Nat → Option (List (Nat × Option Ty))
  | 11 => some []
  | 12 => some [(1, none), (5, none)]
  | 17 => some [(1, none)]
  | 18 => some [(1, none), (3, none)]
  | 23 => some []
  | _ => none

def cut26 : Nat → Option (List (Nat × Option Ty))
  | 16 => some [(1, none)]
  | 17 => some []
  | _ => none

def cut28 : Nat → Option (List (Nat × Option Ty))
  | 32 => some [(1, none), (2, none), (4, none), (5, none), (7, none), (8, none), (9, none), (10, none), (12, none), (13, none), (14, none)]
  | 3 => some [(1, none), (2, none), (4, none), (5, none), (6, none)]
  | 39 => some [(1, none), (2, none), (4, none), (5, none), (7, none), (8, none), (9, none), (10, none), (15, none)]
  | 8 => some [(1, none), (2, none), (4, none), (5, none), (7, none), (8, none)]
  | 44 => some [(1, none), (2, none), (4, none), (5, none), (7, none), (8, none), (9, none), (10, none), (15, none), (16, none), (17, none)]
  | 14 => some [(1, none), (2, none), (4, none), (5, none), (7, none), (8, none), (9, none), (10, none), (18, none)]
  | 51 => some [(1, none), (2, none), (4, none), (5, none), (7, none), (8, none), (9, none), (10, none)]
  | 20 => some [(1, none), (2, none), (4, none), (5, none), (7, none), (8, none), (9, none), (11, none)]
  | 27 => some [(1, none), (2, none), (4, none), (5, none), (7, none), (8, none), (9, none), (10, none), (12, none)]
  | _ => none

def cut29 : Nat → Option (List (Nat × Option Ty))
  | 4 => some [(1, none), (2, none), (4, none), (6, none)]
  | _ => none

def cut32 : Nat → Option (List (Nat × Option Ty))
  | 5 => some [(1, none), (2, none), (5, none), (6, none)]
  | _ => none

def cut33 : Nat → Option (List (Nat × Option Ty))
  | 2 => some [(0, none), (1, none), (5, none)]
  | _ => none

def cut34 : Nat → Option (List (Nat × Option Ty))
  | 3 => some []
  | 4 => some [(1, none), (2, none)]
  | 5 => some [(1, none), (31, none), (32, none), (33, none)]
  | _ => none

def cut35 : Nat → Option (List (Nat × Option Ty))
  | 2 => some [(1, none), (7, none), (8, none), (9, none)]
  | _ => none

def cut38 : Nat → Option (List (Nat × Option Ty))
  | 9 => some [(2, none)]
  | 10 => some [(1, none), (2, none), (3, none), (8, none)]
  | 18 => some [(1, none), (2, none), (3, none), (8, none)]
  | 17 => some [(2, none)]
  | _ => none

def cut39 : Nat → Option (List (Nat × Option Ty))
  | 2 => some [(5, none), (6, none), (7, none)]
  | _ => none

def cut42 : Nat → Option (List (Nat × Option Ty))
  | 8 => some [(2, none), (4, none), (5, none), (6, none), (29, none), (30, none)]
  | 3 => some [(1, none), (2, none), (4, none), (5, none), (6, none), (15, none), (16, none), (17, none)]
  | 13 => some [(2, none), (4, none), (5, none), (6, none), (9, none), (10, none), (29, none), (30, none), (48, none), (49, none)]
  | _ => none

def cut46 : Nat → Option (List (Nat × Option Ty))
  | 8 => some []
  | 9 => some []
  | _ => none

def cut49 : Nat → Option (List (Nat × Option Ty))
  | 7 => some [(5, none), (6, none), (7, none), (8, none)]
  | _ => none

def cut57 : Nat → Option (List (Nat × Option Ty))
  | 3 => some [(2, none), (3, none), (5, none), (6, none), (11, none), (12, none)]
  | _ => none

def cut58 : Nat → Option (List (Nat × Option Ty))
  | 9 => some [(2, none)]
  | 10 => some [(1, none), (2, none), (3, none), (8, none)]
  | 18 => some [(1, none), (2, none), (3, none), (8, none)]
  | 17 => some [(2, none)]
  | _ => none

def cut59 : Nat → Option (List (Nat × Option Ty))
  | 3 => some [(2, none), (4, none), (5, none), (9, none), (10, none)]
  | _ => none

def cut61 : Nat → Option (List (Nat × Option Ty))
  | 3 => some [(0, none), (1, none)]
  | 4 => some [(0, none), (1, none)]
  | 5 => some [(1, none)]
  | _ => none

def cut63 : Nat → Option (List (Nat × Option Ty))
  | 2 => some [(1, none), (7, none), (8, none), (9, none)]
  | _ => none

def cutT : FuncId → Nat → Option (List (Nat × Option Ty))
  | 16 => cut16
  | 17 => cut17
  | 18 => cut18
  | 20 => cut20
  | 21 => cut21
  | 24 => cut24
  | 25 => cut25
  | 26 => cut26
  | 28 => cut28
  | 29 => cut29
  | 32 => cut32
  | 33 => cut33
  | 34 => cut34
  | 35 => cut35
  | 38 => cut38
  | 39 => cut39
  | 42 => cut42
  | 46 => cut46
  | 49 => cut49
  | 57 => cut57
  | 58 => cut58
  | 59 => cut59
  | 61 => cut61
  | 63 => cut63
  | _ => fun _ => none

noncomputable def CC : Cfg GG where
  P := Try.prog
  refs := fun _ => false
  ext := fun _ => none
  cut := cutT
  glob := fun _ => none

theorem CC.ext : ExtOK CC := fun f g vs r h => by cases h

end Go.Dv.U
