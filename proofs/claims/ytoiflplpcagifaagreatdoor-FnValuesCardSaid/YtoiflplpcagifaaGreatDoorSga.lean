/- The types of this program and the places where its loops are cut. -/
import Derived.Test.YtoiflplpcagifaaGreatDoorDvd
import Derived.Test.YtoiflplpcagifaaGreatDoorChecked
set_option linter.all false
set_option linter.unusedVariables false
set_option linter.unusedSimpArgs false
namespace Go.Dv.U

open Go Go.Dv Go.Proofs

set_option maxRecDepth 100000

structure TRuntime_boundsError where
  fX : Int
  fY : Int
  fSigned : Bool
  fCode : Int

structure TRuntime_errorAddressString where
  fMsg : (List UInt8)
  fAddr : Int

structure TValue where
  fKind : Int
  fNum : Int
  fText : (List UInt8)
  fRef : Int

structure TSpec_l00Src where
  fCode : (List Int)
  fAt : Int
  fSeed : Int

structure TUtf8_acceptRange where
  fLo : Int
  fHi : Int

structure TErrors_errorString where
  fS : (List UInt8)

def SS : Nat → Type
  | 7 => TRuntime_boundsError
  | 13 => TRuntime_errorAddressString
  | 24 => TValue
  | 54 => TSpec_l00Src
  | 117 => TUtf8_acceptRange
  | 121 => TErrors_errorString
  | _ => Empty

def TRuntime_boundsError.ts : List Ty := [(.int .i64), (.int .i64), .bool, (.int .u8)]

def TRuntime_boundsError.to (x : TRuntime_boundsError) : lDen SS TRuntime_boundsError.ts := (x.fX, x.fY, x.fSigned, x.fCode, ())

def TRuntime_boundsError.of (p : lDen SS TRuntime_boundsError.ts) : TRuntime_boundsError := (⟨p.1, p.2.1, p.2.2.1, p.2.2.2.1⟩ : TRuntime_boundsError)

def TRuntime_errorAddressString.ts : List Ty := [.str, (.int .u64)]

def TRuntime_errorAddressString.to (x : TRuntime_errorAddressString) : lDen SS TRuntime_errorAddressString.ts := (x.fMsg, x.fAddr, ())

def TRuntime_errorAddressString.of (p : lDen SS TRuntime_errorAddressString.ts) : TRuntime_errorAddressString := (⟨p.1, p.2.1⟩ : TRuntime_errorAddressString)

def TValue.ts : List Ty := [(.int .i64), (.int .i64), .str, (.int .i64)]

def TValue.to (x : TValue) : lDen SS TValue.ts := (x.fKind, x.fNum, x.fText, x.fRef, ())

def TValue.of (p : lDen SS TValue.ts) : TValue := (⟨p.1, p.2.1, p.2.2.1, p.2.2.2.1⟩ : TValue)

def TSpec_l00Src.ts : List Ty := [(.sl (.int .u8)), (.int .i64), (.int .u64)]

def TSpec_l00Src.to (x : TSpec_l00Src) : lDen SS TSpec_l00Src.ts := (x.fCode, x.fAt, x.fSeed, ())

def TSpec_l00Src.of (p : lDen SS TSpec_l00Src.ts) : TSpec_l00Src := (⟨p.1, p.2.1, p.2.2.1⟩ : TSpec_l00Src)

def TUtf8_acceptRange.ts : List Ty := [(.int .u8), (.int .u8)]

def TUtf8_acceptRange.to (x : TUtf8_acceptRange) : lDen SS TUtf8_acceptRange.ts := (x.fLo, x.fHi, ())

def TUtf8_acceptRange.of (p : lDen SS TUtf8_acceptRange.ts) : TUtf8_acceptRange := (⟨p.1, p.2.1⟩ : TUtf8_acceptRange)

def TErrors_errorString.ts : List Ty := [.str]

def TErrors_errorString.to (x : TErrors_errorString) : lDen SS TErrors_errorString.ts := (x.fS, ())

def TErrors_errorString.of (p : lDen SS TErrors_errorString.ts) : TErrors_errorString := (⟨p.1⟩ : TErrors_errorString)

def scells : (n : Nat) → SS n → List (V SS)
  | 7, x => cellsL SS TRuntime_boundsError.ts (TRuntime_boundsError.to x)
  | 13, x => cellsL SS TRuntime_errorAddressString.ts (TRuntime_errorAddressString.to x)
  | 24, x => cellsL SS TValue.ts (TValue.to x)
  | 54, x => cellsL SS TSpec_l00Src.ts (TSpec_l00Src.to x)
  | 117, x => cellsL SS TUtf8_acceptRange.ts (TUtf8_acceptRange.to x)
  | 121, x => cellsL SS TErrors_errorString.ts (TErrors_errorString.to x)
  | _, _ => []

def smake : (n : Nat) → List (V SS) → Option (SS n)
  | 7, c => (prjL SS TRuntime_boundsError.ts c).map TRuntime_boundsError.of
  | 13, c => (prjL SS TRuntime_errorAddressString.ts c).map TRuntime_errorAddressString.of
  | 24, c => (prjL SS TValue.ts c).map TValue.of
  | 54, c => (prjL SS TSpec_l00Src.ts c).map TSpec_l00Src.of
  | 117, c => (prjL SS TUtf8_acceptRange.ts c).map TUtf8_acceptRange.of
  | 121, c => (prjL SS TErrors_errorString.ts c).map TErrors_errorString.of
  | _, _ => none

def scsz : Nat → Nat
  | 7 => 4
  | 13 => 2
  | 24 => 4
  | 54 => 3
  | 117 => 2
  | 121 => 1
  | _ => 0

def scty : Nat → List Ty
  | 7 => TRuntime_boundsError.ts
  | 13 => TRuntime_errorAddressString.ts
  | 24 => TValue.ts
  | 54 => TSpec_l00Src.ts
  | 117 => TUtf8_acceptRange.ts
  | 121 => TErrors_errorString.ts
  | n => [.st n]

def stys : TypeId → Option Ty
  | 2 => some (.int .i64)
  | 3 => some (.int .i64)
  | 4 => some .bool
  | 5 => some (.int .u8)
  | 6 => some (.int .u8)
  | 7 => some (.st 7)
  | 8 => some (.st 7)
  | 9 => some .str
  | 10 => some .str
  | 11 => some .str
  | 12 => some (.int .u64)
  | 13 => some (.st 13)
  | 14 => some (.st 13)
  | 21 => some (.int .i32)
  | 22 => some (.sl (.int .u8))
  | 24 => some (.st 24)
  | 25 => some (.st 24)
  | 37 => some (.ptr (.st 54))
  | 47 => some (.sl .str)
  | 52 => some (.sl (.int .i64))
  | 53 => some (.int .u64)
  | 54 => some (.st 54)
  | 55 => some (.st 54)
  | 77 => some (.int .u64)
  | 78 => some (.sl (.int .i64))
  | 87 => some (.int .i64)
  | 109 => some (.int .u32)
  | 117 => some (.st 117)
  | 118 => some (.st 117)
  | 120 => some (.ptr (.st 121))
  | 121 => some (.st 121)
  | 122 => some (.st 121)
  | 134 => some (.int .u8)
  | 135 => some (.int .u8)
  | 137 => some (.int .i32)
  | 138 => some (.int .i32)
  | _ => none

def sel : Ty → TypeId
  | (.int .i64) => 2
  | (.int .u8) => 5
  | .str => 9
  | _ => 0

def sfl : Nat → Bool
  | 7 => true
  | 13 => true
  | 24 => true
  | 54 => false
  | 117 => true
  | 121 => true
  | _ => false

def GG : Sig where
  S := SS
  csz := scsz
  cells := scells
  make := smake
  tyOf := stys
  el := sel
  fl := sfl

theorem TRuntime_boundsError.ok : SOk GG 7 TRuntime_boundsError.ts TRuntime_boundsError.to TRuntime_boundsError.of := ⟨rfl, fun _ => rfl, fun _ => rfl, rfl, fun _ => rfl, rfl⟩

theorem TRuntime_errorAddressString.ok : SOk GG 13 TRuntime_errorAddressString.ts TRuntime_errorAddressString.to TRuntime_errorAddressString.of := ⟨rfl, fun _ => rfl, fun _ => rfl, rfl, fun _ => rfl, rfl⟩

theorem TValue.ok : SOk GG 24 TValue.ts TValue.to TValue.of := ⟨rfl, fun _ => rfl, fun _ => rfl, rfl, fun _ => rfl, rfl⟩

theorem TSpec_l00Src.ok : SOk GG 54 TSpec_l00Src.ts TSpec_l00Src.to TSpec_l00Src.of := ⟨rfl, fun _ => rfl, fun _ => rfl, rfl, fun _ => rfl, rfl⟩

theorem TUtf8_acceptRange.ok : SOk GG 117 TUtf8_acceptRange.ts TUtf8_acceptRange.to TUtf8_acceptRange.of := ⟨rfl, fun _ => rfl, fun _ => rfl, rfl, fun _ => rfl, rfl⟩

theorem TErrors_errorString.ok : SOk GG 121 TErrors_errorString.ts TErrors_errorString.to TErrors_errorString.of := ⟨rfl, fun _ => rfl, fun _ => rfl, rfl, fun _ => rfl, rfl⟩

def TRuntime_boundsError.re (x : TRuntime_boundsError) : TRuntime_boundsError := TRuntime_boundsError.mk x.fX x.fY x.fSigned x.fCode

@[simp] theorem TRuntime_boundsError.re_eq (x : TRuntime_boundsError) : x.re = x := by cases x; rfl

theorem TRuntime_boundsError.eta (x : TRuntime_boundsError) : TRuntime_boundsError.mk x.fX x.fY x.fSigned x.fCode = x := by cases x; rfl

def TRuntime_errorAddressString.re (x : TRuntime_errorAddressString) : TRuntime_errorAddressString := TRuntime_errorAddressString.mk x.fMsg x.fAddr

@[simp] theorem TRuntime_errorAddressString.re_eq (x : TRuntime_errorAddressString) : x.re = x := by cases x; rfl

theorem TRuntime_errorAddressString.eta (x : TRuntime_errorAddressString) : TRuntime_errorAddressString.mk x.fMsg x.fAddr = x := by cases x; rfl

def TValue.re (x : TValue) : TValue := TValue.mk x.fKind x.fNum x.fText x.fRef

@[simp] theorem TValue.re_eq (x : TValue) : x.re = x := by cases x; rfl

theorem TValue.eta (x : TValue) : TValue.mk x.fKind x.fNum x.fText x.fRef = x := by cases x; rfl

def TSpec_l00Src.re (x : TSpec_l00Src) : TSpec_l00Src := TSpec_l00Src.mk x.fCode x.fAt x.fSeed

@[simp] theorem TSpec_l00Src.re_eq (x : TSpec_l00Src) : x.re = x := by cases x; rfl

theorem TSpec_l00Src.eta (x : TSpec_l00Src) : TSpec_l00Src.mk x.fCode x.fAt x.fSeed = x := by cases x; rfl

def TUtf8_acceptRange.re (x : TUtf8_acceptRange) : TUtf8_acceptRange := TUtf8_acceptRange.mk x.fLo x.fHi

@[simp] theorem TUtf8_acceptRange.re_eq (x : TUtf8_acceptRange) : x.re = x := by cases x; rfl

theorem TUtf8_acceptRange.eta (x : TUtf8_acceptRange) : TUtf8_acceptRange.mk x.fLo x.fHi = x := by cases x; rfl

def TErrors_errorString.re (x : TErrors_errorString) : TErrors_errorString := TErrors_errorString.mk x.fS

@[simp] theorem TErrors_errorString.re_eq (x : TErrors_errorString) : x.re = x := by cases x; rfl

theorem TErrors_errorString.eta (x : TErrors_errorString) : TErrors_errorString.mk x.fS = x := by cases x; rfl

theorem SS_empty {n : Nat} (h7 : ¬ n = 7) (h13 : ¬ n = 13) (h24 : ¬ n = 24) (h54 : ¬ n = 54) (h117 : ¬ n = 117) (h121 : ¬ n = 121) : SS n = Empty := by
  unfold SS
  split <;> first | rfl | (exfalso; omega)

theorem GG.law (n : Nat) : SLaw GG n := by
  by_cases h7 : n = 7
  · subst h7; exact TRuntime_boundsError.ok.law
  by_cases h13 : n = 13
  · subst h13; exact TRuntime_errorAddressString.ok.law
  by_cases h24 : n = 24
  · subst h24; exact TValue.ok.law
  by_cases h54 : n = 54
  · subst h54; exact TSpec_l00Src.ok.law
  by_cases h117 : n = 117
  · subst h117; exact TUtf8_acceptRange.ok.law
  by_cases h121 : n = 121
  · subst h121; exact TErrors_errorString.ok.law
  exact .empty fun x => (cast (SS_empty h7 h13 h24 h54 h117 h121) x).elim

theorem GG.ok : SigOk GG := sigOk_of GG.law

noncomputable def OO : Opn GG where
  P := Tryz.prog
  tab := [(2, (.int .i64)), (3, (.int .i64)), (4, .bool), (5, (.int .u8)), (6, (.int .u8)), (7, (.st 7)), (8, (.st 7)), (9, .str), (10, .str), (11, .str), (12, (.int .u64)), (13, (.st 13)), (14, (.st 13)), (21, (.int .i32)), (22, (.sl (.int .u8))), (24, (.st 24)), (25, (.st 24)), (47, (.sl .str)), (52, (.sl (.int .i64))), (53, (.int .u64)), (54, (.st 54)), (55, (.st 54)), (77, (.int .u64)), (78, (.sl (.int .i64))), (87, (.int .i64)), (109, (.int .u32)), (117, (.st 117)), (118, (.st 117)), (121, (.st 121)), (122, (.st 121)), (134, (.int .u8)), (135, (.int .u8)), (137, (.int .i32)), (138, (.int .i32))]
  cty := scty

theorem OO.tot (n : Nat) (vs : List (V SS)) (h : Leaves GG (scty n) vs) : ∃ x, smake n vs = some x ∧ scells n x = vs := by
  by_cases h7 : n = 7
  · subst h7; exact TRuntime_boundsError.ok.tot h
  by_cases h13 : n = 13
  · subst h13; exact TRuntime_errorAddressString.ok.tot h
  by_cases h24 : n = 24
  · subst h24; exact TValue.ok.tot h
  by_cases h54 : n = 54
  · subst h54; exact TSpec_l00Src.ok.tot h
  by_cases h117 : n = 117
  · subst h117; exact TUtf8_acceptRange.ok.tot h
  by_cases h121 : n = 121
  · subst h121; exact TErrors_errorString.ok.tot h
  exfalso
  have e : scty n = [.st n] := by
    unfold scty
    split <;> first | rfl | (exfalso; omega)
  rw [e] at h
  obtain ⟨x⟩ := leaves_st h
  exact (cast (SS_empty h7 h13 h24 h54 h117 h121) x : Empty).elim

theorem OO.ok : OpnOk OO := ⟨by kernel_rfl, OO.tot⟩

def cut3 : Nat → Option (List (Nat × Option Ty))
  | 8 => some []
  | 11 => some [(0, none), (1, none)]
  | _ => none

def cut7 : Nat → Option (List (Nat × Option Ty))
  | 11 => some [(1, none)]
  | 12 => some [(1, none), (4, none)]
  | _ => none

def cut13 : Nat → Option (List (Nat × Option Ty))
  | 25 => some [(2, none), (3, none)]
  | 27 => some [(2, none), (3, none)]
  | 13 => some [(0, none), (2, none), (3, none)]
  | _ => none

def cut15 : Nat → Option (List (Nat × Option Ty))
  | 11 => some [(1, none)]
  | 12 => some [(1, none), (4, none)]
  | _ => none

def cut25 : Nat → Option (List (Nat × Option Ty))
  | 13 => some [(2, none), (3, none), (4, none), (5, none)]
  | _ => none

def cut36 : Nat → Option (List (Nat × Option Ty))
  | 3 => some [(0, none), (1, none)]
  | 4 => some [(0, none), (1, none)]
  | 5 => some [(1, none)]
  | _ => none

def cut43 : Nat → Option (List (Nat × Option Ty))
  | 4 => some [(2, none), (3, none), (6, none), (8, none)]
  | _ => none

def cut44 : Nat → Option (List (Nat × Option Ty))
  | 3 => some [(0, none), (3, none), (4, none)]
  | _ => none

def cut45 : Nat → Option (List (Nat × Option Ty))
  | 5 => some [(0, none), (3, none), (4, none)]
  | _ => none

def cut48 : Nat → Option (List (Nat × Option Ty))
  | 3 => some [(3, none), (6, none), (7, none), (8, none)]
  | _ => none

def cut51 : Nat → Option (List (Nat × Option Ty))
  | 3 => some [(0, none), (5, none), (6, none)]
  | _ => none

def cut53 : Nat → Option (List (Nat × Option Ty))
  | 2 => some [(1, none), (7, none), (8, none), (9, none)]
  | _ => none















def cutT : FuncId → Nat → Option (List (Nat × Option Ty))
  | 3 => cut3
  | 7 => cut7
  | 13 => cut13
  | 15 => cut15
  | 25 => cut25
  | 36 => cut36
  | 43 => cut43
  | 44 => cut44
  | 45 => cut45
  | 48 => cut48
  | 51 => cut51
  | 53 => cut53
  | _ => fun _ => none

def extT : FuncId → Option (Sigma fun rt : List Ty => List (V GG.S) → Option (rDen GG.S rt))
  | 38 => some ⟨[.str], replAllV⟩
  | 55 => some ⟨[.str], itoaV⟩
  | 61 => some ⟨[.str, .str, .bool], scutV⟩
  | _ => none

def bldF : FuncId → Option (Nat × TypeId × TypeId)
  | 68 => some (1, 81, 5)
  | 70 => some (3, 81, 5)
  | _ => none

def pintF : FuncId → Option (List UInt8 → Option (Int × Bool))
  | 41 => some parseIntE
  | _ => none

def ctorT : FuncId → Option (TypeId × (List (V GG.S) → Option (List (V GG.S))))
  | 14 => some (55, srcV)
  | _ => none

noncomputable def CC : Cfg GG where
  P := Tryz.prog
  refs := fun f => [13, 22, 23, 24, 25, 27, 28, 29, 47, 51].contains f
  ext := U.extT
  cut := cutT
  glob := fun _ => none
  gint := fun g => g == 3
  gerr := fun g => [0, 1].contains g
  pint := U.pintF
  cln := fun _ => none
  gtab := fun | 2 => some ((Lib.pow10Tab.map fun z => Value.int .u64 z).toArray) | _ => none
  own := fun _ => none
  bld := U.bldF
  ctor := U.ctorT
  eat := fun _ => none
  trE := fun e => [].contains e
  ownR := fun f => [].contains f
  eatR := fun f => [].contains f
  wrf := fun f => [].contains f
  grw := fun _ => none

end Go.Dv.U
