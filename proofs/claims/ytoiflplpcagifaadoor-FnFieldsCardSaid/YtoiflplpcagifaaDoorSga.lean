/- The types of this program and the places where its loops are cut. -/
import Derived.Test.YtoiflplpcagifaaDoorDvd
import Derived.Test.YtoiflplpcagifaaDoorChecked
set_option linter.all false
set_option linter.unusedVariables false
set_option linter.unusedSimpArgs false
namespace Go.Dv.U

open Go Go.Dv Go.Proofs

set_option maxRecDepth 100000

structure TRuntime_boundsError where
  fX : Int
  fY : Int
  fSigned : Bool
  fCode : Int

structure TRuntime_errorAddressString where
  fMsg : (List UInt8)
  fAddr : Int

structure TValue where
  fKind : Int
  fNum : Int
  fText : (List UInt8)
  fRef : Int

structure TInstr where
  fOp : Int
  fA : Int
  fText : (List UInt8)

structure TField where
  fIsText : Bool
  fNum : Int
  fText : (List UInt8)

structure TInstrForm where
  fWord : (List UInt8)
  fHasNumber : Bool
  fLow : Int
  fHigh : Int
  fHasText : Bool
  fNeeds : Int
  fLeaves : Int

structure TPatternReader where
  fRest : (List UInt8)
  fNodes : Int

structure TSpec_l00Src where
  fCode : (List Int)
  fAt : Int
  fSeed : Int

structure TUtf8_acceptRange where
  fLo : Int
  fHi : Int

structure TErrors_errorString where
  fS : (List UInt8)

def SS : Nat → Type
  | 7 => TRuntime_boundsError
  | 13 => TRuntime_errorAddressString
  | 22 => TValue
  | 30 => TInstr
  | 46 => TField
  | 59 => TInstrForm
  | 80 => TPatternReader
  | 107 => TSpec_l00Src
  | 160 => TUtf8_acceptRange
  | 164 => TErrors_errorString
  | _ => Empty

def TRuntime_boundsError.ts : List Ty := [(.int .i64), (.int .i64), .bool, (.int .u8)]

def TRuntime_boundsError.to (x : TRuntime_boundsError) : lDen SS TRuntime_boundsError.ts := (x.fX, x.fY, x.fSigned, x.fCode, ())

def TRuntime_boundsError.of (p : lDen SS TRuntime_boundsError.ts) : TRuntime_boundsError := (⟨p.1, p.2.1, p.2.2.1, p.2.2.2.1⟩ : TRuntime_boundsError)

def TRuntime_errorAddressString.ts : List Ty := [.str, (.int .u64)]

def TRuntime_errorAddressString.to (x : TRuntime_errorAddressString) : lDen SS TRuntime_errorAddressString.ts := (x.fMsg, x.fAddr, ())

def TRuntime_errorAddressString.of (p : lDen SS TRuntime_errorAddressString.ts) : TRuntime_errorAddressString := (⟨p.1, p.2.1⟩ : TRuntime_errorAddressString)

def TValue.ts : List Ty := [(.int .i64), (.int .i64), .str, (.int .i64)]

def TValue.to (x : TValue) : lDen SS TValue.ts := (x.fKind, x.fNum, x.fText, x.fRef, ())

def TValue.of (p : lDen SS TValue.ts) : TValue := (⟨p.1, p.2.1, p.2.2.1, p.2.2.2.1⟩ : TValue)

def TInstr.ts : List Ty := [(.int .i64), (.int .i64), .str]

def TInstr.to (x : TInstr) : lDen SS TInstr.ts := (x.fOp, x.fA, x.fText, ())

def TInstr.of (p : lDen SS TInstr.ts) : TInstr := (⟨p.1, p.2.1, p.2.2.1⟩ : TInstr)

def TField.ts : List Ty := [.bool, (.int .i64), .str]

def TField.to (x : TField) : lDen SS TField.ts := (x.fIsText, x.fNum, x.fText, ())

def TField.of (p : lDen SS TField.ts) : TField := (⟨p.1, p.2.1, p.2.2.1⟩ : TField)

def TInstrForm.ts : List Ty := [.str, .bool, (.int .i64), (.int .i64), .bool, (.int .i64), (.int .i64)]

def TInstrForm.to (x : TInstrForm) : lDen SS TInstrForm.ts := (x.fWord, x.fHasNumber, x.fLow, x.fHigh, x.fHasText, x.fNeeds, x.fLeaves, ())

def TInstrForm.of (p : lDen SS TInstrForm.ts) : TInstrForm := (⟨p.1, p.2.1, p.2.2.1, p.2.2.2.1, p.2.2.2.2.1, p.2.2.2.2.2.1, p.2.2.2.2.2.2.1⟩ : TInstrForm)

def TPatternReader.ts : List Ty := [.str, (.int .i64)]

def TPatternReader.to (x : TPatternReader) : lDen SS TPatternReader.ts := (x.fRest, x.fNodes, ())

def TPatternReader.of (p : lDen SS TPatternReader.ts) : TPatternReader := (⟨p.1, p.2.1⟩ : TPatternReader)

def TSpec_l00Src.ts : List Ty := [(.sl (.int .u8)), (.int .i64), (.int .u64)]

def TSpec_l00Src.to (x : TSpec_l00Src) : lDen SS TSpec_l00Src.ts := (x.fCode, x.fAt, x.fSeed, ())

def TSpec_l00Src.of (p : lDen SS TSpec_l00Src.ts) : TSpec_l00Src := (⟨p.1, p.2.1, p.2.2.1⟩ : TSpec_l00Src)

def TUtf8_acceptRange.ts : List Ty := [(.int .u8), (.int .u8)]

def TUtf8_acceptRange.to (x : TUtf8_acceptRange) : lDen SS TUtf8_acceptRange.ts := (x.fLo, x.fHi, ())

def TUtf8_acceptRange.of (p : lDen SS TUtf8_acceptRange.ts) : TUtf8_acceptRange := (⟨p.1, p.2.1⟩ : TUtf8_acceptRange)

def TErrors_errorString.ts : List Ty := [.str]

def TErrors_errorString.to (x : TErrors_errorString) : lDen SS TErrors_errorString.ts := (x.fS, ())

def TErrors_errorString.of (p : lDen SS TErrors_errorString.ts) : TErrors_errorString := (⟨p.1⟩ : TErrors_errorString)

def scells : (n : Nat) → SS n → List (V SS)
  | 7, x => cellsL SS TRuntime_boundsError.ts (TRuntime_boundsError.to x)
  | 13, x => cellsL SS TRuntime_errorAddressString.ts (TRuntime_errorAddressString.to x)
  | 22, x => cellsL SS TValue.ts (TValue.to x)
  | 30, x => cellsL SS TInstr.ts (TInstr.to x)
  | 46, x => cellsL SS TField.ts (TField.to x)
  | 59, x => cellsL SS TInstrForm.ts (TInstrForm.to x)
  | 80, x => cellsL SS TPatternReader.ts (TPatternReader.to x)
  | 107, x => cellsL SS TSpec_l00Src.ts (TSpec_l00Src.to x)
  | 160, x => cellsL SS TUtf8_acceptRange.ts (TUtf8_acceptRange.to x)
  | 164, x => cellsL SS TErrors_errorString.ts (TErrors_errorString.to x)
  | _, _ => []

def smake : (n : Nat) → List (V SS) → Option (SS n)
  | 7, c => (prjL SS TRuntime_boundsError.ts c).map TRuntime_boundsError.of
  | 13, c => (prjL SS TRuntime_errorAddressString.ts c).map TRuntime_errorAddressString.of
  | 22, c => (prjL SS TValue.ts c).map TValue.of
  | 30, c => (prjL SS TInstr.ts c).map TInstr.of
  | 46, c => (prjL SS TField.ts c).map TField.of
  | 59, c => (prjL SS TInstrForm.ts c).map TInstrForm.of
  | 80, c => (prjL SS TPatternReader.ts c).map TPatternReader.of
  | 107, c => (prjL SS TSpec_l00Src.ts c).map TSpec_l00Src.of
  | 160, c => (prjL SS TUtf8_acceptRange.ts c).map TUtf8_acceptRange.of
  | 164, c => (prjL SS TErrors_errorString.ts c).map TErrors_errorString.of
  | _, _ => none

def scsz : Nat → Nat
  | 7 => 4
  | 13 => 2
  | 22 => 4
  | 30 => 3
  | 46 => 3
  | 59 => 7
  | 80 => 2
  | 107 => 3
  | 160 => 2
  | 164 => 1
  | _ => 0

def scty : Nat → List Ty
  | 7 => TRuntime_boundsError.ts
  | 13 => TRuntime_errorAddressString.ts
  | 22 => TValue.ts
  | 30 => TInstr.ts
  | 46 => TField.ts
  | 59 => TInstrForm.ts
  | 80 => TPatternReader.ts
  | 107 => TSpec_l00Src.ts
  | 160 => TUtf8_acceptRange.ts
  | 164 => TErrors_errorString.ts
  | n => [.st n]

def stys : TypeId → Option Ty
  | 2 => some (.int .i64)
  | 3 => some (.int .i64)
  | 4 => some .bool
  | 5 => some (.int .u8)
  | 6 => some (.int .u8)
  | 7 => some (.st 7)
  | 8 => some (.st 7)
  | 9 => some .str
  | 10 => some .str
  | 11 => some .str
  | 12 => some (.int .u64)
  | 13 => some (.st 13)
  | 14 => some (.st 13)
  | 21 => some (.int .i32)
  | 22 => some (.st 22)
  | 23 => some (.st 22)
  | 28 => some (.sl (.int .u8))
  | 30 => some (.st 30)
  | 31 => some (.st 30)
  | 39 => some (.sl (.st 46))
  | 46 => some (.st 46)
  | 47 => some (.st 46)
  | 57 => some (.ptr (.st 107))
  | 59 => some (.st 59)
  | 60 => some (.st 59)
  | 68 => some (.sl (.st 59))
  | 74 => some (.sl .str)
  | 79 => some (.ptr (.st 80))
  | 80 => some (.st 80)
  | 81 => some (.st 80)
  | 104 => some (.sl (.int .i64))
  | 106 => some (.int .u64)
  | 107 => some (.st 107)
  | 108 => some (.st 107)
  | 126 => some (.int .u64)
  | 132 => some (.int .i64)
  | 152 => some (.int .u32)
  | 160 => some (.st 160)
  | 161 => some (.st 160)
  | 163 => some (.ptr (.st 164))
  | 164 => some (.st 164)
  | 165 => some (.st 164)
  | 175 => some (.int .u8)
  | 176 => some (.int .u8)
  | 178 => some (.int .i32)
  | 179 => some (.int .i32)
  | _ => none

def sel : Ty → TypeId
  | (.int .i64) => 2
  | (.int .u8) => 5
  | (.st 46) => 47
  | (.st 59) => 60
  | .str => 9
  | _ => 0

def sfl : Nat → Bool
  | 7 => true
  | 13 => true
  | 22 => true
  | 30 => true
  | 46 => true
  | 59 => true
  | 80 => true
  | 107 => false
  | 160 => true
  | 164 => true
  | _ => false

def GG : Sig where
  S := SS
  csz := scsz
  cells := scells
  make := smake
  tyOf := stys
  el := sel
  fl := sfl

theorem TRuntime_boundsError.ok : SOk GG 7 TRuntime_boundsError.ts TRuntime_boundsError.to TRuntime_boundsError.of := ⟨rfl, fun _ => rfl, fun _ => rfl, rfl, fun _ => rfl, rfl⟩

theorem TRuntime_errorAddressString.ok : SOk GG 13 TRuntime_errorAddressString.ts TRuntime_errorAddressString.to TRuntime_errorAddressString.of := ⟨rfl, fun _ => rfl, fun _ => rfl, rfl, fun _ => rfl, rfl⟩

theorem TValue.ok : SOk GG 22 TValue.ts TValue.to TValue.of := ⟨rfl, fun _ => rfl, fun _ => rfl, rfl, fun _ => rfl, rfl⟩

theorem TInstr.ok : SOk GG 30 TInstr.ts TInstr.to TInstr.of := ⟨rfl, fun _ => rfl, fun _ => rfl, rfl, fun _ => rfl, rfl⟩

theorem TField.ok : SOk GG 46 TField.ts TField.to TField.of := ⟨rfl, fun _ => rfl, fun _ => rfl, rfl, fun _ => rfl, rfl⟩

theorem TInstrForm.ok : SOk GG 59 TInstrForm.ts TInstrForm.to TInstrForm.of := ⟨rfl, fun _ => rfl, fun _ => rfl, rfl, fun _ => rfl, rfl⟩

theorem TPatternReader.ok : SOk GG 80 TPatternReader.ts TPatternReader.to TPatternReader.of := ⟨rfl, fun _ => rfl, fun _ => rfl, rfl, fun _ => rfl, rfl⟩

theorem TSpec_l00Src.ok : SOk GG 107 TSpec_l00Src.ts TSpec_l00Src.to TSpec_l00Src.of := ⟨rfl, fun _ => rfl, fun _ => rfl, rfl, fun _ => rfl, rfl⟩

theorem TUtf8_acceptRange.ok : SOk GG 160 TUtf8_acceptRange.ts TUtf8_acceptRange.to TUtf8_acceptRange.of := ⟨rfl, fun _ => rfl, fun _ => rfl, rfl, fun _ => rfl, rfl⟩

theorem TErrors_errorString.ok : SOk GG 164 TErrors_errorString.ts TErrors_errorString.to TErrors_errorString.of := ⟨rfl, fun _ => rfl, fun _ => rfl, rfl, fun _ => rfl, rfl⟩

def TRuntime_boundsError.re (x : TRuntime_boundsError) : TRuntime_boundsError := TRuntime_boundsError.mk x.fX x.fY x.fSigned x.fCode

@[simp] theorem TRuntime_boundsError.re_eq (x : TRuntime_boundsError) : x.re = x := by cases x; rfl

theorem TRuntime_boundsError.eta (x : TRuntime_boundsError) : TRuntime_boundsError.mk x.fX x.fY x.fSigned x.fCode = x := by cases x; rfl

def TRuntime_errorAddressString.re (x : TRuntime_errorAddressString) : TRuntime_errorAddressString := TRuntime_errorAddressString.mk x.fMsg x.fAddr

@[simp] theorem TRuntime_errorAddressString.re_eq (x : TRuntime_errorAddressString) : x.re = x := by cases x; rfl

theorem TRuntime_errorAddressString.eta (x : TRuntime_errorAddressString) : TRuntime_errorAddressString.mk x.fMsg x.fAddr = x := by cases x; rfl

def TValue.re (x : TValue) : TValue := TValue.mk x.fKind x.fNum x.fText x.fRef

@[simp] theorem TValue.re_eq (x : TValue) : x.re = x := by cases x; rfl

theorem TValue.eta (x : TValue) : TValue.mk x.fKind x.fNum x.fText x.fRef = x := by cases x; rfl

def TInstr.re (x : TInstr) : TInstr := TInstr.mk x.fOp x.fA x.fText

@[simp] theorem TInstr.re_eq (x : TInstr) : x.re = x := by cases x; rfl

theorem TInstr.eta (x : TInstr) : TInstr.mk x.fOp x.fA x.fText = x := by cases x; rfl

def TField.re (x : TField) : TField := TField.mk x.fIsText x.fNum x.fText

@[simp] theorem TField.re_eq (x : TField) : x.re = x := by cases x; rfl

theorem TField.eta (x : TField) : TField.mk x.fIsText x.fNum x.fText = x := by cases x; rfl

def TInstrForm.re (x : TInstrForm) : TInstrForm := TInstrForm.mk x.fWord x.fHasNumber x.fLow x.fHigh x.fHasText x.fNeeds x.fLeaves

@[simp] theorem TInstrForm.re_eq (x : TInstrForm) : x.re = x := by cases x; rfl

theorem TInstrForm.eta (x : TInstrForm) : TInstrForm.mk x.fWord x.fHasNumber x.fLow x.fHigh x.fHasText x.fNeeds x.fLeaves = x := by cases x; rfl

def TPatternReader.re (x : TPatternReader) : TPatternReader := TPatternReader.mk x.fRest x.fNodes

@[simp] theorem TPatternReader.re_eq (x : TPatternReader) : x.re = x := by cases x; rfl

theorem TPatternReader.eta (x : TPatternReader) : TPatternReader.mk x.fRest x.fNodes = x := by cases x; rfl

def TSpec_l00Src.re (x : TSpec_l00Src) : TSpec_l00Src := TSpec_l00Src.mk x.fCode x.fAt x.fSeed

@[simp] theorem TSpec_l00Src.re_eq (x : TSpec_l00Src) : x.re = x := by cases x; rfl

theorem TSpec_l00Src.eta (x : TSpec_l00Src) : TSpec_l00Src.mk x.fCode x.fAt x.fSeed = x := by cases x; rfl

def TUtf8_acceptRange.re (x : TUtf8_acceptRange) : TUtf8_acceptRange := TUtf8_acceptRange.mk x.fLo x.fHi

@[simp] theorem TUtf8_acceptRange.re_eq (x : TUtf8_acceptRange) : x.re = x := by cases x; rfl

theorem TUtf8_acceptRange.eta (x : TUtf8_acceptRange) : TUtf8_acceptRange.mk x.fLo x.fHi = x := by cases x; rfl

def TErrors_errorString.re (x : TErrors_errorString) : TErrors_errorString := TErrors_errorString.mk x.fS

@[simp] theorem TErrors_errorString.re_eq (x : TErrors_errorString) : x.re = x := by cases x; rfl

theorem TErrors_errorString.eta (x : TErrors_errorString) : TErrors_errorString.mk x.fS = x := by cases x; rfl

theorem SS_empty {n : Nat} (h7 : ¬ n = 7) (h13 : ¬ n = 13) (h22 : ¬ n = 22) (h30 : ¬ n = 30) (h46 : ¬ n = 46) (h59 : ¬ n = 59) (h80 : ¬ n = 80) (h107 : ¬ n = 107) (h160 : ¬ n = 160) (h164 : ¬ n = 164) : SS n = Empty := by
  unfold SS
  split <;> first | rfl | (exfalso; omega)

theorem GG.law (n : Nat) : SLaw GG n := by
  by_cases h7 : n = 7
  · subst h7; exact TRuntime_boundsError.ok.law
  by_cases h13 : n = 13
  · subst h13; exact TRuntime_errorAddressString.ok.law
  by_cases h22 : n = 22
  · subst h22; exact TValue.ok.law
  by_cases h30 : n = 30
  · subst h30; exact TInstr.ok.law
  by_cases h46 : n = 46
  · subst h46; exact TField.ok.law
  by_cases h59 : n = 59
  · subst h59; exact TInstrForm.ok.law
  by_cases h80 : n = 80
  · subst h80; exact TPatternReader.ok.law
  by_cases h107 : n = 107
  · subst h107; exact TSpec_l00Src.ok.law
  by_cases h160 : n = 160
  · subst h160; exact TUtf8_acceptRange.ok.law
  by_cases h164 : n = 164
  · subst h164; exact TErrors_errorString.ok.law
  exact .empty fun x => (cast (SS_empty h7 h13 h22 h30 h46 h59 h80 h107 h160 h164) x).elim

theorem GG.ok : SigOk GG := sigOk_of GG.law

noncomputable def OO : Opn GG where
  P := Tryd.prog
  tab := [(2, (.int .i64)), (3, (.int .i64)), (4, .bool), (5, (.int .u8)), (6, (.int .u8)), (7, (.st 7)), (8, (.st 7)), (9, .str), (10, .str), (11, .str), (12, (.int .u64)), (13, (.st 13)), (14, (.st 13)), (21, (.int .i32)), (22, (.st 22)), (23, (.st 22)), (28, (.sl (.int .u8))), (30, (.st 30)), (31, (.st 30)), (39, (.sl (.st 46))), (46, (.st 46)), (47, (.st 46)), (59, (.st 59)), (60, (.st 59)), (68, (.sl (.st 59))), (74, (.sl .str)), (80, (.st 80)), (81, (.st 80)), (104, (.sl (.int .i64))), (106, (.int .u64)), (107, (.st 107)), (108, (.st 107)), (126, (.int .u64)), (132, (.int .i64)), (152, (.int .u32)), (160, (.st 160)), (161, (.st 160)), (164, (.st 164)), (165, (.st 164)), (175, (.int .u8)), (176, (.int .u8)), (178, (.int .i32)), (179, (.int .i32))]
  cty := scty

theorem OO.tot (n : Nat) (vs : List (V SS)) (h : Leaves GG (scty n) vs) : ∃ x, smake n vs = some x ∧ scells n x = vs := by
  by_cases h7 : n = 7
  · subst h7; exact TRuntime_boundsError.ok.tot h
  by_cases h13 : n = 13
  · subst h13; exact TRuntime_errorAddressString.ok.tot h
  by_cases h22 : n = 22
  · subst h22; exact TValue.ok.tot h
  by_cases h30 : n = 30
  · subst h30; exact TInstr.ok.tot h
  by_cases h46 : n = 46
  · subst h46; exact TField.ok.tot h
  by_cases h59 : n = 59
  · subst h59; exact TInstrForm.ok.tot h
  by_cases h80 : n = 80
  · subst h80; exact TPatternReader.ok.tot h
  by_cases h107 : n = 107
  · subst h107; exact TSpec_l00Src.ok.tot h
  by_cases h160 : n = 160
  · subst h160; exact TUtf8_acceptRange.ok.tot h
  by_cases h164 : n = 164
  · subst h164; exact TErrors_errorString.ok.tot h
  exfalso
  have e : scty n = [.st n] := by
    unfold scty
    split <;> first | rfl | (exfalso; omega)
  rw [e] at h
  obtain ⟨x⟩ := leaves_st h
  exact (cast (SS_empty h7 h13 h22 h30 h46 h59 h80 h107 h160 h164) x : Empty).elim

theorem OO.ok : OpnOk OO := ⟨by kernel_rfl, OO.tot⟩



def cut6 : Nat → Option (List (Nat × Option Ty))
  | 16 => some [(1, none)]
  | 10 => some []
  | 11 => some [(1, none), (5, none), (7, none)]
  | 12 => some [(1, none), (5, none), (7, none), (9, none)]
  | _ => none






def cut17 : Nat → Option (List (Nat × Option Ty))
  | 5 => some [(0, none), (4, none), (5, none), (6, none)]
  | _ => none




def cut23 : Nat → Option (List (Nat × Option Ty))
  | 5 => some [(3, none), (15, none), (16, none), (17, none)]
  | _ => none

def cut24 : Nat → Option (List (Nat × Option Ty))
  | 4 => some [(0, none), (3, none)]
  | _ => none














def cut60 : Nat → Option (List (Nat × Option Ty))
  | 3 => some [(0, none), (3, none), (4, none)]
  | _ => none

def cut61 : Nat → Option (List (Nat × Option Ty))
  | 2 => some [(1, none), (7, none), (8, none), (9, none)]
  | _ => none

def cut67 : Nat → Option (List (Nat × Option Ty))
  | 3 => some [(0, none), (3, none), (4, none)]
  | 4 => some [(0, none), (3, none), (4, none)]
  | _ => none

def cut68 : Nat → Option (List (Nat × Option Ty))
  | 5 => some [(0, none), (3, none), (4, none)]
  | _ => none






def cut99 : Nat → Option (List (Nat × Option Ty))
  | 4 => some [(0, none), (4, none)]
  | _ => none

def cut100 : Nat → Option (List (Nat × Option Ty))
  | 2 => some [(0, none), (1, none), (2, none), (7, none)]
  | _ => none

def cut103 : Nat → Option (List (Nat × Option Ty))
  | 3 => some [(0, none), (3, none), (4, none)]
  | _ => none

















def cutT : FuncId → Nat → Option (List (Nat × Option Ty))
  | 6 => cut6
  | 17 => cut17
  | 23 => cut23
  | 24 => cut24
  | 60 => cut60
  | 61 => cut61
  | 67 => cut67
  | 68 => cut68
  | 99 => cut99
  | 100 => cut100
  | 103 => cut103
  | _ => fun _ => none

def extT : FuncId → Option (Sigma fun rt : List Ty => List (V GG.S) → Option (rDen GG.S rt))
  | 44 => some ⟨[.str, .str, .bool], scutV⟩
  | 73 => some ⟨[.str], replAllV⟩
  | 87 => some ⟨[.str], itoaV⟩
  | 88 => some ⟨[.bool], containsV⟩
  | _ => none

def bldF : FuncId → Option (Nat × TypeId × TypeId)
  | 63 => some (1, 92, 5)
  | 65 => some (3, 92, 5)
  | _ => none

def pintF : FuncId → Option (List UInt8 → Option (Int × Bool))
  | 75 => some parseIntE
  | _ => none

def ctorT : FuncId → Option (TypeId × (List (V GG.S) → Option (List (V GG.S))))
  | 36 => some (108, srcV)
  | _ => none

noncomputable def CC : Cfg GG where
  P := Tryd.prog
  refs := fun f => [35, 51, 52, 53, 56, 57, 60, 83, 84, 85, 96, 99, 110].contains f
  ext := U.extT
  cut := cutT
  glob := fun _ => none
  gint := fun g => g == 0
  gerr := fun g => [1, 2].contains g
  pint := U.pintF
  cln := fun _ => none
  gtab := fun | 3 => some ((Lib.pow10Tab.map fun z => Value.int .u64 z).toArray) | _ => none
  own := fun _ => none
  bld := U.bldF
  ctor := U.ctorT
  eat := fun _ => none
  trE := fun e => [].contains e
  ownR := fun f => [17].contains f
  eatR := fun f => [].contains f
  wrf := fun f => [19].contains f
  grw := fun _ => none

end Go.Dv.U
