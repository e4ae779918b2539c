/- Plain laws about these equations. -/
import Derived.Test.YtfgdcolakpfjhaaGreatFnExactMachineRootsEqa
set_option linter.all false
set_option linter.unusedVariables false
set_option linter.unusedSimpArgs false
namespace Go.Dv.U
open Go Go.Dv Go.Proofs
structure TValue.Ok (x : TValue) : Prop where
 P_fKind : (-9223372036854775808 ≤ x.fKind ∧ x.fKind ≤ 9223372036854775807)
 P_fNum : (-9223372036854775808 ≤ x.fNum ∧ x.fNum ≤ 9223372036854775807)
 P_fText : x.fText.length ≤ 9223372036854775807
 P_fRef : (-9223372036854775808 ≤ x.fRef ∧ x.fRef ≤ 9223372036854775807)
theorem TValue.ok_cells (x : TValue) (h : ∀ c ∈ GG.cells 29 x, ∀ k, WfV GG k c) : x.Ok := by
 have h : ∀ c ∈ ([.int .i64 x.fKind, .int .i64 x.fNum, .str x.fText, .int .i64 x.fRef] : List (V GG.S)), ∀ k, WfV GG k c := h
 exact ⟨wfv_int (h (.int .i64 x.fKind) (by simp) 1), wfv_int (h (.int .i64 x.fNum) (by simp) 1), wfv_str (h (.str x.fText) (by simp) 1), wfv_int (h (.int .i64 x.fRef) (by simp) 1)⟩
theorem TValue.ok_of {x : TValue} (h : ∀ k, WfV GG k (inj GG (.st 29) x)) : x.Ok := TValue.ok_cells x (wfv_st h)
def TValue.m (x : TValue) : Nat := x.fText.length
theorem TValue.m_eq (x : TValue) : x.m = x.fText.length := rfl
theorem szValue_ok : ∀ x : TValue, x.Ok → ∀ b : Int, 0 ≤ b → b < 4611686018427387904 → l_szValue x b = some (minus b x.m) := by
 intro x
 intro hok b h0 h1
 rw [l_szValue_eq]
 try simp only [TValue.re_eq, TObject.re_eq, THeap.re_eq, TBinding.re_eq, TGen.re_eq, TCursor.re_eq, TCoexpr.re_eq, TGenScope.re_eq, TFunction.re_eq, TRecordType.re_eq, TScope.re_eq, TFile.re_eq, TConsole.re_eq, TMemory.re_eq, TCallFrame.re_eq, TMachine.re_eq]
 -- fText
 obtain ⟨e1, e2⟩ := minus_len (b := b) (l := x.fText) h0 h1 hok.P_fText
 by_cases c0 : minus b (x.fText.length) < 0
 ·simp only [e1.2 c0, decide_true, if_true]
  rw [minus_neg_le c0 (by rw [TValue.m_eq]; omega)]
 have e3 := mt e1.1 c0
 simp only [e3, e2 c0, c0, decide_false, Bool.false_eq_true, if_false]
 try rw [TValue.m_eq]
theorem toValue_ok : ∀ x : TValue, x.m ≤ 1048576 → l_toValue x = some x := by
 intro x
 intro hm
 have hq := x.m_eq
 rw [l_toValue_eq]
 try simp only [TValue.re_eq, TObject.re_eq, THeap.re_eq, TBinding.re_eq, TGen.re_eq, TCursor.re_eq, TCoexpr.re_eq, TGenScope.re_eq, TFunction.re_eq, TRecordType.re_eq, TScope.re_eq, TFile.re_eq, TConsole.re_eq, TMemory.re_eq, TCallFrame.re_eq, TMachine.re_eq]
 try simp only [TValue.eta, TValue.re_eq, TObject.re_eq, THeap.re_eq, TBinding.re_eq, TGen.re_eq, TCursor.re_eq, TCoexpr.re_eq, TGenScope.re_eq, TFunction.re_eq, TRecordType.re_eq, TScope.re_eq, TFile.re_eq, TConsole.re_eq, TMemory.re_eq, TCallFrame.re_eq, TMachine.re_eq]
theorem eqValue_ok : ∀ x : TValue, x.m ≤ 1048576 → l_eqValue x x = some true := by
 intro x
 intro hm
 have hq := x.m_eq
 rw [l_eqValue_eq]
 try simp only [TValue.re_eq, TObject.re_eq, THeap.re_eq, TBinding.re_eq, TGen.re_eq, TCursor.re_eq, TCoexpr.re_eq, TGenScope.re_eq, TFunction.re_eq, TRecordType.re_eq, TScope.re_eq, TFile.re_eq, TConsole.re_eq, TMemory.re_eq, TCallFrame.re_eq, TMachine.re_eq]
 simp
structure TObject.Ok (x : TObject) : Prop where
 P_fId : (-9223372036854775808 ≤ x.fId ∧ x.fId ≤ 9223372036854775807)
 P_fKind : (-9223372036854775808 ≤ x.fKind ∧ x.fKind ≤ 9223372036854775807)
 P_fName : x.fName.length ≤ 9223372036854775807
 P_fLow : (-9223372036854775808 ≤ x.fLow ∧ x.fLow ≤ 9223372036854775807)
 P_fKeys : (x.fKeys.length ≤ 9223372036854775807 ∧ ∀ y ∈ x.fKeys, TValue.Ok y)
 P_fVals : (x.fVals.length ≤ 9223372036854775807 ∧ ∀ y ∈ x.fVals, TValue.Ok y)
 P_fDefault : TValue.Ok x.fDefault
theorem TObject.ok_cells (x : TObject) (h : ∀ c ∈ GG.cells 199 x, ∀ k, WfV GG k c) : x.Ok := by
 have h : ∀ c ∈ ([.int .i64 x.fId, .int .i64 x.fKind, .str x.fName, .int .i64 x.fLow, .sl (.st 29) x.fKeys, .sl (.st 29) x.fVals, .int .i64 x.fDefault.fKind, .int .i64 x.fDefault.fNum, .str x.fDefault.fText, .int .i64 x.fDefault.fRef] : List (V GG.S)), ∀ k, WfV GG k c := h
 have h_fDefault : ∀ c ∈ ([.int .i64 x.fDefault.fKind, .int .i64 x.fDefault.fNum, .str x.fDefault.fText, .int .i64 x.fDefault.fRef] : List (V GG.S)), ∀ k, WfV GG k c := fun c hc => h c (by simp only [List.mem_cons, List.not_mem_nil, or_false] at hc ⊢; rcases hc with rfl | rfl | rfl | rfl <;> simp)
 exact ⟨wfv_int (h (.int .i64 x.fId) (by simp) 1), wfv_int (h (.int .i64 x.fKind) (by simp) 1), wfv_str (h (.str x.fName) (by simp) 1), wfv_int (h (.int .i64 x.fLow) (by simp) 1), ⟨(wfv_sl (h (.sl (.st 29) x.fKeys) (by simp))).1, fun y hy => TValue.ok_cells y ((wfv_sl (h (.sl (.st 29) x.fKeys) (by simp))).2 y hy)⟩, ⟨(wfv_sl (h (.sl (.st 29) x.fVals) (by simp))).1, fun y hy => TValue.ok_cells y ((wfv_sl (h (.sl (.st 29) x.fVals) (by simp))).2 y hy)⟩, TValue.ok_cells _ h_fDefault⟩
theorem TObject.ok_of {x : TObject} (h : ∀ k, WfV GG k (inj GG (.st 199) x)) : x.Ok := TObject.ok_cells x (wfv_st h)
theorem szValueS_of {xs : (List TValue)} (hx : xs.length ≤ 9223372036854775807)
  (hF : ∀ y ∈ xs, ∀ b : Int, 0 ≤ b → b < 4611686018427387904 → l_szValue y b = some (minus b (TValue.m y))) {b : Int} (h0 : 0 ≤ b) (h1 : b < 4611686018427387904) :
  l_szValueS xs b = some (minus b (xs.length + sumOf TValue.m xs)) := by
 rw [l_szValueS_eq]
 obtain ⟨e1, e2⟩ := minus_len (l := xs) h0 h1 hx
 by_cases c : minus b xs.length < 0
 ·simp only [e1.2 c, decide_true, if_true, minus_neg c]
 ·rw [if_neg (by simpa using fun h => c (e1.1 h)), e2 c, sz_loop hx (J := l_szValueS_L5) (F := l_szValue) (m := TValue.m) (fun b i => by rw [l_szValueS_L5_eq]; try simp only [TValue.re_eq, TObject.re_eq, THeap.re_eq, TBinding.re_eq, TGen.re_eq, TCursor.re_eq, TCoexpr.re_eq, TGenScope.re_eq, TFunction.re_eq, TRecordType.re_eq, TScope.re_eq, TFile.re_eq, TConsole.re_eq, TMemory.re_eq, TCallFrame.re_eq, TMachine.re_eq]) hF _ (minus_nonneg c) (minus_lt (by omega) h1), minus_minus c]
theorem eqValueS_of {xs : (List TValue)} (hx : xs.length ≤ 9223372036854775807) (hF : ∀ y ∈ xs, l_eqValue y y = some true) : l_eqValueS xs xs = some true := by
 rw [l_eqValueS_eq]
 simp only [bne_self_eq_false, Bool.false_eq_true, if_false]
 exact eq_loop (by omega) (J := l_eqValueS_L4) (F := l_eqValue) (fun i => by rw [l_eqValueS_L4_eq]; try simp only [TValue.re_eq, TObject.re_eq, THeap.re_eq, TBinding.re_eq, TGen.re_eq, TCursor.re_eq, TCoexpr.re_eq, TGenScope.re_eq, TFunction.re_eq, TRecordType.re_eq, TScope.re_eq, TFile.re_eq, TConsole.re_eq, TMemory.re_eq, TCallFrame.re_eq, TMachine.re_eq]) hF
def TObject.m (x : TObject) : Nat := x.fName.length + (x.fKeys.length + sumOf TValue.m x.fKeys) + (x.fVals.length + sumOf TValue.m x.fVals) + TValue.m x.fDefault
theorem TObject.m_eq (x : TObject) : x.m = x.fName.length + (x.fKeys.length + sumOf TValue.m x.fKeys) + (x.fVals.length + sumOf TValue.m x.fVals) + TValue.m x.fDefault := rfl
theorem szObject_ok : ∀ x : TObject, x.Ok → ∀ b : Int, 0 ≤ b → b < 4611686018427387904 → l_szObject x b = some (minus b x.m) := by
 intro x
 intro hok b h0 h1
 rw [l_szObject_eq]
 try simp only [TValue.re_eq, TObject.re_eq, THeap.re_eq, TBinding.re_eq, TGen.re_eq, TCursor.re_eq, TCoexpr.re_eq, TGenScope.re_eq, TFunction.re_eq, TRecordType.re_eq, TScope.re_eq, TFile.re_eq, TConsole.re_eq, TMemory.re_eq, TCallFrame.re_eq, TMachine.re_eq]
 -- fName
 obtain ⟨e1, e2⟩ := minus_len (b := b) (l := x.fName) h0 h1 hok.P_fName
 by_cases c0 : minus b (x.fName.length) < 0
 ·simp only [e1.2 c0, decide_true, if_true]
  rw [minus_neg_le c0 (by rw [TObject.m_eq]; omega)]
 have e3 := mt e1.1 c0
 simp only [e3, e2 c0, c0, decide_false, Bool.false_eq_true, if_false]
 -- fKeys
 rw [szValueS_of hok.P_fKeys.1 (fun y hy b h0 h1 => szValue_ok y (hok.P_fKeys.2 y hy) b h0 h1) (minus_nonneg c0) (minus_lt (by omega) h1)]
 simp only [Option.bind_some]
 simp only [minus_minus c0]
 by_cases c1 : minus b (x.fName.length + (x.fKeys.length + sumOf TValue.m x.fKeys)) < 0
 ·simp only [c1, decide_true, if_true]
  rw [minus_neg_le c1 (by rw [TObject.m_eq]; omega)]
 simp only [c1, decide_false, Bool.false_eq_true, if_false]
 -- fVals
 rw [szValueS_of hok.P_fVals.1 (fun y hy b h0 h1 => szValue_ok y (hok.P_fVals.2 y hy) b h0 h1) (minus_nonneg c1) (minus_lt (by omega) h1)]
 simp only [Option.bind_some]
 simp only [minus_minus c1]
 by_cases c2 : minus b (x.fName.length + (x.fKeys.length + sumOf TValue.m x.fKeys) + (x.fVals.length + sumOf TValue.m x.fVals)) < 0
 ·simp only [c2, decide_true, if_true]
  rw [minus_neg_le c2 (by rw [TObject.m_eq]; omega)]
 simp only [c2, decide_false, Bool.false_eq_true, if_false]
 -- fDefault
 rw [szValue_ok x.fDefault hok.P_fDefault (minus b (x.fName.length + (x.fKeys.length + sumOf TValue.m x.fKeys) + (x.fVals.length + sumOf TValue.m x.fVals))) (minus_nonneg c2) (minus_lt (by omega) h1)]
 simp only [Option.bind_some]
 simp only [minus_minus c2]
 by_cases c3 : minus b (x.fName.length + (x.fKeys.length + sumOf TValue.m x.fKeys) + (x.fVals.length + sumOf TValue.m x.fVals) + TValue.m x.fDefault) < 0
 ·simp only [c3, decide_true, if_true]
  rw [minus_neg_le c3 (by rw [TObject.m_eq]; omega)]
 simp only [c3, decide_false, Bool.false_eq_true, if_false]
 try rw [TObject.m_eq]
theorem eqObject_ok : ∀ x : TObject, x.m ≤ 1048576 → l_eqObject x x = some true := by
 intro x
 intro hm
 have hq := x.m_eq
 rw [l_eqObject_eq]
 try simp only [TValue.re_eq, TObject.re_eq, THeap.re_eq, TBinding.re_eq, TGen.re_eq, TCursor.re_eq, TCoexpr.re_eq, TGenScope.re_eq, TFunction.re_eq, TRecordType.re_eq, TScope.re_eq, TFile.re_eq, TConsole.re_eq, TMemory.re_eq, TCallFrame.re_eq, TMachine.re_eq]
 rw [eqValueS_of (xs := x.fKeys) (by omega) fun y hy => eqValue_ok y (by have := sumOf_mem (m := TValue.m) hy; omega)]
 rw [eqValueS_of (xs := x.fVals) (by omega) fun y hy => eqValue_ok y (by have := sumOf_mem (m := TValue.m) hy; omega)]
 rw [eqValue_ok x.fDefault (by omega)]
 simp
structure THeap.Ok (x : THeap) : Prop where
 P_fNext : (-9223372036854775808 ≤ x.fNext ∧ x.fNext ≤ 9223372036854775807)
 P_fObjects : (x.fObjects.length ≤ 9223372036854775807 ∧ ∀ y ∈ x.fObjects, TObject.Ok y)
theorem THeap.ok_cells (x : THeap) (h : ∀ c ∈ GG.cells 24 x, ∀ k, WfV GG k c) : x.Ok := by
 have h : ∀ c ∈ ([.int .i64 x.fNext, .sl (.st 199) x.fObjects] : List (V GG.S)), ∀ k, WfV GG k c := h
 exact ⟨wfv_int (h (.int .i64 x.fNext) (by simp) 1), ⟨(wfv_sl (h (.sl (.st 199) x.fObjects) (by simp))).1, fun y hy => TObject.ok_cells y ((wfv_sl (h (.sl (.st 199) x.fObjects) (by simp))).2 y hy)⟩⟩
theorem THeap.ok_of {x : THeap} (h : ∀ k, WfV GG k (inj GG (.st 24) x)) : x.Ok := THeap.ok_cells x (wfv_st h)
theorem szObjectS_of {xs : (List TObject)} (hx : xs.length ≤ 9223372036854775807)
  (hF : ∀ y ∈ xs, ∀ b : Int, 0 ≤ b → b < 4611686018427387904 → l_szObject y b = some (minus b (TObject.m y))) {b : Int} (h0 : 0 ≤ b) (h1 : b < 4611686018427387904) :
  l_szObjectS xs b = some (minus b (xs.length + sumOf TObject.m xs)) := by
 rw [l_szObjectS_eq]
 obtain ⟨e1, e2⟩ := minus_len (l := xs) h0 h1 hx
 by_cases c : minus b xs.length < 0
 ·simp only [e1.2 c, decide_true, if_true, minus_neg c]
 ·rw [if_neg (by simpa using fun h => c (e1.1 h)), e2 c, sz_loop hx (J := l_szObjectS_L5) (F := l_szObject) (m := TObject.m) (fun b i => by rw [l_szObjectS_L5_eq]; try simp only [TValue.re_eq, TObject.re_eq, THeap.re_eq, TBinding.re_eq, TGen.re_eq, TCursor.re_eq, TCoexpr.re_eq, TGenScope.re_eq, TFunction.re_eq, TRecordType.re_eq, TScope.re_eq, TFile.re_eq, TConsole.re_eq, TMemory.re_eq, TCallFrame.re_eq, TMachine.re_eq]) hF _ (minus_nonneg c) (minus_lt (by omega) h1), minus_minus c]
theorem eqObjectS_of {xs : (List TObject)} (hx : xs.length ≤ 9223372036854775807) (hF : ∀ y ∈ xs, l_eqObject y y = some true) : l_eqObjectS xs xs = some true := by
 rw [l_eqObjectS_eq]
 simp only [bne_self_eq_false, Bool.false_eq_true, if_false]
 exact eq_loop (by omega) (J := l_eqObjectS_L4) (F := l_eqObject) (fun i => by rw [l_eqObjectS_L4_eq]; try simp only [TValue.re_eq, TObject.re_eq, THeap.re_eq, TBinding.re_eq, TGen.re_eq, TCursor.re_eq, TCoexpr.re_eq, TGenScope.re_eq, TFunction.re_eq, TRecordType.re_eq, TScope.re_eq, TFile.re_eq, TConsole.re_eq, TMemory.re_eq, TCallFrame.re_eq, TMachine.re_eq]) hF
def THeap.m (x : THeap) : Nat := (x.fObjects.length + sumOf TObject.m x.fObjects)
theorem THeap.m_eq (x : THeap) : x.m = (x.fObjects.length + sumOf TObject.m x.fObjects) := rfl
theorem szHeap_ok : ∀ x : THeap, x.Ok → ∀ b : Int, 0 ≤ b → b < 4611686018427387904 → l_szHeap x b = some (minus b x.m) := by
 intro x
 intro hok b h0 h1
 rw [l_szHeap_eq]
 try simp only [TValue.re_eq, TObject.re_eq, THeap.re_eq, TBinding.re_eq, TGen.re_eq, TCursor.re_eq, TCoexpr.re_eq, TGenScope.re_eq, TFunction.re_eq, TRecordType.re_eq, TScope.re_eq, TFile.re_eq, TConsole.re_eq, TMemory.re_eq, TCallFrame.re_eq, TMachine.re_eq]
 -- fObjects
 rw [szObjectS_of hok.P_fObjects.1 (fun y hy b h0 h1 => szObject_ok y (hok.P_fObjects.2 y hy) b h0 h1) h0 h1]
 simp only [Option.bind_some]
 by_cases c0 : minus b ((x.fObjects.length + sumOf TObject.m x.fObjects)) < 0
 ·simp only [c0, decide_true, if_true]
  rw [minus_neg_le c0 (by rw [THeap.m_eq]; omega)]
 simp only [c0, decide_false, Bool.false_eq_true, if_false]
 try rw [THeap.m_eq]
theorem eqHeap_ok : ∀ x : THeap, x.m ≤ 1048576 → l_eqHeap x x = some true := by
 intro x
 intro hm
 have hq := x.m_eq
 rw [l_eqHeap_eq]
 try simp only [TValue.re_eq, TObject.re_eq, THeap.re_eq, TBinding.re_eq, TGen.re_eq, TCursor.re_eq, TCoexpr.re_eq, TGenScope.re_eq, TFunction.re_eq, TRecordType.re_eq, TScope.re_eq, TFile.re_eq, TConsole.re_eq, TMemory.re_eq, TCallFrame.re_eq, TMachine.re_eq]
 rw [eqObjectS_of (xs := x.fObjects) (by omega) fun y hy => eqObject_ok y (by have := sumOf_mem (m := TObject.m) hy; omega)]
 simp
structure TBinding.Ok (x : TBinding) : Prop where
 P_fName : x.fName.length ≤ 9223372036854775807
 P_fValue : TValue.Ok x.fValue
theorem TBinding.ok_cells (x : TBinding) (h : ∀ c ∈ GG.cells 162 x, ∀ k, WfV GG k c) : x.Ok := by
 have h : ∀ c ∈ ([.str x.fName, .int .i64 x.fValue.fKind, .int .i64 x.fValue.fNum, .str x.fValue.fText, .int .i64 x.fValue.fRef] : List (V GG.S)), ∀ k, WfV GG k c := h
 have h_fValue : ∀ c ∈ ([.int .i64 x.fValue.fKind, .int .i64 x.fValue.fNum, .str x.fValue.fText, .int .i64 x.fValue.fRef] : List (V GG.S)), ∀ k, WfV GG k c := fun c hc => h c (by simp only [List.mem_cons, List.not_mem_nil, or_false] at hc ⊢; rcases hc with rfl | rfl | rfl | rfl <;> simp)
 exact ⟨wfv_str (h (.str x.fName) (by simp) 1), TValue.ok_cells _ h_fValue⟩
theorem TBinding.ok_of {x : TBinding} (h : ∀ k, WfV GG k (inj GG (.st 162) x)) : x.Ok := TBinding.ok_cells x (wfv_st h)
def TBinding.m (x : TBinding) : Nat := x.fName.length + TValue.m x.fValue
theorem TBinding.m_eq (x : TBinding) : x.m = x.fName.length + TValue.m x.fValue := rfl
theorem szBinding_ok : ∀ x : TBinding, x.Ok → ∀ b : Int, 0 ≤ b → b < 4611686018427387904 → l_szBinding x b = some (minus b x.m) := by
 intro x
 intro hok b h0 h1
 rw [l_szBinding_eq]
 try simp only [TValue.re_eq, TObject.re_eq, THeap.re_eq, TBinding.re_eq, TGen.re_eq, TCursor.re_eq, TCoexpr.re_eq, TGenScope.re_eq, TFunction.re_eq, TRecordType.re_eq, TScope.re_eq, TFile.re_eq, TConsole.re_eq, TMemory.re_eq, TCallFrame.re_eq, TMachine.re_eq]
 -- fName
 obtain ⟨e1, e2⟩ := minus_len (b := b) (l := x.fName) h0 h1 hok.P_fName
 by_cases c0 : minus b (x.fName.length) < 0
 ·simp only [e1.2 c0, decide_true, if_true]
  rw [minus_neg_le c0 (by rw [TBinding.m_eq]; omega)]
 have e3 := mt e1.1 c0
 simp only [e3, e2 c0, c0, decide_false, Bool.false_eq_true, if_false]
 -- fValue
 rw [szValue_ok x.fValue hok.P_fValue (minus b (x.fName.length)) (minus_nonneg c0) (minus_lt (by omega) h1)]
 simp only [Option.bind_some]
 simp only [minus_minus c0]
 by_cases c1 : minus b (x.fName.length + TValue.m x.fValue) < 0
 ·simp only [c1, decide_true, if_true]
  rw [minus_neg_le c1 (by rw [TBinding.m_eq]; omega)]
 simp only [c1, decide_false, Bool.false_eq_true, if_false]
 try rw [TBinding.m_eq]
theorem toBinding_ok : ∀ x : TBinding, x.m ≤ 1048576 → l_toBinding x = some x := by
 intro x
 intro hm
 have hq := x.m_eq
 rw [l_toBinding_eq]
 try simp only [TValue.re_eq, TObject.re_eq, THeap.re_eq, TBinding.re_eq, TGen.re_eq, TCursor.re_eq, TCoexpr.re_eq, TGenScope.re_eq, TFunction.re_eq, TRecordType.re_eq, TScope.re_eq, TFile.re_eq, TConsole.re_eq, TMemory.re_eq, TCallFrame.re_eq, TMachine.re_eq]
 rw [toValue_ok x.fValue (by omega)]
 simp only [Option.bind_some]
 try simp only [TBinding.eta, TValue.re_eq, TObject.re_eq, THeap.re_eq, TBinding.re_eq, TGen.re_eq, TCursor.re_eq, TCoexpr.re_eq, TGenScope.re_eq, TFunction.re_eq, TRecordType.re_eq, TScope.re_eq, TFile.re_eq, TConsole.re_eq, TMemory.re_eq, TCallFrame.re_eq, TMachine.re_eq]
theorem eqBinding_ok : ∀ x : TBinding, x.m ≤ 1048576 → l_eqBinding x x = some true := by
 intro x
 intro hm
 have hq := x.m_eq
 rw [l_eqBinding_eq]
 try simp only [TValue.re_eq, TObject.re_eq, THeap.re_eq, TBinding.re_eq, TGen.re_eq, TCursor.re_eq, TCoexpr.re_eq, TGenScope.re_eq, TFunction.re_eq, TRecordType.re_eq, TScope.re_eq, TFile.re_eq, TConsole.re_eq, TMemory.re_eq, TCallFrame.re_eq, TMachine.re_eq]
 rw [eqValue_ok x.fValue (by omega)]
 simp
theorem TGen.ind {P : TGen → Prop} (h : ∀ x, (∀ y ∈ x.fKids, P y) → P x) : ∀ x, P x := by
 intro x
 exact TGen.rec (motive_1 := P) (motive_2 := fun l => ∀ y ∈ l, P y) (fun a0 a1 a2 a3 a4 ih => h ⟨a0, a1, a2, a3, a4⟩ ih) (fun y hy => by cases hy)
  (fun a l ha hl y hy => by
   cases hy with
   | head => exact ha
   | tail _ hy => exact hl y hy) x
inductive TGen.Ok : TGen → Prop
 | mk (x : TGen) (h0 : (-9223372036854775808 ≤ x.fKind ∧ x.fKind ≤ 9223372036854775807) ∧ (-9223372036854775808 ≤ x.fNum ∧ x.fNum ≤ 9223372036854775807) ∧ x.fText.length ≤ 9223372036854775807 ∧ TValue.Ok x.fValue ∧ x.fKids.length ≤ 9223372036854775807) (h1 : ∀ y ∈ x.fKids, TGen.Ok y) : TGen.Ok x
theorem TGen.Ok.P_fText {x : TGen} (h : x.Ok) : x.fText.length ≤ 9223372036854775807 := by cases h with | mk _ h0 h1 => exact h0.2.2.1
theorem TGen.Ok.P_fValue {x : TGen} (h : x.Ok) : TValue.Ok x.fValue := by cases h with | mk _ h0 h1 => exact h0.2.2.2.1
theorem TGen.ok_cells : ∀ x : TGen, (∀ c ∈ GG.cells 32 x, ∀ k, WfV GG k c) → x.Ok := by
 intro x
 induction x using TGen.ind with
 | h x ih =>
  intro h
  have h : ∀ c ∈ ([.int .i64 x.fKind, .int .i64 x.fNum, .str x.fText, .int .i64 x.fValue.fKind, .int .i64 x.fValue.fNum, .str x.fValue.fText, .int .i64 x.fValue.fRef, .sl (.st 32) x.fKids] : List (V GG.S)), ∀ k, WfV GG k c := h
  have h_fValue : ∀ c ∈ ([.int .i64 x.fValue.fKind, .int .i64 x.fValue.fNum, .str x.fValue.fText, .int .i64 x.fValue.fRef] : List (V GG.S)), ∀ k, WfV GG k c := fun c hc => h c (by simp only [List.mem_cons, List.not_mem_nil, or_false] at hc ⊢; rcases hc with rfl | rfl | rfl | rfl <;> simp)
  exact .mk x ⟨wfv_int (h (.int .i64 x.fKind) (by simp) 1), wfv_int (h (.int .i64 x.fNum) (by simp) 1), wfv_str (h (.str x.fText) (by simp) 1), TValue.ok_cells _ h_fValue, (wfv_sl (h (.sl (.st 32) x.fKids) (by simp))).1⟩ fun y hy => ih y hy ((wfv_sl (h (.sl (.st 32) x.fKids) (by simp))).2 y hy)
theorem TGen.ok_of {x : TGen} (h : ∀ k, WfV GG k (inj GG (.st 32) x)) : x.Ok := TGen.ok_cells x (wfv_st h)
mutual
def TGen.m : TGen → Nat
 | ⟨_, _, a2, a3, a4⟩ => a2.length + TValue.m a3 + (a4.length + TGen.ms a4)
def TGen.ms : List TGen → Nat
 | [] => 0
 | y :: r => TGen.m y + TGen.ms r
end
theorem TGen.ms_eq : ∀ l, TGen.ms l = sumOf TGen.m l
 | [] => rfl
 | y :: r => by simp only [TGen.ms, sumOf, TGen.ms_eq r]
theorem TGen.m_eq (x : TGen) : x.m = x.fText.length + TValue.m x.fValue + (x.fKids.length + sumOf TGen.m x.fKids) := by
 rw [← TGen.ms_eq]; cases x; rfl
theorem TCursor.ind {P : TCursor → Prop} (h : ∀ x, (∀ y ∈ x.fKids, P y) → P x) : ∀ x, P x := by
 intro x
 exact TCursor.rec (motive_1 := P) (motive_2 := fun l => ∀ y ∈ l, P y) (fun a0 a1 a2 a3 ih => h ⟨a0, a1, a2, a3⟩ ih) (fun y hy => by cases hy)
  (fun a l ha hl y hy => by
   cases hy with
   | head => exact ha
   | tail _ hy => exact hl y hy) x
inductive TCursor.Ok : TCursor → Prop
 | mk (x : TCursor) (h0 : (-9223372036854775808 ≤ x.fPhase ∧ x.fPhase ≤ 9223372036854775807) ∧ (-9223372036854775808 ≤ x.fCount ∧ x.fCount ≤ 9223372036854775807) ∧ (x.fVals.length ≤ 9223372036854775807 ∧ ∀ y ∈ x.fVals, TValue.Ok y) ∧ x.fKids.length ≤ 9223372036854775807) (h1 : ∀ y ∈ x.fKids, TCursor.Ok y) : TCursor.Ok x
theorem TCursor.Ok.P_fVals {x : TCursor} (h : x.Ok) : (x.fVals.length ≤ 9223372036854775807 ∧ ∀ y ∈ x.fVals, TValue.Ok y) := by cases h with | mk _ h0 h1 => exact h0.2.2.1
theorem TCursor.ok_cells : ∀ x : TCursor, (∀ c ∈ GG.cells 36 x, ∀ k, WfV GG k c) → x.Ok := by
 intro x
 induction x using TCursor.ind with
 | h x ih =>
  intro h
  have h : ∀ c ∈ ([.int .i64 x.fPhase, .int .i64 x.fCount, .sl (.st 29) x.fVals, .sl (.st 36) x.fKids] : List (V GG.S)), ∀ k, WfV GG k c := h
  exact .mk x ⟨wfv_int (h (.int .i64 x.fPhase) (by simp) 1), wfv_int (h (.int .i64 x.fCount) (by simp) 1), ⟨(wfv_sl (h (.sl (.st 29) x.fVals) (by simp))).1, fun y hy => TValue.ok_cells y ((wfv_sl (h (.sl (.st 29) x.fVals) (by simp))).2 y hy)⟩, (wfv_sl (h (.sl (.st 36) x.fKids) (by simp))).1⟩ fun y hy => ih y hy ((wfv_sl (h (.sl (.st 36) x.fKids) (by simp))).2 y hy)
theorem TCursor.ok_of {x : TCursor} (h : ∀ k, WfV GG k (inj GG (.st 36) x)) : x.Ok := TCursor.ok_cells x (wfv_st h)
mutual
def TCursor.m : TCursor → Nat
 | ⟨_, _, a2, a3⟩ => (a2.length + sumOf TValue.m a2) + (a3.length + TCursor.ms a3)
def TCursor.ms : List TCursor → Nat
 | [] => 0
 | y :: r => TCursor.m y + TCursor.ms r
end
theorem TCursor.ms_eq : ∀ l, TCursor.ms l = sumOf TCursor.m l
 | [] => rfl
 | y :: r => by simp only [TCursor.ms, sumOf, TCursor.ms_eq r]
theorem TCursor.m_eq (x : TCursor) : x.m = (x.fVals.length + sumOf TValue.m x.fVals) + (x.fKids.length + sumOf TCursor.m x.fKids) := by
 rw [← TCursor.ms_eq]; cases x; rfl
structure TCoexpr.Ok (x : TCoexpr) : Prop where
 P_fId : (-9223372036854775808 ≤ x.fId ∧ x.fId ≤ 9223372036854775807)
 P_fBody : TGen.Ok x.fBody
 P_fStart : (x.fStart.length ≤ 9223372036854775807 ∧ ∀ y ∈ x.fStart, TBinding.Ok y)
 P_fVars : (x.fVars.length ≤ 9223372036854775807 ∧ ∀ y ∈ x.fVars, TBinding.Ok y)
 P_fCursor : TCursor.Ok x.fCursor
 P_fCount : (-9223372036854775808 ≤ x.fCount ∧ x.fCount ≤ 9223372036854775807)
theorem TCoexpr.ok_cells (x : TCoexpr) (h : ∀ c ∈ GG.cells 137 x, ∀ k, WfV GG k c) : x.Ok := by
 have h : ∀ c ∈ ([.int .i64 x.fId, .int .i64 x.fBody.fKind, .int .i64 x.fBody.fNum, .str x.fBody.fText, .int .i64 x.fBody.fValue.fKind, .int .i64 x.fBody.fValue.fNum, .str x.fBody.fValue.fText, .int .i64 x.fBody.fValue.fRef, .sl (.st 32) x.fBody.fKids, .sl (.st 162) x.fStart, .sl (.st 162) x.fVars, .int .i64 x.fCursor.fPhase, .int .i64 x.fCursor.fCount, .sl (.st 29) x.fCursor.fVals, .sl (.st 36) x.fCursor.fKids, .int .i64 x.fCount, .bool x.fDone] : List (V GG.S)), ∀ k, WfV GG k c := h
 have h_fBody : ∀ c ∈ ([.int .i64 x.fBody.fKind, .int .i64 x.fBody.fNum, .str x.fBody.fText, .int .i64 x.fBody.fValue.fKind, .int .i64 x.fBody.fValue.fNum, .str x.fBody.fValue.fText, .int .i64 x.fBody.fValue.fRef, .sl (.st 32) x.fBody.fKids] : List (V GG.S)), ∀ k, WfV GG k c := fun c hc => h c (by simp only [List.mem_cons, List.not_mem_nil, or_false] at hc ⊢; rcases hc with rfl | rfl | rfl | rfl | rfl | rfl | rfl | rfl <;> simp)
 have h_fCursor : ∀ c ∈ ([.int .i64 x.fCursor.fPhase, .int .i64 x.fCursor.fCount, .sl (.st 29) x.fCursor.fVals, .sl (.st 36) x.fCursor.fKids] : List (V GG.S)), ∀ k, WfV GG k c := fun c hc => h c (by simp only [List.mem_cons, List.not_mem_nil, or_false] at hc ⊢; rcases hc with rfl | rfl | rfl | rfl <;> simp)
 exact ⟨wfv_int (h (.int .i64 x.fId) (by simp) 1), TGen.ok_cells _ h_fBody, ⟨(wfv_sl (h (.sl (.st 162) x.fStart) (by simp))).1, fun y hy => TBinding.ok_cells y ((wfv_sl (h (.sl (.st 162) x.fStart) (by simp))).2 y hy)⟩, ⟨(wfv_sl (h (.sl (.st 162) x.fVars) (by simp))).1, fun y hy => TBinding.ok_cells y ((wfv_sl (h (.sl (.st 162) x.fVars) (by simp))).2 y hy)⟩, TCursor.ok_cells _ h_fCursor, wfv_int (h (.int .i64 x.fCount) (by simp) 1)⟩
theorem TCoexpr.ok_of {x : TCoexpr} (h : ∀ k, WfV GG k (inj GG (.st 137) x)) : x.Ok := TCoexpr.ok_cells x (wfv_st h)
theorem szBindingS_of {xs : (List TBinding)} (hx : xs.length ≤ 9223372036854775807)
  (hF : ∀ y ∈ xs, ∀ b : Int, 0 ≤ b → b < 4611686018427387904 → l_szBinding y b = some (minus b (TBinding.m y))) {b : Int} (h0 : 0 ≤ b) (h1 : b < 4611686018427387904) :
  l_szBindingS xs b = some (minus b (xs.length + sumOf TBinding.m xs)) := by
 rw [l_szBindingS_eq]
 obtain ⟨e1, e2⟩ := minus_len (l := xs) h0 h1 hx
 by_cases c : minus b xs.length < 0
 ·simp only [e1.2 c, decide_true, if_true, minus_neg c]
 ·rw [if_neg (by simpa using fun h => c (e1.1 h)), e2 c, sz_loop hx (J := l_szBindingS_L5) (F := l_szBinding) (m := TBinding.m) (fun b i => by rw [l_szBindingS_L5_eq]; try simp only [TValue.re_eq, TObject.re_eq, THeap.re_eq, TBinding.re_eq, TGen.re_eq, TCursor.re_eq, TCoexpr.re_eq, TGenScope.re_eq, TFunction.re_eq, TRecordType.re_eq, TScope.re_eq, TFile.re_eq, TConsole.re_eq, TMemory.re_eq, TCallFrame.re_eq, TMachine.re_eq]) hF _ (minus_nonneg c) (minus_lt (by omega) h1), minus_minus c]
theorem eqBindingS_of {xs : (List TBinding)} (hx : xs.length ≤ 9223372036854775807) (hF : ∀ y ∈ xs, l_eqBinding y y = some true) : l_eqBindingS xs xs = some true := by
 rw [l_eqBindingS_eq]
 simp only [bne_self_eq_false, Bool.false_eq_true, if_false]
 exact eq_loop (by omega) (J := l_eqBindingS_L4) (F := l_eqBinding) (fun i => by rw [l_eqBindingS_L4_eq]; try simp only [TValue.re_eq, TObject.re_eq, THeap.re_eq, TBinding.re_eq, TGen.re_eq, TCursor.re_eq, TCoexpr.re_eq, TGenScope.re_eq, TFunction.re_eq, TRecordType.re_eq, TScope.re_eq, TFile.re_eq, TConsole.re_eq, TMemory.re_eq, TCallFrame.re_eq, TMachine.re_eq]) hF
def TCoexpr.m (x : TCoexpr) : Nat := TGen.m x.fBody + (x.fStart.length + sumOf TBinding.m x.fStart) + (x.fVars.length + sumOf TBinding.m x.fVars) + TCursor.m x.fCursor
theorem TCoexpr.m_eq (x : TCoexpr) : x.m = TGen.m x.fBody + (x.fStart.length + sumOf TBinding.m x.fStart) + (x.fVars.length + sumOf TBinding.m x.fVars) + TCursor.m x.fCursor := rfl
structure TGenScope.Ok (x : TGenScope) : Prop where
 P_fVars : (x.fVars.length ≤ 9223372036854775807 ∧ ∀ y ∈ x.fVars, TBinding.Ok y)
 P_fHeap : THeap.Ok x.fHeap
 P_fCos : (x.fCos.length ≤ 9223372036854775807 ∧ ∀ y ∈ x.fCos, TCoexpr.Ok y)
 P_fSteps : (-9223372036854775808 ≤ x.fSteps ∧ x.fSteps ≤ 9223372036854775807)
theorem TGenScope.ok_cells (x : TGenScope) (h : ∀ c ∈ GG.cells 27 x, ∀ k, WfV GG k c) : x.Ok := by
 have h : ∀ c ∈ ([.sl (.st 162) x.fVars, .int .i64 x.fHeap.fNext, .sl (.st 199) x.fHeap.fObjects, .sl (.st 137) x.fCos, .int .i64 x.fSteps] : List (V GG.S)), ∀ k, WfV GG k c := h
 have h_fHeap : ∀ c ∈ ([.int .i64 x.fHeap.fNext, .sl (.st 199) x.fHeap.fObjects] : List (V GG.S)), ∀ k, WfV GG k c := fun c hc => h c (by simp only [List.mem_cons, List.not_mem_nil, or_false] at hc ⊢; rcases hc with rfl | rfl <;> simp)
 exact ⟨⟨(wfv_sl (h (.sl (.st 162) x.fVars) (by simp))).1, fun y hy => TBinding.ok_cells y ((wfv_sl (h (.sl (.st 162) x.fVars) (by simp))).2 y hy)⟩, THeap.ok_cells _ h_fHeap, ⟨(wfv_sl (h (.sl (.st 137) x.fCos) (by simp))).1, fun y hy => TCoexpr.ok_cells y ((wfv_sl (h (.sl (.st 137) x.fCos) (by simp))).2 y hy)⟩, wfv_int (h (.int .i64 x.fSteps) (by simp) 1)⟩
theorem TGenScope.ok_of {x : TGenScope} (h : ∀ k, WfV GG k (inj GG (.st 27) x)) : x.Ok := TGenScope.ok_cells x (wfv_st h)
def TGenScope.m (x : TGenScope) : Nat := (x.fVars.length + sumOf TBinding.m x.fVars) + THeap.m x.fHeap + (x.fCos.length + sumOf TCoexpr.m x.fCos)
theorem TGenScope.m_eq (x : TGenScope) : x.m = (x.fVars.length + sumOf TBinding.m x.fVars) + THeap.m x.fHeap + (x.fCos.length + sumOf TCoexpr.m x.fCos) := rfl
structure TFunction.Ok (x : TFunction) : Prop where
 P_fName : x.fName.length ≤ 9223372036854775807
 P_fParams : (x.fParams.length ≤ 9223372036854775807 ∧ ∀ y ∈ x.fParams, y.length ≤ 9223372036854775807)
 P_fLocals : (x.fLocals.length ≤ 9223372036854775807 ∧ ∀ y ∈ x.fLocals, y.length ≤ 9223372036854775807)
 P_fLabel : x.fLabel.length ≤ 9223372036854775807
theorem TFunction.ok_cells (x : TFunction) (h : ∀ c ∈ GG.cells 212 x, ∀ k, WfV GG k c) : x.Ok := by
 have h : ∀ c ∈ ([.str x.fName, .sl .str x.fParams, .sl .str x.fLocals, .str x.fLabel] : List (V GG.S)), ∀ k, WfV GG k c := h
 exact ⟨wfv_str (h (.str x.fName) (by simp) 1), ⟨(wfv_sl (h (.sl .str x.fParams) (by simp))).1, fun y hy => wfv_str ((wfv_sl (h (.sl .str x.fParams) (by simp))).2 y hy (.str y) (by simp [Ty.cells, inj]) 1)⟩, ⟨(wfv_sl (h (.sl .str x.fLocals) (by simp))).1, fun y hy => wfv_str ((wfv_sl (h (.sl .str x.fLocals) (by simp))).2 y hy (.str y) (by simp [Ty.cells, inj]) 1)⟩, wfv_str (h (.str x.fLabel) (by simp) 1)⟩
theorem TFunction.ok_of {x : TFunction} (h : ∀ k, WfV GG k (inj GG (.st 212) x)) : x.Ok := TFunction.ok_cells x (wfv_st h)
theorem szStringS_of {xs : (List (List UInt8))} (hx : xs.length ≤ 9223372036854775807)
  (hF : ∀ y ∈ xs, y.length ≤ 9223372036854775807) {b : Int} (h0 : 0 ≤ b) (h1 : b < 4611686018427387904) :
  l_szStringS xs b = some (minus b (xs.length + sumOf List.length xs)) := by
 rw [l_szStringS_eq]
 obtain ⟨e1, e2⟩ := minus_len (l := xs) h0 h1 hx
 by_cases c : minus b xs.length < 0
 ·simp only [e1.2 c, decide_true, if_true, minus_neg c]
 ·rw [if_neg (by simpa using fun h => c (e1.1 h)), e2 c, sz_loop_str hx (J := l_szStringS_L5) (fun b i => by rw [l_szStringS_L5_eq]) hF _ (minus_nonneg c) (minus_lt (by omega) h1), minus_minus c]
theorem eqStringS_of {xs : (List (List UInt8))} (hx : xs.length ≤ 9223372036854775807) : l_eqStringS xs xs = some true := by
 rw [l_eqStringS_eq]
 simp only [bne_self_eq_false, Bool.false_eq_true, if_false]
 exact eq_loop0 (by omega) (J := l_eqStringS_L4) (fun i => by rw [l_eqStringS_L4_eq]) (fun y => by simp)
def TFunction.m (x : TFunction) : Nat := x.fName.length + (x.fParams.length + sumOf List.length x.fParams) + (x.fLocals.length + sumOf List.length x.fLocals) + x.fLabel.length
theorem TFunction.m_eq (x : TFunction) : x.m = x.fName.length + (x.fParams.length + sumOf List.length x.fParams) + (x.fLocals.length + sumOf List.length x.fLocals) + x.fLabel.length := rfl
theorem szFunction_ok : ∀ x : TFunction, x.Ok → ∀ b : Int, 0 ≤ b → b < 4611686018427387904 → l_szFunction x b = some (minus b x.m) := by
 intro x
 intro hok b h0 h1
 rw [l_szFunction_eq]
 try simp only [TValue.re_eq, TObject.re_eq, THeap.re_eq, TBinding.re_eq, TGen.re_eq, TCursor.re_eq, TCoexpr.re_eq, TGenScope.re_eq, TFunction.re_eq, TRecordType.re_eq, TScope.re_eq, TFile.re_eq, TConsole.re_eq, TMemory.re_eq, TCallFrame.re_eq, TMachine.re_eq]
 -- fName
 obtain ⟨e1, e2⟩ := minus_len (b := b) (l := x.fName) h0 h1 hok.P_fName
 by_cases c0 : minus b (x.fName.length) < 0
 ·simp only [e1.2 c0, decide_true, if_true]
  rw [minus_neg_le c0 (by rw [TFunction.m_eq]; omega)]
 have e3 := mt e1.1 c0
 simp only [e3, e2 c0, c0, decide_false, Bool.false_eq_true, if_false]
 -- fParams
 rw [szStringS_of hok.P_fParams.1 hok.P_fParams.2 (minus_nonneg c0) (minus_lt (by omega) h1)]
 simp only [Option.bind_some]
 simp only [minus_minus c0]
 by_cases c1 : minus b (x.fName.length + (x.fParams.length + sumOf List.length x.fParams)) < 0
 ·simp only [c1, decide_true, if_true]
  rw [minus_neg_le c1 (by rw [TFunction.m_eq]; omega)]
 simp only [c1, decide_false, Bool.false_eq_true, if_false]
 -- fLocals
 rw [szStringS_of hok.P_fLocals.1 hok.P_fLocals.2 (minus_nonneg c1) (minus_lt (by omega) h1)]
 simp only [Option.bind_some]
 simp only [minus_minus c1]
 by_cases c2 : minus b (x.fName.length + (x.fParams.length + sumOf List.length x.fParams) + (x.fLocals.length + sumOf List.length x.fLocals)) < 0
 ·simp only [c2, decide_true, if_true]
  rw [minus_neg_le c2 (by rw [TFunction.m_eq]; omega)]
 simp only [c2, decide_false, Bool.false_eq_true, if_false]
 -- fLabel
 obtain ⟨e1, e2⟩ := minus_len (b := (minus b (x.fName.length + (x.fParams.length + sumOf List.length x.fParams) + (x.fLocals.length + sumOf List.length x.fLocals)))) (l := x.fLabel) (minus_nonneg c2) (minus_lt (by omega) h1) hok.P_fLabel
 rw [minus_minus c2] at e1 e2
 by_cases c3 : minus b (x.fName.length + (x.fParams.length + sumOf List.length x.fParams) + (x.fLocals.length + sumOf List.length x.fLocals) + x.fLabel.length) < 0
 ·simp only [e1.2 c3, decide_true, if_true]
  rw [minus_neg_le c3 (by rw [TFunction.m_eq]; omega)]
 have e3 := mt e1.1 c3
 simp only [e3, e2 c3, c3, decide_false, Bool.false_eq_true, if_false]
 try rw [TFunction.m_eq]
theorem eqFunction_ok : ∀ x : TFunction, x.m ≤ 1048576 → l_eqFunction x x = some true := by
 intro x
 intro hm
 have hq := x.m_eq
 rw [l_eqFunction_eq]
 try simp only [TValue.re_eq, TObject.re_eq, THeap.re_eq, TBinding.re_eq, TGen.re_eq, TCursor.re_eq, TCoexpr.re_eq, TGenScope.re_eq, TFunction.re_eq, TRecordType.re_eq, TScope.re_eq, TFile.re_eq, TConsole.re_eq, TMemory.re_eq, TCallFrame.re_eq, TMachine.re_eq]
 rw [eqStringS_of (xs := x.fParams) (by omega)]
 rw [eqStringS_of (xs := x.fLocals) (by omega)]
 simp
structure TRecordType.Ok (x : TRecordType) : Prop where
 P_fName : x.fName.length ≤ 9223372036854775807
 P_fFields : (x.fFields.length ≤ 9223372036854775807 ∧ ∀ y ∈ x.fFields, y.length ≤ 9223372036854775807)
theorem TRecordType.ok_cells (x : TRecordType) (h : ∀ c ∈ GG.cells 215 x, ∀ k, WfV GG k c) : x.Ok := by
 have h : ∀ c ∈ ([.str x.fName, .sl .str x.fFields] : List (V GG.S)), ∀ k, WfV GG k c := h
 exact ⟨wfv_str (h (.str x.fName) (by simp) 1), ⟨(wfv_sl (h (.sl .str x.fFields) (by simp))).1, fun y hy => wfv_str ((wfv_sl (h (.sl .str x.fFields) (by simp))).2 y hy (.str y) (by simp [Ty.cells, inj]) 1)⟩⟩
theorem TRecordType.ok_of {x : TRecordType} (h : ∀ k, WfV GG k (inj GG (.st 215) x)) : x.Ok := TRecordType.ok_cells x (wfv_st h)
def TRecordType.m (x : TRecordType) : Nat := x.fName.length + (x.fFields.length + sumOf List.length x.fFields)
theorem TRecordType.m_eq (x : TRecordType) : x.m = x.fName.length + (x.fFields.length + sumOf List.length x.fFields) := rfl
theorem szRecordType_ok : ∀ x : TRecordType, x.Ok → ∀ b : Int, 0 ≤ b → b < 4611686018427387904 → l_szRecordType x b = some (minus b x.m) := by
 intro x
 intro hok b h0 h1
 rw [l_szRecordType_eq]
 try simp only [TValue.re_eq, TObject.re_eq, THeap.re_eq, TBinding.re_eq, TGen.re_eq, TCursor.re_eq, TCoexpr.re_eq, TGenScope.re_eq, TFunction.re_eq, TRecordType.re_eq, TScope.re_eq, TFile.re_eq, TConsole.re_eq, TMemory.re_eq, TCallFrame.re_eq, TMachine.re_eq]
 -- fName
 obtain ⟨e1, e2⟩ := minus_len (b := b) (l := x.fName) h0 h1 hok.P_fName
 by_cases c0 : minus b (x.fName.length) < 0
 ·simp only [e1.2 c0, decide_true, if_true]
  rw [minus_neg_le c0 (by rw [TRecordType.m_eq]; omega)]
 have e3 := mt e1.1 c0
 simp only [e3, e2 c0, c0, decide_false, Bool.false_eq_true, if_false]
 -- fFields
 rw [szStringS_of hok.P_fFields.1 hok.P_fFields.2 (minus_nonneg c0) (minus_lt (by omega) h1)]
 simp only [Option.bind_some]
 simp only [minus_minus c0]
 by_cases c1 : minus b (x.fName.length + (x.fFields.length + sumOf List.length x.fFields)) < 0
 ·simp only [c1, decide_true, if_true]
  rw [minus_neg_le c1 (by rw [TRecordType.m_eq]; omega)]
 simp only [c1, decide_false, Bool.false_eq_true, if_false]
 try rw [TRecordType.m_eq]
theorem eqRecordType_ok : ∀ x : TRecordType, x.m ≤ 1048576 → l_eqRecordType x x = some true := by
 intro x
 intro hm
 have hq := x.m_eq
 rw [l_eqRecordType_eq]
 try simp only [TValue.re_eq, TObject.re_eq, THeap.re_eq, TBinding.re_eq, TGen.re_eq, TCursor.re_eq, TCoexpr.re_eq, TGenScope.re_eq, TFunction.re_eq, TRecordType.re_eq, TScope.re_eq, TFile.re_eq, TConsole.re_eq, TMemory.re_eq, TCallFrame.re_eq, TMachine.re_eq]
 rw [eqStringS_of (xs := x.fFields) (by omega)]
 simp
structure TScope.Ok (x : TScope) : Prop where
 P_fVars : (x.fVars.length ≤ 9223372036854775807 ∧ ∀ y ∈ x.fVars, TBinding.Ok y)
 P_fFunctions : (x.fFunctions.length ≤ 9223372036854775807 ∧ ∀ y ∈ x.fFunctions, TFunction.Ok y)
 P_fTypes : (x.fTypes.length ≤ 9223372036854775807 ∧ ∀ y ∈ x.fTypes, TRecordType.Ok y)
theorem TScope.ok_cells (x : TScope) (h : ∀ c ∈ GG.cells 68 x, ∀ k, WfV GG k c) : x.Ok := by
 have h : ∀ c ∈ ([.sl (.st 162) x.fVars, .sl (.st 212) x.fFunctions, .sl (.st 215) x.fTypes] : List (V GG.S)), ∀ k, WfV GG k c := h
 exact ⟨⟨(wfv_sl (h (.sl (.st 162) x.fVars) (by simp))).1, fun y hy => TBinding.ok_cells y ((wfv_sl (h (.sl (.st 162) x.fVars) (by simp))).2 y hy)⟩, ⟨(wfv_sl (h (.sl (.st 212) x.fFunctions) (by simp))).1, fun y hy => TFunction.ok_cells y ((wfv_sl (h (.sl (.st 212) x.fFunctions) (by simp))).2 y hy)⟩, ⟨(wfv_sl (h (.sl (.st 215) x.fTypes) (by simp))).1, fun y hy => TRecordType.ok_cells y ((wfv_sl (h (.sl (.st 215) x.fTypes) (by simp))).2 y hy)⟩⟩
theorem TScope.ok_of {x : TScope} (h : ∀ k, WfV GG k (inj GG (.st 68) x)) : x.Ok := TScope.ok_cells x (wfv_st h)
theorem szFunctionS_of {xs : (List TFunction)} (hx : xs.length ≤ 9223372036854775807)
  (hF : ∀ y ∈ xs, ∀ b : Int, 0 ≤ b → b < 4611686018427387904 → l_szFunction y b = some (minus b (TFunction.m y))) {b : Int} (h0 : 0 ≤ b) (h1 : b < 4611686018427387904) :
  l_szFunctionS xs b = some (minus b (xs.length + sumOf TFunction.m xs)) := by
 rw [l_szFunctionS_eq]
 obtain ⟨e1, e2⟩ := minus_len (l := xs) h0 h1 hx
 by_cases c : minus b xs.length < 0
 ·simp only [e1.2 c, decide_true, if_true, minus_neg c]
 ·rw [if_neg (by simpa using fun h => c (e1.1 h)), e2 c, sz_loop hx (J := l_szFunctionS_L5) (F := l_szFunction) (m := TFunction.m) (fun b i => by rw [l_szFunctionS_L5_eq]; try simp only [TValue.re_eq, TObject.re_eq, THeap.re_eq, TBinding.re_eq, TGen.re_eq, TCursor.re_eq, TCoexpr.re_eq, TGenScope.re_eq, TFunction.re_eq, TRecordType.re_eq, TScope.re_eq, TFile.re_eq, TConsole.re_eq, TMemory.re_eq, TCallFrame.re_eq, TMachine.re_eq]) hF _ (minus_nonneg c) (minus_lt (by omega) h1), minus_minus c]
theorem eqFunctionS_of {xs : (List TFunction)} (hx : xs.length ≤ 9223372036854775807) (hF : ∀ y ∈ xs, l_eqFunction y y = some true) : l_eqFunctionS xs xs = some true := by
 rw [l_eqFunctionS_eq]
 simp only [bne_self_eq_false, Bool.false_eq_true, if_false]
 exact eq_loop (by omega) (J := l_eqFunctionS_L4) (F := l_eqFunction) (fun i => by rw [l_eqFunctionS_L4_eq]; try simp only [TValue.re_eq, TObject.re_eq, THeap.re_eq, TBinding.re_eq, TGen.re_eq, TCursor.re_eq, TCoexpr.re_eq, TGenScope.re_eq, TFunction.re_eq, TRecordType.re_eq, TScope.re_eq, TFile.re_eq, TConsole.re_eq, TMemory.re_eq, TCallFrame.re_eq, TMachine.re_eq]) hF
theorem szRecordTypeS_of {xs : (List TRecordType)} (hx : xs.length ≤ 9223372036854775807)
  (hF : ∀ y ∈ xs, ∀ b : Int, 0 ≤ b → b < 4611686018427387904 → l_szRecordType y b = some (minus b (TRecordType.m y))) {b : Int} (h0 : 0 ≤ b) (h1 : b < 4611686018427387904) :
  l_szRecordTypeS xs b = some (minus b (xs.length + sumOf TRecordType.m xs)) := by
 rw [l_szRecordTypeS_eq]
 obtain ⟨e1, e2⟩ := minus_len (l := xs) h0 h1 hx
 by_cases c : minus b xs.length < 0
 ·simp only [e1.2 c, decide_true, if_true, minus_neg c]
 ·rw [if_neg (by simpa using fun h => c (e1.1 h)), e2 c, sz_loop hx (J := l_szRecordTypeS_L5) (F := l_szRecordType) (m := TRecordType.m) (fun b i => by rw [l_szRecordTypeS_L5_eq]; try simp only [TValue.re_eq, TObject.re_eq, THeap.re_eq, TBinding.re_eq, TGen.re_eq, TCursor.re_eq, TCoexpr.re_eq, TGenScope.re_eq, TFunction.re_eq, TRecordType.re_eq, TScope.re_eq, TFile.re_eq, TConsole.re_eq, TMemory.re_eq, TCallFrame.re_eq, TMachine.re_eq]) hF _ (minus_nonneg c) (minus_lt (by omega) h1), minus_minus c]
theorem eqRecordTypeS_of {xs : (List TRecordType)} (hx : xs.length ≤ 9223372036854775807) (hF : ∀ y ∈ xs, l_eqRecordType y y = some true) : l_eqRecordTypeS xs xs = some true := by
 rw [l_eqRecordTypeS_eq]
 simp only [bne_self_eq_false, Bool.false_eq_true, if_false]
 exact eq_loop (by omega) (J := l_eqRecordTypeS_L4) (F := l_eqRecordType) (fun i => by rw [l_eqRecordTypeS_L4_eq]; try simp only [TValue.re_eq, TObject.re_eq, THeap.re_eq, TBinding.re_eq, TGen.re_eq, TCursor.re_eq, TCoexpr.re_eq, TGenScope.re_eq, TFunction.re_eq, TRecordType.re_eq, TScope.re_eq, TFile.re_eq, TConsole.re_eq, TMemory.re_eq, TCallFrame.re_eq, TMachine.re_eq]) hF
def TScope.m (x : TScope) : Nat := (x.fVars.length + sumOf TBinding.m x.fVars) + (x.fFunctions.length + sumOf TFunction.m x.fFunctions) + (x.fTypes.length + sumOf TRecordType.m x.fTypes)
theorem TScope.m_eq (x : TScope) : x.m = (x.fVars.length + sumOf TBinding.m x.fVars) + (x.fFunctions.length + sumOf TFunction.m x.fFunctions) + (x.fTypes.length + sumOf TRecordType.m x.fTypes) := rfl
theorem szScope_ok : ∀ x : TScope, x.Ok → ∀ b : Int, 0 ≤ b → b < 4611686018427387904 → l_szScope x b = some (minus b x.m) := by
 intro x
 intro hok b h0 h1
 rw [l_szScope_eq]
 try simp only [TValue.re_eq, TObject.re_eq, THeap.re_eq, TBinding.re_eq, TGen.re_eq, TCursor.re_eq, TCoexpr.re_eq, TGenScope.re_eq, TFunction.re_eq, TRecordType.re_eq, TScope.re_eq, TFile.re_eq, TConsole.re_eq, TMemory.re_eq, TCallFrame.re_eq, TMachine.re_eq]
 -- fVars
 rw [szBindingS_of hok.P_fVars.1 (fun y hy b h0 h1 => szBinding_ok y (hok.P_fVars.2 y hy) b h0 h1) h0 h1]
 simp only [Option.bind_some]
 by_cases c0 : minus b ((x.fVars.length + sumOf TBinding.m x.fVars)) < 0
 ·simp only [c0, decide_true, if_true]
  rw [minus_neg_le c0 (by rw [TScope.m_eq]; omega)]
 simp only [c0, decide_false, Bool.false_eq_true, if_false]
 -- fFunctions
 rw [szFunctionS_of hok.P_fFunctions.1 (fun y hy b h0 h1 => szFunction_ok y (hok.P_fFunctions.2 y hy) b h0 h1) (minus_nonneg c0) (minus_lt (by omega) h1)]
 simp only [Option.bind_some]
 simp only [minus_minus c0]
 by_cases c1 : minus b ((x.fVars.length + sumOf TBinding.m x.fVars) + (x.fFunctions.length + sumOf TFunction.m x.fFunctions)) < 0
 ·simp only [c1, decide_true, if_true]
  rw [minus_neg_le c1 (by rw [TScope.m_eq]; omega)]
 simp only [c1, decide_false, Bool.false_eq_true, if_false]
 -- fTypes
 rw [szRecordTypeS_of hok.P_fTypes.1 (fun y hy b h0 h1 => szRecordType_ok y (hok.P_fTypes.2 y hy) b h0 h1) (minus_nonneg c1) (minus_lt (by omega) h1)]
 simp only [Option.bind_some]
 simp only [minus_minus c1]
 by_cases c2 : minus b ((x.fVars.length + sumOf TBinding.m x.fVars) + (x.fFunctions.length + sumOf TFunction.m x.fFunctions) + (x.fTypes.length + sumOf TRecordType.m x.fTypes)) < 0
 ·simp only [c2, decide_true, if_true]
  rw [minus_neg_le c2 (by rw [TScope.m_eq]; omega)]
 simp only [c2, decide_false, Bool.false_eq_true, if_false]
 try rw [TScope.m_eq]
theorem eqScope_ok : ∀ x : TScope, x.m ≤ 1048576 → l_eqScope x x = some true := by
 intro x
 intro hm
 have hq := x.m_eq
 rw [l_eqScope_eq]
 try simp only [TValue.re_eq, TObject.re_eq, THeap.re_eq, TBinding.re_eq, TGen.re_eq, TCursor.re_eq, TCoexpr.re_eq, TGenScope.re_eq, TFunction.re_eq, TRecordType.re_eq, TScope.re_eq, TFile.re_eq, TConsole.re_eq, TMemory.re_eq, TCallFrame.re_eq, TMachine.re_eq]
 rw [eqBindingS_of (xs := x.fVars) (by omega) fun y hy => eqBinding_ok y (by have := sumOf_mem (m := TBinding.m) hy; omega)]
 rw [eqFunctionS_of (xs := x.fFunctions) (by omega) fun y hy => eqFunction_ok y (by have := sumOf_mem (m := TFunction.m) hy; omega)]
 rw [eqRecordTypeS_of (xs := x.fTypes) (by omega) fun y hy => eqRecordType_ok y (by have := sumOf_mem (m := TRecordType.m) hy; omega)]
 simp
structure TFile.Ok (x : TFile) : Prop where
 P_fName : x.fName.length ≤ 9223372036854775807
 P_fLines : (x.fLines.length ≤ 9223372036854775807 ∧ ∀ y ∈ x.fLines, y.length ≤ 9223372036854775807)
 P_fMode : (-9223372036854775808 ≤ x.fMode ∧ x.fMode ≤ 9223372036854775807)
 P_fAt : (-9223372036854775808 ≤ x.fAt ∧ x.fAt ≤ 9223372036854775807)
theorem TFile.ok_cells (x : TFile) (h : ∀ c ∈ GG.cells 232 x, ∀ k, WfV GG k c) : x.Ok := by
 have h : ∀ c ∈ ([.str x.fName, .sl .str x.fLines, .int .i64 x.fMode, .int .i64 x.fAt] : List (V GG.S)), ∀ k, WfV GG k c := h
 exact ⟨wfv_str (h (.str x.fName) (by simp) 1), ⟨(wfv_sl (h (.sl .str x.fLines) (by simp))).1, fun y hy => wfv_str ((wfv_sl (h (.sl .str x.fLines) (by simp))).2 y hy (.str y) (by simp [Ty.cells, inj]) 1)⟩, wfv_int (h (.int .i64 x.fMode) (by simp) 1), wfv_int (h (.int .i64 x.fAt) (by simp) 1)⟩
theorem TFile.ok_of {x : TFile} (h : ∀ k, WfV GG k (inj GG (.st 232) x)) : x.Ok := TFile.ok_cells x (wfv_st h)
def TFile.m (x : TFile) : Nat := x.fName.length + (x.fLines.length + sumOf List.length x.fLines)
theorem TFile.m_eq (x : TFile) : x.m = x.fName.length + (x.fLines.length + sumOf List.length x.fLines) := rfl
theorem szFile_ok : ∀ x : TFile, x.Ok → ∀ b : Int, 0 ≤ b → b < 4611686018427387904 → l_szFile x b = some (minus b x.m) := by
 intro x
 intro hok b h0 h1
 rw [l_szFile_eq]
 try simp only [TValue.re_eq, TObject.re_eq, THeap.re_eq, TBinding.re_eq, TGen.re_eq, TCursor.re_eq, TCoexpr.re_eq, TGenScope.re_eq, TFunction.re_eq, TRecordType.re_eq, TScope.re_eq, TFile.re_eq, TConsole.re_eq, TMemory.re_eq, TCallFrame.re_eq, TMachine.re_eq]
 -- fName
 obtain ⟨e1, e2⟩ := minus_len (b := b) (l := x.fName) h0 h1 hok.P_fName
 by_cases c0 : minus b (x.fName.length) < 0
 ·simp only [e1.2 c0, decide_true, if_true]
  rw [minus_neg_le c0 (by rw [TFile.m_eq]; omega)]
 have e3 := mt e1.1 c0
 simp only [e3, e2 c0, c0, decide_false, Bool.false_eq_true, if_false]
 -- fLines
 rw [szStringS_of hok.P_fLines.1 hok.P_fLines.2 (minus_nonneg c0) (minus_lt (by omega) h1)]
 simp only [Option.bind_some]
 simp only [minus_minus c0]
 by_cases c1 : minus b (x.fName.length + (x.fLines.length + sumOf List.length x.fLines)) < 0
 ·simp only [c1, decide_true, if_true]
  rw [minus_neg_le c1 (by rw [TFile.m_eq]; omega)]
 simp only [c1, decide_false, Bool.false_eq_true, if_false]
 try rw [TFile.m_eq]
theorem eqFile_ok : ∀ x : TFile, x.m ≤ 1048576 → l_eqFile x x = some true := by
 intro x
 intro hm
 have hq := x.m_eq
 rw [l_eqFile_eq]
 try simp only [TValue.re_eq, TObject.re_eq, THeap.re_eq, TBinding.re_eq, TGen.re_eq, TCursor.re_eq, TCoexpr.re_eq, TGenScope.re_eq, TFunction.re_eq, TRecordType.re_eq, TScope.re_eq, TFile.re_eq, TConsole.re_eq, TMemory.re_eq, TCallFrame.re_eq, TMachine.re_eq]
 rw [eqStringS_of (xs := x.fLines) (by omega)]
 simp
structure TConsole.Ok (x : TConsole) : Prop where
 P_fInput : (x.fInput.length ≤ 9223372036854775807 ∧ ∀ y ∈ x.fInput, y.length ≤ 9223372036854775807)
 P_fAt : (-9223372036854775808 ≤ x.fAt ∧ x.fAt ≤ 9223372036854775807)
 P_fOutput : (x.fOutput.length ≤ 9223372036854775807 ∧ ∀ y ∈ x.fOutput, y.length ≤ 9223372036854775807)
 P_fFiles : (x.fFiles.length ≤ 9223372036854775807 ∧ ∀ y ∈ x.fFiles, TFile.Ok y)
 P_fTrace : (x.fTrace.length ≤ 9223372036854775807 ∧ ∀ y ∈ x.fTrace, y.length ≤ 9223372036854775807)
theorem TConsole.ok_cells (x : TConsole) (h : ∀ c ∈ GG.cells 72 x, ∀ k, WfV GG k c) : x.Ok := by
 have h : ∀ c ∈ ([.sl .str x.fInput, .int .i64 x.fAt, .sl .str x.fOutput, .sl (.st 232) x.fFiles, .sl .str x.fTrace] : List (V GG.S)), ∀ k, WfV GG k c := h
 exact ⟨⟨(wfv_sl (h (.sl .str x.fInput) (by simp))).1, fun y hy => wfv_str ((wfv_sl (h (.sl .str x.fInput) (by simp))).2 y hy (.str y) (by simp [Ty.cells, inj]) 1)⟩, wfv_int (h (.int .i64 x.fAt) (by simp) 1), ⟨(wfv_sl (h (.sl .str x.fOutput) (by simp))).1, fun y hy => wfv_str ((wfv_sl (h (.sl .str x.fOutput) (by simp))).2 y hy (.str y) (by simp [Ty.cells, inj]) 1)⟩, ⟨(wfv_sl (h (.sl (.st 232) x.fFiles) (by simp))).1, fun y hy => TFile.ok_cells y ((wfv_sl (h (.sl (.st 232) x.fFiles) (by simp))).2 y hy)⟩, ⟨(wfv_sl (h (.sl .str x.fTrace) (by simp))).1, fun y hy => wfv_str ((wfv_sl (h (.sl .str x.fTrace) (by simp))).2 y hy (.str y) (by simp [Ty.cells, inj]) 1)⟩⟩
theorem TConsole.ok_of {x : TConsole} (h : ∀ k, WfV GG k (inj GG (.st 72) x)) : x.Ok := TConsole.ok_cells x (wfv_st h)
theorem szFileS_of {xs : (List TFile)} (hx : xs.length ≤ 9223372036854775807)
  (hF : ∀ y ∈ xs, ∀ b : Int, 0 ≤ b → b < 4611686018427387904 → l_szFile y b = some (minus b (TFile.m y))) {b : Int} (h0 : 0 ≤ b) (h1 : b < 4611686018427387904) :
  l_szFileS xs b = some (minus b (xs.length + sumOf TFile.m xs)) := by
 rw [l_szFileS_eq]
 obtain ⟨e1, e2⟩ := minus_len (l := xs) h0 h1 hx
 by_cases c : minus b xs.length < 0
 ·simp only [e1.2 c, decide_true, if_true, minus_neg c]
 ·rw [if_neg (by simpa using fun h => c (e1.1 h)), e2 c, sz_loop hx (J := l_szFileS_L5) (F := l_szFile) (m := TFile.m) (fun b i => by rw [l_szFileS_L5_eq]; try simp only [TValue.re_eq, TObject.re_eq, THeap.re_eq, TBinding.re_eq, TGen.re_eq, TCursor.re_eq, TCoexpr.re_eq, TGenScope.re_eq, TFunction.re_eq, TRecordType.re_eq, TScope.re_eq, TFile.re_eq, TConsole.re_eq, TMemory.re_eq, TCallFrame.re_eq, TMachine.re_eq]) hF _ (minus_nonneg c) (minus_lt (by omega) h1), minus_minus c]
theorem eqFileS_of {xs : (List TFile)} (hx : xs.length ≤ 9223372036854775807) (hF : ∀ y ∈ xs, l_eqFile y y = some true) : l_eqFileS xs xs = some true := by
 rw [l_eqFileS_eq]
 simp only [bne_self_eq_false, Bool.false_eq_true, if_false]
 exact eq_loop (by omega) (J := l_eqFileS_L4) (F := l_eqFile) (fun i => by rw [l_eqFileS_L4_eq]; try simp only [TValue.re_eq, TObject.re_eq, THeap.re_eq, TBinding.re_eq, TGen.re_eq, TCursor.re_eq, TCoexpr.re_eq, TGenScope.re_eq, TFunction.re_eq, TRecordType.re_eq, TScope.re_eq, TFile.re_eq, TConsole.re_eq, TMemory.re_eq, TCallFrame.re_eq, TMachine.re_eq]) hF
def TConsole.m (x : TConsole) : Nat := (x.fInput.length + sumOf List.length x.fInput) + (x.fOutput.length + sumOf List.length x.fOutput) + (x.fFiles.length + sumOf TFile.m x.fFiles) + (x.fTrace.length + sumOf List.length x.fTrace)
theorem TConsole.m_eq (x : TConsole) : x.m = (x.fInput.length + sumOf List.length x.fInput) + (x.fOutput.length + sumOf List.length x.fOutput) + (x.fFiles.length + sumOf TFile.m x.fFiles) + (x.fTrace.length + sumOf List.length x.fTrace) := rfl
theorem szConsole_ok : ∀ x : TConsole, x.Ok → ∀ b : Int, 0 ≤ b → b < 4611686018427387904 → l_szConsole x b = some (minus b x.m) := by
 intro x
 intro hok b h0 h1
 rw [l_szConsole_eq]
 try simp only [TValue.re_eq, TObject.re_eq, THeap.re_eq, TBinding.re_eq, TGen.re_eq, TCursor.re_eq, TCoexpr.re_eq, TGenScope.re_eq, TFunction.re_eq, TRecordType.re_eq, TScope.re_eq, TFile.re_eq, TConsole.re_eq, TMemory.re_eq, TCallFrame.re_eq, TMachine.re_eq]
 -- fInput
 rw [szStringS_of hok.P_fInput.1 hok.P_fInput.2 h0 h1]
 simp only [Option.bind_some]
 by_cases c0 : minus b ((x.fInput.length + sumOf List.length x.fInput)) < 0
 ·simp only [c0, decide_true, if_true]
  rw [minus_neg_le c0 (by rw [TConsole.m_eq]; omega)]
 simp only [c0, decide_false, Bool.false_eq_true, if_false]
 -- fOutput
 rw [szStringS_of hok.P_fOutput.1 hok.P_fOutput.2 (minus_nonneg c0) (minus_lt (by omega) h1)]
 simp only [Option.bind_some]
 simp only [minus_minus c0]
 by_cases c1 : minus b ((x.fInput.length + sumOf List.length x.fInput) + (x.fOutput.length + sumOf List.length x.fOutput)) < 0
 ·simp only [c1, decide_true, if_true]
  rw [minus_neg_le c1 (by rw [TConsole.m_eq]; omega)]
 simp only [c1, decide_false, Bool.false_eq_true, if_false]
 -- fFiles
 rw [szFileS_of hok.P_fFiles.1 (fun y hy b h0 h1 => szFile_ok y (hok.P_fFiles.2 y hy) b h0 h1) (minus_nonneg c1) (minus_lt (by omega) h1)]
 simp only [Option.bind_some]
 simp only [minus_minus c1]
 by_cases c2 : minus b ((x.fInput.length + sumOf List.length x.fInput) + (x.fOutput.length + sumOf List.length x.fOutput) + (x.fFiles.length + sumOf TFile.m x.fFiles)) < 0
 ·simp only [c2, decide_true, if_true]
  rw [minus_neg_le c2 (by rw [TConsole.m_eq]; omega)]
 simp only [c2, decide_false, Bool.false_eq_true, if_false]
 -- fTrace
 rw [szStringS_of hok.P_fTrace.1 hok.P_fTrace.2 (minus_nonneg c2) (minus_lt (by omega) h1)]
 simp only [Option.bind_some]
 simp only [minus_minus c2]
 by_cases c3 : minus b ((x.fInput.length + sumOf List.length x.fInput) + (x.fOutput.length + sumOf List.length x.fOutput) + (x.fFiles.length + sumOf TFile.m x.fFiles) + (x.fTrace.length + sumOf List.length x.fTrace)) < 0
 ·simp only [c3, decide_true, if_true]
  rw [minus_neg_le c3 (by rw [TConsole.m_eq]; omega)]
 simp only [c3, decide_false, Bool.false_eq_true, if_false]
 try rw [TConsole.m_eq]
theorem eqConsole_ok : ∀ x : TConsole, x.m ≤ 1048576 → l_eqConsole x x = some true := by
 intro x
 intro hm
 have hq := x.m_eq
 rw [l_eqConsole_eq]
 try simp only [TValue.re_eq, TObject.re_eq, THeap.re_eq, TBinding.re_eq, TGen.re_eq, TCursor.re_eq, TCoexpr.re_eq, TGenScope.re_eq, TFunction.re_eq, TRecordType.re_eq, TScope.re_eq, TFile.re_eq, TConsole.re_eq, TMemory.re_eq, TCallFrame.re_eq, TMachine.re_eq]
 rw [eqStringS_of (xs := x.fInput) (by omega)]
 rw [eqStringS_of (xs := x.fOutput) (by omega)]
 rw [eqFileS_of (xs := x.fFiles) (by omega) fun y hy => eqFile_ok y (by have := sumOf_mem (m := TFile.m) hy; omega)]
 rw [eqStringS_of (xs := x.fTrace) (by omega)]
 simp
structure TMemory.Ok (x : TMemory) : Prop where
 P_fHeap : THeap.Ok x.fHeap
 P_fScope : TScope.Ok x.fScope
 P_fConsole : TConsole.Ok x.fConsole
theorem TMemory.ok_cells (x : TMemory) (h : ∀ c ∈ GG.cells 74 x, ∀ k, WfV GG k c) : x.Ok := by
 have h : ∀ c ∈ ([.int .i64 x.fHeap.fNext, .sl (.st 199) x.fHeap.fObjects, .sl (.st 162) x.fScope.fVars, .sl (.st 212) x.fScope.fFunctions, .sl (.st 215) x.fScope.fTypes, .sl .str x.fConsole.fInput, .int .i64 x.fConsole.fAt, .sl .str x.fConsole.fOutput, .sl (.st 232) x.fConsole.fFiles, .sl .str x.fConsole.fTrace] : List (V GG.S)), ∀ k, WfV GG k c := h
 have h_fHeap : ∀ c ∈ ([.int .i64 x.fHeap.fNext, .sl (.st 199) x.fHeap.fObjects] : List (V GG.S)), ∀ k, WfV GG k c := fun c hc => h c (by simp only [List.mem_cons, List.not_mem_nil, or_false] at hc ⊢; rcases hc with rfl | rfl <;> simp)
 have h_fScope : ∀ c ∈ ([.sl (.st 162) x.fScope.fVars, .sl (.st 212) x.fScope.fFunctions, .sl (.st 215) x.fScope.fTypes] : List (V GG.S)), ∀ k, WfV GG k c := fun c hc => h c (by simp only [List.mem_cons, List.not_mem_nil, or_false] at hc ⊢; rcases hc with rfl | rfl | rfl <;> simp)
 have h_fConsole : ∀ c ∈ ([.sl .str x.fConsole.fInput, .int .i64 x.fConsole.fAt, .sl .str x.fConsole.fOutput, .sl (.st 232) x.fConsole.fFiles, .sl .str x.fConsole.fTrace] : List (V GG.S)), ∀ k, WfV GG k c := fun c hc => h c (by simp only [List.mem_cons, List.not_mem_nil, or_false] at hc ⊢; rcases hc with rfl | rfl | rfl | rfl | rfl <;> simp)
 exact ⟨THeap.ok_cells _ h_fHeap, TScope.ok_cells _ h_fScope, TConsole.ok_cells _ h_fConsole⟩
theorem TMemory.ok_of {x : TMemory} (h : ∀ k, WfV GG k (inj GG (.st 74) x)) : x.Ok := TMemory.ok_cells x (wfv_st h)
def TMemory.m (x : TMemory) : Nat := THeap.m x.fHeap + TScope.m x.fScope + TConsole.m x.fConsole
theorem TMemory.m_eq (x : TMemory) : x.m = THeap.m x.fHeap + TScope.m x.fScope + TConsole.m x.fConsole := rfl
theorem szMemory_ok : ∀ x : TMemory, x.Ok → ∀ b : Int, 0 ≤ b → b < 4611686018427387904 → l_szMemory x b = some (minus b x.m) := by
 intro x
 intro hok b h0 h1
 rw [l_szMemory_eq]
 try simp only [TValue.re_eq, TObject.re_eq, THeap.re_eq, TBinding.re_eq, TGen.re_eq, TCursor.re_eq, TCoexpr.re_eq, TGenScope.re_eq, TFunction.re_eq, TRecordType.re_eq, TScope.re_eq, TFile.re_eq, TConsole.re_eq, TMemory.re_eq, TCallFrame.re_eq, TMachine.re_eq]
 -- fHeap
 rw [szHeap_ok x.fHeap hok.P_fHeap b h0 h1]
 simp only [Option.bind_some]
 by_cases c0 : minus b (THeap.m x.fHeap) < 0
 ·simp only [c0, decide_true, if_true]
  rw [minus_neg_le c0 (by rw [TMemory.m_eq]; omega)]
 simp only [c0, decide_false, Bool.false_eq_true, if_false]
 -- fScope
 rw [szScope_ok x.fScope hok.P_fScope (minus b (THeap.m x.fHeap)) (minus_nonneg c0) (minus_lt (by omega) h1)]
 simp only [Option.bind_some]
 simp only [minus_minus c0]
 by_cases c1 : minus b (THeap.m x.fHeap + TScope.m x.fScope) < 0
 ·simp only [c1, decide_true, if_true]
  rw [minus_neg_le c1 (by rw [TMemory.m_eq]; omega)]
 simp only [c1, decide_false, Bool.false_eq_true, if_false]
 -- fConsole
 rw [szConsole_ok x.fConsole hok.P_fConsole (minus b (THeap.m x.fHeap + TScope.m x.fScope)) (minus_nonneg c1) (minus_lt (by omega) h1)]
 simp only [Option.bind_some]
 simp only [minus_minus c1]
 by_cases c2 : minus b (THeap.m x.fHeap + TScope.m x.fScope + TConsole.m x.fConsole) < 0
 ·simp only [c2, decide_true, if_true]
  rw [minus_neg_le c2 (by rw [TMemory.m_eq]; omega)]
 simp only [c2, decide_false, Bool.false_eq_true, if_false]
 try rw [TMemory.m_eq]
theorem eqMemory_ok : ∀ x : TMemory, x.m ≤ 1048576 → l_eqMemory x x = some true := by
 intro x
 intro hm
 have hq := x.m_eq
 rw [l_eqMemory_eq]
 try simp only [TValue.re_eq, TObject.re_eq, THeap.re_eq, TBinding.re_eq, TGen.re_eq, TCursor.re_eq, TCoexpr.re_eq, TGenScope.re_eq, TFunction.re_eq, TRecordType.re_eq, TScope.re_eq, TFile.re_eq, TConsole.re_eq, TMemory.re_eq, TCallFrame.re_eq, TMachine.re_eq]
 rw [eqHeap_ok x.fHeap (by omega)]
 rw [eqScope_ok x.fScope (by omega)]
 rw [eqConsole_ok x.fConsole (by omega)]
 simp
structure TCallFrame.Ok (x : TCallFrame) : Prop where
 P_fName : x.fName.length ≤ 9223372036854775807
 P_fSaved : (x.fSaved.length ≤ 9223372036854775807 ∧ ∀ y ∈ x.fSaved, TBinding.Ok y)
 P_fPC : (-9223372036854775808 ≤ x.fPC ∧ x.fPC ≤ 9223372036854775807)
 P_fBase : (-9223372036854775808 ≤ x.fBase ∧ x.fBase ≤ 9223372036854775807)
 P_fAt : (-9223372036854775808 ≤ x.fAt ∧ x.fAt ≤ 9223372036854775807)
theorem TCallFrame.ok_cells (x : TCallFrame) (h : ∀ c ∈ GG.cells 160 x, ∀ k, WfV GG k c) : x.Ok := by
 have h : ∀ c ∈ ([.str x.fName, .sl (.st 162) x.fSaved, .int .i64 x.fPC, .int .i64 x.fBase, .int .i64 x.fAt] : List (V GG.S)), ∀ k, WfV GG k c := h
 exact ⟨wfv_str (h (.str x.fName) (by simp) 1), ⟨(wfv_sl (h (.sl (.st 162) x.fSaved) (by simp))).1, fun y hy => TBinding.ok_cells y ((wfv_sl (h (.sl (.st 162) x.fSaved) (by simp))).2 y hy)⟩, wfv_int (h (.int .i64 x.fPC) (by simp) 1), wfv_int (h (.int .i64 x.fBase) (by simp) 1), wfv_int (h (.int .i64 x.fAt) (by simp) 1)⟩
theorem TCallFrame.ok_of {x : TCallFrame} (h : ∀ k, WfV GG k (inj GG (.st 160) x)) : x.Ok := TCallFrame.ok_cells x (wfv_st h)
def TCallFrame.m (x : TCallFrame) : Nat := x.fName.length + (x.fSaved.length + sumOf TBinding.m x.fSaved)
theorem TCallFrame.m_eq (x : TCallFrame) : x.m = x.fName.length + (x.fSaved.length + sumOf TBinding.m x.fSaved) := rfl
theorem szCallFrame_ok : ∀ x : TCallFrame, x.Ok → ∀ b : Int, 0 ≤ b → b < 4611686018427387904 → l_szCallFrame x b = some (minus b x.m) := by
 intro x
 intro hok b h0 h1
 rw [l_szCallFrame_eq]
 try simp only [TValue.re_eq, TObject.re_eq, THeap.re_eq, TBinding.re_eq, TGen.re_eq, TCursor.re_eq, TCoexpr.re_eq, TGenScope.re_eq, TFunction.re_eq, TRecordType.re_eq, TScope.re_eq, TFile.re_eq, TConsole.re_eq, TMemory.re_eq, TCallFrame.re_eq, TMachine.re_eq]
 -- fName
 obtain ⟨e1, e2⟩ := minus_len (b := b) (l := x.fName) h0 h1 hok.P_fName
 by_cases c0 : minus b (x.fName.length) < 0
 ·simp only [e1.2 c0, decide_true, if_true]
  rw [minus_neg_le c0 (by rw [TCallFrame.m_eq]; omega)]
 have e3 := mt e1.1 c0
 simp only [e3, e2 c0, c0, decide_false, Bool.false_eq_true, if_false]
 -- fSaved
 rw [szBindingS_of hok.P_fSaved.1 (fun y hy b h0 h1 => szBinding_ok y (hok.P_fSaved.2 y hy) b h0 h1) (minus_nonneg c0) (minus_lt (by omega) h1)]
 simp only [Option.bind_some]
 simp only [minus_minus c0]
 by_cases c1 : minus b (x.fName.length + (x.fSaved.length + sumOf TBinding.m x.fSaved)) < 0
 ·simp only [c1, decide_true, if_true]
  rw [minus_neg_le c1 (by rw [TCallFrame.m_eq]; omega)]
 simp only [c1, decide_false, Bool.false_eq_true, if_false]
 try rw [TCallFrame.m_eq]
theorem eqCallFrame_ok : ∀ x : TCallFrame, x.m ≤ 1048576 → l_eqCallFrame x x = some true := by
 intro x
 intro hm
 have hq := x.m_eq
 rw [l_eqCallFrame_eq]
 try simp only [TValue.re_eq, TObject.re_eq, THeap.re_eq, TBinding.re_eq, TGen.re_eq, TCursor.re_eq, TCoexpr.re_eq, TGenScope.re_eq, TFunction.re_eq, TRecordType.re_eq, TScope.re_eq, TFile.re_eq, TConsole.re_eq, TMemory.re_eq, TCallFrame.re_eq, TMachine.re_eq]
 rw [eqBindingS_of (xs := x.fSaved) (by omega) fun y hy => eqBinding_ok y (by have := sumOf_mem (m := TBinding.m) hy; omega)]
 simp
structure TMachine.Ok (x : TMachine) : Prop where
 P_fStatus : (-9223372036854775808 ≤ x.fStatus ∧ x.fStatus ≤ 9223372036854775807)
 P_fCode : (-9223372036854775808 ≤ x.fCode ∧ x.fCode ≤ 9223372036854775807)
 P_fMemory : TMemory.Ok x.fMemory
 P_fStack : (x.fStack.length ≤ 9223372036854775807 ∧ ∀ y ∈ x.fStack, TValue.Ok y)
 P_fFrames : (x.fFrames.length ≤ 9223372036854775807 ∧ ∀ y ∈ x.fFrames, TCallFrame.Ok y)
 P_fPC : (-9223372036854775808 ≤ x.fPC ∧ x.fPC ≤ 9223372036854775807)
 P_fBase : (-9223372036854775808 ≤ x.fBase ∧ x.fBase ≤ 9223372036854775807)
 P_fAt : (-9223372036854775808 ≤ x.fAt ∧ x.fAt ≤ 9223372036854775807)
 P_fSteps : (-9223372036854775808 ≤ x.fSteps ∧ x.fSteps ≤ 9223372036854775807)
 P_fFuel : (-9223372036854775808 ≤ x.fFuel ∧ x.fFuel ≤ 9223372036854775807)
theorem TMachine.ok_cells (x : TMachine) (h : ∀ c ∈ GG.cells 95 x, ∀ k, WfV GG k c) : x.Ok := by
 have h : ∀ c ∈ ([.int .i64 x.fStatus, .int .i64 x.fCode, .int .i64 x.fMemory.fHeap.fNext, .sl (.st 199) x.fMemory.fHeap.fObjects, .sl (.st 162) x.fMemory.fScope.fVars, .sl (.st 212) x.fMemory.fScope.fFunctions, .sl (.st 215) x.fMemory.fScope.fTypes, .sl .str x.fMemory.fConsole.fInput, .int .i64 x.fMemory.fConsole.fAt, .sl .str x.fMemory.fConsole.fOutput, .sl (.st 232) x.fMemory.fConsole.fFiles, .sl .str x.fMemory.fConsole.fTrace, .sl (.st 29) x.fStack, .sl (.st 160) x.fFrames, .int .i64 x.fPC, .int .i64 x.fBase, .int .i64 x.fAt, .int .i64 x.fSteps, .int .i64 x.fFuel] : List (V GG.S)), ∀ k, WfV GG k c := h
 have h_fMemory : ∀ c ∈ ([.int .i64 x.fMemory.fHeap.fNext, .sl (.st 199) x.fMemory.fHeap.fObjects, .sl (.st 162) x.fMemory.fScope.fVars, .sl (.st 212) x.fMemory.fScope.fFunctions, .sl (.st 215) x.fMemory.fScope.fTypes, .sl .str x.fMemory.fConsole.fInput, .int .i64 x.fMemory.fConsole.fAt, .sl .str x.fMemory.fConsole.fOutput, .sl (.st 232) x.fMemory.fConsole.fFiles, .sl .str x.fMemory.fConsole.fTrace] : List (V GG.S)), ∀ k, WfV GG k c := fun c hc => h c (by simp only [List.mem_cons, List.not_mem_nil, or_false] at hc ⊢; rcases hc with rfl | rfl | rfl | rfl | rfl | rfl | rfl | rfl | rfl | rfl <;> simp)
 exact ⟨wfv_int (h (.int .i64 x.fStatus) (by simp) 1), wfv_int (h (.int .i64 x.fCode) (by simp) 1), TMemory.ok_cells _ h_fMemory, ⟨(wfv_sl (h (.sl (.st 29) x.fStack) (by simp))).1, fun y hy => TValue.ok_cells y ((wfv_sl (h (.sl (.st 29) x.fStack) (by simp))).2 y hy)⟩, ⟨(wfv_sl (h (.sl (.st 160) x.fFrames) (by simp))).1, fun y hy => TCallFrame.ok_cells y ((wfv_sl (h (.sl (.st 160) x.fFrames) (by simp))).2 y hy)⟩, wfv_int (h (.int .i64 x.fPC) (by simp) 1), wfv_int (h (.int .i64 x.fBase) (by simp) 1), wfv_int (h (.int .i64 x.fAt) (by simp) 1), wfv_int (h (.int .i64 x.fSteps) (by simp) 1), wfv_int (h (.int .i64 x.fFuel) (by simp) 1)⟩
theorem TMachine.ok_of {x : TMachine} (h : ∀ k, WfV GG k (inj GG (.st 95) x)) : x.Ok := TMachine.ok_cells x (wfv_st h)
theorem szCallFrameS_of {xs : (List TCallFrame)} (hx : xs.length ≤ 9223372036854775807)
  (hF : ∀ y ∈ xs, ∀ b : Int, 0 ≤ b → b < 4611686018427387904 → l_szCallFrame y b = some (minus b (TCallFrame.m y))) {b : Int} (h0 : 0 ≤ b) (h1 : b < 4611686018427387904) :
  l_szCallFrameS xs b = some (minus b (xs.length + sumOf TCallFrame.m xs)) := by
 rw [l_szCallFrameS_eq]
 obtain ⟨e1, e2⟩ := minus_len (l := xs) h0 h1 hx
 by_cases c : minus b xs.length < 0
 ·simp only [e1.2 c, decide_true, if_true, minus_neg c]
 ·rw [if_neg (by simpa using fun h => c (e1.1 h)), e2 c, sz_loop hx (J := l_szCallFrameS_L5) (F := l_szCallFrame) (m := TCallFrame.m) (fun b i => by rw [l_szCallFrameS_L5_eq]; try simp only [TValue.re_eq, TObject.re_eq, THeap.re_eq, TBinding.re_eq, TGen.re_eq, TCursor.re_eq, TCoexpr.re_eq, TGenScope.re_eq, TFunction.re_eq, TRecordType.re_eq, TScope.re_eq, TFile.re_eq, TConsole.re_eq, TMemory.re_eq, TCallFrame.re_eq, TMachine.re_eq]) hF _ (minus_nonneg c) (minus_lt (by omega) h1), minus_minus c]
theorem eqCallFrameS_of {xs : (List TCallFrame)} (hx : xs.length ≤ 9223372036854775807) (hF : ∀ y ∈ xs, l_eqCallFrame y y = some true) : l_eqCallFrameS xs xs = some true := by
 rw [l_eqCallFrameS_eq]
 simp only [bne_self_eq_false, Bool.false_eq_true, if_false]
 exact eq_loop (by omega) (J := l_eqCallFrameS_L4) (F := l_eqCallFrame) (fun i => by rw [l_eqCallFrameS_L4_eq]; try simp only [TValue.re_eq, TObject.re_eq, THeap.re_eq, TBinding.re_eq, TGen.re_eq, TCursor.re_eq, TCoexpr.re_eq, TGenScope.re_eq, TFunction.re_eq, TRecordType.re_eq, TScope.re_eq, TFile.re_eq, TConsole.re_eq, TMemory.re_eq, TCallFrame.re_eq, TMachine.re_eq]) hF
def TMachine.m (x : TMachine) : Nat := TMemory.m x.fMemory + (x.fStack.length + sumOf TValue.m x.fStack) + (x.fFrames.length + sumOf TCallFrame.m x.fFrames)
theorem TMachine.m_eq (x : TMachine) : x.m = TMemory.m x.fMemory + (x.fStack.length + sumOf TValue.m x.fStack) + (x.fFrames.length + sumOf TCallFrame.m x.fFrames) := rfl
theorem szMachine_ok : ∀ x : TMachine, x.Ok → ∀ b : Int, 0 ≤ b → b < 4611686018427387904 → l_szMachine x b = some (minus b x.m) := by
 intro x
 intro hok b h0 h1
 rw [l_szMachine_eq]
 try simp only [TValue.re_eq, TObject.re_eq, THeap.re_eq, TBinding.re_eq, TGen.re_eq, TCursor.re_eq, TCoexpr.re_eq, TGenScope.re_eq, TFunction.re_eq, TRecordType.re_eq, TScope.re_eq, TFile.re_eq, TConsole.re_eq, TMemory.re_eq, TCallFrame.re_eq, TMachine.re_eq]
 -- fMemory
 rw [szMemory_ok x.fMemory hok.P_fMemory b h0 h1]
 simp only [Option.bind_some]
 by_cases c0 : minus b (TMemory.m x.fMemory) < 0
 ·simp only [c0, decide_true, if_true]
  rw [minus_neg_le c0 (by rw [TMachine.m_eq]; omega)]
 simp only [c0, decide_false, Bool.false_eq_true, if_false]
 -- fStack
 rw [szValueS_of hok.P_fStack.1 (fun y hy b h0 h1 => szValue_ok y (hok.P_fStack.2 y hy) b h0 h1) (minus_nonneg c0) (minus_lt (by omega) h1)]
 simp only [Option.bind_some]
 simp only [minus_minus c0]
 by_cases c1 : minus b (TMemory.m x.fMemory + (x.fStack.length + sumOf TValue.m x.fStack)) < 0
 ·simp only [c1, decide_true, if_true]
  rw [minus_neg_le c1 (by rw [TMachine.m_eq]; omega)]
 simp only [c1, decide_false, Bool.false_eq_true, if_false]
 -- fFrames
 rw [szCallFrameS_of hok.P_fFrames.1 (fun y hy b h0 h1 => szCallFrame_ok y (hok.P_fFrames.2 y hy) b h0 h1) (minus_nonneg c1) (minus_lt (by omega) h1)]
 simp only [Option.bind_some]
 simp only [minus_minus c1]
 by_cases c2 : minus b (TMemory.m x.fMemory + (x.fStack.length + sumOf TValue.m x.fStack) + (x.fFrames.length + sumOf TCallFrame.m x.fFrames)) < 0
 ·simp only [c2, decide_true, if_true]
  rw [minus_neg_le c2 (by rw [TMachine.m_eq]; omega)]
 simp only [c2, decide_false, Bool.false_eq_true, if_false]
 try rw [TMachine.m_eq]
theorem eqMachine_ok : ∀ x : TMachine, x.m ≤ 1048576 → l_eqMachine x x = some true := by
 intro x
 intro hm
 have hq := x.m_eq
 rw [l_eqMachine_eq]
 try simp only [TValue.re_eq, TObject.re_eq, THeap.re_eq, TBinding.re_eq, TGen.re_eq, TCursor.re_eq, TCoexpr.re_eq, TGenScope.re_eq, TFunction.re_eq, TRecordType.re_eq, TScope.re_eq, TFile.re_eq, TConsole.re_eq, TMemory.re_eq, TCallFrame.re_eq, TMachine.re_eq]
 rw [eqMemory_ok x.fMemory (by omega)]
 rw [eqValueS_of (xs := x.fStack) (by omega) fun y hy => eqValue_ok y (by have := sumOf_mem (m := TValue.m) hy; omega)]
 rw [eqCallFrameS_of (xs := x.fFrames) (by omega) fun y hy => eqCallFrame_ok y (by have := sumOf_mem (m := TCallFrame.m) hy; omega)]
 simp
end Go.Dv.U

namespace Go.Dv
open Go
def gate {α : Type} (c : α → Nat → Bool) : List α → Nat → Bool
 | [], _ => true
 | y :: r, i => c y i && gate c r (i + 1)
theorem gate_loop {α : Type} {xs : List α} (hx : xs.length ≤ 9223372036854775807) {c : α → Nat → Bool} {J : Int → Option Bool}
  (hs : ∀ (i : Nat) (y : α), i < xs.length → y ∈ xs → idx xs (i : Int) = some y → w64 ((i : Int) + 1) = ((i + 1 : Nat) : Int) → J (i : Int) = if c y i = true then J ((i + 1 : Nat) : Int) else some false) :
  J 0 = if gate c xs 0 = true then J (xs.length : Int) else some false := by
 refine loop_ind hx (P := fun i l => J (i : Int) = if gate c l i = true then J (xs.length : Int) else some false) ?_ ?_
 ·simp [gate]
 ·intro i y l _ hlt hy hi hw ih
  rw [hs i y hlt hy hi hw]
  have hg : gate c (y :: l) i = (c y i && gate c l (i + 1)) := rfl
  by_cases hc : c y i = true
  ·rw [if_pos hc, ih]
   by_cases h2 : gate c l (i + 1) = true
   ·rw [if_pos h2, if_pos (by rw [hg, hc, h2]; rfl)]
   ·rw [if_neg h2, if_neg (by rw [hg, hc]; simpa using h2)]
  ·rw [if_neg hc, if_neg (by rw [hg]; simp [hc])]
def ixF {α : Type} (p : α → Bool) : List α → Nat → Int
 | [], _ => -1
 | y :: r, i => if p y = true then (i : Int) else ixF p r (i + 1)
theorem ix_loop {α : Type} {xs : List α} (hx : xs.length ≤ 9223372036854775807) {p : α → Bool} {J : Int → Option Int}
  (hs : ∀ (i : Nat) (y : α), i < xs.length → y ∈ xs → idx xs (i : Int) = some y → w64 ((i : Int) + 1) = ((i + 1 : Nat) : Int) → J (i : Int) = if p y = true then some (i : Int) else J ((i + 1 : Nat) : Int))
  (he : J (xs.length : Int) = some (-1)) : J 0 = some (ixF p xs 0) := by
 refine loop_ind hx (P := fun i l => J (i : Int) = some (ixF p l i)) ?_ ?_
 ·rw [he]; rfl
 ·intro i y l _ hlt hy hi hw ih
  rw [hs i y hlt hy hi hw]
  by_cases hc : p y = true
  ·rw [if_pos hc]; simp [ixF, hc]
  ·rw [if_neg hc, ih]; simp [ixF, hc]
theorem cat_loop {α β γ : Type} {xs : List α} (hx : xs.length ≤ 9223372036854775807) {f : α → List β} {B : Nat} {J : Int → List β → Option γ}
  (hs : ∀ (i : Nat) (y : α) (a : List β), i < xs.length → y ∈ xs → idx xs (i : Int) = some y → w64 ((i : Int) + 1) = ((i + 1 : Nat) : Int) → a.length + (f y).length ≤ B → J (i : Int) a = J ((i + 1 : Nat) : Int) (a ++ f y))
  (hb : (xs.flatMap f).length ≤ B) : J 0 [] = J (xs.length : Int) (xs.flatMap f) := by
 have key := loop_ind hx (P := fun i l => ∀ a : List β, a.length + (l.flatMap f).length ≤ B → J (i : Int) a = J (xs.length : Int) (a ++ l.flatMap f)) (by
  intro a _
  simp) (by
  intro i y l _ hlt hy hi hw ih a ha
  simp only [List.flatMap_cons, List.length_append] at ha
  rw [hs i y a hlt hy hi hw (by omega), ih (a ++ f y) (by simp only [List.length_append]; omega)]
  simp only [List.flatMap_cons, List.append_assoc]) [] (by simpa using hb)
 simpa using key
end Go.Dv

namespace Go.Dv.U
open Go Go.Dv Go.Proofs
theorem mk_rem_ten (u : Nat) : rem (u : Int) 10 = some ((u % 10 : Nat) : Int) := by
 unfold rem
 rw [if_neg (by decide)]
 congr 1
theorem mk_quo_ten {u : Nat} (h : u < 9223372036854775808) : quo .i64 (u : Int) 10 = some ((u / 10 : Nat) : Int) := by
 unfold quo
 rw [if_neg (by decide)]
 congr 1
 rw [show ((u : Int).tdiv 10) = ((u / 10 : Nat) : Int) from rfl, IntKind.wrap_i64]
 omega
theorem l_markText_L4_ok : ∀ (f n : Nat) (a : List UInt8), n < 9223372036854775808 → n < 10 ^ f → a.length + f ≤ 100 → ∃ t, l_markText_L4 (n : Int) a = some t
 | 0, n, a, _, h, ha => by
  have : n = 0 := by simpa using h
  subst this
  rw [l_markText_L4_eq]
  refine ⟨[109] ++ a, ?_⟩
  have := app_of (xs := ([109] : List UInt8)) (ys := a) (by simp; omega)
  simp [this]
 | f + 1, n, a, h0, h, ha => by
  rw [l_markText_L4_eq]
  by_cases hn : n = 0
  ·subst hn
   refine ⟨[109] ++ a, ?_⟩
   have := app_of (xs := ([109] : List UInt8)) (ys := a) (by simp; omega)
   simp [this]
  ·have hc : decide ((n : Int) > 0) = true := by simp; omega
   rw [if_pos hc, mk_rem_ten]
   simp only [Option.bind_some, mk_quo_ten h0]
   rw [app_of (by simp; omega)]
   simp only [Option.bind_some]
   exact l_markText_L4_ok f (n / 10) _ (by omega) (by rw [Nat.pow_succ] at h; omega) (by simp; omega)
noncomputable def mkT (k : Int) : List UInt8 := (l_markText k).getD []
theorem l_markText_ok {k : Int} (h0 : 0 ≤ k) (h : k < 9223372036854775808) : l_markText k = some (mkT k) := by
 have : ∃ t, l_markText k = some t := by
  rw [l_markText_eq]
  by_cases c : k ≤ 0
  ·exact ⟨_, by rw [if_pos (by simpa using c)]⟩
  ·rw [if_neg (by simpa using c)]
   have := l_markText_L4_ok 19 k.toNat [] (by omega) (by simp; omega) (by simp)
   rwa [show ((k.toNat : Nat) : Int) = k by omega] at this
 obtain ⟨t, e⟩ := this
 rw [mkT, e]; rfl
noncomputable def marksS : Int → Nat → List (List UInt8)
 | _, 0 => []
 | k, n + 1 => mkT k :: marksS (k + 1) n
theorem l_markStringS_L2_ok : ∀ (n i : Nat) (k : Int) (xs : List (List UInt8)), i + n = xs.length → 0 ≤ k → k + n < 9223372036854775808 → xs.length < 9223372036854775807 →
  l_markStringS_L2 k (i : Int) xs = some (k + n, xs.take i ++ marksS k n, ())
 | 0, i, k, xs, hi, h0, h1, h2 => by
  rw [l_markStringS_L2_eq]
  have : i = xs.length := by omega
  subst this
  simp [len_eq, marksS]
 | n + 1, i, k, xs, hi, h0, h1, h2 => by
  rw [l_markStringS_L2_eq]
  have hc : decide ((i : Int) < len xs) = true := by simp [len_eq]; omega
  have hlt : i < xs.length := by omega
  rw [if_pos hc, l_markText_ok h0 (by omega)]
  simp only [Option.bind_some, idx_nat, Int.toNat_natCast, List.getElem?_eq_getElem hlt, upd_eq]
  rw [w64_of (by omega) (by omega), w64_of (by omega) (by omega)]
  have ih := l_markStringS_L2_ok n (i + 1) (k + 1) (xs.set i (mkT k)) (by simp; omega) (by omega) (by omega) (by simpa using h2)
  rw [show ((i : Int) + 1) = ((i + 1 : Nat) : Int) by omega, ih]
  congr 1
  rw [show k + 1 + (n : Int) = k + ((n + 1 : Nat) : Int) by omega]
  congr 2
  simp only [marksS]
  rw [List.take_set, List.take_succ_eq_append_getElem hlt, List.set_append_right _ _ (by simp; omega)]
  simp [Nat.min_eq_left (by omega : i ≤ xs.length)]
theorem l_markStringS_ok {xs : List (List UInt8)} {k : Int} (h0 : 0 ≤ k) (h1 : k + xs.length < 9223372036854775807) : l_markStringS k xs = some (k + xs.length, marksS k xs.length, ()) := by
 have := l_markStringS_L2_ok xs.length 0 k xs (by omega) h0 (by omega) (by omega)
 rw [l_markStringS_eq]
 simpa using this
end Go.Dv.U

namespace Go.Dv
open Go
theorem toE_loop {α β γ : Type} {xs : List α} (hx : xs.length ≤ 9223372036854775807) {F : α → Option β} {G : β → α} {E : List α → Option γ} {J : List α → Int → List α → Option γ}
  (hJ : ∀ i zs, J xs i zs = if decide (i < len xs) = true then (idx xs i).bind fun y => (F y).bind fun r => (idx zs i).bind fun _ => (zs[i.toNat]?).bind fun _ => J xs (w64 (i + 1)) (upd zs i.toNat (G r)) else E zs)
  (hF : ∀ y ∈ xs, ∃ r, F y = some r ∧ G r = y) : ∀ zs, zs.length = xs.length → J xs 0 zs = E xs := by
 have key : ∀ zs, zs.length = xs.length → (∀ j : Nat, j < 0 → zs[j]? = xs[j]?) → J xs ((0 : Nat) : Int) zs = E xs := by
  refine loop_ind hx (P := fun i l => ∀ zs, zs.length = xs.length → (∀ j, j < i → zs[j]? = xs[j]?) → J xs i zs = E xs) ?_ ?_
  ·intro zs hl hz
   rw [hJ]
   simp only [len_eq, Int.lt_irrefl, decide_false, Bool.false_eq_true, if_false]
   congr 1
   apply List.ext_getElem?
   intro j
   by_cases hj : j < xs.length
   ·exact hz j hj
   ·rw [List.getElem?_eq_none (by omega), List.getElem?_eq_none (by omega)]
  ·intro i y l _ hlt hy hi hw ih zs hl hz
   rw [hJ, hi, hw]
   have hc : decide ((i : Int) < len xs) = true := by simp [len_eq, hlt]
   rw [if_pos hc]
   have hzi : zs[i]? = some zs[i] := List.getElem?_eq_getElem (by omega)
   have hxi : xs[i]? = some y := by rw [← idx_nat]; exact hi
   obtain ⟨r, e1, e2⟩ := hF y hy
   simp only [Option.bind_some, e1, idx_nat, Int.toNat_natCast, hzi, upd_eq]
   refine ih _ (by simp [hl]) fun j hj => ?_
   by_cases hji : j = i
   ·subst hji; rw [List.getElem?_set_self (by omega), hxi, e2]
   ·rw [List.getElem?_set_ne (by omega)]; exact hz j (by omega)
 intro zs hl
 exact key zs hl fun j hj => absurd hj (Nat.not_lt_zero j)
theorem mark_loop {α : Type} {B : Int} {m : α → Nat} {Q : α → Prop} {J : Int → Int → List α → Option (Int × List α × Unit)}
    (he : ∀ k (xs : List α), J k (xs.length : Int) xs = some (k, xs, ()))
    (hs : ∀ (k : Int) (i : Nat) (xs : List α) (h : i < xs.length), Q xs[i] → 0 ≤ k → k + m xs[i] < B → xs.length < 4611686018427387904 → ∃ k' y', J k (i : Int) xs = J k' ((i + 1 : Nat) : Int) (xs.set i y') ∧ k ≤ k' ∧ k' ≤ k + m xs[i]) :
    ∀ (xs : List α) (k : Int), (∀ y ∈ xs, Q y) → 0 ≤ k → k + sumOf m xs < B → xs.length < 4611686018427387904 → ∃ k' xs', J k 0 xs = some (k', xs', ()) ∧ k ≤ k' ∧ k' ≤ k + sumOf m xs ∧ xs'.length = xs.length := by
  have key : ∀ (n i : Nat) (xs : List α) (k : Int), i + n = xs.length → (∀ y ∈ xs.drop i, Q y) → 0 ≤ k → k + sumOf m (xs.drop i) < B → xs.length < 4611686018427387904 →
      ∃ k' xs', J k (i : Int) xs = some (k', xs', ()) ∧ k ≤ k' ∧ k' ≤ k + sumOf m (xs.drop i) ∧ xs'.length = xs.length := by
    intro n
    induction n with
    | zero =>
      intro i xs k hi hq h0 h1 h2
      have : i = xs.length := by omega
      subst this
      exact ⟨k, xs, he k xs, by omega, by omega, rfl⟩
    | succ n ih =>
      intro i xs k hi hq h0 h1 h2
      have hlt : i < xs.length := by omega
      rw [List.drop_eq_getElem_cons hlt] at h1 hq ⊢
      simp only [sumOf] at h1 ⊢
      obtain ⟨k1, y1, e1, g1, g2⟩ := hs k i xs hlt (hq _ List.mem_cons_self) h0 (by omega) h2
      have ed : (xs.set i y1).drop (i + 1) = xs.drop (i + 1) := List.drop_set_of_lt (by omega)
      obtain ⟨k2, xs2, e2, g3, g4, g5⟩ := ih (i + 1) (xs.set i y1) k1 (by simp; omega) (by rw [ed]; exact fun y hy => hq y (List.mem_cons_of_mem _ hy)) (by omega) (by rw [ed]; omega) (by simpa using h2)
      rw [ed] at g4
      exact ⟨k2, xs2, e1.trans e2, by omega, by omega, by rw [g5]; simp⟩
  intro xs k hq h0 h1 h2
  have := key xs.length 0 xs k (by omega) (by simpa using hq) h0 (by simpa using h1) h2
  simpa using this
def marksL {α : Type} (μ : Int → α) (c : Nat) : Int → Nat → List α
 | _, 0 => []
 | k, n + 1 => μ k :: marksL μ c (k + c) n
theorem marksL_len {α : Type} (μ : Int → α) (c : Nat) : ∀ (n : Nat) (k : Int), (marksL μ c k n).length = n
 | 0, _ => rfl
 | n + 1, k => by simp [marksL, marksL_len μ c n]
theorem markL_loop {α : Type} {μ : Int → α} {c : Nat} {J : Int → Int → List α → Option (Int × List α × Unit)}
    (he : ∀ k (xs : List α), J k (xs.length : Int) xs = some (k, xs, ()))
    (hs : ∀ (k : Int) (i : Nat) (xs : List α) (h : i < xs.length), 0 ≤ k → k + c < 4611686018427387904 → xs.length < 4611686018427387904 → J k (i : Int) xs = J (k + c) ((i + 1 : Nat) : Int) (xs.set i (μ k))) :
    ∀ (xs : List α) (k : Int), 0 ≤ k → k + (c * xs.length : Nat) < 4611686018427387904 → xs.length < 4611686018427387904 → J k 0 xs = some (k + (c * xs.length : Nat), marksL μ c k xs.length, ()) := by
  have key : ∀ (n i : Nat) (xs : List α) (k : Int), i + n = xs.length → 0 ≤ k → k + (c * n : Nat) < 4611686018427387904 → xs.length < 4611686018427387904 →
      J k (i : Int) xs = some (k + (c * n : Nat), xs.take i ++ marksL μ c k n, ()) := by
    intro n
    induction n with
    | zero =>
      intro i xs k hi h0 h1 h2
      have : i = xs.length := by omega
      subst this
      rw [he]
      simp [marksL]
    | succ n ih =>
      intro i xs k hi h0 h1 h2
      have hlt : i < xs.length := by omega
      have hm : c * (n + 1) = c + c * n := by rw [Nat.mul_succ]; omega
      rw [hm] at h1 ⊢
      rw [hs k i xs hlt h0 (by omega) h2, ih (i + 1) (xs.set i (μ k)) (k + c) (by simp; omega) (by omega) (by omega) (by simpa using h2)]
      congr 1
      rw [show k + (c : Int) + ((c * n : Nat) : Int) = k + ((c + c * n : Nat) : Int) by omega]
      congr 2
      simp only [marksL]
      rw [List.take_set, List.take_succ_eq_append_getElem hlt, List.set_append_right _ _ (by simp; omega)]
      simp [Nat.min_eq_left (by omega : i ≤ xs.length)]
  intro xs k h0 h1 h2
  have := key xs.length 0 xs k (by omega) h0 h1 h2
  simpa using this
theorem heldL_loop {α : Type} {μ : Int → α} {c n : Nat} {k : Int} {J : Int → Int → Option Int} (hn : n < 4611686018427387904) (h0 : 0 ≤ k) (h1 : k + (c * n : Nat) < 4611686018427387904)
  (he : ∀ k, J k (n : Int) = some k)
  (hs : ∀ (k' : Int) (i : Nat), i < n → 0 ≤ k' → k' + c < 4611686018427387904 → idx (marksL μ c k n) (i : Int) = some (μ k') → J k' (i : Int) = J (k' + c) ((i + 1 : Nat) : Int)) :
  J k 0 = some (k + (c * n : Nat)) := by
 have key := loop_ind (xs := marksL μ c k n) (by rw [marksL_len]; omega) (P := fun i l => ∀ k' : Int, 0 ≤ k' → k' + (c * l.length : Nat) < 4611686018427387904 → l = marksL μ c k' l.length → J k' (i : Int) = some (k' + (c * l.length : Nat))) (by
  intro k' _ _ _
  rw [marksL_len, he]
  simp) (by
  intro i y l _ hlt hy hi hw ih k' g0 g1 e
  simp only [List.length_cons, marksL, List.cons.injEq] at e g1
  have hm : c * (l.length + 1) = c + c * l.length := by rw [Nat.mul_succ]; omega
  rw [marksL_len] at hlt
  rw [hm] at g1
  rw [hs k' i hlt g0 (by omega) (by rw [hi, e.1]), ih (k' + c) (by omega) (by omega) e.2]
  congr 1
  simp only [List.length_cons, hm]; omega) k h0 (by rw [marksL_len]; exact h1) (by rw [marksL_len])
 rw [marksL_len] at key
 exact key
theorem sum_40 {α : Type} (m : α → Nat) : ∀ l : List α, sumOf (fun y => 40 + 40 * m y) l = 40 * l.length + 40 * sumOf m l
 | [] => rfl
 | y :: r => by simp only [sumOf, List.length_cons, sum_40 m r]; omega
theorem rem_three (k : Int) : rem k 3 = some (k.tmod 3) := by unfold rem; rw [if_neg (by decide)]
end Go.Dv

namespace Go.Dv.U
open Go Go.Dv Go.Proofs
theorem i_within_ok (a b c : Int) : i_within a b c = some (decide (b ≤ a) && decide (a ≤ c)) := by
 rw [i_within_eq]; grind
theorem s_l00In_ok (a b c : Int) : s_l00In a b c = some (decide (b ≤ a) && decide (a ≤ c)) := by
 rw [s_l00In_eq]; grind
end Go.Dv.U

namespace Go.Dv.U
open Go Go.Dv Go.Proofs
def isLet (b : Int) : Bool := (decide (65 ≤ b) && decide (b ≤ 90)) || (decide (97 ≤ b) && decide (b ≤ 122))
def isDig (b : Int) : Bool := decide (48 ≤ b) && decide (b ≤ 57)
def isNmB (b : Int) : Bool := isLet b || isDig b || b == 95
theorem i_isLetter_ok (b : Int) : i_isLetter b = some (isLet b) := by
 rw [i_isLetter_eq]; unfold isLet; grind
theorem s_l02Letter_ok (b : Int) : s_l02Letter b = some (isLet b) := by
 rw [s_l02Letter_eq]; unfold isLet; grind
theorem i_isDigit_ok (b : Int) : i_isDigit b = some (isDig b) := by
 rw [i_isDigit_eq]; unfold isDig; grind
theorem s_l02Digit_ok (b : Int) : s_l02Digit b = some (isDig b) := by
 rw [s_l02Digit_eq]; unfold isDig; grind
theorem i_isNameByte_ok (b : Int) : i_isNameByte b = some (isNmB b) := by
 rw [i_isNameByte_eq, i_isLetter_ok, i_isDigit_ok]; unfold isNmB
 simp only [Option.bind_some]; grind
def isName (s : List UInt8) : Bool := match s with
 | [] => false
 | b :: _ => decide (s.length ≤ 12) && isLet (ib b) && s.all fun c => isNmB (ib c)
theorem i_areAllNm_ok {s : List UInt8} (h : s.length ≤ 9223372036854775807) : i_areAll_byte__i_isNameByte (s.map ib) = some (s.all fun c => isNmB (ib c)) := by
 rw [i_areAll_byte__i_isNameByte_eq]
 have := all_loop (xs := s.map ib) (by simpa using h) (F := i_isNameByte) (p := isNmB) (J := i_areAll_byte_L2__i_isNameByte (s.map ib) (len (s.map ib))) (fun i => by rw [i_areAll_byte_L2__i_isNameByte_eq]) (fun y _ => i_isNameByte_ok y)
 rw [this, List.all_map]
 rfl
theorem i_IsName_ok {s : List UInt8} : i_IsName s = some (isName s) := by
 rw [i_IsName_eq]
 cases s with
 | nil => simp [isName, len_eq]
 | cons b r =>
  by_cases h : (b :: r).length ≤ 12
  ·have h1 : decide (len (b :: r) ≥ 1) = true := by simp only [len_eq, List.length_cons, decide_eq_true_eq]; omega
   have h2 : decide (len (b :: r) ≤ 12) = true := by simp only [len_eq, decide_eq_true_eq]; omega
   rw [if_pos h1, if_pos h2, idx_zero]
   simp only [List.getElem?_cons_zero, Option.bind_some, i_isLetter_ok]
   have := i_areAllNm_ok (s := b :: r) (by omega)
   simp only [List.map_cons] at this ⊢
   rw [this]
   simp only [isName, h, decide_true, Bool.true_and, Option.bind_some]
   cases isLet (ib b) <;> simp
  ·have h2 : ¬ decide (len (b :: r) ≤ 12) = true := by simp only [len_eq, decide_eq_true_eq]; omega
   rw [if_neg h2]
   simp only [isName, h, decide_false, Bool.false_and]
   split <;> rfl
def nmRun : List UInt8 → Nat
 | [] => 0
 | b :: r => if isNmB (ib b) then nmRun r + 1 else 0
theorem nmRun_all : ∀ s, nmRun s = s.length ↔ (s.all fun c => isNmB (ib c)) = true
 | [] => by simp [nmRun]
 | b :: r => by
  have := nmRun_all r
  simp only [nmRun, List.length_cons, List.all_cons, Bool.and_eq_true]
  cases isNmB (ib b)
  ·simp
  ·simp [this]
theorem s_l02NameEnd_L3_ok {s : List UInt8} (h : s.length ≤ 9223372036854775807) : ∀ (n i : Nat), i + n = s.length → s_l02NameEnd_L3 s i = some ((i + nmRun (s.drop i) : Nat) : Int) := by
 intro n
 induction n with
 | zero =>
  intro i hi
  have : i = s.length := by omega
  subst this
  rw [s_l02NameEnd_L3_eq, s_l02NameEnd_L5_eq, List.drop_length]
  simp [len_eq, nmRun]
 | succ n ih =>
  intro i hi
  have hlt : i < s.length := by omega
  have hc : decide ((i : Int) < len s) = true := by simp [len_eq, hlt]
  rw [s_l02NameEnd_L3_eq, if_pos hc, idx_nat, List.getElem?_eq_getElem hlt, List.drop_eq_getElem_cons hlt]
  simp only [Option.bind_some, s_l02Letter_ok, s_l02Digit_ok, s_l02NameEnd_L4_eq, s_l02NameEnd_L5_eq, nmRun]
  have hw : w64 ((i : Int) + 1) = ((i + 1 : Nat) : Int) := by rw [w64_of (by omega) (by omega)]; omega
  rw [hw, ih (i + 1) (by omega)]
  unfold isNmB
  cases isLet (ib s[i]) <;> cases isDig (ib s[i]) <;> cases hb : (ib s[i] == 95) <;> simp <;> omega
theorem s_l02NameEnd_ok {s : List UInt8} (h : s.length ≤ 9223372036854775807) {i : Nat} (hi : i ≤ s.length) :
  s_l02NameEnd s i = some (match s.drop i with
   | [] => (i : Int)
   | b :: r => if isLet (ib b) then ((i + nmRun (b :: r) : Nat) : Int) else i) := by
 rw [s_l02NameEnd_eq]
 by_cases hlt : i < s.length
 ·have hc : ¬ decide ((i : Int) ≥ len s) = true := by simp only [len_eq, decide_eq_true_eq]; omega
  rw [if_neg hc, idx_nat, List.getElem?_eq_getElem hlt, List.drop_eq_getElem_cons hlt]
  simp only [Option.bind_some, s_l02Letter_ok]
  rw [s_l02NameEnd_L3_ok h (s.length - i) i (by omega), List.drop_eq_getElem_cons hlt]
  cases isLet (ib s[i]) <;> simp
 ·have : i = s.length := by omega
  subst this
  rw [List.drop_length]
  simp [len_eq]
theorem s_IsName_ok {s : List UInt8} : s_IsName s = some (isName s) := by
 rw [s_IsName_eq]
 cases s with
 | nil => simp [isName]
 | cons b r =>
  have h0 : (!(b :: r) == []) = true := rfl
  rw [if_pos h0]
  by_cases h : (b :: r).length ≤ 12
  ·have h2 : decide (len (b :: r) ≤ 12) = true := by simp only [len_eq, decide_eq_true_eq]; omega
   have := s_l02NameEnd_ok (s := b :: r) (by omega) (Nat.zero_le _)
   simp only [Int.natCast_zero, List.drop_zero, Nat.zero_add] at this
   rw [if_pos h2, this]
   simp only [isName, h, decide_true, Bool.true_and, Option.bind_some, len_eq]
   congr 1
   rw [Bool.eq_iff_iff, Bool.and_eq_true, ← nmRun_all]
   cases hL : isLet (ib b)
   ·simp; omega
   ·simp; omega
  ·have h2 : ¬ decide (len (b :: r) ≤ 12) = true := by simp only [len_eq, decide_eq_true_eq]; omega
   rw [if_neg h2]
   simp only [isName, h, decide_false, Bool.false_and]
end Go.Dv.U

namespace Go.Dv.U
open Go Go.Dv Go.Proofs
def hasB (c : Int) (s : List UInt8) : Bool := s.any fun b => ib b == c
end Go.Dv.U

namespace Go.Dv.U
open Go Go.Dv Go.Proofs
def vVal (v : TValue) : Bool :=
 if v.fKind = 1 then v.fNum == 0 && v.fRef == 0 && decide (v.fText.length ≤ 200)
 else if v.fKind = 2 then v.fText == [] && v.fRef == 0 && decide (-1000000000000 ≤ v.fNum) && decide (v.fNum ≤ 1000000000000)
 else if v.fKind = 3 then v.fNum == 0 && v.fRef == 0 && decide (1 ≤ v.fText.length) && decide (v.fText.length ≤ 1200)
 else if v.fKind = 4 ∨ v.fKind = 5 ∨ v.fKind = 6 then v.fNum == 0 && v.fText == [] && decide (1 ≤ v.fRef) && decide (v.fRef ≤ 1000000)
 else if v.fKind = 7 ∨ v.fKind = 8 then v.fNum == 0 && v.fRef == 0 && isName v.fText
 else false
theorem s_l06Plain_ok (v : TValue) (a b c : Bool) : s_l06Plain v a b c = some ((a || v.fNum == 0) && (b || v.fText == []) && (c || v.fRef == 0)) := by
 rw [s_l06Plain_eq]
 cases a <;> cases b <;> cases c <;> simp only [Bool.false_eq_true, if_false, if_true, Bool.true_or, Bool.false_or, Bool.true_and, Bool.and_true] <;> grind
theorem s_ValidValue_ok (v : TValue) : s_ValidValue v = some (vVal v) := by
 rw [s_ValidValue_eq]
 simp only [s_ValidValue_L11_eq, s_ValidValue_L12_eq, s_l06Plain_ok, s_l00In_ok, s_IsName_ok, Option.bind_some, ite_some, len_eq]
 congr 1
 unfold vVal
 have e : ∀ n : Nat, decide ((1 : Int) ≤ (n : Int)) = decide (1 ≤ n) := fun n => by rw [Bool.eq_iff_iff]; simp only [decide_eq_true_eq]; omega
 have e2 : ∀ n : Nat, decide ((n : Int) ≤ (1200 : Int)) = decide (n ≤ 1200) := fun n => by rw [Bool.eq_iff_iff]; simp only [decide_eq_true_eq]; omega
 have e3 : ∀ n : Nat, decide ((n : Int) ≤ (200 : Int)) = decide (n ≤ 200) := fun n => by rw [Bool.eq_iff_iff]; simp only [decide_eq_true_eq]; omega
 simp only [e, e2, e3]
 grind
theorem i_isObjectId_ok (n : Int) : i_isObjectId n = some (decide (1 ≤ n) && decide (n ≤ 1000000)) := by
 rw [i_isObjectId_eq, i_within_ok]; rfl
theorem i_ValidValue_ok (v : TValue) : i_ValidValue v = some (vVal v) := by
 rw [i_ValidValue_eq]
 simp only [i_ValidValue_L11_eq, i_ValidValue_L12_eq, i_isObjectId_ok, i_within_ok, i_IsName_ok, Option.bind_some, ite_some, len_eq]
 congr 1
 unfold vVal
 have e : ∀ n : Nat, decide ((n : Int) ≥ (1 : Int)) = decide (1 ≤ n) := fun n => by rw [Bool.eq_iff_iff]; simp only [decide_eq_true_eq]; omega
 have e2 : ∀ n : Nat, decide ((n : Int) ≤ (1200 : Int)) = decide (n ≤ 1200) := fun n => by rw [Bool.eq_iff_iff]; simp only [decide_eq_true_eq]; omega
 have e3 : ∀ n : Nat, decide ((n : Int) ≤ (200 : Int)) = decide (n ≤ 200) := fun n => by rw [Bool.eq_iff_iff]; simp only [decide_eq_true_eq]; omega
 simp only [e, e2, e3]
 grind
def vNull (v : TValue) : Bool := v.fKind == 1 && v.fNum == 0 && v.fText == [] && v.fRef == 0
theorem s_IsNull_ok (v : TValue) : s_IsNull v = some (vNull v) := by
 rw [s_IsNull_eq]; unfold vNull; simp only [Bool.and_true, Bool.and_assoc]
theorem i_null_ok : i_null = some (TValue.mk 1 0 [] 0) := by
 rw [i_null_eq, i_textOf_eq]; rfl
theorem i_IsNull_ok (v : TValue) : i_IsNull v = some (vNull v) := by
 rw [i_IsNull_eq, i_null_ok]; unfold vNull; simp only [Option.bind_some, Bool.and_true, Bool.and_assoc]
end Go.Dv.U

namespace Go.Dv.U
open Go Go.Dv Go.Proofs
def vSame (a b : TValue) : Bool := a.fKind == b.fKind && (a.fNum == b.fNum && (a.fText == b.fText && (a.fRef == b.fRef && true)))
def vDist (l : List TValue) : Bool := gate (fun y i => !(l.take i).any (vSame y)) l 0
theorem ixF_cases {α : Type} (p : α → Bool) : ∀ (l : List α) (i : Nat), (∃ (k : Nat) (o : α), ixF p l i = ((i + k : Nat) : Int) ∧ l[k]? = some o ∧ l.find? p = some o ∧ l.any p = true) ∨ (ixF p l i = -1 ∧ l.find? p = none ∧ l.any p = false)
 | [], i => Or.inr ⟨rfl, rfl, rfl⟩
 | y :: r, i => by
  by_cases h : p y = true
  ·exact Or.inl ⟨0, y, by simp [ixF, h], by simp, by simp [h], by simp [h]⟩
  ·rcases ixF_cases p r (i + 1) with ⟨k, o, e1, e2, e3, e4⟩ | ⟨e1, e2, e3⟩
   ·refine Or.inl ⟨k + 1, o, ?_, by simpa using e2, by simp [h, e3], by simp [e4]⟩
    rw [ixF, if_neg h, e1]; congr 1; omega
   ·exact Or.inr ⟨by rw [ixF, if_neg h, e1], by simp [h, e2], by simp [h, e3]⟩
theorem s_SameValue_ok (a b : TValue) : s_SameValue a b = some (vSame a b) := by rw [s_SameValue_eq]; rfl
theorem s_l07Distinct_L5_ok (l : List TValue) (i : Nat) (hi : i < l.length) (hl : l.length ≤ 1048576) : ∀ (n j : Nat), j + n = i → s_l07Distinct_L5 l (i : Int) (j : Int) = if ((l.take i).drop j).any (vSame l[i]) = true then some false else s_l07Distinct_L2 l ((i + 1 : Nat) : Int)
 | 0, j, h => by
  obtain rfl : j = i := by omega
  rw [s_l07Distinct_L5_eq, if_neg (by simp)]
  have w : w64 ((j : Int) + 1) = ((j + 1 : Nat) : Int) := by rw [w64_of (by omega) (by omega)]; omega
  rw [w, List.drop_eq_nil_of_le (by simp; omega)]
  simp
 | n + 1, j, h => by
  have w : w64 ((j : Int) + 1) = ((j + 1 : Nat) : Int) := by rw [w64_of (by omega) (by omega)]; omega
  rw [s_l07Distinct_L5_eq, if_pos (by simp only [decide_eq_true_eq]; omega), idx_nat, idx_nat, List.getElem?_eq_getElem hi, List.getElem?_eq_getElem (show j < l.length by omega), w, s_l07Distinct_L5_ok l i hi hl n (j + 1) (by omega)]
  have e : (l.take i).drop j = l[j] :: (l.take i).drop (j + 1) := by
   rw [List.drop_eq_getElem_cons (show j < (l.take i).length by simp; omega)]; simp
  rw [e]
  simp only [Option.bind_some, s_SameValue_ok, List.any_cons]
  by_cases hvs : vSame l[i] l[j] = true <;> simp [hvs]
theorem s_l07Distinct_ok {l : List TValue} (hl : l.length ≤ 1048576) : s_l07Distinct l = some (vDist l) := by
 rw [s_l07Distinct_eq]
 have key := gate_loop (xs := l) (by omega) (c := fun y i => !(l.take i).any (vSame y)) (J := fun i => s_l07Distinct_L2 l i) (by
  intro i y hlt hy hi hw
  show s_l07Distinct_L2 _ _ = _
  have hy2 : l[i] = y := by rw [idx_nat, List.getElem?_eq_getElem hlt] at hi; simpa using hi
  have := s_l07Distinct_L5_ok l i hlt hl i 0 (by omega)
  rw [s_l07Distinct_L2_eq, if_pos (by simp [len_eq, hlt])]
  rw [Int.natCast_zero] at this
  rw [this, hy2, List.drop_zero]
  cases (l.take i).any (vSame y) <;> simp)
 rw [show s_l07Distinct_L2 l 0 = _ from key, vDist]
 split
 ·rename_i h; rw [s_l07Distinct_L2_eq, if_neg (by simp [len_eq]), h]
 ·rename_i h; rw [Bool.not_eq_true] at h; rw [h]
theorem containsV_ok {l : List TValue} (hl : l.length ≤ 1048576) (y : TValue) : slices_Contains___i_Value_i_Value_ l y = some (l.any (vSame y)) := by
 rw [slices_Contains___i_Value_i_Value__eq, slices_Index___i_Value_i_Value__eq]
 have key := ix_loop (xs := l) (by omega) (p := vSame y) (J := fun i => slices_Index___i_Value_i_Value__L2 l (len l) i y.fKind y.fNum y.fText y.fRef) (by
  intro i z hlt hz hi hw
  show slices_Index___i_Value_i_Value__L2 _ _ _ _ _ _ _ = _
  rw [slices_Index___i_Value_i_Value__L2_eq, if_pos (by simp [len_eq, hlt]), hi, hw]
  rfl) (by show slices_Index___i_Value_i_Value__L2 _ _ _ _ _ _ _ = _; rw [slices_Index___i_Value_i_Value__L2_eq, if_neg (by simp [len_eq])])
 rw [show slices_Index___i_Value_i_Value__L2 l (len l) 0 y.fKind y.fNum y.fText y.fRef = _ from key]
 simp only [Option.bind_some]
 rcases ixF_cases (vSame y) l 0 with ⟨k, o, e1, e2, e3, e4⟩ | ⟨e1, e2, e3⟩
 ·rw [e1, e4]; congr 1
 ·rw [e1, e3]; rfl
theorem i_areDifferent_ok {l : List TValue} (hl : l.length ≤ 1048576) : i_areDifferent l = some (vDist l) := by
 rw [i_areDifferent_eq]
 have key := gate_loop (xs := l) (by omega) (c := fun y i => !(l.take i).any (vSame y)) (J := fun i => i_areDifferent_L2 l l (len l) i) (by
  intro i y hlt hy hi hw
  show i_areDifferent_L2 _ _ _ _ = _
  have hc := cut_of (xs := l) (a := 0) (b := i) (by omega) (by omega)
  rw [Int.natCast_zero, List.drop_zero] at hc
  rw [i_areDifferent_L2_eq, if_pos (by simp [len_eq, hlt]), hi, hw]
  simp only [Option.bind_some, Option.getD_some, hc]
  rw [containsV_ok (by simp; omega)]
  simp only [Option.bind_some]
  cases (l.take i).any (vSame y) <;> simp)
 rw [show i_areDifferent_L2 l l (len l) 0 = _ from key, vDist]
 split
 ·rename_i h; rw [i_areDifferent_L2_eq, if_neg (by simp [len_eq]), h]
 ·rename_i h; rw [Bool.not_eq_true] at h; rw [h]
theorem s_validValues_ok {l : List TValue} (hl : l.length ≤ 1048576) (n : Nat) : s_l07ValidValues l (n : Int) = some (decide (l.length ≤ n) && l.all vVal) := by
 rw [s_l07ValidValues_eq]
 have key := all_loop (xs := l) (by omega) (F := s_ValidValue) (p := vVal) (J := fun i => s_l07ValidValues_L4 l i) (fun i => by show s_l07ValidValues_L4 _ _ = _; rw [s_l07ValidValues_L4_eq]) (fun y _ => s_ValidValue_ok y)
 rw [show s_l07ValidValues_L4 l 0 = _ from key]
 by_cases h : l.length ≤ n
 ·rw [if_neg (by simp only [len_eq, decide_eq_true_eq]; omega)]; simp [h]
 ·rw [if_pos (by simp only [len_eq, decide_eq_true_eq]; omega)]; simp [h]
theorem i_validValues_ok {l : List TValue} (hl : l.length ≤ 1048576) : i_areAll_impl_Value__i_ValidValue l = some (l.all vVal) := by
 rw [i_areAll_impl_Value__i_ValidValue_eq]
 exact all_loop (xs := l) (by omega) (F := i_ValidValue) (p := vVal) (J := fun i => i_areAll_impl_Value_L2__i_ValidValue l (len l) i) (fun i => by show i_areAll_impl_Value_L2__i_ValidValue _ _ _ = _; rw [i_areAll_impl_Value_L2__i_ValidValue_eq]) (fun y _ => i_ValidValue_ok y)
def fieldB (v : TValue) : Bool := v.fKind == 1 && vVal v && isName v.fText
theorem isName_len07 {s : List UInt8} (h : isName s = true) : s.length ≤ 12 := by
 cases s with
 | nil => simp
 | cons b r =>
  simp only [isName, Bool.and_eq_true_iff, decide_eq_true_eq] at h
  exact h.1.1
theorem i_isField_ok (v : TValue) : i_isField v = some (fieldB v) := by
 rw [i_isField_eq]
 simp only [i_textOf_eq, Option.bind_some, i_IsName_ok]
 unfold fieldB vVal
 have hn := @isName_len07 v.fText
 by_cases h : v.fKind = 1
 ·by_cases hb : isName v.fText = true
  ·have h12 := hn hb
   have h200 : v.fText.length ≤ 200 := by omega
   by_cases h1 : v.fNum = 0 <;> by_cases h2 : v.fRef = 0 <;> simp [h, hb, h1, h2, h200]
  ·simp [h, hb]
 ·simp [h]
def fieldsB (l : List TValue) : Bool := decide (1 ≤ l.length) && decide (l.length ≤ 6) && l.all fieldB && vDist l
theorem all_and {α : Type} (p q : α → Bool) (l : List α) : l.all (fun y => p y && q y) = (l.all p && l.all q) := by
 induction l with
 | nil => rfl
 | cons y r ih => simp only [List.all_cons, ih]; cases p y <;> cases q y <;> cases r.all p <;> simp
theorem s_fields_ok {l : List TValue} (hl : l.length ≤ 1048576) : s_l07FieldNames l = some (fieldsB l) := by
 rw [s_l07FieldNames_eq]
 have key := gate_loop (xs := l) (by omega) (c := fun y _ => y.fKind == 1 && isName y.fText) (J := fun i => s_l07FieldNames_L2 l i) (by
  intro i y hlt hy hi hw
  show s_l07FieldNames_L2 _ _ = _
  rw [s_l07FieldNames_L2_eq, if_pos (by simp [len_eq, hlt]), hi, hw]
  simp only [Option.bind_some, s_IsName_ok, bne]
  cases (y.fKind == 1) <;> cases isName y.fText <;> simp)
 have hg : ∀ (q : List TValue) (i : Nat), gate (fun y _ => y.fKind == 1 && isName y.fText) q i = q.all fun y => y.fKind == 1 && isName y.fText := by
  intro q; induction q with
  | nil => intro i; rfl
  | cons y r ih => intro i; simp only [gate, ih, List.all_cons]
 rw [show s_l07FieldNames_L2 l 0 = _ from key, hg]
 have e6 := s_validValues_ok hl 6
 have hall : l.all fieldB = ((l.all fun y => y.fKind == 1 && isName y.fText) && l.all vVal) := by
  rw [← all_and]; congr 1; funext y; unfold fieldB; cases (y.fKind == 1) <;> cases vVal y <;> simp
 unfold fieldsB
 rw [hall]
 cases ha : (l.all fun y => y.fKind == 1 && isName y.fText)
 ·simp
 ·rw [if_pos rfl, s_l07FieldNames_L2_eq, if_neg (by simp [len_eq])]
  rw [show ((6 : Nat) : Int) = (6 : Int) from rfl] at e6
  rw [e6, s_l07Distinct_ok hl]
  simp only [Option.bind_some, len_eq, ge_iff_le]
  have e : decide ((1 : Int) ≤ (l.length : Int)) = decide (1 ≤ l.length) := by rw [Bool.eq_iff_iff]; simp only [decide_eq_true_eq]; omega
  rw [e]
  cases decide (1 ≤ l.length) <;> cases decide (l.length ≤ 6) <;> cases l.all vVal <;> simp
theorem i_areFieldsV_ok {l : List TValue} (hl : l.length ≤ 1048576) : i_areAll_impl_Value__i_isField l = some (l.all fieldB) := by
 rw [i_areAll_impl_Value__i_isField_eq]
 exact all_loop (xs := l) (by omega) (F := i_isField) (p := fieldB) (J := fun i => i_areAll_impl_Value_L2__i_isField l (len l) i) (fun i => by show i_areAll_impl_Value_L2__i_isField _ _ _ = _; rw [i_areAll_impl_Value_L2__i_isField_eq]) (fun y _ => i_isField_ok y)
def vZ (v : TValue) : Bool := v.fKind == 0 && (v.fNum == 0 && (v.fText == [] && (v.fRef == 0 && true)))
def obOk (o : TObject) : Bool := (decide (1 ≤ o.fId) && decide (o.fId ≤ 1000000)) && (decide (o.fVals.length ≤ 30) && o.fVals.all vVal) &&
  (if o.fKind = 1 then o.fName == [] && (decide (-1000 ≤ o.fLow) && decide (o.fLow ≤ 1000)) && decide (o.fKeys.length = 0) && vZ o.fDefault
   else if o.fKind = 2 then o.fName == [] && o.fLow == 0 && decide (o.fKeys.length = o.fVals.length) && o.fKeys.all vVal && vDist o.fKeys && vVal o.fDefault
   else if o.fKind = 3 then isName o.fName && o.fLow == 0 && decide (o.fKeys.length = o.fVals.length) && fieldsB o.fKeys && vZ o.fDefault
   else false)
theorem dec_len {a b : Nat} : ((a : Int) == (b : Int)) = decide (a = b) := by
 rw [Bool.eq_iff_iff]; simp only [beq_iff_eq, decide_eq_true_eq]; omega
theorem dec_len0 {a : Nat} : ((a : Int) == (0 : Int)) = decide (a = 0) := by
 rw [Bool.eq_iff_iff]; simp only [beq_iff_eq, decide_eq_true_eq]; omega
theorem dec_gt {a b : Nat} : decide ((a : Int) > (b : Int)) = !decide (a ≤ b) := by
 rw [Bool.eq_iff_iff]; simp only [Bool.not_eq_true', decide_eq_true_eq, decide_eq_false_iff_not]; omega
theorem s_l07Object_ok {o : TObject} (h1 : o.fKeys.length ≤ 1048576) (h2 : o.fVals.length ≤ 1048576) : s_l07Object o = some (obOk o) := by
 have e30 : ∀ {l : List TValue} (hl : l.length ≤ 1048576), s_l07ValidValues l 30 = some (decide (l.length ≤ 30) && l.all vVal) := fun hl => s_validValues_ok hl 30
 rw [s_l07Object_eq]
 simp only [s_l00In_ok, Option.bind_some, e30 h1, e30 h2, s_IsName_ok, s_fields_ok h1, s_l07Distinct_ok h1, s_ValidValue_ok, len_eq, dec_len, dec_len0]
 unfold obOk vZ
 cases (decide (1 ≤ o.fId) && decide (o.fId ≤ 1000000))
 ·simp
 cases hv : (decide (o.fVals.length ≤ 30) && o.fVals.all vVal)
 ·simp
 simp only [Bool.and_eq_true, decide_eq_true_eq] at hv
 simp only [Bool.not_true, Bool.false_eq_true, if_false, Bool.true_and, beq_iff_eq]
 by_cases k1 : o.fKind = 1
 ·rw [if_pos k1, if_pos k1]
  by_cases a : o.fName = [] <;> cases (decide (-1000 ≤ o.fLow) && decide (o.fLow ≤ 1000)) <;> by_cases b : o.fKeys.length = 0 <;> simp [a, b]
 ·rw [if_neg k1, if_neg k1]
  by_cases k2 : o.fKind = 2
  ·rw [if_pos k2, if_pos k2]
   by_cases a : o.fName = []
   ·by_cases b : o.fLow = 0
    ·by_cases c : o.fKeys.length = o.fVals.length
     ·have : o.fKeys.length ≤ 30 := by omega
      cases hk : o.fKeys.all vVal <;> cases vDist o.fKeys <;> simp_all
     ·simp [a, b, c]
    ·simp [a, b]
   ·simp [a]
  ·rw [if_neg k2, if_neg k2]
   by_cases k3 : o.fKind = 3
   ·rw [if_pos k3, if_pos k3]
    cases isName o.fName <;> by_cases b : o.fLow = 0 <;> by_cases c : o.fKeys.length = o.fVals.length <;> cases fieldsB o.fKeys <;> simp [b, c]
   ·rw [if_neg k3, if_neg k3]
theorem i_ValidObject_ok {o : TObject} (h1 : o.fKeys.length ≤ 1048576) (h2 : o.fVals.length ≤ 1048576) : i_ValidObject o = some (obOk o) := by
 rw [i_ValidObject_eq, i_ValidObject_L3_eq]
 simp only [i_ValidObject_L2_eq, i_ValidObject_L8_eq, i_ValidObject_L12_eq, i_isObjectId_ok, i_within_ok, Option.bind_some, i_validValues_ok h1, i_validValues_ok h2, i_IsName_ok, i_areFieldsV_ok h1, i_areDifferent_ok h1, i_ValidValue_ok, len_eq, dec_len, dec_len0]
 unfold obOk vZ fieldsB
 generalize (o.fDefault.fKind == 0 && (o.fDefault.fNum == 0 && (o.fDefault.fText == [] && (o.fDefault.fRef == 0 && true)))) = z
 cases (decide (1 ≤ o.fId) && decide (o.fId ≤ 1000000))
 ·simp
 by_cases hv : o.fVals.length ≤ 30
 rotate_left
 ·simp [hv]; omega
 have hv2 : decide ((o.fVals.length : Int) > 30) = false := by simp only [decide_eq_false_iff_not]; omega
 cases hw : o.fVals.all vVal
 ·simp [hv, hv2]
 simp only [hv, hv2, Bool.not_true, Bool.false_eq_true, if_false, Bool.true_and, beq_iff_eq, decide_true]
 by_cases k1 : o.fKind = 1
 ·rw [if_pos k1, if_pos k1]
  by_cases a : o.fName = [] <;> cases (decide (-1000 ≤ o.fLow) && decide (o.fLow ≤ 1000)) <;> by_cases b : o.fKeys.length = 0 <;> cases z <;> simp [a, b]
 ·rw [if_neg k1, if_neg k1]
  by_cases k2 : o.fKind = 2
  ·rw [if_pos k2, if_pos k2]
   by_cases a : o.fName = [] <;> by_cases b : o.fLow = 0 <;> by_cases c : o.fKeys.length = o.fVals.length <;> cases o.fKeys.all vVal <;> cases vDist o.fKeys <;> cases vVal o.fDefault <;> simp [a, b, c]
  ·rw [if_neg k2, if_neg k2]
   by_cases k3 : o.fKind = 3
   ·rw [if_pos k3, if_pos k3]
    have e1 : decide ((o.fKeys.length : Int) ≥ 1) = decide (1 ≤ o.fKeys.length) := by rw [Bool.eq_iff_iff]; simp only [decide_eq_true_eq]; omega
    have e6 : decide ((o.fKeys.length : Int) ≤ 6) = decide (o.fKeys.length ≤ 6) := by rw [Bool.eq_iff_iff]; simp only [decide_eq_true_eq]; omega
    rw [e1, e6]
    cases isName o.fName <;> by_cases b : o.fLow = 0 <;> by_cases c : o.fKeys.length = o.fVals.length <;> cases decide (1 ≤ o.fKeys.length) <;> cases decide (o.fKeys.length ≤ 6) <;> cases o.fKeys.all fieldB <;> cases vDist o.fKeys <;> cases z <;> simp [b, c]
   ·rw [if_neg k3, if_neg k3]
def vFits (O : List TObject) (v : TValue) : Bool := vVal v && (if 4 ≤ v.fKind ∧ v.fKind ≤ 6 then (match O.find? fun o => o.fId == v.fRef with | some o => o.fKind == v.fKind - 3 | none => false) else true)
theorem kind_sub {k : Int} (h1 : 4 ≤ k) (h2 : k ≤ 6) : w64 (w64 (k - 4) + 1) = k - 3 := by
 rw [show w64 (k - 4) = k - 4 from w64_of (by omega) (by omega), w64_of (by omega) (by omega)]; omega
theorem s_find_ok {O : List TObject} (hO : O.length ≤ 1048576) (n r : Int) : s_l07Find n O r = some (ixF (fun o => o.fId == r) O 0) := by
 rw [s_l07Find_eq]
 exact ix_loop (xs := O) (by omega) (p := fun o => o.fId == r) (J := fun i => s_l07Find_L2 n O r i) (by
  intro i z hlt hz hi hw
  show s_l07Find_L2 _ _ _ _ = _
  rw [s_l07Find_L2_eq, if_pos (by simp [len_eq, hlt]), hi, hw]
  rfl) (by show s_l07Find_L2 _ _ _ _ = _; rw [s_l07Find_L2_eq, if_neg (by simp [len_eq])])
theorem s_Fits_ok {O : List TObject} (hO : O.length ≤ 1048576) (n : Int) (v : TValue) : s_l07Fits n O v = some (vFits O v) := by
 rw [s_l07Fits_eq]
 simp only [s_ValidValue_ok, s_l07IsRef_eq, s_l00In_ok, Option.bind_some, s_find_ok hO, s_l07ObjectKind_eq]
 unfold vFits
 cases vVal v
 ·simp
 by_cases h : 4 ≤ v.fKind ∧ v.fKind ≤ 6
 ·rw [if_pos h, kind_sub h.1 h.2]
  rcases ixF_cases (fun o : TObject => o.fId == v.fRef) O 0 with ⟨k, o, e1, e2, e3, e4⟩ | ⟨e1, e2, e3⟩
  ·rw [e1, e3, Nat.zero_add, idx_nat, e2]; simp [h.1, h.2]
  ·rw [e1, e2]; simp [h.1, h.2]
 ·rw [if_neg h]
  have : (decide (4 ≤ v.fKind) && decide (v.fKind ≤ 6)) = false := by
   rw [Bool.eq_false_iff]; simpa using h
  rw [this]; simp
def incF : Int → List TObject → Bool
 | _, [] => true
 | p, o :: r => decide (p < o.fId) && incF o.fId r
theorem incF_lo : ∀ (l : List TObject) (p : Int), incF p l = true → ∀ (b : Nat) (hb : b < l.length), p < l[b].fId
 | o :: r, p, h, 0, hb => by simp only [incF, Bool.and_eq_true, decide_eq_true_eq] at h; exact h.1
 | o :: r, p, h, b + 1, hb => by
  simp only [incF, Bool.and_eq_true, decide_eq_true_eq] at h
  have := incF_lo r o.fId h.2 b (by simpa using hb)
  simp only [List.getElem_cons_succ]; omega
theorem incF_lt : ∀ (l : List TObject) (p : Int), incF p l = true → ∀ (a b : Nat) (hb : b < l.length) (hab : a < b), l[a].fId < l[b].fId
 | o :: r, p, h, 0, b + 1, hb, hab => by
  simp only [incF, Bool.and_eq_true, decide_eq_true_eq] at h
  exact incF_lo r o.fId h.2 b (by simpa using hb)
 | o :: r, p, h, a + 1, b + 1, hb, hab => by
  simp only [incF, Bool.and_eq_true, decide_eq_true_eq] at h
  exact incF_lt r o.fId h.2 a b (by simpa using hb) (by omega)
theorem cmpI_ok (a b : Int) : cmp_Compare_int64 a b = some (if a < b then -1 else if a > b then 1 else 0) := by
 rw [cmp_Compare_int64_eq]
 simp only [cmp_isNaN_int64_eq, Option.bind_some, bne_self_eq_false, Bool.false_eq_true, if_false, decide_eq_true_eq]
 split
 ·rfl
 ·split <;> rfl
theorem half07 {i j : Nat} (h : i + j < 4611686018427387904) : shr IntKind.u64 (IntKind.u64.wrap (w64 ((i : Int) + (j : Int)))) 1 = some (((i + j) / 2 : Nat) : Int) := by
 have e1 : w64 ((i : Int) + (j : Int)) = ((i + j : Nat) : Int) := by rw [w64_of (by omega) (by omega)]; omega
 rw [e1]
 have e2 : IntKind.u64.wrap ((i + j : Nat) : Int) = ((i + j : Nat) : Int) := by unfold IntKind.wrap; simp [IntKind.bits, IntKind.signed]; omega
 rw [e2]
 unfold shr
 rw [if_neg (by decide)]
 congr 1
 have : (2 : Int) ^ (min (1 : Int).toNat IntKind.u64.bits) = 2 := by decide
 rw [this, Int.fdiv_eq_ediv_of_nonneg _ (by decide)]
 omega
theorem search07 {xs : List TObject} (hx : xs.length ≤ 1048576) (r : Int) (hs : ∀ (a b : Nat) (hb : b < xs.length) (hab : a < b), xs[a].fId < xs[b].fId) :
  ∀ (d i j : Nat), j - i ≤ d → i ≤ j → j ≤ xs.length → (∀ k (h : k < xs.length), k < i → xs[k].fId < r) → (∀ k (h : k < xs.length), j ≤ k → ¬ xs[k].fId < r) →
  ∃ k : Nat, k ≤ xs.length ∧ (∀ q (h : q < xs.length), q < k → xs[q].fId < r) ∧ (∀ q (h : q < xs.length), k ≤ q → ¬ xs[q].fId < r) ∧
   slices_BinarySearchFunc___i_Object_i_Object_int64__L3__i_Heap_find_c1 xs r (len xs) i j = some ((k : Int), match xs[k]? with | some b => b.fId == r | none => false) := by
 intro d
 induction d with
 | zero =>
  intro i j h0 hij hj h1 h2
  obtain rfl : i = j := by omega
  refine ⟨i, hj, h1, h2, ?_⟩
  rw [slices_BinarySearchFunc___i_Object_i_Object_int64__L3__i_Heap_find_c1_eq, if_neg (by simp)]
  by_cases hlt : i < xs.length
  ·rw [if_pos (by simp [len_eq, hlt]), idx_nat, List.getElem?_eq_getElem hlt]
   simp only [Option.bind_some, i_Heap_find_c1_eq, cmpI_ok]
   have := h2 i hlt (Nat.le_refl _)
   by_cases e : xs[i].fId = r
   ·simp [e]
   ·rw [if_neg this, if_pos (by omega)]; simp [e]
  ·rw [if_neg (by simp only [len_eq, decide_eq_true_eq]; omega), List.getElem?_eq_none (by omega)]
 | succ d ih =>
  intro i j h0 hij hj h1 h2
  by_cases e : i = j
  ·exact ih i j (by omega) hij hj h1 h2
  ·have hlt : (i + j) / 2 < xs.length := by omega
   rw [slices_BinarySearchFunc___i_Object_i_Object_int64__L3__i_Heap_find_c1_eq, if_pos (by simp only [decide_eq_true_eq]; omega), half07 (by omega)]
   simp only [Option.bind_some]
   have e1 : w64 (((i + j) / 2 : Nat) : Int) = (((i + j) / 2 : Nat) : Int) := w64_of (by omega) (by omega)
   have e2 : w64 ((((i + j) / 2 : Nat) : Int) + 1) = (((i + j) / 2 + 1 : Nat) : Int) := by rw [w64_of (by omega) (by omega)]; omega
   rw [e1, e2, idx_nat, List.getElem?_eq_getElem hlt]
   simp only [Option.bind_some, i_Heap_find_c1_eq, cmpI_ok]
   by_cases hb : xs[(i + j) / 2].fId < r
   ·rw [if_pos hb, if_pos (by decide)]
    refine ih ((i + j) / 2 + 1) j (by omega) (by omega) hj (fun k hk hki => ?_) h2
    by_cases ek : k = (i + j) / 2
    ·subst ek; exact hb
    ·have := hs k ((i + j) / 2) hlt (by omega); omega
   ·rw [if_neg hb, if_neg (by split <;> decide)]
    refine ih i ((i + j) / 2) (by omega) (by omega) (by omega) h1 fun k hk hki => ?_
    by_cases ek : k = (i + j) / 2
    ·subst ek; exact hb
    ·have := hs ((i + j) / 2) k hk (by omega); omega
theorem find_at {xs : List TObject} (r : Int) : ∀ (xs : List TObject) (k : Nat) (hk : k < xs.length), xs[k].fId = r → (∀ q (h : q < xs.length), q < k → ¬ xs[q].fId = r) → xs.find? (fun o => o.fId == r) = some xs[k]
 | b :: l, 0, hk, h1, _ => by simp only [List.getElem_cons_zero] at h1 ⊢; simp [h1]
 | b :: l, k + 1, hk, h1, h2 => by
  have h0 := h2 0 (by simp) (by omega)
  simp only [List.getElem_cons_zero] at h0
  simp only [List.getElem_cons_succ] at h1 ⊢
  rw [List.find?_cons_of_neg (by simpa using h0)]
  exact find_at (xs := l) r l k (by simpa using hk) h1 fun q hq hqk => by have := h2 (q + 1) (by simpa using hq) (by omega); simpa using this
theorem i_Heap_find_ok {h : THeap} (hO : h.fObjects.length ≤ 1048576) (hs : incF 0 h.fObjects = true) (r : Int) :
  (∃ (k : Nat) (o : TObject), i_Heap_find h r = some (k : Int) ∧ h.fObjects[k]? = some o ∧ h.fObjects.find? (fun o => o.fId == r) = some o) ∨ (i_Heap_find h r = some (-1) ∧ h.fObjects.find? (fun o => o.fId == r) = none) := by
 obtain ⟨k, h1, h2, h3, h4⟩ := search07 hO r (incF_lt _ _ hs) h.fObjects.length 0 h.fObjects.length (by omega) (by omega) (by omega) (fun k _ h => by omega) (fun k h h' => by omega)
 rw [i_Heap_find_eq, slices_BinarySearchFunc___i_Object_i_Object_int64___i_Heap_find_c1_eq]
 rw [show ((h.fObjects.length : Nat) : Int) = len h.fObjects from (len_eq _).symm, show (((0 : Nat)) : Int) = 0 from rfl] at h4
 rw [h4]
 simp only [Option.bind_some]
 by_cases hlt : k < h.fObjects.length
 ·rw [List.getElem?_eq_getElem hlt]
  by_cases e : h.fObjects[k].fId = r
  ·refine Or.inl ⟨k, h.fObjects[k], by simp [e], List.getElem?_eq_getElem hlt, find_at (xs := []) r _ k hlt e fun q hq hqk he => by have := h2 q hq hqk; omega⟩
  ·refine Or.inr ⟨by simp [e], ?_⟩
   rw [List.find?_eq_none]
   intro o ho he
   obtain ⟨q, hq, rfl⟩ := List.getElem_of_mem ho
   simp only [beq_iff_eq] at he
   by_cases hqk : q < k
   ·have := h2 q hq hqk; omega
   ·by_cases eq : q = k
    ·subst eq; exact e he
    ·have h5 := incF_lt _ _ hs k q hq (by omega)
     have h6 := h3 k hlt (Nat.le_refl _)
     omega
 ·rw [List.getElem?_eq_none (by omega)]
  refine Or.inr ⟨by simp, ?_⟩
  rw [List.find?_eq_none]
  intro o ho he
  obtain ⟨q, hq, rfl⟩ := List.getElem_of_mem ho
  simp only [beq_iff_eq] at he
  have := h2 q hq (by omega); omega
theorem i_Heap_fits_ok {h : THeap} (hO : h.fObjects.length ≤ 1048576) (hs : incF 0 h.fObjects = true) (v : TValue) : i_Heap_fits h v = some (vFits h.fObjects v) := by
 rw [i_Heap_fits_eq]
 simp only [i_ValidValue_ok, i_refers_eq, i_within_ok, Option.bind_some, i_objectKind_eq]
 unfold vFits
 cases vVal v
 ·simp
 by_cases hk : 4 ≤ v.fKind ∧ v.fKind ≤ 6
 ·rw [if_pos hk, kind_sub hk.1 hk.2]
  rcases i_Heap_find_ok hO hs v.fRef with ⟨k, o, e1, e2, e3⟩ | ⟨e1, e2⟩
  ·rw [e1, e3]; simp only [Option.bind_some, idx_nat, e2]; simp [hk.1, hk.2]
  ·rw [e1, e2]; simp [hk.1, hk.2]
 ·rw [if_neg hk]
  have : (decide (4 ≤ v.fKind) && decide (v.fKind ≤ 6)) = false := by
   rw [Bool.eq_false_iff]; simpa using hk
  rw [this]; simp
theorem s_fitAll_ok {O : List TObject} (hO : O.length ≤ 1048576) (n : Int) {l : List TValue} (hl : l.length ≤ 1048576) : s_l07FitAll n O l = some (l.all (vFits O)) := by
 rw [s_l07FitAll_eq]
 exact all_loop (xs := l) (by omega) (F := s_l07Fits n O) (p := vFits O) (J := fun i => s_l07FitAll_L2 n O l i) (fun i => by show s_l07FitAll_L2 _ _ _ _ = _; rw [s_l07FitAll_L2_eq]) (fun y _ => s_Fits_ok hO n y)
theorem i_fitAll_ok {O : List TObject} (hO : O.length ≤ 1048576) (hs : incF 0 O = true) (n : Int) {l : List TValue} (hl : l.length ≤ 2097153) : i_areAll_impl_Value__1000082 l n O = some (l.all (vFits O)) := by
 rw [i_areAll_impl_Value__1000082_eq]
 exact all_loop (xs := l) (by omega) (F := fun v => i_Heap_fits (THeap.mk n O) v) (p := vFits O) (J := fun i => i_areAll_impl_Value_L2__1000082 n O l (len l) i) (fun i => by show i_areAll_impl_Value_L2__1000082 _ _ _ _ _ = _; rw [i_areAll_impl_Value_L2__1000082_eq]) (fun y _ => i_Heap_fits_ok (h := THeap.mk n O) hO hs y)
theorem concatV {a b : List TValue} (ha : a.length ≤ 1048576) (hb : b.length ≤ 1048576) : slices_Concat___i_Value_i_Value__v1 [a, b] = some ((a ++ b, ()), ()) := by
 have w1 : w64 (0 + 1) = 1 := w64_of (by decide) (by decide)
 have w2 : w64 (1 + 1) = 2 := w64_of (by decide) (by decide)
 have l2 : len [a, b] = 2 := by simp [len_eq]
 have i0 : idx [a, b] 0 = some a := by rw [idx_zero]; rfl
 have i1 : idx [a, b] 1 = some b := by rw [show (1 : Int) = ((1 : Nat) : Int) from rfl, idx_nat]; rfl
 have wa : w64 (0 + len a) = len a := by rw [Int.zero_add]; exact w64_of (by simp only [len_eq]; omega) (by simp only [len_eq]; omega)
 have wb : w64 (len a + len b) = len a + len b := w64_of (by simp only [len_eq]; omega) (by simp only [len_eq]; omega)
 have na : ¬ decide (len a < 0) = true := by simp only [len_eq, decide_eq_true_eq]; omega
 have nb : ¬ decide (len a + len b < 0) = true := by simp only [len_eq, decide_eq_true_eq]; omega
 have g : growN (len a + len b) = some () := by
  unfold growN big; rw [if_pos (by simp only [len_eq]; omega)]
 rw [slices_Concat___i_Value_i_Value__v1_eq, l2, slices_Concat___i_Value_i_Value__L3_v1_eq, if_pos (by decide), i0, w1]
 simp only [Option.bind_some, wa, if_neg na]
 rw [slices_Concat___i_Value_i_Value__L3_v1_eq, if_pos (by decide), i1, w2]
 simp only [Option.bind_some, wb, if_neg nb]
 rw [slices_Concat___i_Value_i_Value__L3_v1_eq, if_neg (by decide), g, l2]
 simp only [Option.bind_some]
 rw [slices_Concat___i_Value_i_Value__L11_v1_eq, if_pos (by decide), i0, w1, Option.bind_some, app_of (by simp; omega), Option.bind_some, List.nil_append,
  slices_Concat___i_Value_i_Value__L11_v1_eq, if_pos (by decide), i1, w2, Option.bind_some, app_of (by omega), Option.bind_some, slices_Concat___i_Value_i_Value__L11_v1_eq, if_neg (by decide)]
def obRefs (O : List TObject) (o : TObject) : Bool := (o.fKeys ++ o.fVals ++ (if o.fKind = 2 then [o.fDefault] else [])).all (vFits O)
theorem s_refs_ok {O : List TObject} (hO : O.length ≤ 1048576) (n : Int) {o : TObject} (h1 : o.fKeys.length ≤ 1048576) (h2 : o.fVals.length ≤ 1048576) :
  s_l07Refs n O o.fId o.fKind o.fName o.fLow o.fKeys o.fVals o.fDefault.fKind o.fDefault.fNum o.fDefault.fText o.fDefault.fRef = some (obRefs O o) := by
 rw [s_l07Refs_eq, s_fitAll_ok hO n h1, s_fitAll_ok hO n h2]
 have ed : TValue.mk o.fDefault.fKind o.fDefault.fNum o.fDefault.fText o.fDefault.fRef = o.fDefault := by cases o.fDefault; rfl
 simp only [Option.bind_some, ed, s_Fits_ok hO]
 unfold obRefs
 simp only [List.all_append]
 by_cases k : o.fKind = 2
 ·cases o.fKeys.all (vFits O) <;> cases o.fVals.all (vFits O) <;> simp [k]
 ·cases o.fKeys.all (vFits O) <;> cases o.fVals.all (vFits O) <;> simp [k]
theorem i_refs_ok {O : List TObject} (hO : O.length ≤ 1048576) (hs : incF 0 O = true) (n : Int) {o : TObject} (h1 : o.fKeys.length ≤ 1048576) (h2 : o.fVals.length ≤ 1048576) :
  i_ValidHeap_c1 o n O = some (obRefs O o) := by
 rw [i_ValidHeap_c1_eq, i_Object_values_v1_eq, concatV h1 h2]
 simp only [Option.bind_some]
 unfold obRefs
 by_cases k : o.fKind = 2
 ·rw [if_pos (by simpa using k), app_of (by simp; omega)]
  simp only [Option.bind_some]
  rw [i_fitAll_ok hO hs n (by simp; omega)]
  simp [k]
 ·rw [if_neg (by simpa using k)]
  simp only [Option.bind_some]
  rw [i_fitAll_ok hO hs n (by simp; omega)]
  simp [k]
def hpOk (n : Int) (O : List TObject) : Bool := (decide (0 ≤ n) && decide (n ≤ 1000000)) && decide (O.length ≤ 40) && O.all obOk && (O.all (fun o => decide (o.fId ≤ n)) && incF 0 O) && O.all (obRefs O)
theorem hpOk_inc {n : Int} {O : List TObject} (h : hpOk n O = true) : incF 0 O = true := by
 unfold hpOk at h; simp only [Bool.and_eq_true] at h; exact h.1.2.2
theorem s_l07Ok_ok {n : Int} {O : List TObject} (hO : O.length ≤ 1048576) (hm : ∀ o ∈ O, o.fKeys.length ≤ 1048576 ∧ o.fVals.length ≤ 1048576) : s_l07Ok n O = some (hpOk n O) := by
 rw [s_l07Ok_eq]
 simp only [s_l00In_ok, Option.bind_some]
 unfold hpOk
 cases (decide (0 ≤ n) && decide (n ≤ 1000000))
 ·simp
 by_cases hl : O.length ≤ 40
 rotate_left
 ·simp only [hl, len_eq]; simp; omega
 have hl2 : ¬ decide (len O > 40) = true := by simp only [len_eq, decide_eq_true_eq]; omega
 rw [if_neg (by simp), if_neg hl2]
 have fin : s_l07Ok_L10 n O 0 = some (O.all (obRefs O)) :=
  all_loop (xs := O) (by omega) (F := fun o => s_l07Refs n O o.fId o.fKind o.fName o.fLow o.fKeys o.fVals o.fDefault.fKind o.fDefault.fNum o.fDefault.fText o.fDefault.fRef) (p := obRefs O) (J := fun i => s_l07Ok_L10 n O i) (fun i => by show s_l07Ok_L10 _ _ _ = _; rw [s_l07Ok_L10_eq]) (fun y hy => s_refs_ok hO n (hm y hy).1 (hm y hy).2)
 have key := loop_ind (xs := O) (by omega) (P := fun i l => ∀ p : Int, (i = 0 → p = 0) → (0 < i → ∃ o, O[i - 1]? = some o ∧ o.fId = p) → s_l07Ok_L4 n O (i : Int) = if (l.all obOk && (l.all (fun o => decide (o.fId ≤ n)) && incF p l)) = true then some (O.all (obRefs O)) else some false) (by
  intro p _ _
  rw [s_l07Ok_L4_eq, if_neg (by simp [len_eq]), fin]; simp [incF]) (by
  intro i y l hd hlt hy hi hw ih p hp0 hp1
  have hnx := ih y.fId (by omega) (fun _ => ⟨y, by rw [Nat.add_sub_cancel, ← idx_nat, hi], rfl⟩)
  rw [s_l07Ok_L4_eq, if_pos (by simp [len_eq, hlt]), hi]
  simp only [Option.bind_some, s_l07Object_ok (hm y hy).1 (hm y hy).2, s_l07Ok_L8_eq, s_l07Ok_L5_eq, hw, hnx]
  rw [show ((y :: l).all obOk && ((y :: l).all (fun o => decide (o.fId ≤ n)) && incF p (y :: l))) = (obOk y && l.all obOk && ((decide (y.fId ≤ n) && l.all fun o => decide (o.fId ≤ n)) && (decide (p < y.fId) && incF y.fId l))) from rfl]
  by_cases hob : obOk y = true
  rotate_left
  ·simp [hob]
  have hid : 1 ≤ y.fId := by unfold obOk at hob; simp only [Bool.and_eq_true, decide_eq_true_eq] at hob; exact hob.1.1.1
  by_cases hn : y.fId ≤ n
  rotate_left
  ·rw [if_neg (by simp [hob]), if_pos (by simp; omega), if_neg (by simp [hn])]
  rw [if_neg (by simp [hob]), if_neg (by simp; omega)]
  by_cases h0 : i = 0
  ·rw [if_neg (by simp; omega)]
   have : p < y.fId := by rw [hp0 h0]; omega
   simp [hn, this, hob]
  ·rw [if_pos (by simp; omega)]
   obtain ⟨o, ho, hop⟩ := hp1 (by omega)
   have w1 : w64 ((i : Int) - 1) = ((i - 1 : Nat) : Int) := by rw [w64_of (by omega) (by omega)]; omega
   rw [w1, idx_nat, ho]
   simp only [Option.bind_some, hop]
   by_cases hlt2 : p < y.fId
   ·rw [if_neg (by simp; omega)]; simp [hn, hlt2, hob]
   ·rw [if_pos (by simp; omega), if_neg (by simp [hlt2])])
 have k0 := key 0 (fun _ => rfl) (by omega)
 rw [Int.natCast_zero] at k0
 rw [k0]
 cases O.all obOk <;> cases (O.all fun o => decide (o.fId ≤ n)) <;> cases incF 0 O <;> simp [hl]
theorem i_ValidHeap_ok {h : THeap} (hO : h.fObjects.length ≤ 1048576) (hm : ∀ o ∈ h.fObjects, o.fKeys.length ≤ 1048576 ∧ o.fVals.length ≤ 1048576) : i_ValidHeap h = some (hpOk h.fNext h.fObjects) := by
 rw [i_ValidHeap_eq]
 simp only [i_within_ok, i_ValidHeap_L2_eq, i_ValidHeap_L3_eq, Option.bind_some]
 unfold hpOk
 cases (decide (0 ≤ h.fNext) && decide (h.fNext ≤ 1000000))
 ·simp
 by_cases hl : h.fObjects.length ≤ 40
 rotate_left
 ·simp only [hl, len_eq]; simp; omega
 have hl2 : ¬ decide (len h.fObjects > 40) = true := by simp only [len_eq, decide_eq_true_eq]; omega
 rw [if_neg (by simp), if_neg hl2]
 have ea : i_areAll_impl_Object__i_ValidObject h.fObjects = some (h.fObjects.all obOk) := by
  rw [i_areAll_impl_Object__i_ValidObject_eq]
  exact all_loop (xs := h.fObjects) (by omega) (F := i_ValidObject) (p := obOk) (J := fun i => i_areAll_impl_Object_L2__i_ValidObject h.fObjects (len h.fObjects) i) (fun i => by show i_areAll_impl_Object_L2__i_ValidObject _ _ _ = _; rw [i_areAll_impl_Object_L2__i_ValidObject_eq]) (fun y hy => i_ValidObject_ok (hm y hy).1 (hm y hy).2)
 rw [ea]
 simp only [Option.bind_some]
 cases h.fObjects.all obOk
 ·simp
 have key := loop_ind (xs := h.fObjects) (by omega) (P := fun i l => ∀ p : Int, i_ValidHeap_L5 p h.fObjects (len h.fObjects) (i : Int) h.fNext h.fObjects = if (l.all (fun o => decide (o.fId ≤ h.fNext)) && incF p l) = true then i_areAll_impl_Object__i_ValidHeap_c1 h.fObjects h.fNext h.fObjects else some false) (by
  intro p
  rw [i_ValidHeap_L5_eq, if_neg (by simp [len_eq])]; simp [incF]) (by
  intro i y l hd hlt hy hi hw ih p
  rw [i_ValidHeap_L5_eq, if_pos (by simp [len_eq, hlt]), hi]
  simp only [Option.bind_some, hw, ih]
  rw [show (((y :: l).all fun o => decide (o.fId ≤ h.fNext)) && incF p (y :: l)) = ((decide (y.fId ≤ h.fNext) && l.all fun o => decide (o.fId ≤ h.fNext)) && (decide (p < y.fId) && incF y.fId l)) from rfl]
  by_cases h1 : p < y.fId
  ·rw [if_neg (by simp; omega)]
   by_cases h2 : y.fId ≤ h.fNext
   ·rw [if_neg (by simp; omega)]; simp [h1, h2]
   ·rw [if_pos (by simp; omega), if_neg (by simp [h2])]
  ·rw [if_pos (by simp; omega), if_neg (by simp [h1])]) 0
 rw [Int.natCast_zero] at key
 rw [if_neg (by simp), key]
 cases hi : (h.fObjects.all fun o => decide (o.fId ≤ h.fNext)) && incF 0 h.fObjects
 ·simp
 ·have hinc : incF 0 h.fObjects = true := by simp only [Bool.and_eq_true] at hi; exact hi.2
  rw [if_pos rfl, i_areAll_impl_Object__i_ValidHeap_c1_eq]
  have fin : i_areAll_impl_Object_L2__i_ValidHeap_c1 h.fNext h.fObjects h.fObjects (len h.fObjects) 0 = some (h.fObjects.all (obRefs h.fObjects)) :=
   all_loop (xs := h.fObjects) (by omega) (F := fun o => i_ValidHeap_c1 o h.fNext h.fObjects) (p := obRefs h.fObjects) (J := fun i => i_areAll_impl_Object_L2__i_ValidHeap_c1 h.fNext h.fObjects h.fObjects (len h.fObjects) i) (fun i => by show i_areAll_impl_Object_L2__i_ValidHeap_c1 _ _ _ _ _ = _; rw [i_areAll_impl_Object_L2__i_ValidHeap_c1_eq]) (fun y hy => i_refs_ok hO hinc _ (hm y hy).1 (hm y hy).2)
  rw [fin]; simp [hl]
end Go.Dv.U

namespace Go.Dv.U
open Go Go.Dv Go.Proofs
def nmList (l : List (List UInt8)) : Bool := l.all isName && decide l.Nodup
theorem i_areAllName_ok {l : List (List UInt8)} (h : l.length ≤ 9223372036854775807) : i_areAll_string__i_IsName l = some (l.all isName) := by
 rw [i_areAll_string__i_IsName_eq]
 exact all_loop h (F := i_IsName) (p := isName) (J := i_areAll_string_L2__i_IsName l (len l)) (fun i => by rw [i_areAll_string_L2__i_IsName_eq]) (fun y _ => i_IsName_ok)
theorem cloneS_ok {l : List (List UInt8)} (h : l.length ≤ 68719476736) : cloneS l = some l := by unfold cloneS big; rw [if_pos h]
theorem sortS_ok {l : List (List UInt8)} (h : l.length ≤ 68719476736) : sortS l = some (Lib.compact (l.mergeSort fun x y => decide (x ≤ y))) := by unfold sortS big; rw [if_pos h]
theorem len_sort (l : List (List UInt8)) : (len (Lib.compact (l.mergeSort fun x y => decide (x ≤ y))) == len l) = decide l.Nodup := by
 rw [Bool.eq_iff_iff, beq_iff_eq, decide_eq_true_eq, ← sort_nodup, len_eq, len_eq]; omega
theorem i_areFields_ok {l : List (List UInt8)} : i_areFields l = some (decide (1 ≤ l.length) && decide (l.length ≤ 6) && nmList l) := by
 rw [i_areFields_eq, i_areFields_L2_eq]
 by_cases h1 : l.length < 1
 ·rw [if_pos (by simp only [len_eq, decide_eq_true_eq]; omega)]; simp; omega
 ·rw [if_neg (by simp only [len_eq, decide_eq_true_eq]; omega)]
  by_cases h2 : l.length > 6
  ·rw [if_pos (by simp only [len_eq, decide_eq_true_eq]; omega)]; simp; omega
  ·rw [if_neg (by simp only [len_eq, decide_eq_true_eq]; omega), i_areAllName_ok (by omega), i_areFields_L3_eq, cloneS_ok (by omega)]
   simp only [Option.bind_some]
   rw [sortS_ok (by omega)]
   simp only [Option.bind_some, len_sort, nmList, show 1 ≤ l.length by omega, show l.length ≤ 6 by omega, decide_true, Bool.true_and]
   cases l.all isName <;> simp
theorem s_l17At_ok {l : List (List UInt8)} (h : l.length ≤ 9223372036854775807) (x : List UInt8) : s_l17At l x = some (if x ∈ l then (l.idxOf x : Int) else -1) := by
 rw [s_l17At_eq]
 have key := loop_ind h (P := fun i r => s_l17At_L2 l x i = some (if x ∈ r then ((i + r.idxOf x : Nat) : Int) else -1)) ?_ ?_
 ·simpa using key
 ·rw [s_l17At_L2_eq]; simp [len_eq]
 ·intro i y r _ hlt hy hi hw ih
  rw [s_l17At_L2_eq, hi, hw, if_pos (by simp [len_eq, hlt])]
  simp only [Option.bind_some]
  by_cases e : y = x
  ·subst e; simp
  ·have e1 : (y == x) = false := by simpa using e
   rw [e1, ih]
   simp only [Bool.false_eq_true, if_false, List.mem_cons, List.idxOf_cons, e1, cond_false]
   have e2 : ¬ x = y := fun h => e h.symm
   simp only [e2, false_or]
   congr 1
   split <;> omega
theorem s_l18Names_ok {l : List (List UInt8)} (h : l.length ≤ 9223372036854775807) : s_l18Names l = some (nmList l) := by
 rw [s_l18Names_eq]
 have key := loop_ind h (P := fun i r => s_l18Names_L2 l i = some (r.all isName && decide (∀ k, k < l.length → i ≤ k → l.idxOf (l.getD k []) = k))) ?_ ?_
 ·rw [Int.natCast_zero] at key
  rw [key]
  unfold nmList
  congr 2
  rw [Bool.eq_iff_iff, decide_eq_true_eq, decide_eq_true_eq, nodup_idx]
  constructor
  ·intro q k hk; have := q k hk (Nat.zero_le _); rwa [List.getD_eq_getElem?_getD, List.getElem?_eq_getElem hk] at this
  ·intro q k hk _; rw [List.getD_eq_getElem?_getD, List.getElem?_eq_getElem hk]; exact q k hk
 ·rw [s_l18Names_L2_eq]
  simp only [len_eq, Int.lt_irrefl, decide_false, Bool.false_eq_true, if_false, List.all_nil, Bool.true_and]
  congr 1
  rw [eq_comm, decide_eq_true_eq]
  intro k hk hk2; omega
 ·intro i y r _ hlt hy hi hw ih
  have hyi : l.getD i [] = y := by rw [List.getD_eq_getElem?_getD, ← idx_nat, hi]; rfl
  rw [s_l18Names_L2_eq, hi, hw, if_pos (by simp [len_eq, hlt])]
  simp only [Option.bind_some, s_IsName_ok, s_l17At_ok h, if_pos hy, List.all_cons]
  rw [ih]
  have hb : (((l.idxOf y : Nat) : Int) != (i : Int)) = !(decide (l.idxOf y = i)) := by
   rw [Bool.eq_iff_iff]; simp only [bne_iff_ne, ne_eq, Bool.not_eq_true', decide_eq_false_iff_not]; omega
  rw [hb]
  have hs : decide (∀ k, k < l.length → i ≤ k → l.idxOf (l.getD k []) = k) = (decide (l.idxOf y = i) && decide (∀ k, k < l.length → i + 1 ≤ k → l.idxOf (l.getD k []) = k)) := by
   rw [Bool.eq_iff_iff, Bool.and_eq_true_iff, decide_eq_true_eq, decide_eq_true_eq, decide_eq_true_eq]
   constructor
   ·intro q; exact ⟨by have := q i hlt (Nat.le_refl _); rwa [hyi] at this, fun k hk hk2 => q k hk (by omega)⟩
   ·rintro ⟨q1, q2⟩ k hk hk2
    by_cases e : k = i
    ·subst e; rw [hyi]; exact q1
    ·exact q2 k hk (by omega)
  rw [hs]
  cases isName y <;> cases decide (l.idxOf y = i) <;> simp
theorem concat2 {a b : List (List UInt8)} (ha : a.length ≤ 1048576) (hb : b.length ≤ 1048576) : slices_Concat___string_string_ [a, b] = some (a ++ b) := by
 have w1 : w64 (0 + 1) = 1 := w64_of (by decide) (by decide)
 have w2 : w64 (1 + 1) = 2 := w64_of (by decide) (by decide)
 have l2 : len [a, b] = 2 := by simp [len_eq]
 have i0 : idx [a, b] 0 = some a := by rw [idx_zero]; rfl
 have i1 : idx [a, b] 1 = some b := by rw [idx_one]; rfl
 have wa : w64 (0 + len a) = len a := by rw [Int.zero_add]; exact w64_of (by simp only [len_eq]; omega) (by simp only [len_eq]; omega)
 have wb : w64 (len a + len b) = len a + len b := w64_of (by simp only [len_eq]; omega) (by simp only [len_eq]; omega)
 have na : ¬ decide (len a < 0) = true := by simp only [len_eq, decide_eq_true_eq]; omega
 have nb : ¬ decide (len a + len b < 0) = true := by simp only [len_eq, decide_eq_true_eq]; omega
 have g : growS (len a + len b) = some [] := by
  unfold growS big; rw [if_pos (by simp only [len_eq]; omega)]
 rw [slices_Concat___string_string__eq, l2, slices_Concat___string_string__L3_eq, if_pos (by decide), i0, w1]
 simp only [Option.bind_some, wa, if_neg na]
 rw [slices_Concat___string_string__L3_eq, if_pos (by decide), i1, w2]
 simp only [Option.bind_some, wb, if_neg nb]
 rw [slices_Concat___string_string__L3_eq, if_neg (by decide), g, l2]
 simp only [Option.bind_some]
 rw [slices_Concat___string_string__L11_eq, if_pos (by decide), i0, w1, Option.bind_some, app_of (by simp; omega), Option.bind_some, List.nil_append,
  slices_Concat___string_string__L11_eq, if_pos (by decide), i1, w2, Option.bind_some, app_of (by omega), Option.bind_some, slices_Concat___string_string__L11_eq, if_neg (by decide)]
def bdOk (b : TBinding) : Bool := isName b.fName && vVal b.fValue && !vNull b.fValue
def fnOk (f : TFunction) : Bool := isName f.fName && isName f.fLabel && decide (f.fParams.length ≤ 6) && decide (f.fLocals.length ≤ 6) && nmList (f.fParams ++ f.fLocals)
def tyOk (t : TRecordType) : Bool := isName t.fName && decide (1 ≤ t.fFields.length) && decide (t.fFields.length ≤ 6) && nmList t.fFields
def scOk (s : TScope) : Bool := decide (s.fVars.length ≤ 40) && decide (s.fFunctions.length ≤ 12) && decide (s.fTypes.length ≤ 8) &&
 (s.fVars.all bdOk && adj TBinding.fName s.fVars) && (s.fFunctions.all fnOk && adj TFunction.fName s.fFunctions) && (s.fTypes.all tyOk && adj TRecordType.fName s.fTypes)
theorem i_Binding_isValid_ok (b : TBinding) : i_Binding_isValid b = some (bdOk b) := by
 rw [i_Binding_isValid_eq]
 simp only [i_IsName_ok, i_ValidValue_ok, i_IsNull_ok, Option.bind_some]
 unfold bdOk
 cases isName b.fName <;> cases vVal b.fValue <;> simp
theorem i_Function_isValid_ok {f : TFunction} (hm : f.m ≤ 1048576) : i_Function_isValid f = some (fnOk f) := by
 have hq := f.m_eq
 rw [i_Function_isValid_eq, concat2 (by omega) (by omega)]
 simp only [i_IsName_ok, Option.bind_some]
 rw [i_areAllName_ok (by simp; omega), cloneS_ok (by simp; omega)]
 simp only [Option.bind_some]
 rw [sortS_ok (by simp; omega)]
 simp only [Option.bind_some, len_sort]
 unfold fnOk nmList
 have e : ∀ n : Nat, decide ((n : Int) ≤ (6 : Int)) = decide (n ≤ 6) := fun n => by rw [Bool.eq_iff_iff]; simp only [decide_eq_true_eq]; omega
 simp only [len_eq, e]
 cases isName f.fName <;> cases isName f.fLabel <;> cases decide (f.fParams.length ≤ 6) <;> cases decide (f.fLocals.length ≤ 6) <;> cases (f.fParams ++ f.fLocals).all isName <;> simp
theorem i_RecordType_isValid_ok (t : TRecordType) : i_RecordType_isValid t = some (tyOk t) := by
 rw [i_RecordType_isValid_eq]
 simp only [i_IsName_ok, i_areFields_ok, Option.bind_some]
 unfold tyOk
 cases isName t.fName <;> simp
theorem s_l18Function_ok {f : TFunction} (hm : f.m ≤ 1048576) : s_l18Function f = some (fnOk f) := by
 have hq := f.m_eq
 rw [s_l18Function_eq]
 simp only [s_l18Function_L2_eq, s_l18Function_L3_eq, s_IsName_ok, Option.bind_some]
 rw [app_of (by simp; omega), List.nil_append, Option.bind_some, app_of (by omega), Option.bind_some, s_l18Names_ok (by simp; omega)]
 unfold fnOk
 have e : ∀ n : Nat, decide ((n : Int) > (6 : Int)) = !decide (n ≤ 6) := fun n => by rw [Bool.eq_iff_iff]; simp only [decide_eq_true_eq, Bool.not_eq_true', decide_eq_false_iff_not]; omega
 simp only [len_eq, e, Option.bind_some]
 cases isName f.fName <;> cases isName f.fLabel <;> cases decide (f.fParams.length ≤ 6) <;> cases decide (f.fLocals.length ≤ 6) <;> simp
theorem s_l18Type_ok {t : TRecordType} (h : t.fFields.length ≤ 9223372036854775807) : s_l18Type t = some (tyOk t) := by
 rw [s_l18Type_eq]
 simp only [s_IsName_ok, s_l00In_ok, s_l18Names_ok h, Option.bind_some]
 unfold tyOk
 have e : ∀ n : Nat, decide ((n : Int) ≤ (6 : Int)) = decide (n ≤ 6) := fun n => by rw [Bool.eq_iff_iff]; simp only [decide_eq_true_eq]; omega
 have e2 : ∀ n : Nat, decide ((1 : Int) ≤ (n : Int)) = decide (1 ≤ n) := fun n => by rw [Bool.eq_iff_iff]; simp only [decide_eq_true_eq]; omega
 simp only [len_eq, e, e2]
 cases isName t.fName <;> cases decide (1 ≤ t.fFields.length) <;> cases decide (t.fFields.length ≤ 6) <;> simp
theorem i_ValidScope_ok {s : TScope} (hm : s.m ≤ 1048576) : i_ValidScope s = some (scOk s) := by
 have hq := s.m_eq
 rw [i_ValidScope_eq]
 simp only [i_ValidScope_L2_eq, i_ValidScope_L3_eq, i_ValidScope_L4_eq]
 have a1 := adj_loop (xs := s.fVars) (by omega) (nm := TBinding.fName) (J := i_isSorted_impl_Binding_L2__i_nameOfBinding s.fVars) (fun i => by rw [i_isSorted_impl_Binding_L2__i_nameOfBinding_eq]; simp only [i_nameOfBinding_eq, Option.bind_some])
 have a2 := adj_loop (xs := s.fFunctions) (by omega) (nm := TFunction.fName) (J := i_isSorted_impl_Function_L2__i_nameOfFunction s.fFunctions) (fun i => by rw [i_isSorted_impl_Function_L2__i_nameOfFunction_eq]; simp only [i_nameOfFunction_eq, Option.bind_some])
 have a3 := adj_loop (xs := s.fTypes) (by omega) (nm := TRecordType.fName) (J := i_isSorted_impl_RecordType_L2__i_nameOfType s.fTypes) (fun i => by rw [i_isSorted_impl_RecordType_L2__i_nameOfType_eq]; simp only [i_nameOfType_eq, Option.bind_some])
 have b1 := all_loop (xs := s.fVars) (by omega) (F := i_Binding_isValid) (p := bdOk) (J := i_areAll_impl_Binding_L2__i_Binding_isValid s.fVars (len s.fVars)) (fun i => by rw [i_areAll_impl_Binding_L2__i_Binding_isValid_eq]) (fun y _ => i_Binding_isValid_ok y)
 have b2 := all_loop (xs := s.fFunctions) (by omega) (F := i_Function_isValid) (p := fnOk) (J := i_areAll_impl_Function_L2__i_Function_isValid s.fFunctions (len s.fFunctions)) (fun i => by rw [i_areAll_impl_Function_L2__i_Function_isValid_eq]) (fun y hy => i_Function_isValid_ok (by have := sumOf_mem (m := TFunction.m) hy; omega))
 have b3 := all_loop (xs := s.fTypes) (by omega) (F := i_RecordType_isValid) (p := tyOk) (J := i_areAll_impl_RecordType_L2__i_RecordType_isValid s.fTypes (len s.fTypes)) (fun i => by rw [i_areAll_impl_RecordType_L2__i_RecordType_isValid_eq]) (fun y _ => i_RecordType_isValid_ok y)
 simp only [i_isSorted_impl_Binding__i_nameOfBinding_eq, i_isSorted_impl_Function__i_nameOfFunction_eq, i_isSorted_impl_RecordType__i_nameOfType_eq, i_areAll_impl_Binding__i_Binding_isValid_eq, i_areAll_impl_Function__i_Function_isValid_eq, i_areAll_impl_RecordType__i_RecordType_isValid_eq, a1, a2, a3, b1, b2, b3, Option.bind_some]
 have e : ∀ n c : Nat, decide ((n : Int) > (c : Int)) = !decide (n ≤ c) := fun n c => by rw [Bool.eq_iff_iff]; simp only [decide_eq_true_eq, Bool.not_eq_true', decide_eq_false_iff_not]; omega
 have e1 := e s.fVars.length 40
 have e2 := e s.fFunctions.length 12
 have e3 := e s.fTypes.length 8
 simp only [Int.cast_ofNat_Int] at e1 e2 e3
 unfold scOk
 simp only [len_eq, e1, e2, e3]
 cases decide (s.fVars.length ≤ 40) <;> cases decide (s.fFunctions.length ≤ 12) <;> cases decide (s.fTypes.length ≤ 8) <;> cases adj TBinding.fName s.fVars <;> cases adj TFunction.fName s.fFunctions <;> cases adj TRecordType.fName s.fTypes <;> cases s.fVars.all bdOk <;> cases s.fFunctions.all fnOk <;> cases s.fTypes.all tyOk <;> rfl
theorem s_ValidScope_ok {s : TScope} (hm : s.m ≤ 1048576) : s_ValidScope s = some (scOk s) := by
 have hq := s.m_eq
 have pre : ∀ (j n : Nat), j + 1 < n → n ≤ 1048577 → w64 (((j + 1 : Nat) : Int) - 1) = (j : Int) := fun j n h1 h2 => by rw [w64_of (by omega) (by omega)]; omega
 have nx : ∀ (i n : Nat), i < n → n ≤ 1048577 → w64 ((i : Int) + 1) = ((i + 1 : Nat) : Int) := fun i n h1 h2 => by rw [w64_of (by omega) (by omega)]; omega
 have t3 := chk_loop (xs := s.fTypes) (by omega) (p := tyOk) (nm := TRecordType.fName) (E := some true) (J := fun i => s_ValidScope_L15 i s.fVars s.fFunctions s.fTypes) (fun i hi => by
  rw [s_ValidScope_L15_eq, idx_nat]
  by_cases hlt : i < s.fTypes.length
  ·rw [if_pos (by simp [len_eq, hlt]), List.getElem?_eq_getElem hlt]
   simp only [Option.bind_some]
   rw [s_l18Type_ok (by have := sumOf_mem (m := TRecordType.m) (List.getElem_mem hlt); have := (s.fTypes[i]).m_eq; omega)]
   simp only [Option.bind_some, s_ValidScope_L16_eq, s_ValidScope_L18_eq, nx i _ hlt (by omega)]
   cases i with
   | zero => cases tyOk s.fTypes[0] <;> simp
   | succ j =>
    have hj : s.fTypes[j]? = some s.fTypes[j] := List.getElem?_eq_getElem (by omega)
    have hp : decide (((j + 1 : Nat) : Int) > 0) = true := by simp only [decide_eq_true_eq]; omega
    rw [if_pos hp, pre j _ hlt (by omega), idx_nat]
    simp only [hj, Option.bind_some]
    by_cases h1 : tyOk s.fTypes[j + 1] = true <;> by_cases hb : Op.bytesLess s.fTypes[j].fName s.fTypes[j + 1].fName = true <;> simp [h1, hb]
  ·rw [if_neg (by simp only [len_eq, decide_eq_true_eq]; omega), List.getElem?_eq_none (by omega)])
 have t2 := chk_loop (xs := s.fFunctions) (by omega) (p := fnOk) (nm := TFunction.fName) (E := s_ValidScope_L15 0 s.fVars s.fFunctions s.fTypes) (J := fun i => s_ValidScope_L10 i s.fVars s.fFunctions s.fTypes) (fun i hi => by
  rw [s_ValidScope_L10_eq, idx_nat]
  by_cases hlt : i < s.fFunctions.length
  ·rw [if_pos (by simp [len_eq, hlt]), List.getElem?_eq_getElem hlt]
   simp only [Option.bind_some]
   rw [s_l18Function_ok (by have := sumOf_mem (m := TFunction.m) (List.getElem_mem hlt); omega)]
   simp only [Option.bind_some, s_ValidScope_L11_eq, s_ValidScope_L13_eq, nx i _ hlt (by omega)]
   cases i with
   | zero => cases fnOk s.fFunctions[0] <;> simp
   | succ j =>
    have hj : s.fFunctions[j]? = some s.fFunctions[j] := List.getElem?_eq_getElem (by omega)
    have hp : decide (((j + 1 : Nat) : Int) > 0) = true := by simp only [decide_eq_true_eq]; omega
    rw [if_pos hp, pre j _ hlt (by omega), idx_nat]
    simp only [hj, Option.bind_some]
    by_cases h1 : fnOk s.fFunctions[j + 1] = true <;> by_cases hb : Op.bytesLess s.fFunctions[j].fName s.fFunctions[j + 1].fName = true <;> simp [h1, hb]
  ·rw [if_neg (by simp only [len_eq, decide_eq_true_eq]; omega), List.getElem?_eq_none (by omega)])
 have t1 := chk_loop (xs := s.fVars) (by omega) (p := bdOk) (nm := TBinding.fName) (E := s_ValidScope_L10 0 s.fVars s.fFunctions s.fTypes) (J := fun i => s_ValidScope_L4 i s.fVars s.fFunctions s.fTypes) (fun i hi => by
  rw [s_ValidScope_L4_eq, idx_nat]
  by_cases hlt : i < s.fVars.length
  ·rw [if_pos (by simp [len_eq, hlt]), List.getElem?_eq_getElem hlt]
   simp only [Option.bind_some, s_IsName_ok, s_ValidValue_ok, s_IsNull_ok, s_ValidScope_L5_eq, s_ValidScope_L8_eq, nx i _ hlt (by omega), bdOk]
   cases i with
   | zero => by_cases h1 : isName s.fVars[0].fName = true <;> by_cases h2 : vVal s.fVars[0].fValue = true <;> by_cases h3 : vNull s.fVars[0].fValue = true <;> simp [h1, h2, h3]
   | succ j =>
    have hj : s.fVars[j]? = some s.fVars[j] := List.getElem?_eq_getElem (by omega)
    have hp : decide (((j + 1 : Nat) : Int) > 0) = true := by simp only [decide_eq_true_eq]; omega
    rw [if_pos hp, pre j _ hlt (by omega), idx_nat]
    simp only [hj, Option.bind_some]
    by_cases h1 : isName s.fVars[j + 1].fName = true <;> by_cases h2 : vVal s.fVars[j + 1].fValue = true <;> by_cases h3 : vNull s.fVars[j + 1].fValue = true <;> by_cases hb : Op.bytesLess s.fVars[j].fName s.fVars[j + 1].fName = true <;> simp [h1, h2, h3, hb]
  ·rw [if_neg (by simp only [len_eq, decide_eq_true_eq]; omega), List.getElem?_eq_none (by omega)])
 rw [t3] at t2
 rw [t2] at t1
 rw [s_ValidScope_eq]
 simp only [s_ValidScope_L2_eq, s_ValidScope_L3_eq, t1]
 have e : ∀ n c : Nat, decide ((n : Int) > (c : Int)) = !decide (n ≤ c) := fun n c => by rw [Bool.eq_iff_iff]; simp only [decide_eq_true_eq, Bool.not_eq_true', decide_eq_false_iff_not]; omega
 have e1 := e s.fVars.length 40
 have e2 := e s.fFunctions.length 12
 have e3 := e s.fTypes.length 8
 simp only [Int.cast_ofNat_Int] at e1 e2 e3
 unfold scOk
 simp only [len_eq, e1, e2, e3]
 cases decide (s.fVars.length ≤ 40) <;> cases decide (s.fFunctions.length ≤ 12) <;> cases decide (s.fTypes.length ≤ 8) <;> cases (s.fVars.all bdOk && adj TBinding.fName s.fVars) <;> cases (s.fFunctions.all fnOk && adj TFunction.fName s.fFunctions) <;> cases (s.fTypes.all tyOk && adj TRecordType.fName s.fTypes) <;> rfl
end Go.Dv.U

namespace Go.Dv.U
open Go Go.Dv Go.Proofs
mutual
def TGen.n : TGen → Nat
 | ⟨_, _, _, _, ks⟩ => 1 + TGen.ns ks
def TGen.ns : List TGen → Nat
 | [] => 0
 | y :: r => TGen.n y + TGen.ns r
end
mutual
def TGen.all (p : TGen → Bool) : TGen → Bool
 | ⟨a, b, c, d, ks⟩ => p ⟨a, b, c, d, ks⟩ && TGen.alls p ks
def TGen.alls (p : TGen → Bool) : List TGen → Bool
 | [] => true
 | y :: r => TGen.all p y && TGen.alls p r
end
def gKids (k : Int) : Int := if k = 4 ∨ k = 5 ∨ k = 9 ∨ k = 11 ∨ k = 14 then 2 else if k = 8 ∨ k = 12 ∨ k = 15 then 3 else if k = 1 ∨ k = 2 ∨ k = 3 then 0 else 1
def opNames : List (List UInt8) := [[97, 100, 100], [115, 117, 98], [109, 117, 108], [100, 105, 118], [99, 97, 116], [108, 116], [108, 101], [101, 113], [110, 101], [103, 116], [103, 101], [115, 101, 113], [115, 110, 101], [115, 108, 116], [105, 115]]
def vData (v : TValue) : Bool := vVal v && (v.fKind == 1 || v.fKind == 2 || (decide (4 ≤ v.fKind) && decide (v.fKind ≤ 6)))
def vZero (v : TValue) : Bool := v.fKind == 0 && v.fNum == 0 && v.fText == [] && v.fRef == 0
def gNode (x : TGen) : Bool :=
 decide (1 ≤ x.fKind) && decide (x.fKind ≤ 18) &&
 (if x.fKind = 6 then decide (0 ≤ x.fNum) && decide (x.fNum ≤ 60) else x.fNum == 0) &&
 (if x.fKind = 2 ∨ x.fKind = 16 ∨ x.fKind = 17 then isName x.fText else if x.fKind = 11 then opNames.contains x.fText else x.fText == []) &&
 (if x.fKind = 1 then vData x.fValue else vZero x.fValue) && decide ((x.fKids.length : Int) = gKids x.fKind)
def TGen.good (x : TGen) : Bool := x.all gNode
def TGen.valid (x : TGen) : Bool := x.good && decide (x.n ≤ 60)
end Go.Dv.U

namespace Go.Dv.U
open Go Go.Dv Go.Proofs
theorem TGen.etaR (x : TGen) : TGen.mk x.fKind x.fNum x.fText x.fValue x.fKids = x := by cases x; rfl
theorem TGen.etaF (x : TGen) : TGen.mk x.fKind x.fNum x.fText (TValue.mk x.fValue.fKind x.fValue.fNum x.fValue.fText x.fValue.fRef) x.fKids = x := by cases x; rfl
theorem TCursor.etaR (x : TCursor) : TCursor.mk x.fPhase x.fCount x.fVals x.fKids = x := by cases x; rfl
theorem ownValueS_of {xs : List TValue} (hx : xs.length ≤ 68719476736) (hF : ∀ y ∈ xs, l_toValue y = some y) : l_toValueS_v1 xs = some ((xs, ()), ()) := by
 rw [l_toValueS_v1_eq, mk_len _ _ hx]
 simp only [Option.bind_some]
 exact toE_loop (xs := xs) (by omega) (F := l_toValue) (G := fun r198 => r198) (E := fun zs => some ((zs, ()), ())) (J := l_toValueS_L3_v1) (fun i zs => by rw [l_toValueS_L3_v1_eq]; first | done | (simp only [TGen.re_eq, TCursor.re_eq]; done) | (simp only [TGen.re_eq, TCursor.re_eq]; rfl)) (fun y hy => ⟨_, hF y hy, by first | rfl | (cases y; rfl) | (cases y; simp only [TGen.etaR, TGen.etaF, TCursor.etaR])⟩) _ (by simp)
theorem ownObject_ok : ∀ x : TObject, x.m ≤ 1048576 → l_toObject_v1 x = some ((x.fId, x.fKind, x.fName, x.fLow, x.fKeys, x.fVals, x.fDefault.fKind, x.fDefault.fNum, x.fDefault.fText, x.fDefault.fRef, ()), ()) := by
 intro x
 intro hm
 have hq := x.m_eq
 have := x.fDefault.m_eq
 rw [l_toObject_v1_eq]
 try simp only [TGen.re_eq, TCursor.re_eq]
 simp only [ownValueS_of (xs := x.fKeys) (by omega) (fun y hy => toValue_ok y (by have := sumOf_mem (m := TValue.m) hy; omega)), ownValueS_of (xs := x.fVals) (by omega) (fun y hy => toValue_ok y (by have := sumOf_mem (m := TValue.m) hy; omega)), toValue_ok x.fDefault (by omega), Option.bind_some]
theorem ownObjectS_of {xs : List TObject} (hx : xs.length ≤ 68719476736) (hF : ∀ y ∈ xs, l_toObject_v1 y = some ((y.fId, y.fKind, y.fName, y.fLow, y.fKeys, y.fVals, y.fDefault.fKind, y.fDefault.fNum, y.fDefault.fText, y.fDefault.fRef, ()), ())) : l_toObjectS_v1 xs = some ((xs, ()), ()) := by
 rw [l_toObjectS_v1_eq, mk_len _ _ hx]
 simp only [Option.bind_some]
 exact toE_loop (xs := xs) (by omega) (F := l_toObject_v1) (G := fun r198 => (TObject.mk (Prod.fst (Prod.fst r198)) (Prod.fst (Prod.snd (Prod.fst r198))) (Prod.fst (Prod.snd (Prod.snd (Prod.fst r198)))) (Prod.fst (Prod.snd (Prod.snd (Prod.snd (Prod.fst r198))))) (Prod.fst (Prod.snd (Prod.snd (Prod.snd (Prod.snd (Prod.fst r198)))))) (Prod.fst (Prod.snd (Prod.snd (Prod.snd (Prod.snd (Prod.snd (Prod.fst r198))))))) (TValue.mk (Prod.fst (Prod.snd (Prod.snd (Prod.snd (Prod.snd (Prod.snd (Prod.snd (Prod.fst r198)))))))) (Prod.fst (Prod.snd (Prod.snd (Prod.snd (Prod.snd (Prod.snd (Prod.snd (Prod.snd (Prod.fst r198))))))))) (Prod.fst (Prod.snd (Prod.snd (Prod.snd (Prod.snd (Prod.snd (Prod.snd (Prod.snd (Prod.snd (Prod.fst r198)))))))))) (Prod.fst (Prod.snd (Prod.snd (Prod.snd (Prod.snd (Prod.snd (Prod.snd (Prod.snd (Prod.snd (Prod.snd (Prod.fst r198)))))))))))))) (E := fun zs => some ((zs, ()), ())) (J := l_toObjectS_L3_v1) (fun i zs => by rw [l_toObjectS_L3_v1_eq]; first | done | (simp only [TGen.re_eq, TCursor.re_eq]; done) | (simp only [TGen.re_eq, TCursor.re_eq]; rfl)) (fun y hy => ⟨_, hF y hy, by first | rfl | (cases y; rfl) | (cases y; simp only [TGen.etaR, TGen.etaF, TCursor.etaR])⟩) _ (by simp)
theorem ownHeap_ok : ∀ x : THeap, x.m ≤ 1048576 → l_toHeap_v1 x = some ((x.fNext, x.fObjects, ()), ()) := by
 intro x
 intro hm
 have hq := x.m_eq
 rw [l_toHeap_v1_eq]
 try simp only [TGen.re_eq, TCursor.re_eq]
 simp only [ownObjectS_of (xs := x.fObjects) (by omega) (fun y hy => ownObject_ok y (by have := sumOf_mem (m := TObject.m) hy; omega)), Option.bind_some]
theorem ownBindingS_of {xs : List TBinding} (hx : xs.length ≤ 68719476736) (hF : ∀ y ∈ xs, l_toBinding y = some y) : l_toBindingS_v2 xs = some ((xs, ()), ()) := by
 rw [l_toBindingS_v2_eq, mk_len _ _ hx]
 simp only [Option.bind_some]
 exact toE_loop (xs := xs) (by omega) (F := l_toBinding) (G := fun r198 => r198) (E := fun zs => some ((zs, ()), ())) (J := l_toBindingS_L3_v2) (fun i zs => by rw [l_toBindingS_L3_v2_eq]; first | done | (simp only [TGen.re_eq, TCursor.re_eq]; done) | (simp only [TGen.re_eq, TCursor.re_eq]; rfl)) (fun y hy => ⟨_, hF y hy, by first | rfl | (cases y; rfl) | (cases y; simp only [TGen.etaR, TGen.etaF, TCursor.etaR])⟩) _ (by simp)
theorem ownStringS_of {xs : List (List UInt8)} (hx : xs.length ≤ 68719476736) : l_toStringS_v1 xs = some ((xs, ()), ()) := by
 rw [l_toStringS_v1_eq, mk_len _ _ hx]
 simp only [Option.bind_some]
 exact toE_loop (xs := xs) (by omega) (F := fun y => some y) (G := id) (E := fun zs => some ((zs, ()), ())) (J := l_toStringS_L3_v1) (fun i zs => by rw [l_toStringS_L3_v1_eq]; rfl) (fun y _ => ⟨y, rfl, rfl⟩) _ (by simp)
theorem ownFunction_ok : ∀ x : TFunction, x.m ≤ 1048576 → l_toFunction_v1 x = some ((x.fName, x.fParams, x.fLocals, x.fLabel, ()), ()) := by
 intro x
 intro hm
 have hq := x.m_eq
 rw [l_toFunction_v1_eq]
 try simp only [TGen.re_eq, TCursor.re_eq]
 simp only [ownStringS_of (xs := x.fParams) (by omega), ownStringS_of (xs := x.fLocals) (by omega), Option.bind_some]
theorem ownRecordType_ok : ∀ x : TRecordType, x.m ≤ 1048576 → l_toRecordType_v1 x = some ((x.fName, x.fFields, ()), ()) := by
 intro x
 intro hm
 have hq := x.m_eq
 rw [l_toRecordType_v1_eq]
 try simp only [TGen.re_eq, TCursor.re_eq]
 simp only [ownStringS_of (xs := x.fFields) (by omega), Option.bind_some]
theorem ownFunctionS_of {xs : List TFunction} (hx : xs.length ≤ 68719476736) (hF : ∀ y ∈ xs, l_toFunction_v1 y = some ((y.fName, y.fParams, y.fLocals, y.fLabel, ()), ())) : l_toFunctionS_v2 xs = some ((xs, ()), ()) := by
 rw [l_toFunctionS_v2_eq, mk_len _ _ hx]
 simp only [Option.bind_some]
 exact toE_loop (xs := xs) (by omega) (F := l_toFunction_v1) (G := fun r198 => (TFunction.mk (Prod.fst (Prod.fst r198)) (Prod.fst (Prod.snd (Prod.fst r198))) (Prod.fst (Prod.snd (Prod.snd (Prod.fst r198)))) (Prod.fst (Prod.snd (Prod.snd (Prod.snd (Prod.fst r198))))))) (E := fun zs => some ((zs, ()), ())) (J := l_toFunctionS_L3_v2) (fun i zs => by rw [l_toFunctionS_L3_v2_eq]; first | done | (simp only [TGen.re_eq, TCursor.re_eq]; done) | (simp only [TGen.re_eq, TCursor.re_eq]; rfl)) (fun y hy => ⟨_, hF y hy, by first | rfl | (cases y; rfl) | (cases y; simp only [TGen.etaR, TGen.etaF, TCursor.etaR])⟩) _ (by simp)
theorem ownRecordTypeS_of {xs : List TRecordType} (hx : xs.length ≤ 68719476736) (hF : ∀ y ∈ xs, l_toRecordType_v1 y = some ((y.fName, y.fFields, ()), ())) : l_toRecordTypeS_v2 xs = some ((xs, ()), ()) := by
 rw [l_toRecordTypeS_v2_eq, mk_len _ _ hx]
 simp only [Option.bind_some]
 exact toE_loop (xs := xs) (by omega) (F := l_toRecordType_v1) (G := fun r198 => (TRecordType.mk (Prod.fst (Prod.fst r198)) (Prod.fst (Prod.snd (Prod.fst r198))))) (E := fun zs => some ((zs, ()), ())) (J := l_toRecordTypeS_L3_v2) (fun i zs => by rw [l_toRecordTypeS_L3_v2_eq]; first | done | (simp only [TGen.re_eq, TCursor.re_eq]; done) | (simp only [TGen.re_eq, TCursor.re_eq]; rfl)) (fun y hy => ⟨_, hF y hy, by first | rfl | (cases y; rfl) | (cases y; simp only [TGen.etaR, TGen.etaF, TCursor.etaR])⟩) _ (by simp)
theorem ownScope_ok : ∀ x : TScope, x.m ≤ 1048576 → l_toScope_v2 x = some ((x.fVars, x.fFunctions, x.fTypes, ()), ()) := by
 intro x
 intro hm
 have hq := x.m_eq
 rw [l_toScope_v2_eq]
 try simp only [TGen.re_eq, TCursor.re_eq]
 simp only [ownBindingS_of (xs := x.fVars) (by omega) (fun y hy => toBinding_ok y (by have := sumOf_mem (m := TBinding.m) hy; omega)), ownFunctionS_of (xs := x.fFunctions) (by omega) (fun y hy => ownFunction_ok y (by have := sumOf_mem (m := TFunction.m) hy; omega)), ownRecordTypeS_of (xs := x.fTypes) (by omega) (fun y hy => ownRecordType_ok y (by have := sumOf_mem (m := TRecordType.m) hy; omega)), Option.bind_some]
theorem ownFile_ok : ∀ x : TFile, x.m ≤ 1048576 → l_toFile_v1 x = some ((x.fName, x.fLines, x.fMode, x.fAt, ()), ()) := by
 intro x
 intro hm
 have hq := x.m_eq
 rw [l_toFile_v1_eq]
 try simp only [TGen.re_eq, TCursor.re_eq]
 simp only [ownStringS_of (xs := x.fLines) (by omega), Option.bind_some]
theorem ownFileS_of {xs : List TFile} (hx : xs.length ≤ 68719476736) (hF : ∀ y ∈ xs, l_toFile_v1 y = some ((y.fName, y.fLines, y.fMode, y.fAt, ()), ())) : l_toFileS_v1 xs = some ((xs, ()), ()) := by
 rw [l_toFileS_v1_eq, mk_len _ _ hx]
 simp only [Option.bind_some]
 exact toE_loop (xs := xs) (by omega) (F := l_toFile_v1) (G := fun r198 => (TFile.mk (Prod.fst (Prod.fst r198)) (Prod.fst (Prod.snd (Prod.fst r198))) (Prod.fst (Prod.snd (Prod.snd (Prod.fst r198)))) (Prod.fst (Prod.snd (Prod.snd (Prod.snd (Prod.fst r198))))))) (E := fun zs => some ((zs, ()), ())) (J := l_toFileS_L3_v1) (fun i zs => by rw [l_toFileS_L3_v1_eq]; first | done | (simp only [TGen.re_eq, TCursor.re_eq]; done) | (simp only [TGen.re_eq, TCursor.re_eq]; rfl)) (fun y hy => ⟨_, hF y hy, by first | rfl | (cases y; rfl) | (cases y; simp only [TGen.etaR, TGen.etaF, TCursor.etaR])⟩) _ (by simp)
theorem ownConsole_ok : ∀ x : TConsole, x.m ≤ 1048576 → l_toConsole_v1 x = some ((x.fInput, x.fAt, x.fOutput, x.fFiles, x.fTrace, ()), ()) := by
 intro x
 intro hm
 have hq := x.m_eq
 rw [l_toConsole_v1_eq]
 try simp only [TGen.re_eq, TCursor.re_eq]
 simp only [ownStringS_of (xs := x.fInput) (by omega), ownStringS_of (xs := x.fOutput) (by omega), ownFileS_of (xs := x.fFiles) (by omega) (fun y hy => ownFile_ok y (by have := sumOf_mem (m := TFile.m) hy; omega)), ownStringS_of (xs := x.fTrace) (by omega), Option.bind_some]
theorem ownMemory_ok : ∀ x : TMemory, x.m ≤ 1048576 → l_toMemory_v1 x = some ((x.fHeap.fNext, x.fHeap.fObjects, x.fScope.fVars, x.fScope.fFunctions, x.fScope.fTypes, x.fConsole.fInput, x.fConsole.fAt, x.fConsole.fOutput, x.fConsole.fFiles, x.fConsole.fTrace, ()), ()) := by
 intro x
 intro hm
 have hq := x.m_eq
 have := x.fHeap.m_eq
 have := x.fScope.m_eq
 have := x.fConsole.m_eq
 rw [l_toMemory_v1_eq]
 try simp only [TGen.re_eq, TCursor.re_eq]
 simp only [ownHeap_ok x.fHeap (by omega), ownScope_ok x.fScope (by omega), ownConsole_ok x.fConsole (by omega), Option.bind_some]
theorem ownCallFrame_ok : ∀ x : TCallFrame, x.m ≤ 1048576 → l_toCallFrame x = some ((x.fName, x.fSaved, x.fPC, x.fBase, x.fAt, ()), ()) := by
 intro x
 intro hm
 have hq := x.m_eq
 rw [l_toCallFrame_eq]
 try simp only [TGen.re_eq, TCursor.re_eq]
 simp only [ownBindingS_of (xs := x.fSaved) (by omega) (fun y hy => toBinding_ok y (by have := sumOf_mem (m := TBinding.m) hy; omega)), Option.bind_some]
theorem ownCallFrameS_of {xs : List TCallFrame} (hx : xs.length ≤ 68719476736) (hF : ∀ y ∈ xs, l_toCallFrame y = some ((y.fName, y.fSaved, y.fPC, y.fBase, y.fAt, ()), ())) : l_toCallFrameS xs = some ((xs, ()), ()) := by
 rw [l_toCallFrameS_eq, mk_len _ _ hx]
 simp only [Option.bind_some]
 exact toE_loop (xs := xs) (by omega) (F := l_toCallFrame) (G := fun r198 => (TCallFrame.mk (Prod.fst (Prod.fst r198)) (Prod.fst (Prod.snd (Prod.fst r198))) (Prod.fst (Prod.snd (Prod.snd (Prod.fst r198)))) (Prod.fst (Prod.snd (Prod.snd (Prod.snd (Prod.fst r198))))) (Prod.fst (Prod.snd (Prod.snd (Prod.snd (Prod.snd (Prod.fst r198)))))))) (E := fun zs => some ((zs, ()), ())) (J := l_toCallFrameS_L3) (fun i zs => by rw [l_toCallFrameS_L3_eq]; first | done | (simp only [TGen.re_eq, TCursor.re_eq]; done) | (simp only [TGen.re_eq, TCursor.re_eq]; rfl)) (fun y hy => ⟨_, hF y hy, by first | rfl | (cases y; rfl) | (cases y; simp only [TGen.etaR, TGen.etaF, TCursor.etaR])⟩) _ (by simp)
theorem ownMachine_ok : ∀ x : TMachine, x.m ≤ 1048576 → l_toMachine x = some ((x.fStatus, x.fCode, x.fMemory.fHeap.fNext, x.fMemory.fHeap.fObjects, x.fMemory.fScope.fVars, x.fMemory.fScope.fFunctions, x.fMemory.fScope.fTypes, x.fMemory.fConsole.fInput, x.fMemory.fConsole.fAt, x.fMemory.fConsole.fOutput, x.fMemory.fConsole.fFiles, x.fMemory.fConsole.fTrace, x.fStack, x.fFrames, x.fPC, x.fBase, x.fAt, x.fSteps, x.fFuel, ()), ()) := by
 intro x
 intro hm
 have hq := x.m_eq
 have := x.fMemory.m_eq
 have := x.fMemory.fHeap.m_eq
 have := x.fMemory.fScope.m_eq
 have := x.fMemory.fConsole.m_eq
 rw [l_toMachine_eq]
 try simp only [TGen.re_eq, TCursor.re_eq]
 simp only [ownMemory_ok x.fMemory (by omega), ownValueS_of (xs := x.fStack) (by omega) (fun y hy => toValue_ok y (by have := sumOf_mem (m := TValue.m) hy; omega)), ownCallFrameS_of (xs := x.fFrames) (by omega) (fun y hy => ownCallFrame_ok y (by have := sumOf_mem (m := TCallFrame.m) hy; omega)), Option.bind_some]
set_option maxHeartbeats 8000000 in
theorem markValueS_ok {xs : List TValue} {k : Int} (h0 : 0 ≤ k) (h1 : k + (40 * xs.length + 40 * sumOf TValue.m xs : Nat) < 4611686018427387904) : ∃ k' xs', l_markValueS k xs = some (k', xs', ()) ∧ k ≤ k' ∧ k' ≤ k + (40 * xs.length + 40 * sumOf TValue.m xs : Nat) ∧ xs'.length = xs.length := by
  rw [l_markValueS_eq]
  obtain ⟨k', xs', e, g1, g2, g3⟩ := mark_loop (B := 4611686018427387904) (m := fun y : TValue => 40 + 40 * y.m) (Q := fun y => y ∈ xs) (J := l_markValueS_L2) (fun k xs => by rw [l_markValueS_L2_eq]; simp [len_eq]) (by
      intro k i xs hlt hq g0 g1 gl
      rw [l_markValueS_L2_eq]
      have hme := xs[i].m_eq
      have hc : decide ((i : Int) < len xs) = true := by simp [len_eq, hlt]
      rw [if_pos hc]
      have w4 : w64 ((i : Int) + 1) = ((i + 1 : Nat) : Int) := by rw [w64_of (by omega) (by omega)]; omega
      simp (disch := omega) only [idx_nat, Int.toNat_natCast, List.getElem?_eq_getElem hlt, upd_eq, List.set_set, List.getElem?_set_self hlt, Option.bind_some, w4, w64_of, rem_three, l_markText_ok, l_markStringS_ok, TGen.re_eq, TCursor.re_eq]
      exact ⟨_, _, rfl, by omega, by omega⟩) xs k (fun y hy => hy) h0 (by rw [sum_40]; omega) (by omega)
  rw [sum_40] at g2
  exact ⟨k', xs', e, g1, by omega, g3⟩
set_option maxHeartbeats 8000000 in
theorem markObjectS_ok {xs : List TObject} {k : Int} (h0 : 0 ≤ k) (h1 : k + (40 * xs.length + 40 * sumOf TObject.m xs : Nat) < 4611686018427387904) : ∃ k' xs', l_markObjectS k xs = some (k', xs', ()) ∧ k ≤ k' ∧ k' ≤ k + (40 * xs.length + 40 * sumOf TObject.m xs : Nat) ∧ xs'.length = xs.length := by
  rw [l_markObjectS_eq]
  obtain ⟨k', xs', e, g1, g2, g3⟩ := mark_loop (B := 4611686018427387904) (m := fun y : TObject => 40 + 40 * y.m) (Q := fun y => y ∈ xs) (J := l_markObjectS_L2) (fun k xs => by rw [l_markObjectS_L2_eq]; simp [len_eq]) (by
      intro k i xs hlt hq g0 g1 gl
      rw [l_markObjectS_L2_eq]
      have hme := xs[i].m_eq
      have := xs[i].fDefault.m_eq
      have hc : decide ((i : Int) < len xs) = true := by simp [len_eq, hlt]
      rw [if_pos hc]
      have w4 : w64 ((i : Int) + 1) = ((i + 1 : Nat) : Int) := by rw [w64_of (by omega) (by omega)]; omega
      obtain ⟨k1, ys1, e1, p1, q1, _⟩ := markValueS_ok (xs := xs[i].fKeys) (k := k + 1 + 1 + 1 + 1) (by omega) (by omega)
      obtain ⟨k2, ys2, e2, p2, q2, _⟩ := markValueS_ok (xs := xs[i].fVals) (k := k1) (by omega) (by omega)
      simp (disch := omega) only [idx_nat, Int.toNat_natCast, List.getElem?_eq_getElem hlt, upd_eq, List.set_set, List.getElem?_set_self hlt, Option.bind_some, w4, w64_of, rem_three, l_markText_ok, l_markStringS_ok, e1, e2, TGen.re_eq, TCursor.re_eq]
      exact ⟨_, _, rfl, by omega, by omega⟩) xs k (fun y hy => hy) h0 (by rw [sum_40]; omega) (by omega)
  rw [sum_40] at g2
  exact ⟨k', xs', e, g1, by omega, g3⟩
set_option maxHeartbeats 8000000 in
theorem markBindingS_ok {xs : List TBinding} {k : Int} (h0 : 0 ≤ k) (h1 : k + (40 * xs.length + 40 * sumOf TBinding.m xs : Nat) < 4611686018427387904) : ∃ k' xs', l_markBindingS k xs = some (k', xs', ()) ∧ k ≤ k' ∧ k' ≤ k + (40 * xs.length + 40 * sumOf TBinding.m xs : Nat) ∧ xs'.length = xs.length := by
  rw [l_markBindingS_eq]
  obtain ⟨k', xs', e, g1, g2, g3⟩ := mark_loop (B := 4611686018427387904) (m := fun y : TBinding => 40 + 40 * y.m) (Q := fun y => y ∈ xs) (J := l_markBindingS_L2) (fun k xs => by rw [l_markBindingS_L2_eq]; simp [len_eq]) (by
      intro k i xs hlt hq g0 g1 gl
      rw [l_markBindingS_L2_eq]
      have hme := xs[i].m_eq
      have := xs[i].fValue.m_eq
      have hc : decide ((i : Int) < len xs) = true := by simp [len_eq, hlt]
      rw [if_pos hc]
      have w4 : w64 ((i : Int) + 1) = ((i + 1 : Nat) : Int) := by rw [w64_of (by omega) (by omega)]; omega
      simp (disch := omega) only [idx_nat, Int.toNat_natCast, List.getElem?_eq_getElem hlt, upd_eq, List.set_set, List.getElem?_set_self hlt, Option.bind_some, w4, w64_of, rem_three, l_markText_ok, l_markStringS_ok, TGen.re_eq, TCursor.re_eq]
      exact ⟨_, _, rfl, by omega, by omega⟩) xs k (fun y hy => hy) h0 (by rw [sum_40]; omega) (by omega)
  rw [sum_40] at g2
  exact ⟨k', xs', e, g1, by omega, g3⟩
set_option maxHeartbeats 8000000 in
theorem markFunctionS_ok {xs : List TFunction} {k : Int} (h0 : 0 ≤ k) (h1 : k + (40 * xs.length + 40 * sumOf TFunction.m xs : Nat) < 4611686018427387904) : ∃ k' xs', l_markFunctionS_v1 k xs = some (k', xs', ()) ∧ k ≤ k' ∧ k' ≤ k + (40 * xs.length + 40 * sumOf TFunction.m xs : Nat) ∧ xs'.length = xs.length := by
  rw [l_markFunctionS_v1_eq]
  obtain ⟨k', xs', e, g1, g2, g3⟩ := mark_loop (B := 4611686018427387904) (m := fun y : TFunction => 40 + 40 * y.m) (Q := fun y => y ∈ xs) (J := l_markFunctionS_L2_v1) (fun k xs => by rw [l_markFunctionS_L2_v1_eq]; simp [len_eq]) (by
      intro k i xs hlt hq g0 g1 gl
      rw [l_markFunctionS_L2_v1_eq]
      have hme := xs[i].m_eq
      have hc : decide ((i : Int) < len xs) = true := by simp [len_eq, hlt]
      rw [if_pos hc]
      have w4 : w64 ((i : Int) + 1) = ((i + 1 : Nat) : Int) := by rw [w64_of (by omega) (by omega)]; omega
      simp (disch := omega) only [idx_nat, Int.toNat_natCast, List.getElem?_eq_getElem hlt, upd_eq, List.set_set, List.getElem?_set_self hlt, Option.bind_some, w4, w64_of, rem_three, l_markText_ok, l_markStringS_ok, TGen.re_eq, TCursor.re_eq]
      exact ⟨_, _, rfl, by omega, by omega⟩) xs k (fun y hy => hy) h0 (by rw [sum_40]; omega) (by omega)
  rw [sum_40] at g2
  exact ⟨k', xs', e, g1, by omega, g3⟩
set_option maxHeartbeats 8000000 in
theorem markRecordTypeS_ok {xs : List TRecordType} {k : Int} (h0 : 0 ≤ k) (h1 : k + (40 * xs.length + 40 * sumOf TRecordType.m xs : Nat) < 4611686018427387904) : ∃ k' xs', l_markRecordTypeS_v1 k xs = some (k', xs', ()) ∧ k ≤ k' ∧ k' ≤ k + (40 * xs.length + 40 * sumOf TRecordType.m xs : Nat) ∧ xs'.length = xs.length := by
  rw [l_markRecordTypeS_v1_eq]
  obtain ⟨k', xs', e, g1, g2, g3⟩ := mark_loop (B := 4611686018427387904) (m := fun y : TRecordType => 40 + 40 * y.m) (Q := fun y => y ∈ xs) (J := l_markRecordTypeS_L2_v1) (fun k xs => by rw [l_markRecordTypeS_L2_v1_eq]; simp [len_eq]) (by
      intro k i xs hlt hq g0 g1 gl
      rw [l_markRecordTypeS_L2_v1_eq]
      have hme := xs[i].m_eq
      have hc : decide ((i : Int) < len xs) = true := by simp [len_eq, hlt]
      rw [if_pos hc]
      have w4 : w64 ((i : Int) + 1) = ((i + 1 : Nat) : Int) := by rw [w64_of (by omega) (by omega)]; omega
      simp (disch := omega) only [idx_nat, Int.toNat_natCast, List.getElem?_eq_getElem hlt, upd_eq, List.set_set, List.getElem?_set_self hlt, Option.bind_some, w4, w64_of, rem_three, l_markText_ok, l_markStringS_ok, TGen.re_eq, TCursor.re_eq]
      exact ⟨_, _, rfl, by omega, by omega⟩) xs k (fun y hy => hy) h0 (by rw [sum_40]; omega) (by omega)
  rw [sum_40] at g2
  exact ⟨k', xs', e, g1, by omega, g3⟩
set_option maxHeartbeats 8000000 in
theorem markFileS_ok {xs : List TFile} {k : Int} (h0 : 0 ≤ k) (h1 : k + (40 * xs.length + 40 * sumOf TFile.m xs : Nat) < 4611686018427387904) : ∃ k' xs', l_markFileS k xs = some (k', xs', ()) ∧ k ≤ k' ∧ k' ≤ k + (40 * xs.length + 40 * sumOf TFile.m xs : Nat) ∧ xs'.length = xs.length := by
  rw [l_markFileS_eq]
  obtain ⟨k', xs', e, g1, g2, g3⟩ := mark_loop (B := 4611686018427387904) (m := fun y : TFile => 40 + 40 * y.m) (Q := fun y => y ∈ xs) (J := l_markFileS_L2) (fun k xs => by rw [l_markFileS_L2_eq]; simp [len_eq]) (by
      intro k i xs hlt hq g0 g1 gl
      rw [l_markFileS_L2_eq]
      have hme := xs[i].m_eq
      have hc : decide ((i : Int) < len xs) = true := by simp [len_eq, hlt]
      rw [if_pos hc]
      have w4 : w64 ((i : Int) + 1) = ((i + 1 : Nat) : Int) := by rw [w64_of (by omega) (by omega)]; omega
      simp (disch := omega) only [idx_nat, Int.toNat_natCast, List.getElem?_eq_getElem hlt, upd_eq, List.set_set, List.getElem?_set_self hlt, Option.bind_some, w4, w64_of, rem_three, l_markText_ok, l_markStringS_ok, TGen.re_eq, TCursor.re_eq]
      exact ⟨_, _, rfl, by omega, by omega⟩) xs k (fun y hy => hy) h0 (by rw [sum_40]; omega) (by omega)
  rw [sum_40] at g2
  exact ⟨k', xs', e, g1, by omega, g3⟩
set_option maxHeartbeats 8000000 in
theorem markCallFrameS_ok {xs : List TCallFrame} {k : Int} (h0 : 0 ≤ k) (h1 : k + (40 * xs.length + 40 * sumOf TCallFrame.m xs : Nat) < 4611686018427387904) : ∃ k' xs', l_markCallFrameS k xs = some (k', xs', ()) ∧ k ≤ k' ∧ k' ≤ k + (40 * xs.length + 40 * sumOf TCallFrame.m xs : Nat) ∧ xs'.length = xs.length := by
  rw [l_markCallFrameS_eq]
  obtain ⟨k', xs', e, g1, g2, g3⟩ := mark_loop (B := 4611686018427387904) (m := fun y : TCallFrame => 40 + 40 * y.m) (Q := fun y => y ∈ xs) (J := l_markCallFrameS_L2) (fun k xs => by rw [l_markCallFrameS_L2_eq]; simp [len_eq]) (by
      intro k i xs hlt hq g0 g1 gl
      rw [l_markCallFrameS_L2_eq]
      have hme := xs[i].m_eq
      have hc : decide ((i : Int) < len xs) = true := by simp [len_eq, hlt]
      rw [if_pos hc]
      have w4 : w64 ((i : Int) + 1) = ((i + 1 : Nat) : Int) := by rw [w64_of (by omega) (by omega)]; omega
      obtain ⟨k1, ys1, e1, p1, q1, _⟩ := markBindingS_ok (xs := xs[i].fSaved) (k := k + 1) (by omega) (by omega)
      simp (disch := omega) only [idx_nat, Int.toNat_natCast, List.getElem?_eq_getElem hlt, upd_eq, List.set_set, List.getElem?_set_self hlt, Option.bind_some, w4, w64_of, rem_three, l_markText_ok, l_markStringS_ok, e1, TGen.re_eq, TCursor.re_eq]
      exact ⟨_, _, rfl, by omega, by omega⟩) xs k (fun y hy => hy) h0 (by rw [sum_40]; omega) (by omega)
  rw [sum_40] at g2
  exact ⟨k', xs', e, g1, by omega, g3⟩
theorem markHeap_ok (x : THeap) (s0 : Int) {k : Int} (h0 : 0 ≤ k) (h1 : k + (40 * x.fObjects.length + 40 * sumOf TObject.m x.fObjects : Nat) < 4611686018427387904) : ∃ k' a0, l_markHeap s0 k x.fObjects = some (k', a0, ()) ∧ k ≤ k' ∧ k' ≤ k + (40 * x.fObjects.length + 40 * sumOf TObject.m x.fObjects : Nat) := by
 obtain ⟨k0, b0, e0, p0, q0, _⟩ := markObjectS_ok (xs := x.fObjects) (k := k) (by omega) (by omega)
 have hk : k ≤ k0 ∧ k0 ≤ k + (40 * x.fObjects.length + 40 * sumOf TObject.m x.fObjects : Nat) := by omega
 refine ⟨k0, b0, ?_, hk.1, hk.2⟩
 rw [l_markHeap_eq]
 rw [e0]
 try simp only [Option.bind_some]
theorem markScope_ok (x : TScope) {k : Int} (h0 : 0 ≤ k) (h1 : k + (40 * x.fVars.length + 40 * sumOf TBinding.m x.fVars + 40 * x.fFunctions.length + 40 * sumOf TFunction.m x.fFunctions + 40 * x.fTypes.length + 40 * sumOf TRecordType.m x.fTypes : Nat) < 4611686018427387904) : ∃ k' a0 a1 a2, l_markScope_v1 k x.fVars x.fFunctions x.fTypes = some (k', a0, a1, a2, ()) ∧ k ≤ k' ∧ k' ≤ k + (40 * x.fVars.length + 40 * sumOf TBinding.m x.fVars + 40 * x.fFunctions.length + 40 * sumOf TFunction.m x.fFunctions + 40 * x.fTypes.length + 40 * sumOf TRecordType.m x.fTypes : Nat) := by
 obtain ⟨k0, b0, e0, p0, q0, _⟩ := markBindingS_ok (xs := x.fVars) (k := k) (by omega) (by omega)
 obtain ⟨k1, b1, e1, p1, q1, _⟩ := markFunctionS_ok (xs := x.fFunctions) (k := k0) (by omega) (by omega)
 obtain ⟨k2, b2, e2, p2, q2, _⟩ := markRecordTypeS_ok (xs := x.fTypes) (k := k1) (by omega) (by omega)
 have hk : k ≤ k2 ∧ k2 ≤ k + (40 * x.fVars.length + 40 * sumOf TBinding.m x.fVars + 40 * x.fFunctions.length + 40 * sumOf TFunction.m x.fFunctions + 40 * x.fTypes.length + 40 * sumOf TRecordType.m x.fTypes : Nat) := by omega
 refine ⟨k2, b0, b1, b2, ?_, hk.1, hk.2⟩
 rw [l_markScope_v1_eq]
 rw [e0]
 try simp only [Option.bind_some]
 rw [e1]
 try simp only [Option.bind_some]
 rw [e2]
 try simp only [Option.bind_some]
theorem markConsole_ok (x : TConsole) (s0 : Int) {k : Int} (h0 : 0 ≤ k) (h1 : k + (x.fInput.length + x.fOutput.length + 40 * x.fFiles.length + 40 * sumOf TFile.m x.fFiles + x.fTrace.length : Nat) < 4611686018427387904) : ∃ k' a0 a1 a2 a3, l_markConsole s0 k x.fInput x.fOutput x.fFiles x.fTrace = some (k', a0, a1, a2, a3, ()) ∧ k ≤ k' ∧ k' ≤ k + (x.fInput.length + x.fOutput.length + 40 * x.fFiles.length + 40 * sumOf TFile.m x.fFiles + x.fTrace.length : Nat) := by
 have e0 := l_markStringS_ok (xs := x.fInput) (k := k) (by omega) (by omega)
 have e1 := l_markStringS_ok (xs := x.fOutput) (k := k + (x.fInput.length : Int)) (by omega) (by omega)
 obtain ⟨k2, b2, e2, p2, q2, _⟩ := markFileS_ok (xs := x.fFiles) (k := k + (x.fInput.length : Int) + (x.fOutput.length : Int)) (by omega) (by omega)
 have e3 := l_markStringS_ok (xs := x.fTrace) (k := k2) (by omega) (by omega)
 have hk : k ≤ k2 + (x.fTrace.length : Int) ∧ k2 + (x.fTrace.length : Int) ≤ k + (x.fInput.length + x.fOutput.length + 40 * x.fFiles.length + 40 * sumOf TFile.m x.fFiles + x.fTrace.length : Nat) := by omega
 refine ⟨k2 + (x.fTrace.length : Int), marksS (k) x.fInput.length, marksS (k + (x.fInput.length : Int)) x.fOutput.length, b2, marksS (k2) x.fTrace.length, ?_, hk.1, hk.2⟩
 rw [l_markConsole_eq]
 rw [e0]
 try simp only [Option.bind_some]
 rw [e1]
 try simp only [Option.bind_some]
 rw [e2]
 try simp only [Option.bind_some]
 rw [e3]
 try simp only [Option.bind_some]
theorem markMemory_ok (x : TMemory) (s0 : Int) (s1 : Int) {k : Int} (h0 : 0 ≤ k) (h1 : k + (40 * x.fHeap.fObjects.length + 40 * sumOf TObject.m x.fHeap.fObjects + 40 * x.fScope.fVars.length + 40 * sumOf TBinding.m x.fScope.fVars + 40 * x.fScope.fFunctions.length + 40 * sumOf TFunction.m x.fScope.fFunctions + 40 * x.fScope.fTypes.length + 40 * sumOf TRecordType.m x.fScope.fTypes + x.fConsole.fInput.length + x.fConsole.fOutput.length + 40 * x.fConsole.fFiles.length + 40 * sumOf TFile.m x.fConsole.fFiles + x.fConsole.fTrace.length : Nat) < 4611686018427387904) : ∃ k' a0 a1 a2 a3 a4 a5 a6 a7, l_markMemory s0 s1 k x.fHeap.fObjects x.fScope.fVars x.fScope.fFunctions x.fScope.fTypes x.fConsole.fInput x.fConsole.fOutput x.fConsole.fFiles x.fConsole.fTrace = some (k', a0, a1, a2, a3, a4, a5, a6, a7, ()) ∧ k ≤ k' ∧ k' ≤ k + (40 * x.fHeap.fObjects.length + 40 * sumOf TObject.m x.fHeap.fObjects + 40 * x.fScope.fVars.length + 40 * sumOf TBinding.m x.fScope.fVars + 40 * x.fScope.fFunctions.length + 40 * sumOf TFunction.m x.fScope.fFunctions + 40 * x.fScope.fTypes.length + 40 * sumOf TRecordType.m x.fScope.fTypes + x.fConsole.fInput.length + x.fConsole.fOutput.length + 40 * x.fConsole.fFiles.length + 40 * sumOf TFile.m x.fConsole.fFiles + x.fConsole.fTrace.length : Nat) := by
 obtain ⟨k0, b0_0, e0, p0, q0⟩ := markHeap_ok x.fHeap _ (k := k) (by omega) (by omega)
 obtain ⟨k1, b1_0, b1_1, b1_2, e1, p1, q1⟩ := markScope_ok x.fScope (k := k0) (by omega) (by omega)
 obtain ⟨k2, b2_0, b2_1, b2_2, b2_3, e2, p2, q2⟩ := markConsole_ok x.fConsole _ (k := k1) (by omega) (by omega)
 have hk : k ≤ k2 ∧ k2 ≤ k + (40 * x.fHeap.fObjects.length + 40 * sumOf TObject.m x.fHeap.fObjects + 40 * x.fScope.fVars.length + 40 * sumOf TBinding.m x.fScope.fVars + 40 * x.fScope.fFunctions.length + 40 * sumOf TFunction.m x.fScope.fFunctions + 40 * x.fScope.fTypes.length + 40 * sumOf TRecordType.m x.fScope.fTypes + x.fConsole.fInput.length + x.fConsole.fOutput.length + 40 * x.fConsole.fFiles.length + 40 * sumOf TFile.m x.fConsole.fFiles + x.fConsole.fTrace.length : Nat) := by omega
 refine ⟨k2, b0_0, b1_0, b1_1, b1_2, b2_0, b2_1, b2_2, b2_3, ?_, hk.1, hk.2⟩
 rw [l_markMemory_eq]
 rw [e0]
 try simp only [Option.bind_some]
 rw [e1]
 try simp only [Option.bind_some]
 rw [e2]
 try simp only [Option.bind_some]
theorem markMachine_ok (x : TMachine) (s0 : Int) (s1 : Int) (s2 : Int) (s3 : Int) (s4 : Int) (s5 : Int) (s6 : Int) (s7 : Int) (s8 : Int) {k : Int} (h0 : 0 ≤ k) (h1 : k + (40 * x.fMemory.fHeap.fObjects.length + 40 * sumOf TObject.m x.fMemory.fHeap.fObjects + 40 * x.fMemory.fScope.fVars.length + 40 * sumOf TBinding.m x.fMemory.fScope.fVars + 40 * x.fMemory.fScope.fFunctions.length + 40 * sumOf TFunction.m x.fMemory.fScope.fFunctions + 40 * x.fMemory.fScope.fTypes.length + 40 * sumOf TRecordType.m x.fMemory.fScope.fTypes + x.fMemory.fConsole.fInput.length + x.fMemory.fConsole.fOutput.length + 40 * x.fMemory.fConsole.fFiles.length + 40 * sumOf TFile.m x.fMemory.fConsole.fFiles + x.fMemory.fConsole.fTrace.length + 40 * x.fStack.length + 40 * sumOf TValue.m x.fStack + 40 * x.fFrames.length + 40 * sumOf TCallFrame.m x.fFrames : Nat) < 4611686018427387904) : ∃ k' a0 a1 a2 a3 a4 a5 a6 a7 a8 a9, l_markMachine s0 s1 s2 s3 s4 s5 s6 s7 s8 k x.fMemory.fHeap.fObjects x.fMemory.fScope.fVars x.fMemory.fScope.fFunctions x.fMemory.fScope.fTypes x.fMemory.fConsole.fInput x.fMemory.fConsole.fOutput x.fMemory.fConsole.fFiles x.fMemory.fConsole.fTrace x.fStack x.fFrames = some (k', a0, a1, a2, a3, a4, a5, a6, a7, a8, a9, ()) ∧ k ≤ k' ∧ k' ≤ k + (40 * x.fMemory.fHeap.fObjects.length + 40 * sumOf TObject.m x.fMemory.fHeap.fObjects + 40 * x.fMemory.fScope.fVars.length + 40 * sumOf TBinding.m x.fMemory.fScope.fVars + 40 * x.fMemory.fScope.fFunctions.length + 40 * sumOf TFunction.m x.fMemory.fScope.fFunctions + 40 * x.fMemory.fScope.fTypes.length + 40 * sumOf TRecordType.m x.fMemory.fScope.fTypes + x.fMemory.fConsole.fInput.length + x.fMemory.fConsole.fOutput.length + 40 * x.fMemory.fConsole.fFiles.length + 40 * sumOf TFile.m x.fMemory.fConsole.fFiles + x.fMemory.fConsole.fTrace.length + 40 * x.fStack.length + 40 * sumOf TValue.m x.fStack + 40 * x.fFrames.length + 40 * sumOf TCallFrame.m x.fFrames : Nat) := by
 obtain ⟨k0, b0_0, b0_1, b0_2, b0_3, b0_4, b0_5, b0_6, b0_7, e0, p0, q0⟩ := markMemory_ok x.fMemory _ _ (k := k) (by omega) (by omega)
 obtain ⟨k1, b1, e1, p1, q1, _⟩ := markValueS_ok (xs := x.fStack) (k := k0) (by omega) (by omega)
 obtain ⟨k2, b2, e2, p2, q2, _⟩ := markCallFrameS_ok (xs := x.fFrames) (k := k1) (by omega) (by omega)
 have hk : k ≤ k2 ∧ k2 ≤ k + (40 * x.fMemory.fHeap.fObjects.length + 40 * sumOf TObject.m x.fMemory.fHeap.fObjects + 40 * x.fMemory.fScope.fVars.length + 40 * sumOf TBinding.m x.fMemory.fScope.fVars + 40 * x.fMemory.fScope.fFunctions.length + 40 * sumOf TFunction.m x.fMemory.fScope.fFunctions + 40 * x.fMemory.fScope.fTypes.length + 40 * sumOf TRecordType.m x.fMemory.fScope.fTypes + x.fMemory.fConsole.fInput.length + x.fMemory.fConsole.fOutput.length + 40 * x.fMemory.fConsole.fFiles.length + 40 * sumOf TFile.m x.fMemory.fConsole.fFiles + x.fMemory.fConsole.fTrace.length + 40 * x.fStack.length + 40 * sumOf TValue.m x.fStack + 40 * x.fFrames.length + 40 * sumOf TCallFrame.m x.fFrames : Nat) := by omega
 refine ⟨k2, b0_0, b0_1, b0_2, b0_3, b0_4, b0_5, b0_6, b0_7, b1, b2, ?_, hk.1, hk.2⟩
 rw [l_markMachine_eq]
 rw [e0]
 try simp only [Option.bind_some]
 rw [e1]
 try simp only [Option.bind_some]
 rw [e2]
 try simp only [Option.bind_some]
end Go.Dv.U

namespace Go.Dv.U
open Go Go.Dv Go.Proofs
theorem obs_len {O : List TObject} (h : sumOf TObject.m O ≤ 1048576) : ∀ o ∈ O, o.fKeys.length ≤ 1048576 ∧ o.fVals.length ≤ 1048576 := by
 intro o ho
 have h1 := sumOf_mem (m := TObject.m) ho
 have h2 := o.m_eq
 exact ⟨by omega, by omega⟩
end Go.Dv.U

namespace Go.Dv.U
open Go Go.Dv Go.Proofs
noncomputable def mkV (k : Int) : TValue := ⟨k, k + 1, mkT (k + 2), k + 3⟩
theorem markLV_ok {xs : List TValue} {k : Int} (h0 : 0 ≤ k) (h1 : k + (4 * xs.length : Nat) < 4611686018427387904) : l_markValueS k xs = some (k + (4 * xs.length : Nat), marksL mkV 4 k xs.length, ()) := by
 rw [l_markValueS_eq]
 refine markL_loop (μ := mkV) (c := 4) (J := l_markValueS_L2) (fun k xs => by rw [l_markValueS_L2_eq]; simp [len_eq]) ?_ xs k h0 h1 (by omega)
 intro k i xs hlt g0 g1 gl
 rw [l_markValueS_L2_eq]
 have hc : decide ((i : Int) < len xs) = true := by simp [len_eq, hlt]
 rw [if_pos hc]
 have w4 : w64 ((i : Int) + 1) = ((i + 1 : Nat) : Int) := by rw [w64_of (by omega) (by omega)]; omega
 simp (disch := omega) only [idx_nat, Int.toNat_natCast, List.getElem?_eq_getElem hlt, upd_eq, List.set_set, List.getElem?_set_self hlt, Option.bind_some, w4, w64_of, l_markText_ok, mkV]
 simp only [Int.add_assoc]
 rfl
theorem heldLV_ok {n : Nat} {k : Int} (h0 : 0 ≤ k) (h1 : k + (4 * n : Nat) < 4611686018427387904) : l_heldValueS (marksL mkV 4 k n) k = some (k + (4 * n : Nat)) := by
 rw [l_heldValueS_eq]
 refine heldL_loop (μ := mkV) (c := 4) (J := fun k i => l_heldValueS_L2 (marksL mkV 4 _ n) k i) (by omega) h0 h1 (fun k => ?_) ?_
 ·show l_heldValueS_L2 _ _ _ = _
  rw [l_heldValueS_L2_eq]; simp [len_eq, marksL_len]
 ·intro k' i hlt g0 g1 hi
  show l_heldValueS_L2 _ _ _ = l_heldValueS_L2 _ _ _
  rw [l_heldValueS_L2_eq]
  have hc : decide ((i : Int) < len (marksL mkV 4 k n)) = true := by simp [len_eq, marksL_len, hlt]
  rw [if_pos hc, hi]
  have w4 : w64 ((i : Int) + 1) = ((i + 1 : Nat) : Int) := by rw [w64_of (by omega) (by omega)]; omega
  simp (disch := omega) only [Option.bind_some, w4, w64_of, l_markText_ok, mkV]
  simp [Int.add_assoc]
theorem valSelf_ok {xs : List TValue} (hx : xs.length ≤ 9223372036854775807) : l_eqValueS xs xs = some true := by
 rw [l_eqValueS_eq]
 simp only [bne_self_eq_false, Bool.false_eq_true, if_false]
 exact eq_loop (by omega) (J := l_eqValueS_L4) (F := l_eqValue) (fun i => by rw [l_eqValueS_L4_eq]; try simp only [TValue.re_eq]) (fun y _ => by rw [l_eqValue_eq]; simp)
theorem acc_loop {α β γ : Type} {xs : List α} (hx : xs.length ≤ 9223372036854775807) {f : α → List β} {B : Nat} {J : Int → List β → Option γ} (a : List β)
  (hs : ∀ (i : Nat) (y : α) (b : List β), i < xs.length → y ∈ xs → idx xs (i : Int) = some y → w64 ((i : Int) + 1) = ((i + 1 : Nat) : Int) → b.length + (f y).length ≤ B → J (i : Int) b = J ((i + 1 : Nat) : Int) (b ++ f y))
  (hb : a.length + (xs.flatMap f).length ≤ B) : J 0 a = J (xs.length : Int) (a ++ xs.flatMap f) := by
 have := cat_loop (xs := xs) hx (f := f) (B := B - a.length) (J := fun i b => J i (a ++ b)) (by
  intro i y b hlt hy hi hw hbb
  show J _ (a ++ b) = J _ (a ++ (b ++ f y))
  rw [← List.append_assoc]
  exact hs i y (a ++ b) hlt hy hi hw (by simp only [List.length_append]; omega)) (by omega)
 simpa using this
theorem flat_len {α β : Type} {f : α → List β} {m : α → Nat} (c : Nat) : ∀ l : List α, (∀ y ∈ l, (f y).length ≤ m y + c) → (l.flatMap f).length ≤ sumOf m l + c * l.length
 | [], _ => by simp [sumOf]
 | y :: r, h => by
  have h1 := h y (by simp)
  have h2 := flat_len c r fun z hz => h z (by simp [hz])
  simp only [List.flatMap_cons, List.length_append, sumOf, List.length_cons, Nat.mul_succ]; omega
def vsR (vs : List TBinding) : List TValue := vs.flatMap fun b => [b.fValue]
theorem vsR_len (vs : List TBinding) : (vsR vs).length = vs.length := by rw [vsR, ← List.map_eq_flatMap, List.length_map]
theorem i_scRoots_ok {vs : List TBinding} (hv : vs.length ≤ 1048576) (fs : List TFunction) (ts : List TRecordType) : i_Scope_roots_v2 (TScope.mk vs fs ts) = some ((vsR vs, ()), ()) := by
 rw [i_Scope_roots_v2_eq]
 have := cat_loop (xs := vs) (by omega) (f := fun b => [b.fValue]) (B := 68719476736) (J := fun i a => i_Scope_roots_L3_v2 vs (len vs) i a) (by
  intro i y c hlt hy hi hw hc
  show i_Scope_roots_L3_v2 _ _ _ _ = i_Scope_roots_L3_v2 _ _ _ _
  rw [i_Scope_roots_L3_v2_eq, if_pos (by simp [len_eq, hlt]), hi, hw]
  simp only [Option.bind_some]
  rw [app_of hc]; rfl) (by have := vsR_len vs; unfold vsR at this; omega)
 rw [show i_Scope_roots_L3_v2 vs (len vs) 0 [] = _ from this, i_Scope_roots_L3_v2_eq, if_neg (by simp [len_eq])]; rfl
theorem i_rootsOf_ok {vs : List TBinding} (hv : vs.length ≤ 1048576) {a : List TValue} (ha : a.length + vs.length ≤ 68719476736) : i_rootsOf vs a = some ((a ++ vsR vs, ()), ()) := by
 rw [i_rootsOf_eq, i_scRoots_ok hv]
 simp only [Option.bind_some]
 rw [app_of (by rw [vsR_len]; omega)]; rfl
end Go.Dv.U

namespace Go.Dv.U
open Go Go.Dv Go.Proofs
def lnOk (n k : Nat) (l : List (List UInt8)) : Bool := decide (l.length ≤ n) && l.all fun s => decide (s.length ≤ k)
theorem dec_leI {a b : Nat} : decide ((a : Int) ≤ (b : Int)) = decide (a ≤ b) := by
 rw [Bool.eq_iff_iff]; simp only [decide_eq_true_eq]; omega
theorem s_lines_ok {l : List (List UInt8)} (hl : l.length ≤ 1048576) (n k : Nat) : s_l21Lines l (n : Int) (k : Int) = some (lnOk n k l) := by
 rw [s_l21Lines_eq]
 have key := gate_loop (xs := l) (by omega) (c := fun y _ => decide (y.length ≤ k)) (J := fun i => s_l21Lines_L4 l k i) (by
  intro i y hlt hy hi hw
  show s_l21Lines_L4 _ _ _ = _
  rw [s_l21Lines_L4_eq, if_pos (by simp [len_eq, hlt]), hi, hw]
  simp only [Option.bind_some, len_eq, dec_gt]
  cases decide (y.length ≤ k) <;> simp)
 have hg : ∀ (q : List (List UInt8)) (i : Nat), gate (fun y _ => decide (y.length ≤ k)) q i = q.all fun y => decide (y.length ≤ k) := by
  intro q; induction q with
  | nil => intro i; rfl
  | cons y r ih => intro i; simp only [gate, ih, List.all_cons]
 have key2 : s_l21Lines_L4 l k 0 = some (l.all fun y => decide (y.length ≤ k)) := by
  have kend : s_l21Lines_L4 l k (l.length : Int) = some true := by rw [s_l21Lines_L4_eq, if_neg (by simp [len_eq])]
  rw [show s_l21Lines_L4 l k 0 = _ from key, hg, kend]
  cases (l.all fun y => decide (y.length ≤ k)) <;> simp
 rw [key2]
 unfold lnOk
 rw [len_eq, dec_gt]
 cases decide (l.length ≤ n) <;> cases (l.all fun y => decide (y.length ≤ k)) <;> simp
theorem i_short_ok {l : List (List UInt8)} (hl : l.length ≤ 1048576) : i_areAll_string__i_isShort l = some (l.all fun s => decide (s.length ≤ 200)) := by
 rw [i_areAll_string__i_isShort_eq]
 exact all_loop (xs := l) (by omega) (F := i_isShort) (p := fun s => decide (s.length ≤ 200)) (J := fun i => i_areAll_string_L2__i_isShort l (len l) i) (fun i => by show i_areAll_string_L2__i_isShort _ _ _ = _; rw [i_areAll_string_L2__i_isShort_eq]) (fun y _ => by rw [i_isShort_eq, len_eq]; congr 1; exact dec_leI (b := 200))
theorem i_trace_ok {l : List (List UInt8)} (hl : l.length ≤ 1048576) : i_areAll_string__i_ValidConsole_c1 l = some (l.all fun s => decide (s.length ≤ 1300)) := by
 rw [i_areAll_string__i_ValidConsole_c1_eq]
 exact all_loop (xs := l) (by omega) (F := i_ValidConsole_c1) (p := fun s => decide (s.length ≤ 1300)) (J := fun i => i_areAll_string_L2__i_ValidConsole_c1 l (len l) i) (fun i => by show i_areAll_string_L2__i_ValidConsole_c1 _ _ _ = _; rw [i_areAll_string_L2__i_ValidConsole_c1_eq]) (fun y _ => by rw [i_ValidConsole_c1_eq, len_eq]; congr 1; exact dec_leI (b := 1300))
def flOk (f : TFile) : Bool := isName f.fName && lnOk 40 200 f.fLines && (decide (0 ≤ f.fMode) && decide (f.fMode ≤ 3)) && (decide (0 ≤ f.fAt) && decide (f.fAt ≤ f.fLines.length)) && (f.fMode == 1 || f.fAt == 0)
theorem s_file_ok {f : TFile} (h : f.fLines.length ≤ 1048576) : s_l21File f = some (flOk f) := by
 rw [s_l21File_eq]
 have e := s_lines_ok h 40 200
 simp only [show ((40 : Nat) : Int) = (40 : Int) from rfl, show ((200 : Nat) : Int) = (200 : Int) from rfl] at e
 simp only [s_l21File_L2_eq, s_l21File_L3_eq, s_IsName_ok, s_l00In_ok, e, Option.bind_some, len_eq]
 unfold flOk
 cases isName f.fName <;> cases lnOk 40 200 f.fLines <;> cases (decide (0 ≤ f.fMode) && decide (f.fMode ≤ 3)) <;> cases (decide (0 ≤ f.fAt) && decide (f.fAt ≤ (f.fLines.length : Int))) <;> cases (f.fMode == 1) <;> simp
theorem i_file_ok {f : TFile} (h : f.fLines.length ≤ 1048576) : i_File_isValid f = some (flOk f) := by
 rw [i_File_isValid_eq, i_short_ok h]
 simp only [i_File_isValid_L3_eq, i_IsName_ok, i_within_ok, i_isMode_eq, Option.bind_some, len_eq]
 unfold flOk lnOk
 have e40 : decide ((f.fLines.length : Int) ≤ 40) = decide (f.fLines.length ≤ 40) := dec_leI (b := 40)
 rw [e40]
 have hm : (decide (0 ≤ f.fMode) && decide (f.fMode ≤ 3)) = (f.fMode == 0 || (decide (1 ≤ f.fMode) && decide (f.fMode ≤ 3))) := by
  rw [Bool.eq_iff_iff]; simp only [Bool.and_eq_true, Bool.or_eq_true, decide_eq_true_eq, beq_iff_eq]; omega
 rw [hm]
 have h10 : f.fMode = 0 → (f.fMode == 1) = false := by intro e; rw [e]; rfl
 cases isName f.fName <;> cases decide (f.fLines.length ≤ 40) <;> cases (f.fLines.all fun s => decide (s.length ≤ 200)) <;> cases (decide (0 ≤ f.fAt) && decide (f.fAt ≤ (f.fLines.length : Int))) <;> by_cases ha : f.fAt = 0 <;> cases h1 : (f.fMode == 1) <;> cases h0 : (f.fMode == 0) <;> cases (decide (1 ≤ f.fMode) && decide (f.fMode ≤ 3)) <;> simp [ha]
def cnOk (c : TConsole) : Bool := lnOk 100 200 c.fInput && (decide (0 ≤ c.fAt) && decide (c.fAt ≤ c.fInput.length)) && lnOk 100 200 c.fOutput && decide (c.fFiles.length ≤ 6) && lnOk 200 1300 c.fTrace && (c.fFiles.all flOk && adj TFile.fName c.fFiles)
theorem s_console_ok {c : TConsole} (hm : c.m ≤ 1048576) : s_ValidConsole c = some (cnOk c) := by
 have hq := c.m_eq
 have e1 := s_lines_ok (l := c.fInput) (by omega) 100 200
 have e2 := s_lines_ok (l := c.fOutput) (by omega) 100 200
 have e3 := s_lines_ok (l := c.fTrace) (by omega) 200 1300
 simp only [show ((100 : Nat) : Int) = (100 : Int) from rfl, show ((200 : Nat) : Int) = (200 : Int) from rfl, show ((1300 : Nat) : Int) = (1300 : Int) from rfl] at e1 e2 e3
 rw [s_ValidConsole_eq, s_l21Ok_eq]
 have key := chk_loop (xs := c.fFiles) (by omega) (p := flOk) (nm := TFile.fName) (E := some true) (J := fun i => s_l21Ok_L4 c.fInput c.fAt c.fOutput c.fFiles c.fTrace i) (by
  intro i hi
  show s_l21Ok_L4 _ _ _ _ _ _ = _
  rw [s_l21Ok_L4_eq]
  by_cases hlt : i < c.fFiles.length
  ·rw [if_pos (by simp [len_eq, hlt])]
   have ei : idx c.fFiles (i : Int) = some c.fFiles[i] := by rw [idx_nat, List.getElem?_eq_getElem hlt]
   have hw : w64 ((i : Int) + 1) = ((i + 1 : Nat) : Int) := by rw [w64_of (by omega) (by omega)]; omega
   have hfm := sumOf_mem (m := TFile.m) (List.getElem_mem hlt)
   have hfq := c.fFiles[i].m_eq
   simp only [ei, Option.bind_some, s_file_ok (f := c.fFiles[i]) (by omega), s_l21Ok_L7_eq, s_l21Ok_L5_eq, hw, List.getElem?_eq_getElem hlt]
   cases i with
   | zero =>
    have hg : ¬ decide (((0 : Nat) : Int) > 0) = true := by simp
    rw [if_neg hg]
    by_cases hc : flOk c.fFiles[0] = true <;> simp [hc]
   | succ j =>
    have hg : decide (((j + 1 : Nat) : Int) > 0) = true := by simp only [decide_eq_true_eq]; omega
    have w1 : w64 (((j + 1 : Nat) : Int) - 1) = (j : Int) := by rw [w64_of (by omega) (by omega)]; omega
    rw [if_pos hg, w1, idx_nat, List.getElem?_eq_getElem (show j < c.fFiles.length by omega)]
    simp only [Option.bind_some, List.getElem?_eq_getElem (show j < c.fFiles.length by omega)]
    by_cases hc : flOk c.fFiles[j + 1] = true <;> by_cases hd : Op.bytesLess c.fFiles[j].fName c.fFiles[j + 1].fName = true <;> simp [hc, hd]
  ·rw [if_neg (by simp only [len_eq, decide_eq_true_eq]; omega), List.getElem?_eq_none (by omega)])
 rw [s_l21Ok_L3_eq, show s_l21Ok_L4 c.fInput c.fAt c.fOutput c.fFiles c.fTrace 0 = _ from key]
 simp only [e1, e2, e3, s_l21Ok_L2_eq, s_l00In_ok, Option.bind_some, len_eq]
 unfold cnOk
 have e6 : decide ((c.fFiles.length : Int) > 6) = !decide (c.fFiles.length ≤ 6) := dec_gt (b := 6)
 rw [e6]
 generalize (c.fFiles.all flOk && adj TFile.fName c.fFiles) = a
 cases lnOk 100 200 c.fInput <;> cases (decide (0 ≤ c.fAt) && decide (c.fAt ≤ (c.fInput.length : Int))) <;> cases lnOk 100 200 c.fOutput <;> cases decide (c.fFiles.length ≤ 6) <;> cases lnOk 200 1300 c.fTrace <;> cases a <;> simp
theorem i_console_ok {c : TConsole} (hm : c.m ≤ 1048576) : i_ValidConsole c = some (cnOk c) := by
 have hq := c.m_eq
 rw [i_ValidConsole_eq, i_ValidConsole_L4__i_ValidConsole_c1_eq, i_short_ok (by omega), i_short_ok (by omega), i_trace_ok (by omega)]
 have ea : i_areAll_impl_File__i_File_isValid c.fFiles = some (c.fFiles.all flOk) := by
  rw [i_areAll_impl_File__i_File_isValid_eq]
  exact all_loop (xs := c.fFiles) (by omega) (F := i_File_isValid) (p := flOk) (J := fun i => i_areAll_impl_File_L2__i_File_isValid c.fFiles (len c.fFiles) i) (fun i => by show i_areAll_impl_File_L2__i_File_isValid _ _ _ = _; rw [i_areAll_impl_File_L2__i_File_isValid_eq]) (fun y hy => by
   have h1 := sumOf_mem (m := TFile.m) hy
   have h2 := y.m_eq
   exact i_file_ok (by omega))
 have es : i_isSorted_impl_File__i_nameOfFile c.fFiles = some (adj TFile.fName c.fFiles) := by
  rw [i_isSorted_impl_File__i_nameOfFile_eq]
  exact adj_loop (xs := c.fFiles) (by omega) (nm := TFile.fName) (J := i_isSorted_impl_File_L2__i_nameOfFile c.fFiles) (fun i => by rw [i_isSorted_impl_File_L2__i_nameOfFile_eq]; simp only [i_nameOfFile_eq, Option.bind_some])
 simp only [i_ValidConsole_L3_eq, i_ValidConsole_L5_eq, i_within_ok, ea, es, Option.bind_some, len_eq]
 unfold cnOk lnOk
 have e100 : ∀ n : Nat, decide ((n : Int) > 100) = !decide (n ≤ 100) := fun n => dec_gt (b := 100)
 have e200 : ∀ n : Nat, decide ((n : Int) > 200) = !decide (n ≤ 200) := fun n => dec_gt (b := 200)
 have e6 : decide ((c.fFiles.length : Int) > 6) = !decide (c.fFiles.length ≤ 6) := dec_gt (b := 6)
 rw [e100, e100, e200, e6]
 generalize (c.fInput.all fun s => decide (s.length ≤ 200)) = a1
 generalize (c.fOutput.all fun s => decide (s.length ≤ 200)) = a2
 generalize (c.fTrace.all fun s => decide (s.length ≤ 1300)) = a3
 generalize c.fFiles.all flOk = a4
 generalize adj TFile.fName c.fFiles = a5
 cases decide (c.fInput.length ≤ 100)
 ·simp
 cases decide (c.fOutput.length ≤ 100)
 ·simp
 cases decide (c.fFiles.length ≤ 6)
 ·simp
 cases decide (c.fTrace.length ≤ 200)
 ·simp
 cases (decide (0 ≤ c.fAt) && decide (c.fAt ≤ (c.fInput.length : Int))) <;> cases a1 <;> cases a2 <;> cases a3 <;> cases a4 <;> simp
def memOk (x : TMemory) : Bool := hpOk x.fHeap.fNext x.fHeap.fObjects && scOk x.fScope && cnOk x.fConsole && (vsR x.fScope.fVars).all (vFits x.fHeap.fObjects)
theorem s_scRoots_ok {x : TScope} (hm : x.m ≤ 1048576) : s_ScopeRoots_v1 x = some (((if scOk x = true then vsR x.fVars else []), ()), ()) := by
 have hq := x.m_eq
 rw [s_ScopeRoots_v1_eq, s_ValidScope_ok hm]
 simp only [Option.bind_some]
 by_cases h : scOk x = true
 ·simp only [h, Bool.not_true, Bool.false_eq_true, if_false, if_true]
  have := cat_loop (xs := x.fVars) (by omega) (f := fun b => [b.fValue]) (B := 68719476736) (J := fun i a => s_ScopeRoots_L5_v1 i x.fVars x.fFunctions x.fTypes a) (by
   intro i y a hlt hy hi hw hb
   show s_ScopeRoots_L5_v1 _ _ _ _ _ = s_ScopeRoots_L5_v1 _ _ _ _ _
   rw [s_ScopeRoots_L5_v1_eq, if_pos (by simp [len_eq, hlt]), hi, hw]
   simp only [Option.bind_some]
   rw [app_of hb]; rfl) (by have := vsR_len x.fVars; unfold vsR at this; omega)
  rw [show s_ScopeRoots_L5_v1 0 x.fVars x.fFunctions x.fTypes [] = _ from this, s_ScopeRoots_L5_v1_eq, if_neg (by simp [len_eq])]; rfl
 ·simp [h]
theorem s_fits17_ok {n : Int} {O : List TObject} (hO : O.length ≤ 1048576) (ho : ∀ o ∈ O, o.fKeys.length ≤ 1048576 ∧ o.fVals.length ≤ 1048576) (hh : hpOk n O = true) {l : List TValue} (hl : l.length ≤ 1048576) : s_l17Fits (THeap.mk n O) l = some (l.all (vFits O)) := by
 rw [s_l17Fits_eq]
 have hv : s_ValidHeap (THeap.mk n O) = some true := by rw [s_ValidHeap_eq]; simp only [s_l07Ok_ok hO ho, hh, Option.bind_some]
 have hf : ∀ v, s_FitsHeap (THeap.mk n O) v = some (vFits O v) := by
  intro v; rw [s_FitsHeap_eq]; simp only [s_l07Ok_ok hO ho, hh, Option.bind_some, if_true, s_Fits_ok hO]
 exact all_loop (xs := l) (by omega) (F := fun v => s_FitsHeap (THeap.mk n O) v) (p := vFits O) (J := fun i => s_l17Fits_L2 l i n O) (fun i => by show s_l17Fits_L2 _ _ _ _ = _; rw [s_l17Fits_L2_eq, hv]; simp only [Option.bind_some]) (fun y _ => hf y)
theorem s_ValidMemory_ok {x : TMemory} (hm : x.m ≤ 1048576) : s_ValidMemory x = some (memOk x) := by
 have hq := x.m_eq
 have hq2 := x.fHeap.m_eq
 have hq3 := x.fScope.m_eq
 have hob := obs_len (O := x.fHeap.fObjects) (by omega)
 rw [s_ValidMemory_eq, s_ValidHeap_eq, s_l07Ok_ok (by omega) hob, s_ValidScope_ok (by omega), s_console_ok (by omega), s_scRoots_ok (by omega)]
 simp only [Option.bind_some]
 unfold memOk
 by_cases h1 : hpOk x.fHeap.fNext x.fHeap.fObjects = true
 rotate_left
 ·simp [h1]
 by_cases h2 : scOk x.fScope = true
 rotate_left
 ·simp [h2]
 rw [h1, h2, if_pos rfl, if_pos rfl, if_pos rfl, show x.fHeap = THeap.mk x.fHeap.fNext x.fHeap.fObjects from rfl, s_fits17_ok (by omega) hob h1 (by rw [vsR_len]; omega)]
 cases cnOk x.fConsole <;> simp
theorem i_ValidMemory_ok {x : TMemory} (hm : x.m ≤ 1048576) : i_ValidMemory x = some (memOk x) := by
 have hq := x.m_eq
 have hq2 := x.fHeap.m_eq
 have hq3 := x.fScope.m_eq
 have hob := obs_len (O := x.fHeap.fObjects) (by omega)
 rw [i_ValidMemory_eq, i_ValidHeap_ok (by omega) hob, i_ValidScope_ok (by omega), i_console_ok (by omega), show x.fScope = TScope.mk x.fScope.fVars x.fScope.fFunctions x.fScope.fTypes from rfl, i_scRoots_ok (by omega)]
 simp only [Option.bind_some]
 unfold memOk
 by_cases h1 : hpOk x.fHeap.fNext x.fHeap.fObjects = true
 rotate_left
 ·simp [h1]
 rw [i_fitAll_ok (by omega) (hpOk_inc h1) _ (by rw [vsR_len]; omega), h1]
 cases scOk x.fScope <;> cases cnOk x.fConsole <;> simp
def frR (f : TCallFrame) : List TValue := vsR f.fSaved
def maR (x : TMachine) : List TValue := vsR x.fMemory.fScope.fVars ++ x.fStack ++ x.fFrames.flatMap frR
theorem maR_len {x : TMachine} (hm : x.m ≤ 1048576) : (maR x).length ≤ 2097152 := by
 have hq := x.m_eq
 have hq2 := x.fMemory.m_eq
 have hq3 := x.fMemory.fScope.m_eq
 have := flat_len (f := frR) (m := TCallFrame.m) 0 x.fFrames fun y _ => by rw [frR, vsR_len]; have := y.m_eq; omega
 simp only [maR, List.length_append, vsR_len]; omega
theorem s_MachineRoots_ok {x : TMachine} (hm : x.m ≤ 1048576) : s_MachineRoots x = some (if memOk x.fMemory = true then maR x else []) := by
  have hq := x.m_eq
  have hq2 := x.fMemory.m_eq
  have hq3 := x.fMemory.fScope.m_eq
  have hL := maR_len hm
  rw [s_MachineRoots_eq, s_ValidMemory_ok (by omega), s_scRoots_ok (by omega)]
  simp only [Option.bind_some]
  by_cases h : memOk x.fMemory = true
  rotate_left
  · simp [h]
  have h2 : scOk x.fMemory.fScope = true := by unfold memOk at h; simp only [Bool.and_eq_true] at h; exact h.1.1.2
  simp only [maR, List.length_append, vsR_len] at hL
  rw [h, h2, if_neg (by simp), if_pos rfl, if_pos rfl, app_of (by rw [vsR_len]; omega)]
  simp only [Option.bind_some]
  have hin : ∀ (i : Nat) (y : TCallFrame), i < x.fFrames.length → y ∈ x.fFrames → idx x.fFrames (i : Int) = some y → ∀ a : List TValue, a.length + (frR y).length ≤ 68719476736 →
      s_MachineRoots_L8 i 0 x.fStatus x.fCode x.fMemory.fHeap.fNext x.fMemory.fHeap.fObjects x.fMemory.fScope.fVars x.fMemory.fScope.fFunctions x.fMemory.fScope.fTypes x.fMemory.fConsole.fInput x.fMemory.fConsole.fAt x.fMemory.fConsole.fOutput x.fMemory.fConsole.fFiles x.fMemory.fConsole.fTrace x.fStack x.fFrames x.fPC x.fBase x.fAt x.fSteps x.fFuel a =
      s_MachineRoots_L5 (w64 ((i : Int) + 1)) x.fStatus x.fCode x.fMemory.fHeap.fNext x.fMemory.fHeap.fObjects x.fMemory.fScope.fVars x.fMemory.fScope.fFunctions x.fMemory.fScope.fTypes x.fMemory.fConsole.fInput x.fMemory.fConsole.fAt x.fMemory.fConsole.fOutput x.fMemory.fConsole.fFiles x.fMemory.fConsole.fTrace x.fStack x.fFrames x.fPC x.fBase x.fAt x.fSteps x.fFuel (a ++ frR y) := by
    intro i y hlt hy hi a ha
    have h1 := sumOf_mem (m := TCallFrame.m) hy
    have h3 := y.m_eq
    have := acc_loop (xs := y.fSaved) (by omega) (f := fun b => [b.fValue]) (B := 68719476736) (J := fun j a => s_MachineRoots_L8 i j x.fStatus x.fCode x.fMemory.fHeap.fNext x.fMemory.fHeap.fObjects x.fMemory.fScope.fVars x.fMemory.fScope.fFunctions x.fMemory.fScope.fTypes x.fMemory.fConsole.fInput x.fMemory.fConsole.fAt x.fMemory.fConsole.fOutput x.fMemory.fConsole.fFiles x.fMemory.fConsole.fTrace x.fStack x.fFrames x.fPC x.fBase x.fAt x.fSteps x.fFuel a) a (by
      intro j z b hlt2 hz hj hw hb
      show s_MachineRoots_L8 _ _ _ _ _ _ _ _ _ _ _ _ _ _ _ _ _ _ _ _ _ _ = s_MachineRoots_L8 _ _ _ _ _ _ _ _ _ _ _ _ _ _ _ _ _ _ _ _ _ _
      rw [s_MachineRoots_L8_eq, hi]
      simp only [Option.bind_some]
      rw [if_pos (by simp [len_eq, hlt2]), hj, hw]
      simp only [Option.bind_some]
      rw [app_of hb]; rfl) ha
    rw [show s_MachineRoots_L8 i 0 x.fStatus x.fCode x.fMemory.fHeap.fNext x.fMemory.fHeap.fObjects x.fMemory.fScope.fVars x.fMemory.fScope.fFunctions x.fMemory.fScope.fTypes x.fMemory.fConsole.fInput x.fMemory.fConsole.fAt x.fMemory.fConsole.fOutput x.fMemory.fConsole.fFiles x.fMemory.fConsole.fTrace x.fStack x.fFrames x.fPC x.fBase x.fAt x.fSteps x.fFuel a = _ from this, s_MachineRoots_L8_eq, hi]
    simp only [Option.bind_some]
    rw [if_neg (by simp [len_eq])]; rfl
  have := acc_loop (xs := x.fFrames) (by omega) (f := frR) (B := 68719476736) (J := fun i a => s_MachineRoots_L5 i x.fStatus x.fCode x.fMemory.fHeap.fNext x.fMemory.fHeap.fObjects x.fMemory.fScope.fVars x.fMemory.fScope.fFunctions x.fMemory.fScope.fTypes x.fMemory.fConsole.fInput x.fMemory.fConsole.fAt x.fMemory.fConsole.fOutput x.fMemory.fConsole.fFiles x.fMemory.fConsole.fTrace x.fStack x.fFrames x.fPC x.fBase x.fAt x.fSteps x.fFuel a) (vsR x.fMemory.fScope.fVars ++ x.fStack) (by
    intro i y a hlt hy hi hw ha
    show s_MachineRoots_L5 _ _ _ _ _ _ _ _ _ _ _ _ _ _ _ _ _ _ _ _ _ = s_MachineRoots_L5 _ _ _ _ _ _ _ _ _ _ _ _ _ _ _ _ _ _ _ _ _
    rw [s_MachineRoots_L5_eq, if_pos (by simp [len_eq, hlt]), hin i y hlt hy hi a ha, hw]) (by simp only [List.length_append, vsR_len]; omega)
  rw [show s_MachineRoots_L5 0 x.fStatus x.fCode x.fMemory.fHeap.fNext x.fMemory.fHeap.fObjects x.fMemory.fScope.fVars x.fMemory.fScope.fFunctions x.fMemory.fScope.fTypes x.fMemory.fConsole.fInput x.fMemory.fConsole.fAt x.fMemory.fConsole.fOutput x.fMemory.fConsole.fFiles x.fMemory.fConsole.fTrace x.fStack x.fFrames x.fPC x.fBase x.fAt x.fSteps x.fFuel (vsR x.fMemory.fScope.fVars ++ x.fStack) = _ from this, s_MachineRoots_L5_eq, if_neg (by simp [len_eq])]
  rfl
theorem i_MachineRoots_ok {x : TMachine} (hm : x.m ≤ 1048576) : i_MachineRoots x = some (((if memOk x.fMemory = true then maR x else []), ()), ()) := by
 have hq := x.m_eq
 have hq2 := x.fMemory.m_eq
 have hq3 := x.fMemory.fScope.m_eq
 have hL := maR_len hm
 simp only [maR, List.length_append, vsR_len] at hL
 have er : i_Machine_roots x = some ((maR x, ()), ()) := by
  rw [i_Machine_roots_eq, show x.fMemory.fScope = TScope.mk x.fMemory.fScope.fVars x.fMemory.fScope.fFunctions x.fMemory.fScope.fTypes from rfl, i_scRoots_ok (by omega)]
  simp only [Option.bind_some]
  rw [app_of (by rw [vsR_len]; omega)]
  simp only [Option.bind_some]
  have := acc_loop (xs := x.fFrames) (by omega) (f := frR) (B := 68719476736) (J := fun i a => i_Machine_roots_L3 x.fFrames (len x.fFrames) i a) (vsR x.fMemory.fScope.fVars ++ x.fStack) (by
   intro i y a hlt hy hi hw ha
   show i_Machine_roots_L3 _ _ _ _ = i_Machine_roots_L3 _ _ _ _
   have h1 := sumOf_mem (m := TCallFrame.m) hy
   have h3 := y.m_eq
   rw [frR, vsR_len] at ha
   rw [i_Machine_roots_L3_eq, if_pos (by simp [len_eq, hlt]), hi, hw]
   simp only [Option.bind_some]
   rw [i_rootsOf_ok (by omega) ha]; rfl) (by simp only [List.length_append, vsR_len]; omega)
  rw [show i_Machine_roots_L3 x.fFrames (len x.fFrames) 0 (vsR x.fMemory.fScope.fVars ++ x.fStack) = _ from this, i_Machine_roots_L3_eq, if_neg (by simp [len_eq])]
  rfl
 rw [i_MachineRoots_eq, i_ValidMemory_ok (by omega), er]
 simp only [Option.bind_some]
 by_cases h : memOk x.fMemory = true <;> simp [h]
theorem l_FnExactMachineRoots_ok {x : TMachine} (hok : x.Ok) : l_FnExactMachineRoots x = some true := by
 rw [l_FnExactMachineRoots_eq]
 have eta : TMachine.mk x.fStatus x.fCode (TMemory.mk (THeap.mk x.fMemory.fHeap.fNext x.fMemory.fHeap.fObjects) (TScope.mk x.fMemory.fScope.fVars x.fMemory.fScope.fFunctions x.fMemory.fScope.fTypes) (TConsole.mk x.fMemory.fConsole.fInput x.fMemory.fConsole.fAt x.fMemory.fConsole.fOutput x.fMemory.fConsole.fFiles x.fMemory.fConsole.fTrace)) x.fStack x.fFrames x.fPC x.fBase x.fAt x.fSteps x.fFuel = x := rfl
 simp only [szMachine_ok x hok 1048576 (by decide) (by decide), Option.bind_some]
 by_cases c : minus 1048576 x.m < 0
 ·simp [c]
 ·have hm : x.m ≤ 1048576 := by have := minus_le c; omega
  have hq := x.m_eq
  have hq2 := x.fMemory.m_eq
  have hq3 := x.fMemory.fScope.m_eq
  have hq4 := x.fMemory.fHeap.m_eq
  have hq5 := x.fMemory.fConsole.m_eq
  have es := s_MachineRoots_ok hm
  have ei := i_MachineRoots_ok hm
  have hl : (if memOk x.fMemory = true then maR x else []).length ≤ 2097152 := by have := maR_len hm; split <;> simp; omega
  generalize (if memOk x.fMemory = true then maR x else []) = w at es ei hl
  obtain ⟨k', a1, a2, a3, a4, a5, a6, a7, a8, a9, a10, ek, hk, _⟩ := markMachine_ok x x.fStatus x.fCode x.fMemory.fHeap.fNext x.fMemory.fConsole.fAt x.fPC x.fBase x.fAt x.fSteps x.fFuel (k := 1) (by omega) (by omega)
  have hk0 : decide (k' < 0) = false := by simp; omega
  have hn : decide ((1 : Int) + ((4 * w.length : Nat) : Int) < 0) = false := by simp; omega
  simp only [c, decide_false, Bool.false_eq_true, if_false, ownMachine_ok x hm, eta, es, ei, Option.bind_some, valSelf_ok (xs := w) (by omega), eqMachine_ok x hm, Bool.not_true, ek, hk0, markLV_ok (xs := w) (k := 1) (by omega) (by omega), heldLV_ok (n := w.length) (k := 1) (by omega) (by omega), hn, bne_self_eq_false]
end Go.Dv.U
