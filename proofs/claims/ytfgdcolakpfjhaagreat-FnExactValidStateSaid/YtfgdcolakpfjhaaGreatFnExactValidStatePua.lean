/- Plain laws about these equations. -/
import Derived.Test.YtfgdcolakpfjhaaGreatFnExactValidStateEqa
set_option linter.all false
set_option linter.unusedVariables false
set_option linter.unusedSimpArgs false
namespace Go.Dv.U
open Go Go.Dv Go.Proofs
structure TValue.Ok (x : TValue) : Prop where
 P_fKind : (-9223372036854775808 ≤ x.fKind ∧ x.fKind ≤ 9223372036854775807)
 P_fNum : (-9223372036854775808 ≤ x.fNum ∧ x.fNum ≤ 9223372036854775807)
 P_fText : x.fText.length ≤ 9223372036854775807
 P_fRef : (-9223372036854775808 ≤ x.fRef ∧ x.fRef ≤ 9223372036854775807)
theorem TValue.ok_cells (x : TValue) (h : ∀ c ∈ GG.cells 29 x, ∀ k, WfV GG k c) : x.Ok := by
 have h : ∀ c ∈ ([.int .i64 x.fKind, .int .i64 x.fNum, .str x.fText, .int .i64 x.fRef] : List (V GG.S)), ∀ k, WfV GG k c := h
 exact ⟨wfv_int (h (.int .i64 x.fKind) (by simp) 1), wfv_int (h (.int .i64 x.fNum) (by simp) 1), wfv_str (h (.str x.fText) (by simp) 1), wfv_int (h (.int .i64 x.fRef) (by simp) 1)⟩
theorem TValue.ok_of {x : TValue} (h : ∀ k, WfV GG k (inj GG (.st 29) x)) : x.Ok := TValue.ok_cells x (wfv_st h)
def TValue.m (x : TValue) : Nat := x.fText.length
theorem TValue.m_eq (x : TValue) : x.m = x.fText.length := rfl
theorem szValue_ok : ∀ x : TValue, x.Ok → ∀ b : Int, 0 ≤ b → b < 4611686018427387904 → l_szValue x b = some (minus b x.m) := by
 intro x
 intro hok b h0 h1
 rw [l_szValue_eq]
 try simp only [TValue.re_eq, TObject.re_eq, THeap.re_eq, TBinding.re_eq, TGen.re_eq, TCursor.re_eq, TCoexpr.re_eq, TGenScope.re_eq, TFunction.re_eq, TRecordType.re_eq, TScope.re_eq, TFile.re_eq, TConsole.re_eq, TMemory.re_eq, TCallFrame.re_eq, TMachine.re_eq]
 -- fText
 obtain ⟨e1, e2⟩ := minus_len (b := b) (l := x.fText) h0 h1 hok.P_fText
 by_cases c0 : minus b (x.fText.length) < 0
 ·simp only [e1.2 c0, decide_true, if_true]
  rw [minus_neg_le c0 (by rw [TValue.m_eq]; omega)]
 have e3 := mt e1.1 c0
 simp only [e3, e2 c0, c0, decide_false, Bool.false_eq_true, if_false]
 try rw [TValue.m_eq]
theorem toValue_ok : ∀ x : TValue, x.m ≤ 1048576 → l_toValue x = some x := by
 intro x
 intro hm
 have hq := x.m_eq
 rw [l_toValue_eq]
 try simp only [TValue.re_eq, TObject.re_eq, THeap.re_eq, TBinding.re_eq, TGen.re_eq, TCursor.re_eq, TCoexpr.re_eq, TGenScope.re_eq, TFunction.re_eq, TRecordType.re_eq, TScope.re_eq, TFile.re_eq, TConsole.re_eq, TMemory.re_eq, TCallFrame.re_eq, TMachine.re_eq]
 try simp only [TValue.eta, TValue.re_eq, TObject.re_eq, THeap.re_eq, TBinding.re_eq, TGen.re_eq, TCursor.re_eq, TCoexpr.re_eq, TGenScope.re_eq, TFunction.re_eq, TRecordType.re_eq, TScope.re_eq, TFile.re_eq, TConsole.re_eq, TMemory.re_eq, TCallFrame.re_eq, TMachine.re_eq]
theorem eqValue_ok : ∀ x : TValue, x.m ≤ 1048576 → l_eqValue x x = some true := by
 intro x
 intro hm
 have hq := x.m_eq
 rw [l_eqValue_eq]
 try simp only [TValue.re_eq, TObject.re_eq, THeap.re_eq, TBinding.re_eq, TGen.re_eq, TCursor.re_eq, TCoexpr.re_eq, TGenScope.re_eq, TFunction.re_eq, TRecordType.re_eq, TScope.re_eq, TFile.re_eq, TConsole.re_eq, TMemory.re_eq, TCallFrame.re_eq, TMachine.re_eq]
 simp
structure TObject.Ok (x : TObject) : Prop where
 P_fId : (-9223372036854775808 ≤ x.fId ∧ x.fId ≤ 9223372036854775807)
 P_fKind : (-9223372036854775808 ≤ x.fKind ∧ x.fKind ≤ 9223372036854775807)
 P_fName : x.fName.length ≤ 9223372036854775807
 P_fLow : (-9223372036854775808 ≤ x.fLow ∧ x.fLow ≤ 9223372036854775807)
 P_fKeys : (x.fKeys.length ≤ 9223372036854775807 ∧ ∀ y ∈ x.fKeys, TValue.Ok y)
 P_fVals : (x.fVals.length ≤ 9223372036854775807 ∧ ∀ y ∈ x.fVals, TValue.Ok y)
 P_fDefault : TValue.Ok x.fDefault
theorem TObject.ok_cells (x : TObject) (h : ∀ c ∈ GG.cells 199 x, ∀ k, WfV GG k c) : x.Ok := by
 have h : ∀ c ∈ ([.int .i64 x.fId, .int .i64 x.fKind, .str x.fName, .int .i64 x.fLow, .sl (.st 29) x.fKeys, .sl (.st 29) x.fVals, .int .i64 x.fDefault.fKind, .int .i64 x.fDefault.fNum, .str x.fDefault.fText, .int .i64 x.fDefault.fRef] : List (V GG.S)), ∀ k, WfV GG k c := h
 have h_fDefault : ∀ c ∈ ([.int .i64 x.fDefault.fKind, .int .i64 x.fDefault.fNum, .str x.fDefault.fText, .int .i64 x.fDefault.fRef] : List (V GG.S)), ∀ k, WfV GG k c := fun c hc => h c (by simp only [List.mem_cons, List.not_mem_nil, or_false] at hc ⊢; rcases hc with rfl | rfl | rfl | rfl <;> simp)
 exact ⟨wfv_int (h (.int .i64 x.fId) (by simp) 1), wfv_int (h (.int .i64 x.fKind) (by simp) 1), wfv_str (h (.str x.fName) (by simp) 1), wfv_int (h (.int .i64 x.fLow) (by simp) 1), ⟨(wfv_sl (h (.sl (.st 29) x.fKeys) (by simp))).1, fun y hy => TValue.ok_cells y ((wfv_sl (h (.sl (.st 29) x.fKeys) (by simp))).2 y hy)⟩, ⟨(wfv_sl (h (.sl (.st 29) x.fVals) (by simp))).1, fun y hy => TValue.ok_cells y ((wfv_sl (h (.sl (.st 29) x.fVals) (by simp))).2 y hy)⟩, TValue.ok_cells _ h_fDefault⟩
theorem TObject.ok_of {x : TObject} (h : ∀ k, WfV GG k (inj GG (.st 199) x)) : x.Ok := TObject.ok_cells x (wfv_st h)
theorem szValueS_of {xs : (List TValue)} (hx : xs.length ≤ 9223372036854775807)
  (hF : ∀ y ∈ xs, ∀ b : Int, 0 ≤ b → b < 4611686018427387904 → l_szValue y b = some (minus b (TValue.m y))) {b : Int} (h0 : 0 ≤ b) (h1 : b < 4611686018427387904) :
  l_szValueS xs b = some (minus b (xs.length + sumOf TValue.m xs)) := by
 rw [l_szValueS_eq]
 obtain ⟨e1, e2⟩ := minus_len (l := xs) h0 h1 hx
 by_cases c : minus b xs.length < 0
 ·simp only [e1.2 c, decide_true, if_true, minus_neg c]
 ·rw [if_neg (by simpa using fun h => c (e1.1 h)), e2 c, sz_loop hx (J := l_szValueS_L5) (F := l_szValue) (m := TValue.m) (fun b i => by rw [l_szValueS_L5_eq]; try simp only [TValue.re_eq, TObject.re_eq, THeap.re_eq, TBinding.re_eq, TGen.re_eq, TCursor.re_eq, TCoexpr.re_eq, TGenScope.re_eq, TFunction.re_eq, TRecordType.re_eq, TScope.re_eq, TFile.re_eq, TConsole.re_eq, TMemory.re_eq, TCallFrame.re_eq, TMachine.re_eq]) hF _ (minus_nonneg c) (minus_lt (by omega) h1), minus_minus c]
theorem eqValueS_of {xs : (List TValue)} (hx : xs.length ≤ 9223372036854775807) (hF : ∀ y ∈ xs, l_eqValue y y = some true) : l_eqValueS xs xs = some true := by
 rw [l_eqValueS_eq]
 simp only [bne_self_eq_false, Bool.false_eq_true, if_false]
 exact eq_loop (by omega) (J := l_eqValueS_L4) (F := l_eqValue) (fun i => by rw [l_eqValueS_L4_eq]; try simp only [TValue.re_eq, TObject.re_eq, THeap.re_eq, TBinding.re_eq, TGen.re_eq, TCursor.re_eq, TCoexpr.re_eq, TGenScope.re_eq, TFunction.re_eq, TRecordType.re_eq, TScope.re_eq, TFile.re_eq, TConsole.re_eq, TMemory.re_eq, TCallFrame.re_eq, TMachine.re_eq]) hF
def TObject.m (x : TObject) : Nat := x.fName.length + (x.fKeys.length + sumOf TValue.m x.fKeys) + (x.fVals.length + sumOf TValue.m x.fVals) + TValue.m x.fDefault
theorem TObject.m_eq (x : TObject) : x.m = x.fName.length + (x.fKeys.length + sumOf TValue.m x.fKeys) + (x.fVals.length + sumOf TValue.m x.fVals) + TValue.m x.fDefault := rfl
theorem szObject_ok : ∀ x : TObject, x.Ok → ∀ b : Int, 0 ≤ b → b < 4611686018427387904 → l_szObject x b = some (minus b x.m) := by
 intro x
 intro hok b h0 h1
 rw [l_szObject_eq]
 try simp only [TValue.re_eq, TObject.re_eq, THeap.re_eq, TBinding.re_eq, TGen.re_eq, TCursor.re_eq, TCoexpr.re_eq, TGenScope.re_eq, TFunction.re_eq, TRecordType.re_eq, TScope.re_eq, TFile.re_eq, TConsole.re_eq, TMemory.re_eq, TCallFrame.re_eq, TMachine.re_eq]
 -- fName
 obtain ⟨e1, e2⟩ := minus_len (b := b) (l := x.fName) h0 h1 hok.P_fName
 by_cases c0 : minus b (x.fName.length) < 0
 ·simp only [e1.2 c0, decide_true, if_true]
  rw [minus_neg_le c0 (by rw [TObject.m_eq]; omega)]
 have e3 := mt e1.1 c0
 simp only [e3, e2 c0, c0, decide_false, Bool.false_eq_true, if_false]
 -- fKeys
 rw [szValueS_of hok.P_fKeys.1 (fun y hy b h0 h1 => szValue_ok y (hok.P_fKeys.2 y hy) b h0 h1) (minus_nonneg c0) (minus_lt (by omega) h1)]
 simp only [Option.bind_some]
 simp only [minus_minus c0]
 by_cases c1 : minus b (x.fName.length + (x.fKeys.length + sumOf TValue.m x.fKeys)) < 0
 ·simp only [c1, decide_true, if_true]
  rw [minus_neg_le c1 (by rw [TObject.m_eq]; omega)]
 simp only [c1, decide_false, Bool.false_eq_true, if_false]
 -- fVals
 rw [szValueS_of hok.P_fVals.1 (fun y hy b h0 h1 => szValue_ok y (hok.P_fVals.2 y hy) b h0 h1) (minus_nonneg c1) (minus_lt (by omega) h1)]
 simp only [Option.bind_some]
 simp only [minus_minus c1]
 by_cases c2 : minus b (x.fName.length + (x.fKeys.length + sumOf TValue.m x.fKeys) + (x.fVals.length + sumOf TValue.m x.fVals)) < 0
 ·simp only [c2, decide_true, if_true]
  rw [minus_neg_le c2 (by rw [TObject.m_eq]; omega)]
 simp only [c2, decide_false, Bool.false_eq_true, if_false]
 -- fDefault
 rw [szValue_ok x.fDefault hok.P_fDefault (minus b (x.fName.length + (x.fKeys.length + sumOf TValue.m x.fKeys) + (x.fVals.length + sumOf TValue.m x.fVals))) (minus_nonneg c2) (minus_lt (by omega) h1)]
 simp only [Option.bind_some]
 simp only [minus_minus c2]
 by_cases c3 : minus b (x.fName.length + (x.fKeys.length + sumOf TValue.m x.fKeys) + (x.fVals.length + sumOf TValue.m x.fVals) + TValue.m x.fDefault) < 0
 ·simp only [c3, decide_true, if_true]
  rw [minus_neg_le c3 (by rw [TObject.m_eq]; omega)]
 simp only [c3, decide_false, Bool.false_eq_true, if_false]
 try rw [TObject.m_eq]
theorem eqObject_ok : ∀ x : TObject, x.m ≤ 1048576 → l_eqObject x x = some true := by
 intro x
 intro hm
 have hq := x.m_eq
 rw [l_eqObject_eq]
 try simp only [TValue.re_eq, TObject.re_eq, THeap.re_eq, TBinding.re_eq, TGen.re_eq, TCursor.re_eq, TCoexpr.re_eq, TGenScope.re_eq, TFunction.re_eq, TRecordType.re_eq, TScope.re_eq, TFile.re_eq, TConsole.re_eq, TMemory.re_eq, TCallFrame.re_eq, TMachine.re_eq]
 rw [eqValueS_of (xs := x.fKeys) (by omega) fun y hy => eqValue_ok y (by have := sumOf_mem (m := TValue.m) hy; omega)]
 rw [eqValueS_of (xs := x.fVals) (by omega) fun y hy => eqValue_ok y (by have := sumOf_mem (m := TValue.m) hy; omega)]
 rw [eqValue_ok x.fDefault (by omega)]
 simp
structure THeap.Ok (x : THeap) : Prop where
 P_fNext : (-9223372036854775808 ≤ x.fNext ∧ x.fNext ≤ 9223372036854775807)
 P_fObjects : (x.fObjects.length ≤ 9223372036854775807 ∧ ∀ y ∈ x.fObjects, TObject.Ok y)
theorem THeap.ok_cells (x : THeap) (h : ∀ c ∈ GG.cells 24 x, ∀ k, WfV GG k c) : x.Ok := by
 have h : ∀ c ∈ ([.int .i64 x.fNext, .sl (.st 199) x.fObjects] : List (V GG.S)), ∀ k, WfV GG k c := h
 exact ⟨wfv_int (h (.int .i64 x.fNext) (by simp) 1), ⟨(wfv_sl (h (.sl (.st 199) x.fObjects) (by simp))).1, fun y hy => TObject.ok_cells y ((wfv_sl (h (.sl (.st 199) x.fObjects) (by simp))).2 y hy)⟩⟩
theorem THeap.ok_of {x : THeap} (h : ∀ k, WfV GG k (inj GG (.st 24) x)) : x.Ok := THeap.ok_cells x (wfv_st h)
theorem szObjectS_of {xs : (List TObject)} (hx : xs.length ≤ 9223372036854775807)
  (hF : ∀ y ∈ xs, ∀ b : Int, 0 ≤ b → b < 4611686018427387904 → l_szObject y b = some (minus b (TObject.m y))) {b : Int} (h0 : 0 ≤ b) (h1 : b < 4611686018427387904) :
  l_szObjectS xs b = some (minus b (xs.length + sumOf TObject.m xs)) := by
 rw [l_szObjectS_eq]
 obtain ⟨e1, e2⟩ := minus_len (l := xs) h0 h1 hx
 by_cases c : minus b xs.length < 0
 ·simp only [e1.2 c, decide_true, if_true, minus_neg c]
 ·rw [if_neg (by simpa using fun h => c (e1.1 h)), e2 c, sz_loop hx (J := l_szObjectS_L5) (F := l_szObject) (m := TObject.m) (fun b i => by rw [l_szObjectS_L5_eq]; try simp only [TValue.re_eq, TObject.re_eq, THeap.re_eq, TBinding.re_eq, TGen.re_eq, TCursor.re_eq, TCoexpr.re_eq, TGenScope.re_eq, TFunction.re_eq, TRecordType.re_eq, TScope.re_eq, TFile.re_eq, TConsole.re_eq, TMemory.re_eq, TCallFrame.re_eq, TMachine.re_eq]) hF _ (minus_nonneg c) (minus_lt (by omega) h1), minus_minus c]
theorem eqObjectS_of {xs : (List TObject)} (hx : xs.length ≤ 9223372036854775807) (hF : ∀ y ∈ xs, l_eqObject y y = some true) : l_eqObjectS xs xs = some true := by
 rw [l_eqObjectS_eq]
 simp only [bne_self_eq_false, Bool.false_eq_true, if_false]
 exact eq_loop (by omega) (J := l_eqObjectS_L4) (F := l_eqObject) (fun i => by rw [l_eqObjectS_L4_eq]; try simp only [TValue.re_eq, TObject.re_eq, THeap.re_eq, TBinding.re_eq, TGen.re_eq, TCursor.re_eq, TCoexpr.re_eq, TGenScope.re_eq, TFunction.re_eq, TRecordType.re_eq, TScope.re_eq, TFile.re_eq, TConsole.re_eq, TMemory.re_eq, TCallFrame.re_eq, TMachine.re_eq]) hF
def THeap.m (x : THeap) : Nat := (x.fObjects.length + sumOf TObject.m x.fObjects)
theorem THeap.m_eq (x : THeap) : x.m = (x.fObjects.length + sumOf TObject.m x.fObjects) := rfl
theorem szHeap_ok : ∀ x : THeap, x.Ok → ∀ b : Int, 0 ≤ b → b < 4611686018427387904 → l_szHeap x b = some (minus b x.m) := by
 intro x
 intro hok b h0 h1
 rw [l_szHeap_eq]
 try simp only [TValue.re_eq, TObject.re_eq, THeap.re_eq, TBinding.re_eq, TGen.re_eq, TCursor.re_eq, TCoexpr.re_eq, TGenScope.re_eq, TFunction.re_eq, TRecordType.re_eq, TScope.re_eq, TFile.re_eq, TConsole.re_eq, TMemory.re_eq, TCallFrame.re_eq, TMachine.re_eq]
 -- fObjects
 rw [szObjectS_of hok.P_fObjects.1 (fun y hy b h0 h1 => szObject_ok y (hok.P_fObjects.2 y hy) b h0 h1) h0 h1]
 simp only [Option.bind_some]
 by_cases c0 : minus b ((x.fObjects.length + sumOf TObject.m x.fObjects)) < 0
 ·simp only [c0, decide_true, if_true]
  rw [minus_neg_le c0 (by rw [THeap.m_eq]; omega)]
 simp only [c0, decide_false, Bool.false_eq_true, if_false]
 try rw [THeap.m_eq]
theorem eqHeap_ok : ∀ x : THeap, x.m ≤ 1048576 → l_eqHeap x x = some true := by
 intro x
 intro hm
 have hq := x.m_eq
 rw [l_eqHeap_eq]
 try simp only [TValue.re_eq, TObject.re_eq, THeap.re_eq, TBinding.re_eq, TGen.re_eq, TCursor.re_eq, TCoexpr.re_eq, TGenScope.re_eq, TFunction.re_eq, TRecordType.re_eq, TScope.re_eq, TFile.re_eq, TConsole.re_eq, TMemory.re_eq, TCallFrame.re_eq, TMachine.re_eq]
 rw [eqObjectS_of (xs := x.fObjects) (by omega) fun y hy => eqObject_ok y (by have := sumOf_mem (m := TObject.m) hy; omega)]
 simp
structure TBinding.Ok (x : TBinding) : Prop where
 P_fName : x.fName.length ≤ 9223372036854775807
 P_fValue : TValue.Ok x.fValue
theorem TBinding.ok_cells (x : TBinding) (h : ∀ c ∈ GG.cells 162 x, ∀ k, WfV GG k c) : x.Ok := by
 have h : ∀ c ∈ ([.str x.fName, .int .i64 x.fValue.fKind, .int .i64 x.fValue.fNum, .str x.fValue.fText, .int .i64 x.fValue.fRef] : List (V GG.S)), ∀ k, WfV GG k c := h
 have h_fValue : ∀ c ∈ ([.int .i64 x.fValue.fKind, .int .i64 x.fValue.fNum, .str x.fValue.fText, .int .i64 x.fValue.fRef] : List (V GG.S)), ∀ k, WfV GG k c := fun c hc => h c (by simp only [List.mem_cons, List.not_mem_nil, or_false] at hc ⊢; rcases hc with rfl | rfl | rfl | rfl <;> simp)
 exact ⟨wfv_str (h (.str x.fName) (by simp) 1), TValue.ok_cells _ h_fValue⟩
theorem TBinding.ok_of {x : TBinding} (h : ∀ k, WfV GG k (inj GG (.st 162) x)) : x.Ok := TBinding.ok_cells x (wfv_st h)
def TBinding.m (x : TBinding) : Nat := x.fName.length + TValue.m x.fValue
theorem TBinding.m_eq (x : TBinding) : x.m = x.fName.length + TValue.m x.fValue := rfl
theorem szBinding_ok : ∀ x : TBinding, x.Ok → ∀ b : Int, 0 ≤ b → b < 4611686018427387904 → l_szBinding x b = some (minus b x.m) := by
 intro x
 intro hok b h0 h1
 rw [l_szBinding_eq]
 try simp only [TValue.re_eq, TObject.re_eq, THeap.re_eq, TBinding.re_eq, TGen.re_eq, TCursor.re_eq, TCoexpr.re_eq, TGenScope.re_eq, TFunction.re_eq, TRecordType.re_eq, TScope.re_eq, TFile.re_eq, TConsole.re_eq, TMemory.re_eq, TCallFrame.re_eq, TMachine.re_eq]
 -- fName
 obtain ⟨e1, e2⟩ := minus_len (b := b) (l := x.fName) h0 h1 hok.P_fName
 by_cases c0 : minus b (x.fName.length) < 0
 ·simp only [e1.2 c0, decide_true, if_true]
  rw [minus_neg_le c0 (by rw [TBinding.m_eq]; omega)]
 have e3 := mt e1.1 c0
 simp only [e3, e2 c0, c0, decide_false, Bool.false_eq_true, if_false]
 -- fValue
 rw [szValue_ok x.fValue hok.P_fValue (minus b (x.fName.length)) (minus_nonneg c0) (minus_lt (by omega) h1)]
 simp only [Option.bind_some]
 simp only [minus_minus c0]
 by_cases c1 : minus b (x.fName.length + TValue.m x.fValue) < 0
 ·simp only [c1, decide_true, if_true]
  rw [minus_neg_le c1 (by rw [TBinding.m_eq]; omega)]
 simp only [c1, decide_false, Bool.false_eq_true, if_false]
 try rw [TBinding.m_eq]
theorem toBinding_ok : ∀ x : TBinding, x.m ≤ 1048576 → l_toBinding x = some x := by
 intro x
 intro hm
 have hq := x.m_eq
 rw [l_toBinding_eq]
 try simp only [TValue.re_eq, TObject.re_eq, THeap.re_eq, TBinding.re_eq, TGen.re_eq, TCursor.re_eq, TCoexpr.re_eq, TGenScope.re_eq, TFunction.re_eq, TRecordType.re_eq, TScope.re_eq, TFile.re_eq, TConsole.re_eq, TMemory.re_eq, TCallFrame.re_eq, TMachine.re_eq]
 rw [toValue_ok x.fValue (by omega)]
 simp only [Option.bind_some]
 try simp only [TBinding.eta, TValue.re_eq, TObject.re_eq, THeap.re_eq, TBinding.re_eq, TGen.re_eq, TCursor.re_eq, TCoexpr.re_eq, TGenScope.re_eq, TFunction.re_eq, TRecordType.re_eq, TScope.re_eq, TFile.re_eq, TConsole.re_eq, TMemory.re_eq, TCallFrame.re_eq, TMachine.re_eq]
theorem eqBinding_ok : ∀ x : TBinding, x.m ≤ 1048576 → l_eqBinding x x = some true := by
 intro x
 intro hm
 have hq := x.m_eq
 rw [l_eqBinding_eq]
 try simp only [TValue.re_eq, TObject.re_eq, THeap.re_eq, TBinding.re_eq, TGen.re_eq, TCursor.re_eq, TCoexpr.re_eq, TGenScope.re_eq, TFunction.re_eq, TRecordType.re_eq, TScope.re_eq, TFile.re_eq, TConsole.re_eq, TMemory.re_eq, TCallFrame.re_eq, TMachine.re_eq]
 rw [eqValue_ok x.fValue (by omega)]
 simp
theorem TGen.ind {P : TGen → Prop} (h : ∀ x, (∀ y ∈ x.fKids, P y) → P x) : ∀ x, P x := by
 intro x
 exact TGen.rec (motive_1 := P) (motive_2 := fun l => ∀ y ∈ l, P y) (fun a0 a1 a2 a3 a4 ih => h ⟨a0, a1, a2, a3, a4⟩ ih) (fun y hy => by cases hy)
  (fun a l ha hl y hy => by
   cases hy with
   | head => exact ha
   | tail _ hy => exact hl y hy) x
inductive TGen.Ok : TGen → Prop
 | mk (x : TGen) (h0 : (-9223372036854775808 ≤ x.fKind ∧ x.fKind ≤ 9223372036854775807) ∧ (-9223372036854775808 ≤ x.fNum ∧ x.fNum ≤ 9223372036854775807) ∧ x.fText.length ≤ 9223372036854775807 ∧ TValue.Ok x.fValue ∧ x.fKids.length ≤ 9223372036854775807) (h1 : ∀ y ∈ x.fKids, TGen.Ok y) : TGen.Ok x
theorem TGen.Ok.P_fText {x : TGen} (h : x.Ok) : x.fText.length ≤ 9223372036854775807 := by cases h with | mk _ h0 h1 => exact h0.2.2.1
theorem TGen.Ok.P_fValue {x : TGen} (h : x.Ok) : TValue.Ok x.fValue := by cases h with | mk _ h0 h1 => exact h0.2.2.2.1
theorem TGen.Ok.P_fKids_len {x : TGen} (h : x.Ok) : x.fKids.length ≤ 9223372036854775807 := by cases h with | mk _ h0 h1 => exact h0.2.2.2.2
theorem TGen.Ok.P_fKids {x : TGen} (h : x.Ok) : ∀ y ∈ x.fKids, y.Ok := by cases h with | mk _ h0 h1 => exact h1
theorem TGen.ok_cells : ∀ x : TGen, (∀ c ∈ GG.cells 32 x, ∀ k, WfV GG k c) → x.Ok := by
 intro x
 induction x using TGen.ind with
 | h x ih =>
  intro h
  have h : ∀ c ∈ ([.int .i64 x.fKind, .int .i64 x.fNum, .str x.fText, .int .i64 x.fValue.fKind, .int .i64 x.fValue.fNum, .str x.fValue.fText, .int .i64 x.fValue.fRef, .sl (.st 32) x.fKids] : List (V GG.S)), ∀ k, WfV GG k c := h
  have h_fValue : ∀ c ∈ ([.int .i64 x.fValue.fKind, .int .i64 x.fValue.fNum, .str x.fValue.fText, .int .i64 x.fValue.fRef] : List (V GG.S)), ∀ k, WfV GG k c := fun c hc => h c (by simp only [List.mem_cons, List.not_mem_nil, or_false] at hc ⊢; rcases hc with rfl | rfl | rfl | rfl <;> simp)
  exact .mk x ⟨wfv_int (h (.int .i64 x.fKind) (by simp) 1), wfv_int (h (.int .i64 x.fNum) (by simp) 1), wfv_str (h (.str x.fText) (by simp) 1), TValue.ok_cells _ h_fValue, (wfv_sl (h (.sl (.st 32) x.fKids) (by simp))).1⟩ fun y hy => ih y hy ((wfv_sl (h (.sl (.st 32) x.fKids) (by simp))).2 y hy)
theorem TGen.ok_of {x : TGen} (h : ∀ k, WfV GG k (inj GG (.st 32) x)) : x.Ok := TGen.ok_cells x (wfv_st h)
mutual
def TGen.m : TGen → Nat
 | ⟨_, _, a2, a3, a4⟩ => a2.length + TValue.m a3 + (a4.length + TGen.ms a4)
def TGen.ms : List TGen → Nat
 | [] => 0
 | y :: r => TGen.m y + TGen.ms r
end
theorem TGen.ms_eq : ∀ l, TGen.ms l = sumOf TGen.m l
 | [] => rfl
 | y :: r => by simp only [TGen.ms, sumOf, TGen.ms_eq r]
theorem TGen.m_eq (x : TGen) : x.m = x.fText.length + TValue.m x.fValue + (x.fKids.length + sumOf TGen.m x.fKids) := by
 rw [← TGen.ms_eq]; cases x; rfl
theorem TGen.m_kid {x y : TGen} (h : y ∈ x.fKids) : y.m + x.fKids.length ≤ x.m := by
 have := sumOf_mem (m := TGen.m) h
 rw [TGen.m_eq x]; omega
theorem szGenS_of {xs : (List TGen)} (hx : xs.length ≤ 9223372036854775807)
  (hF : ∀ y ∈ xs, ∀ b : Int, 0 ≤ b → b < 4611686018427387904 → l_szGen y b = some (minus b (TGen.m y))) {b : Int} (h0 : 0 ≤ b) (h1 : b < 4611686018427387904) :
  l_szGenS xs b = some (minus b (xs.length + sumOf TGen.m xs)) := by
 rw [l_szGenS_eq]
 obtain ⟨e1, e2⟩ := minus_len (l := xs) h0 h1 hx
 by_cases c : minus b xs.length < 0
 ·simp only [e1.2 c, decide_true, if_true, minus_neg c]
 ·rw [if_neg (by simpa using fun h => c (e1.1 h)), e2 c, sz_loop hx (J := l_szGenS_L5) (F := l_szGen) (m := TGen.m) (fun b i => by rw [l_szGenS_L5_eq]; try simp only [TValue.re_eq, TObject.re_eq, THeap.re_eq, TBinding.re_eq, TGen.re_eq, TCursor.re_eq, TCoexpr.re_eq, TGenScope.re_eq, TFunction.re_eq, TRecordType.re_eq, TScope.re_eq, TFile.re_eq, TConsole.re_eq, TMemory.re_eq, TCallFrame.re_eq, TMachine.re_eq]) hF _ (minus_nonneg c) (minus_lt (by omega) h1), minus_minus c]
theorem eqGenS_of {xs : (List TGen)} (hx : xs.length ≤ 9223372036854775807) (hF : ∀ y ∈ xs, l_eqGen y y = some true) : l_eqGenS xs xs = some true := by
 rw [l_eqGenS_eq]
 simp only [bne_self_eq_false, Bool.false_eq_true, if_false]
 exact eq_loop (by omega) (J := l_eqGenS_L4) (F := l_eqGen) (fun i => by rw [l_eqGenS_L4_eq]; try simp only [TValue.re_eq, TObject.re_eq, THeap.re_eq, TBinding.re_eq, TGen.re_eq, TCursor.re_eq, TCoexpr.re_eq, TGenScope.re_eq, TFunction.re_eq, TRecordType.re_eq, TScope.re_eq, TFile.re_eq, TConsole.re_eq, TMemory.re_eq, TCallFrame.re_eq, TMachine.re_eq]) hF
theorem szGen_ok : ∀ x : TGen, x.Ok → ∀ b : Int, 0 ≤ b → b < 4611686018427387904 → l_szGen x b = some (minus b x.m) := by
 intro x
 induction x using TGen.ind with
 | h x ih =>
  intro hok b h0 h1
  rw [l_szGen_eq]
  try simp only [TValue.re_eq, TObject.re_eq, THeap.re_eq, TBinding.re_eq, TGen.re_eq, TCursor.re_eq, TCoexpr.re_eq, TGenScope.re_eq, TFunction.re_eq, TRecordType.re_eq, TScope.re_eq, TFile.re_eq, TConsole.re_eq, TMemory.re_eq, TCallFrame.re_eq, TMachine.re_eq]
  -- fText
  obtain ⟨e1, e2⟩ := minus_len (b := b) (l := x.fText) h0 h1 hok.P_fText
  by_cases c0 : minus b (x.fText.length) < 0
  ·simp only [e1.2 c0, decide_true, if_true]
   rw [minus_neg_le c0 (by rw [TGen.m_eq]; omega)]
  have e3 := mt e1.1 c0
  simp only [e3, e2 c0, c0, decide_false, Bool.false_eq_true, if_false]
  -- fValue
  rw [szValue_ok x.fValue hok.P_fValue (minus b (x.fText.length)) (minus_nonneg c0) (minus_lt (by omega) h1)]
  simp only [Option.bind_some]
  simp only [minus_minus c0]
  by_cases c1 : minus b (x.fText.length + TValue.m x.fValue) < 0
  ·simp only [c1, decide_true, if_true]
   rw [minus_neg_le c1 (by rw [TGen.m_eq]; omega)]
  simp only [c1, decide_false, Bool.false_eq_true, if_false]
  -- fKids
  rw [szGenS_of hok.P_fKids_len (fun y hy b h0 h1 => ih y hy (hok.P_fKids y hy) b h0 h1) (minus_nonneg c1) (minus_lt (by omega) h1)]
  simp only [Option.bind_some]
  simp only [minus_minus c1]
  by_cases c2 : minus b (x.fText.length + TValue.m x.fValue + (x.fKids.length + sumOf TGen.m x.fKids)) < 0
  ·simp only [c2, decide_true, if_true]
   rw [minus_neg_le c2 (by rw [TGen.m_eq]; omega)]
  simp only [c2, decide_false, Bool.false_eq_true, if_false]
  try rw [TGen.m_eq]
theorem eqGen_ok : ∀ x : TGen, x.m ≤ 1048576 → l_eqGen x x = some true := by
 intro x
 induction x using TGen.ind with
 | h x ih =>
  intro hm
  have hq := x.m_eq
  rw [l_eqGen_eq]
  try simp only [TValue.re_eq, TObject.re_eq, THeap.re_eq, TBinding.re_eq, TGen.re_eq, TCursor.re_eq, TCoexpr.re_eq, TGenScope.re_eq, TFunction.re_eq, TRecordType.re_eq, TScope.re_eq, TFile.re_eq, TConsole.re_eq, TMemory.re_eq, TCallFrame.re_eq, TMachine.re_eq]
  rw [eqValue_ok x.fValue (by omega)]
  rw [eqGenS_of (xs := x.fKids) (by omega) fun y hy => ih y hy (by have := TGen.m_kid hy; omega)]
  simp
theorem TCursor.ind {P : TCursor → Prop} (h : ∀ x, (∀ y ∈ x.fKids, P y) → P x) : ∀ x, P x := by
 intro x
 exact TCursor.rec (motive_1 := P) (motive_2 := fun l => ∀ y ∈ l, P y) (fun a0 a1 a2 a3 ih => h ⟨a0, a1, a2, a3⟩ ih) (fun y hy => by cases hy)
  (fun a l ha hl y hy => by
   cases hy with
   | head => exact ha
   | tail _ hy => exact hl y hy) x
inductive TCursor.Ok : TCursor → Prop
 | mk (x : TCursor) (h0 : (-9223372036854775808 ≤ x.fPhase ∧ x.fPhase ≤ 9223372036854775807) ∧ (-9223372036854775808 ≤ x.fCount ∧ x.fCount ≤ 9223372036854775807) ∧ (x.fVals.length ≤ 9223372036854775807 ∧ ∀ y ∈ x.fVals, TValue.Ok y) ∧ x.fKids.length ≤ 9223372036854775807) (h1 : ∀ y ∈ x.fKids, TCursor.Ok y) : TCursor.Ok x
theorem TCursor.Ok.P_fVals {x : TCursor} (h : x.Ok) : (x.fVals.length ≤ 9223372036854775807 ∧ ∀ y ∈ x.fVals, TValue.Ok y) := by cases h with | mk _ h0 h1 => exact h0.2.2.1
theorem TCursor.Ok.P_fKids_len {x : TCursor} (h : x.Ok) : x.fKids.length ≤ 9223372036854775807 := by cases h with | mk _ h0 h1 => exact h0.2.2.2
theorem TCursor.Ok.P_fKids {x : TCursor} (h : x.Ok) : ∀ y ∈ x.fKids, y.Ok := by cases h with | mk _ h0 h1 => exact h1
theorem TCursor.ok_cells : ∀ x : TCursor, (∀ c ∈ GG.cells 36 x, ∀ k, WfV GG k c) → x.Ok := by
 intro x
 induction x using TCursor.ind with
 | h x ih =>
  intro h
  have h : ∀ c ∈ ([.int .i64 x.fPhase, .int .i64 x.fCount, .sl (.st 29) x.fVals, .sl (.st 36) x.fKids] : List (V GG.S)), ∀ k, WfV GG k c := h
  exact .mk x ⟨wfv_int (h (.int .i64 x.fPhase) (by simp) 1), wfv_int (h (.int .i64 x.fCount) (by simp) 1), ⟨(wfv_sl (h (.sl (.st 29) x.fVals) (by simp))).1, fun y hy => TValue.ok_cells y ((wfv_sl (h (.sl (.st 29) x.fVals) (by simp))).2 y hy)⟩, (wfv_sl (h (.sl (.st 36) x.fKids) (by simp))).1⟩ fun y hy => ih y hy ((wfv_sl (h (.sl (.st 36) x.fKids) (by simp))).2 y hy)
theorem TCursor.ok_of {x : TCursor} (h : ∀ k, WfV GG k (inj GG (.st 36) x)) : x.Ok := TCursor.ok_cells x (wfv_st h)
mutual
def TCursor.m : TCursor → Nat
 | ⟨_, _, a2, a3⟩ => (a2.length + sumOf TValue.m a2) + (a3.length + TCursor.ms a3)
def TCursor.ms : List TCursor → Nat
 | [] => 0
 | y :: r => TCursor.m y + TCursor.ms r
end
theorem TCursor.ms_eq : ∀ l, TCursor.ms l = sumOf TCursor.m l
 | [] => rfl
 | y :: r => by simp only [TCursor.ms, sumOf, TCursor.ms_eq r]
theorem TCursor.m_eq (x : TCursor) : x.m = (x.fVals.length + sumOf TValue.m x.fVals) + (x.fKids.length + sumOf TCursor.m x.fKids) := by
 rw [← TCursor.ms_eq]; cases x; rfl
theorem TCursor.m_kid {x y : TCursor} (h : y ∈ x.fKids) : y.m + x.fKids.length ≤ x.m := by
 have := sumOf_mem (m := TCursor.m) h
 rw [TCursor.m_eq x]; omega
theorem szCursorS_of {xs : (List TCursor)} (hx : xs.length ≤ 9223372036854775807)
  (hF : ∀ y ∈ xs, ∀ b : Int, 0 ≤ b → b < 4611686018427387904 → l_szCursor y b = some (minus b (TCursor.m y))) {b : Int} (h0 : 0 ≤ b) (h1 : b < 4611686018427387904) :
  l_szCursorS xs b = some (minus b (xs.length + sumOf TCursor.m xs)) := by
 rw [l_szCursorS_eq]
 obtain ⟨e1, e2⟩ := minus_len (l := xs) h0 h1 hx
 by_cases c : minus b xs.length < 0
 ·simp only [e1.2 c, decide_true, if_true, minus_neg c]
 ·rw [if_neg (by simpa using fun h => c (e1.1 h)), e2 c, sz_loop hx (J := l_szCursorS_L5) (F := l_szCursor) (m := TCursor.m) (fun b i => by rw [l_szCursorS_L5_eq]; try simp only [TValue.re_eq, TObject.re_eq, THeap.re_eq, TBinding.re_eq, TGen.re_eq, TCursor.re_eq, TCoexpr.re_eq, TGenScope.re_eq, TFunction.re_eq, TRecordType.re_eq, TScope.re_eq, TFile.re_eq, TConsole.re_eq, TMemory.re_eq, TCallFrame.re_eq, TMachine.re_eq]) hF _ (minus_nonneg c) (minus_lt (by omega) h1), minus_minus c]
theorem eqCursorS_of {xs : (List TCursor)} (hx : xs.length ≤ 9223372036854775807) (hF : ∀ y ∈ xs, l_eqCursor y y = some true) : l_eqCursorS xs xs = some true := by
 rw [l_eqCursorS_eq]
 simp only [bne_self_eq_false, Bool.false_eq_true, if_false]
 exact eq_loop (by omega) (J := l_eqCursorS_L4) (F := l_eqCursor) (fun i => by rw [l_eqCursorS_L4_eq]; try simp only [TValue.re_eq, TObject.re_eq, THeap.re_eq, TBinding.re_eq, TGen.re_eq, TCursor.re_eq, TCoexpr.re_eq, TGenScope.re_eq, TFunction.re_eq, TRecordType.re_eq, TScope.re_eq, TFile.re_eq, TConsole.re_eq, TMemory.re_eq, TCallFrame.re_eq, TMachine.re_eq]) hF
theorem szCursor_ok : ∀ x : TCursor, x.Ok → ∀ b : Int, 0 ≤ b → b < 4611686018427387904 → l_szCursor x b = some (minus b x.m) := by
 intro x
 induction x using TCursor.ind with
 | h x ih =>
  intro hok b h0 h1
  rw [l_szCursor_eq]
  try simp only [TValue.re_eq, TObject.re_eq, THeap.re_eq, TBinding.re_eq, TGen.re_eq, TCursor.re_eq, TCoexpr.re_eq, TGenScope.re_eq, TFunction.re_eq, TRecordType.re_eq, TScope.re_eq, TFile.re_eq, TConsole.re_eq, TMemory.re_eq, TCallFrame.re_eq, TMachine.re_eq]
  -- fVals
  rw [szValueS_of hok.P_fVals.1 (fun y hy b h0 h1 => szValue_ok y (hok.P_fVals.2 y hy) b h0 h1) h0 h1]
  simp only [Option.bind_some]
  by_cases c0 : minus b ((x.fVals.length + sumOf TValue.m x.fVals)) < 0
  ·simp only [c0, decide_true, if_true]
   rw [minus_neg_le c0 (by rw [TCursor.m_eq]; omega)]
  simp only [c0, decide_false, Bool.false_eq_true, if_false]
  -- fKids
  rw [szCursorS_of hok.P_fKids_len (fun y hy b h0 h1 => ih y hy (hok.P_fKids y hy) b h0 h1) (minus_nonneg c0) (minus_lt (by omega) h1)]
  simp only [Option.bind_some]
  simp only [minus_minus c0]
  by_cases c1 : minus b ((x.fVals.length + sumOf TValue.m x.fVals) + (x.fKids.length + sumOf TCursor.m x.fKids)) < 0
  ·simp only [c1, decide_true, if_true]
   rw [minus_neg_le c1 (by rw [TCursor.m_eq]; omega)]
  simp only [c1, decide_false, Bool.false_eq_true, if_false]
  try rw [TCursor.m_eq]
theorem eqCursor_ok : ∀ x : TCursor, x.m ≤ 1048576 → l_eqCursor x x = some true := by
 intro x
 induction x using TCursor.ind with
 | h x ih =>
  intro hm
  have hq := x.m_eq
  rw [l_eqCursor_eq]
  try simp only [TValue.re_eq, TObject.re_eq, THeap.re_eq, TBinding.re_eq, TGen.re_eq, TCursor.re_eq, TCoexpr.re_eq, TGenScope.re_eq, TFunction.re_eq, TRecordType.re_eq, TScope.re_eq, TFile.re_eq, TConsole.re_eq, TMemory.re_eq, TCallFrame.re_eq, TMachine.re_eq]
  rw [eqValueS_of (xs := x.fVals) (by omega) fun y hy => eqValue_ok y (by have := sumOf_mem (m := TValue.m) hy; omega)]
  rw [eqCursorS_of (xs := x.fKids) (by omega) fun y hy => ih y hy (by have := TCursor.m_kid hy; omega)]
  simp
structure TCoexpr.Ok (x : TCoexpr) : Prop where
 P_fId : (-9223372036854775808 ≤ x.fId ∧ x.fId ≤ 9223372036854775807)
 P_fBody : TGen.Ok x.fBody
 P_fStart : (x.fStart.length ≤ 9223372036854775807 ∧ ∀ y ∈ x.fStart, TBinding.Ok y)
 P_fVars : (x.fVars.length ≤ 9223372036854775807 ∧ ∀ y ∈ x.fVars, TBinding.Ok y)
 P_fCursor : TCursor.Ok x.fCursor
 P_fCount : (-9223372036854775808 ≤ x.fCount ∧ x.fCount ≤ 9223372036854775807)
theorem TCoexpr.ok_cells (x : TCoexpr) (h : ∀ c ∈ GG.cells 137 x, ∀ k, WfV GG k c) : x.Ok := by
 have h : ∀ c ∈ ([.int .i64 x.fId, .int .i64 x.fBody.fKind, .int .i64 x.fBody.fNum, .str x.fBody.fText, .int .i64 x.fBody.fValue.fKind, .int .i64 x.fBody.fValue.fNum, .str x.fBody.fValue.fText, .int .i64 x.fBody.fValue.fRef, .sl (.st 32) x.fBody.fKids, .sl (.st 162) x.fStart, .sl (.st 162) x.fVars, .int .i64 x.fCursor.fPhase, .int .i64 x.fCursor.fCount, .sl (.st 29) x.fCursor.fVals, .sl (.st 36) x.fCursor.fKids, .int .i64 x.fCount, .bool x.fDone] : List (V GG.S)), ∀ k, WfV GG k c := h
 have h_fBody : ∀ c ∈ ([.int .i64 x.fBody.fKind, .int .i64 x.fBody.fNum, .str x.fBody.fText, .int .i64 x.fBody.fValue.fKind, .int .i64 x.fBody.fValue.fNum, .str x.fBody.fValue.fText, .int .i64 x.fBody.fValue.fRef, .sl (.st 32) x.fBody.fKids] : List (V GG.S)), ∀ k, WfV GG k c := fun c hc => h c (by simp only [List.mem_cons, List.not_mem_nil, or_false] at hc ⊢; rcases hc with rfl | rfl | rfl | rfl | rfl | rfl | rfl | rfl <;> simp)
 have h_fCursor : ∀ c ∈ ([.int .i64 x.fCursor.fPhase, .int .i64 x.fCursor.fCount, .sl (.st 29) x.fCursor.fVals, .sl (.st 36) x.fCursor.fKids] : List (V GG.S)), ∀ k, WfV GG k c := fun c hc => h c (by simp only [List.mem_cons, List.not_mem_nil, or_false] at hc ⊢; rcases hc with rfl | rfl | rfl | rfl <;> simp)
 exact ⟨wfv_int (h (.int .i64 x.fId) (by simp) 1), TGen.ok_cells _ h_fBody, ⟨(wfv_sl (h (.sl (.st 162) x.fStart) (by simp))).1, fun y hy => TBinding.ok_cells y ((wfv_sl (h (.sl (.st 162) x.fStart) (by simp))).2 y hy)⟩, ⟨(wfv_sl (h (.sl (.st 162) x.fVars) (by simp))).1, fun y hy => TBinding.ok_cells y ((wfv_sl (h (.sl (.st 162) x.fVars) (by simp))).2 y hy)⟩, TCursor.ok_cells _ h_fCursor, wfv_int (h (.int .i64 x.fCount) (by simp) 1)⟩
theorem TCoexpr.ok_of {x : TCoexpr} (h : ∀ k, WfV GG k (inj GG (.st 137) x)) : x.Ok := TCoexpr.ok_cells x (wfv_st h)
theorem szBindingS_of {xs : (List TBinding)} (hx : xs.length ≤ 9223372036854775807)
  (hF : ∀ y ∈ xs, ∀ b : Int, 0 ≤ b → b < 4611686018427387904 → l_szBinding y b = some (minus b (TBinding.m y))) {b : Int} (h0 : 0 ≤ b) (h1 : b < 4611686018427387904) :
  l_szBindingS xs b = some (minus b (xs.length + sumOf TBinding.m xs)) := by
 rw [l_szBindingS_eq]
 obtain ⟨e1, e2⟩ := minus_len (l := xs) h0 h1 hx
 by_cases c : minus b xs.length < 0
 ·simp only [e1.2 c, decide_true, if_true, minus_neg c]
 ·rw [if_neg (by simpa using fun h => c (e1.1 h)), e2 c, sz_loop hx (J := l_szBindingS_L5) (F := l_szBinding) (m := TBinding.m) (fun b i => by rw [l_szBindingS_L5_eq]; try simp only [TValue.re_eq, TObject.re_eq, THeap.re_eq, TBinding.re_eq, TGen.re_eq, TCursor.re_eq, TCoexpr.re_eq, TGenScope.re_eq, TFunction.re_eq, TRecordType.re_eq, TScope.re_eq, TFile.re_eq, TConsole.re_eq, TMemory.re_eq, TCallFrame.re_eq, TMachine.re_eq]) hF _ (minus_nonneg c) (minus_lt (by omega) h1), minus_minus c]
theorem eqBindingS_of {xs : (List TBinding)} (hx : xs.length ≤ 9223372036854775807) (hF : ∀ y ∈ xs, l_eqBinding y y = some true) : l_eqBindingS xs xs = some true := by
 rw [l_eqBindingS_eq]
 simp only [bne_self_eq_false, Bool.false_eq_true, if_false]
 exact eq_loop (by omega) (J := l_eqBindingS_L4) (F := l_eqBinding) (fun i => by rw [l_eqBindingS_L4_eq]; try simp only [TValue.re_eq, TObject.re_eq, THeap.re_eq, TBinding.re_eq, TGen.re_eq, TCursor.re_eq, TCoexpr.re_eq, TGenScope.re_eq, TFunction.re_eq, TRecordType.re_eq, TScope.re_eq, TFile.re_eq, TConsole.re_eq, TMemory.re_eq, TCallFrame.re_eq, TMachine.re_eq]) hF
def TCoexpr.m (x : TCoexpr) : Nat := TGen.m x.fBody + (x.fStart.length + sumOf TBinding.m x.fStart) + (x.fVars.length + sumOf TBinding.m x.fVars) + TCursor.m x.fCursor
theorem TCoexpr.m_eq (x : TCoexpr) : x.m = TGen.m x.fBody + (x.fStart.length + sumOf TBinding.m x.fStart) + (x.fVars.length + sumOf TBinding.m x.fVars) + TCursor.m x.fCursor := rfl
theorem szCoexpr_ok : ∀ x : TCoexpr, x.Ok → ∀ b : Int, 0 ≤ b → b < 4611686018427387904 → l_szCoexpr x b = some (minus b x.m) := by
 intro x
 intro hok b h0 h1
 rw [l_szCoexpr_eq]
 try simp only [TValue.re_eq, TObject.re_eq, THeap.re_eq, TBinding.re_eq, TGen.re_eq, TCursor.re_eq, TCoexpr.re_eq, TGenScope.re_eq, TFunction.re_eq, TRecordType.re_eq, TScope.re_eq, TFile.re_eq, TConsole.re_eq, TMemory.re_eq, TCallFrame.re_eq, TMachine.re_eq]
 -- fBody
 rw [szGen_ok x.fBody hok.P_fBody b h0 h1]
 simp only [Option.bind_some]
 by_cases c0 : minus b (TGen.m x.fBody) < 0
 ·simp only [c0, decide_true, if_true]
  rw [minus_neg_le c0 (by rw [TCoexpr.m_eq]; omega)]
 simp only [c0, decide_false, Bool.false_eq_true, if_false]
 -- fStart
 rw [szBindingS_of hok.P_fStart.1 (fun y hy b h0 h1 => szBinding_ok y (hok.P_fStart.2 y hy) b h0 h1) (minus_nonneg c0) (minus_lt (by omega) h1)]
 simp only [Option.bind_some]
 simp only [minus_minus c0]
 by_cases c1 : minus b (TGen.m x.fBody + (x.fStart.length + sumOf TBinding.m x.fStart)) < 0
 ·simp only [c1, decide_true, if_true]
  rw [minus_neg_le c1 (by rw [TCoexpr.m_eq]; omega)]
 simp only [c1, decide_false, Bool.false_eq_true, if_false]
 -- fVars
 rw [szBindingS_of hok.P_fVars.1 (fun y hy b h0 h1 => szBinding_ok y (hok.P_fVars.2 y hy) b h0 h1) (minus_nonneg c1) (minus_lt (by omega) h1)]
 simp only [Option.bind_some]
 simp only [minus_minus c1]
 by_cases c2 : minus b (TGen.m x.fBody + (x.fStart.length + sumOf TBinding.m x.fStart) + (x.fVars.length + sumOf TBinding.m x.fVars)) < 0
 ·simp only [c2, decide_true, if_true]
  rw [minus_neg_le c2 (by rw [TCoexpr.m_eq]; omega)]
 simp only [c2, decide_false, Bool.false_eq_true, if_false]
 -- fCursor
 rw [szCursor_ok x.fCursor hok.P_fCursor (minus b (TGen.m x.fBody + (x.fStart.length + sumOf TBinding.m x.fStart) + (x.fVars.length + sumOf TBinding.m x.fVars))) (minus_nonneg c2) (minus_lt (by omega) h1)]
 simp only [Option.bind_some]
 simp only [minus_minus c2]
 by_cases c3 : minus b (TGen.m x.fBody + (x.fStart.length + sumOf TBinding.m x.fStart) + (x.fVars.length + sumOf TBinding.m x.fVars) + TCursor.m x.fCursor) < 0
 ·simp only [c3, decide_true, if_true]
  rw [minus_neg_le c3 (by rw [TCoexpr.m_eq]; omega)]
 simp only [c3, decide_false, Bool.false_eq_true, if_false]
 try rw [TCoexpr.m_eq]
theorem eqCoexpr_ok : ∀ x : TCoexpr, x.m ≤ 1048576 → l_eqCoexpr x x = some true := by
 intro x
 intro hm
 have hq := x.m_eq
 rw [l_eqCoexpr_eq]
 try simp only [TValue.re_eq, TObject.re_eq, THeap.re_eq, TBinding.re_eq, TGen.re_eq, TCursor.re_eq, TCoexpr.re_eq, TGenScope.re_eq, TFunction.re_eq, TRecordType.re_eq, TScope.re_eq, TFile.re_eq, TConsole.re_eq, TMemory.re_eq, TCallFrame.re_eq, TMachine.re_eq]
 rw [eqGen_ok x.fBody (by omega)]
 rw [eqBindingS_of (xs := x.fStart) (by omega) fun y hy => eqBinding_ok y (by have := sumOf_mem (m := TBinding.m) hy; omega)]
 rw [eqBindingS_of (xs := x.fVars) (by omega) fun y hy => eqBinding_ok y (by have := sumOf_mem (m := TBinding.m) hy; omega)]
 rw [eqCursor_ok x.fCursor (by omega)]
 simp
structure TGenScope.Ok (x : TGenScope) : Prop where
 P_fVars : (x.fVars.length ≤ 9223372036854775807 ∧ ∀ y ∈ x.fVars, TBinding.Ok y)
 P_fHeap : THeap.Ok x.fHeap
 P_fCos : (x.fCos.length ≤ 9223372036854775807 ∧ ∀ y ∈ x.fCos, TCoexpr.Ok y)
 P_fSteps : (-9223372036854775808 ≤ x.fSteps ∧ x.fSteps ≤ 9223372036854775807)
theorem TGenScope.ok_cells (x : TGenScope) (h : ∀ c ∈ GG.cells 27 x, ∀ k, WfV GG k c) : x.Ok := by
 have h : ∀ c ∈ ([.sl (.st 162) x.fVars, .int .i64 x.fHeap.fNext, .sl (.st 199) x.fHeap.fObjects, .sl (.st 137) x.fCos, .int .i64 x.fSteps] : List (V GG.S)), ∀ k, WfV GG k c := h
 have h_fHeap : ∀ c ∈ ([.int .i64 x.fHeap.fNext, .sl (.st 199) x.fHeap.fObjects] : List (V GG.S)), ∀ k, WfV GG k c := fun c hc => h c (by simp only [List.mem_cons, List.not_mem_nil, or_false] at hc ⊢; rcases hc with rfl | rfl <;> simp)
 exact ⟨⟨(wfv_sl (h (.sl (.st 162) x.fVars) (by simp))).1, fun y hy => TBinding.ok_cells y ((wfv_sl (h (.sl (.st 162) x.fVars) (by simp))).2 y hy)⟩, THeap.ok_cells _ h_fHeap, ⟨(wfv_sl (h (.sl (.st 137) x.fCos) (by simp))).1, fun y hy => TCoexpr.ok_cells y ((wfv_sl (h (.sl (.st 137) x.fCos) (by simp))).2 y hy)⟩, wfv_int (h (.int .i64 x.fSteps) (by simp) 1)⟩
theorem TGenScope.ok_of {x : TGenScope} (h : ∀ k, WfV GG k (inj GG (.st 27) x)) : x.Ok := TGenScope.ok_cells x (wfv_st h)
theorem szCoexprS_of {xs : (List TCoexpr)} (hx : xs.length ≤ 9223372036854775807)
  (hF : ∀ y ∈ xs, ∀ b : Int, 0 ≤ b → b < 4611686018427387904 → l_szCoexpr y b = some (minus b (TCoexpr.m y))) {b : Int} (h0 : 0 ≤ b) (h1 : b < 4611686018427387904) :
  l_szCoexprS xs b = some (minus b (xs.length + sumOf TCoexpr.m xs)) := by
 rw [l_szCoexprS_eq]
 obtain ⟨e1, e2⟩ := minus_len (l := xs) h0 h1 hx
 by_cases c : minus b xs.length < 0
 ·simp only [e1.2 c, decide_true, if_true, minus_neg c]
 ·rw [if_neg (by simpa using fun h => c (e1.1 h)), e2 c, sz_loop hx (J := l_szCoexprS_L5) (F := l_szCoexpr) (m := TCoexpr.m) (fun b i => by rw [l_szCoexprS_L5_eq]; try simp only [TValue.re_eq, TObject.re_eq, THeap.re_eq, TBinding.re_eq, TGen.re_eq, TCursor.re_eq, TCoexpr.re_eq, TGenScope.re_eq, TFunction.re_eq, TRecordType.re_eq, TScope.re_eq, TFile.re_eq, TConsole.re_eq, TMemory.re_eq, TCallFrame.re_eq, TMachine.re_eq]) hF _ (minus_nonneg c) (minus_lt (by omega) h1), minus_minus c]
theorem eqCoexprS_of {xs : (List TCoexpr)} (hx : xs.length ≤ 9223372036854775807) (hF : ∀ y ∈ xs, l_eqCoexpr y y = some true) : l_eqCoexprS xs xs = some true := by
 rw [l_eqCoexprS_eq]
 simp only [bne_self_eq_false, Bool.false_eq_true, if_false]
 exact eq_loop (by omega) (J := l_eqCoexprS_L4) (F := l_eqCoexpr) (fun i => by rw [l_eqCoexprS_L4_eq]; try simp only [TValue.re_eq, TObject.re_eq, THeap.re_eq, TBinding.re_eq, TGen.re_eq, TCursor.re_eq, TCoexpr.re_eq, TGenScope.re_eq, TFunction.re_eq, TRecordType.re_eq, TScope.re_eq, TFile.re_eq, TConsole.re_eq, TMemory.re_eq, TCallFrame.re_eq, TMachine.re_eq]) hF
def TGenScope.m (x : TGenScope) : Nat := (x.fVars.length + sumOf TBinding.m x.fVars) + THeap.m x.fHeap + (x.fCos.length + sumOf TCoexpr.m x.fCos)
theorem TGenScope.m_eq (x : TGenScope) : x.m = (x.fVars.length + sumOf TBinding.m x.fVars) + THeap.m x.fHeap + (x.fCos.length + sumOf TCoexpr.m x.fCos) := rfl
theorem szGenScope_ok : ∀ x : TGenScope, x.Ok → ∀ b : Int, 0 ≤ b → b < 4611686018427387904 → l_szGenScope x b = some (minus b x.m) := by
 intro x
 intro hok b h0 h1
 rw [l_szGenScope_eq]
 try simp only [TValue.re_eq, TObject.re_eq, THeap.re_eq, TBinding.re_eq, TGen.re_eq, TCursor.re_eq, TCoexpr.re_eq, TGenScope.re_eq, TFunction.re_eq, TRecordType.re_eq, TScope.re_eq, TFile.re_eq, TConsole.re_eq, TMemory.re_eq, TCallFrame.re_eq, TMachine.re_eq]
 -- fVars
 rw [szBindingS_of hok.P_fVars.1 (fun y hy b h0 h1 => szBinding_ok y (hok.P_fVars.2 y hy) b h0 h1) h0 h1]
 simp only [Option.bind_some]
 by_cases c0 : minus b ((x.fVars.length + sumOf TBinding.m x.fVars)) < 0
 ·simp only [c0, decide_true, if_true]
  rw [minus_neg_le c0 (by rw [TGenScope.m_eq]; omega)]
 simp only [c0, decide_false, Bool.false_eq_true, if_false]
 -- fHeap
 rw [szHeap_ok x.fHeap hok.P_fHeap (minus b ((x.fVars.length + sumOf TBinding.m x.fVars))) (minus_nonneg c0) (minus_lt (by omega) h1)]
 simp only [Option.bind_some]
 simp only [minus_minus c0]
 by_cases c1 : minus b ((x.fVars.length + sumOf TBinding.m x.fVars) + THeap.m x.fHeap) < 0
 ·simp only [c1, decide_true, if_true]
  rw [minus_neg_le c1 (by rw [TGenScope.m_eq]; omega)]
 simp only [c1, decide_false, Bool.false_eq_true, if_false]
 -- fCos
 rw [szCoexprS_of hok.P_fCos.1 (fun y hy b h0 h1 => szCoexpr_ok y (hok.P_fCos.2 y hy) b h0 h1) (minus_nonneg c1) (minus_lt (by omega) h1)]
 simp only [Option.bind_some]
 simp only [minus_minus c1]
 by_cases c2 : minus b ((x.fVars.length + sumOf TBinding.m x.fVars) + THeap.m x.fHeap + (x.fCos.length + sumOf TCoexpr.m x.fCos)) < 0
 ·simp only [c2, decide_true, if_true]
  rw [minus_neg_le c2 (by rw [TGenScope.m_eq]; omega)]
 simp only [c2, decide_false, Bool.false_eq_true, if_false]
 try rw [TGenScope.m_eq]
theorem eqGenScope_ok : ∀ x : TGenScope, x.m ≤ 1048576 → l_eqGenScope x x = some true := by
 intro x
 intro hm
 have hq := x.m_eq
 rw [l_eqGenScope_eq]
 try simp only [TValue.re_eq, TObject.re_eq, THeap.re_eq, TBinding.re_eq, TGen.re_eq, TCursor.re_eq, TCoexpr.re_eq, TGenScope.re_eq, TFunction.re_eq, TRecordType.re_eq, TScope.re_eq, TFile.re_eq, TConsole.re_eq, TMemory.re_eq, TCallFrame.re_eq, TMachine.re_eq]
 rw [eqBindingS_of (xs := x.fVars) (by omega) fun y hy => eqBinding_ok y (by have := sumOf_mem (m := TBinding.m) hy; omega)]
 rw [eqHeap_ok x.fHeap (by omega)]
 rw [eqCoexprS_of (xs := x.fCos) (by omega) fun y hy => eqCoexpr_ok y (by have := sumOf_mem (m := TCoexpr.m) hy; omega)]
 simp
structure TFunction.Ok (x : TFunction) : Prop where
 P_fName : x.fName.length ≤ 9223372036854775807
 P_fParams : (x.fParams.length ≤ 9223372036854775807 ∧ ∀ y ∈ x.fParams, y.length ≤ 9223372036854775807)
 P_fLocals : (x.fLocals.length ≤ 9223372036854775807 ∧ ∀ y ∈ x.fLocals, y.length ≤ 9223372036854775807)
 P_fLabel : x.fLabel.length ≤ 9223372036854775807
theorem TFunction.ok_cells (x : TFunction) (h : ∀ c ∈ GG.cells 212 x, ∀ k, WfV GG k c) : x.Ok := by
 have h : ∀ c ∈ ([.str x.fName, .sl .str x.fParams, .sl .str x.fLocals, .str x.fLabel] : List (V GG.S)), ∀ k, WfV GG k c := h
 exact ⟨wfv_str (h (.str x.fName) (by simp) 1), ⟨(wfv_sl (h (.sl .str x.fParams) (by simp))).1, fun y hy => wfv_str ((wfv_sl (h (.sl .str x.fParams) (by simp))).2 y hy (.str y) (by simp [Ty.cells, inj]) 1)⟩, ⟨(wfv_sl (h (.sl .str x.fLocals) (by simp))).1, fun y hy => wfv_str ((wfv_sl (h (.sl .str x.fLocals) (by simp))).2 y hy (.str y) (by simp [Ty.cells, inj]) 1)⟩, wfv_str (h (.str x.fLabel) (by simp) 1)⟩
theorem TFunction.ok_of {x : TFunction} (h : ∀ k, WfV GG k (inj GG (.st 212) x)) : x.Ok := TFunction.ok_cells x (wfv_st h)
def TFunction.m (x : TFunction) : Nat := x.fName.length + (x.fParams.length + sumOf List.length x.fParams) + (x.fLocals.length + sumOf List.length x.fLocals) + x.fLabel.length
theorem TFunction.m_eq (x : TFunction) : x.m = x.fName.length + (x.fParams.length + sumOf List.length x.fParams) + (x.fLocals.length + sumOf List.length x.fLocals) + x.fLabel.length := rfl
structure TRecordType.Ok (x : TRecordType) : Prop where
 P_fName : x.fName.length ≤ 9223372036854775807
 P_fFields : (x.fFields.length ≤ 9223372036854775807 ∧ ∀ y ∈ x.fFields, y.length ≤ 9223372036854775807)
theorem TRecordType.ok_cells (x : TRecordType) (h : ∀ c ∈ GG.cells 215 x, ∀ k, WfV GG k c) : x.Ok := by
 have h : ∀ c ∈ ([.str x.fName, .sl .str x.fFields] : List (V GG.S)), ∀ k, WfV GG k c := h
 exact ⟨wfv_str (h (.str x.fName) (by simp) 1), ⟨(wfv_sl (h (.sl .str x.fFields) (by simp))).1, fun y hy => wfv_str ((wfv_sl (h (.sl .str x.fFields) (by simp))).2 y hy (.str y) (by simp [Ty.cells, inj]) 1)⟩⟩
theorem TRecordType.ok_of {x : TRecordType} (h : ∀ k, WfV GG k (inj GG (.st 215) x)) : x.Ok := TRecordType.ok_cells x (wfv_st h)
def TRecordType.m (x : TRecordType) : Nat := x.fName.length + (x.fFields.length + sumOf List.length x.fFields)
theorem TRecordType.m_eq (x : TRecordType) : x.m = x.fName.length + (x.fFields.length + sumOf List.length x.fFields) := rfl
structure TScope.Ok (x : TScope) : Prop where
 P_fVars : (x.fVars.length ≤ 9223372036854775807 ∧ ∀ y ∈ x.fVars, TBinding.Ok y)
 P_fFunctions : (x.fFunctions.length ≤ 9223372036854775807 ∧ ∀ y ∈ x.fFunctions, TFunction.Ok y)
 P_fTypes : (x.fTypes.length ≤ 9223372036854775807 ∧ ∀ y ∈ x.fTypes, TRecordType.Ok y)
theorem TScope.ok_cells (x : TScope) (h : ∀ c ∈ GG.cells 68 x, ∀ k, WfV GG k c) : x.Ok := by
 have h : ∀ c ∈ ([.sl (.st 162) x.fVars, .sl (.st 212) x.fFunctions, .sl (.st 215) x.fTypes] : List (V GG.S)), ∀ k, WfV GG k c := h
 exact ⟨⟨(wfv_sl (h (.sl (.st 162) x.fVars) (by simp))).1, fun y hy => TBinding.ok_cells y ((wfv_sl (h (.sl (.st 162) x.fVars) (by simp))).2 y hy)⟩, ⟨(wfv_sl (h (.sl (.st 212) x.fFunctions) (by simp))).1, fun y hy => TFunction.ok_cells y ((wfv_sl (h (.sl (.st 212) x.fFunctions) (by simp))).2 y hy)⟩, ⟨(wfv_sl (h (.sl (.st 215) x.fTypes) (by simp))).1, fun y hy => TRecordType.ok_cells y ((wfv_sl (h (.sl (.st 215) x.fTypes) (by simp))).2 y hy)⟩⟩
theorem TScope.ok_of {x : TScope} (h : ∀ k, WfV GG k (inj GG (.st 68) x)) : x.Ok := TScope.ok_cells x (wfv_st h)
def TScope.m (x : TScope) : Nat := (x.fVars.length + sumOf TBinding.m x.fVars) + (x.fFunctions.length + sumOf TFunction.m x.fFunctions) + (x.fTypes.length + sumOf TRecordType.m x.fTypes)
theorem TScope.m_eq (x : TScope) : x.m = (x.fVars.length + sumOf TBinding.m x.fVars) + (x.fFunctions.length + sumOf TFunction.m x.fFunctions) + (x.fTypes.length + sumOf TRecordType.m x.fTypes) := rfl
structure TFile.Ok (x : TFile) : Prop where
 P_fName : x.fName.length ≤ 9223372036854775807
 P_fLines : (x.fLines.length ≤ 9223372036854775807 ∧ ∀ y ∈ x.fLines, y.length ≤ 9223372036854775807)
 P_fMode : (-9223372036854775808 ≤ x.fMode ∧ x.fMode ≤ 9223372036854775807)
 P_fAt : (-9223372036854775808 ≤ x.fAt ∧ x.fAt ≤ 9223372036854775807)
theorem TFile.ok_cells (x : TFile) (h : ∀ c ∈ GG.cells 232 x, ∀ k, WfV GG k c) : x.Ok := by
 have h : ∀ c ∈ ([.str x.fName, .sl .str x.fLines, .int .i64 x.fMode, .int .i64 x.fAt] : List (V GG.S)), ∀ k, WfV GG k c := h
 exact ⟨wfv_str (h (.str x.fName) (by simp) 1), ⟨(wfv_sl (h (.sl .str x.fLines) (by simp))).1, fun y hy => wfv_str ((wfv_sl (h (.sl .str x.fLines) (by simp))).2 y hy (.str y) (by simp [Ty.cells, inj]) 1)⟩, wfv_int (h (.int .i64 x.fMode) (by simp) 1), wfv_int (h (.int .i64 x.fAt) (by simp) 1)⟩
theorem TFile.ok_of {x : TFile} (h : ∀ k, WfV GG k (inj GG (.st 232) x)) : x.Ok := TFile.ok_cells x (wfv_st h)
def TFile.m (x : TFile) : Nat := x.fName.length + (x.fLines.length + sumOf List.length x.fLines)
theorem TFile.m_eq (x : TFile) : x.m = x.fName.length + (x.fLines.length + sumOf List.length x.fLines) := rfl
structure TConsole.Ok (x : TConsole) : Prop where
 P_fInput : (x.fInput.length ≤ 9223372036854775807 ∧ ∀ y ∈ x.fInput, y.length ≤ 9223372036854775807)
 P_fAt : (-9223372036854775808 ≤ x.fAt ∧ x.fAt ≤ 9223372036854775807)
 P_fOutput : (x.fOutput.length ≤ 9223372036854775807 ∧ ∀ y ∈ x.fOutput, y.length ≤ 9223372036854775807)
 P_fFiles : (x.fFiles.length ≤ 9223372036854775807 ∧ ∀ y ∈ x.fFiles, TFile.Ok y)
 P_fTrace : (x.fTrace.length ≤ 9223372036854775807 ∧ ∀ y ∈ x.fTrace, y.length ≤ 9223372036854775807)
theorem TConsole.ok_cells (x : TConsole) (h : ∀ c ∈ GG.cells 72 x, ∀ k, WfV GG k c) : x.Ok := by
 have h : ∀ c ∈ ([.sl .str x.fInput, .int .i64 x.fAt, .sl .str x.fOutput, .sl (.st 232) x.fFiles, .sl .str x.fTrace] : List (V GG.S)), ∀ k, WfV GG k c := h
 exact ⟨⟨(wfv_sl (h (.sl .str x.fInput) (by simp))).1, fun y hy => wfv_str ((wfv_sl (h (.sl .str x.fInput) (by simp))).2 y hy (.str y) (by simp [Ty.cells, inj]) 1)⟩, wfv_int (h (.int .i64 x.fAt) (by simp) 1), ⟨(wfv_sl (h (.sl .str x.fOutput) (by simp))).1, fun y hy => wfv_str ((wfv_sl (h (.sl .str x.fOutput) (by simp))).2 y hy (.str y) (by simp [Ty.cells, inj]) 1)⟩, ⟨(wfv_sl (h (.sl (.st 232) x.fFiles) (by simp))).1, fun y hy => TFile.ok_cells y ((wfv_sl (h (.sl (.st 232) x.fFiles) (by simp))).2 y hy)⟩, ⟨(wfv_sl (h (.sl .str x.fTrace) (by simp))).1, fun y hy => wfv_str ((wfv_sl (h (.sl .str x.fTrace) (by simp))).2 y hy (.str y) (by simp [Ty.cells, inj]) 1)⟩⟩
theorem TConsole.ok_of {x : TConsole} (h : ∀ k, WfV GG k (inj GG (.st 72) x)) : x.Ok := TConsole.ok_cells x (wfv_st h)
def TConsole.m (x : TConsole) : Nat := (x.fInput.length + sumOf List.length x.fInput) + (x.fOutput.length + sumOf List.length x.fOutput) + (x.fFiles.length + sumOf TFile.m x.fFiles) + (x.fTrace.length + sumOf List.length x.fTrace)
theorem TConsole.m_eq (x : TConsole) : x.m = (x.fInput.length + sumOf List.length x.fInput) + (x.fOutput.length + sumOf List.length x.fOutput) + (x.fFiles.length + sumOf TFile.m x.fFiles) + (x.fTrace.length + sumOf List.length x.fTrace) := rfl
structure TMemory.Ok (x : TMemory) : Prop where
 P_fHeap : THeap.Ok x.fHeap
 P_fScope : TScope.Ok x.fScope
 P_fConsole : TConsole.Ok x.fConsole
theorem TMemory.ok_cells (x : TMemory) (h : ∀ c ∈ GG.cells 74 x, ∀ k, WfV GG k c) : x.Ok := by
 have h : ∀ c ∈ ([.int .i64 x.fHeap.fNext, .sl (.st 199) x.fHeap.fObjects, .sl (.st 162) x.fScope.fVars, .sl (.st 212) x.fScope.fFunctions, .sl (.st 215) x.fScope.fTypes, .sl .str x.fConsole.fInput, .int .i64 x.fConsole.fAt, .sl .str x.fConsole.fOutput, .sl (.st 232) x.fConsole.fFiles, .sl .str x.fConsole.fTrace] : List (V GG.S)), ∀ k, WfV GG k c := h
 have h_fHeap : ∀ c ∈ ([.int .i64 x.fHeap.fNext, .sl (.st 199) x.fHeap.fObjects] : List (V GG.S)), ∀ k, WfV GG k c := fun c hc => h c (by simp only [List.mem_cons, List.not_mem_nil, or_false] at hc ⊢; rcases hc with rfl | rfl <;> simp)
 have h_fScope : ∀ c ∈ ([.sl (.st 162) x.fScope.fVars, .sl (.st 212) x.fScope.fFunctions, .sl (.st 215) x.fScope.fTypes] : List (V GG.S)), ∀ k, WfV GG k c := fun c hc => h c (by simp only [List.mem_cons, List.not_mem_nil, or_false] at hc ⊢; rcases hc with rfl | rfl | rfl <;> simp)
 have h_fConsole : ∀ c ∈ ([.sl .str x.fConsole.fInput, .int .i64 x.fConsole.fAt, .sl .str x.fConsole.fOutput, .sl (.st 232) x.fConsole.fFiles, .sl .str x.fConsole.fTrace] : List (V GG.S)), ∀ k, WfV GG k c := fun c hc => h c (by simp only [List.mem_cons, List.not_mem_nil, or_false] at hc ⊢; rcases hc with rfl | rfl | rfl | rfl | rfl <;> simp)
 exact ⟨THeap.ok_cells _ h_fHeap, TScope.ok_cells _ h_fScope, TConsole.ok_cells _ h_fConsole⟩
theorem TMemory.ok_of {x : TMemory} (h : ∀ k, WfV GG k (inj GG (.st 74) x)) : x.Ok := TMemory.ok_cells x (wfv_st h)
def TMemory.m (x : TMemory) : Nat := THeap.m x.fHeap + TScope.m x.fScope + TConsole.m x.fConsole
theorem TMemory.m_eq (x : TMemory) : x.m = THeap.m x.fHeap + TScope.m x.fScope + TConsole.m x.fConsole := rfl
structure TCallFrame.Ok (x : TCallFrame) : Prop where
 P_fName : x.fName.length ≤ 9223372036854775807
 P_fSaved : (x.fSaved.length ≤ 9223372036854775807 ∧ ∀ y ∈ x.fSaved, TBinding.Ok y)
 P_fPC : (-9223372036854775808 ≤ x.fPC ∧ x.fPC ≤ 9223372036854775807)
 P_fBase : (-9223372036854775808 ≤ x.fBase ∧ x.fBase ≤ 9223372036854775807)
 P_fAt : (-9223372036854775808 ≤ x.fAt ∧ x.fAt ≤ 9223372036854775807)
theorem TCallFrame.ok_cells (x : TCallFrame) (h : ∀ c ∈ GG.cells 160 x, ∀ k, WfV GG k c) : x.Ok := by
 have h : ∀ c ∈ ([.str x.fName, .sl (.st 162) x.fSaved, .int .i64 x.fPC, .int .i64 x.fBase, .int .i64 x.fAt] : List (V GG.S)), ∀ k, WfV GG k c := h
 exact ⟨wfv_str (h (.str x.fName) (by simp) 1), ⟨(wfv_sl (h (.sl (.st 162) x.fSaved) (by simp))).1, fun y hy => TBinding.ok_cells y ((wfv_sl (h (.sl (.st 162) x.fSaved) (by simp))).2 y hy)⟩, wfv_int (h (.int .i64 x.fPC) (by simp) 1), wfv_int (h (.int .i64 x.fBase) (by simp) 1), wfv_int (h (.int .i64 x.fAt) (by simp) 1)⟩
theorem TCallFrame.ok_of {x : TCallFrame} (h : ∀ k, WfV GG k (inj GG (.st 160) x)) : x.Ok := TCallFrame.ok_cells x (wfv_st h)
def TCallFrame.m (x : TCallFrame) : Nat := x.fName.length + (x.fSaved.length + sumOf TBinding.m x.fSaved)
theorem TCallFrame.m_eq (x : TCallFrame) : x.m = x.fName.length + (x.fSaved.length + sumOf TBinding.m x.fSaved) := rfl
structure TMachine.Ok (x : TMachine) : Prop where
 P_fStatus : (-9223372036854775808 ≤ x.fStatus ∧ x.fStatus ≤ 9223372036854775807)
 P_fCode : (-9223372036854775808 ≤ x.fCode ∧ x.fCode ≤ 9223372036854775807)
 P_fMemory : TMemory.Ok x.fMemory
 P_fStack : (x.fStack.length ≤ 9223372036854775807 ∧ ∀ y ∈ x.fStack, TValue.Ok y)
 P_fFrames : (x.fFrames.length ≤ 9223372036854775807 ∧ ∀ y ∈ x.fFrames, TCallFrame.Ok y)
 P_fPC : (-9223372036854775808 ≤ x.fPC ∧ x.fPC ≤ 9223372036854775807)
 P_fBase : (-9223372036854775808 ≤ x.fBase ∧ x.fBase ≤ 9223372036854775807)
 P_fAt : (-9223372036854775808 ≤ x.fAt ∧ x.fAt ≤ 9223372036854775807)
 P_fSteps : (-9223372036854775808 ≤ x.fSteps ∧ x.fSteps ≤ 9223372036854775807)
 P_fFuel : (-9223372036854775808 ≤ x.fFuel ∧ x.fFuel ≤ 9223372036854775807)
theorem TMachine.ok_cells (x : TMachine) (h : ∀ c ∈ GG.cells 95 x, ∀ k, WfV GG k c) : x.Ok := by
 have h : ∀ c ∈ ([.int .i64 x.fStatus, .int .i64 x.fCode, .int .i64 x.fMemory.fHeap.fNext, .sl (.st 199) x.fMemory.fHeap.fObjects, .sl (.st 162) x.fMemory.fScope.fVars, .sl (.st 212) x.fMemory.fScope.fFunctions, .sl (.st 215) x.fMemory.fScope.fTypes, .sl .str x.fMemory.fConsole.fInput, .int .i64 x.fMemory.fConsole.fAt, .sl .str x.fMemory.fConsole.fOutput, .sl (.st 232) x.fMemory.fConsole.fFiles, .sl .str x.fMemory.fConsole.fTrace, .sl (.st 29) x.fStack, .sl (.st 160) x.fFrames, .int .i64 x.fPC, .int .i64 x.fBase, .int .i64 x.fAt, .int .i64 x.fSteps, .int .i64 x.fFuel] : List (V GG.S)), ∀ k, WfV GG k c := h
 have h_fMemory : ∀ c ∈ ([.int .i64 x.fMemory.fHeap.fNext, .sl (.st 199) x.fMemory.fHeap.fObjects, .sl (.st 162) x.fMemory.fScope.fVars, .sl (.st 212) x.fMemory.fScope.fFunctions, .sl (.st 215) x.fMemory.fScope.fTypes, .sl .str x.fMemory.fConsole.fInput, .int .i64 x.fMemory.fConsole.fAt, .sl .str x.fMemory.fConsole.fOutput, .sl (.st 232) x.fMemory.fConsole.fFiles, .sl .str x.fMemory.fConsole.fTrace] : List (V GG.S)), ∀ k, WfV GG k c := fun c hc => h c (by simp only [List.mem_cons, List.not_mem_nil, or_false] at hc ⊢; rcases hc with rfl | rfl | rfl | rfl | rfl | rfl | rfl | rfl | rfl | rfl <;> simp)
 exact ⟨wfv_int (h (.int .i64 x.fStatus) (by simp) 1), wfv_int (h (.int .i64 x.fCode) (by simp) 1), TMemory.ok_cells _ h_fMemory, ⟨(wfv_sl (h (.sl (.st 29) x.fStack) (by simp))).1, fun y hy => TValue.ok_cells y ((wfv_sl (h (.sl (.st 29) x.fStack) (by simp))).2 y hy)⟩, ⟨(wfv_sl (h (.sl (.st 160) x.fFrames) (by simp))).1, fun y hy => TCallFrame.ok_cells y ((wfv_sl (h (.sl (.st 160) x.fFrames) (by simp))).2 y hy)⟩, wfv_int (h (.int .i64 x.fPC) (by simp) 1), wfv_int (h (.int .i64 x.fBase) (by simp) 1), wfv_int (h (.int .i64 x.fAt) (by simp) 1), wfv_int (h (.int .i64 x.fSteps) (by simp) 1), wfv_int (h (.int .i64 x.fFuel) (by simp) 1)⟩
theorem TMachine.ok_of {x : TMachine} (h : ∀ k, WfV GG k (inj GG (.st 95) x)) : x.Ok := TMachine.ok_cells x (wfv_st h)
def TMachine.m (x : TMachine) : Nat := TMemory.m x.fMemory + (x.fStack.length + sumOf TValue.m x.fStack) + (x.fFrames.length + sumOf TCallFrame.m x.fFrames)
theorem TMachine.m_eq (x : TMachine) : x.m = TMemory.m x.fMemory + (x.fStack.length + sumOf TValue.m x.fStack) + (x.fFrames.length + sumOf TCallFrame.m x.fFrames) := rfl
end Go.Dv.U

namespace Go.Dv
open Go
def gate {α : Type} (c : α → Nat → Bool) : List α → Nat → Bool
 | [], _ => true
 | y :: r, i => c y i && gate c r (i + 1)
theorem gate_loop {α : Type} {xs : List α} (hx : xs.length ≤ 9223372036854775807) {c : α → Nat → Bool} {J : Int → Option Bool}
  (hs : ∀ (i : Nat) (y : α), i < xs.length → y ∈ xs → idx xs (i : Int) = some y → w64 ((i : Int) + 1) = ((i + 1 : Nat) : Int) → J (i : Int) = if c y i = true then J ((i + 1 : Nat) : Int) else some false) :
  J 0 = if gate c xs 0 = true then J (xs.length : Int) else some false := by
 refine loop_ind hx (P := fun i l => J (i : Int) = if gate c l i = true then J (xs.length : Int) else some false) ?_ ?_
 ·simp [gate]
 ·intro i y l _ hlt hy hi hw ih
  rw [hs i y hlt hy hi hw]
  have hg : gate c (y :: l) i = (c y i && gate c l (i + 1)) := rfl
  by_cases hc : c y i = true
  ·rw [if_pos hc, ih]
   by_cases h2 : gate c l (i + 1) = true
   ·rw [if_pos h2, if_pos (by rw [hg, hc, h2]; rfl)]
   ·rw [if_neg h2, if_neg (by rw [hg, hc]; simpa using h2)]
  ·rw [if_neg hc, if_neg (by rw [hg]; simp [hc])]
def ixF {α : Type} (p : α → Bool) : List α → Nat → Int
 | [], _ => -1
 | y :: r, i => if p y = true then (i : Int) else ixF p r (i + 1)
theorem ix_loop {α : Type} {xs : List α} (hx : xs.length ≤ 9223372036854775807) {p : α → Bool} {J : Int → Option Int}
  (hs : ∀ (i : Nat) (y : α), i < xs.length → y ∈ xs → idx xs (i : Int) = some y → w64 ((i : Int) + 1) = ((i + 1 : Nat) : Int) → J (i : Int) = if p y = true then some (i : Int) else J ((i + 1 : Nat) : Int))
  (he : J (xs.length : Int) = some (-1)) : J 0 = some (ixF p xs 0) := by
 refine loop_ind hx (P := fun i l => J (i : Int) = some (ixF p l i)) ?_ ?_
 ·rw [he]; rfl
 ·intro i y l _ hlt hy hi hw ih
  rw [hs i y hlt hy hi hw]
  by_cases hc : p y = true
  ·rw [if_pos hc]; simp [ixF, hc]
  ·rw [if_neg hc, ih]; simp [ixF, hc]
end Go.Dv

namespace Go.Dv
open Go
theorem toE_loop {α β γ : Type} {xs : List α} (hx : xs.length ≤ 9223372036854775807) {F : α → Option β} {G : β → α} {E : List α → Option γ} {J : List α → Int → List α → Option γ}
  (hJ : ∀ i zs, J xs i zs = if decide (i < len xs) = true then (idx xs i).bind fun y => (F y).bind fun r => (idx zs i).bind fun _ => (zs[i.toNat]?).bind fun _ => J xs (w64 (i + 1)) (upd zs i.toNat (G r)) else E zs)
  (hF : ∀ y ∈ xs, ∃ r, F y = some r ∧ G r = y) : ∀ zs, zs.length = xs.length → J xs 0 zs = E xs := by
 have key : ∀ zs, zs.length = xs.length → (∀ j : Nat, j < 0 → zs[j]? = xs[j]?) → J xs ((0 : Nat) : Int) zs = E xs := by
  refine loop_ind hx (P := fun i l => ∀ zs, zs.length = xs.length → (∀ j, j < i → zs[j]? = xs[j]?) → J xs i zs = E xs) ?_ ?_
  ·intro zs hl hz
   rw [hJ]
   simp only [len_eq, Int.lt_irrefl, decide_false, Bool.false_eq_true, if_false]
   congr 1
   apply List.ext_getElem?
   intro j
   by_cases hj : j < xs.length
   ·exact hz j hj
   ·rw [List.getElem?_eq_none (by omega), List.getElem?_eq_none (by omega)]
  ·intro i y l _ hlt hy hi hw ih zs hl hz
   rw [hJ, hi, hw]
   have hc : decide ((i : Int) < len xs) = true := by simp [len_eq, hlt]
   rw [if_pos hc]
   have hzi : zs[i]? = some zs[i] := List.getElem?_eq_getElem (by omega)
   have hxi : xs[i]? = some y := by rw [← idx_nat]; exact hi
   obtain ⟨r, e1, e2⟩ := hF y hy
   simp only [Option.bind_some, e1, idx_nat, Int.toNat_natCast, hzi, upd_eq]
   refine ih _ (by simp [hl]) fun j hj => ?_
   by_cases hji : j = i
   ·subst hji; rw [List.getElem?_set_self (by omega), hxi, e2]
   ·rw [List.getElem?_set_ne (by omega)]; exact hz j (by omega)
 intro zs hl
 exact key zs hl fun j hj => absurd hj (Nat.not_lt_zero j)
end Go.Dv

namespace Go.Dv.U
open Go Go.Dv Go.Proofs
theorem i_within_ok (a b c : Int) : i_within a b c = some (decide (b ≤ a) && decide (a ≤ c)) := by
 rw [i_within_eq]; grind
theorem s_l00In_ok (a b c : Int) : s_l00In a b c = some (decide (b ≤ a) && decide (a ≤ c)) := by
 rw [s_l00In_eq]; grind
end Go.Dv.U

namespace Go.Dv.U
open Go Go.Dv Go.Proofs
def isLet (b : Int) : Bool := (decide (65 ≤ b) && decide (b ≤ 90)) || (decide (97 ≤ b) && decide (b ≤ 122))
def isDig (b : Int) : Bool := decide (48 ≤ b) && decide (b ≤ 57)
def isNmB (b : Int) : Bool := isLet b || isDig b || b == 95
theorem i_isLetter_ok (b : Int) : i_isLetter b = some (isLet b) := by
 rw [i_isLetter_eq]; unfold isLet; grind
theorem s_l02Letter_ok (b : Int) : s_l02Letter b = some (isLet b) := by
 rw [s_l02Letter_eq]; unfold isLet; grind
theorem i_isDigit_ok (b : Int) : i_isDigit b = some (isDig b) := by
 rw [i_isDigit_eq]; unfold isDig; grind
theorem s_l02Digit_ok (b : Int) : s_l02Digit b = some (isDig b) := by
 rw [s_l02Digit_eq]; unfold isDig; grind
theorem i_isNameByte_ok (b : Int) : i_isNameByte b = some (isNmB b) := by
 rw [i_isNameByte_eq, i_isLetter_ok, i_isDigit_ok]; unfold isNmB
 simp only [Option.bind_some]; grind
def isName (s : List UInt8) : Bool := match s with
 | [] => false
 | b :: _ => decide (s.length ≤ 12) && isLet (ib b) && s.all fun c => isNmB (ib c)
theorem i_areAllNm_ok {s : List UInt8} (h : s.length ≤ 9223372036854775807) : i_areAll_byte__i_isNameByte (s.map ib) = some (s.all fun c => isNmB (ib c)) := by
 rw [i_areAll_byte__i_isNameByte_eq]
 have := all_loop (xs := s.map ib) (by simpa using h) (F := i_isNameByte) (p := isNmB) (J := i_areAll_byte_L2__i_isNameByte (s.map ib) (len (s.map ib))) (fun i => by rw [i_areAll_byte_L2__i_isNameByte_eq]) (fun y _ => i_isNameByte_ok y)
 rw [this, List.all_map]
 rfl
theorem i_IsName_ok {s : List UInt8} : i_IsName s = some (isName s) := by
 rw [i_IsName_eq]
 cases s with
 | nil => simp [isName, len_eq]
 | cons b r =>
  by_cases h : (b :: r).length ≤ 12
  ·have h1 : decide (len (b :: r) ≥ 1) = true := by simp only [len_eq, List.length_cons, decide_eq_true_eq]; omega
   have h2 : decide (len (b :: r) ≤ 12) = true := by simp only [len_eq, decide_eq_true_eq]; omega
   rw [if_pos h1, if_pos h2, idx_zero]
   simp only [List.getElem?_cons_zero, Option.bind_some, i_isLetter_ok]
   have := i_areAllNm_ok (s := b :: r) (by omega)
   simp only [List.map_cons] at this ⊢
   rw [this]
   simp only [isName, h, decide_true, Bool.true_and, Option.bind_some]
   cases isLet (ib b) <;> simp
  ·have h2 : ¬ decide (len (b :: r) ≤ 12) = true := by simp only [len_eq, decide_eq_true_eq]; omega
   rw [if_neg h2]
   simp only [isName, h, decide_false, Bool.false_and]
   split <;> rfl
def nmRun : List UInt8 → Nat
 | [] => 0
 | b :: r => if isNmB (ib b) then nmRun r + 1 else 0
theorem nmRun_all : ∀ s, nmRun s = s.length ↔ (s.all fun c => isNmB (ib c)) = true
 | [] => by simp [nmRun]
 | b :: r => by
  have := nmRun_all r
  simp only [nmRun, List.length_cons, List.all_cons, Bool.and_eq_true]
  cases isNmB (ib b)
  ·simp
  ·simp [this]
theorem s_l02NameEnd_L3_ok {s : List UInt8} (h : s.length ≤ 9223372036854775807) : ∀ (n i : Nat), i + n = s.length → s_l02NameEnd_L3 s i = some ((i + nmRun (s.drop i) : Nat) : Int) := by
 intro n
 induction n with
 | zero =>
  intro i hi
  have : i = s.length := by omega
  subst this
  rw [s_l02NameEnd_L3_eq, s_l02NameEnd_L5_eq, List.drop_length]
  simp [len_eq, nmRun]
 | succ n ih =>
  intro i hi
  have hlt : i < s.length := by omega
  have hc : decide ((i : Int) < len s) = true := by simp [len_eq, hlt]
  rw [s_l02NameEnd_L3_eq, if_pos hc, idx_nat, List.getElem?_eq_getElem hlt, List.drop_eq_getElem_cons hlt]
  simp only [Option.bind_some, s_l02Letter_ok, s_l02Digit_ok, s_l02NameEnd_L4_eq, s_l02NameEnd_L5_eq, nmRun]
  have hw : w64 ((i : Int) + 1) = ((i + 1 : Nat) : Int) := by rw [w64_of (by omega) (by omega)]; omega
  rw [hw, ih (i + 1) (by omega)]
  unfold isNmB
  cases isLet (ib s[i]) <;> cases isDig (ib s[i]) <;> cases hb : (ib s[i] == 95) <;> simp <;> omega
theorem s_l02NameEnd_ok {s : List UInt8} (h : s.length ≤ 9223372036854775807) {i : Nat} (hi : i ≤ s.length) :
  s_l02NameEnd s i = some (match s.drop i with
   | [] => (i : Int)
   | b :: r => if isLet (ib b) then ((i + nmRun (b :: r) : Nat) : Int) else i) := by
 rw [s_l02NameEnd_eq]
 by_cases hlt : i < s.length
 ·have hc : ¬ decide ((i : Int) ≥ len s) = true := by simp only [len_eq, decide_eq_true_eq]; omega
  rw [if_neg hc, idx_nat, List.getElem?_eq_getElem hlt, List.drop_eq_getElem_cons hlt]
  simp only [Option.bind_some, s_l02Letter_ok]
  rw [s_l02NameEnd_L3_ok h (s.length - i) i (by omega), List.drop_eq_getElem_cons hlt]
  cases isLet (ib s[i]) <;> simp
 ·have : i = s.length := by omega
  subst this
  rw [List.drop_length]
  simp [len_eq]
theorem s_IsName_ok {s : List UInt8} : s_IsName s = some (isName s) := by
 rw [s_IsName_eq]
 cases s with
 | nil => simp [isName]
 | cons b r =>
  have h0 : (!(b :: r) == []) = true := rfl
  rw [if_pos h0]
  by_cases h : (b :: r).length ≤ 12
  ·have h2 : decide (len (b :: r) ≤ 12) = true := by simp only [len_eq, decide_eq_true_eq]; omega
   have := s_l02NameEnd_ok (s := b :: r) (by omega) (Nat.zero_le _)
   simp only [Int.natCast_zero, List.drop_zero, Nat.zero_add] at this
   rw [if_pos h2, this]
   simp only [isName, h, decide_true, Bool.true_and, Option.bind_some, len_eq]
   congr 1
   rw [Bool.eq_iff_iff, Bool.and_eq_true, ← nmRun_all]
   cases hL : isLet (ib b)
   ·simp; omega
   ·simp; omega
  ·have h2 : ¬ decide (len (b :: r) ≤ 12) = true := by simp only [len_eq, decide_eq_true_eq]; omega
   rw [if_neg h2]
   simp only [isName, h, decide_false, Bool.false_and]
end Go.Dv.U

namespace Go.Dv.U
open Go Go.Dv Go.Proofs
def hasB (c : Int) (s : List UInt8) : Bool := s.any fun b => ib b == c
end Go.Dv.U

namespace Go.Dv.U
open Go Go.Dv Go.Proofs
def vVal (v : TValue) : Bool :=
 if v.fKind = 1 then v.fNum == 0 && v.fRef == 0 && decide (v.fText.length ≤ 200)
 else if v.fKind = 2 then v.fText == [] && v.fRef == 0 && decide (-1000000000000 ≤ v.fNum) && decide (v.fNum ≤ 1000000000000)
 else if v.fKind = 3 then v.fNum == 0 && v.fRef == 0 && decide (1 ≤ v.fText.length) && decide (v.fText.length ≤ 1200)
 else if v.fKind = 4 ∨ v.fKind = 5 ∨ v.fKind = 6 then v.fNum == 0 && v.fText == [] && decide (1 ≤ v.fRef) && decide (v.fRef ≤ 1000000)
 else if v.fKind = 7 ∨ v.fKind = 8 then v.fNum == 0 && v.fRef == 0 && isName v.fText
 else false
theorem s_l06Plain_ok (v : TValue) (a b c : Bool) : s_l06Plain v a b c = some ((a || v.fNum == 0) && (b || v.fText == []) && (c || v.fRef == 0)) := by
 rw [s_l06Plain_eq]
 cases a <;> cases b <;> cases c <;> simp only [Bool.false_eq_true, if_false, if_true, Bool.true_or, Bool.false_or, Bool.true_and, Bool.and_true] <;> grind
theorem s_ValidValue_ok (v : TValue) : s_ValidValue v = some (vVal v) := by
 rw [s_ValidValue_eq]
 simp only [s_ValidValue_L11_eq, s_ValidValue_L12_eq, s_l06Plain_ok, s_l00In_ok, s_IsName_ok, Option.bind_some, ite_some, len_eq]
 congr 1
 unfold vVal
 have e : ∀ n : Nat, decide ((1 : Int) ≤ (n : Int)) = decide (1 ≤ n) := fun n => by rw [Bool.eq_iff_iff]; simp only [decide_eq_true_eq]; omega
 have e2 : ∀ n : Nat, decide ((n : Int) ≤ (1200 : Int)) = decide (n ≤ 1200) := fun n => by rw [Bool.eq_iff_iff]; simp only [decide_eq_true_eq]; omega
 have e3 : ∀ n : Nat, decide ((n : Int) ≤ (200 : Int)) = decide (n ≤ 200) := fun n => by rw [Bool.eq_iff_iff]; simp only [decide_eq_true_eq]; omega
 simp only [e, e2, e3]
 grind
theorem i_isObjectId_ok (n : Int) : i_isObjectId n = some (decide (1 ≤ n) && decide (n ≤ 1000000)) := by
 rw [i_isObjectId_eq, i_within_ok]; rfl
theorem i_ValidValue_ok (v : TValue) : i_ValidValue v = some (vVal v) := by
 rw [i_ValidValue_eq]
 simp only [i_ValidValue_L11_eq, i_ValidValue_L12_eq, i_isObjectId_ok, i_within_ok, i_IsName_ok, Option.bind_some, ite_some, len_eq]
 congr 1
 unfold vVal
 have e : ∀ n : Nat, decide ((n : Int) ≥ (1 : Int)) = decide (1 ≤ n) := fun n => by rw [Bool.eq_iff_iff]; simp only [decide_eq_true_eq]; omega
 have e2 : ∀ n : Nat, decide ((n : Int) ≤ (1200 : Int)) = decide (n ≤ 1200) := fun n => by rw [Bool.eq_iff_iff]; simp only [decide_eq_true_eq]; omega
 have e3 : ∀ n : Nat, decide ((n : Int) ≤ (200 : Int)) = decide (n ≤ 200) := fun n => by rw [Bool.eq_iff_iff]; simp only [decide_eq_true_eq]; omega
 simp only [e, e2, e3]
 grind
def vNull (v : TValue) : Bool := v.fKind == 1 && v.fNum == 0 && v.fText == [] && v.fRef == 0
theorem s_IsNull_ok (v : TValue) : s_IsNull v = some (vNull v) := by
 rw [s_IsNull_eq]; unfold vNull; simp only [Bool.and_true, Bool.and_assoc]
theorem i_null_ok : i_null = some (TValue.mk 1 0 [] 0) := by
 rw [i_null_eq, i_textOf_eq]; rfl
theorem i_IsNull_ok (v : TValue) : i_IsNull v = some (vNull v) := by
 rw [i_IsNull_eq, i_null_ok]; unfold vNull; simp only [Option.bind_some, Bool.and_true, Bool.and_assoc]
end Go.Dv.U

namespace Go.Dv.U
open Go Go.Dv Go.Proofs
def vSame (a b : TValue) : Bool := a.fKind == b.fKind && (a.fNum == b.fNum && (a.fText == b.fText && (a.fRef == b.fRef && true)))
def vDist (l : List TValue) : Bool := gate (fun y i => !(l.take i).any (vSame y)) l 0
theorem ixF_cases {α : Type} (p : α → Bool) : ∀ (l : List α) (i : Nat), (∃ (k : Nat) (o : α), ixF p l i = ((i + k : Nat) : Int) ∧ l[k]? = some o ∧ l.find? p = some o ∧ l.any p = true) ∨ (ixF p l i = -1 ∧ l.find? p = none ∧ l.any p = false)
 | [], i => Or.inr ⟨rfl, rfl, rfl⟩
 | y :: r, i => by
  by_cases h : p y = true
  ·exact Or.inl ⟨0, y, by simp [ixF, h], by simp, by simp [h], by simp [h]⟩
  ·rcases ixF_cases p r (i + 1) with ⟨k, o, e1, e2, e3, e4⟩ | ⟨e1, e2, e3⟩
   ·refine Or.inl ⟨k + 1, o, ?_, by simpa using e2, by simp [h, e3], by simp [e4]⟩
    rw [ixF, if_neg h, e1]; congr 1; omega
   ·exact Or.inr ⟨by rw [ixF, if_neg h, e1], by simp [h, e2], by simp [h, e3]⟩
theorem s_SameValue_ok (a b : TValue) : s_SameValue a b = some (vSame a b) := by rw [s_SameValue_eq]; rfl
theorem s_l07Distinct_L5_ok (l : List TValue) (i : Nat) (hi : i < l.length) (hl : l.length ≤ 1048576) : ∀ (n j : Nat), j + n = i → s_l07Distinct_L5 l (i : Int) (j : Int) = if ((l.take i).drop j).any (vSame l[i]) = true then some false else s_l07Distinct_L2 l ((i + 1 : Nat) : Int)
 | 0, j, h => by
  obtain rfl : j = i := by omega
  rw [s_l07Distinct_L5_eq, if_neg (by simp)]
  have w : w64 ((j : Int) + 1) = ((j + 1 : Nat) : Int) := by rw [w64_of (by omega) (by omega)]; omega
  rw [w, List.drop_eq_nil_of_le (by simp; omega)]
  simp
 | n + 1, j, h => by
  have w : w64 ((j : Int) + 1) = ((j + 1 : Nat) : Int) := by rw [w64_of (by omega) (by omega)]; omega
  rw [s_l07Distinct_L5_eq, if_pos (by simp only [decide_eq_true_eq]; omega), idx_nat, idx_nat, List.getElem?_eq_getElem hi, List.getElem?_eq_getElem (show j < l.length by omega), w, s_l07Distinct_L5_ok l i hi hl n (j + 1) (by omega)]
  have e : (l.take i).drop j = l[j] :: (l.take i).drop (j + 1) := by
   rw [List.drop_eq_getElem_cons (show j < (l.take i).length by simp; omega)]; simp
  rw [e]
  simp only [Option.bind_some, s_SameValue_ok, List.any_cons]
  by_cases hvs : vSame l[i] l[j] = true <;> simp [hvs]
theorem s_l07Distinct_ok {l : List TValue} (hl : l.length ≤ 1048576) : s_l07Distinct l = some (vDist l) := by
 rw [s_l07Distinct_eq]
 have key := gate_loop (xs := l) (by omega) (c := fun y i => !(l.take i).any (vSame y)) (J := fun i => s_l07Distinct_L2 l i) (by
  intro i y hlt hy hi hw
  show s_l07Distinct_L2 _ _ = _
  have hy2 : l[i] = y := by rw [idx_nat, List.getElem?_eq_getElem hlt] at hi; simpa using hi
  have := s_l07Distinct_L5_ok l i hlt hl i 0 (by omega)
  rw [s_l07Distinct_L2_eq, if_pos (by simp [len_eq, hlt])]
  rw [Int.natCast_zero] at this
  rw [this, hy2, List.drop_zero]
  cases (l.take i).any (vSame y) <;> simp)
 rw [show s_l07Distinct_L2 l 0 = _ from key, vDist]
 split
 ·rename_i h; rw [s_l07Distinct_L2_eq, if_neg (by simp [len_eq]), h]
 ·rename_i h; rw [Bool.not_eq_true] at h; rw [h]
theorem containsV_ok {l : List TValue} (hl : l.length ≤ 1048576) (y : TValue) : slices_Contains___i_Value_i_Value_ l y = some (l.any (vSame y)) := by
 rw [slices_Contains___i_Value_i_Value__eq, slices_Index___i_Value_i_Value__eq]
 have key := ix_loop (xs := l) (by omega) (p := vSame y) (J := fun i => slices_Index___i_Value_i_Value__L2 l (len l) i y.fKind y.fNum y.fText y.fRef) (by
  intro i z hlt hz hi hw
  show slices_Index___i_Value_i_Value__L2 _ _ _ _ _ _ _ = _
  rw [slices_Index___i_Value_i_Value__L2_eq, if_pos (by simp [len_eq, hlt]), hi, hw]
  rfl) (by show slices_Index___i_Value_i_Value__L2 _ _ _ _ _ _ _ = _; rw [slices_Index___i_Value_i_Value__L2_eq, if_neg (by simp [len_eq])])
 rw [show slices_Index___i_Value_i_Value__L2 l (len l) 0 y.fKind y.fNum y.fText y.fRef = _ from key]
 simp only [Option.bind_some]
 rcases ixF_cases (vSame y) l 0 with ⟨k, o, e1, e2, e3, e4⟩ | ⟨e1, e2, e3⟩
 ·rw [e1, e4]; congr 1
 ·rw [e1, e3]; rfl
theorem i_areDifferent_ok {l : List TValue} (hl : l.length ≤ 1048576) : i_areDifferent l = some (vDist l) := by
 rw [i_areDifferent_eq]
 have key := gate_loop (xs := l) (by omega) (c := fun y i => !(l.take i).any (vSame y)) (J := fun i => i_areDifferent_L2 l l (len l) i) (by
  intro i y hlt hy hi hw
  show i_areDifferent_L2 _ _ _ _ = _
  have hc := cut_of (xs := l) (a := 0) (b := i) (by omega) (by omega)
  rw [Int.natCast_zero, List.drop_zero] at hc
  rw [i_areDifferent_L2_eq, if_pos (by simp [len_eq, hlt]), hi, hw]
  simp only [Option.bind_some, Option.getD_some, hc]
  rw [containsV_ok (by simp; omega)]
  simp only [Option.bind_some]
  cases (l.take i).any (vSame y) <;> simp)
 rw [show i_areDifferent_L2 l l (len l) 0 = _ from key, vDist]
 split
 ·rename_i h; rw [i_areDifferent_L2_eq, if_neg (by simp [len_eq]), h]
 ·rename_i h; rw [Bool.not_eq_true] at h; rw [h]
theorem s_validValues_ok {l : List TValue} (hl : l.length ≤ 1048576) (n : Nat) : s_l07ValidValues l (n : Int) = some (decide (l.length ≤ n) && l.all vVal) := by
 rw [s_l07ValidValues_eq]
 have key := all_loop (xs := l) (by omega) (F := s_ValidValue) (p := vVal) (J := fun i => s_l07ValidValues_L4 l i) (fun i => by show s_l07ValidValues_L4 _ _ = _; rw [s_l07ValidValues_L4_eq]) (fun y _ => s_ValidValue_ok y)
 rw [show s_l07ValidValues_L4 l 0 = _ from key]
 by_cases h : l.length ≤ n
 ·rw [if_neg (by simp only [len_eq, decide_eq_true_eq]; omega)]; simp [h]
 ·rw [if_pos (by simp only [len_eq, decide_eq_true_eq]; omega)]; simp [h]
theorem i_validValues_ok {l : List TValue} (hl : l.length ≤ 1048576) : i_areAll_impl_Value__i_ValidValue l = some (l.all vVal) := by
 rw [i_areAll_impl_Value__i_ValidValue_eq]
 exact all_loop (xs := l) (by omega) (F := i_ValidValue) (p := vVal) (J := fun i => i_areAll_impl_Value_L2__i_ValidValue l (len l) i) (fun i => by show i_areAll_impl_Value_L2__i_ValidValue _ _ _ = _; rw [i_areAll_impl_Value_L2__i_ValidValue_eq]) (fun y _ => i_ValidValue_ok y)
def fieldB (v : TValue) : Bool := v.fKind == 1 && vVal v && isName v.fText
theorem isName_len07 {s : List UInt8} (h : isName s = true) : s.length ≤ 12 := by
 cases s with
 | nil => simp
 | cons b r =>
  simp only [isName, Bool.and_eq_true_iff, decide_eq_true_eq] at h
  exact h.1.1
theorem i_isField_ok (v : TValue) : i_isField v = some (fieldB v) := by
 rw [i_isField_eq]
 simp only [i_textOf_eq, Option.bind_some, i_IsName_ok]
 unfold fieldB vVal
 have hn := @isName_len07 v.fText
 by_cases h : v.fKind = 1
 ·by_cases hb : isName v.fText = true
  ·have h12 := hn hb
   have h200 : v.fText.length ≤ 200 := by omega
   by_cases h1 : v.fNum = 0 <;> by_cases h2 : v.fRef = 0 <;> simp [h, hb, h1, h2, h200]
  ·simp [h, hb]
 ·simp [h]
def fieldsB (l : List TValue) : Bool := decide (1 ≤ l.length) && decide (l.length ≤ 6) && l.all fieldB && vDist l
theorem all_and {α : Type} (p q : α → Bool) (l : List α) : l.all (fun y => p y && q y) = (l.all p && l.all q) := by
 induction l with
 | nil => rfl
 | cons y r ih => simp only [List.all_cons, ih]; cases p y <;> cases q y <;> cases r.all p <;> simp
theorem s_fields_ok {l : List TValue} (hl : l.length ≤ 1048576) : s_l07FieldNames l = some (fieldsB l) := by
 rw [s_l07FieldNames_eq]
 have key := gate_loop (xs := l) (by omega) (c := fun y _ => y.fKind == 1 && isName y.fText) (J := fun i => s_l07FieldNames_L2 l i) (by
  intro i y hlt hy hi hw
  show s_l07FieldNames_L2 _ _ = _
  rw [s_l07FieldNames_L2_eq, if_pos (by simp [len_eq, hlt]), hi, hw]
  simp only [Option.bind_some, s_IsName_ok, bne]
  cases (y.fKind == 1) <;> cases isName y.fText <;> simp)
 have hg : ∀ (q : List TValue) (i : Nat), gate (fun y _ => y.fKind == 1 && isName y.fText) q i = q.all fun y => y.fKind == 1 && isName y.fText := by
  intro q; induction q with
  | nil => intro i; rfl
  | cons y r ih => intro i; simp only [gate, ih, List.all_cons]
 rw [show s_l07FieldNames_L2 l 0 = _ from key, hg]
 have e6 := s_validValues_ok hl 6
 have hall : l.all fieldB = ((l.all fun y => y.fKind == 1 && isName y.fText) && l.all vVal) := by
  rw [← all_and]; congr 1; funext y; unfold fieldB; cases (y.fKind == 1) <;> cases vVal y <;> simp
 unfold fieldsB
 rw [hall]
 cases ha : (l.all fun y => y.fKind == 1 && isName y.fText)
 ·simp
 ·rw [if_pos rfl, s_l07FieldNames_L2_eq, if_neg (by simp [len_eq])]
  rw [show ((6 : Nat) : Int) = (6 : Int) from rfl] at e6
  rw [e6, s_l07Distinct_ok hl]
  simp only [Option.bind_some, len_eq, ge_iff_le]
  have e : decide ((1 : Int) ≤ (l.length : Int)) = decide (1 ≤ l.length) := by rw [Bool.eq_iff_iff]; simp only [decide_eq_true_eq]; omega
  rw [e]
  cases decide (1 ≤ l.length) <;> cases decide (l.length ≤ 6) <;> cases l.all vVal <;> simp
theorem i_areFieldsV_ok {l : List TValue} (hl : l.length ≤ 1048576) : i_areAll_impl_Value__i_isField l = some (l.all fieldB) := by
 rw [i_areAll_impl_Value__i_isField_eq]
 exact all_loop (xs := l) (by omega) (F := i_isField) (p := fieldB) (J := fun i => i_areAll_impl_Value_L2__i_isField l (len l) i) (fun i => by show i_areAll_impl_Value_L2__i_isField _ _ _ = _; rw [i_areAll_impl_Value_L2__i_isField_eq]) (fun y _ => i_isField_ok y)
def vZ (v : TValue) : Bool := v.fKind == 0 && (v.fNum == 0 && (v.fText == [] && (v.fRef == 0 && true)))
def obOk (o : TObject) : Bool := (decide (1 ≤ o.fId) && decide (o.fId ≤ 1000000)) && (decide (o.fVals.length ≤ 30) && o.fVals.all vVal) &&
  (if o.fKind = 1 then o.fName == [] && (decide (-1000 ≤ o.fLow) && decide (o.fLow ≤ 1000)) && decide (o.fKeys.length = 0) && vZ o.fDefault
   else if o.fKind = 2 then o.fName == [] && o.fLow == 0 && decide (o.fKeys.length = o.fVals.length) && o.fKeys.all vVal && vDist o.fKeys && vVal o.fDefault
   else if o.fKind = 3 then isName o.fName && o.fLow == 0 && decide (o.fKeys.length = o.fVals.length) && fieldsB o.fKeys && vZ o.fDefault
   else false)
theorem dec_len {a b : Nat} : ((a : Int) == (b : Int)) = decide (a = b) := by
 rw [Bool.eq_iff_iff]; simp only [beq_iff_eq, decide_eq_true_eq]; omega
theorem dec_len0 {a : Nat} : ((a : Int) == (0 : Int)) = decide (a = 0) := by
 rw [Bool.eq_iff_iff]; simp only [beq_iff_eq, decide_eq_true_eq]; omega
theorem s_l07Object_ok {o : TObject} (h1 : o.fKeys.length ≤ 1048576) (h2 : o.fVals.length ≤ 1048576) : s_l07Object o = some (obOk o) := by
 have e30 : ∀ {l : List TValue} (hl : l.length ≤ 1048576), s_l07ValidValues l 30 = some (decide (l.length ≤ 30) && l.all vVal) := fun hl => s_validValues_ok hl 30
 rw [s_l07Object_eq]
 simp only [s_l00In_ok, Option.bind_some, e30 h1, e30 h2, s_IsName_ok, s_fields_ok h1, s_l07Distinct_ok h1, s_ValidValue_ok, len_eq, dec_len, dec_len0]
 unfold obOk vZ
 cases (decide (1 ≤ o.fId) && decide (o.fId ≤ 1000000))
 ·simp
 cases hv : (decide (o.fVals.length ≤ 30) && o.fVals.all vVal)
 ·simp
 simp only [Bool.and_eq_true, decide_eq_true_eq] at hv
 simp only [Bool.not_true, Bool.false_eq_true, if_false, Bool.true_and, beq_iff_eq]
 by_cases k1 : o.fKind = 1
 ·rw [if_pos k1, if_pos k1]
  by_cases a : o.fName = [] <;> cases (decide (-1000 ≤ o.fLow) && decide (o.fLow ≤ 1000)) <;> by_cases b : o.fKeys.length = 0 <;> simp [a, b]
 ·rw [if_neg k1, if_neg k1]
  by_cases k2 : o.fKind = 2
  ·rw [if_pos k2, if_pos k2]
   by_cases a : o.fName = []
   ·by_cases b : o.fLow = 0
    ·by_cases c : o.fKeys.length = o.fVals.length
     ·have : o.fKeys.length ≤ 30 := by omega
      cases hk : o.fKeys.all vVal <;> cases vDist o.fKeys <;> simp_all
     ·simp [a, b, c]
    ·simp [a, b]
   ·simp [a]
  ·rw [if_neg k2, if_neg k2]
   by_cases k3 : o.fKind = 3
   ·rw [if_pos k3, if_pos k3]
    cases isName o.fName <;> by_cases b : o.fLow = 0 <;> by_cases c : o.fKeys.length = o.fVals.length <;> cases fieldsB o.fKeys <;> simp [b, c]
   ·rw [if_neg k3, if_neg k3]
theorem i_ValidObject_ok {o : TObject} (h1 : o.fKeys.length ≤ 1048576) (h2 : o.fVals.length ≤ 1048576) : i_ValidObject o = some (obOk o) := by
 rw [i_ValidObject_eq, i_ValidObject_L3_eq]
 simp only [i_ValidObject_L2_eq, i_ValidObject_L8_eq, i_ValidObject_L12_eq, i_isObjectId_ok, i_within_ok, Option.bind_some, i_validValues_ok h1, i_validValues_ok h2, i_IsName_ok, i_areFieldsV_ok h1, i_areDifferent_ok h1, i_ValidValue_ok, len_eq, dec_len, dec_len0]
 unfold obOk vZ fieldsB
 generalize (o.fDefault.fKind == 0 && (o.fDefault.fNum == 0 && (o.fDefault.fText == [] && (o.fDefault.fRef == 0 && true)))) = z
 cases (decide (1 ≤ o.fId) && decide (o.fId ≤ 1000000))
 ·simp
 by_cases hv : o.fVals.length ≤ 30
 rotate_left
 ·simp [hv]; omega
 have hv2 : decide ((o.fVals.length : Int) > 30) = false := by simp only [decide_eq_false_iff_not]; omega
 cases hw : o.fVals.all vVal
 ·simp [hv, hv2]
 simp only [hv, hv2, Bool.not_true, Bool.false_eq_true, if_false, Bool.true_and, beq_iff_eq, decide_true]
 by_cases k1 : o.fKind = 1
 ·rw [if_pos k1, if_pos k1]
  by_cases a : o.fName = [] <;> cases (decide (-1000 ≤ o.fLow) && decide (o.fLow ≤ 1000)) <;> by_cases b : o.fKeys.length = 0 <;> cases z <;> simp [a, b]
 ·rw [if_neg k1, if_neg k1]
  by_cases k2 : o.fKind = 2
  ·rw [if_pos k2, if_pos k2]
   by_cases a : o.fName = [] <;> by_cases b : o.fLow = 0 <;> by_cases c : o.fKeys.length = o.fVals.length <;> cases o.fKeys.all vVal <;> cases vDist o.fKeys <;> cases vVal o.fDefault <;> simp [a, b, c]
  ·rw [if_neg k2, if_neg k2]
   by_cases k3 : o.fKind = 3
   ·rw [if_pos k3, if_pos k3]
    have e1 : decide ((o.fKeys.length : Int) ≥ 1) = decide (1 ≤ o.fKeys.length) := by rw [Bool.eq_iff_iff]; simp only [decide_eq_true_eq]; omega
    have e6 : decide ((o.fKeys.length : Int) ≤ 6) = decide (o.fKeys.length ≤ 6) := by rw [Bool.eq_iff_iff]; simp only [decide_eq_true_eq]; omega
    rw [e1, e6]
    cases isName o.fName <;> by_cases b : o.fLow = 0 <;> by_cases c : o.fKeys.length = o.fVals.length <;> cases decide (1 ≤ o.fKeys.length) <;> cases decide (o.fKeys.length ≤ 6) <;> cases o.fKeys.all fieldB <;> cases vDist o.fKeys <;> cases z <;> simp [b, c]
   ·rw [if_neg k3, if_neg k3]
def vFits (O : List TObject) (v : TValue) : Bool := vVal v && (if 4 ≤ v.fKind ∧ v.fKind ≤ 6 then (match O.find? fun o => o.fId == v.fRef with | some o => o.fKind == v.fKind - 3 | none => false) else true)
theorem kind_sub {k : Int} (h1 : 4 ≤ k) (h2 : k ≤ 6) : w64 (w64 (k - 4) + 1) = k - 3 := by
 rw [show w64 (k - 4) = k - 4 from w64_of (by omega) (by omega), w64_of (by omega) (by omega)]; omega
theorem s_find_ok {O : List TObject} (hO : O.length ≤ 1048576) (n r : Int) : s_l07Find n O r = some (ixF (fun o => o.fId == r) O 0) := by
 rw [s_l07Find_eq]
 exact ix_loop (xs := O) (by omega) (p := fun o => o.fId == r) (J := fun i => s_l07Find_L2 n O r i) (by
  intro i z hlt hz hi hw
  show s_l07Find_L2 _ _ _ _ = _
  rw [s_l07Find_L2_eq, if_pos (by simp [len_eq, hlt]), hi, hw]
  rfl) (by show s_l07Find_L2 _ _ _ _ = _; rw [s_l07Find_L2_eq, if_neg (by simp [len_eq])])
theorem s_Fits_ok {O : List TObject} (hO : O.length ≤ 1048576) (n : Int) (v : TValue) : s_l07Fits n O v = some (vFits O v) := by
 rw [s_l07Fits_eq]
 simp only [s_ValidValue_ok, s_l07IsRef_eq, s_l00In_ok, Option.bind_some, s_find_ok hO, s_l07ObjectKind_eq]
 unfold vFits
 cases vVal v
 ·simp
 by_cases h : 4 ≤ v.fKind ∧ v.fKind ≤ 6
 ·rw [if_pos h, kind_sub h.1 h.2]
  rcases ixF_cases (fun o : TObject => o.fId == v.fRef) O 0 with ⟨k, o, e1, e2, e3, e4⟩ | ⟨e1, e2, e3⟩
  ·rw [e1, e3, Nat.zero_add, idx_nat, e2]; simp [h.1, h.2]
  ·rw [e1, e2]; simp [h.1, h.2]
 ·rw [if_neg h]
  have : (decide (4 ≤ v.fKind) && decide (v.fKind ≤ 6)) = false := by
   rw [Bool.eq_false_iff]; simpa using h
  rw [this]; simp
def incF : Int → List TObject → Bool
 | _, [] => true
 | p, o :: r => decide (p < o.fId) && incF o.fId r
theorem incF_lo : ∀ (l : List TObject) (p : Int), incF p l = true → ∀ (b : Nat) (hb : b < l.length), p < l[b].fId
 | o :: r, p, h, 0, hb => by simp only [incF, Bool.and_eq_true, decide_eq_true_eq] at h; exact h.1
 | o :: r, p, h, b + 1, hb => by
  simp only [incF, Bool.and_eq_true, decide_eq_true_eq] at h
  have := incF_lo r o.fId h.2 b (by simpa using hb)
  simp only [List.getElem_cons_succ]; omega
theorem incF_lt : ∀ (l : List TObject) (p : Int), incF p l = true → ∀ (a b : Nat) (hb : b < l.length) (hab : a < b), l[a].fId < l[b].fId
 | o :: r, p, h, 0, b + 1, hb, hab => by
  simp only [incF, Bool.and_eq_true, decide_eq_true_eq] at h
  exact incF_lo r o.fId h.2 b (by simpa using hb)
 | o :: r, p, h, a + 1, b + 1, hb, hab => by
  simp only [incF, Bool.and_eq_true, decide_eq_true_eq] at h
  exact incF_lt r o.fId h.2 a b (by simpa using hb) (by omega)
theorem cmpI_ok (a b : Int) : cmp_Compare_int64 a b = some (if a < b then -1 else if a > b then 1 else 0) := by
 rw [cmp_Compare_int64_eq]
 simp only [cmp_isNaN_int64_eq, Option.bind_some, bne_self_eq_false, Bool.false_eq_true, if_false, decide_eq_true_eq]
 split
 ·rfl
 ·split <;> rfl
theorem half07 {i j : Nat} (h : i + j < 4611686018427387904) : shr IntKind.u64 (IntKind.u64.wrap (w64 ((i : Int) + (j : Int)))) 1 = some (((i + j) / 2 : Nat) : Int) := by
 have e1 : w64 ((i : Int) + (j : Int)) = ((i + j : Nat) : Int) := by rw [w64_of (by omega) (by omega)]; omega
 rw [e1]
 have e2 : IntKind.u64.wrap ((i + j : Nat) : Int) = ((i + j : Nat) : Int) := by unfold IntKind.wrap; simp [IntKind.bits, IntKind.signed]; omega
 rw [e2]
 unfold shr
 rw [if_neg (by decide)]
 congr 1
 have : (2 : Int) ^ (min (1 : Int).toNat IntKind.u64.bits) = 2 := by decide
 rw [this, Int.fdiv_eq_ediv_of_nonneg _ (by decide)]
 omega
theorem search07 {xs : List TObject} (hx : xs.length ≤ 1048576) (r : Int) (hs : ∀ (a b : Nat) (hb : b < xs.length) (hab : a < b), xs[a].fId < xs[b].fId) :
  ∀ (d i j : Nat), j - i ≤ d → i ≤ j → j ≤ xs.length → (∀ k (h : k < xs.length), k < i → xs[k].fId < r) → (∀ k (h : k < xs.length), j ≤ k → ¬ xs[k].fId < r) →
  ∃ k : Nat, k ≤ xs.length ∧ (∀ q (h : q < xs.length), q < k → xs[q].fId < r) ∧ (∀ q (h : q < xs.length), k ≤ q → ¬ xs[q].fId < r) ∧
   slices_BinarySearchFunc___i_Object_i_Object_int64__L3__i_Heap_find_c1 xs r (len xs) i j = some ((k : Int), match xs[k]? with | some b => b.fId == r | none => false) := by
 intro d
 induction d with
 | zero =>
  intro i j h0 hij hj h1 h2
  obtain rfl : i = j := by omega
  refine ⟨i, hj, h1, h2, ?_⟩
  rw [slices_BinarySearchFunc___i_Object_i_Object_int64__L3__i_Heap_find_c1_eq, if_neg (by simp)]
  by_cases hlt : i < xs.length
  ·rw [if_pos (by simp [len_eq, hlt]), idx_nat, List.getElem?_eq_getElem hlt]
   simp only [Option.bind_some, i_Heap_find_c1_eq, cmpI_ok]
   have := h2 i hlt (Nat.le_refl _)
   by_cases e : xs[i].fId = r
   ·simp [e]
   ·rw [if_neg this, if_pos (by omega)]; simp [e]
  ·rw [if_neg (by simp only [len_eq, decide_eq_true_eq]; omega), List.getElem?_eq_none (by omega)]
 | succ d ih =>
  intro i j h0 hij hj h1 h2
  by_cases e : i = j
  ·exact ih i j (by omega) hij hj h1 h2
  ·have hlt : (i + j) / 2 < xs.length := by omega
   rw [slices_BinarySearchFunc___i_Object_i_Object_int64__L3__i_Heap_find_c1_eq, if_pos (by simp only [decide_eq_true_eq]; omega), half07 (by omega)]
   simp only [Option.bind_some]
   have e1 : w64 (((i + j) / 2 : Nat) : Int) = (((i + j) / 2 : Nat) : Int) := w64_of (by omega) (by omega)
   have e2 : w64 ((((i + j) / 2 : Nat) : Int) + 1) = (((i + j) / 2 + 1 : Nat) : Int) := by rw [w64_of (by omega) (by omega)]; omega
   rw [e1, e2, idx_nat, List.getElem?_eq_getElem hlt]
   simp only [Option.bind_some, i_Heap_find_c1_eq, cmpI_ok]
   by_cases hb : xs[(i + j) / 2].fId < r
   ·rw [if_pos hb, if_pos (by decide)]
    refine ih ((i + j) / 2 + 1) j (by omega) (by omega) hj (fun k hk hki => ?_) h2
    by_cases ek : k = (i + j) / 2
    ·subst ek; exact hb
    ·have := hs k ((i + j) / 2) hlt (by omega); omega
   ·rw [if_neg hb, if_neg (by split <;> decide)]
    refine ih i ((i + j) / 2) (by omega) (by omega) (by omega) h1 fun k hk hki => ?_
    by_cases ek : k = (i + j) / 2
    ·subst ek; exact hb
    ·have := hs ((i + j) / 2) k hk (by omega); omega
theorem find_at {xs : List TObject} (r : Int) : ∀ (xs : List TObject) (k : Nat) (hk : k < xs.length), xs[k].fId = r → (∀ q (h : q < xs.length), q < k → ¬ xs[q].fId = r) → xs.find? (fun o => o.fId == r) = some xs[k]
 | b :: l, 0, hk, h1, _ => by simp only [List.getElem_cons_zero] at h1 ⊢; simp [h1]
 | b :: l, k + 1, hk, h1, h2 => by
  have h0 := h2 0 (by simp) (by omega)
  simp only [List.getElem_cons_zero] at h0
  simp only [List.getElem_cons_succ] at h1 ⊢
  rw [List.find?_cons_of_neg (by simpa using h0)]
  exact find_at (xs := l) r l k (by simpa using hk) h1 fun q hq hqk => by have := h2 (q + 1) (by simpa using hq) (by omega); simpa using this
theorem i_Heap_find_ok {h : THeap} (hO : h.fObjects.length ≤ 1048576) (hs : incF 0 h.fObjects = true) (r : Int) :
  (∃ (k : Nat) (o : TObject), i_Heap_find h r = some (k : Int) ∧ h.fObjects[k]? = some o ∧ h.fObjects.find? (fun o => o.fId == r) = some o) ∨ (i_Heap_find h r = some (-1) ∧ h.fObjects.find? (fun o => o.fId == r) = none) := by
 obtain ⟨k, h1, h2, h3, h4⟩ := search07 hO r (incF_lt _ _ hs) h.fObjects.length 0 h.fObjects.length (by omega) (by omega) (by omega) (fun k _ h => by omega) (fun k h h' => by omega)
 rw [i_Heap_find_eq, slices_BinarySearchFunc___i_Object_i_Object_int64___i_Heap_find_c1_eq]
 rw [show ((h.fObjects.length : Nat) : Int) = len h.fObjects from (len_eq _).symm, show (((0 : Nat)) : Int) = 0 from rfl] at h4
 rw [h4]
 simp only [Option.bind_some]
 by_cases hlt : k < h.fObjects.length
 ·rw [List.getElem?_eq_getElem hlt]
  by_cases e : h.fObjects[k].fId = r
  ·refine Or.inl ⟨k, h.fObjects[k], by simp [e], List.getElem?_eq_getElem hlt, find_at (xs := []) r _ k hlt e fun q hq hqk he => by have := h2 q hq hqk; omega⟩
  ·refine Or.inr ⟨by simp [e], ?_⟩
   rw [List.find?_eq_none]
   intro o ho he
   obtain ⟨q, hq, rfl⟩ := List.getElem_of_mem ho
   simp only [beq_iff_eq] at he
   by_cases hqk : q < k
   ·have := h2 q hq hqk; omega
   ·by_cases eq : q = k
    ·subst eq; exact e he
    ·have h5 := incF_lt _ _ hs k q hq (by omega)
     have h6 := h3 k hlt (Nat.le_refl _)
     omega
 ·rw [List.getElem?_eq_none (by omega)]
  refine Or.inr ⟨by simp, ?_⟩
  rw [List.find?_eq_none]
  intro o ho he
  obtain ⟨q, hq, rfl⟩ := List.getElem_of_mem ho
  simp only [beq_iff_eq] at he
  have := h2 q hq (by omega); omega
theorem i_Heap_fits_ok {h : THeap} (hO : h.fObjects.length ≤ 1048576) (hs : incF 0 h.fObjects = true) (v : TValue) : i_Heap_fits h v = some (vFits h.fObjects v) := by
 rw [i_Heap_fits_eq]
 simp only [i_ValidValue_ok, i_refers_eq, i_within_ok, Option.bind_some, i_objectKind_eq]
 unfold vFits
 cases vVal v
 ·simp
 by_cases hk : 4 ≤ v.fKind ∧ v.fKind ≤ 6
 ·rw [if_pos hk, kind_sub hk.1 hk.2]
  rcases i_Heap_find_ok hO hs v.fRef with ⟨k, o, e1, e2, e3⟩ | ⟨e1, e2⟩
  ·rw [e1, e3]; simp only [Option.bind_some, idx_nat, e2]; simp [hk.1, hk.2]
  ·rw [e1, e2]; simp [hk.1, hk.2]
 ·rw [if_neg hk]
  have : (decide (4 ≤ v.fKind) && decide (v.fKind ≤ 6)) = false := by
   rw [Bool.eq_false_iff]; simpa using hk
  rw [this]; simp
theorem s_fitAll_ok {O : List TObject} (hO : O.length ≤ 1048576) (n : Int) {l : List TValue} (hl : l.length ≤ 1048576) : s_l07FitAll n O l = some (l.all (vFits O)) := by
 rw [s_l07FitAll_eq]
 exact all_loop (xs := l) (by omega) (F := s_l07Fits n O) (p := vFits O) (J := fun i => s_l07FitAll_L2 n O l i) (fun i => by show s_l07FitAll_L2 _ _ _ _ = _; rw [s_l07FitAll_L2_eq]) (fun y _ => s_Fits_ok hO n y)
theorem i_fitAll_ok {O : List TObject} (hO : O.length ≤ 1048576) (hs : incF 0 O = true) (n : Int) {l : List TValue} (hl : l.length ≤ 2097153) : i_areAll_impl_Value__1000082 l n O = some (l.all (vFits O)) := by
 rw [i_areAll_impl_Value__1000082_eq]
 exact all_loop (xs := l) (by omega) (F := fun v => i_Heap_fits (THeap.mk n O) v) (p := vFits O) (J := fun i => i_areAll_impl_Value_L2__1000082 n O l (len l) i) (fun i => by show i_areAll_impl_Value_L2__1000082 _ _ _ _ _ = _; rw [i_areAll_impl_Value_L2__1000082_eq]) (fun y _ => i_Heap_fits_ok (h := THeap.mk n O) hO hs y)
theorem concatV {a b : List TValue} (ha : a.length ≤ 1048576) (hb : b.length ≤ 1048576) : slices_Concat___i_Value_i_Value__v1 [a, b] = some ((a ++ b, ()), ()) := by
 have w1 : w64 (0 + 1) = 1 := w64_of (by decide) (by decide)
 have w2 : w64 (1 + 1) = 2 := w64_of (by decide) (by decide)
 have l2 : len [a, b] = 2 := by simp [len_eq]
 have i0 : idx [a, b] 0 = some a := by rw [idx_zero]; rfl
 have i1 : idx [a, b] 1 = some b := by rw [show (1 : Int) = ((1 : Nat) : Int) from rfl, idx_nat]; rfl
 have wa : w64 (0 + len a) = len a := by rw [Int.zero_add]; exact w64_of (by simp only [len_eq]; omega) (by simp only [len_eq]; omega)
 have wb : w64 (len a + len b) = len a + len b := w64_of (by simp only [len_eq]; omega) (by simp only [len_eq]; omega)
 have na : ¬ decide (len a < 0) = true := by simp only [len_eq, decide_eq_true_eq]; omega
 have nb : ¬ decide (len a + len b < 0) = true := by simp only [len_eq, decide_eq_true_eq]; omega
 have g : growN (len a + len b) = some () := by
  unfold growN big; rw [if_pos (by simp only [len_eq]; omega)]
 rw [slices_Concat___i_Value_i_Value__v1_eq, l2, slices_Concat___i_Value_i_Value__L3_v1_eq, if_pos (by decide), i0, w1]
 simp only [Option.bind_some, wa, if_neg na]
 rw [slices_Concat___i_Value_i_Value__L3_v1_eq, if_pos (by decide), i1, w2]
 simp only [Option.bind_some, wb, if_neg nb]
 rw [slices_Concat___i_Value_i_Value__L3_v1_eq, if_neg (by decide), g, l2]
 simp only [Option.bind_some]
 rw [slices_Concat___i_Value_i_Value__L11_v1_eq, if_pos (by decide), i0, w1, Option.bind_some, app_of (by simp; omega), Option.bind_some, List.nil_append,
  slices_Concat___i_Value_i_Value__L11_v1_eq, if_pos (by decide), i1, w2, Option.bind_some, app_of (by omega), Option.bind_some, slices_Concat___i_Value_i_Value__L11_v1_eq, if_neg (by decide)]
def obRefs (O : List TObject) (o : TObject) : Bool := (o.fKeys ++ o.fVals ++ (if o.fKind = 2 then [o.fDefault] else [])).all (vFits O)
theorem s_refs_ok {O : List TObject} (hO : O.length ≤ 1048576) (n : Int) {o : TObject} (h1 : o.fKeys.length ≤ 1048576) (h2 : o.fVals.length ≤ 1048576) :
  s_l07Refs n O o.fId o.fKind o.fName o.fLow o.fKeys o.fVals o.fDefault.fKind o.fDefault.fNum o.fDefault.fText o.fDefault.fRef = some (obRefs O o) := by
 rw [s_l07Refs_eq, s_fitAll_ok hO n h1, s_fitAll_ok hO n h2]
 have ed : TValue.mk o.fDefault.fKind o.fDefault.fNum o.fDefault.fText o.fDefault.fRef = o.fDefault := by cases o.fDefault; rfl
 simp only [Option.bind_some, ed, s_Fits_ok hO]
 unfold obRefs
 simp only [List.all_append]
 by_cases k : o.fKind = 2
 ·cases o.fKeys.all (vFits O) <;> cases o.fVals.all (vFits O) <;> simp [k]
 ·cases o.fKeys.all (vFits O) <;> cases o.fVals.all (vFits O) <;> simp [k]
theorem i_refs_ok {O : List TObject} (hO : O.length ≤ 1048576) (hs : incF 0 O = true) (n : Int) {o : TObject} (h1 : o.fKeys.length ≤ 1048576) (h2 : o.fVals.length ≤ 1048576) :
  i_ValidHeap_c1 o n O = some (obRefs O o) := by
 rw [i_ValidHeap_c1_eq, i_Object_values_v1_eq, concatV h1 h2]
 simp only [Option.bind_some]
 unfold obRefs
 by_cases k : o.fKind = 2
 ·rw [if_pos (by simpa using k), app_of (by simp; omega)]
  simp only [Option.bind_some]
  rw [i_fitAll_ok hO hs n (by simp; omega)]
  simp [k]
 ·rw [if_neg (by simpa using k)]
  simp only [Option.bind_some]
  rw [i_fitAll_ok hO hs n (by simp; omega)]
  simp [k]
def hpOk (n : Int) (O : List TObject) : Bool := (decide (0 ≤ n) && decide (n ≤ 1000000)) && decide (O.length ≤ 40) && O.all obOk && (O.all (fun o => decide (o.fId ≤ n)) && incF 0 O) && O.all (obRefs O)
theorem hpOk_inc {n : Int} {O : List TObject} (h : hpOk n O = true) : incF 0 O = true := by
 unfold hpOk at h; simp only [Bool.and_eq_true] at h; exact h.1.2.2
theorem s_l07Ok_ok {n : Int} {O : List TObject} (hO : O.length ≤ 1048576) (hm : ∀ o ∈ O, o.fKeys.length ≤ 1048576 ∧ o.fVals.length ≤ 1048576) : s_l07Ok n O = some (hpOk n O) := by
 rw [s_l07Ok_eq]
 simp only [s_l00In_ok, Option.bind_some]
 unfold hpOk
 cases (decide (0 ≤ n) && decide (n ≤ 1000000))
 ·simp
 by_cases hl : O.length ≤ 40
 rotate_left
 ·simp only [hl, len_eq]; simp; omega
 have hl2 : ¬ decide (len O > 40) = true := by simp only [len_eq, decide_eq_true_eq]; omega
 rw [if_neg (by simp), if_neg hl2]
 have fin : s_l07Ok_L10 n O 0 = some (O.all (obRefs O)) :=
  all_loop (xs := O) (by omega) (F := fun o => s_l07Refs n O o.fId o.fKind o.fName o.fLow o.fKeys o.fVals o.fDefault.fKind o.fDefault.fNum o.fDefault.fText o.fDefault.fRef) (p := obRefs O) (J := fun i => s_l07Ok_L10 n O i) (fun i => by show s_l07Ok_L10 _ _ _ = _; rw [s_l07Ok_L10_eq]) (fun y hy => s_refs_ok hO n (hm y hy).1 (hm y hy).2)
 have key := loop_ind (xs := O) (by omega) (P := fun i l => ∀ p : Int, (i = 0 → p = 0) → (0 < i → ∃ o, O[i - 1]? = some o ∧ o.fId = p) → s_l07Ok_L4 n O (i : Int) = if (l.all obOk && (l.all (fun o => decide (o.fId ≤ n)) && incF p l)) = true then some (O.all (obRefs O)) else some false) (by
  intro p _ _
  rw [s_l07Ok_L4_eq, if_neg (by simp [len_eq]), fin]; simp [incF]) (by
  intro i y l hd hlt hy hi hw ih p hp0 hp1
  have hnx := ih y.fId (by omega) (fun _ => ⟨y, by rw [Nat.add_sub_cancel, ← idx_nat, hi], rfl⟩)
  rw [s_l07Ok_L4_eq, if_pos (by simp [len_eq, hlt]), hi]
  simp only [Option.bind_some, s_l07Object_ok (hm y hy).1 (hm y hy).2, s_l07Ok_L8_eq, s_l07Ok_L5_eq, hw, hnx]
  rw [show ((y :: l).all obOk && ((y :: l).all (fun o => decide (o.fId ≤ n)) && incF p (y :: l))) = (obOk y && l.all obOk && ((decide (y.fId ≤ n) && l.all fun o => decide (o.fId ≤ n)) && (decide (p < y.fId) && incF y.fId l))) from rfl]
  by_cases hob : obOk y = true
  rotate_left
  ·simp [hob]
  have hid : 1 ≤ y.fId := by unfold obOk at hob; simp only [Bool.and_eq_true, decide_eq_true_eq] at hob; exact hob.1.1.1
  by_cases hn : y.fId ≤ n
  rotate_left
  ·rw [if_neg (by simp [hob]), if_pos (by simp; omega), if_neg (by simp [hn])]
  rw [if_neg (by simp [hob]), if_neg (by simp; omega)]
  by_cases h0 : i = 0
  ·rw [if_neg (by simp; omega)]
   have : p < y.fId := by rw [hp0 h0]; omega
   simp [hn, this, hob]
  ·rw [if_pos (by simp; omega)]
   obtain ⟨o, ho, hop⟩ := hp1 (by omega)
   have w1 : w64 ((i : Int) - 1) = ((i - 1 : Nat) : Int) := by rw [w64_of (by omega) (by omega)]; omega
   rw [w1, idx_nat, ho]
   simp only [Option.bind_some, hop]
   by_cases hlt2 : p < y.fId
   ·rw [if_neg (by simp; omega)]; simp [hn, hlt2, hob]
   ·rw [if_pos (by simp; omega), if_neg (by simp [hlt2])])
 have k0 := key 0 (fun _ => rfl) (by omega)
 rw [Int.natCast_zero] at k0
 rw [k0]
 cases O.all obOk <;> cases (O.all fun o => decide (o.fId ≤ n)) <;> cases incF 0 O <;> simp [hl]
theorem i_ValidHeap_ok {h : THeap} (hO : h.fObjects.length ≤ 1048576) (hm : ∀ o ∈ h.fObjects, o.fKeys.length ≤ 1048576 ∧ o.fVals.length ≤ 1048576) : i_ValidHeap h = some (hpOk h.fNext h.fObjects) := by
 rw [i_ValidHeap_eq]
 simp only [i_within_ok, i_ValidHeap_L2_eq, i_ValidHeap_L3_eq, Option.bind_some]
 unfold hpOk
 cases (decide (0 ≤ h.fNext) && decide (h.fNext ≤ 1000000))
 ·simp
 by_cases hl : h.fObjects.length ≤ 40
 rotate_left
 ·simp only [hl, len_eq]; simp; omega
 have hl2 : ¬ decide (len h.fObjects > 40) = true := by simp only [len_eq, decide_eq_true_eq]; omega
 rw [if_neg (by simp), if_neg hl2]
 have ea : i_areAll_impl_Object__i_ValidObject h.fObjects = some (h.fObjects.all obOk) := by
  rw [i_areAll_impl_Object__i_ValidObject_eq]
  exact all_loop (xs := h.fObjects) (by omega) (F := i_ValidObject) (p := obOk) (J := fun i => i_areAll_impl_Object_L2__i_ValidObject h.fObjects (len h.fObjects) i) (fun i => by show i_areAll_impl_Object_L2__i_ValidObject _ _ _ = _; rw [i_areAll_impl_Object_L2__i_ValidObject_eq]) (fun y hy => i_ValidObject_ok (hm y hy).1 (hm y hy).2)
 rw [ea]
 simp only [Option.bind_some]
 cases h.fObjects.all obOk
 ·simp
 have key := loop_ind (xs := h.fObjects) (by omega) (P := fun i l => ∀ p : Int, i_ValidHeap_L5 p h.fObjects (len h.fObjects) (i : Int) h.fNext h.fObjects = if (l.all (fun o => decide (o.fId ≤ h.fNext)) && incF p l) = true then i_areAll_impl_Object__i_ValidHeap_c1 h.fObjects h.fNext h.fObjects else some false) (by
  intro p
  rw [i_ValidHeap_L5_eq, if_neg (by simp [len_eq])]; simp [incF]) (by
  intro i y l hd hlt hy hi hw ih p
  rw [i_ValidHeap_L5_eq, if_pos (by simp [len_eq, hlt]), hi]
  simp only [Option.bind_some, hw, ih]
  rw [show (((y :: l).all fun o => decide (o.fId ≤ h.fNext)) && incF p (y :: l)) = ((decide (y.fId ≤ h.fNext) && l.all fun o => decide (o.fId ≤ h.fNext)) && (decide (p < y.fId) && incF y.fId l)) from rfl]
  by_cases h1 : p < y.fId
  ·rw [if_neg (by simp; omega)]
   by_cases h2 : y.fId ≤ h.fNext
   ·rw [if_neg (by simp; omega)]; simp [h1, h2]
   ·rw [if_pos (by simp; omega), if_neg (by simp [h2])]
  ·rw [if_pos (by simp; omega), if_neg (by simp [h1])]) 0
 rw [Int.natCast_zero] at key
 rw [if_neg (by simp), key]
 cases hi : (h.fObjects.all fun o => decide (o.fId ≤ h.fNext)) && incF 0 h.fObjects
 ·simp
 ·have hinc : incF 0 h.fObjects = true := by simp only [Bool.and_eq_true] at hi; exact hi.2
  rw [if_pos rfl, i_areAll_impl_Object__i_ValidHeap_c1_eq]
  have fin : i_areAll_impl_Object_L2__i_ValidHeap_c1 h.fNext h.fObjects h.fObjects (len h.fObjects) 0 = some (h.fObjects.all (obRefs h.fObjects)) :=
   all_loop (xs := h.fObjects) (by omega) (F := fun o => i_ValidHeap_c1 o h.fNext h.fObjects) (p := obRefs h.fObjects) (J := fun i => i_areAll_impl_Object_L2__i_ValidHeap_c1 h.fNext h.fObjects h.fObjects (len h.fObjects) i) (fun i => by show i_areAll_impl_Object_L2__i_ValidHeap_c1 _ _ _ _ _ = _; rw [i_areAll_impl_Object_L2__i_ValidHeap_c1_eq]) (fun y hy => i_refs_ok hO hinc _ (hm y hy).1 (hm y hy).2)
  rw [fin]; simp [hl]
end Go.Dv.U

namespace Go.Dv.U
open Go Go.Dv Go.Proofs
def bdOk (b : TBinding) : Bool := isName b.fName && vVal b.fValue && !vNull b.fValue
theorem i_Binding_isValid_ok (b : TBinding) : i_Binding_isValid b = some (bdOk b) := by
 rw [i_Binding_isValid_eq]
 simp only [i_IsName_ok, i_ValidValue_ok, i_IsNull_ok, Option.bind_some]
 unfold bdOk
 cases isName b.fName <;> cases vVal b.fValue <;> simp
end Go.Dv.U

namespace Go.Dv.U
open Go Go.Dv Go.Proofs
mutual
def TGen.n : TGen → Nat
 | ⟨_, _, _, _, ks⟩ => 1 + TGen.ns ks
def TGen.ns : List TGen → Nat
 | [] => 0
 | y :: r => TGen.n y + TGen.ns r
end
theorem TGen.ns_eq : ∀ l, TGen.ns l = sumOf TGen.n l
 | [] => rfl
 | y :: r => by simp only [TGen.ns, sumOf, TGen.ns_eq r]
theorem TGen.n_eq (x : TGen) : x.n = 1 + sumOf TGen.n x.fKids := by
 rw [← TGen.ns_eq]; cases x; rfl
mutual
def TGen.all (p : TGen → Bool) : TGen → Bool
 | ⟨a, b, c, d, ks⟩ => p ⟨a, b, c, d, ks⟩ && TGen.alls p ks
def TGen.alls (p : TGen → Bool) : List TGen → Bool
 | [] => true
 | y :: r => TGen.all p y && TGen.alls p r
end
theorem TGen.alls_eq (p : TGen → Bool) : ∀ l, TGen.alls p l = l.all (TGen.all p)
 | [] => rfl
 | y :: r => by simp only [TGen.alls, List.all_cons, TGen.alls_eq p r]
theorem TGen.all_eq (p : TGen → Bool) (x : TGen) : x.all p = (p x && x.fKids.all (TGen.all p)) := by
 rw [← TGen.alls_eq]; cases x; rfl
def gKids (k : Int) : Int := if k = 4 ∨ k = 5 ∨ k = 9 ∨ k = 11 ∨ k = 14 then 2 else if k = 8 ∨ k = 12 ∨ k = 15 then 3 else if k = 1 ∨ k = 2 ∨ k = 3 then 0 else 1
def opNames : List (List UInt8) := [[97, 100, 100], [115, 117, 98], [109, 117, 108], [100, 105, 118], [99, 97, 116], [108, 116], [108, 101], [101, 113], [110, 101], [103, 116], [103, 101], [115, 101, 113], [115, 110, 101], [115, 108, 116], [105, 115]]
def vData (v : TValue) : Bool := vVal v && (v.fKind == 1 || v.fKind == 2 || (decide (4 ≤ v.fKind) && decide (v.fKind ≤ 6)))
def vZero (v : TValue) : Bool := v.fKind == 0 && v.fNum == 0 && v.fText == [] && v.fRef == 0
def gNode (x : TGen) : Bool :=
 decide (1 ≤ x.fKind) && decide (x.fKind ≤ 18) &&
 (if x.fKind = 6 then decide (0 ≤ x.fNum) && decide (x.fNum ≤ 60) else x.fNum == 0) &&
 (if x.fKind = 2 ∨ x.fKind = 16 ∨ x.fKind = 17 then isName x.fText else if x.fKind = 11 then opNames.contains x.fText else x.fText == []) &&
 (if x.fKind = 1 then vData x.fValue else vZero x.fValue) && decide ((x.fKids.length : Int) = gKids x.fKind)
def TGen.good (x : TGen) : Bool := x.all gNode
def TGen.valid (x : TGen) : Bool := x.good && decide (x.n ≤ 60)
theorem TGen.good_eq (x : TGen) : x.good = (gNode x && x.fKids.all TGen.good) := TGen.all_eq _ _
theorem i_genKids_ok (k : Int) : i_genKids k = some (gKids k) := by
 rw [i_genKids_eq, i_genKids_L7_eq, i_genKids_L8_eq, i_genKids_L11_eq, i_genKids_L12_eq, i_genKids_L15_eq, i_genKids_L16_eq]
 unfold gKids; grind (splits := 60)
theorem s_l22Kids_ok {k : Int} (h0 : 1 ≤ k) (h1 : k ≤ 18) : s_l22Kids k = some (gKids k) := by
 rw [s_l22Kids_eq, s_l22Kids_L9_eq, s_l22Kids_L10_eq, s_l22Kids_L15_eq, s_l22Kids_L16_eq, s_l22Kids_L19_eq, s_l22Kids_L20_eq]
 unfold gKids; grind (splits := 60)
theorem i_isOperatorName_ok (t : List UInt8) : i_isOperatorName t = some (opNames.contains t) := by
 rw [i_isOperatorName_eq, i_isOperatorName_L17_eq, i_isOperatorName_L18_eq]
 simp only [ite_some]
 congr 1
 simp only [opNames, List.contains_cons, List.contains_nil, beq_iff_eq, Bool.or_false]
 rw [Bool.eq_iff_iff]
 simp only [Bool.or_eq_true, decide_eq_true_eq, beq_iff_eq, Bool.ite_eq_true_distrib, if_true_left, Bool.false_eq_true]
 grind (splits := 60)
theorem s_l22Among_ok (t : List UInt8) : ∃ v, (s_l22Operators.bind fun l => s_l22Among l t) = some v ∧ decide (v ≥ 0) = opNames.contains t := by
 rw [s_l22Operators_eq]
 simp only [Option.bind_some]
 rw [s_l22Among_eq]
 have key : ∀ xs : List (List UInt8), xs.length ≤ 100 → ∃ v, s_l22Among_L2 xs t ((0 : Nat) : Int) = some v ∧ decide (v ≥ 0) = xs.contains t := by
  intro xs hx
  refine loop_ind (xs := xs) (by omega) (P := fun i l => ∃ v, s_l22Among_L2 xs t i = some v ∧ decide (v ≥ 0) = l.contains t) ?_ ?_
  ·refine ⟨-1, ?_, rfl⟩
   rw [s_l22Among_L2_eq, if_neg (by simp [len_eq])]
  ·intro i y l _ hlt hy hi hw ⟨v, h1, h2⟩
   rw [s_l22Among_L2_eq, hi, hw, if_pos (by simp [len_eq, hlt])]
   simp only [Option.bind_some]
   by_cases c : y = t
   ·refine ⟨i, ?_, ?_⟩
    ·rw [if_pos (by simpa using c)]
    ·subst c; simp
   ·refine ⟨v, ?_, ?_⟩
    ·rw [if_neg (by simpa using c), h1]
    ·rw [h2]
     simp only [List.contains_cons]
     have : (t == y) = false := by rw [beq_eq_false_iff_ne]; exact fun h => c h.symm
     rw [this, Bool.false_or]
 exact key _ (by decide)
theorem i_isData_ok (v : TValue) : i_isData v = some (vData v) := by
 rw [i_isData_eq, i_ValidValue_ok, i_refers_eq, i_within_ok]
 simp only [Option.bind_some, ite_some]
 congr 1
 unfold vData
 cases vVal v <;> cases (v.fKind == 1) <;> cases (v.fKind == 2) <;> simp
theorem zero_eq (v : TValue) : (v.fKind == 0 && (v.fNum == 0 && (v.fText == [] && (v.fRef == 0 && true)))) = vZero v := by
 unfold vZero; simp only [Bool.and_true, Bool.and_assoc]
theorem i_hasForm_L13_ok (a b c : Bool) (k m : Int) (t : List UInt8) (p q : Int) (r : List UInt8) (s : Int) (ks : List TGen) : i_Gen_hasForm_L13 a b c k m t p q r s ks = some (decide (1 ≤ k) && decide (k ≤ 18) && a && b && c && decide ((ks.length : Int) = gKids k)) := by
 rw [i_Gen_hasForm_L13_eq, i_within_ok, i_genKids_ok]
 simp only [Option.bind_some, len_eq]
 have : ((ks.length : Int) == gKids k) = decide ((ks.length : Int) = gKids k) := rfl
 rw [this]
 cases (decide (1 ≤ k) && decide (k ≤ 18)) <;> cases a <;> cases b <;> cases c <;> simp
theorem i_Gen_hasForm_ok (x : TGen) : i_Gen_hasForm x = some (gNode x) := by
 obtain ⟨k, n, t, v, ks⟩ := x
 rw [i_Gen_hasForm_eq]
 simp only [i_isData_ok, zero_eq, i_Gen_hasForm_L8_eq, i_Gen_hasForm_L9_eq, i_IsName_ok, i_within_ok, i_isOperatorName_ok, i_hasForm_L13_ok, Option.bind_some, gNode, beq_iff_eq, ite_some]
 congr 1
 by_cases h1 : k = 1
 ·subst h1; simp
 by_cases h2 : k = 2
 ·subst h2; simp
 by_cases h16 : k = 16
 ·subst h16; simp
 by_cases h17 : k = 17
 ·subst h17; simp
 by_cases h6 : k = 6
 ·subst h6; simp
 by_cases h11 : k = 11
 ·subst h11; simp
 simp [h1, h2, h16, h17, h6, h11]
theorem s_l22Shape_L5_ok (k n : Int) (t : List UInt8) (v : TValue) (ks : List TGen) : s_l22Shape_L5 k n t v.fKind v.fNum v.fText v.fRef ks = some ((if k = 2 ∨ k = 16 ∨ k = 17 then isName t else if k = 11 then opNames.contains t else t == []) && (if k = 6 then decide (0 ≤ n) && decide (n ≤ 60) else true) && (if k = 1 then vData v else true)) := by
 have ev : TValue.mk v.fKind v.fNum v.fText v.fRef = v := rfl
 rw [s_l22Shape_L5_eq, ev]
 obtain ⟨a, ha, hb⟩ := s_l22Among_ok t
 simp only [s_l22Shape_L12_eq, s_l22Shape_L13_eq, s_ValidValue_ok, s_l07IsRef_eq, s_l00In_ok, s_IsName_ok, Option.bind_some, beq_iff_eq]
 have hab : (s_l22Operators.bind fun r199 => (s_l22Among r199 t).bind fun r198 => some (decide (r198 ≥ 0))) = some (opNames.contains t) := by
  rw [← hb]
  rw [s_l22Operators_eq] at ha ⊢
  simp only [Option.bind_some] at ha ⊢
  rw [ha]; rfl
 rw [hab]
 simp only [ite_some]
 congr 1
 unfold vData
 by_cases h1 : k = 1
 ·subst h1
  simp
  cases t <;> cases vVal v <;> simp <;> grind
 by_cases h2 : k = 2
 ·subst h2; simp
 by_cases h16 : k = 16
 ·subst h16; simp
 by_cases h17 : k = 17
 ·subst h17; simp
 by_cases h6 : k = 6
 ·subst h6; simp; cases t <;> simp
 by_cases h11 : k = 11
 ·subst h11; simp
 simp [h1, h2, h16, h17, h6, h11]
theorem s_l22Shape_ok (x : TGen) : s_l22Shape x.fKind x.fNum x.fText x.fValue.fKind x.fValue.fNum x.fValue.fText x.fValue.fRef x.fKids = some (gNode x) := by
 obtain ⟨k, n, t, v, ks⟩ := x
 rw [s_l22Shape_eq]
 simp only [zero_eq, s_l22Shape_L4_eq, s_l22Shape_L5_ok, s_l00In_ok, Option.bind_some, gNode]
 by_cases hr : 1 ≤ k ∧ k ≤ 18
 ·rw [s_l22Kids_ok hr.1 hr.2]
  have e1 : decide (1 ≤ k) = true := by simpa using hr.1
  have e2 : decide (k ≤ 18) = true := by simpa using hr.2
  simp only [e1, e2, Bool.true_and, Bool.not_true, Bool.false_eq_true, if_false, Option.bind_some, len_eq]
  by_cases hk : (ks.length : Int) = gKids k
  ·have hk' : ((ks.length : Int) != gKids k) = false := by simpa using hk
   simp only [hk', Bool.false_eq_true, if_false, decide_eq_true hk, Bool.and_true, ite_some]
   congr 1
   by_cases h6 : k = 6
   ·subst h6; simp; cases vZero v <;> simp [Bool.and_comm]
   by_cases h1 : k = 1
   ·subst h1; simp; by_cases hn : n = 0 <;> simp [hn]
   simp [h6, h1]
   cases vZero v <;> by_cases hn : n = 0 <;> simp [hn]
  ·have hk' : ((ks.length : Int) != gKids k) = true := by simpa using hk
   simp [hk', hk]
 ·have e : (decide (1 ≤ k) && decide (k ≤ 18)) = false := by simp; omega
  simp [e]
theorem i_countGen_ok : ∀ x : TGen, x.m ≤ 1048576 → ∀ c : Int, 0 ≤ c → c ≤ 60 → i_countGen x c = some (if x.good = true ∧ c + x.n ≤ 60 then c + x.n else 61) := by
 intro x
 induction x using TGen.ind with
 | h x ih =>
  intro hm c h0 h1
  have hmq := x.m_eq
  have hn := x.n_eq
  have loop : ∀ c : Int, 0 ≤ c → c ≤ 60 → i_countGen_L5 c x.fKids (len x.fKids) ((0 : Nat) : Int) = some (if x.fKids.all TGen.good = true ∧ c + sumOf TGen.n x.fKids ≤ 60 then c + sumOf TGen.n x.fKids else 61) := by
   refine loop_ind (xs := x.fKids) (by omega) (P := fun i l => ∀ c : Int, 0 ≤ c → c ≤ 60 → i_countGen_L5 c x.fKids (len x.fKids) i = some (if l.all TGen.good = true ∧ c + sumOf TGen.n l ≤ 60 then c + sumOf TGen.n l else 61)) ?_ ?_
   ·intro c h0 h1
    rw [i_countGen_L5_eq]
    simp [len_eq, sumOf, h1]
   ·intro i y l _ hlt hy hi hw ih2 c h0 h1
    rw [i_countGen_L5_eq, hi, hw, if_pos (by simp [len_eq, hlt])]
    have hmy := TGen.m_kid hy
    simp only [Option.bind_some, TGen.re_eq, TValue.re_eq, ih y hy (by omega) c h0 h1]
    have e : sumOf TGen.n (y :: l) = y.n + sumOf TGen.n l := rfl
    rw [e, List.all_cons]
    by_cases hc : y.good = true ∧ c + y.n ≤ 60
    ·rw [if_pos hc, if_neg (by simp; omega), ih2 _ (by omega) hc.2]
     congr 1
     by_cases hd : l.all TGen.good = true ∧ c + y.n + sumOf TGen.n l ≤ 60
     ·rw [if_pos hd, if_pos ⟨Bool.and_eq_true_iff.2 ⟨hc.1, hd.1⟩, by omega⟩]; omega
     ·rw [if_neg hd, if_neg fun h => hd ⟨(Bool.and_eq_true_iff.1 h.1).2, by omega⟩]
    ·rw [if_neg hc, if_pos (by simp), if_neg fun h => hc ⟨(Bool.and_eq_true_iff.1 h.1).1, by omega⟩]
  have hg := x.good_eq
  rw [i_countGen_eq, w64_of (by omega) (by omega)]
  by_cases c1 : c + 1 > 60
  ·rw [if_pos (by simpa using c1), if_neg (by omega)]
  rw [if_neg (by simpa using c1)]
  simp only [TGen.re_eq, TValue.re_eq, i_Gen_hasForm_ok]
  have := loop (c + 1) (by omega) (by omega)
  simp only [Int.natCast_zero] at this
  rw [this, hg]
  simp only [Option.bind_some]
  cases ha : gNode x
  ·simp
  ·simp only [Bool.not_true, Bool.false_eq_true, if_false, Bool.true_and]
   congr 1
   by_cases hd : x.fKids.all TGen.good = true ∧ c + 1 + sumOf TGen.n x.fKids ≤ 60
   ·rw [if_pos hd, if_pos ⟨hd.1, by omega⟩]; omega
   ·rw [if_neg hd, if_neg fun h => hd ⟨h.1, by omega⟩]
theorem i_ValidGen_ok {x : TGen} (hm : x.m ≤ 1048576) : i_ValidGen x = some x.valid := by
 rw [i_ValidGen_eq]
 simp only [TGen.re_eq, TValue.re_eq]
 rw [i_countGen_ok x hm 0 (by omega) (by omega)]
 simp only [Option.bind_some, TGen.valid]
 congr 1
 by_cases h : x.good = true ∧ (0 : Int) + x.n ≤ 60
 ·rw [if_pos h, h.1]; simp; omega
 ·rw [if_neg h]
  cases hg : x.good
  ·simp
  ·simp only [hg, true_and] at h; simp; omega
theorem TGen.n_le_m : ∀ x : TGen, x.n ≤ x.m + 1 := by
 intro x
 induction x using TGen.ind with
 | h x ih =>
  rw [x.n_eq, x.m_eq]
  have : ∀ l : List TGen, (∀ y ∈ l, y.n ≤ y.m + 1) → sumOf TGen.n l ≤ l.length + sumOf TGen.m l := by
   intro l
   induction l with
   | nil => intro _; simp [sumOf]
   | cons y r ihr =>
    intro h
    have h1 := h y (by simp)
    have h2 := ihr fun z hz => h z (by simp [hz])
    simp only [sumOf, List.length_cons]; omega
  have := this x.fKids ih
  omega
theorem s_l22Size_ok : ∀ x : TGen, x.m ≤ 1048576 → ∃ v : Int, s_l22Size x.fKind x.fNum x.fText x.fValue.fKind x.fValue.fNum x.fValue.fText x.fValue.fRef x.fKids = some v ∧ 1 ≤ v ∧ v ≤ 61 * x.n ∧ (v ≤ 60 → x.good = true ∧ v = x.n) ∧ (x.good = true → x.n ≤ 60 → v = x.n) := by
 intro x
 induction x using TGen.ind with
 | h x ih =>
  intro hm
  have hmq := x.m_eq
  have hn := x.n_eq
  have hnm := x.n_le_m
  rw [s_l22Size_eq, s_l22Shape_ok]
  simp only [Option.bind_some]
  have hg := x.good_eq
  cases ha : gNode x
  ·rw [ha, Bool.false_and] at hg
   refine ⟨61, by simp, by omega, by omega, by omega, ?_⟩
   rw [hg]; intro h; cases h
  simp only [Bool.not_true, Bool.false_eq_true, if_false]
  rw [ha, Bool.true_and] at hg
  have loop : ∀ acc : Int, 1 ≤ acc → acc + 61 * sumOf TGen.n x.fKids ≤ 100000000000 → ∃ v : Int, s_l22Size_L5 x.fKind x.fNum x.fText x.fValue.fKind x.fValue.fNum x.fValue.fText x.fValue.fRef x.fKids acc ((0 : Nat) : Int) = some v ∧ acc ≤ v ∧ v ≤ acc + 61 * sumOf TGen.n x.fKids ∧ (v ≤ 60 → x.fKids.all TGen.good = true ∧ v = acc + sumOf TGen.n x.fKids) ∧ (x.fKids.all TGen.good = true → acc + sumOf TGen.n x.fKids ≤ 60 → v = acc + sumOf TGen.n x.fKids) := by
   refine loop_ind (xs := x.fKids) (by omega) (P := fun i l => ∀ acc : Int, 1 ≤ acc → acc + 61 * sumOf TGen.n l ≤ 100000000000 → ∃ v : Int, s_l22Size_L5 x.fKind x.fNum x.fText x.fValue.fKind x.fValue.fNum x.fValue.fText x.fValue.fRef x.fKids acc i = some v ∧ acc ≤ v ∧ v ≤ acc + 61 * sumOf TGen.n l ∧ (v ≤ 60 → l.all TGen.good = true ∧ v = acc + sumOf TGen.n l) ∧ (l.all TGen.good = true → acc + sumOf TGen.n l ≤ 60 → v = acc + sumOf TGen.n l)) ?_ ?_
   ·intro acc h1 h2
    refine ⟨acc, ?_, Int.le_refl _, by simp [sumOf], by simp [sumOf], by simp [sumOf]⟩
    rw [s_l22Size_L5_eq]
    simp [len_eq]
   ·intro i y l _ hlt hy hi hw ih2 acc h1 h2
    have hmy := TGen.m_kid hy
    have hyn := y.n_eq
    have e : sumOf TGen.n (y :: l) = y.n + sumOf TGen.n l := rfl
    rw [e] at h2 ⊢
    rw [List.all_cons]
    by_cases hc : acc ≤ 60
    ·obtain ⟨v, hv, v1, v2, v3, v4⟩ := ih y hy (by omega)
     obtain ⟨u, hu, u1, u2, u3, u4⟩ := ih2 (acc + v) (by omega) (by omega)
     refine ⟨u, ?_, by omega, by omega, ?_, ?_⟩
     ·rw [s_l22Size_L5_eq, hi, hw, if_pos (by simp [len_eq, hlt]), if_pos (by simpa using hc)]
      simp only [Option.bind_some, hv]
      rw [w64_of (by omega) (by omega)]
      exact hu
     ·intro hu60
      obtain ⟨a1, a2⟩ := v3 (by omega)
      obtain ⟨b1, b2⟩ := u3 hu60
      exact ⟨by rw [a1, b1]; rfl, by omega⟩
     ·intro hga hs
      rw [Bool.and_eq_true_iff] at hga
      have := v4 hga.1 (by omega)
      have := u4 hga.2 (by omega)
      omega
    ·refine ⟨acc, ?_, Int.le_refl _, by omega, by omega, by omega⟩
     rw [s_l22Size_L5_eq, if_pos (by simp [len_eq, hlt]), if_neg (by simpa using hc)]
  obtain ⟨v, hv, v1, v2, v3, v4⟩ := loop 1 (Int.le_refl _) (by omega)
  refine ⟨v, hv, v1, by omega, fun h => ?_, fun h h2 => ?_⟩
  ·obtain ⟨a, b⟩ := v3 h
   exact ⟨by rw [hg]; exact a, by omega⟩
  ·rw [hg] at h
   have := v4 h (by omega)
   omega
theorem s_l22Ok_ok {x : TGen} (hm : x.m ≤ 1048576) : s_l22Ok x.fKind x.fNum x.fText x.fValue.fKind x.fValue.fNum x.fValue.fText x.fValue.fRef x.fKids = some x.valid := by
 rw [s_l22Ok_eq]
 obtain ⟨v, hv, v1, v2, v3, v4⟩ := s_l22Size_ok x hm
 rw [hv]
 simp only [Option.bind_some, TGen.valid]
 congr 1
 by_cases h : v ≤ 60
 ·obtain ⟨a, b⟩ := v3 h
  rw [a]
  simp; omega
 ·cases hg : x.good
  ·simpa using h
  ·have : ¬ x.n ≤ 60 := fun h6 => by have := v4 hg h6; omega
   simp [this]; omega
end Go.Dv.U

namespace Go.Dv.U
open Go Go.Dv Go.Proofs
def adjR {α : Type} (ge : α → α → Bool) : List α → Bool
 | x :: y :: r => !ge x y && adjR ge (y :: r)
 | _ => true
theorem adjR_loop {α : Type} {xs : List α} (hx : xs.length ≤ 9223372036854775807) {ge : α → α → Bool} {E : Option Bool} {J : Int → Option Bool}
  (hJ : ∀ i, J i = if decide (i < len xs) = true then (idx xs (w64 (i - 1))).bind fun z => (idx xs i).bind fun y => if ge z y = true then some false else J (w64 (i + 1)) else E) : J 1 = if adjR ge xs = true then E else some false := by
 have key : ∀ (n i : Nat), i + 1 + n = xs.length → J ((i : Int) + 1) = if adjR ge (xs.drop i) = true then E else some false := by
  intro n
  induction n with
  | zero =>
   intro i hi
   have : xs.drop i = [xs[i]'(by omega)] := by
    rw [List.drop_eq_getElem_cons (by omega), List.drop_eq_nil_of_le (by omega)]
   rw [this, hJ]
   have hc : ¬ decide ((i : Int) + 1 < len xs) = true := by simp only [len_eq, decide_eq_true_eq]; omega
   rw [if_neg hc]; rfl
  | succ n ih =>
   intro i hi
   have hc : decide ((i : Int) + 1 < len xs) = true := by simp only [len_eq, decide_eq_true_eq]; omega
   have e1 : w64 ((i : Int) + 1 - 1) = (i : Int) := by rw [w64_of (by omega) (by omega)]; omega
   have e2 : w64 ((i : Int) + 1 + 1) = ((i + 1 : Nat) : Int) + 1 := by rw [w64_of (by omega) (by omega)]; omega
   have e3 : ((i : Int) + 1) = ((i + 1 : Nat) : Int) := by omega
   rw [hJ, if_pos hc, e1, e2, ih (i + 1) (by omega), idx_nat, e3, idx_nat, List.getElem?_eq_getElem (by omega), List.getElem?_eq_getElem (by omega), List.drop_eq_getElem_cons (by omega : i < xs.length), List.drop_eq_getElem_cons (by omega : i + 1 < xs.length)]
   simp only [Option.bind_some, adjR]
   by_cases hg : ge xs[i] xs[i + 1] = true <;> simp [hg]
 by_cases h0 : xs.length = 0
 ·have : xs = [] := List.eq_nil_of_length_eq_zero h0
  subst this
  rw [hJ]; simp [len_eq, adjR]
 ·have := key (xs.length - 1) 0 (by omega)
  simpa using this
theorem chkR_loop {α : Type} {xs : List α} (hx : xs.length ≤ 9223372036854775807) {p : α → Bool} {ge : α → α → Bool} {E : Option Bool} {J : Int → Option Bool}
  (hJ : ∀ i : Nat, i ≤ xs.length → J i = match xs[i]? with
   | some y => if (p y && (match i with | 0 => true | j + 1 => (match xs[j]? with | some z => !ge z y | none => true))) = true then J ((i + 1 : Nat) : Int) else some false
   | none => E) : J 0 = if (xs.all p && adjR ge xs) = true then E else some false := by
 have key : ∀ (n i : Nat), i + 1 + n = xs.length → J ((i + 1 : Nat) : Int) = if ((xs.drop (i + 1)).all p && adjR ge (xs.drop i)) = true then E else some false := by
  intro n
  induction n with
  | zero =>
   intro i hi
   have : xs.drop i = [xs[i]'(by omega)] := by
    rw [List.drop_eq_getElem_cons (by omega), List.drop_eq_nil_of_le (by omega)]
   rw [this, hJ _ (by omega), List.getElem?_eq_none (by omega), List.drop_eq_nil_of_le (by omega)]
   simp [adjR]
  | succ n ih =>
   intro i hi
   have hlt : i + 1 < xs.length := by omega
   rw [hJ _ (by omega), List.getElem?_eq_getElem hlt]
   simp only [List.getElem?_eq_getElem (show i < xs.length by omega)]
   rw [ih (i + 1) (by omega), List.drop_eq_getElem_cons (show i < xs.length by omega), List.drop_eq_getElem_cons hlt]
   simp only [List.all_cons, adjR]
   by_cases h1 : p xs[i + 1] = true <;> by_cases h2 : ge xs[i] xs[i + 1] = true <;> simp [h1, h2]
 have h0 := hJ 0 (Nat.zero_le _)
 simp only [Int.natCast_zero, Bool.and_true] at h0
 rw [h0]
 cases xs with
 | nil => simp [adjR]
 | cons y r =>
  simp only [List.getElem?_cons_zero]
  have := key r.length 0 (by simp; omega)
  simp only [List.drop_succ_cons, List.drop_zero] at this
  rw [this]
  simp only [List.all_cons]
  by_cases h1 : p y = true <;> simp [h1]
def varsOk (O : List TObject) (vs : List TBinding) : Bool := decide (vs.length ≤ 40) && adj TBinding.fName vs && vs.all fun b => bdOk b && vFits O b.fValue
theorem vFits_val {O : List TObject} {v : TValue} (h : vFits O v = true) : vVal v = true := by
 unfold vFits at h; simp only [Bool.and_eq_true] at h; exact h.1
theorem i_areVars_ok {h : THeap} (hO : h.fObjects.length ≤ 1048576) (hs : incF 0 h.fObjects = true) {vs : List TBinding} (hv : vs.length ≤ 1048576) : i_areVars vs h = some (varsOk h.fObjects vs) := by
 rw [i_areVars_eq]
 have e1 : i_isSorted_impl_Binding__i_nameOfBinding vs = some (adj TBinding.fName vs) := by
  rw [i_isSorted_impl_Binding__i_nameOfBinding_eq]
  exact adj_loop (xs := vs) (by omega) (nm := TBinding.fName) (J := i_isSorted_impl_Binding_L2__i_nameOfBinding vs) (fun i => by rw [i_isSorted_impl_Binding_L2__i_nameOfBinding_eq]; simp only [i_nameOfBinding_eq, Option.bind_some])
 have e2 : i_areAll_impl_Binding__i_areVars_c1 vs h.fNext h.fObjects = some (vs.all fun b => bdOk b && vFits h.fObjects b.fValue) := by
  rw [i_areAll_impl_Binding__i_areVars_c1_eq]
  refine all_loop (xs := vs) (by omega) (F := fun b => i_areVars_c1 b h.fNext h.fObjects) (p := fun b => bdOk b && vFits h.fObjects b.fValue) (J := fun i => i_areAll_impl_Binding_L2__i_areVars_c1 h.fNext h.fObjects vs (len vs) i) (fun i => by show i_areAll_impl_Binding_L2__i_areVars_c1 _ _ _ _ _ = _; rw [i_areAll_impl_Binding_L2__i_areVars_c1_eq]) (fun y _ => ?_)
  show i_areVars_c1 _ _ _ = _
  rw [i_areVars_c1_eq, i_Binding_isValid_ok, i_Heap_fits_ok (h := THeap.mk h.fNext h.fObjects) hO hs]
  cases bdOk y <;> simp
 rw [e1, e2]
 unfold varsOk
 have ed : decide (len vs ≤ 40) = decide (vs.length ≤ 40) := by rw [Bool.eq_iff_iff]; simp only [len_eq, decide_eq_true_eq]; omega
 rw [ed]
 cases decide (vs.length ≤ 40) <;> cases adj TBinding.fName vs <;> simp
theorem s_l22Vars_ok {O : List TObject} (hO : O.length ≤ 1048576) (n : Int) {vs : List TBinding} (hv : vs.length ≤ 1048576) : s_l22Vars n O vs = some (varsOk O vs) := by
 rw [s_l22Vars_eq]
 have key := chk_loop (xs := vs) (by omega) (p := fun b => bdOk b && vFits O b.fValue) (nm := TBinding.fName) (E := some true) (J := fun i => s_l22Vars_L4 n O vs i) (by
  intro i hi
  show s_l22Vars_L4 _ _ _ _ = _
  rw [s_l22Vars_L4_eq]
  by_cases hlt : i < vs.length
  ·rw [if_pos (by simp [len_eq, hlt])]
   have ei : idx vs (i : Int) = some vs[i] := by rw [idx_nat, List.getElem?_eq_getElem hlt]
   have hw : w64 ((i : Int) + 1) = ((i + 1 : Nat) : Int) := by rw [w64_of (by omega) (by omega)]; omega
   simp only [ei, Option.bind_some, s_IsName_ok, s_Fits_ok hO, s_IsNull_ok, s_l22Vars_L7_eq, s_l22Vars_L5_eq, hw, List.getElem?_eq_getElem hlt]
   have hp : (bdOk vs[i] && vFits O vs[i].fValue) = (isName vs[i].fName && vFits O vs[i].fValue && !vNull vs[i].fValue) := by
    unfold bdOk
    cases hf : vFits O vs[i].fValue
    ·simp
    ·rw [vFits_val hf]; simp
   rw [hp]
   cases i with
   | zero =>
    have hg : ¬ decide (((0 : Nat) : Int) > 0) = true := by simp
    rw [if_neg hg]
    cases isName vs[0].fName <;> cases vFits O vs[0].fValue <;> cases vNull vs[0].fValue <;> simp
   | succ j =>
    have hg : decide (((j + 1 : Nat) : Int) > 0) = true := by simp only [decide_eq_true_eq]; omega
    have w1 : w64 (((j + 1 : Nat) : Int) - 1) = (j : Int) := by rw [w64_of (by omega) (by omega)]; omega
    rw [if_pos hg, w1, idx_nat, List.getElem?_eq_getElem (show j < vs.length by omega)]
    simp only [Option.bind_some, List.getElem?_eq_getElem (show j < vs.length by omega)]
    cases isName vs[j + 1].fName <;> cases vFits O vs[j + 1].fValue <;> cases vNull vs[j + 1].fValue <;> cases Op.bytesLess vs[j].fName vs[j + 1].fName <;> simp
  ·rw [if_neg (by simp only [len_eq, decide_eq_true_eq]; omega), List.getElem?_eq_none (by omega)])
 rw [show s_l22Vars_L4 n O vs 0 = _ from key]
 unfold varsOk
 generalize (vs.all fun b => bdOk b && vFits O b.fValue) = a
 have ed : decide (len vs > 40) = !decide (vs.length ≤ 40) := by rw [Bool.eq_iff_iff]; simp only [len_eq, Bool.not_eq_true', decide_eq_true_eq, decide_eq_false_iff_not]; omega
 rw [ed]
 cases decide (vs.length ≤ 40) <;> cases adj TBinding.fName vs <;> cases a <;> simp
def gRef (O : List TObject) (x : TGen) : Bool := if x.fKind = 1 then vFits O x.fValue else true
def gRefs (O : List TObject) (x : TGen) : Bool := x.all (gRef O)
theorem gRefs_eq (O : List TObject) (x : TGen) : gRefs O x = (gRef O x && x.fKids.all (gRefs O)) := TGen.all_eq _ _
theorem i_fitsGen_ok (h : THeap) (hO : h.fObjects.length ≤ 1048576) (hs : incF 0 h.fObjects = true) : ∀ x : TGen, x.m ≤ 1048576 → i_Heap_fitsGen h x = some (gRefs h.fObjects x) := by
 intro x
 induction x using TGen.ind with
 | h x ih =>
  intro hm
  have hmq := x.m_eq
  have ea : i_areAll_impl_Gen__1000054 x.fKids h.fNext h.fObjects = some (x.fKids.all (gRefs h.fObjects)) := by
   rw [i_areAll_impl_Gen__1000054_eq]
   exact all_loop (xs := x.fKids) (by omega) (F := fun g => i_Heap_fitsGen h g) (p := gRefs h.fObjects) (J := fun i => i_areAll_impl_Gen_L2__1000054 h.fNext h.fObjects x.fKids (len x.fKids) i) (fun i => by show i_areAll_impl_Gen_L2__1000054 _ _ _ _ _ = _; rw [i_areAll_impl_Gen_L2__1000054_eq]; try simp only [TGen.re_eq]) (fun y hy => ih y hy (by have := TGen.m_kid hy; omega))
  rw [i_Heap_fitsGen_eq, gRefs_eq, ea, i_Heap_fits_ok hO hs]
  unfold gRef
  by_cases k : x.fKind = 1
  ·simp only [k, bne_self_eq_false, Bool.false_eq_true, if_false, Option.bind_some, if_true]
   cases vFits h.fObjects x.fValue <;> simp
  ·simp [k]
theorem s_l22Refs_ok {O : List TObject} (hO : O.length ≤ 1048576) (n : Int) : ∀ x : TGen, x.m ≤ 1048576 → s_l22Refs n O x.fKind x.fNum x.fText x.fValue.fKind x.fValue.fNum x.fValue.fText x.fValue.fRef x.fKids = some (gRefs O x) := by
 intro x
 induction x using TGen.ind with
 | h x ih =>
  intro hm
  have hmq := x.m_eq
  have ea : s_l22Refs_L4 n O x.fKind x.fNum x.fText x.fValue.fKind x.fValue.fNum x.fValue.fText x.fValue.fRef x.fKids 0 = some (x.fKids.all (gRefs O)) :=
   all_loop (xs := x.fKids) (by omega) (F := fun y => s_l22Refs n O y.fKind y.fNum y.fText y.fValue.fKind y.fValue.fNum y.fValue.fText y.fValue.fRef y.fKids) (p := gRefs O) (J := fun i => s_l22Refs_L4 n O x.fKind x.fNum x.fText x.fValue.fKind x.fValue.fNum x.fValue.fText x.fValue.fRef x.fKids i) (fun i => by show s_l22Refs_L4 _ _ _ _ _ _ _ _ _ _ _ = _; rw [s_l22Refs_L4_eq]) (fun y hy => ih y hy (by have := TGen.m_kid hy; omega))
  have ed : TValue.mk x.fValue.fKind x.fValue.fNum x.fValue.fText x.fValue.fRef = x.fValue := by cases x.fValue; rfl
  rw [s_l22Refs_eq, gRefs_eq, ea, ed, s_Fits_ok hO]
  unfold gRef
  by_cases k : x.fKind = 1
  ·simp only [k, beq_self_eq_true, Option.bind_some, if_true]
   cases vFits O x.fValue <;> simp
  ·simp [k]
def cuZero (c : TCursor) : Bool := c.fPhase == 0 && c.fCount == 0 && decide (c.fVals.length = 0) && decide (c.fKids.length = 0)
theorem i_isZero_ok (c : TCursor) : i_Cursor_isZero c = some (cuZero c) := by
 rw [i_Cursor_isZero_eq]; unfold cuZero
 simp only [len_eq, dec_len0]
 cases (c.fPhase == 0) <;> cases (c.fCount == 0) <;> cases decide (c.fVals.length = 0) <;> simp
theorem s_zero_ok (c : TCursor) : s_l22Zero c.fPhase c.fCount c.fVals c.fKids = some (cuZero c) := by
 rw [s_l22Zero_eq]; unfold cuZero
 simp only [len_eq, dec_len0]
 cases (c.fPhase == 0) <;> cases (c.fCount == 0) <;> cases decide (c.fVals.length = 0) <;> simp
theorem containsI_ok {l : List Int} (hl : l.length ≤ 1048576) (y : Int) : slices_Contains___int64_int64_ l y = some (l.any fun z => y == z) := by
 rw [slices_Contains___int64_int64__eq, slices_Index___int64_int64__eq]
 have key := ix_loop (xs := l) (by omega) (p := fun z => y == z) (J := fun i => slices_Index___int64_int64__L2 l y (len l) i) (by
  intro i z hlt hz hi hw
  show slices_Index___int64_int64__L2 _ _ _ _ = _
  rw [slices_Index___int64_int64__L2_eq, if_pos (by simp [len_eq, hlt]), hi, hw]
  rfl) (by show slices_Index___int64_int64__L2 _ _ _ _ = _; rw [slices_Index___int64_int64__L2_eq, if_neg (by simp [len_eq])])
 rw [show slices_Index___int64_int64__L2 l y (len l) 0 = _ from key]
 simp only [Option.bind_some]
 rcases ixF_cases (fun z => y == z) l 0 with ⟨k, o, e1, e2, e3, e4⟩ | ⟨e1, e2, e3⟩
 ·rw [e1, e4]; congr 1
 ·rw [e1, e3]; rfl
def brOf (x : TGen) (ph : Int) : List TGen := if 1 ≤ ph ∧ ph ≤ x.fKids.length then (x.fKids.take ph.toNat).drop (ph.toNat - 1) else []
def formOf (x : TGen) (ph : Int) : TCursorForm :=
 if x.fKind = 3 ∨ x.fKind = 9 then ⟨[], 0, 0, []⟩ else if x.fKind = 1 ∨ x.fKind = 2 ∨ x.fKind = 7 then ⟨[1], 0, 0, []⟩
 else if x.fKind = 4 then ⟨[1, 2], 0, 0, brOf x ph⟩ else if x.fKind = 8 then ⟨[2, 3], 0, 0, brOf x ph⟩
 else if x.fKind = 5 ∨ x.fKind = 10 then ⟨[1], 0, 0, x.fKids⟩ else if x.fKind = 6 then ⟨[1], x.fNum, 0, x.fKids⟩
 else if x.fKind = 12 then ⟨[1], 2000000000001, 3, x.fKids⟩ else if x.fKind = 13 then ⟨[1], 200, 1, x.fKids⟩
 else if x.fKind = 17 then ⟨[1], 0, 2, x.fKids⟩ else ⟨[1], 0, len x.fKids, x.fKids⟩
theorem i_branch_ok {x : TGen} (hx : x.fKids.length ≤ 1048576) (ph : Int) : i_Gen_branch x ph = some (brOf x ph) := by
  rw [i_Gen_branch_eq]
  simp only [i_within_ok, Option.bind_some, Option.getD_some]
  unfold brOf
  by_cases h : 1 ≤ ph ∧ ph ≤ x.fKids.length
  · have hb : (decide (1 ≤ ph) && decide (ph ≤ len x.fKids)) = true := by simp [len_eq, h.1, h.2]
    rw [hb, if_pos h]
    have w : w64 (ph - 1) = ((ph.toNat - 1 : Nat) : Int) := by rw [w64_of (by omega) (by omega)]; omega
    have e := cut_of (xs := x.fKids) (a := ph.toNat - 1) (b := ph.toNat) (by omega) (by omega)
    rw [show ((ph.toNat : Nat) : Int) = ph by omega] at e
    rw [w, e]; rfl
  · have hb : (decide (1 ≤ ph) && decide (ph ≤ len x.fKids)) = false := by
      rw [Bool.eq_false_iff]; simpa [len_eq] using h
    rw [hb, if_neg h]; rfl
theorem i_form_ok {x : TGen} (hx : x.fKids.length ≤ 1048576) (ph : Int) : i_Gen_form x ph = some (formOf x ph) := by
 have ed : TGen.mk x.fKind x.fNum x.fText (TValue.mk x.fValue.fKind x.fValue.fNum x.fValue.fText x.fValue.fRef) x.fKids = x := by cases x; rfl
 rw [i_Gen_form_eq]
 simp only [i_Gen_form_L9_eq, i_Gen_form_L10_eq, ed, i_branch_ok hx, Option.bind_some, beq_iff_eq]
 unfold formOf
 by_cases k3 : x.fKind = 3
 ·simp [k3]
 by_cases k9 : x.fKind = 9
 ·simp [k3, k9]
 by_cases k1 : x.fKind = 1
 ·simp [k3, k9, k1]
 by_cases k2 : x.fKind = 2
 ·simp [k3, k9, k1, k2]
 by_cases k7 : x.fKind = 7
 ·simp [k3, k9, k1, k2, k7]
 by_cases k4 : x.fKind = 4
 ·simp [k3, k9, k1, k2, k7, k4]
 by_cases k8 : x.fKind = 8
 ·simp [k3, k9, k1, k2, k7, k4, k8]
 by_cases k5 : x.fKind = 5
 ·simp [k3, k9, k1, k2, k7, k4, k8, k5]
 by_cases k10 : x.fKind = 10
 ·simp [k3, k9, k1, k2, k7, k4, k8, k5, k10]
 by_cases k6 : x.fKind = 6
 ·simp [k3, k9, k1, k2, k7, k4, k8, k5, k10, k6]
 by_cases k12 : x.fKind = 12
 ·simp [k3, k9, k1, k2, k7, k4, k8, k5, k10, k6, k12]
 by_cases k13 : x.fKind = 13
 ·simp [k3, k9, k1, k2, k7, k4, k8, k5, k10, k6, k12, k13]
 by_cases k17 : x.fKind = 17
 ·simp [k3, k9, k1, k2, k7, k4, k8, k5, k10, k6, k12, k13, k17]
 simp [k3, k9, k1, k2, k7, k4, k8, k5, k10, k6, k12, k13, k17]
def cntB (k n cnt : Int) : Bool := if k = 6 then decide (1 ≤ cnt) && decide (cnt ≤ n) else if k = 12 then decide (1 ≤ cnt) && decide (cnt ≤ 2000000000001) else if k = 13 then decide (1 ≤ cnt) && decide (cnt ≤ 200) else cnt == 0
theorem i_susp_step {h : THeap} (hO : h.fObjects.length ≤ 1048576) (hs : incF 0 h.fObjects = true) {g : TGen} (hg : g.fKids.length ≤ 1048576) {c : TCursor} (hc : c.fVals.length ≤ 1048576) :
    i_Heap_isSuspended h g c = if ((formOf g c.fPhase).fPhases.any (fun z => c.fPhase == z) && cntB g.fKind g.fNum c.fCount && decide ((c.fVals.length : Int) = (formOf g c.fPhase).fVals) && c.fVals.all (vFits h.fObjects) && decide (c.fKids.length = (formOf g c.fPhase).fKids.length)) = true
      then i_Heap_isSuspended_L8 (formOf g c.fPhase).fKids (len (formOf g c.fPhase).fKids) 0 h.fNext h.fObjects c.fPhase c.fCount c.fVals c.fKids else some false := by
  rw [i_Heap_isSuspended_eq]
  simp only [TGen.re_eq, TCursor.re_eq]
  rw [i_form_ok hg]
  have hp : (formOf g c.fPhase).fPhases.length ≤ 1048576 := by
    unfold formOf; repeat (split; · simp)
    simp
  have hcnt : (g.fKind = 6 ∨ g.fKind = 12 ∨ g.fKind = 13) → (decide (1 ≤ c.fCount) && decide (c.fCount ≤ (formOf g c.fPhase).fCounts)) = cntB g.fKind g.fNum c.fCount := by
    rintro (k | k | k) <;> simp [formOf, cntB, k]
  simp only [Option.bind_some, i_hasCount_eq, i_within_ok, containsI_ok hp, i_fitAll_ok hO hs h.fNext (show c.fVals.length ≤ 2097153 by omega), i_Heap_isSuspended_L6_eq, i_Heap_isSuspended_L7_eq, len_eq, bne, dec_len]
  have el : ∀ z : Int, ((c.fVals.length : Int) == z) = decide ((c.fVals.length : Int) = z) := fun z => by rw [Bool.eq_iff_iff]; simp
  rw [el]
  have hhas : (if (g.fKind == 6) = true then some true else if (g.fKind == 12) = true then some true else some (g.fKind == 13)) = some (decide (g.fKind = 6 ∨ g.fKind = 12 ∨ g.fKind = 13)) := by
    by_cases k6 : g.fKind = 6
    · simp [k6]
    by_cases k12 : g.fKind = 12
    · simp [k12]
    by_cases k13 : g.fKind = 13 <;> simp [k6, k12, k13]
  rw [hhas]
  simp only [Option.bind_some]
  by_cases hk : g.fKind = 6 ∨ g.fKind = 12 ∨ g.fKind = 13
  · rw [hcnt hk, if_pos (by simpa using hk)]
    cases (formOf g c.fPhase).fPhases.any (fun z => c.fPhase == z) <;> cases cntB g.fKind g.fNum c.fCount <;> cases decide ((c.fVals.length : Int) = (formOf g c.fPhase).fVals) <;> cases c.fVals.all (vFits h.fObjects) <;> cases decide (c.fKids.length = (formOf g c.fPhase).fKids.length) <;> simp
  · have hcb : cntB g.fKind g.fNum c.fCount = (c.fCount == 0) := by
      simp only [not_or] at hk
      simp [cntB, hk.1, hk.2.1, hk.2.2]
    rw [hcb, if_neg (by simpa using hk)]
    cases (formOf g c.fPhase).fPhases.any (fun z => c.fPhase == z) <;> cases (c.fCount == 0) <;> cases decide ((c.fVals.length : Int) = (formOf g c.fPhase).fVals) <;> cases c.fVals.all (vFits h.fObjects) <;> cases decide (c.fKids.length = (formOf g c.fPhase).fKids.length) <;> simp
def vlsB (k : Int) : Int := if k = 17 then 2 else if k ≥ 11 then gKids k else 0
theorem s_susp_step {O : List TObject} (hO : O.length ≤ 1048576) (n : Int) {g : TGen} (h1 : 1 ≤ g.fKind) (h18 : g.fKind ≤ 18) {c : TCursor} (hc : c.fVals.length ≤ 1048576) :
  s_l22Suspended n O g.fKind g.fNum g.fText g.fValue.fKind g.fValue.fNum g.fValue.fText g.fValue.fRef g.fKids c.fPhase c.fCount c.fVals c.fKids =
   if (cntB g.fKind g.fNum c.fCount && decide ((c.fVals.length : Int) = vlsB g.fKind) && c.fVals.all (vFits O)) = true then s_l22Suspended_L3 n O g.fKind g.fNum g.fText g.fValue.fKind g.fValue.fNum g.fValue.fText g.fValue.fRef g.fKids c.fPhase c.fCount c.fVals c.fKids else some false := by
 rw [s_l22Suspended_eq]
 have e1 : s_l22Counts g.fKind g.fNum g.fText g.fValue.fKind g.fValue.fNum g.fValue.fText g.fValue.fRef g.fKids c.fPhase c.fCount c.fVals c.fKids = some (cntB g.fKind g.fNum c.fCount) := by
  rw [s_l22Counts_eq]
  simp only [s_l00In_ok, Option.bind_some, beq_iff_eq, cntB]
  split
  ·rfl
  split
  ·rfl
  split <;> rfl
 have e2 : s_l22Vals g.fKind g.fNum g.fText g.fValue.fKind g.fValue.fNum g.fValue.fText g.fValue.fRef g.fKids = some (vlsB g.fKind) := by
  rw [s_l22Vals_eq]
  simp only [s_l22Kids_ok h1 h18, Option.bind_some, beq_iff_eq, vlsB, decide_eq_true_eq]
  split
  ·rfl
  split <;> rfl
 have el : ∀ z : Int, ((c.fVals.length : Int) == z) = decide ((c.fVals.length : Int) = z) := fun z => by rw [Bool.eq_iff_iff]; simp
 simp only [e1, e2, s_fitAll_ok hO n hc, s_l22Suspended_L2_eq, Option.bind_some, len_eq, bne, el]
 cases cntB g.fKind g.fNum c.fCount <;> cases decide ((c.fVals.length : Int) = vlsB g.fKind) <;> cases c.fVals.all (vFits O) <;> simp
noncomputable def suspB (n : Int) (O : List TObject) (g : TGen) (c : TCursor) : Bool := (s_l22Suspended n O g.fKind g.fNum g.fText g.fValue.fKind g.fValue.fNum g.fValue.fText g.fValue.fRef g.fKids c.fPhase c.fCount c.fVals c.fKids).getD false
theorem zip_loop {α β : Type} {gs : List α} {cs : List β} (hl : gs.length = cs.length) (hx : gs.length ≤ 9223372036854775807) {F : α → β → Option Bool} {q : α → β → Bool} (hF : ∀ y ∈ gs, ∀ z ∈ cs, F y z = some (q y z)) {J : Int → Option Bool}
  (hJ : ∀ i, J i = if decide (i < len gs) = true then (idx gs i).bind fun y => (idx cs i).bind fun z => (F y z).bind fun r => if (!r) = true then some false else J (w64 (i + 1)) else some true) : J 0 = some ((gs.zip cs).all fun p => q p.1 p.2) := by
 have key := loop_ind hx (P := fun i l => J (i : Int) = some ((l.zip (cs.drop i)).all fun p => q p.1 p.2)) (by
  rw [hJ, if_neg (by simp [len_eq])]; simp) (by
  intro i y l hd hlt hy hi hw ih
  have hc : i < cs.length := by omega
  rw [hJ, if_pos (by simp [len_eq, hlt]), hi, hw, idx_nat, List.getElem?_eq_getElem hc, ih]
  simp only [Option.bind_some, hF y hy _ (List.getElem_mem hc)]
  rw [List.drop_eq_getElem_cons hc]
  simp only [List.zip_cons_cons, List.all_cons]
  by_cases hq : q y cs[i] = true <;> simp [hq])
 simpa using key
theorem gNode_kind {x : TGen} (h : gNode x = true) : 1 ≤ x.fKind ∧ x.fKind ≤ 18 ∧ (x.fKids.length : Int) = gKids x.fKind := by
 unfold gNode at h; simp only [Bool.and_eq_true, decide_eq_true_eq] at h; exact ⟨h.1.1.1.1.1, h.1.1.1.1.2, h.2⟩
theorem susp_ok {h : THeap} (hO : h.fObjects.length ≤ 1048576) (hs : incF 0 h.fObjects = true) : ∀ g : TGen, g.good = true → g.m ≤ 1048576 → ∀ c : TCursor, c.m ≤ 1048576 →
    s_l22Suspended h.fNext h.fObjects g.fKind g.fNum g.fText g.fValue.fKind g.fValue.fNum g.fValue.fText g.fValue.fRef g.fKids c.fPhase c.fCount c.fVals c.fKids = some (suspB h.fNext h.fObjects g c) ∧ i_Heap_isSuspended h g c = some (suspB h.fNext h.fObjects g c) := by
  intro g
  induction g using TGen.ind with
  | h g ih =>
    intro hgood hgm c hcm
    have hgq := g.m_eq
    have hcq := c.m_eq
    rw [TGen.good_eq, Bool.and_eq_true] at hgood
    obtain ⟨hnode, hkids⟩ := hgood
    obtain ⟨k1, k18, hk⟩ := gNode_kind hnode
    have hkid : ∀ y ∈ g.fKids, ∀ z ∈ c.fKids, s_l22Suspended h.fNext h.fObjects y.fKind y.fNum y.fText y.fValue.fKind y.fValue.fNum y.fValue.fText y.fValue.fRef y.fKids z.fPhase z.fCount z.fVals z.fKids = some (suspB h.fNext h.fObjects y z) ∧ i_Heap_isSuspended h y z = some (suspB h.fNext h.fObjects y z) :=
      fun y hy z hz => ih y hy (List.all_eq_true.1 hkids y hy) (by have := TGen.m_kid hy; omega) z (by have := TCursor.m_kid hz; omega)
    suffices hw : ∃ b, s_l22Suspended h.fNext h.fObjects g.fKind g.fNum g.fText g.fValue.fKind g.fValue.fNum g.fValue.fText g.fValue.fRef g.fKids c.fPhase c.fCount c.fVals c.fKids = some b ∧ i_Heap_isSuspended h g c = some b by
      obtain ⟨b, e1, e2⟩ := hw
      have : suspB h.fNext h.fObjects g c = b := by unfold suspB; rw [e1]; rfl
      rw [this]; exact ⟨e1, e2⟩
    have iloop : ∀ gs : List TGen, (∀ y ∈ gs, y ∈ g.fKids) → gs.length = c.fKids.length → i_Heap_isSuspended_L8 gs (len gs) 0 h.fNext h.fObjects c.fPhase c.fCount c.fVals c.fKids = some ((gs.zip c.fKids).all fun p => suspB h.fNext h.fObjects p.1 p.2) := fun gs hsub hlen =>
      zip_loop hlen (by omega) (F := fun y z => i_Heap_isSuspended h y z) (q := suspB h.fNext h.fObjects) (fun y hy z hz => (hkid y (hsub y hy) z hz).2) (J := fun i => i_Heap_isSuspended_L8 gs (len gs) i h.fNext h.fObjects c.fPhase c.fCount c.fVals c.fKids) (fun i => by
        show i_Heap_isSuspended_L8 _ _ _ _ _ _ _ _ _ = _
        rw [i_Heap_isSuspended_L8_eq]
        simp only [TGen.re_eq, TCursor.re_eq])
    have sloop : g.fKids.length = c.fKids.length → s_l22Suspended_L18 h.fNext h.fObjects g.fKind g.fNum g.fText g.fValue.fKind g.fValue.fNum g.fValue.fText g.fValue.fRef g.fKids c.fPhase c.fCount c.fVals c.fKids 0 = some ((g.fKids.zip c.fKids).all fun p => suspB h.fNext h.fObjects p.1 p.2) := fun hlen =>
      zip_loop hlen (by omega) (F := fun y z => s_l22Suspended h.fNext h.fObjects y.fKind y.fNum y.fText y.fValue.fKind y.fValue.fNum y.fValue.fText y.fValue.fRef y.fKids z.fPhase z.fCount z.fVals z.fKids) (q := suspB h.fNext h.fObjects) (fun y hy z hz => (hkid y hy z hz).1) (J := fun i => s_l22Suspended_L18 h.fNext h.fObjects g.fKind g.fNum g.fText g.fValue.fKind g.fValue.fNum g.fValue.fText g.fValue.fRef g.fKids c.fPhase c.fCount c.fVals c.fKids i) (fun i => by
        show s_l22Suspended_L18 _ _ _ _ _ _ _ _ _ _ _ _ _ _ _ = _
        rw [s_l22Suspended_L18_eq]
        have : len c.fKids = len g.fKids := by rw [len_eq, len_eq, hlen]
        rw [this])
    rw [s_susp_step hO h.fNext k1 k18 (by omega), i_susp_step hO hs (by omega) (by omega)]
    have hv : (formOf g c.fPhase).fVals = vlsB g.fKind ∨ g.fKind = 3 ∨ g.fKind = 9 := by
      have : g.fKind = 1 ∨ g.fKind = 2 ∨ g.fKind = 3 ∨ g.fKind = 4 ∨ g.fKind = 5 ∨ g.fKind = 6 ∨ g.fKind = 7 ∨ g.fKind = 8 ∨ g.fKind = 9 ∨ g.fKind = 10 ∨ g.fKind = 11 ∨ g.fKind = 12 ∨ g.fKind = 13 ∨ g.fKind = 14 ∨ g.fKind = 15 ∨ g.fKind = 16 ∨ g.fKind = 17 ∨ g.fKind = 18 := by omega
      rcases this with k | k | k | k | k | k | k | k | k | k | k | k | k | k | k | k | k | k <;> simp [formOf, vlsB, k] <;> (rw [k] at hk; simp [gKids] at hk ⊢; try (rw [len_eq]; omega))
    by_cases h39 : g.fKind = 3 ∨ g.fKind = 9
    · refine ⟨false, ?_, ?_⟩
      · split
        · rw [s_l22Suspended_L3_eq]; rcases h39 with k | k <;> simp [k]
        · rfl
      · rw [if_neg]; simp [formOf, h39]
    have hv2 : (formOf g c.fPhase).fVals = vlsB g.fKind := by rcases hv with e | e | e; exact e; exact absurd (Or.inl e) h39; exact absurd (Or.inr e) h39
    rw [hv2]
    simp only [not_or] at h39
    cases hA : (cntB g.fKind g.fNum c.fCount && decide ((c.fVals.length : Int) = vlsB g.fKind) && c.fVals.all (vFits h.fObjects))
    · refine ⟨false, by simp, ?_⟩
      rw [if_neg]
      intro hh
      simp only [Bool.and_eq_true] at hh
      rw [Bool.eq_false_iff] at hA
      exact hA (by simp only [Bool.and_eq_true]; exact ⟨⟨hh.1.1.1.2, hh.1.1.2⟩, hh.1.2⟩)
    · have hA2 := hA
      simp only [Bool.and_eq_true] at hA2
      obtain ⟨⟨a1, a2⟩, a3⟩ := hA2
      rw [if_pos rfl, a1, a2, a3]
      simp only [Bool.and_true]
      rw [s_l22Suspended_L3_eq]
      simp only [beq_iff_eq, h39.1, h39.2, if_false, s_l22Suspended_L10_eq]
      by_cases h127 : g.fKind = 1 ∨ g.fKind = 2 ∨ g.fKind = 7
      · have ef : formOf g c.fPhase = ⟨[1], 0, 0, []⟩ := by simp [formOf, h39.1, h39.2, h127]
        rw [ef]
        have es : ∀ a b e : Option Bool, (if g.fKind = 1 then a else if g.fKind = 2 then a else if g.fKind = 7 then a else b) = a := by
          intro a b _; rcases h127 with k | k | k <;> simp [k]
        rw [es _ _ none]
        refine ⟨decide (c.fPhase = 1) && decide (c.fKids.length = 0), ?_, ?_⟩
        · rw [len_eq, dec_len0]; by_cases hp : c.fPhase = 1 <;> simp [hp]
        · by_cases hp : c.fPhase = 1
          · by_cases hq : c.fKids.length = 0
            · rw [if_pos (by simp [hp, hq]), iloop [] (by simp) (by simp [hq])]; simp [hp, hq]
            · rw [if_neg (by simpa [hp] using hq)]; simp [hq]
          · rw [if_neg (by simp [hp])]; simp [hp]
      · simp only [not_or] at h127
        simp only [h127.1, h127.2.1, h127.2.2, if_false]
        rw [s_l22Suspended_L11_eq]
        by_cases h48 : g.fKind = 4 ∨ g.fKind = 8
        · -- branches
          have hsel : ∃ lo : Int, ∃ phs : List Int, formOf g c.fPhase = ⟨phs, 0, 0, brOf g c.fPhase⟩ ∧ (∀ z : Int, (phs.any fun w => z == w) = (decide (lo ≤ z) && decide (z ≤ lo + 1))) ∧ 1 ≤ lo ∧ lo + 1 ≤ g.fKids.length ∧ (lo = 1 ∧ g.fKind = 4 ∨ lo = 2 ∧ g.fKind = 8) := by
            rcases h48 with k | k
            · refine ⟨1, [1, 2], by simp [formOf, k], fun z => ?_, by decide, ?_, Or.inl ⟨rfl, k⟩⟩
              · rw [Bool.eq_iff_iff]; simp; omega
              · rw [hk, k]; simp [gKids]
            · refine ⟨2, [2, 3], by simp [formOf, k], fun z => ?_, by decide, ?_, Or.inr ⟨rfl, k⟩⟩
              · rw [Bool.eq_iff_iff]; simp; omega
              · rw [hk, k]; simp [gKids]
          obtain ⟨lo, phs, ef, hany, hlo1, hlo2, hlo⟩ := hsel
          rw [ef]
          simp only [hany]
          have es : ∀ (R : Int → Int → Option Bool) (e : Option Bool), (if g.fKind = 4 then R 1 2 else if g.fKind = 8 then R 2 3 else e) = R lo (lo + 1) := by
            intro R e; rcases hlo with ⟨l, k⟩ | ⟨l, k⟩ <;> simp [l, k]
          simp only [beq_iff_eq, s_l00In_ok, Option.bind_some]
          rw [es (fun a b => if (decide (a ≤ c.fPhase) && decide (c.fPhase ≤ b)) = true then if len c.fKids = 1 then (idx g.fKids (w64 (c.fPhase - 1))).bind fun y => (idx c.fKids 0).bind fun z => (s_l22Suspended h.fNext h.fObjects y.fKind y.fNum y.fText y.fValue.fKind y.fValue.fNum y.fValue.fText y.fValue.fRef y.fKids z.fPhase z.fCount z.fVals z.fKids).bind fun r => some r else some false else some false)]
          by_cases hph : lo ≤ c.fPhase ∧ c.fPhase ≤ lo + 1
          · have hpd : (decide (lo ≤ c.fPhase) && decide (c.fPhase ≤ lo + 1)) = true := by simp [hph.1, hph.2]
            rw [hpd, if_pos rfl]
            obtain ⟨p, hp⟩ : ∃ p : Nat, c.fPhase = ((p + 1 : Nat) : Int) := ⟨c.fPhase.toNat - 1, by omega⟩
            have hplt : p < g.fKids.length := by omega
            have hbr : brOf g c.fPhase = [g.fKids[p]] := by
              unfold brOf
              rw [if_pos ⟨by omega, by omega⟩, hp]
              simp only [Int.toNat_natCast, Nat.add_sub_cancel]
              rw [List.drop_eq_getElem_cons (by simp; omega), List.drop_eq_nil_of_le (by simp; omega)]
              simp
            have hw1 : w64 (c.fPhase - 1) = (p : Int) := by rw [w64_of (by omega) (by omega)]; omega
            rw [hbr, hw1, idx_nat, List.getElem?_eq_getElem hplt]
            by_cases hl1 : c.fKids.length = 1
            · obtain ⟨z, hz⟩ := List.length_eq_one_iff.1 hl1
              have hz0 : idx c.fKids 0 = some z := by rw [idx_zero, hz]; rfl
              have hzm : z ∈ c.fKids := by rw [hz]; simp
              rw [if_pos (by rw [len_eq]; omega), hz0]
              simp only [Option.bind_some, (hkid g.fKids[p] (List.getElem_mem hplt) z hzm).1]
              refine ⟨suspB h.fNext h.fObjects g.fKids[p] z, rfl, ?_⟩
              rw [if_pos (by simp [hl1]), iloop _ (fun y hy => by simp at hy; rw [hy]; exact List.getElem_mem hplt) (by simp [hl1]), hz]
              simp
            · rw [if_neg (by rw [len_eq]; omega)]
              exact ⟨false, rfl, by rw [if_neg (by simpa using hl1)]⟩
          · have hpd : (decide (lo ≤ c.fPhase) && decide (c.fPhase ≤ lo + 1)) = false := by
              rw [Bool.eq_false_iff]; simpa using hph
            rw [hpd]
            exact ⟨false, by simp, by simp⟩
        · simp only [not_or] at h48
          have ef : ∃ a b, formOf g c.fPhase = ⟨[1], a, b, g.fKids⟩ := by
            simp only [formOf, h39.1, h39.2, h127.1, h127.2.1, h127.2.2, h48.1, h48.2, or_self, if_false]
            split
            · exact ⟨_, _, rfl⟩
            split
            · exact ⟨_, _, rfl⟩
            split
            · exact ⟨_, _, rfl⟩
            split
            · exact ⟨_, _, rfl⟩
            split <;> exact ⟨_, _, rfl⟩
          obtain ⟨_, _, ef⟩ := ef
          rw [ef]
          simp only [beq_iff_eq, h48.1, h48.2, if_false]
          by_cases hp : c.fPhase = 1
          · by_cases hl : c.fKids.length = g.fKids.length
            · refine ⟨((g.fKids.zip c.fKids).all fun p => suspB h.fNext h.fObjects p.1 p.2), ?_, ?_⟩
              · rw [if_neg (by simp [hp]), if_neg (by simp [len_eq, hl]), sloop hl.symm]
              · rw [if_pos (by simp [hp, hl]), iloop g.fKids (fun y hy => hy) hl.symm]
            · refine ⟨false, ?_, ?_⟩
              · rw [if_neg (by simp [hp]), if_pos (by simp [len_eq]; omega)]
              · rw [if_neg (by simp [hl])]
          · refine ⟨false, ?_, ?_⟩
            · rw [if_pos (by simpa using hp)]
            · rw [if_neg (by simp [hp])]
end Go.Dv.U

namespace Go.Dv.U
open Go Go.Dv Go.Proofs
theorem TGen.etaR (x : TGen) : TGen.mk x.fKind x.fNum x.fText x.fValue x.fKids = x := by cases x; rfl
theorem TGen.etaF (x : TGen) : TGen.mk x.fKind x.fNum x.fText (TValue.mk x.fValue.fKind x.fValue.fNum x.fValue.fText x.fValue.fRef) x.fKids = x := by cases x; rfl
theorem TCursor.etaR (x : TCursor) : TCursor.mk x.fPhase x.fCount x.fVals x.fKids = x := by cases x; rfl
theorem ownValueS_of {xs : List TValue} (hx : xs.length ≤ 68719476736) (hF : ∀ y ∈ xs, l_toValue y = some y) : l_toValueS_v1 xs = some ((xs, ()), ()) := by
 rw [l_toValueS_v1_eq, mk_len _ _ hx]
 simp only [Option.bind_some]
 exact toE_loop (xs := xs) (by omega) (F := l_toValue) (G := fun r198 => r198) (E := fun zs => some ((zs, ()), ())) (J := l_toValueS_L3_v1) (fun i zs => by rw [l_toValueS_L3_v1_eq]; first | done | (simp only [TGen.re_eq, TCursor.re_eq]; done) | (simp only [TGen.re_eq, TCursor.re_eq]; rfl)) (fun y hy => ⟨_, hF y hy, by first | rfl | (cases y; rfl) | (cases y; simp only [TGen.etaR, TGen.etaF, TCursor.etaR])⟩) _ (by simp)
theorem ownObject_ok : ∀ x : TObject, x.m ≤ 1048576 → l_toObject_v1 x = some ((x.fId, x.fKind, x.fName, x.fLow, x.fKeys, x.fVals, x.fDefault.fKind, x.fDefault.fNum, x.fDefault.fText, x.fDefault.fRef, ()), ()) := by
 intro x
 intro hm
 have hq := x.m_eq
 have := x.fDefault.m_eq
 rw [l_toObject_v1_eq]
 try simp only [TGen.re_eq, TCursor.re_eq]
 simp only [ownValueS_of (xs := x.fKeys) (by omega) (fun y hy => toValue_ok y (by have := sumOf_mem (m := TValue.m) hy; omega)), ownValueS_of (xs := x.fVals) (by omega) (fun y hy => toValue_ok y (by have := sumOf_mem (m := TValue.m) hy; omega)), toValue_ok x.fDefault (by omega), Option.bind_some]
theorem ownObjectS_of {xs : List TObject} (hx : xs.length ≤ 68719476736) (hF : ∀ y ∈ xs, l_toObject_v1 y = some ((y.fId, y.fKind, y.fName, y.fLow, y.fKeys, y.fVals, y.fDefault.fKind, y.fDefault.fNum, y.fDefault.fText, y.fDefault.fRef, ()), ())) : l_toObjectS_v1 xs = some ((xs, ()), ()) := by
 rw [l_toObjectS_v1_eq, mk_len _ _ hx]
 simp only [Option.bind_some]
 exact toE_loop (xs := xs) (by omega) (F := l_toObject_v1) (G := fun r198 => (TObject.mk (Prod.fst (Prod.fst r198)) (Prod.fst (Prod.snd (Prod.fst r198))) (Prod.fst (Prod.snd (Prod.snd (Prod.fst r198)))) (Prod.fst (Prod.snd (Prod.snd (Prod.snd (Prod.fst r198))))) (Prod.fst (Prod.snd (Prod.snd (Prod.snd (Prod.snd (Prod.fst r198)))))) (Prod.fst (Prod.snd (Prod.snd (Prod.snd (Prod.snd (Prod.snd (Prod.fst r198))))))) (TValue.mk (Prod.fst (Prod.snd (Prod.snd (Prod.snd (Prod.snd (Prod.snd (Prod.snd (Prod.fst r198)))))))) (Prod.fst (Prod.snd (Prod.snd (Prod.snd (Prod.snd (Prod.snd (Prod.snd (Prod.snd (Prod.fst r198))))))))) (Prod.fst (Prod.snd (Prod.snd (Prod.snd (Prod.snd (Prod.snd (Prod.snd (Prod.snd (Prod.snd (Prod.fst r198)))))))))) (Prod.fst (Prod.snd (Prod.snd (Prod.snd (Prod.snd (Prod.snd (Prod.snd (Prod.snd (Prod.snd (Prod.snd (Prod.fst r198)))))))))))))) (E := fun zs => some ((zs, ()), ())) (J := l_toObjectS_L3_v1) (fun i zs => by rw [l_toObjectS_L3_v1_eq]; first | done | (simp only [TGen.re_eq, TCursor.re_eq]; done) | (simp only [TGen.re_eq, TCursor.re_eq]; rfl)) (fun y hy => ⟨_, hF y hy, by first | rfl | (cases y; rfl) | (cases y; simp only [TGen.etaR, TGen.etaF, TCursor.etaR])⟩) _ (by simp)
theorem ownHeap_ok : ∀ x : THeap, x.m ≤ 1048576 → l_toHeap_v1 x = some ((x.fNext, x.fObjects, ()), ()) := by
 intro x
 intro hm
 have hq := x.m_eq
 rw [l_toHeap_v1_eq]
 try simp only [TGen.re_eq, TCursor.re_eq]
 simp only [ownObjectS_of (xs := x.fObjects) (by omega) (fun y hy => ownObject_ok y (by have := sumOf_mem (m := TObject.m) hy; omega)), Option.bind_some]
theorem ownGenS_of {xs : List TGen} (hx : xs.length ≤ 68719476736) (hF : ∀ y ∈ xs, l_toGen_v1 y = some ((y.fKind, y.fNum, y.fText, y.fValue.fKind, y.fValue.fNum, y.fValue.fText, y.fValue.fRef, y.fKids, ()), ())) : l_toGenS_v1 xs = some ((xs, ()), ()) := by
 rw [l_toGenS_v1_eq, mk_len _ _ hx]
 simp only [Option.bind_some]
 exact toE_loop (xs := xs) (by omega) (F := l_toGen_v1) (G := fun r198 => (TGen.mk (Prod.fst (Prod.fst r198)) (Prod.fst (Prod.snd (Prod.fst r198))) (Prod.fst (Prod.snd (Prod.snd (Prod.fst r198)))) (TValue.mk (Prod.fst (Prod.snd (Prod.snd (Prod.snd (Prod.fst r198))))) (Prod.fst (Prod.snd (Prod.snd (Prod.snd (Prod.snd (Prod.fst r198)))))) (Prod.fst (Prod.snd (Prod.snd (Prod.snd (Prod.snd (Prod.snd (Prod.fst r198))))))) (Prod.fst (Prod.snd (Prod.snd (Prod.snd (Prod.snd (Prod.snd (Prod.snd (Prod.fst r198))))))))) (Prod.fst (Prod.snd (Prod.snd (Prod.snd (Prod.snd (Prod.snd (Prod.snd (Prod.snd (Prod.fst r198))))))))))) (E := fun zs => some ((zs, ()), ())) (J := l_toGenS_L3_v1) (fun i zs => by rw [l_toGenS_L3_v1_eq]; first | done | (simp only [TGen.re_eq, TCursor.re_eq]; done) | (simp only [TGen.re_eq, TCursor.re_eq]; rfl)) (fun y hy => ⟨_, hF y hy, by first | rfl | (cases y; rfl) | (cases y; simp only [TGen.etaR, TGen.etaF, TCursor.etaR])⟩) _ (by simp)
theorem ownGen_ok : ∀ x : TGen, x.m ≤ 1048576 → l_toGen_v1 x = some ((x.fKind, x.fNum, x.fText, x.fValue.fKind, x.fValue.fNum, x.fValue.fText, x.fValue.fRef, x.fKids, ()), ()) := by
 refine TGen.ind fun x ih => ?_
 intro hm
 have hq := x.m_eq
 have := x.fValue.m_eq
 rw [l_toGen_v1_eq]
 try simp only [TGen.re_eq, TCursor.re_eq]
 simp only [toValue_ok x.fValue (by omega), ownGenS_of (xs := x.fKids) (by omega) (fun y hy => ih y hy (by have := TGen.m_kid hy; omega)), Option.bind_some]
theorem ownCursorS_of {xs : List TCursor} (hx : xs.length ≤ 68719476736) (hF : ∀ y ∈ xs, l_toCursor_v1 y = some ((y.fPhase, y.fCount, y.fVals, y.fKids, ()), ())) : l_toCursorS_v1 xs = some ((xs, ()), ()) := by
 rw [l_toCursorS_v1_eq, mk_len _ _ hx]
 simp only [Option.bind_some]
 exact toE_loop (xs := xs) (by omega) (F := l_toCursor_v1) (G := fun r198 => (TCursor.mk (Prod.fst (Prod.fst r198)) (Prod.fst (Prod.snd (Prod.fst r198))) (Prod.fst (Prod.snd (Prod.snd (Prod.fst r198)))) (Prod.fst (Prod.snd (Prod.snd (Prod.snd (Prod.fst r198))))))) (E := fun zs => some ((zs, ()), ())) (J := l_toCursorS_L3_v1) (fun i zs => by rw [l_toCursorS_L3_v1_eq]; first | done | (simp only [TGen.re_eq, TCursor.re_eq]; done) | (simp only [TGen.re_eq, TCursor.re_eq]; rfl)) (fun y hy => ⟨_, hF y hy, by first | rfl | (cases y; rfl) | (cases y; simp only [TGen.etaR, TGen.etaF, TCursor.etaR])⟩) _ (by simp)
theorem ownCursor_ok : ∀ x : TCursor, x.m ≤ 1048576 → l_toCursor_v1 x = some ((x.fPhase, x.fCount, x.fVals, x.fKids, ()), ()) := by
 refine TCursor.ind fun x ih => ?_
 intro hm
 have hq := x.m_eq
 rw [l_toCursor_v1_eq]
 try simp only [TGen.re_eq, TCursor.re_eq]
 simp only [ownValueS_of (xs := x.fVals) (by omega) (fun y hy => toValue_ok y (by have := sumOf_mem (m := TValue.m) hy; omega)), ownCursorS_of (xs := x.fKids) (by omega) (fun y hy => ih y hy (by have := TCursor.m_kid hy; omega)), Option.bind_some]
theorem ownBindingS_of {xs : List TBinding} (hx : xs.length ≤ 68719476736) (hF : ∀ y ∈ xs, l_toBinding y = some y) : l_toBindingS_v2 xs = some ((xs, ()), ()) := by
 rw [l_toBindingS_v2_eq, mk_len _ _ hx]
 simp only [Option.bind_some]
 exact toE_loop (xs := xs) (by omega) (F := l_toBinding) (G := fun r198 => r198) (E := fun zs => some ((zs, ()), ())) (J := l_toBindingS_L3_v2) (fun i zs => by rw [l_toBindingS_L3_v2_eq]; first | done | (simp only [TGen.re_eq, TCursor.re_eq]; done) | (simp only [TGen.re_eq, TCursor.re_eq]; rfl)) (fun y hy => ⟨_, hF y hy, by first | rfl | (cases y; rfl) | (cases y; simp only [TGen.etaR, TGen.etaF, TCursor.etaR])⟩) _ (by simp)
theorem ownCoexpr_ok : ∀ x : TCoexpr, x.m ≤ 1048576 → l_toCoexpr_v1 x = some ((x.fId, x.fBody.fKind, x.fBody.fNum, x.fBody.fText, x.fBody.fValue.fKind, x.fBody.fValue.fNum, x.fBody.fValue.fText, x.fBody.fValue.fRef, x.fBody.fKids, x.fStart, x.fVars, x.fCursor.fPhase, x.fCursor.fCount, x.fCursor.fVals, x.fCursor.fKids, x.fCount, x.fDone, ()), ()) := by
 intro x
 intro hm
 have hq := x.m_eq
 have := x.fBody.m_eq
 have := x.fBody.fValue.m_eq
 have := x.fCursor.m_eq
 rw [l_toCoexpr_v1_eq]
 try simp only [TGen.re_eq, TCursor.re_eq]
 simp only [ownGen_ok x.fBody (by omega), ownBindingS_of (xs := x.fStart) (by omega) (fun y hy => toBinding_ok y (by have := sumOf_mem (m := TBinding.m) hy; omega)), ownBindingS_of (xs := x.fVars) (by omega) (fun y hy => toBinding_ok y (by have := sumOf_mem (m := TBinding.m) hy; omega)), ownCursor_ok x.fCursor (by omega), Option.bind_some]
theorem ownCoexprS_of {xs : List TCoexpr} (hx : xs.length ≤ 68719476736) (hF : ∀ y ∈ xs, l_toCoexpr_v1 y = some ((y.fId, y.fBody.fKind, y.fBody.fNum, y.fBody.fText, y.fBody.fValue.fKind, y.fBody.fValue.fNum, y.fBody.fValue.fText, y.fBody.fValue.fRef, y.fBody.fKids, y.fStart, y.fVars, y.fCursor.fPhase, y.fCursor.fCount, y.fCursor.fVals, y.fCursor.fKids, y.fCount, y.fDone, ()), ())) : l_toCoexprS_v1 xs = some ((xs, ()), ()) := by
 rw [l_toCoexprS_v1_eq, mk_len _ _ hx]
 simp only [Option.bind_some]
 exact toE_loop (xs := xs) (by omega) (F := l_toCoexpr_v1) (G := fun r198 => (TCoexpr.mk (Prod.fst (Prod.fst r198)) (TGen.mk (Prod.fst (Prod.snd (Prod.fst r198))) (Prod.fst (Prod.snd (Prod.snd (Prod.fst r198)))) (Prod.fst (Prod.snd (Prod.snd (Prod.snd (Prod.fst r198))))) (TValue.mk (Prod.fst (Prod.snd (Prod.snd (Prod.snd (Prod.snd (Prod.fst r198)))))) (Prod.fst (Prod.snd (Prod.snd (Prod.snd (Prod.snd (Prod.snd (Prod.fst r198))))))) (Prod.fst (Prod.snd (Prod.snd (Prod.snd (Prod.snd (Prod.snd (Prod.snd (Prod.fst r198)))))))) (Prod.fst (Prod.snd (Prod.snd (Prod.snd (Prod.snd (Prod.snd (Prod.snd (Prod.snd (Prod.fst r198)))))))))) (Prod.fst (Prod.snd (Prod.snd (Prod.snd (Prod.snd (Prod.snd (Prod.snd (Prod.snd (Prod.snd (Prod.fst r198))))))))))) (Prod.fst (Prod.snd (Prod.snd (Prod.snd (Prod.snd (Prod.snd (Prod.snd (Prod.snd (Prod.snd (Prod.snd (Prod.fst r198))))))))))) (Prod.fst (Prod.snd (Prod.snd (Prod.snd (Prod.snd (Prod.snd (Prod.snd (Prod.snd (Prod.snd (Prod.snd (Prod.snd (Prod.fst r198)))))))))))) (TCursor.mk (Prod.fst (Prod.snd (Prod.snd (Prod.snd (Prod.snd (Prod.snd (Prod.snd (Prod.snd (Prod.snd (Prod.snd (Prod.snd (Prod.snd (Prod.fst r198))))))))))))) (Prod.fst (Prod.snd (Prod.snd (Prod.snd (Prod.snd (Prod.snd (Prod.snd (Prod.snd (Prod.snd (Prod.snd (Prod.snd (Prod.snd (Prod.snd (Prod.fst r198)))))))))))))) (Prod.fst (Prod.snd (Prod.snd (Prod.snd (Prod.snd (Prod.snd (Prod.snd (Prod.snd (Prod.snd (Prod.snd (Prod.snd (Prod.snd (Prod.snd (Prod.snd (Prod.fst r198))))))))))))))) (Prod.fst (Prod.snd (Prod.snd (Prod.snd (Prod.snd (Prod.snd (Prod.snd (Prod.snd (Prod.snd (Prod.snd (Prod.snd (Prod.snd (Prod.snd (Prod.snd (Prod.snd (Prod.fst r198))))))))))))))))) (Prod.fst (Prod.snd (Prod.snd (Prod.snd (Prod.snd (Prod.snd (Prod.snd (Prod.snd (Prod.snd (Prod.snd (Prod.snd (Prod.snd (Prod.snd (Prod.snd (Prod.snd (Prod.snd (Prod.fst r198))))))))))))))))) (Prod.fst (Prod.snd (Prod.snd (Prod.snd (Prod.snd (Prod.snd (Prod.snd (Prod.snd (Prod.snd (Prod.snd (Prod.snd (Prod.snd (Prod.snd (Prod.snd (Prod.snd (Prod.snd (Prod.snd (Prod.fst r198)))))))))))))))))))) (E := fun zs => some ((zs, ()), ())) (J := l_toCoexprS_L3_v1) (fun i zs => by rw [l_toCoexprS_L3_v1_eq]; first | done | (simp only [TGen.re_eq, TCursor.re_eq]; done) | (simp only [TGen.re_eq, TCursor.re_eq]; rfl)) (fun y hy => ⟨_, hF y hy, by first | rfl | (cases y; rfl) | (cases y; simp only [TGen.etaR, TGen.etaF, TCursor.etaR])⟩) _ (by simp)
theorem ownGenScope_ok : ∀ x : TGenScope, x.m ≤ 1048576 → l_toGenScope_v1 x = some ((x.fVars, x.fHeap.fNext, x.fHeap.fObjects, x.fCos, x.fSteps, ()), ()) := by
 intro x
 intro hm
 have hq := x.m_eq
 have := x.fHeap.m_eq
 rw [l_toGenScope_v1_eq]
 try simp only [TGen.re_eq, TCursor.re_eq]
 simp only [ownBindingS_of (xs := x.fVars) (by omega) (fun y hy => toBinding_ok y (by have := sumOf_mem (m := TBinding.m) hy; omega)), ownHeap_ok x.fHeap (by omega), ownCoexprS_of (xs := x.fCos) (by omega) (fun y hy => ownCoexpr_ok y (by have := sumOf_mem (m := TCoexpr.m) hy; omega)), Option.bind_some]
end Go.Dv.U

namespace Go.Dv.U
open Go Go.Dv Go.Proofs
theorem gEtaF (x : TGen) : TGen.mk x.fKind x.fNum x.fText (TValue.mk x.fValue.fKind x.fValue.fNum x.fValue.fText x.fValue.fRef) x.fKids = x := by cases x; rfl
theorem cEtaF (x : TCursor) : TCursor.mk x.fPhase x.fCount x.fVals x.fKids = x := by cases x; rfl
noncomputable def coOk (n : Int) (O : List TObject) (c : TCoexpr) : Bool := (decide (1 ≤ c.fId) && decide (c.fId ≤ 1000000)) && c.fBody.valid && gRefs O c.fBody && varsOk O c.fStart && varsOk O c.fVars && (decide (0 ≤ c.fCount) && decide (c.fCount ≤ 1000000)) &&
 (if c.fDone = true ∨ c.fCount = 0 then cuZero c.fCursor else suspB n O c.fBody c.fCursor)
theorem valid_good {x : TGen} (h : x.valid = true) : x.good = true := by unfold TGen.valid at h; simp only [Bool.and_eq_true] at h; exact h.1
theorem s_co_ok {n : Int} {O : List TObject} (hO : O.length ≤ 1048576) (hs : incF 0 O = true) {c : TCoexpr} (hm : c.m ≤ 1048576) :
  s_l22Co n O c.fId c.fBody.fKind c.fBody.fNum c.fBody.fText c.fBody.fValue.fKind c.fBody.fValue.fNum c.fBody.fValue.fText c.fBody.fValue.fRef c.fBody.fKids c.fStart c.fVars c.fCursor.fPhase c.fCursor.fCount c.fCursor.fVals c.fCursor.fKids c.fCount c.fDone = some (coOk n O c) := by
 have hq := c.m_eq
 rw [s_l22Co_eq]
 simp only [s_l22Co_L2_eq, s_l22Co_L3_eq, s_l00In_ok, Option.bind_some, s_l22Ok_ok (x := c.fBody) (by omega), s_l22Refs_ok hO n c.fBody (by omega), s_l22Vars_ok hO n (vs := c.fStart) (by omega), s_l22Vars_ok hO n (vs := c.fVars) (by omega), s_zero_ok]
 unfold coOk
 cases (decide (1 ≤ c.fId) && decide (c.fId ≤ 1000000))
 ·simp
 by_cases hv : c.fBody.valid = true
 rotate_left
 ·simp [hv]
 have hsus := (susp_ok (h := THeap.mk n O) hO hs c.fBody (valid_good hv) (by omega) c.fCursor (by omega)).1
 simp only at hsus
 rw [hsus, hv]
 cases gRefs O c.fBody <;> cases varsOk O c.fStart <;> cases varsOk O c.fVars <;> cases (decide (0 ≤ c.fCount) && decide (c.fCount ≤ 1000000)) <;> simp
 cases hd : c.fDone
 ·by_cases h0 : c.fCount = 0 <;> simp [h0]
 ·simp
theorem i_co_ok {n : Int} {O : List TObject} (hO : O.length ≤ 1048576) (hs : incF 0 O = true) {c : TCoexpr} (hm : c.m ≤ 1048576) : i_Heap_isCo (THeap.mk n O) c = some (coOk n O c) := by
 have hq := c.m_eq
 rw [i_Heap_isCo_eq]
 simp only [i_Heap_isCo_L2_eq, i_Heap_isCo_L3_eq, i_Heap_isCo_L4_eq, gEtaF, cEtaF, TGen.re_eq, TCursor.re_eq, i_within_ok, Option.bind_some, i_ValidGen_ok (x := c.fBody) (by omega), i_fitsGen_ok (THeap.mk n O) hO hs c.fBody (by omega), i_areVars_ok (h := THeap.mk n O) hO hs (vs := c.fStart) (by omega), i_areVars_ok (h := THeap.mk n O) hO hs (vs := c.fVars) (by omega), i_isZero_ok]
 unfold coOk
 cases (decide (1 ≤ c.fId) && decide (c.fId ≤ 1000000))
 ·simp
 by_cases hv : c.fBody.valid = true
 rotate_left
 ·simp [hv]
 have hsus := (susp_ok (h := THeap.mk n O) hO hs c.fBody (valid_good hv) (by omega) c.fCursor (by omega)).2
 simp only at hsus
 rw [hsus, hv]
 cases gRefs O c.fBody <;> cases varsOk O c.fStart <;> cases varsOk O c.fVars <;> cases (decide (0 ≤ c.fCount) && decide (c.fCount ≤ 1000000)) <;> simp
 cases hd : c.fDone
 ·by_cases h0 : c.fCount = 0 <;> simp [h0]
 ·simp
def coGe (a b : TCoexpr) : Bool := decide (a.fId ≥ b.fId)
noncomputable def gsOk (x : TGenScope) : Bool := hpOk x.fHeap.fNext x.fHeap.fObjects && varsOk x.fHeap.fObjects x.fVars && decide (x.fCos.length ≤ 8) && (x.fCos.all (coOk x.fHeap.fNext x.fHeap.fObjects) && adjR coGe x.fCos) && (decide (0 ≤ x.fSteps) && decide (x.fSteps ≤ 20000))
theorem obs_len {O : List TObject} (h : sumOf TObject.m O ≤ 1048576) : ∀ o ∈ O, o.fKeys.length ≤ 1048576 ∧ o.fVals.length ≤ 1048576 := by
 intro o ho
 have h1 := sumOf_mem (m := TObject.m) ho
 have h2 := o.m_eq
 exact ⟨by omega, by omega⟩
theorem s_scope_ok {x : TGenScope} (hm : x.m ≤ 1048576) : s_l22Scope x.fVars x.fHeap.fNext x.fHeap.fObjects x.fCos x.fSteps = some (gsOk x) := by
 have hq := x.m_eq
 have hq2 := x.fHeap.m_eq
 rw [s_l22Scope_eq, s_l07Ok_ok (by omega) (obs_len (by omega))]
 simp only [s_l22Scope_L2_eq, s_l22Scope_L3_eq, Option.bind_some, s_l00In_ok]
 unfold gsOk
 by_cases hh : hpOk x.fHeap.fNext x.fHeap.fObjects = true
 rotate_left
 ·simp [hh]
 have hs := hpOk_inc hh
 rw [hh, s_l22Vars_ok (by omega) _ (by omega)]
 simp only [Option.bind_some]
 have ed : decide (len x.fCos > 8) = !decide (x.fCos.length ≤ 8) := by rw [Bool.eq_iff_iff]; simp only [len_eq, Bool.not_eq_true', decide_eq_true_eq, decide_eq_false_iff_not]; omega
 rw [ed]
 have key := chkR_loop (xs := x.fCos) (by omega) (p := coOk x.fHeap.fNext x.fHeap.fObjects) (ge := coGe) (E := some true) (J := fun i => s_l22Scope_L4 x.fVars x.fHeap.fNext x.fHeap.fObjects x.fCos x.fSteps i) (by
  intro i hi
  show s_l22Scope_L4 _ _ _ _ _ _ = _
  rw [s_l22Scope_L4_eq]
  by_cases hlt : i < x.fCos.length
  ·rw [if_pos (by simp [len_eq, hlt])]
   have ei : idx x.fCos (i : Int) = some x.fCos[i] := by rw [idx_nat, List.getElem?_eq_getElem hlt]
   have hw : w64 ((i : Int) + 1) = ((i + 1 : Nat) : Int) := by rw [w64_of (by omega) (by omega)]; omega
   have hcm := sumOf_mem (m := TCoexpr.m) (List.getElem_mem hlt)
   simp only [ei, Option.bind_some, s_co_ok (n := x.fHeap.fNext) (O := x.fHeap.fObjects) (by omega) hs (c := x.fCos[i]) (by omega), s_l22Scope_L7_eq, s_l22Scope_L5_eq, hw, List.getElem?_eq_getElem hlt]
   cases i with
   | zero =>
    have hg : ¬ decide (((0 : Nat) : Int) > 0) = true := by simp
    rw [if_neg hg]
    by_cases hc : coOk x.fHeap.fNext x.fHeap.fObjects x.fCos[0] = true <;> simp [hc]
   | succ j =>
    have hg : decide (((j + 1 : Nat) : Int) > 0) = true := by simp only [decide_eq_true_eq]; omega
    have w1 : w64 (((j + 1 : Nat) : Int) - 1) = (j : Int) := by rw [w64_of (by omega) (by omega)]; omega
    rw [if_pos hg, w1, idx_nat, List.getElem?_eq_getElem (show j < x.fCos.length by omega)]
    simp only [Option.bind_some, List.getElem?_eq_getElem (show j < x.fCos.length by omega)]
    by_cases hc : coOk x.fHeap.fNext x.fHeap.fObjects x.fCos[j + 1] = true
    ·by_cases hd : x.fCos[j].fId ≥ x.fCos[j + 1].fId
     ·have hd2 : coGe x.fCos[j] x.fCos[j + 1] = true := by simp only [coGe, decide_eq_true_eq]; exact hd
      rw [if_neg (by simp [hc]), if_pos (by simpa using hd), if_neg (by simp [hd2])]
     ·have hd2 : coGe x.fCos[j] x.fCos[j + 1] = false := by simp only [coGe, decide_eq_false_iff_not]; exact hd
      rw [if_neg (by simp [hc]), if_neg (by simpa using hd), if_pos (by simp [hd2, hc])]
    ·rw [if_pos (by simp [hc]), if_neg (by simp [hc])]
  ·rw [if_neg (by simp only [len_eq, decide_eq_true_eq]; omega), List.getElem?_eq_none (by omega)])
 rw [show s_l22Scope_L4 x.fVars x.fHeap.fNext x.fHeap.fObjects x.fCos x.fSteps 0 = _ from key]
 generalize (x.fCos.all (coOk x.fHeap.fNext x.fHeap.fObjects) && adjR coGe x.fCos) = a
 cases varsOk x.fHeap.fObjects x.fVars <;> cases decide (x.fCos.length ≤ 8) <;> cases (decide (0 ≤ x.fSteps) && decide (x.fSteps ≤ 20000)) <;> cases a <;> simp
theorem i_scope_ok {x : TGenScope} (hm : x.m ≤ 1048576) : i_ValidGenScope x = some (gsOk x) := by
 have hq := x.m_eq
 have hq2 := x.fHeap.m_eq
 rw [i_ValidGenScope_eq, i_ValidHeap_ok (by omega) (obs_len (by omega))]
 simp only [i_ValidGenScope_L2_eq, i_ValidGenScope_L3_eq, Option.bind_some]
 unfold gsOk
 by_cases hh : hpOk x.fHeap.fNext x.fHeap.fObjects = true
 rotate_left
 ·simp [hh]
 have hs := hpOk_inc hh
 rw [hh, i_areVars_ok (by omega) hs (by omega)]
 simp only [Option.bind_some]
 have ed : decide (len x.fCos > 8) = !decide (x.fCos.length ≤ 8) := by rw [Bool.eq_iff_iff]; simp only [len_eq, Bool.not_eq_true', decide_eq_true_eq, decide_eq_false_iff_not]; omega
 rw [ed]
 have ea : i_areAll_impl_Coexpr__1000067 x.fCos x.fHeap.fNext x.fHeap.fObjects = some (x.fCos.all (coOk x.fHeap.fNext x.fHeap.fObjects)) := by
  rw [i_areAll_impl_Coexpr__1000067_eq]
  exact all_loop (xs := x.fCos) (by omega) (F := fun c => i_Heap_isCo (THeap.mk x.fHeap.fNext x.fHeap.fObjects) (TCoexpr.mk c.fId c.fBody c.fStart c.fVars c.fCursor c.fCount c.fDone)) (p := coOk x.fHeap.fNext x.fHeap.fObjects) (J := fun i => i_areAll_impl_Coexpr_L2__1000067 x.fHeap.fNext x.fHeap.fObjects x.fCos (len x.fCos) i) (fun i => by show i_areAll_impl_Coexpr_L2__1000067 _ _ _ _ _ = _; rw [i_areAll_impl_Coexpr_L2__1000067_eq]; try simp only [TGen.re_eq, TCursor.re_eq]) (fun y hy => by
   have hcm := sumOf_mem (m := TCoexpr.m) hy
   exact i_co_ok (n := x.fHeap.fNext) (O := x.fHeap.fObjects) (by omega) hs (c := y) (by omega))
 have ej : i_ValidGenScope_L4 1 x.fVars x.fHeap.fNext x.fHeap.fObjects x.fCos x.fSteps = if adjR coGe x.fCos = true then some (decide (0 ≤ x.fSteps) && decide (x.fSteps ≤ 20000)) else some false :=
  adjR_loop (xs := x.fCos) (by omega) (ge := coGe) (E := some (decide (0 ≤ x.fSteps) && decide (x.fSteps ≤ 20000))) (J := fun i => i_ValidGenScope_L4 i x.fVars x.fHeap.fNext x.fHeap.fObjects x.fCos x.fSteps) (fun i => by
   show i_ValidGenScope_L4 _ _ _ _ _ _ = _
   rw [i_ValidGenScope_L4_eq]
   simp only [i_within_ok, Option.bind_some]
   rfl)
 rw [ea, ej]
 simp only [Option.bind_some]
 cases varsOk x.fHeap.fObjects x.fVars <;> cases decide (x.fCos.length ≤ 8) <;> cases (x.fCos.all (coOk x.fHeap.fNext x.fHeap.fObjects)) <;> cases adjR coGe x.fCos <;> simp
theorem gsOk_inc {x : TGenScope} (h : gsOk x = true) : incF 0 x.fHeap.fObjects = true := by
 unfold gsOk at h; simp only [Bool.and_eq_true] at h; exact hpOk_inc h.1.1.1.1
noncomputable def stOk (x : TGenScope) (g : TGen) (c : TCursor) : Bool := gsOk x && g.valid && gRefs x.fHeap.fObjects g && (cuZero c || suspB x.fHeap.fNext x.fHeap.fObjects g c)
theorem s_ValidState_ok {x : TGenScope} {g : TGen} {c : TCursor} (hm : x.m ≤ 1048576) (hg : g.m ≤ 1048576) (hc : c.m ≤ 1048576) : s_ValidState x g c = some (stOk x g c) := by
 have hq := x.m_eq
 have hq2 := x.fHeap.m_eq
 rw [s_ValidState_eq, s_l22State_eq, s_scope_ok hm, s_l22Ok_ok (x := g) hg, s_l22Refs_ok (by omega) _ g hg, s_zero_ok]
 simp only [Option.bind_some]
 unfold stOk
 by_cases h1 : gsOk x = true
 rotate_left
 ·simp [h1]
 by_cases h2 : g.valid = true
 rotate_left
 ·simp [h2]
 rw [h1, h2, (susp_ok (h := x.fHeap) (by omega) (gsOk_inc h1) g (valid_good h2) hg c hc).1]
 cases gRefs x.fHeap.fObjects g <;> cases cuZero c <;> simp
theorem i_ValidState_ok {x : TGenScope} {g : TGen} {c : TCursor} (hm : x.m ≤ 1048576) (hg : g.m ≤ 1048576) (hc : c.m ≤ 1048576) : i_ValidState x g c = some (stOk x g c) := by
 have hq := x.m_eq
 have hq2 := x.fHeap.m_eq
 rw [i_ValidState_eq]
 simp only [TGen.re_eq, TCursor.re_eq]
 rw [i_scope_ok hm, i_ValidGen_ok (x := g) hg, i_isZero_ok]
 simp only [Option.bind_some]
 unfold stOk
 by_cases h1 : gsOk x = true
 rotate_left
 ·simp [h1]
 by_cases h2 : g.valid = true
 rotate_left
 ·simp [h2]
 rw [h1, h2, i_fitsGen_ok x.fHeap (by omega) (gsOk_inc h1) g hg, (susp_ok (h := x.fHeap) (by omega) (gsOk_inc h1) g (valid_good h2) hg c hc).2]
 simp only [Option.bind_some]
 cases gRefs x.fHeap.fObjects g <;> cases cuZero c <;> simp
theorem gsEta (x : TGenScope) : TGenScope.mk x.fVars (THeap.mk x.fHeap.fNext x.fHeap.fObjects) x.fCos x.fSteps = x := rfl
theorem l_FnExactValidState_ok {x : TGenScope} {g : TGen} {c : TCursor} (h0 : x.Ok) (h1 : g.Ok) (h2 : c.Ok) : l_FnExactValidState x g c = some true := by
 rw [l_FnExactValidState_eq]
 simp only [TGen.re_eq, TCursor.re_eq]
 simp only [szGenScope_ok x h0 1048576 (by decide) (by decide), Option.bind_some]
 by_cases c0 : minus 1048576 x.m < 0
 ·simp [c0]
 have hm : x.m ≤ 1048576 := by have := minus_le c0; omega
 simp only [c0, decide_false, Bool.false_eq_true, if_false]
 rw [szGen_ok g h1 _ (minus_nonneg c0) (minus_lt (by decide) (by decide))]
 simp only [Option.bind_some]
 by_cases c1 : minus (minus 1048576 x.m) g.m < 0
 ·simp [c1]
 have hg : g.m ≤ 1048576 := by rw [minus_minus c0] at c1; have := minus_le c1; omega
 simp only [c1, decide_false, Bool.false_eq_true, if_false]
 rw [szCursor_ok c h2 _ (minus_nonneg c1) (minus_lt (by decide) (minus_lt (by decide) (by decide)))]
 simp only [Option.bind_some]
 by_cases c2 : minus (minus (minus 1048576 x.m) g.m) c.m < 0
 ·simp [c2]
 have hc : c.m ≤ 1048576 := by rw [minus_minus c1, minus_minus c0] at c2; have := minus_le c2; omega
 simp only [c2, decide_false, Bool.false_eq_true, if_false, ownGenScope_ok x hm, ownGen_ok g hg, ownCursor_ok c hc, Option.bind_some, gsEta, gEtaF, cEtaF, s_ValidState_ok hm hg hc, i_ValidState_ok hm hg hc, eqGenScope_ok x hm, eqGen_ok g hg, eqCursor_ok c hc, Bool.not_true]
 simp
end Go.Dv.U
