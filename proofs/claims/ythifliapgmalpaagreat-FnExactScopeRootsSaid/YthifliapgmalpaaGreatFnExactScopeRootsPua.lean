/- Plain laws about these equations. -/
import Derived.Test.YthifliapgmalpaaGreatFnExactScopeRootsEqa
set_option linter.all false
set_option linter.unusedVariables false
set_option linter.unusedSimpArgs false
namespace Go.Dv.U

open Go Go.Dv Go.Proofs

structure TValue.Ok (x : TValue) : Prop where
  P_fKind : (-9223372036854775808 ≤ x.fKind ∧ x.fKind ≤ 9223372036854775807)
  P_fNum : (-9223372036854775808 ≤ x.fNum ∧ x.fNum ≤ 9223372036854775807)
  P_fText : x.fText.length ≤ 9223372036854775807
  P_fRef : (-9223372036854775808 ≤ x.fRef ∧ x.fRef ≤ 9223372036854775807)

theorem TValue.ok_cells (x : TValue) (h : ∀ c ∈ GG.cells 45 x, ∀ k, WfV GG k c) : x.Ok := by
  have h : ∀ c ∈ ([.int .i64 x.fKind, .int .i64 x.fNum, .str x.fText, .int .i64 x.fRef] : List (V GG.S)), ∀ k, WfV GG k c := h
  exact ⟨wfv_int (h (.int .i64 x.fKind) (by simp) 1), wfv_int (h (.int .i64 x.fNum) (by simp) 1), wfv_str (h (.str x.fText) (by simp) 1), wfv_int (h (.int .i64 x.fRef) (by simp) 1)⟩

theorem TValue.ok_of {x : TValue} (h : ∀ k, WfV GG k (inj GG (.st 45) x)) : x.Ok := TValue.ok_cells x (wfv_st h)

def TValue.m (x : TValue) : Nat := x.fText.length

theorem TValue.m_eq (x : TValue) : x.m = x.fText.length := rfl

theorem szValue_ok : ∀ x : TValue, x.Ok → ∀ b : Int, 0 ≤ b → b < 4611686018427387904 → l_szValue x b = some (minus b x.m) := by
  intro x
  intro hok b h0 h1
  rw [l_szValue_eq]
  try simp only [TValue.re_eq, TBinding.re_eq, TFunction.re_eq, TRecordType.re_eq, TScope.re_eq]
  -- fText
  obtain ⟨e1, e2⟩ := minus_len (b := b) (l := x.fText) h0 h1 hok.P_fText
  by_cases c0 : minus b (x.fText.length) < 0
  · simp only [e1.2 c0, decide_true, if_true]
    rw [minus_neg_le c0 (by rw [TValue.m_eq]; omega)]
  have e3 := mt e1.1 c0
  simp only [e3, e2 c0, c0, decide_false, Bool.false_eq_true, if_false]
  try rw [TValue.m_eq]

theorem toValue_ok : ∀ x : TValue, x.m ≤ 1048576 → l_toValue x = some x := by
  intro x
  intro hm
  have hq := x.m_eq
  rw [l_toValue_eq]
  try simp only [TValue.re_eq, TBinding.re_eq, TFunction.re_eq, TRecordType.re_eq, TScope.re_eq]
  try simp only [TValue.eta, TValue.re_eq, TBinding.re_eq, TFunction.re_eq, TRecordType.re_eq, TScope.re_eq]

theorem eqValue_ok : ∀ x : TValue, x.m ≤ 1048576 → l_eqValue x x = some true := by
  intro x
  intro hm
  have hq := x.m_eq
  rw [l_eqValue_eq]
  try simp only [TValue.re_eq, TBinding.re_eq, TFunction.re_eq, TRecordType.re_eq, TScope.re_eq]
  simp

structure TBinding.Ok (x : TBinding) : Prop where
  P_fName : x.fName.length ≤ 9223372036854775807
  P_fValue : TValue.Ok x.fValue

theorem TBinding.ok_cells (x : TBinding) (h : ∀ c ∈ GG.cells 47 x, ∀ k, WfV GG k c) : x.Ok := by
  have h : ∀ c ∈ ([.str x.fName, .int .i64 x.fValue.fKind, .int .i64 x.fValue.fNum, .str x.fValue.fText, .int .i64 x.fValue.fRef] : List (V GG.S)), ∀ k, WfV GG k c := h
  have h_fValue : ∀ c ∈ ([.int .i64 x.fValue.fKind, .int .i64 x.fValue.fNum, .str x.fValue.fText, .int .i64 x.fValue.fRef] : List (V GG.S)), ∀ k, WfV GG k c := fun c hc => h c (by simp only [List.mem_cons, List.not_mem_nil, or_false] at hc ⊢; rcases hc with rfl | rfl | rfl | rfl <;> simp)
  exact ⟨wfv_str (h (.str x.fName) (by simp) 1), TValue.ok_cells _ h_fValue⟩

theorem TBinding.ok_of {x : TBinding} (h : ∀ k, WfV GG k (inj GG (.st 47) x)) : x.Ok := TBinding.ok_cells x (wfv_st h)

def TBinding.m (x : TBinding) : Nat := x.fName.length + TValue.m x.fValue

theorem TBinding.m_eq (x : TBinding) : x.m = x.fName.length + TValue.m x.fValue := rfl

theorem szBinding_ok : ∀ x : TBinding, x.Ok → ∀ b : Int, 0 ≤ b → b < 4611686018427387904 → l_szBinding x b = some (minus b x.m) := by
  intro x
  intro hok b h0 h1
  rw [l_szBinding_eq]
  try simp only [TValue.re_eq, TBinding.re_eq, TFunction.re_eq, TRecordType.re_eq, TScope.re_eq]
  -- fName
  obtain ⟨e1, e2⟩ := minus_len (b := b) (l := x.fName) h0 h1 hok.P_fName
  by_cases c0 : minus b (x.fName.length) < 0
  · simp only [e1.2 c0, decide_true, if_true]
    rw [minus_neg_le c0 (by rw [TBinding.m_eq]; omega)]
  have e3 := mt e1.1 c0
  simp only [e3, e2 c0, c0, decide_false, Bool.false_eq_true, if_false]
  -- fValue
  rw [szValue_ok x.fValue hok.P_fValue (minus b (x.fName.length)) (minus_nonneg c0) (minus_lt (by omega) h1)]
  simp only [Option.bind_some]
  simp only [minus_minus c0]
  by_cases c1 : minus b (x.fName.length + TValue.m x.fValue) < 0
  · simp only [c1, decide_true, if_true]
    rw [minus_neg_le c1 (by rw [TBinding.m_eq]; omega)]
  simp only [c1, decide_false, Bool.false_eq_true, if_false]
  try rw [TBinding.m_eq]

theorem toBinding_ok : ∀ x : TBinding, x.m ≤ 1048576 → l_toBinding x = some x := by
  intro x
  intro hm
  have hq := x.m_eq
  rw [l_toBinding_eq]
  try simp only [TValue.re_eq, TBinding.re_eq, TFunction.re_eq, TRecordType.re_eq, TScope.re_eq]
  rw [toValue_ok x.fValue (by omega)]
  simp only [Option.bind_some]
  try simp only [TBinding.eta, TValue.re_eq, TBinding.re_eq, TFunction.re_eq, TRecordType.re_eq, TScope.re_eq]

theorem eqBinding_ok : ∀ x : TBinding, x.m ≤ 1048576 → l_eqBinding x x = some true := by
  intro x
  intro hm
  have hq := x.m_eq
  rw [l_eqBinding_eq]
  try simp only [TValue.re_eq, TBinding.re_eq, TFunction.re_eq, TRecordType.re_eq, TScope.re_eq]
  rw [eqValue_ok x.fValue (by omega)]
  simp

structure TFunction.Ok (x : TFunction) : Prop where
  P_fName : x.fName.length ≤ 9223372036854775807
  P_fParams : (x.fParams.length ≤ 9223372036854775807 ∧ ∀ y ∈ x.fParams, y.length ≤ 9223372036854775807)
  P_fLocals : (x.fLocals.length ≤ 9223372036854775807 ∧ ∀ y ∈ x.fLocals, y.length ≤ 9223372036854775807)
  P_fLabel : x.fLabel.length ≤ 9223372036854775807

theorem TFunction.ok_cells (x : TFunction) (h : ∀ c ∈ GG.cells 67 x, ∀ k, WfV GG k c) : x.Ok := by
  have h : ∀ c ∈ ([.str x.fName, .sl .str x.fParams, .sl .str x.fLocals, .str x.fLabel] : List (V GG.S)), ∀ k, WfV GG k c := h
  exact ⟨wfv_str (h (.str x.fName) (by simp) 1), ⟨(wfv_sl (h (.sl .str x.fParams) (by simp))).1, fun y hy => wfv_str ((wfv_sl (h (.sl .str x.fParams) (by simp))).2 y hy (.str y) (by simp [Ty.cells, inj]) 1)⟩, ⟨(wfv_sl (h (.sl .str x.fLocals) (by simp))).1, fun y hy => wfv_str ((wfv_sl (h (.sl .str x.fLocals) (by simp))).2 y hy (.str y) (by simp [Ty.cells, inj]) 1)⟩, wfv_str (h (.str x.fLabel) (by simp) 1)⟩

theorem TFunction.ok_of {x : TFunction} (h : ∀ k, WfV GG k (inj GG (.st 67) x)) : x.Ok := TFunction.ok_cells x (wfv_st h)

theorem szStringS_of {xs : (List (List UInt8))} (hx : xs.length ≤ 9223372036854775807)
    (hF : ∀ y ∈ xs, y.length ≤ 9223372036854775807) {b : Int} (h0 : 0 ≤ b) (h1 : b < 4611686018427387904) :
    l_szStringS xs b = some (minus b (xs.length + sumOf List.length xs)) := by
  rw [l_szStringS_eq]
  obtain ⟨e1, e2⟩ := minus_len (l := xs) h0 h1 hx
  by_cases c : minus b xs.length < 0
  · simp only [e1.2 c, decide_true, if_true, minus_neg c]
  · rw [if_neg (by simpa using fun h => c (e1.1 h)), e2 c, sz_loop_str hx (J := l_szStringS_L5) (fun b i => by rw [l_szStringS_L5_eq]) hF _ (minus_nonneg c) (minus_lt (by omega) h1), minus_minus c]

theorem eqStringS_of {xs : (List (List UInt8))} (hx : xs.length ≤ 9223372036854775807) : l_eqStringS xs xs = some true := by
  rw [l_eqStringS_eq]
  simp only [bne_self_eq_false, Bool.false_eq_true, if_false]
  exact eq_loop0 (by omega) (J := l_eqStringS_L4) (fun i => by rw [l_eqStringS_L4_eq]) (fun y => by simp)

def TFunction.m (x : TFunction) : Nat := x.fName.length + (x.fParams.length + sumOf List.length x.fParams) + (x.fLocals.length + sumOf List.length x.fLocals) + x.fLabel.length

theorem TFunction.m_eq (x : TFunction) : x.m = x.fName.length + (x.fParams.length + sumOf List.length x.fParams) + (x.fLocals.length + sumOf List.length x.fLocals) + x.fLabel.length := rfl

theorem szFunction_ok : ∀ x : TFunction, x.Ok → ∀ b : Int, 0 ≤ b → b < 4611686018427387904 → l_szFunction x b = some (minus b x.m) := by
  intro x
  intro hok b h0 h1
  rw [l_szFunction_eq]
  try simp only [TValue.re_eq, TBinding.re_eq, TFunction.re_eq, TRecordType.re_eq, TScope.re_eq]
  -- fName
  obtain ⟨e1, e2⟩ := minus_len (b := b) (l := x.fName) h0 h1 hok.P_fName
  by_cases c0 : minus b (x.fName.length) < 0
  · simp only [e1.2 c0, decide_true, if_true]
    rw [minus_neg_le c0 (by rw [TFunction.m_eq]; omega)]
  have e3 := mt e1.1 c0
  simp only [e3, e2 c0, c0, decide_false, Bool.false_eq_true, if_false]
  -- fParams
  rw [szStringS_of hok.P_fParams.1 hok.P_fParams.2 (minus_nonneg c0) (minus_lt (by omega) h1)]
  simp only [Option.bind_some]
  simp only [minus_minus c0]
  by_cases c1 : minus b (x.fName.length + (x.fParams.length + sumOf List.length x.fParams)) < 0
  · simp only [c1, decide_true, if_true]
    rw [minus_neg_le c1 (by rw [TFunction.m_eq]; omega)]
  simp only [c1, decide_false, Bool.false_eq_true, if_false]
  -- fLocals
  rw [szStringS_of hok.P_fLocals.1 hok.P_fLocals.2 (minus_nonneg c1) (minus_lt (by omega) h1)]
  simp only [Option.bind_some]
  simp only [minus_minus c1]
  by_cases c2 : minus b (x.fName.length + (x.fParams.length + sumOf List.length x.fParams) + (x.fLocals.length + sumOf List.length x.fLocals)) < 0
  · simp only [c2, decide_true, if_true]
    rw [minus_neg_le c2 (by rw [TFunction.m_eq]; omega)]
  simp only [c2, decide_false, Bool.false_eq_true, if_false]
  -- fLabel
  obtain ⟨e1, e2⟩ := minus_len (b := (minus b (x.fName.length + (x.fParams.length + sumOf List.length x.fParams) + (x.fLocals.length + sumOf List.length x.fLocals)))) (l := x.fLabel) (minus_nonneg c2) (minus_lt (by omega) h1) hok.P_fLabel
  rw [minus_minus c2] at e1 e2
  by_cases c3 : minus b (x.fName.length + (x.fParams.length + sumOf List.length x.fParams) + (x.fLocals.length + sumOf List.length x.fLocals) + x.fLabel.length) < 0
  · simp only [e1.2 c3, decide_true, if_true]
    rw [minus_neg_le c3 (by rw [TFunction.m_eq]; omega)]
  have e3 := mt e1.1 c3
  simp only [e3, e2 c3, c3, decide_false, Bool.false_eq_true, if_false]
  try rw [TFunction.m_eq]

theorem eqFunction_ok : ∀ x : TFunction, x.m ≤ 1048576 → l_eqFunction x x = some true := by
  intro x
  intro hm
  have hq := x.m_eq
  rw [l_eqFunction_eq]
  try simp only [TValue.re_eq, TBinding.re_eq, TFunction.re_eq, TRecordType.re_eq, TScope.re_eq]
  rw [eqStringS_of (xs := x.fParams) (by omega)]
  rw [eqStringS_of (xs := x.fLocals) (by omega)]
  simp

structure TRecordType.Ok (x : TRecordType) : Prop where
  P_fName : x.fName.length ≤ 9223372036854775807
  P_fFields : (x.fFields.length ≤ 9223372036854775807 ∧ ∀ y ∈ x.fFields, y.length ≤ 9223372036854775807)

theorem TRecordType.ok_cells (x : TRecordType) (h : ∀ c ∈ GG.cells 70 x, ∀ k, WfV GG k c) : x.Ok := by
  have h : ∀ c ∈ ([.str x.fName, .sl .str x.fFields] : List (V GG.S)), ∀ k, WfV GG k c := h
  exact ⟨wfv_str (h (.str x.fName) (by simp) 1), ⟨(wfv_sl (h (.sl .str x.fFields) (by simp))).1, fun y hy => wfv_str ((wfv_sl (h (.sl .str x.fFields) (by simp))).2 y hy (.str y) (by simp [Ty.cells, inj]) 1)⟩⟩

theorem TRecordType.ok_of {x : TRecordType} (h : ∀ k, WfV GG k (inj GG (.st 70) x)) : x.Ok := TRecordType.ok_cells x (wfv_st h)

def TRecordType.m (x : TRecordType) : Nat := x.fName.length + (x.fFields.length + sumOf List.length x.fFields)

theorem TRecordType.m_eq (x : TRecordType) : x.m = x.fName.length + (x.fFields.length + sumOf List.length x.fFields) := rfl

theorem szRecordType_ok : ∀ x : TRecordType, x.Ok → ∀ b : Int, 0 ≤ b → b < 4611686018427387904 → l_szRecordType x b = some (minus b x.m) := by
  intro x
  intro hok b h0 h1
  rw [l_szRecordType_eq]
  try simp only [TValue.re_eq, TBinding.re_eq, TFunction.re_eq, TRecordType.re_eq, TScope.re_eq]
  -- fName
  obtain ⟨e1, e2⟩ := minus_len (b := b) (l := x.fName) h0 h1 hok.P_fName
  by_cases c0 : minus b (x.fName.length) < 0
  · simp only [e1.2 c0, decide_true, if_true]
    rw [minus_neg_le c0 (by rw [TRecordType.m_eq]; omega)]
  have e3 := mt e1.1 c0
  simp only [e3, e2 c0, c0, decide_false, Bool.false_eq_true, if_false]
  -- fFields
  rw [szStringS_of hok.P_fFields.1 hok.P_fFields.2 (minus_nonneg c0) (minus_lt (by omega) h1)]
  simp only [Option.bind_some]
  simp only [minus_minus c0]
  by_cases c1 : minus b (x.fName.length + (x.fFields.length + sumOf List.length x.fFields)) < 0
  · simp only [c1, decide_true, if_true]
    rw [minus_neg_le c1 (by rw [TRecordType.m_eq]; omega)]
  simp only [c1, decide_false, Bool.false_eq_true, if_false]
  try rw [TRecordType.m_eq]

theorem eqRecordType_ok : ∀ x : TRecordType, x.m ≤ 1048576 → l_eqRecordType x x = some true := by
  intro x
  intro hm
  have hq := x.m_eq
  rw [l_eqRecordType_eq]
  try simp only [TValue.re_eq, TBinding.re_eq, TFunction.re_eq, TRecordType.re_eq, TScope.re_eq]
  rw [eqStringS_of (xs := x.fFields) (by omega)]
  simp

structure TScope.Ok (x : TScope) : Prop where
  P_fVars : (x.fVars.length ≤ 9223372036854775807 ∧ ∀ y ∈ x.fVars, TBinding.Ok y)
  P_fFunctions : (x.fFunctions.length ≤ 9223372036854775807 ∧ ∀ y ∈ x.fFunctions, TFunction.Ok y)
  P_fTypes : (x.fTypes.length ≤ 9223372036854775807 ∧ ∀ y ∈ x.fTypes, TRecordType.Ok y)

theorem TScope.ok_cells (x : TScope) (h : ∀ c ∈ GG.cells 25 x, ∀ k, WfV GG k c) : x.Ok := by
  have h : ∀ c ∈ ([.sl (.st 47) x.fVars, .sl (.st 67) x.fFunctions, .sl (.st 70) x.fTypes] : List (V GG.S)), ∀ k, WfV GG k c := h
  exact ⟨⟨(wfv_sl (h (.sl (.st 47) x.fVars) (by simp))).1, fun y hy => TBinding.ok_cells y ((wfv_sl (h (.sl (.st 47) x.fVars) (by simp))).2 y hy)⟩, ⟨(wfv_sl (h (.sl (.st 67) x.fFunctions) (by simp))).1, fun y hy => TFunction.ok_cells y ((wfv_sl (h (.sl (.st 67) x.fFunctions) (by simp))).2 y hy)⟩, ⟨(wfv_sl (h (.sl (.st 70) x.fTypes) (by simp))).1, fun y hy => TRecordType.ok_cells y ((wfv_sl (h (.sl (.st 70) x.fTypes) (by simp))).2 y hy)⟩⟩

theorem TScope.ok_of {x : TScope} (h : ∀ k, WfV GG k (inj GG (.st 25) x)) : x.Ok := TScope.ok_cells x (wfv_st h)

theorem szBindingS_of {xs : (List TBinding)} (hx : xs.length ≤ 9223372036854775807)
    (hF : ∀ y ∈ xs, ∀ b : Int, 0 ≤ b → b < 4611686018427387904 → l_szBinding y b = some (minus b (TBinding.m y))) {b : Int} (h0 : 0 ≤ b) (h1 : b < 4611686018427387904) :
    l_szBindingS xs b = some (minus b (xs.length + sumOf TBinding.m xs)) := by
  rw [l_szBindingS_eq]
  obtain ⟨e1, e2⟩ := minus_len (l := xs) h0 h1 hx
  by_cases c : minus b xs.length < 0
  · simp only [e1.2 c, decide_true, if_true, minus_neg c]
  · rw [if_neg (by simpa using fun h => c (e1.1 h)), e2 c, sz_loop hx (J := l_szBindingS_L5) (F := l_szBinding) (m := TBinding.m) (fun b i => by rw [l_szBindingS_L5_eq]; try simp only [TValue.re_eq, TBinding.re_eq, TFunction.re_eq, TRecordType.re_eq, TScope.re_eq]) hF _ (minus_nonneg c) (minus_lt (by omega) h1), minus_minus c]

theorem eqBindingS_of {xs : (List TBinding)} (hx : xs.length ≤ 9223372036854775807) (hF : ∀ y ∈ xs, l_eqBinding y y = some true) : l_eqBindingS xs xs = some true := by
  rw [l_eqBindingS_eq]
  simp only [bne_self_eq_false, Bool.false_eq_true, if_false]
  exact eq_loop (by omega) (J := l_eqBindingS_L4) (F := l_eqBinding) (fun i => by rw [l_eqBindingS_L4_eq]; try simp only [TValue.re_eq, TBinding.re_eq, TFunction.re_eq, TRecordType.re_eq, TScope.re_eq]) hF

theorem szFunctionS_of {xs : (List TFunction)} (hx : xs.length ≤ 9223372036854775807)
    (hF : ∀ y ∈ xs, ∀ b : Int, 0 ≤ b → b < 4611686018427387904 → l_szFunction y b = some (minus b (TFunction.m y))) {b : Int} (h0 : 0 ≤ b) (h1 : b < 4611686018427387904) :
    l_szFunctionS xs b = some (minus b (xs.length + sumOf TFunction.m xs)) := by
  rw [l_szFunctionS_eq]
  obtain ⟨e1, e2⟩ := minus_len (l := xs) h0 h1 hx
  by_cases c : minus b xs.length < 0
  · simp only [e1.2 c, decide_true, if_true, minus_neg c]
  · rw [if_neg (by simpa using fun h => c (e1.1 h)), e2 c, sz_loop hx (J := l_szFunctionS_L5) (F := l_szFunction) (m := TFunction.m) (fun b i => by rw [l_szFunctionS_L5_eq]; try simp only [TValue.re_eq, TBinding.re_eq, TFunction.re_eq, TRecordType.re_eq, TScope.re_eq]) hF _ (minus_nonneg c) (minus_lt (by omega) h1), minus_minus c]

theorem eqFunctionS_of {xs : (List TFunction)} (hx : xs.length ≤ 9223372036854775807) (hF : ∀ y ∈ xs, l_eqFunction y y = some true) : l_eqFunctionS xs xs = some true := by
  rw [l_eqFunctionS_eq]
  simp only [bne_self_eq_false, Bool.false_eq_true, if_false]
  exact eq_loop (by omega) (J := l_eqFunctionS_L4) (F := l_eqFunction) (fun i => by rw [l_eqFunctionS_L4_eq]; try simp only [TValue.re_eq, TBinding.re_eq, TFunction.re_eq, TRecordType.re_eq, TScope.re_eq]) hF

theorem szRecordTypeS_of {xs : (List TRecordType)} (hx : xs.length ≤ 9223372036854775807)
    (hF : ∀ y ∈ xs, ∀ b : Int, 0 ≤ b → b < 4611686018427387904 → l_szRecordType y b = some (minus b (TRecordType.m y))) {b : Int} (h0 : 0 ≤ b) (h1 : b < 4611686018427387904) :
    l_szRecordTypeS xs b = some (minus b (xs.length + sumOf TRecordType.m xs)) := by
  rw [l_szRecordTypeS_eq]
  obtain ⟨e1, e2⟩ := minus_len (l := xs) h0 h1 hx
  by_cases c : minus b xs.length < 0
  · simp only [e1.2 c, decide_true, if_true, minus_neg c]
  · rw [if_neg (by simpa using fun h => c (e1.1 h)), e2 c, sz_loop hx (J := l_szRecordTypeS_L5) (F := l_szRecordType) (m := TRecordType.m) (fun b i => by rw [l_szRecordTypeS_L5_eq]; try simp only [TValue.re_eq, TBinding.re_eq, TFunction.re_eq, TRecordType.re_eq, TScope.re_eq]) hF _ (minus_nonneg c) (minus_lt (by omega) h1), minus_minus c]

theorem eqRecordTypeS_of {xs : (List TRecordType)} (hx : xs.length ≤ 9223372036854775807) (hF : ∀ y ∈ xs, l_eqRecordType y y = some true) : l_eqRecordTypeS xs xs = some true := by
  rw [l_eqRecordTypeS_eq]
  simp only [bne_self_eq_false, Bool.false_eq_true, if_false]
  exact eq_loop (by omega) (J := l_eqRecordTypeS_L4) (F := l_eqRecordType) (fun i => by rw [l_eqRecordTypeS_L4_eq]; try simp only [TValue.re_eq, TBinding.re_eq, TFunction.re_eq, TRecordType.re_eq, TScope.re_eq]) hF

def TScope.m (x : TScope) : Nat := (x.fVars.length + sumOf TBinding.m x.fVars) + (x.fFunctions.length + sumOf TFunction.m x.fFunctions) + (x.fTypes.length + sumOf TRecordType.m x.fTypes)

theorem TScope.m_eq (x : TScope) : x.m = (x.fVars.length + sumOf TBinding.m x.fVars) + (x.fFunctions.length + sumOf TFunction.m x.fFunctions) + (x.fTypes.length + sumOf TRecordType.m x.fTypes) := rfl

theorem szScope_ok : ∀ x : TScope, x.Ok → ∀ b : Int, 0 ≤ b → b < 4611686018427387904 → l_szScope x b = some (minus b x.m) := by
  intro x
  intro hok b h0 h1
  rw [l_szScope_eq]
  try simp only [TValue.re_eq, TBinding.re_eq, TFunction.re_eq, TRecordType.re_eq, TScope.re_eq]
  -- fVars
  rw [szBindingS_of hok.P_fVars.1 (fun y hy b h0 h1 => szBinding_ok y (hok.P_fVars.2 y hy) b h0 h1) h0 h1]
  simp only [Option.bind_some]
  by_cases c0 : minus b ((x.fVars.length + sumOf TBinding.m x.fVars)) < 0
  · simp only [c0, decide_true, if_true]
    rw [minus_neg_le c0 (by rw [TScope.m_eq]; omega)]
  simp only [c0, decide_false, Bool.false_eq_true, if_false]
  -- fFunctions
  rw [szFunctionS_of hok.P_fFunctions.1 (fun y hy b h0 h1 => szFunction_ok y (hok.P_fFunctions.2 y hy) b h0 h1) (minus_nonneg c0) (minus_lt (by omega) h1)]
  simp only [Option.bind_some]
  simp only [minus_minus c0]
  by_cases c1 : minus b ((x.fVars.length + sumOf TBinding.m x.fVars) + (x.fFunctions.length + sumOf TFunction.m x.fFunctions)) < 0
  · simp only [c1, decide_true, if_true]
    rw [minus_neg_le c1 (by rw [TScope.m_eq]; omega)]
  simp only [c1, decide_false, Bool.false_eq_true, if_false]
  -- fTypes
  rw [szRecordTypeS_of hok.P_fTypes.1 (fun y hy b h0 h1 => szRecordType_ok y (hok.P_fTypes.2 y hy) b h0 h1) (minus_nonneg c1) (minus_lt (by omega) h1)]
  simp only [Option.bind_some]
  simp only [minus_minus c1]
  by_cases c2 : minus b ((x.fVars.length + sumOf TBinding.m x.fVars) + (x.fFunctions.length + sumOf TFunction.m x.fFunctions) + (x.fTypes.length + sumOf TRecordType.m x.fTypes)) < 0
  · simp only [c2, decide_true, if_true]
    rw [minus_neg_le c2 (by rw [TScope.m_eq]; omega)]
  simp only [c2, decide_false, Bool.false_eq_true, if_false]
  try rw [TScope.m_eq]

theorem eqScope_ok : ∀ x : TScope, x.m ≤ 1048576 → l_eqScope x x = some true := by
  intro x
  intro hm
  have hq := x.m_eq
  rw [l_eqScope_eq]
  try simp only [TValue.re_eq, TBinding.re_eq, TFunction.re_eq, TRecordType.re_eq, TScope.re_eq]
  rw [eqBindingS_of (xs := x.fVars) (by omega) fun y hy => eqBinding_ok y (by have := sumOf_mem (m := TBinding.m) hy; omega)]
  rw [eqFunctionS_of (xs := x.fFunctions) (by omega) fun y hy => eqFunction_ok y (by have := sumOf_mem (m := TFunction.m) hy; omega)]
  rw [eqRecordTypeS_of (xs := x.fTypes) (by omega) fun y hy => eqRecordType_ok y (by have := sumOf_mem (m := TRecordType.m) hy; omega)]
  simp

end Go.Dv.U

namespace Go.Dv

open Go

/-- a text grows with each element -/
theorem cat_loop {α β γ : Type} {xs : List α} (hx : xs.length ≤ 9223372036854775807) {f : α → List β} {B : Nat} {J : Int → List β → Option γ}
    (hs : ∀ (i : Nat) (y : α) (a : List β), i < xs.length → y ∈ xs → idx xs (i : Int) = some y → w64 ((i : Int) + 1) = ((i + 1 : Nat) : Int) → a.length + (f y).length ≤ B → J (i : Int) a = J ((i + 1 : Nat) : Int) (a ++ f y))
    (hb : (xs.flatMap f).length ≤ B) : J 0 [] = J (xs.length : Int) (xs.flatMap f) := by
  have key := loop_ind hx (P := fun i l => ∀ a : List β, a.length + (l.flatMap f).length ≤ B → J (i : Int) a = J (xs.length : Int) (a ++ l.flatMap f)) (by
    intro a _
    simp) (by
    intro i y l _ hlt hy hi hw ih a ha
    simp only [List.flatMap_cons, List.length_append] at ha
    rw [hs i y a hlt hy hi hw (by omega), ih (a ++ f y) (by simp only [List.length_append]; omega)]
    simp only [List.flatMap_cons, List.append_assoc]) [] (by simpa using hb)
  simpa using key

end Go.Dv

namespace Go.Dv.U

open Go Go.Dv Go.Proofs

theorem mk_rem_ten (u : Nat) : rem (u : Int) 10 = some ((u % 10 : Nat) : Int) := by
  unfold rem
  rw [if_neg (by decide)]
  congr 1

theorem mk_quo_ten {u : Nat} (h : u < 9223372036854775808) : quo .i64 (u : Int) 10 = some ((u / 10 : Nat) : Int) := by
  unfold quo
  rw [if_neg (by decide)]
  congr 1
  rw [show ((u : Int).tdiv 10) = ((u / 10 : Nat) : Int) from rfl, IntKind.wrap_i64]
  omega

theorem l_markText_L4_ok : ∀ (f n : Nat) (a : List UInt8), n < 9223372036854775808 → n < 10 ^ f → a.length + f ≤ 100 → ∃ t, l_markText_L4 (n : Int) a = some t
  | 0, n, a, _, h, ha => by
    have : n = 0 := by simpa using h
    subst this
    rw [l_markText_L4_eq]
    refine ⟨[109] ++ a, ?_⟩
    have := app_of (xs := ([109] : List UInt8)) (ys := a) (by simp; omega)
    simp [this]
  | f + 1, n, a, h0, h, ha => by
    rw [l_markText_L4_eq]
    by_cases hn : n = 0
    · subst hn
      refine ⟨[109] ++ a, ?_⟩
      have := app_of (xs := ([109] : List UInt8)) (ys := a) (by simp; omega)
      simp [this]
    · have hc : decide ((n : Int) > 0) = true := by simp; omega
      rw [if_pos hc, mk_rem_ten]
      simp only [Option.bind_some, mk_quo_ten h0]
      rw [app_of (by simp; omega)]
      simp only [Option.bind_some]
      exact l_markText_L4_ok f (n / 10) _ (by omega) (by rw [Nat.pow_succ] at h; omega) (by simp; omega)

noncomputable def mkT (k : Int) : List UInt8 := (l_markText k).getD []

theorem l_markText_ok {k : Int} (h0 : 0 ≤ k) (h : k < 9223372036854775808) : l_markText k = some (mkT k) := by
  have : ∃ t, l_markText k = some t := by
    rw [l_markText_eq]
    by_cases c : k ≤ 0
    · exact ⟨_, by rw [if_pos (by simpa using c)]⟩
    · rw [if_neg (by simpa using c)]
      have := l_markText_L4_ok 19 k.toNat [] (by omega) (by simp; omega) (by simp)
      rwa [show ((k.toNat : Nat) : Int) = k by omega] at this
  obtain ⟨t, e⟩ := this
  rw [mkT, e]; rfl

noncomputable def marksS : Int → Nat → List (List UInt8)
  | _, 0 => []
  | k, n + 1 => mkT k :: marksS (k + 1) n

theorem l_markStringS_L2_ok : ∀ (n i : Nat) (k : Int) (xs : List (List UInt8)), i + n = xs.length → 0 ≤ k → k + n < 9223372036854775808 → xs.length < 9223372036854775807 →
    l_markStringS_L2 k (i : Int) xs = some (k + n, xs.take i ++ marksS k n, ())
  | 0, i, k, xs, hi, h0, h1, h2 => by
    rw [l_markStringS_L2_eq]
    have : i = xs.length := by omega
    subst this
    simp [len_eq, marksS]
  | n + 1, i, k, xs, hi, h0, h1, h2 => by
    rw [l_markStringS_L2_eq]
    have hc : decide ((i : Int) < len xs) = true := by simp [len_eq]; omega
    have hlt : i < xs.length := by omega
    rw [if_pos hc, l_markText_ok h0 (by omega)]
    simp only [Option.bind_some, idx_nat, Int.toNat_natCast, List.getElem?_eq_getElem hlt, upd_eq]
    rw [w64_of (by omega) (by omega), w64_of (by omega) (by omega)]
    have ih := l_markStringS_L2_ok n (i + 1) (k + 1) (xs.set i (mkT k)) (by simp; omega) (by omega) (by omega) (by simpa using h2)
    rw [show ((i : Int) + 1) = ((i + 1 : Nat) : Int) by omega, ih]
    congr 1
    rw [show k + 1 + (n : Int) = k + ((n + 1 : Nat) : Int) by omega]
    congr 2
    simp only [marksS]
    rw [List.take_set, List.take_succ_eq_append_getElem hlt, List.set_append_right _ _ (by simp; omega)]
    simp [Nat.min_eq_left (by omega : i ≤ xs.length)]

theorem l_markStringS_ok {xs : List (List UInt8)} {k : Int} (h0 : 0 ≤ k) (h1 : k + xs.length < 9223372036854775807) : l_markStringS k xs = some (k + xs.length, marksS k xs.length, ()) := by
  have := l_markStringS_L2_ok xs.length 0 k xs (by omega) h0 (by omega) (by omega)
  rw [l_markStringS_eq]
  simpa using this

end Go.Dv.U

namespace Go.Dv

open Go

theorem toE_loop {α β γ : Type} {xs : List α} (hx : xs.length ≤ 9223372036854775807) {F : α → Option β} {G : β → α} {E : List α → Option γ} {J : List α → Int → List α → Option γ}
    (hJ : ∀ i zs, J xs i zs = if decide (i < len xs) = true then (idx xs i).bind fun y => (F y).bind fun r => (idx zs i).bind fun _ => (zs[i.toNat]?).bind fun _ => J xs (w64 (i + 1)) (upd zs i.toNat (G r)) else E zs)
    (hF : ∀ y ∈ xs, ∃ r, F y = some r ∧ G r = y) : ∀ zs, zs.length = xs.length → J xs 0 zs = E xs := by
  have key : ∀ zs, zs.length = xs.length → (∀ j : Nat, j < 0 → zs[j]? = xs[j]?) → J xs ((0 : Nat) : Int) zs = E xs := by
    refine loop_ind hx (P := fun i l => ∀ zs, zs.length = xs.length → (∀ j, j < i → zs[j]? = xs[j]?) → J xs i zs = E xs) ?_ ?_
    · intro zs hl hz
      rw [hJ]
      simp only [len_eq, Int.lt_irrefl, decide_false, Bool.false_eq_true, if_false]
      congr 1
      apply List.ext_getElem?
      intro j
      by_cases hj : j < xs.length
      · exact hz j hj
      · rw [List.getElem?_eq_none (by omega), List.getElem?_eq_none (by omega)]
    · intro i y l _ hlt hy hi hw ih zs hl hz
      rw [hJ, hi, hw]
      have hc : decide ((i : Int) < len xs) = true := by simp [len_eq, hlt]
      rw [if_pos hc]
      have hzi : zs[i]? = some zs[i] := List.getElem?_eq_getElem (by omega)
      have hxi : xs[i]? = some y := by rw [← idx_nat]; exact hi
      obtain ⟨r, e1, e2⟩ := hF y hy
      simp only [Option.bind_some, e1, idx_nat, Int.toNat_natCast, hzi, upd_eq]
      refine ih _ (by simp [hl]) fun j hj => ?_
      by_cases hji : j = i
      · subst hji; rw [List.getElem?_set_self (by omega), hxi, e2]
      · rw [List.getElem?_set_ne (by omega)]; exact hz j (by omega)
  intro zs hl
  exact key zs hl fun j hj => absurd hj (Nat.not_lt_zero j)

/-- a loop that marks every cell ends, and the number grows by what the cells take at most -/
theorem mark_loop {α : Type} {B : Int} {m : α → Nat} {Q : α → Prop} {J : Int → Int → List α → Option (Int × List α × Unit)}
    (he : ∀ k (xs : List α), J k (xs.length : Int) xs = some (k, xs, ()))
    (hs : ∀ (k : Int) (i : Nat) (xs : List α) (h : i < xs.length), Q xs[i] → 0 ≤ k → k + m xs[i] < B → xs.length < 4611686018427387904 → ∃ k' y', J k (i : Int) xs = J k' ((i + 1 : Nat) : Int) (xs.set i y') ∧ k ≤ k' ∧ k' ≤ k + m xs[i]) :
    ∀ (xs : List α) (k : Int), (∀ y ∈ xs, Q y) → 0 ≤ k → k + sumOf m xs < B → xs.length < 4611686018427387904 → ∃ k' xs', J k 0 xs = some (k', xs', ()) ∧ k ≤ k' ∧ k' ≤ k + sumOf m xs ∧ xs'.length = xs.length := by
  have key : ∀ (n i : Nat) (xs : List α) (k : Int), i + n = xs.length → (∀ y ∈ xs.drop i, Q y) → 0 ≤ k → k + sumOf m (xs.drop i) < B → xs.length < 4611686018427387904 →
      ∃ k' xs', J k (i : Int) xs = some (k', xs', ()) ∧ k ≤ k' ∧ k' ≤ k + sumOf m (xs.drop i) ∧ xs'.length = xs.length := by
    intro n
    induction n with
    | zero =>
      intro i xs k hi hq h0 h1 h2
      have : i = xs.length := by omega
      subst this
      exact ⟨k, xs, he k xs, by omega, by omega, rfl⟩
    | succ n ih =>
      intro i xs k hi hq h0 h1 h2
      have hlt : i < xs.length := by omega
      rw [List.drop_eq_getElem_cons hlt] at h1 hq ⊢
      simp only [sumOf] at h1 ⊢
      obtain ⟨k1, y1, e1, g1, g2⟩ := hs k i xs hlt (hq _ List.mem_cons_self) h0 (by omega) h2
      have ed : (xs.set i y1).drop (i + 1) = xs.drop (i + 1) := List.drop_set_of_lt (by omega)
      obtain ⟨k2, xs2, e2, g3, g4, g5⟩ := ih (i + 1) (xs.set i y1) k1 (by simp; omega) (by rw [ed]; exact fun y hy => hq y (List.mem_cons_of_mem _ hy)) (by omega) (by rw [ed]; omega) (by simpa using h2)
      rw [ed] at g4
      exact ⟨k2, xs2, e1.trans e2, by omega, by omega, by rw [g5]; simp⟩
  intro xs k hq h0 h1 h2
  have := key xs.length 0 xs k (by omega) (by simpa using hq) h0 (by simpa using h1) h2
  simpa using this

/-- the marks of cells that each take c numbers -/
def marksL {α : Type} (μ : Int → α) (c : Nat) : Int → Nat → List α
  | _, 0 => []
  | k, n + 1 => μ k :: marksL μ c (k + c) n

theorem marksL_len {α : Type} (μ : Int → α) (c : Nat) : ∀ (n : Nat) (k : Int), (marksL μ c k n).length = n
  | 0, _ => rfl
  | n + 1, k => by simp [marksL, marksL_len μ c n]

theorem markL_loop {α : Type} {μ : Int → α} {c : Nat} {J : Int → Int → List α → Option (Int × List α × Unit)}
    (he : ∀ k (xs : List α), J k (xs.length : Int) xs = some (k, xs, ()))
    (hs : ∀ (k : Int) (i : Nat) (xs : List α) (h : i < xs.length), 0 ≤ k → k + c < 4611686018427387904 → xs.length < 4611686018427387904 → J k (i : Int) xs = J (k + c) ((i + 1 : Nat) : Int) (xs.set i (μ k))) :
    ∀ (xs : List α) (k : Int), 0 ≤ k → k + (c * xs.length : Nat) < 4611686018427387904 → xs.length < 4611686018427387904 → J k 0 xs = some (k + (c * xs.length : Nat), marksL μ c k xs.length, ()) := by
  have key : ∀ (n i : Nat) (xs : List α) (k : Int), i + n = xs.length → 0 ≤ k → k + (c * n : Nat) < 4611686018427387904 → xs.length < 4611686018427387904 →
      J k (i : Int) xs = some (k + (c * n : Nat), xs.take i ++ marksL μ c k n, ()) := by
    intro n
    induction n with
    | zero =>
      intro i xs k hi h0 h1 h2
      have : i = xs.length := by omega
      subst this
      rw [he]
      simp [marksL]
    | succ n ih =>
      intro i xs k hi h0 h1 h2
      have hlt : i < xs.length := by omega
      have hm : c * (n + 1) = c + c * n := by rw [Nat.mul_succ]; omega
      rw [hm] at h1 ⊢
      rw [hs k i xs hlt h0 (by omega) h2, ih (i + 1) (xs.set i (μ k)) (k + c) (by simp; omega) (by omega) (by omega) (by simpa using h2)]
      congr 1
      rw [show k + (c : Int) + ((c * n : Nat) : Int) = k + ((c + c * n : Nat) : Int) by omega]
      congr 2
      simp only [marksL]
      rw [List.take_set, List.take_succ_eq_append_getElem hlt, List.set_append_right _ _ (by simp; omega)]
      simp [Nat.min_eq_left (by omega : i ≤ xs.length)]
  intro xs k h0 h1 h2
  have := key xs.length 0 xs k (by omega) h0 h1 h2
  simpa using this

theorem heldL_loop {α : Type} {μ : Int → α} {c n : Nat} {k : Int} {J : Int → Int → Option Int} (hn : n < 4611686018427387904) (h0 : 0 ≤ k) (h1 : k + (c * n : Nat) < 4611686018427387904)
    (he : ∀ k, J k (n : Int) = some k)
    (hs : ∀ (k' : Int) (i : Nat), i < n → 0 ≤ k' → k' + c < 4611686018427387904 → idx (marksL μ c k n) (i : Int) = some (μ k') → J k' (i : Int) = J (k' + c) ((i + 1 : Nat) : Int)) :
    J k 0 = some (k + (c * n : Nat)) := by
  have key := loop_ind (xs := marksL μ c k n) (by rw [marksL_len]; omega) (P := fun i l => ∀ k' : Int, 0 ≤ k' → k' + (c * l.length : Nat) < 4611686018427387904 → l = marksL μ c k' l.length → J k' (i : Int) = some (k' + (c * l.length : Nat))) (by
    intro k' _ _ _
    rw [marksL_len, he]
    simp) (by
    intro i y l _ hlt hy hi hw ih k' g0 g1 e
    simp only [List.length_cons, marksL, List.cons.injEq] at e g1
    have hm : c * (l.length + 1) = c + c * l.length := by rw [Nat.mul_succ]; omega
    rw [marksL_len] at hlt
    rw [hm] at g1
    rw [hs k' i hlt g0 (by omega) (by rw [hi, e.1]), ih (k' + c) (by omega) (by omega) e.2]
    congr 1
    simp only [List.length_cons, hm]; omega) k h0 (by rw [marksL_len]; exact h1) (by rw [marksL_len])
  rw [marksL_len] at key
  exact key

end Go.Dv

namespace Go.Dv.U

open Go Go.Dv Go.Proofs

theorem i_within_ok (a b c : Int) : i_within a b c = some (decide (b ≤ a) && decide (a ≤ c)) := by
  rw [i_within_eq]; grind

theorem s_l00In_ok (a b c : Int) : s_l00In a b c = some (decide (b ≤ a) && decide (a ≤ c)) := by
  rw [s_l00In_eq]; grind

end Go.Dv.U

namespace Go.Dv.U

open Go Go.Dv Go.Proofs

def isLet (b : Int) : Bool := (decide (65 ≤ b) && decide (b ≤ 90)) || (decide (97 ≤ b) && decide (b ≤ 122))

def isDig (b : Int) : Bool := decide (48 ≤ b) && decide (b ≤ 57)

def isNmB (b : Int) : Bool := isLet b || isDig b || b == 95

theorem i_isLetter_ok (b : Int) : i_isLetter b = some (isLet b) := by
  rw [i_isLetter_eq]; unfold isLet; grind

theorem s_l02Letter_ok (b : Int) : s_l02Letter b = some (isLet b) := by
  rw [s_l02Letter_eq]; unfold isLet; grind

theorem i_isDigit_ok (b : Int) : i_isDigit b = some (isDig b) := by
  rw [i_isDigit_eq]; unfold isDig; grind

theorem s_l02Digit_ok (b : Int) : s_l02Digit b = some (isDig b) := by
  rw [s_l02Digit_eq]; unfold isDig; grind

theorem i_isNameByte_ok (b : Int) : i_isNameByte b = some (isNmB b) := by
  rw [i_isNameByte_eq, i_isLetter_ok, i_isDigit_ok]; unfold isNmB
  simp only [Option.bind_some]; grind

/-- a name -/
def isName (s : List UInt8) : Bool := match s with
  | [] => false
  | b :: _ => decide (s.length ≤ 12) && isLet (ib b) && s.all fun c => isNmB (ib c)

theorem i_areAllNm_ok {s : List UInt8} (h : s.length ≤ 9223372036854775807) : i_areAll_byte__i_isNameByte (s.map ib) = some (s.all fun c => isNmB (ib c)) := by
  rw [i_areAll_byte__i_isNameByte_eq]
  have := all_loop (xs := s.map ib) (by simpa using h) (F := i_isNameByte) (p := isNmB) (J := i_areAll_byte_L2__i_isNameByte (s.map ib) (len (s.map ib))) (fun i => by rw [i_areAll_byte_L2__i_isNameByte_eq]) (fun y _ => i_isNameByte_ok y)
  rw [this, List.all_map]
  rfl

theorem i_IsName_ok {s : List UInt8} : i_IsName s = some (isName s) := by
  rw [i_IsName_eq]
  cases s with
  | nil => simp [isName, len_eq]
  | cons b r =>
    by_cases h : (b :: r).length ≤ 12
    · have h1 : decide (len (b :: r) ≥ 1) = true := by simp only [len_eq, List.length_cons, decide_eq_true_eq]; omega
      have h2 : decide (len (b :: r) ≤ 12) = true := by simp only [len_eq, decide_eq_true_eq]; omega
      rw [if_pos h1, if_pos h2, idx_zero]
      simp only [List.getElem?_cons_zero, Option.bind_some, i_isLetter_ok]
      have := i_areAllNm_ok (s := b :: r) (by omega)
      simp only [List.map_cons] at this ⊢
      rw [this]
      simp only [isName, h, decide_true, Bool.true_and, Option.bind_some]
      cases isLet (ib b) <;> simp
    · have h2 : ¬ decide (len (b :: r) ≤ 12) = true := by simp only [len_eq, decide_eq_true_eq]; omega
      rw [if_neg h2]
      simp only [isName, h, decide_false, Bool.false_and]
      split <;> rfl

/-- how many bytes from the start on belong to a name -/
def nmRun : List UInt8 → Nat
  | [] => 0
  | b :: r => if isNmB (ib b) then nmRun r + 1 else 0

theorem nmRun_all : ∀ s, nmRun s = s.length ↔ (s.all fun c => isNmB (ib c)) = true
  | [] => by simp [nmRun]
  | b :: r => by
    have := nmRun_all r
    simp only [nmRun, List.length_cons, List.all_cons, Bool.and_eq_true]
    cases isNmB (ib b)
    · simp
    · simp [this]

theorem s_l02NameEnd_L3_ok {s : List UInt8} (h : s.length ≤ 9223372036854775807) : ∀ (n i : Nat), i + n = s.length → s_l02NameEnd_L3 s i = some ((i + nmRun (s.drop i) : Nat) : Int) := by
  intro n
  induction n with
  | zero =>
    intro i hi
    have : i = s.length := by omega
    subst this
    rw [s_l02NameEnd_L3_eq, s_l02NameEnd_L5_eq, List.drop_length]
    simp [len_eq, nmRun]
  | succ n ih =>
    intro i hi
    have hlt : i < s.length := by omega
    have hc : decide ((i : Int) < len s) = true := by simp [len_eq, hlt]
    rw [s_l02NameEnd_L3_eq, if_pos hc, idx_nat, List.getElem?_eq_getElem hlt, List.drop_eq_getElem_cons hlt]
    simp only [Option.bind_some, s_l02Letter_ok, s_l02Digit_ok, s_l02NameEnd_L4_eq, s_l02NameEnd_L5_eq, nmRun]
    have hw : w64 ((i : Int) + 1) = ((i + 1 : Nat) : Int) := by rw [w64_of (by omega) (by omega)]; omega
    rw [hw, ih (i + 1) (by omega)]
    unfold isNmB
    cases isLet (ib s[i]) <;> cases isDig (ib s[i]) <;> cases hb : (ib s[i] == 95) <;> simp <;> omega

theorem s_l02NameEnd_ok {s : List UInt8} (h : s.length ≤ 9223372036854775807) {i : Nat} (hi : i ≤ s.length) :
    s_l02NameEnd s i = some (match s.drop i with
      | [] => (i : Int)
      | b :: r => if isLet (ib b) then ((i + nmRun (b :: r) : Nat) : Int) else i) := by
  rw [s_l02NameEnd_eq]
  by_cases hlt : i < s.length
  · have hc : ¬ decide ((i : Int) ≥ len s) = true := by simp only [len_eq, decide_eq_true_eq]; omega
    rw [if_neg hc, idx_nat, List.getElem?_eq_getElem hlt, List.drop_eq_getElem_cons hlt]
    simp only [Option.bind_some, s_l02Letter_ok]
    rw [s_l02NameEnd_L3_ok h (s.length - i) i (by omega), List.drop_eq_getElem_cons hlt]
    cases isLet (ib s[i]) <;> simp
  · have : i = s.length := by omega
    subst this
    rw [List.drop_length]
    simp [len_eq]

theorem s_IsName_ok {s : List UInt8} : s_IsName s = some (isName s) := by
  rw [s_IsName_eq]
  cases s with
  | nil => simp [isName]
  | cons b r =>
    have h0 : (!(b :: r) == []) = true := rfl
    rw [if_pos h0]
    by_cases h : (b :: r).length ≤ 12
    · have h2 : decide (len (b :: r) ≤ 12) = true := by simp only [len_eq, decide_eq_true_eq]; omega
      have := s_l02NameEnd_ok (s := b :: r) (by omega) (Nat.zero_le _)
      simp only [Int.natCast_zero, List.drop_zero, Nat.zero_add] at this
      rw [if_pos h2, this]
      simp only [isName, h, decide_true, Bool.true_and, Option.bind_some, len_eq]
      congr 1
      rw [Bool.eq_iff_iff, Bool.and_eq_true, ← nmRun_all]
      cases hL : isLet (ib b)
      · simp; omega
      · simp; omega
    · have h2 : ¬ decide (len (b :: r) ≤ 12) = true := by simp only [len_eq, decide_eq_true_eq]; omega
      rw [if_neg h2]
      simp only [isName, h, decide_false, Bool.false_and]

end Go.Dv.U

namespace Go.Dv.U

open Go Go.Dv Go.Proofs

def hasB (c : Int) (s : List UInt8) : Bool := s.any fun b => ib b == c

end Go.Dv.U

namespace Go.Dv.U

open Go Go.Dv Go.Proofs

/-- a valid value -/
def vVal (v : TValue) : Bool :=
  if v.fKind = 1 then v.fNum == 0 && v.fRef == 0 && decide (v.fText.length ≤ 200)
  else if v.fKind = 2 then v.fText == [] && v.fRef == 0 && decide (-1000000000000 ≤ v.fNum) && decide (v.fNum ≤ 1000000000000)
  else if v.fKind = 3 then v.fNum == 0 && v.fRef == 0 && decide (1 ≤ v.fText.length) && decide (v.fText.length ≤ 1200)
  else if v.fKind = 4 ∨ v.fKind = 5 ∨ v.fKind = 6 then v.fNum == 0 && v.fText == [] && decide (1 ≤ v.fRef) && decide (v.fRef ≤ 1000000)
  else if v.fKind = 7 ∨ v.fKind = 8 then v.fNum == 0 && v.fRef == 0 && isName v.fText
  else false

theorem s_l06Plain_ok (v : TValue) (a b c : Bool) : s_l06Plain v a b c = some ((a || v.fNum == 0) && (b || v.fText == []) && (c || v.fRef == 0)) := by
  rw [s_l06Plain_eq]
  cases a <;> cases b <;> cases c <;> simp only [Bool.false_eq_true, if_false, if_true, Bool.true_or, Bool.false_or, Bool.true_and, Bool.and_true] <;> grind

theorem s_ValidValue_ok (v : TValue) : s_ValidValue v = some (vVal v) := by
  rw [s_ValidValue_eq]
  simp only [s_ValidValue_L11_eq, s_ValidValue_L12_eq, s_l06Plain_ok, s_l00In_ok, s_IsName_ok, Option.bind_some, ite_some, len_eq]
  congr 1
  unfold vVal
  have e : ∀ n : Nat, decide ((1 : Int) ≤ (n : Int)) = decide (1 ≤ n) := fun n => by rw [Bool.eq_iff_iff]; simp only [decide_eq_true_eq]; omega
  have e2 : ∀ n : Nat, decide ((n : Int) ≤ (1200 : Int)) = decide (n ≤ 1200) := fun n => by rw [Bool.eq_iff_iff]; simp only [decide_eq_true_eq]; omega
  have e3 : ∀ n : Nat, decide ((n : Int) ≤ (200 : Int)) = decide (n ≤ 200) := fun n => by rw [Bool.eq_iff_iff]; simp only [decide_eq_true_eq]; omega
  simp only [e, e2, e3]
  grind

theorem i_isObjectId_ok (n : Int) : i_isObjectId n = some (decide (1 ≤ n) && decide (n ≤ 1000000)) := by
  rw [i_isObjectId_eq, i_within_ok]; rfl

theorem i_ValidValue_ok (v : TValue) : i_ValidValue v = some (vVal v) := by
  rw [i_ValidValue_eq]
  simp only [i_ValidValue_L11_eq, i_ValidValue_L12_eq, i_isObjectId_ok, i_within_ok, i_IsName_ok, Option.bind_some, ite_some, len_eq]
  congr 1
  unfold vVal
  have e : ∀ n : Nat, decide ((n : Int) ≥ (1 : Int)) = decide (1 ≤ n) := fun n => by rw [Bool.eq_iff_iff]; simp only [decide_eq_true_eq]; omega
  have e2 : ∀ n : Nat, decide ((n : Int) ≤ (1200 : Int)) = decide (n ≤ 1200) := fun n => by rw [Bool.eq_iff_iff]; simp only [decide_eq_true_eq]; omega
  have e3 : ∀ n : Nat, decide ((n : Int) ≤ (200 : Int)) = decide (n ≤ 200) := fun n => by rw [Bool.eq_iff_iff]; simp only [decide_eq_true_eq]; omega
  simp only [e, e2, e3]
  grind

def vNull (v : TValue) : Bool := v.fKind == 1 && v.fNum == 0 && v.fText == [] && v.fRef == 0

theorem s_IsNull_ok (v : TValue) : s_IsNull v = some (vNull v) := by
  rw [s_IsNull_eq]; unfold vNull; simp only [Bool.and_true, Bool.and_assoc]

theorem i_null_ok : i_null = some (TValue.mk 1 0 [] 0) := by
  rw [i_null_eq, i_textOf_eq]; rfl

theorem i_IsNull_ok (v : TValue) : i_IsNull v = some (vNull v) := by
  rw [i_IsNull_eq, i_null_ok]; unfold vNull; simp only [Option.bind_some, Bool.and_true, Bool.and_assoc]

end Go.Dv.U

namespace Go.Dv.U

open Go Go.Dv Go.Proofs

/-- names, none of them twice -/
def nmList (l : List (List UInt8)) : Bool := l.all isName && decide l.Nodup

theorem i_areAllName_ok {l : List (List UInt8)} (h : l.length ≤ 9223372036854775807) : i_areAll_string__i_IsName l = some (l.all isName) := by
  rw [i_areAll_string__i_IsName_eq]
  exact all_loop h (F := i_IsName) (p := isName) (J := i_areAll_string_L2__i_IsName l (len l)) (fun i => by rw [i_areAll_string_L2__i_IsName_eq]) (fun y _ => i_IsName_ok)

theorem cloneS_ok {l : List (List UInt8)} (h : l.length ≤ 68719476736) : cloneS l = some l := by unfold cloneS big; rw [if_pos h]

theorem sortS_ok {l : List (List UInt8)} (h : l.length ≤ 68719476736) : sortS l = some (Lib.compact (l.mergeSort fun x y => decide (x ≤ y))) := by unfold sortS big; rw [if_pos h]

theorem len_sort (l : List (List UInt8)) : (len (Lib.compact (l.mergeSort fun x y => decide (x ≤ y))) == len l) = decide l.Nodup := by
  rw [Bool.eq_iff_iff, beq_iff_eq, decide_eq_true_eq, ← sort_nodup, len_eq, len_eq]; omega

theorem i_areFields_ok {l : List (List UInt8)} : i_areFields l = some (decide (1 ≤ l.length) && decide (l.length ≤ 6) && nmList l) := by
  rw [i_areFields_eq, i_areFields_L2_eq]
  by_cases h1 : l.length < 1
  · rw [if_pos (by simp only [len_eq, decide_eq_true_eq]; omega)]; simp; omega
  · rw [if_neg (by simp only [len_eq, decide_eq_true_eq]; omega)]
    by_cases h2 : l.length > 6
    · rw [if_pos (by simp only [len_eq, decide_eq_true_eq]; omega)]; simp; omega
    · rw [if_neg (by simp only [len_eq, decide_eq_true_eq]; omega), i_areAllName_ok (by omega), i_areFields_L3_eq, cloneS_ok (by omega)]
      simp only [Option.bind_some]
      rw [sortS_ok (by omega)]
      simp only [Option.bind_some, len_sort, nmList, show 1 ≤ l.length by omega, show l.length ≤ 6 by omega, decide_true, Bool.true_and]
      cases l.all isName <;> simp

theorem s_l17At_ok {l : List (List UInt8)} (h : l.length ≤ 9223372036854775807) (x : List UInt8) : s_l17At l x = some (if x ∈ l then (l.idxOf x : Int) else -1) := by
  rw [s_l17At_eq]
  have key := loop_ind h (P := fun i r => s_l17At_L2 l x i = some (if x ∈ r then ((i + r.idxOf x : Nat) : Int) else -1)) ?_ ?_
  · simpa using key
  · rw [s_l17At_L2_eq]; simp [len_eq]
  · intro i y r _ hlt hy hi hw ih
    rw [s_l17At_L2_eq, hi, hw, if_pos (by simp [len_eq, hlt])]
    simp only [Option.bind_some]
    by_cases e : y = x
    · subst e; simp
    · have e1 : (y == x) = false := by simpa using e
      rw [e1, ih]
      simp only [Bool.false_eq_true, if_false, List.mem_cons, List.idxOf_cons, e1, cond_false]
      have e2 : ¬ x = y := fun h => e h.symm
      simp only [e2, false_or]
      congr 1
      split <;> omega

theorem s_l18Names_ok {l : List (List UInt8)} (h : l.length ≤ 9223372036854775807) : s_l18Names l = some (nmList l) := by
  rw [s_l18Names_eq]
  have key := loop_ind h (P := fun i r => s_l18Names_L2 l i = some (r.all isName && decide (∀ k, k < l.length → i ≤ k → l.idxOf (l.getD k []) = k))) ?_ ?_
  · rw [Int.natCast_zero] at key
    rw [key]
    unfold nmList
    congr 2
    rw [Bool.eq_iff_iff, decide_eq_true_eq, decide_eq_true_eq, nodup_idx]
    constructor
    · intro q k hk; have := q k hk (Nat.zero_le _); rwa [List.getD_eq_getElem?_getD, List.getElem?_eq_getElem hk] at this
    · intro q k hk _; rw [List.getD_eq_getElem?_getD, List.getElem?_eq_getElem hk]; exact q k hk
  · rw [s_l18Names_L2_eq]
    simp only [len_eq, Int.lt_irrefl, decide_false, Bool.false_eq_true, if_false, List.all_nil, Bool.true_and]
    congr 1
    rw [eq_comm, decide_eq_true_eq]
    intro k hk hk2; omega
  · intro i y r _ hlt hy hi hw ih
    have hyi : l.getD i [] = y := by rw [List.getD_eq_getElem?_getD, ← idx_nat, hi]; rfl
    rw [s_l18Names_L2_eq, hi, hw, if_pos (by simp [len_eq, hlt])]
    simp only [Option.bind_some, s_IsName_ok, s_l17At_ok h, if_pos hy, List.all_cons]
    rw [ih]
    have hb : (((l.idxOf y : Nat) : Int) != (i : Int)) = !(decide (l.idxOf y = i)) := by
      rw [Bool.eq_iff_iff]; simp only [bne_iff_ne, ne_eq, Bool.not_eq_true', decide_eq_false_iff_not]; omega
    rw [hb]
    have hs : decide (∀ k, k < l.length → i ≤ k → l.idxOf (l.getD k []) = k) = (decide (l.idxOf y = i) && decide (∀ k, k < l.length → i + 1 ≤ k → l.idxOf (l.getD k []) = k)) := by
      rw [Bool.eq_iff_iff, Bool.and_eq_true_iff, decide_eq_true_eq, decide_eq_true_eq, decide_eq_true_eq]
      constructor
      · intro q; exact ⟨by have := q i hlt (Nat.le_refl _); rwa [hyi] at this, fun k hk hk2 => q k hk (by omega)⟩
      · rintro ⟨q1, q2⟩ k hk hk2
        by_cases e : k = i
        · subst e; rw [hyi]; exact q1
        · exact q2 k hk (by omega)
    rw [hs]
    cases isName y <;> cases decide (l.idxOf y = i) <;> simp

theorem concat2 {a b : List (List UInt8)} (ha : a.length ≤ 1048576) (hb : b.length ≤ 1048576) : slices_Concat___string_string_ [a, b] = some (a ++ b) := by
  have w1 : w64 (0 + 1) = 1 := w64_of (by decide) (by decide)
  have w2 : w64 (1 + 1) = 2 := w64_of (by decide) (by decide)
  have l2 : len [a, b] = 2 := by simp [len_eq]
  have i0 : idx [a, b] 0 = some a := by rw [idx_zero]; rfl
  have i1 : idx [a, b] 1 = some b := by rw [idx_one]; rfl
  have wa : w64 (0 + len a) = len a := by rw [Int.zero_add]; exact w64_of (by simp only [len_eq]; omega) (by simp only [len_eq]; omega)
  have wb : w64 (len a + len b) = len a + len b := w64_of (by simp only [len_eq]; omega) (by simp only [len_eq]; omega)
  have na : ¬ decide (len a < 0) = true := by simp only [len_eq, decide_eq_true_eq]; omega
  have nb : ¬ decide (len a + len b < 0) = true := by simp only [len_eq, decide_eq_true_eq]; omega
  have g : growS (len a + len b) = some [] := by
    unfold growS big; rw [if_pos (by simp only [len_eq]; omega)]
  rw [slices_Concat___string_string__eq, l2, slices_Concat___string_string__L3_eq, if_pos (by decide), i0, w1]
  simp only [Option.bind_some, wa, if_neg na]
  rw [slices_Concat___string_string__L3_eq, if_pos (by decide), i1, w2]
  simp only [Option.bind_some, wb, if_neg nb]
  rw [slices_Concat___string_string__L3_eq, if_neg (by decide), g, l2]
  simp only [Option.bind_some]
  rw [slices_Concat___string_string__L11_eq, if_pos (by decide), i0, w1, Option.bind_some, app_of (by simp; omega), Option.bind_some, List.nil_append,
    slices_Concat___string_string__L11_eq, if_pos (by decide), i1, w2, Option.bind_some, app_of (by omega), Option.bind_some, slices_Concat___string_string__L11_eq, if_neg (by decide)]

def bdOk (b : TBinding) : Bool := isName b.fName && vVal b.fValue && !vNull b.fValue

def fnOk (f : TFunction) : Bool := isName f.fName && isName f.fLabel && decide (f.fParams.length ≤ 6) && decide (f.fLocals.length ≤ 6) && nmList (f.fParams ++ f.fLocals)

def tyOk (t : TRecordType) : Bool := isName t.fName && decide (1 ≤ t.fFields.length) && decide (t.fFields.length ≤ 6) && nmList t.fFields

def scOk (s : TScope) : Bool := decide (s.fVars.length ≤ 40) && decide (s.fFunctions.length ≤ 12) && decide (s.fTypes.length ≤ 8) &&
  (s.fVars.all bdOk && adj TBinding.fName s.fVars) && (s.fFunctions.all fnOk && adj TFunction.fName s.fFunctions) && (s.fTypes.all tyOk && adj TRecordType.fName s.fTypes)

theorem i_Binding_isValid_ok (b : TBinding) : i_Binding_isValid b = some (bdOk b) := by
  rw [i_Binding_isValid_eq]
  simp only [i_IsName_ok, i_ValidValue_ok, i_IsNull_ok, Option.bind_some]
  unfold bdOk
  cases isName b.fName <;> cases vVal b.fValue <;> simp

theorem i_Function_isValid_ok {f : TFunction} (hm : f.m ≤ 1048576) : i_Function_isValid f = some (fnOk f) := by
  have hq := f.m_eq
  rw [i_Function_isValid_eq, concat2 (by omega) (by omega)]
  simp only [i_IsName_ok, Option.bind_some]
  rw [i_areAllName_ok (by simp; omega), cloneS_ok (by simp; omega)]
  simp only [Option.bind_some]
  rw [sortS_ok (by simp; omega)]
  simp only [Option.bind_some, len_sort]
  unfold fnOk nmList
  have e : ∀ n : Nat, decide ((n : Int) ≤ (6 : Int)) = decide (n ≤ 6) := fun n => by rw [Bool.eq_iff_iff]; simp only [decide_eq_true_eq]; omega
  simp only [len_eq, e]
  cases isName f.fName <;> cases isName f.fLabel <;> cases decide (f.fParams.length ≤ 6) <;> cases decide (f.fLocals.length ≤ 6) <;> cases (f.fParams ++ f.fLocals).all isName <;> simp

theorem i_RecordType_isValid_ok (t : TRecordType) : i_RecordType_isValid t = some (tyOk t) := by
  rw [i_RecordType_isValid_eq]
  simp only [i_IsName_ok, i_areFields_ok, Option.bind_some]
  unfold tyOk
  cases isName t.fName <;> simp

theorem s_l18Function_ok {f : TFunction} (hm : f.m ≤ 1048576) : s_l18Function f = some (fnOk f) := by
  have hq := f.m_eq
  rw [s_l18Function_eq]
  simp only [s_l18Function_L2_eq, s_l18Function_L3_eq, s_IsName_ok, Option.bind_some]
  rw [app_of (by simp; omega), List.nil_append, Option.bind_some, app_of (by omega), Option.bind_some, s_l18Names_ok (by simp; omega)]
  unfold fnOk
  have e : ∀ n : Nat, decide ((n : Int) > (6 : Int)) = !decide (n ≤ 6) := fun n => by rw [Bool.eq_iff_iff]; simp only [decide_eq_true_eq, Bool.not_eq_true', decide_eq_false_iff_not]; omega
  simp only [len_eq, e, Option.bind_some]
  cases isName f.fName <;> cases isName f.fLabel <;> cases decide (f.fParams.length ≤ 6) <;> cases decide (f.fLocals.length ≤ 6) <;> simp

theorem s_l18Type_ok {t : TRecordType} (h : t.fFields.length ≤ 9223372036854775807) : s_l18Type t = some (tyOk t) := by
  rw [s_l18Type_eq]
  simp only [s_IsName_ok, s_l00In_ok, s_l18Names_ok h, Option.bind_some]
  unfold tyOk
  have e : ∀ n : Nat, decide ((n : Int) ≤ (6 : Int)) = decide (n ≤ 6) := fun n => by rw [Bool.eq_iff_iff]; simp only [decide_eq_true_eq]; omega
  have e2 : ∀ n : Nat, decide ((1 : Int) ≤ (n : Int)) = decide (1 ≤ n) := fun n => by rw [Bool.eq_iff_iff]; simp only [decide_eq_true_eq]; omega
  simp only [len_eq, e, e2]
  cases isName t.fName <;> cases decide (1 ≤ t.fFields.length) <;> cases decide (t.fFields.length ≤ 6) <;> simp

theorem i_ValidScope_ok {s : TScope} (hm : s.m ≤ 1048576) : i_ValidScope s = some (scOk s) := by
  have hq := s.m_eq
  rw [i_ValidScope_eq]
  simp only [i_ValidScope_L2_eq, i_ValidScope_L3_eq, i_ValidScope_L4_eq]
  have a1 := adj_loop (xs := s.fVars) (by omega) (nm := TBinding.fName) (J := i_isSorted_impl_Binding_L2__i_nameOfBinding s.fVars) (fun i => by rw [i_isSorted_impl_Binding_L2__i_nameOfBinding_eq]; simp only [i_nameOfBinding_eq, Option.bind_some])
  have a2 := adj_loop (xs := s.fFunctions) (by omega) (nm := TFunction.fName) (J := i_isSorted_impl_Function_L2__i_nameOfFunction s.fFunctions) (fun i => by rw [i_isSorted_impl_Function_L2__i_nameOfFunction_eq]; simp only [i_nameOfFunction_eq, Option.bind_some])
  have a3 := adj_loop (xs := s.fTypes) (by omega) (nm := TRecordType.fName) (J := i_isSorted_impl_RecordType_L2__i_nameOfType s.fTypes) (fun i => by rw [i_isSorted_impl_RecordType_L2__i_nameOfType_eq]; simp only [i_nameOfType_eq, Option.bind_some])
  have b1 := all_loop (xs := s.fVars) (by omega) (F := i_Binding_isValid) (p := bdOk) (J := i_areAll_impl_Binding_L2__i_Binding_isValid s.fVars (len s.fVars)) (fun i => by rw [i_areAll_impl_Binding_L2__i_Binding_isValid_eq]) (fun y _ => i_Binding_isValid_ok y)
  have b2 := all_loop (xs := s.fFunctions) (by omega) (F := i_Function_isValid) (p := fnOk) (J := i_areAll_impl_Function_L2__i_Function_isValid s.fFunctions (len s.fFunctions)) (fun i => by rw [i_areAll_impl_Function_L2__i_Function_isValid_eq]) (fun y hy => i_Function_isValid_ok (by have := sumOf_mem (m := TFunction.m) hy; omega))
  have b3 := all_loop (xs := s.fTypes) (by omega) (F := i_RecordType_isValid) (p := tyOk) (J := i_areAll_impl_RecordType_L2__i_RecordType_isValid s.fTypes (len s.fTypes)) (fun i => by rw [i_areAll_impl_RecordType_L2__i_RecordType_isValid_eq]) (fun y _ => i_RecordType_isValid_ok y)
  simp only [i_isSorted_impl_Binding__i_nameOfBinding_eq, i_isSorted_impl_Function__i_nameOfFunction_eq, i_isSorted_impl_RecordType__i_nameOfType_eq, i_areAll_impl_Binding__i_Binding_isValid_eq, i_areAll_impl_Function__i_Function_isValid_eq, i_areAll_impl_RecordType__i_RecordType_isValid_eq, a1, a2, a3, b1, b2, b3, Option.bind_some]
  have e : ∀ n c : Nat, decide ((n : Int) > (c : Int)) = !decide (n ≤ c) := fun n c => by rw [Bool.eq_iff_iff]; simp only [decide_eq_true_eq, Bool.not_eq_true', decide_eq_false_iff_not]; omega
  have e1 := e s.fVars.length 40
  have e2 := e s.fFunctions.length 12
  have e3 := e s.fTypes.length 8
  simp only [Int.cast_ofNat_Int] at e1 e2 e3
  unfold scOk
  simp only [len_eq, e1, e2, e3]
  cases decide (s.fVars.length ≤ 40) <;> cases decide (s.fFunctions.length ≤ 12) <;> cases decide (s.fTypes.length ≤ 8) <;> cases adj TBinding.fName s.fVars <;> cases adj TFunction.fName s.fFunctions <;> cases adj TRecordType.fName s.fTypes <;> cases s.fVars.all bdOk <;> cases s.fFunctions.all fnOk <;> cases s.fTypes.all tyOk <;> rfl

theorem s_ValidScope_ok {s : TScope} (hm : s.m ≤ 1048576) : s_ValidScope s = some (scOk s) := by
  have hq := s.m_eq
  have pre : ∀ (j n : Nat), j + 1 < n → n ≤ 1048577 → w64 (((j + 1 : Nat) : Int) - 1) = (j : Int) := fun j n h1 h2 => by rw [w64_of (by omega) (by omega)]; omega
  have nx : ∀ (i n : Nat), i < n → n ≤ 1048577 → w64 ((i : Int) + 1) = ((i + 1 : Nat) : Int) := fun i n h1 h2 => by rw [w64_of (by omega) (by omega)]; omega
  have t3 := chk_loop (xs := s.fTypes) (by omega) (p := tyOk) (nm := TRecordType.fName) (E := some true) (J := fun i => s_ValidScope_L15 i s.fVars s.fFunctions s.fTypes) (fun i hi => by
    rw [s_ValidScope_L15_eq, idx_nat]
    by_cases hlt : i < s.fTypes.length
    · rw [if_pos (by simp [len_eq, hlt]), List.getElem?_eq_getElem hlt]
      simp only [Option.bind_some]
      rw [s_l18Type_ok (by have := sumOf_mem (m := TRecordType.m) (List.getElem_mem hlt); have := (s.fTypes[i]).m_eq; omega)]
      simp only [Option.bind_some, s_ValidScope_L16_eq, s_ValidScope_L18_eq, nx i _ hlt (by omega)]
      cases i with
      | zero => cases tyOk s.fTypes[0] <;> simp
      | succ j =>
        have hj : s.fTypes[j]? = some s.fTypes[j] := List.getElem?_eq_getElem (by omega)
        have hp : decide (((j + 1 : Nat) : Int) > 0) = true := by simp only [decide_eq_true_eq]; omega
        rw [if_pos hp, pre j _ hlt (by omega), idx_nat]
        simp only [hj, Option.bind_some]
        by_cases h1 : tyOk s.fTypes[j + 1] = true <;> by_cases hb : Op.bytesLess s.fTypes[j].fName s.fTypes[j + 1].fName = true <;> simp [h1, hb]
    · rw [if_neg (by simp only [len_eq, decide_eq_true_eq]; omega), List.getElem?_eq_none (by omega)])
  have t2 := chk_loop (xs := s.fFunctions) (by omega) (p := fnOk) (nm := TFunction.fName) (E := s_ValidScope_L15 0 s.fVars s.fFunctions s.fTypes) (J := fun i => s_ValidScope_L10 i s.fVars s.fFunctions s.fTypes) (fun i hi => by
    rw [s_ValidScope_L10_eq, idx_nat]
    by_cases hlt : i < s.fFunctions.length
    · rw [if_pos (by simp [len_eq, hlt]), List.getElem?_eq_getElem hlt]
      simp only [Option.bind_some]
      rw [s_l18Function_ok (by have := sumOf_mem (m := TFunction.m) (List.getElem_mem hlt); omega)]
      simp only [Option.bind_some, s_ValidScope_L11_eq, s_ValidScope_L13_eq, nx i _ hlt (by omega)]
      cases i with
      | zero => cases fnOk s.fFunctions[0] <;> simp
      | succ j =>
        have hj : s.fFunctions[j]? = some s.fFunctions[j] := List.getElem?_eq_getElem (by omega)
        have hp : decide (((j + 1 : Nat) : Int) > 0) = true := by simp only [decide_eq_true_eq]; omega
        rw [if_pos hp, pre j _ hlt (by omega), idx_nat]
        simp only [hj, Option.bind_some]
        by_cases h1 : fnOk s.fFunctions[j + 1] = true <;> by_cases hb : Op.bytesLess s.fFunctions[j].fName s.fFunctions[j + 1].fName = true <;> simp [h1, hb]
    · rw [if_neg (by simp only [len_eq, decide_eq_true_eq]; omega), List.getElem?_eq_none (by omega)])
  have t1 := chk_loop (xs := s.fVars) (by omega) (p := bdOk) (nm := TBinding.fName) (E := s_ValidScope_L10 0 s.fVars s.fFunctions s.fTypes) (J := fun i => s_ValidScope_L4 i s.fVars s.fFunctions s.fTypes) (fun i hi => by
    rw [s_ValidScope_L4_eq, idx_nat]
    by_cases hlt : i < s.fVars.length
    · rw [if_pos (by simp [len_eq, hlt]), List.getElem?_eq_getElem hlt]
      simp only [Option.bind_some, s_IsName_ok, s_ValidValue_ok, s_IsNull_ok, s_ValidScope_L5_eq, s_ValidScope_L8_eq, nx i _ hlt (by omega), bdOk]
      cases i with
      | zero => by_cases h1 : isName s.fVars[0].fName = true <;> by_cases h2 : vVal s.fVars[0].fValue = true <;> by_cases h3 : vNull s.fVars[0].fValue = true <;> simp [h1, h2, h3]
      | succ j =>
        have hj : s.fVars[j]? = some s.fVars[j] := List.getElem?_eq_getElem (by omega)
        have hp : decide (((j + 1 : Nat) : Int) > 0) = true := by simp only [decide_eq_true_eq]; omega
        rw [if_pos hp, pre j _ hlt (by omega), idx_nat]
        simp only [hj, Option.bind_some]
        by_cases h1 : isName s.fVars[j + 1].fName = true <;> by_cases h2 : vVal s.fVars[j + 1].fValue = true <;> by_cases h3 : vNull s.fVars[j + 1].fValue = true <;> by_cases hb : Op.bytesLess s.fVars[j].fName s.fVars[j + 1].fName = true <;> simp [h1, h2, h3, hb]
    · rw [if_neg (by simp only [len_eq, decide_eq_true_eq]; omega), List.getElem?_eq_none (by omega)])
  rw [t3] at t2
  rw [t2] at t1
  rw [s_ValidScope_eq]
  simp only [s_ValidScope_L2_eq, s_ValidScope_L3_eq, t1]
  have e : ∀ n c : Nat, decide ((n : Int) > (c : Int)) = !decide (n ≤ c) := fun n c => by rw [Bool.eq_iff_iff]; simp only [decide_eq_true_eq, Bool.not_eq_true', decide_eq_false_iff_not]; omega
  have e1 := e s.fVars.length 40
  have e2 := e s.fFunctions.length 12
  have e3 := e s.fTypes.length 8
  simp only [Int.cast_ofNat_Int] at e1 e2 e3
  unfold scOk
  simp only [len_eq, e1, e2, e3]
  cases decide (s.fVars.length ≤ 40) <;> cases decide (s.fFunctions.length ≤ 12) <;> cases decide (s.fTypes.length ≤ 8) <;> cases (s.fVars.all bdOk && adj TBinding.fName s.fVars) <;> cases (s.fFunctions.all fnOk && adj TFunction.fName s.fFunctions) <;> cases (s.fTypes.all tyOk && adj TRecordType.fName s.fTypes) <;> rfl

end Go.Dv.U

namespace Go.Dv.U

open Go Go.Dv Go.Proofs

theorem ownStringS_of {xs : List (List UInt8)} (hx : xs.length ≤ 68719476736) : l_toStringS_v1 xs = some ((xs, ()), ()) := by
  rw [l_toStringS_v1_eq, mk_len _ _ hx]
  simp only [Option.bind_some]
  exact toE_loop (xs := xs) (by omega) (F := fun y => some y) (G := id) (E := fun zs => some ((zs, ()), ())) (J := l_toStringS_L3_v1) (fun i zs => by rw [l_toStringS_L3_v1_eq]; rfl) (fun y _ => ⟨y, rfl, rfl⟩) _ (by simp)

theorem ownBindingS_of {xs : List TBinding} (hx : xs.length ≤ 68719476736) (hF : ∀ y ∈ xs, l_toBinding y = some y) : l_toBindingS_v1 xs = some ((xs, ()), ()) := by
  rw [l_toBindingS_v1_eq, mk_len _ _ hx]
  simp only [Option.bind_some]
  exact toE_loop (xs := xs) (by omega) (F := l_toBinding) (G := id) (E := fun zs => some ((zs, ()), ())) (J := l_toBindingS_L3_v1) (fun i zs => by rw [l_toBindingS_L3_v1_eq]; rfl) (fun y hy => ⟨y, hF y hy, rfl⟩) _ (by simp)

theorem ownFunction_ok {x : TFunction} (hm : x.m ≤ 1048576) : l_toFunction_v1 x = some ((x.fName, x.fParams, x.fLocals, x.fLabel, ()), ()) := by
  have := x.m_eq
  rw [l_toFunction_v1_eq, ownStringS_of (by omega), ownStringS_of (by omega)]
  rfl

theorem ownFunctionS_of {xs : List TFunction} (hx : xs.length ≤ 68719476736) (hF : ∀ y ∈ xs, y.m ≤ 1048576) : l_toFunctionS_v1 xs = some ((xs, ()), ()) := by
  rw [l_toFunctionS_v1_eq, mk_len _ _ hx]
  simp only [Option.bind_some]
  exact toE_loop (xs := xs) (by omega) (F := l_toFunction_v1) (G := fun r198 => TFunction.mk (Prod.fst (Prod.fst r198)) (Prod.fst (Prod.snd (Prod.fst r198))) (Prod.fst (Prod.snd (Prod.snd (Prod.fst r198)))) (Prod.fst (Prod.snd (Prod.snd (Prod.snd (Prod.fst r198)))))) (E := fun zs => some ((zs, ()), ())) (J := l_toFunctionS_L3_v1) (fun i zs => by rw [l_toFunctionS_L3_v1_eq]) (fun y hy => ⟨_, ownFunction_ok (hF y hy), rfl⟩) _ (by simp)

theorem ownRecordType_ok {x : TRecordType} (hm : x.m ≤ 1048576) : l_toRecordType_v1 x = some ((x.fName, x.fFields, ()), ()) := by
  have := x.m_eq
  rw [l_toRecordType_v1_eq, ownStringS_of (by omega)]
  rfl

theorem ownRecordTypeS_of {xs : List TRecordType} (hx : xs.length ≤ 68719476736) (hF : ∀ y ∈ xs, y.m ≤ 1048576) : l_toRecordTypeS_v1 xs = some ((xs, ()), ()) := by
  rw [l_toRecordTypeS_v1_eq, mk_len _ _ hx]
  simp only [Option.bind_some]
  exact toE_loop (xs := xs) (by omega) (F := l_toRecordType_v1) (G := fun r198 => TRecordType.mk (Prod.fst (Prod.fst r198)) (Prod.fst (Prod.snd (Prod.fst r198)))) (E := fun zs => some ((zs, ()), ())) (J := l_toRecordTypeS_L3_v1) (fun i zs => by rw [l_toRecordTypeS_L3_v1_eq]) (fun y hy => ⟨_, ownRecordType_ok (hF y hy), rfl⟩) _ (by simp)

theorem ownScope_ok {x : TScope} (hm : x.m ≤ 1048576) : l_toScope_v1 x = some ((x.fVars, x.fFunctions, x.fTypes, ()), ()) := by
  have hq := x.m_eq
  rw [l_toScope_v1_eq, ownBindingS_of (by omega) (fun y hy => toBinding_ok y (by have := sumOf_mem (m := TBinding.m) hy; omega)), ownFunctionS_of (by omega) (fun y hy => by have := sumOf_mem (m := TFunction.m) hy; omega),
    ownRecordTypeS_of (by omega) (fun y hy => by have := sumOf_mem (m := TRecordType.m) hy; omega)]
  rfl

theorem sum_add {α : Type} (c : Nat) (m : α → Nat) : ∀ l : List α, sumOf (fun y => c + m y) l = c * l.length + sumOf m l
  | [] => rfl
  | y :: r => by simp only [sumOf, List.length_cons, sum_add c m r, Nat.mul_succ]; omega

theorem markBindingS_ok {xs : List TBinding} {k : Int} (h0 : 0 ≤ k) (h1 : k + 5 * xs.length + sumOf TBinding.m xs < 4611686018427387904) : ∃ k' xs', l_markBindingS k xs = some (k', xs', ()) ∧ k ≤ k' ∧ k' ≤ k + 5 * xs.length + sumOf TBinding.m xs := by
  rw [l_markBindingS_eq]
  obtain ⟨k', xs', e, g1, g2, _⟩ := mark_loop (B := 4611686018427387904) (m := fun y : TBinding => 5 + y.m) (Q := fun _ => True) (J := l_markBindingS_L2) (fun k xs => by rw [l_markBindingS_L2_eq]; simp [len_eq]) (by
      intro k i xs hlt _ g0 g1 gl
      rw [l_markBindingS_L2_eq]
      have hc : decide ((i : Int) < len xs) = true := by simp [len_eq, hlt]
      rw [if_pos hc]
      have w4 : w64 ((i : Int) + 1) = ((i + 1 : Nat) : Int) := by rw [w64_of (by omega) (by omega)]; omega
      simp (disch := omega) only [idx_nat, Int.toNat_natCast, List.getElem?_eq_getElem hlt, upd_eq, List.set_set, List.getElem?_set_self hlt, Option.bind_some, w4, w64_of, l_markText_ok]
      exact ⟨_, _, rfl, by omega, by omega⟩) xs k (fun y hy => trivial) h0 (by rw [sum_add]; omega) (by omega)
  rw [sum_add] at g2
  exact ⟨k', xs', e, g1, by omega⟩

theorem markFunctionS_ok {xs : List TFunction} {k : Int} (h0 : 0 ≤ k) (h1 : k + 5 * xs.length + sumOf TFunction.m xs < 4611686018427387904) : ∃ k' xs', l_markFunctionS k xs = some (k', xs', ()) ∧ k ≤ k' ∧ k' ≤ k + 5 * xs.length + sumOf TFunction.m xs := by
  rw [l_markFunctionS_eq]
  obtain ⟨k', xs', e, g1, g2, _⟩ := mark_loop (B := 4611686018427387904) (m := fun y : TFunction => 5 + y.m) (Q := fun _ => True) (J := l_markFunctionS_L2) (fun k xs => by rw [l_markFunctionS_L2_eq]; simp [len_eq]) (by
      intro k i xs hlt _ g0 g1 gl
      rw [l_markFunctionS_L2_eq]
      have hq := xs[i].m_eq
      have hc : decide ((i : Int) < len xs) = true := by simp [len_eq, hlt]
      rw [if_pos hc]
      have w4 : w64 ((i : Int) + 1) = ((i + 1 : Nat) : Int) := by rw [w64_of (by omega) (by omega)]; omega
      simp (disch := omega) only [idx_nat, Int.toNat_natCast, List.getElem?_eq_getElem hlt, upd_eq, List.set_set, List.getElem?_set_self hlt, Option.bind_some, w4, w64_of, l_markText_ok, l_markStringS_ok]
      exact ⟨_, _, rfl, by omega, by omega⟩) xs k (fun y hy => trivial) h0 (by rw [sum_add]; omega) (by omega)
  rw [sum_add] at g2
  exact ⟨k', xs', e, g1, by omega⟩

theorem markRecordTypeS_ok {xs : List TRecordType} {k : Int} (h0 : 0 ≤ k) (h1 : k + 5 * xs.length + sumOf TRecordType.m xs < 4611686018427387904) : ∃ k' xs', l_markRecordTypeS k xs = some (k', xs', ()) ∧ k ≤ k' ∧ k' ≤ k + 5 * xs.length + sumOf TRecordType.m xs := by
  rw [l_markRecordTypeS_eq]
  obtain ⟨k', xs', e, g1, g2, _⟩ := mark_loop (B := 4611686018427387904) (m := fun y : TRecordType => 5 + y.m) (Q := fun _ => True) (J := l_markRecordTypeS_L2) (fun k xs => by rw [l_markRecordTypeS_L2_eq]; simp [len_eq]) (by
      intro k i xs hlt _ g0 g1 gl
      rw [l_markRecordTypeS_L2_eq]
      have hq := xs[i].m_eq
      have hc : decide ((i : Int) < len xs) = true := by simp [len_eq, hlt]
      rw [if_pos hc]
      have w4 : w64 ((i : Int) + 1) = ((i + 1 : Nat) : Int) := by rw [w64_of (by omega) (by omega)]; omega
      simp (disch := omega) only [idx_nat, Int.toNat_natCast, List.getElem?_eq_getElem hlt, upd_eq, List.set_set, List.getElem?_set_self hlt, Option.bind_some, w4, w64_of, l_markText_ok, l_markStringS_ok]
      exact ⟨_, _, rfl, by omega, by omega⟩) xs k (fun y hy => trivial) h0 (by rw [sum_add]; omega) (by omega)
  rw [sum_add] at g2
  exact ⟨k', xs', e, g1, by omega⟩

theorem markScope_ok {x : TScope} (hm : x.m ≤ 1048576) : ∃ k' a b c, l_markScope 1 x.fVars x.fFunctions x.fTypes = some (k', a, b, c, ()) ∧ 1 ≤ k' := by
  have hq := x.m_eq
  obtain ⟨k1, a, e1, g1, h1⟩ := markBindingS_ok (xs := x.fVars) (k := 1) (by omega) (by omega)
  obtain ⟨k2, b, e2, g2, h2⟩ := markFunctionS_ok (xs := x.fFunctions) (k := k1) (by omega) (by omega)
  obtain ⟨k3, c, e3, g3, h3⟩ := markRecordTypeS_ok (xs := x.fTypes) (k := k2) (by omega) (by omega)
  refine ⟨k3, a, b, c, ?_, by omega⟩
  rw [l_markScope_eq, e1]
  simp only [Option.bind_some, e2, e3]

noncomputable def mkV (k : Int) : TValue := ⟨k, k + 1, mkT (k + 2), k + 3⟩

theorem markValueS_ok {xs : List TValue} {k : Int} (h0 : 0 ≤ k) (h1 : k + (4 * xs.length : Nat) < 4611686018427387904) : l_markValueS k xs = some (k + (4 * xs.length : Nat), marksL mkV 4 k xs.length, ()) := by
  rw [l_markValueS_eq]
  refine markL_loop (μ := mkV) (c := 4) (J := l_markValueS_L2) (fun k xs => by rw [l_markValueS_L2_eq]; simp [len_eq]) ?_ xs k h0 h1 (by omega)
  intro k i xs hlt g0 g1 gl
  rw [l_markValueS_L2_eq]
  have hc : decide ((i : Int) < len xs) = true := by simp [len_eq, hlt]
  rw [if_pos hc]
  have w4 : w64 ((i : Int) + 1) = ((i + 1 : Nat) : Int) := by rw [w64_of (by omega) (by omega)]; omega
  simp (disch := omega) only [idx_nat, Int.toNat_natCast, List.getElem?_eq_getElem hlt, upd_eq, List.set_set, List.getElem?_set_self hlt, Option.bind_some, w4, w64_of, l_markText_ok, mkV]
  simp only [Int.add_assoc]
  rfl

theorem heldValueS_ok {n : Nat} {k : Int} (h0 : 0 ≤ k) (h1 : k + (4 * n : Nat) < 4611686018427387904) : l_heldValueS (marksL mkV 4 k n) k = some (k + (4 * n : Nat)) := by
  rw [l_heldValueS_eq]
  refine heldL_loop (μ := mkV) (c := 4) (J := fun k i => l_heldValueS_L2 (marksL mkV 4 _ n) k i) (by omega) h0 h1 (fun k => ?_) ?_
  · show l_heldValueS_L2 _ _ _ = _
    rw [l_heldValueS_L2_eq]; simp [len_eq, marksL_len]
  · intro k' i hlt g0 g1 hi
    show l_heldValueS_L2 _ _ _ = l_heldValueS_L2 _ _ _
    rw [l_heldValueS_L2_eq]
    have hc : decide ((i : Int) < len (marksL mkV 4 k n)) = true := by simp [len_eq, marksL_len, hlt]
    rw [if_pos hc, hi]
    have w4 : w64 ((i : Int) + 1) = ((i + 1 : Nat) : Int) := by rw [w64_of (by omega) (by omega)]; omega
    simp (disch := omega) only [Option.bind_some, w4, w64_of, l_markText_ok, mkV]
    simp [Int.add_assoc]

theorem valSelf_ok {xs : List TValue} (hx : xs.length ≤ 9223372036854775807) : l_eqValueS xs xs = some true := by
  rw [l_eqValueS_eq]
  simp only [bne_self_eq_false, Bool.false_eq_true, if_false]
  exact eq_loop (by omega) (J := l_eqValueS_L4) (F := l_eqValue) (fun i => by rw [l_eqValueS_L4_eq]; try simp only [TValue.re_eq]) (fun y _ => by rw [l_eqValue_eq]; simp)

theorem s_roots_ok {x : TScope} (hm : x.m ≤ 1048576) : s_ScopeRoots x = some (if scOk x = true then x.fVars.map (·.fValue) else []) := by
  have hq := x.m_eq
  rw [s_ScopeRoots_eq, s_ValidScope_ok hm]
  simp only [Option.bind_some]
  by_cases h : scOk x = true
  · simp only [h, Bool.not_true, Bool.false_eq_true, if_false, if_true]
    have := cat_loop (xs := x.fVars) (by omega) (f := fun b => [b.fValue]) (J := fun i a => s_ScopeRoots_L5 i x.fVars x.fFunctions x.fTypes a) (B := 68719476736) (by
      intro i y a hlt hy hi hw hb
      show s_ScopeRoots_L5 _ _ _ _ _ = s_ScopeRoots_L5 _ _ _ _ _
      rw [s_ScopeRoots_L5_eq]
      have hc : decide ((i : Int) < len x.fVars) = true := by simp [len_eq, hlt]
      rw [if_pos hc, hi]
      simp only [Option.bind_some]
      rw [app_of hb, hw]
      rfl) (by simp only [List.flatMap_singleton', List.length_flatMap, List.length_singleton, List.map_const', List.sum_replicate_nat]; omega)
    rw [show s_ScopeRoots_L5 0 x.fVars x.fFunctions x.fTypes [] = _ from this, s_ScopeRoots_L5_eq]
    simp [len_eq, List.flatMap_singleton', ← List.map_eq_flatMap]
  · simp [h]

theorem i_roots_ok {x : TScope} (hm : x.m ≤ 1048576) : i_ScopeRoots x = some (((if scOk x = true then x.fVars.map (·.fValue) else []), ()), ()) := by
  have hq := x.m_eq
  rw [i_ScopeRoots_eq, i_ValidScope_ok hm]
  simp only [Option.bind_some]
  by_cases h : scOk x = true
  · simp only [h, Bool.not_true, Bool.false_eq_true, if_false, if_true]
    rw [i_Scope_roots_v1_eq]
    have := cat_loop (xs := x.fVars) (by omega) (f := fun b => [b.fValue]) (J := fun i a => i_Scope_roots_L3_v1 x.fVars (len x.fVars) i a) (B := 68719476736) (by
      intro i y a hlt hy hi hw hb
      show i_Scope_roots_L3_v1 _ _ _ _ = i_Scope_roots_L3_v1 _ _ _ _
      rw [i_Scope_roots_L3_v1_eq]
      have hc : decide ((i : Int) < len x.fVars) = true := by simp [len_eq, hlt]
      rw [if_pos hc, hi]
      simp only [Option.bind_some]
      rw [app_of hb, hw]
      rfl) (by simp only [List.flatMap_singleton', List.length_flatMap, List.length_singleton, List.map_const', List.sum_replicate_nat]; omega)
    rw [show i_Scope_roots_L3_v1 x.fVars (len x.fVars) 0 [] = _ from this, i_Scope_roots_L3_v1_eq]
    simp [len_eq, List.flatMap_singleton', ← List.map_eq_flatMap]
  · simp [h]

theorem l_FnExactScopeRoots_ok {x : TScope} (hok : x.Ok) : l_FnExactScopeRoots x = some true := by
  rw [l_FnExactScopeRoots_eq]
  simp only [szScope_ok x hok 1048576 (by decide) (by decide), Option.bind_some]
  by_cases c : minus 1048576 x.m < 0
  · simp [c]
  · have hm : x.m ≤ 1048576 := by have := minus_le c; omega
    have hq := x.m_eq
    have es := s_roots_ok hm
    have ei := i_roots_ok hm
    have hl : (if scOk x = true then x.fVars.map (·.fValue) else []).length ≤ 1048576 := by split <;> simp; omega
    generalize (if scOk x = true then x.fVars.map (·.fValue) else []) = w at es ei hl
    obtain ⟨k', a, b, d, ek, hk⟩ := markScope_ok hm
    have hk0 : decide (k' < 0) = false := by simp; omega
    have hn : decide ((1 : Int) + ((4 * w.length : Nat) : Int) < 0) = false := by simp; omega
    simp only [c, decide_false, Bool.false_eq_true, if_false, ownScope_ok hm, es, ei, Option.bind_some, valSelf_ok (xs := w) (by omega), eqScope_ok x hm, Bool.not_true, ek, hk0, markValueS_ok (xs := w) (k := 1) (by omega) (by omega), heldValueS_ok (n := w.length) (k := 1) (by omega) (by omega), hn, bne_self_eq_false]

end Go.Dv.U
