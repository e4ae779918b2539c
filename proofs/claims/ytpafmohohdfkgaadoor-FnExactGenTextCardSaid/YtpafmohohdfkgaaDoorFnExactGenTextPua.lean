/- Plain laws about these equations. -/
import Derived.Test.YtpafmohohdfkgaaDoorFnExactGenTextEqa
set_option linter.all false
set_option linter.unusedVariables false
set_option linter.unusedSimpArgs false
namespace Go.Dv.U

open Go Go.Dv Go.Proofs

theorem TExpr.ind {P : TExpr → Prop} (h : ∀ x, (∀ y ∈ x.fKids, P y) → P x) : ∀ x, P x := by
  intro x
  exact TExpr.rec (motive_1 := P) (motive_2 := fun l => ∀ y ∈ l, P y) (fun a0 a1 a2 a3 ih => h ⟨a0, a1, a2, a3⟩ ih) (fun y hy => by cases hy)
    (fun a l ha hl y hy => by
      cases hy with
      | head => exact ha
      | tail _ hy => exact hl y hy) x

inductive TExpr.Ok : TExpr → Prop
  | mk (x : TExpr) (h0 : (-9223372036854775808 ≤ x.fKind ∧ x.fKind ≤ 9223372036854775807) ∧ (-9223372036854775808 ≤ x.fNum ∧ x.fNum ≤ 9223372036854775807) ∧ x.fText.length ≤ 9223372036854775807 ∧ x.fKids.length ≤ 9223372036854775807) (h1 : ∀ y ∈ x.fKids, TExpr.Ok y) : TExpr.Ok x

theorem TExpr.Ok.P_fText {x : TExpr} (h : x.Ok) : x.fText.length ≤ 9223372036854775807 := by cases h with | mk _ h0 h1 => exact h0.2.2.1

theorem TExpr.Ok.P_fKids_len {x : TExpr} (h : x.Ok) : x.fKids.length ≤ 9223372036854775807 := by cases h with | mk _ h0 h1 => exact h0.2.2.2

theorem TExpr.Ok.P_fKids {x : TExpr} (h : x.Ok) : ∀ y ∈ x.fKids, y.Ok := by cases h with | mk _ h0 h1 => exact h1

theorem TExpr.ok_cells : ∀ x : TExpr, (∀ c ∈ GG.cells 23 x, ∀ k, WfV GG k c) → x.Ok := by
  intro x
  induction x using TExpr.ind with
  | h x ih =>
    intro h
    have h : ∀ c ∈ ([.int .i64 x.fKind, .int .i64 x.fNum, .str x.fText, .sl (.st 23) x.fKids] : List (V GG.S)), ∀ k, WfV GG k c := h
    exact .mk x ⟨wfv_int (h (.int .i64 x.fKind) (by simp) 1), wfv_int (h (.int .i64 x.fNum) (by simp) 1), wfv_str (h (.str x.fText) (by simp) 1), (wfv_sl (h (.sl (.st 23) x.fKids) (by simp))).1⟩ fun y hy => ih y hy ((wfv_sl (h (.sl (.st 23) x.fKids) (by simp))).2 y hy)

theorem TExpr.ok_of {x : TExpr} (h : ∀ k, WfV GG k (inj GG (.st 23) x)) : x.Ok := TExpr.ok_cells x (wfv_st h)

mutual
def TExpr.m : TExpr → Nat
  | ⟨_, _, a2, a3⟩ => a2.length + (a3.length + TExpr.ms a3)
def TExpr.ms : List TExpr → Nat
  | [] => 0
  | y :: r => TExpr.m y + TExpr.ms r
end

theorem TExpr.ms_eq : ∀ l, TExpr.ms l = sumOf TExpr.m l
  | [] => rfl
  | y :: r => by simp only [TExpr.ms, sumOf, TExpr.ms_eq r]

theorem TExpr.m_eq (x : TExpr) : x.m = x.fText.length + (x.fKids.length + sumOf TExpr.m x.fKids) := by
  rw [← TExpr.ms_eq]; cases x; rfl

theorem TExpr.m_kid {x y : TExpr} (h : y ∈ x.fKids) : y.m + x.fKids.length ≤ x.m := by
  have := sumOf_mem (m := TExpr.m) h
  rw [TExpr.m_eq x]; omega

theorem TPattern.ind {P : TPattern → Prop} (h : ∀ x, (∀ y ∈ x.fKids, P y) → P x) : ∀ x, P x := by
  intro x
  exact TPattern.rec (motive_1 := P) (motive_2 := fun l => ∀ y ∈ l, P y) (fun a0 a1 a2 a3 ih => h ⟨a0, a1, a2, a3⟩ ih) (fun y hy => by cases hy)
    (fun a l ha hl y hy => by
      cases hy with
      | head => exact ha
      | tail _ hy => exact hl y hy) x

inductive TPattern.Ok : TPattern → Prop
  | mk (x : TPattern) (h0 : (-9223372036854775808 ≤ x.fKind ∧ x.fKind ≤ 9223372036854775807) ∧ (-9223372036854775808 ≤ x.fNum ∧ x.fNum ≤ 9223372036854775807) ∧ x.fText.length ≤ 9223372036854775807 ∧ x.fKids.length ≤ 9223372036854775807) (h1 : ∀ y ∈ x.fKids, TPattern.Ok y) : TPattern.Ok x

theorem TPattern.Ok.P_fText {x : TPattern} (h : x.Ok) : x.fText.length ≤ 9223372036854775807 := by cases h with | mk _ h0 h1 => exact h0.2.2.1

theorem TPattern.Ok.P_fKids_len {x : TPattern} (h : x.Ok) : x.fKids.length ≤ 9223372036854775807 := by cases h with | mk _ h0 h1 => exact h0.2.2.2

theorem TPattern.Ok.P_fKids {x : TPattern} (h : x.Ok) : ∀ y ∈ x.fKids, y.Ok := by cases h with | mk _ h0 h1 => exact h1

theorem TPattern.ok_cells : ∀ x : TPattern, (∀ c ∈ GG.cells 34 x, ∀ k, WfV GG k c) → x.Ok := by
  intro x
  induction x using TPattern.ind with
  | h x ih =>
    intro h
    have h : ∀ c ∈ ([.int .i64 x.fKind, .int .i64 x.fNum, .str x.fText, .sl (.st 34) x.fKids] : List (V GG.S)), ∀ k, WfV GG k c := h
    exact .mk x ⟨wfv_int (h (.int .i64 x.fKind) (by simp) 1), wfv_int (h (.int .i64 x.fNum) (by simp) 1), wfv_str (h (.str x.fText) (by simp) 1), (wfv_sl (h (.sl (.st 34) x.fKids) (by simp))).1⟩ fun y hy => ih y hy ((wfv_sl (h (.sl (.st 34) x.fKids) (by simp))).2 y hy)

theorem TPattern.ok_of {x : TPattern} (h : ∀ k, WfV GG k (inj GG (.st 34) x)) : x.Ok := TPattern.ok_cells x (wfv_st h)

mutual
def TPattern.m : TPattern → Nat
  | ⟨_, _, a2, a3⟩ => a2.length + (a3.length + TPattern.ms a3)
def TPattern.ms : List TPattern → Nat
  | [] => 0
  | y :: r => TPattern.m y + TPattern.ms r
end

theorem TPattern.ms_eq : ∀ l, TPattern.ms l = sumOf TPattern.m l
  | [] => rfl
  | y :: r => by simp only [TPattern.ms, sumOf, TPattern.ms_eq r]

theorem TPattern.m_eq (x : TPattern) : x.m = x.fText.length + (x.fKids.length + sumOf TPattern.m x.fKids) := by
  rw [← TPattern.ms_eq]; cases x; rfl

theorem TPattern.m_kid {x y : TPattern} (h : y ∈ x.fKids) : y.m + x.fKids.length ≤ x.m := by
  have := sumOf_mem (m := TPattern.m) h
  rw [TPattern.m_eq x]; omega

structure TValue.Ok (x : TValue) : Prop where
  P_fKind : (-9223372036854775808 ≤ x.fKind ∧ x.fKind ≤ 9223372036854775807)
  P_fNum : (-9223372036854775808 ≤ x.fNum ∧ x.fNum ≤ 9223372036854775807)
  P_fText : x.fText.length ≤ 9223372036854775807
  P_fRef : (-9223372036854775808 ≤ x.fRef ∧ x.fRef ≤ 9223372036854775807)

theorem TValue.ok_cells (x : TValue) (h : ∀ c ∈ GG.cells 44 x, ∀ k, WfV GG k c) : x.Ok := by
  have h : ∀ c ∈ ([.int .i64 x.fKind, .int .i64 x.fNum, .str x.fText, .int .i64 x.fRef] : List (V GG.S)), ∀ k, WfV GG k c := h
  exact ⟨wfv_int (h (.int .i64 x.fKind) (by simp) 1), wfv_int (h (.int .i64 x.fNum) (by simp) 1), wfv_str (h (.str x.fText) (by simp) 1), wfv_int (h (.int .i64 x.fRef) (by simp) 1)⟩

theorem TValue.ok_of {x : TValue} (h : ∀ k, WfV GG k (inj GG (.st 44) x)) : x.Ok := TValue.ok_cells x (wfv_st h)

def TValue.m (x : TValue) : Nat := x.fText.length

theorem TValue.m_eq (x : TValue) : x.m = x.fText.length := rfl

theorem szValue_ok : ∀ x : TValue, x.Ok → ∀ b : Int, 0 ≤ b → b < 4611686018427387904 → l_szValue x b = some (minus b x.m) := by
  intro x
  intro hok b h0 h1
  rw [l_szValue_eq]
  try simp only [TExpr.re_eq, TPattern.re_eq, TValue.re_eq, TGen.re_eq]
  -- fText
  obtain ⟨e1, e2⟩ := minus_len (b := b) (l := x.fText) h0 h1 hok.P_fText
  by_cases c0 : minus b (x.fText.length) < 0
  · simp only [e1.2 c0, decide_true, if_true]
    rw [minus_neg_le c0 (by rw [TValue.m_eq]; omega)]
  have e3 := mt e1.1 c0
  simp only [e3, e2 c0, c0, decide_false, Bool.false_eq_true, if_false]
  try rw [TValue.m_eq]

theorem toValue_ok : ∀ x : TValue, x.m ≤ 1048576 → l_toValue x = some x := by
  intro x
  intro hm
  have hq := x.m_eq
  rw [l_toValue_eq]
  try simp only [TExpr.re_eq, TPattern.re_eq, TValue.re_eq, TGen.re_eq]
  try simp only [TValue.eta, TExpr.re_eq, TPattern.re_eq, TValue.re_eq, TGen.re_eq]

theorem eqValue_ok : ∀ x : TValue, x.m ≤ 1048576 → l_eqValue x x = some true := by
  intro x
  intro hm
  have hq := x.m_eq
  rw [l_eqValue_eq]
  try simp only [TExpr.re_eq, TPattern.re_eq, TValue.re_eq, TGen.re_eq]
  simp

theorem TGen.ind {P : TGen → Prop} (h : ∀ x, (∀ y ∈ x.fKids, P y) → P x) : ∀ x, P x := by
  intro x
  exact TGen.rec (motive_1 := P) (motive_2 := fun l => ∀ y ∈ l, P y) (fun a0 a1 a2 a3 a4 ih => h ⟨a0, a1, a2, a3, a4⟩ ih) (fun y hy => by cases hy)
    (fun a l ha hl y hy => by
      cases hy with
      | head => exact ha
      | tail _ hy => exact hl y hy) x

inductive TGen.Ok : TGen → Prop
  | mk (x : TGen) (h0 : (-9223372036854775808 ≤ x.fKind ∧ x.fKind ≤ 9223372036854775807) ∧ (-9223372036854775808 ≤ x.fNum ∧ x.fNum ≤ 9223372036854775807) ∧ x.fText.length ≤ 9223372036854775807 ∧ TValue.Ok x.fValue ∧ x.fKids.length ≤ 9223372036854775807) (h1 : ∀ y ∈ x.fKids, TGen.Ok y) : TGen.Ok x

theorem TGen.Ok.P_fText {x : TGen} (h : x.Ok) : x.fText.length ≤ 9223372036854775807 := by cases h with | mk _ h0 h1 => exact h0.2.2.1

theorem TGen.Ok.P_fValue {x : TGen} (h : x.Ok) : TValue.Ok x.fValue := by cases h with | mk _ h0 h1 => exact h0.2.2.2.1

theorem TGen.Ok.P_fKids_len {x : TGen} (h : x.Ok) : x.fKids.length ≤ 9223372036854775807 := by cases h with | mk _ h0 h1 => exact h0.2.2.2.2

theorem TGen.Ok.P_fKids {x : TGen} (h : x.Ok) : ∀ y ∈ x.fKids, y.Ok := by cases h with | mk _ h0 h1 => exact h1

theorem TGen.ok_cells : ∀ x : TGen, (∀ c ∈ GG.cells 51 x, ∀ k, WfV GG k c) → x.Ok := by
  intro x
  induction x using TGen.ind with
  | h x ih =>
    intro h
    have h : ∀ c ∈ ([.int .i64 x.fKind, .int .i64 x.fNum, .str x.fText, .int .i64 x.fValue.fKind, .int .i64 x.fValue.fNum, .str x.fValue.fText, .int .i64 x.fValue.fRef, .sl (.st 51) x.fKids] : List (V GG.S)), ∀ k, WfV GG k c := h
    have h_fValue : ∀ c ∈ ([.int .i64 x.fValue.fKind, .int .i64 x.fValue.fNum, .str x.fValue.fText, .int .i64 x.fValue.fRef] : List (V GG.S)), ∀ k, WfV GG k c := fun c hc => h c (by simp only [List.mem_cons, List.not_mem_nil, or_false] at hc ⊢; rcases hc with rfl | rfl | rfl | rfl <;> simp)
    exact .mk x ⟨wfv_int (h (.int .i64 x.fKind) (by simp) 1), wfv_int (h (.int .i64 x.fNum) (by simp) 1), wfv_str (h (.str x.fText) (by simp) 1), TValue.ok_cells _ h_fValue, (wfv_sl (h (.sl (.st 51) x.fKids) (by simp))).1⟩ fun y hy => ih y hy ((wfv_sl (h (.sl (.st 51) x.fKids) (by simp))).2 y hy)

theorem TGen.ok_of {x : TGen} (h : ∀ k, WfV GG k (inj GG (.st 51) x)) : x.Ok := TGen.ok_cells x (wfv_st h)

mutual
def TGen.m : TGen → Nat
  | ⟨_, _, a2, a3, a4⟩ => a2.length + TValue.m a3 + (a4.length + TGen.ms a4)
def TGen.ms : List TGen → Nat
  | [] => 0
  | y :: r => TGen.m y + TGen.ms r
end

theorem TGen.ms_eq : ∀ l, TGen.ms l = sumOf TGen.m l
  | [] => rfl
  | y :: r => by simp only [TGen.ms, sumOf, TGen.ms_eq r]

theorem TGen.m_eq (x : TGen) : x.m = x.fText.length + TValue.m x.fValue + (x.fKids.length + sumOf TGen.m x.fKids) := by
  rw [← TGen.ms_eq]; cases x; rfl

theorem TGen.m_kid {x y : TGen} (h : y ∈ x.fKids) : y.m + x.fKids.length ≤ x.m := by
  have := sumOf_mem (m := TGen.m) h
  rw [TGen.m_eq x]; omega

theorem szGenS_of {xs : (List TGen)} (hx : xs.length ≤ 9223372036854775807)
    (hF : ∀ y ∈ xs, ∀ b : Int, 0 ≤ b → b < 4611686018427387904 → l_szGen y b = some (minus b (TGen.m y))) {b : Int} (h0 : 0 ≤ b) (h1 : b < 4611686018427387904) :
    l_szGenS xs b = some (minus b (xs.length + sumOf TGen.m xs)) := by
  rw [l_szGenS_eq]
  obtain ⟨e1, e2⟩ := minus_len (l := xs) h0 h1 hx
  by_cases c : minus b xs.length < 0
  · simp only [e1.2 c, decide_true, if_true, minus_neg c]
  · rw [if_neg (by simpa using fun h => c (e1.1 h)), e2 c, sz_loop hx (J := l_szGenS_L5) (F := l_szGen) (m := TGen.m) (fun b i => by rw [l_szGenS_L5_eq]; try simp only [TExpr.re_eq, TPattern.re_eq, TValue.re_eq, TGen.re_eq]) hF _ (minus_nonneg c) (minus_lt (by omega) h1), minus_minus c]

theorem toGenS_of {xs : (List TGen)} (hx : xs.length ≤ 68719476736) (hF : ∀ y ∈ xs, l_toGen y = some y) : l_toGenS xs = some xs := by
  rw [l_toGenS_eq, mk_len _ _ hx]
  simp only [Option.bind_some]
  exact to_loop (by omega) (J := l_toGenS_L3) (F := l_toGen) (fun i zs => by rw [l_toGenS_L3_eq]; try simp only [TExpr.re_eq, TPattern.re_eq, TValue.re_eq, TGen.re_eq]) hF _ (by simp)

theorem eqGenS_of {xs : (List TGen)} (hx : xs.length ≤ 9223372036854775807) (hF : ∀ y ∈ xs, l_eqGen y y = some true) : l_eqGenS xs xs = some true := by
  rw [l_eqGenS_eq]
  simp only [bne_self_eq_false, Bool.false_eq_true, if_false]
  exact eq_loop (by omega) (J := l_eqGenS_L4) (F := l_eqGen) (fun i => by rw [l_eqGenS_L4_eq]; try simp only [TExpr.re_eq, TPattern.re_eq, TValue.re_eq, TGen.re_eq]) hF

theorem szGen_ok : ∀ x : TGen, x.Ok → ∀ b : Int, 0 ≤ b → b < 4611686018427387904 → l_szGen x b = some (minus b x.m) := by
  intro x
  induction x using TGen.ind with
  | h x ih =>
    intro hok b h0 h1
    rw [l_szGen_eq]
    try simp only [TExpr.re_eq, TPattern.re_eq, TValue.re_eq, TGen.re_eq]
    -- fText
    obtain ⟨e1, e2⟩ := minus_len (b := b) (l := x.fText) h0 h1 hok.P_fText
    by_cases c0 : minus b (x.fText.length) < 0
    · simp only [e1.2 c0, decide_true, if_true]
      rw [minus_neg_le c0 (by rw [TGen.m_eq]; omega)]
    have e3 := mt e1.1 c0
    simp only [e3, e2 c0, c0, decide_false, Bool.false_eq_true, if_false]
    -- fValue
    rw [szValue_ok x.fValue hok.P_fValue (minus b (x.fText.length)) (minus_nonneg c0) (minus_lt (by omega) h1)]
    simp only [Option.bind_some]
    simp only [minus_minus c0]
    by_cases c1 : minus b (x.fText.length + TValue.m x.fValue) < 0
    · simp only [c1, decide_true, if_true]
      rw [minus_neg_le c1 (by rw [TGen.m_eq]; omega)]
    simp only [c1, decide_false, Bool.false_eq_true, if_false]
    -- fKids
    rw [szGenS_of hok.P_fKids_len (fun y hy b h0 h1 => ih y hy (hok.P_fKids y hy) b h0 h1) (minus_nonneg c1) (minus_lt (by omega) h1)]
    simp only [Option.bind_some]
    simp only [minus_minus c1]
    by_cases c2 : minus b (x.fText.length + TValue.m x.fValue + (x.fKids.length + sumOf TGen.m x.fKids)) < 0
    · simp only [c2, decide_true, if_true]
      rw [minus_neg_le c2 (by rw [TGen.m_eq]; omega)]
    simp only [c2, decide_false, Bool.false_eq_true, if_false]
    try rw [TGen.m_eq]

theorem toGen_ok : ∀ x : TGen, x.m ≤ 1048576 → l_toGen x = some x := by
  intro x
  induction x using TGen.ind with
  | h x ih =>
    intro hm
    have hq := x.m_eq
    rw [l_toGen_eq]
    try simp only [TExpr.re_eq, TPattern.re_eq, TValue.re_eq, TGen.re_eq]
    rw [toValue_ok x.fValue (by omega)]
    simp only [Option.bind_some]
    rw [toGenS_of (xs := x.fKids) (by omega) fun y hy => ih y hy (by have := TGen.m_kid hy; omega)]
    simp only [Option.bind_some]
    try simp only [TGen.eta, TExpr.re_eq, TPattern.re_eq, TValue.re_eq, TGen.re_eq]

theorem eqGen_ok : ∀ x : TGen, x.m ≤ 1048576 → l_eqGen x x = some true := by
  intro x
  induction x using TGen.ind with
  | h x ih =>
    intro hm
    have hq := x.m_eq
    rw [l_eqGen_eq]
    try simp only [TExpr.re_eq, TPattern.re_eq, TValue.re_eq, TGen.re_eq]
    rw [eqValue_ok x.fValue (by omega)]
    rw [eqGenS_of (xs := x.fKids) (by omega) fun y hy => ih y hy (by have := TGen.m_kid hy; omega)]
    simp

end Go.Dv.U

namespace Go.Dv.U

open Go Go.Dv Go.Proofs

theorem i_within_ok (a b c : Int) : i_within a b c = some (decide (b ≤ a) && decide (a ≤ c)) := by
  rw [i_within_eq]; grind

theorem s_l00In_ok (a b c : Int) : s_l00In a b c = some (decide (b ≤ a) && decide (a ≤ c)) := by
  rw [s_l00In_eq]; grind

end Go.Dv.U

namespace Go.Dv.U

open Go Go.Dv Go.Proofs

def isLet (b : Int) : Bool := (decide (65 ≤ b) && decide (b ≤ 90)) || (decide (97 ≤ b) && decide (b ≤ 122))

def isDig (b : Int) : Bool := decide (48 ≤ b) && decide (b ≤ 57)

def isNmB (b : Int) : Bool := isLet b || isDig b || b == 95

theorem i_isLetter_ok (b : Int) : i_isLetter b = some (isLet b) := by
  rw [i_isLetter_eq]; unfold isLet; grind

theorem s_l02Letter_ok (b : Int) : s_l02Letter b = some (isLet b) := by
  rw [s_l02Letter_eq]; unfold isLet; grind

theorem i_isDigit_ok (b : Int) : i_isDigit b = some (isDig b) := by
  rw [i_isDigit_eq]; unfold isDig; grind

theorem s_l02Digit_ok (b : Int) : s_l02Digit b = some (isDig b) := by
  rw [s_l02Digit_eq]; unfold isDig; grind

theorem i_isNameByte_ok (b : Int) : i_isNameByte b = some (isNmB b) := by
  rw [i_isNameByte_eq, i_isLetter_ok, i_isDigit_ok]; unfold isNmB
  simp only [Option.bind_some]; grind

/-- a name -/
def isName (s : List UInt8) : Bool := match s with
  | [] => false
  | b :: _ => decide (s.length ≤ 12) && isLet (ib b) && s.all fun c => isNmB (ib c)

theorem i_areAllNm_ok {s : List UInt8} (h : s.length ≤ 9223372036854775807) : i_areAll_byte__i_isNameByte (s.map ib) = some (s.all fun c => isNmB (ib c)) := by
  rw [i_areAll_byte__i_isNameByte_eq]
  have := all_loop (xs := s.map ib) (by simpa using h) (F := i_isNameByte) (p := isNmB) (J := i_areAll_byte_L2__i_isNameByte (s.map ib) (len (s.map ib))) (fun i => by rw [i_areAll_byte_L2__i_isNameByte_eq]) (fun y _ => i_isNameByte_ok y)
  rw [this, List.all_map]
  rfl

theorem i_IsName_ok {s : List UInt8} : i_IsName s = some (isName s) := by
  rw [i_IsName_eq]
  cases s with
  | nil => simp [isName, len_eq]
  | cons b r =>
    by_cases h : (b :: r).length ≤ 12
    · have h1 : decide (len (b :: r) ≥ 1) = true := by simp only [len_eq, List.length_cons, decide_eq_true_eq]; omega
      have h2 : decide (len (b :: r) ≤ 12) = true := by simp only [len_eq, decide_eq_true_eq]; omega
      rw [if_pos h1, if_pos h2, idx_zero]
      simp only [List.getElem?_cons_zero, Option.bind_some, i_isLetter_ok]
      have := i_areAllNm_ok (s := b :: r) (by omega)
      simp only [List.map_cons] at this ⊢
      rw [this]
      simp only [isName, h, decide_true, Bool.true_and, Option.bind_some]
      cases isLet (ib b) <;> simp
    · have h2 : ¬ decide (len (b :: r) ≤ 12) = true := by simp only [len_eq, decide_eq_true_eq]; omega
      rw [if_neg h2]
      simp only [isName, h, decide_false, Bool.false_and]
      split <;> rfl

/-- how many bytes from the start on belong to a name -/
def nmRun : List UInt8 → Nat
  | [] => 0
  | b :: r => if isNmB (ib b) then nmRun r + 1 else 0

theorem nmRun_all : ∀ s, nmRun s = s.length ↔ (s.all fun c => isNmB (ib c)) = true
  | [] => by simp [nmRun]
  | b :: r => by
    have := nmRun_all r
    simp only [nmRun, List.length_cons, List.all_cons, Bool.and_eq_true]
    cases isNmB (ib b)
    · simp
    · simp [this]

theorem s_l02NameEnd_L3_ok {s : List UInt8} (h : s.length ≤ 9223372036854775807) : ∀ (n i : Nat), i + n = s.length → s_l02NameEnd_L3 s i = some ((i + nmRun (s.drop i) : Nat) : Int) := by
  intro n
  induction n with
  | zero =>
    intro i hi
    have : i = s.length := by omega
    subst this
    rw [s_l02NameEnd_L3_eq, s_l02NameEnd_L5_eq, List.drop_length]
    simp [len_eq, nmRun]
  | succ n ih =>
    intro i hi
    have hlt : i < s.length := by omega
    have hc : decide ((i : Int) < len s) = true := by simp [len_eq, hlt]
    rw [s_l02NameEnd_L3_eq, if_pos hc, idx_nat, List.getElem?_eq_getElem hlt, List.drop_eq_getElem_cons hlt]
    simp only [Option.bind_some, s_l02Letter_ok, s_l02Digit_ok, s_l02NameEnd_L4_eq, s_l02NameEnd_L5_eq, nmRun]
    have hw : w64 ((i : Int) + 1) = ((i + 1 : Nat) : Int) := by rw [w64_of (by omega) (by omega)]; omega
    rw [hw, ih (i + 1) (by omega)]
    unfold isNmB
    cases isLet (ib s[i]) <;> cases isDig (ib s[i]) <;> cases hb : (ib s[i] == 95) <;> simp <;> omega

theorem s_l02NameEnd_ok {s : List UInt8} (h : s.length ≤ 9223372036854775807) {i : Nat} (hi : i ≤ s.length) :
    s_l02NameEnd s i = some (match s.drop i with
      | [] => (i : Int)
      | b :: r => if isLet (ib b) then ((i + nmRun (b :: r) : Nat) : Int) else i) := by
  rw [s_l02NameEnd_eq]
  by_cases hlt : i < s.length
  · have hc : ¬ decide ((i : Int) ≥ len s) = true := by simp only [len_eq, decide_eq_true_eq]; omega
    rw [if_neg hc, idx_nat, List.getElem?_eq_getElem hlt, List.drop_eq_getElem_cons hlt]
    simp only [Option.bind_some, s_l02Letter_ok]
    rw [s_l02NameEnd_L3_ok h (s.length - i) i (by omega), List.drop_eq_getElem_cons hlt]
    cases isLet (ib s[i]) <;> simp
  · have : i = s.length := by omega
    subst this
    rw [List.drop_length]
    simp [len_eq]

theorem s_IsName_ok {s : List UInt8} : s_IsName s = some (isName s) := by
  rw [s_IsName_eq]
  cases s with
  | nil => simp [isName]
  | cons b r =>
    have h0 : (!(b :: r) == []) = true := rfl
    rw [if_pos h0]
    by_cases h : (b :: r).length ≤ 12
    · have h2 : decide (len (b :: r) ≤ 12) = true := by simp only [len_eq, decide_eq_true_eq]; omega
      have := s_l02NameEnd_ok (s := b :: r) (by omega) (Nat.zero_le _)
      simp only [Int.natCast_zero, List.drop_zero, Nat.zero_add] at this
      rw [if_pos h2, this]
      simp only [isName, h, decide_true, Bool.true_and, Option.bind_some, len_eq]
      congr 1
      rw [Bool.eq_iff_iff, Bool.and_eq_true, ← nmRun_all]
      cases hL : isLet (ib b)
      · simp; omega
      · simp; omega
    · have h2 : ¬ decide (len (b :: r) ≤ 12) = true := by simp only [len_eq, decide_eq_true_eq]; omega
      rw [if_neg h2]
      simp only [isName, h, decide_false, Bool.false_and]

end Go.Dv.U

namespace Go.Dv.U

open Go Go.Dv Go.Proofs

def hasB (c : Int) (s : List UInt8) : Bool := s.any fun b => ib b == c

theorem index_one (c : UInt8) : ∀ s : List UInt8, decide (0 ≤ Lib.index s [c]) = hasB (ib c) s
  | [] => by simp [Lib.index, hasB]
  | b :: l => by
    have ih := index_one c l
    have hge := Lib.index_ge l [c]
    unfold Lib.index
    have hp : [c].isPrefixOf (b :: l) = (ib b == ib c) := by
      rw [Bool.eq_iff_iff]
      simp only [List.isPrefixOf, Bool.and_true, beq_iff_eq, ib_inj]
      exact eq_comm
    have hh : hasB (ib c) (b :: l) = (ib b == ib c || hasB (ib c) l) := rfl
    rw [hp, hh, ← ih]
    cases (ib b == ib c)
    · simp only [Bool.false_eq_true, if_false, Bool.false_or]
      split
      · rename_i h; rw [beq_iff_eq] at h; rw [h]
      · rename_i h
        have h : ¬ Lib.index l [c] = -1 := by simpa using h
        rw [Bool.eq_iff_iff, decide_eq_true_eq, decide_eq_true_eq]; omega
    · simp

/-- numbers -/
theorem nDigits_le : ∀ (k u : Nat), u < 10 ^ (k + 1) → Lib.nDigits u ≤ k + 1
  | 0, u, h => by rw [Lib.nDigits_small (by simpa using h)]; exact Nat.le_refl _
  | k + 1, u, h => by
    by_cases hu : u < 10
    · rw [Lib.nDigits_small hu]; omega
    · rw [Lib.nDigits_big hu]
      have := nDigits_le k (u / 10) (by rw [Nat.div_lt_iff_lt_mul (by decide)]; rw [Nat.pow_succ] at h; exact h)
      omega

theorem digit_byte {r : Int} (h0 : 0 ≤ r) (h1 : r < 10) : UInt8.ofNat (Int.toNat (IntKind.wrap .u8 (w64 (48 + r)))) = UInt8.ofNat (48 + r.toNat) := by
  rw [w64_of (by omega) (by omega)]
  have e2 : IntKind.u8.wrap (48 + r) = 48 + r := by unfold IntKind.wrap; simp [IntKind.bits, IntKind.signed]; omega
  rw [e2]
  congr 1
  omega

theorem rem_ten (u : Nat) : rem (u : Int) 10 = some ((u % 10 : Nat) : Int) := by
  unfold rem
  rw [if_neg (by decide), Int.tmod_eq_emod_of_nonneg (by omega)]
  congr 1

theorem quo_ten {u : Nat} (h : u < 9223372036854775808) : quo .i64 (u : Int) 10 = some ((u / 10 : Nat) : Int) := by
  unfold quo
  rw [if_neg (by decide), Int.tdiv_eq_ediv_of_nonneg (by omega)]
  congr 1
  have : IntKind.i64.wrap ((u : Int) / 10) = w64 ((u : Int) / 10) := rfl
  rw [this, w64_of (by omega) (by omega)]
  omega

theorem itoa_nat (u : Nat) : Lib.itoa (u : Int) = Lib.decDigits u := by
  unfold Lib.itoa
  rw [if_neg (by omega)]
  rfl

theorem i_decimal_ok {n : Int} (h0 : -9223372036854775808 ≤ n) (h1 : n ≤ 9223372036854775807) : i_decimal n = some (Lib.itoa n) := by
  rw [i_decimal_eq]
  unfold itoaS
  rw [if_pos ⟨rfl, h0, h1⟩]
  rfl

theorem itoa_len {n : Int} (h0 : 0 ≤ n) (h1 : n ≤ 1000000000000) : (Lib.itoa n).length ≤ 13 := by
  obtain ⟨u, rfl⟩ : ∃ u : Nat, n = u := ⟨n.toNat, by omega⟩
  rw [itoa_nat, Lib.decDigits_length]
  exact nDigits_le 12 u (by omega)

theorem itoa_len20 {n : Int} (h0 : -9223372036854775808 ≤ n) (h1 : n ≤ 9223372036854775807) : (Lib.itoa n).length ≤ 20 := by
  unfold Lib.itoa
  split
  · rw [List.length_cons, Lib.decDigits_length]
    have := nDigits_le 18 n.natAbs (by omega)
    omega
  · rw [Lib.decDigits_length]
    have := nDigits_le 18 n.toNat (by omega)
    omega

end Go.Dv.U

namespace Go.Dv.U

open Go Go.Dv Go.Proofs

/-- a valid value -/
def vVal (v : TValue) : Bool :=
  if v.fKind = 1 then v.fNum == 0 && v.fRef == 0 && decide (v.fText.length ≤ 200)
  else if v.fKind = 2 then v.fText == [] && v.fRef == 0 && decide (-1000000000000 ≤ v.fNum) && decide (v.fNum ≤ 1000000000000)
  else if v.fKind = 3 then v.fNum == 0 && v.fRef == 0 && decide (1 ≤ v.fText.length) && decide (v.fText.length ≤ 1200)
  else if v.fKind = 4 ∨ v.fKind = 5 ∨ v.fKind = 6 then v.fNum == 0 && v.fText == [] && decide (1 ≤ v.fRef) && decide (v.fRef ≤ 1000000)
  else if v.fKind = 7 ∨ v.fKind = 8 then v.fNum == 0 && v.fRef == 0 && isName v.fText
  else false

theorem s_l06Plain_ok (v : TValue) (a b c : Bool) : s_l06Plain v a b c = some ((a || v.fNum == 0) && (b || v.fText == []) && (c || v.fRef == 0)) := by
  rw [s_l06Plain_eq]
  cases a <;> cases b <;> cases c <;> simp only [Bool.false_eq_true, if_false, if_true, Bool.true_or, Bool.false_or, Bool.true_and, Bool.and_true] <;> grind

theorem s_ValidValue_ok (v : TValue) : s_ValidValue v = some (vVal v) := by
  rw [s_ValidValue_eq]
  simp only [s_ValidValue_L11_eq, s_ValidValue_L12_eq, s_l06Plain_ok, s_l00In_ok, s_IsName_ok, Option.bind_some, ite_some, len_eq]
  congr 1
  unfold vVal
  have e : ∀ n : Nat, decide ((1 : Int) ≤ (n : Int)) = decide (1 ≤ n) := fun n => by rw [Bool.eq_iff_iff]; simp only [decide_eq_true_eq]; omega
  have e2 : ∀ n : Nat, decide ((n : Int) ≤ (1200 : Int)) = decide (n ≤ 1200) := fun n => by rw [Bool.eq_iff_iff]; simp only [decide_eq_true_eq]; omega
  have e3 : ∀ n : Nat, decide ((n : Int) ≤ (200 : Int)) = decide (n ≤ 200) := fun n => by rw [Bool.eq_iff_iff]; simp only [decide_eq_true_eq]; omega
  simp only [e, e2, e3]
  grind

theorem i_isObjectId_ok (n : Int) : i_isObjectId n = some (decide (1 ≤ n) && decide (n ≤ 1000000)) := by
  rw [i_isObjectId_eq, i_within_ok]; rfl

theorem i_ValidValue_ok (v : TValue) : i_ValidValue v = some (vVal v) := by
  rw [i_ValidValue_eq]
  simp only [i_ValidValue_L11_eq, i_ValidValue_L12_eq, i_isObjectId_ok, i_within_ok, i_IsName_ok, Option.bind_some, ite_some, len_eq]
  congr 1
  unfold vVal
  have e : ∀ n : Nat, decide ((n : Int) ≥ (1 : Int)) = decide (1 ≤ n) := fun n => by rw [Bool.eq_iff_iff]; simp only [decide_eq_true_eq]; omega
  have e2 : ∀ n : Nat, decide ((n : Int) ≤ (1200 : Int)) = decide (n ≤ 1200) := fun n => by rw [Bool.eq_iff_iff]; simp only [decide_eq_true_eq]; omega
  have e3 : ∀ n : Nat, decide ((n : Int) ≤ (200 : Int)) = decide (n ≤ 200) := fun n => by rw [Bool.eq_iff_iff]; simp only [decide_eq_true_eq]; omega
  simp only [e, e2, e3]
  grind

end Go.Dv.U

namespace Go.Dv.U

open Go Go.Dv Go.Proofs

def dbl : List UInt8 → List UInt8
  | [] => []
  | b :: r => if ib b = 34 then b :: 34 :: dbl r else b :: dbl r

def qtext (s : List UInt8) : List UInt8 := 34 :: (dbl s ++ [34])

theorem dbl_len : ∀ s, (dbl s).length ≤ 2 * s.length
  | [] => by simp [dbl]
  | b :: r => by have := dbl_len r; simp only [dbl]; split <;> simp <;> omega

theorem qtext_len (s : List UInt8) : (qtext s).length ≤ 2 * s.length + 2 := by
  have := dbl_len s; simp [qtext]; omega

theorem dbl_app : ∀ (a b : List UInt8), dbl (a ++ b) = dbl a ++ dbl b
  | [], b => rfl
  | x :: a, b => by simp only [List.cons_append, dbl, dbl_app a b]; split <;> simp

theorem dbl_none : ∀ (s : List UInt8), hasB 34 s = false → dbl s = s
  | [], _ => rfl
  | b :: r, h => by
    simp only [hasB, List.any_cons, Bool.or_eq_false_iff] at h
    have h1 : ¬ ib b = 34 := by simpa using h.1
    rw [dbl, if_neg h1, dbl_none r h.2]

theorem split34 : ∀ (s : List UInt8), hasB 34 s = true → ∃ a r, s = a ++ 34 :: r ∧ hasB 34 a = false
  | [], h => by simp [hasB] at h
  | b :: s, h => by
    by_cases hb : ib b = 34
    · have : b = 34 := ib_inj.1 (hb.trans (by decide))
      subst this
      exact ⟨[], s, rfl, rfl⟩
    · have h2 : hasB 34 s = true := by
        simp only [hasB, List.any_cons, Bool.or_eq_true] at h
        rcases h with h | h
        · exact absurd (by simpa using h) hb
        · exact h
      obtain ⟨a, r, e, h3⟩ := split34 s h2
      refine ⟨b :: a, r, by rw [e]; rfl, ?_⟩
      simp only [hasB, List.any_cons, Bool.or_eq_false_iff]
      exact ⟨by simpa using hb, h3⟩

theorem index34_none {s : List UInt8} (h : hasB 34 s = false) : Lib.index s [34] = -1 := by
  have h1 := index_one 34 s
  have e : ib 34 = 34 := by decide
  rw [e, h] at h1
  have := Lib.index_ge s [34]
  simp only [decide_eq_false_iff_not] at h1
  omega

theorem index34_some {a r : List UInt8} (h : hasB 34 a = false) : Lib.index (a ++ 34 :: r) [34] = (a.length : Int) := by
  refine Lib.index_first (by simp) ?_ ?_
  · simp [Lib.occAt]
  · intro j hj
    simp only [Lib.occAt]
    rw [List.drop_append_of_le_length (by omega), List.drop_eq_getElem_cons hj]
    simp only [List.cons_append, List.isPrefixOf, Bool.and_true]
    rw [beq_eq_false_iff_ne]
    intro e
    have : hasB 34 a = true := by
      simp only [hasB, List.any_eq_true]
      exact ⟨a[j], List.getElem_mem hj, by rw [← e]; decide⟩
    rw [h] at this; cases this

theorem replaceK34 : ∀ (k : Nat) (s : List UInt8), Lib.count s [34] ≤ k → Lib.replaceK [34] [34, 34] k s = dbl s
  | 0, s, h => by
    cases hb : hasB 34 s with
    | false => rw [dbl_none s hb]; rfl
    | true =>
      obtain ⟨a, r, rfl, h3⟩ := split34 s hb
      have := Lib.count_hit (sub := [34]) (by simp) (index34_some (r := r) h3)
      omega
  | k + 1, s, h => by
    cases hb : hasB 34 s with
    | false => rw [dbl_none s hb, Lib.replaceK, index34_none hb]; rfl
    | true =>
      obtain ⟨a, r, rfl, h3⟩ := split34 s hb
      have hi := index34_some (r := r) h3
      have hc := Lib.count_hit (sub := [34]) (by simp) hi
      rw [Lib.replaceK_hit _ _ _ _ _ hi]
      have e1 : (a ++ 34 :: r).take a.length = a := by simp
      have e2 : (a ++ 34 :: r).drop (a.length + ([34] : List UInt8).length) = r := by simp [List.drop_append]
      rw [e2] at hc
      rw [e1, e2, replaceK34 k r (by omega), dbl_app, dbl_none a h3]
      have e3 : ib 34 = 34 := by decide
      simp [dbl, e3]

theorem replaceAll34 (s : List UInt8) : Lib.replaceAll s [34] [34, 34] = dbl s := by
  unfold Lib.replaceAll Lib.replace
  rw [if_neg (by decide)]
  exact replaceK34 _ s (by unfold Lib.replaceNum; rw [if_pos (by left; decide)]; exact Nat.le_refl _)

theorem i_QuoteText_ok {s : List UInt8} (h : s.length ≤ 1000000) : i_QuoteText s = some (qtext s) := by
  rw [i_QuoteText_eq]
  unfold replAllS
  rw [if_pos ⟨by omega, by decide, by decide⟩, replaceAll34]
  have := dbl_len s
  simp only [Option.bind_some]
  rw [app_of (by simp; omega)]
  simp only [Option.bind_some]
  rw [app_of (by simp; omega)]
  rfl

end Go.Dv.U

namespace Go.Dv.U

open Go Go.Dv Go.Proofs

def vWord (k : Int) : List UInt8 :=
  if k = 1 then [115, 116, 114, 105, 110, 103] else if k = 2 then [105, 110, 116, 101, 103, 101, 114] else if k = 3 then [112, 97, 116, 116, 101, 114, 110] else if k = 4 then [97, 114, 114, 97, 121] else if k = 5 then [116, 97, 98, 108, 101] else if k = 6 then [114, 101, 99, 111, 114, 100] else if k = 7 then [110, 97, 109, 101] else if k = 8 then [101, 120, 112, 114, 101, 115, 115, 105, 111, 110] else []

theorem vWord_len (k : Int) : (vWord k).length ≤ 10 := by
  unfold vWord; repeat' (first | decide | split)

def vText (v : TValue) : List UInt8 :=
  if v.fKind = 1 then qtext v.fText else if v.fKind = 2 then Lib.itoa v.fNum else if v.fKind = 3 then 60 :: v.fText ++ [62]
  else if v.fKind = 7 then 46 :: v.fText else if v.fKind = 8 then 42 :: v.fText else vWord v.fKind ++ [35] ++ Lib.itoa v.fRef

theorem vVal_rng {v : TValue} (h : vVal v = true) : 1 ≤ v.fKind ∧ v.fKind ≤ 8 ∧ v.fText.length ≤ 1200 ∧ (-1000000000000 ≤ v.fNum ∧ v.fNum ≤ 1000000000000) ∧ 0 ≤ v.fRef ∧ v.fRef ≤ 1000000 := by
  unfold vVal at h
  have hn : ∀ s : List UInt8, isName s = true → s.length ≤ 12 := by
    intro s h
    cases s with
    | nil => simp
    | cons b r =>
      simp only [isName, Bool.and_eq_true_iff, decide_eq_true_eq] at h
      exact h.1.1
  have := hn v.fText
  have e0 : v.fText = [] → v.fText.length = 0 := fun h => by rw [h]; rfl
  repeat' split at h
  all_goals simp only [Bool.and_eq_true_iff, beq_iff_eq, decide_eq_true_eq, Bool.false_eq_true] at h
  · omega
  · have := e0 h.1.1.1; omega
  · omega
  · have := e0 h.1.1.2; omega
  · have := this h.2; omega

theorem typeNames_at {k : Int} (h0 : 1 ≤ k) (h1 : k ≤ 8) : idx ([[], [115, 116, 114, 105, 110, 103], [105, 110, 116, 101, 103, 101, 114], [112, 97, 116, 116, 101, 114, 110], [97, 114, 114, 97, 121], [116, 97, 98, 108, 101], [114, 101, 99, 111, 114, 100], [110, 97, 109, 101], [101, 120, 112, 114, 101, 115, 115, 105, 111, 110]] : List (List UInt8)) k = some (vWord k) := by
  rw [idx_of (by omega)]
  have : k = 1 ∨ k = 2 ∨ k = 3 ∨ k = 4 ∨ k = 5 ∨ k = 6 ∨ k = 7 ∨ k = 8 := by omega
  rcases this with rfl | rfl | rfl | rfl | rfl | rfl | rfl | rfl <;> rfl

theorem i_typeName_ok {k : Int} (h0 : 1 ≤ k) (h1 : k ≤ 8) : i_typeName k = some (vWord k) := by
  rw [i_typeName_eq, typeNames_at h0 h1]; rfl

theorem s_DataType_ok (v : TValue) : s_DataType v = some (if vVal v = true then vWord v.fKind else []) := by
  rw [s_DataType_eq, s_ValidValue_ok]
  simp only [Option.bind_some]
  cases h : vVal v
  · simp
  · obtain ⟨h0, h1, _⟩ := vVal_rng h
    simp only [Bool.not_true, Bool.false_eq_true, if_false, if_true]
    rw [w64_of (by omega) (by omega), idx_of (by omega)]
    have : v.fKind = 1 ∨ v.fKind = 2 ∨ v.fKind = 3 ∨ v.fKind = 4 ∨ v.fKind = 5 ∨ v.fKind = 6 ∨ v.fKind = 7 ∨ v.fKind = 8 := by omega
    rcases this with h | h | h | h | h | h | h | h <;> rw [h] <;> rfl

theorem rem_neg_ten (u : Nat) : rem (-(u : Int)) 10 = some (-((u % 10 : Nat) : Int)) := by
  unfold rem
  rw [if_neg (by decide), Int.neg_tmod, Int.tmod_eq_emod_of_nonneg (by omega)]
  congr 1

theorem quo_neg_ten {u : Nat} (h : u ≤ 9223372036854775808) : quo .i64 (-(u : Int)) 10 = some (-((u / 10 : Nat) : Int)) := by
  unfold quo
  rw [if_neg (by decide), Int.neg_tdiv, Int.tdiv_eq_ediv_of_nonneg (by omega)]
  congr 1
  have : IntKind.i64.wrap (-((u : Int) / 10)) = w64 (-((u : Int) / 10)) := rfl
  rw [this, w64_of (by omega) (by omega)]
  omega

theorem decDigits_step {u : Nat} (hu : ¬ u < 10) : Lib.decDigits u = Lib.decDigits (u / 10) ++ [UInt8.ofNat (48 + u % 10)] := by
  rw [Lib.decDigits, dif_neg hu]

theorem digits_end (x0 : Int) (s : List UInt8) (hl : s.length ≤ 1000) : s_l06Digits_L5 x0 s 0 = some ((if x0 < 0 then [45] else []) ++ s) := by
  rw [s_l06Digits_L5_eq, if_neg (by decide)]
  by_cases h : x0 < 0
  · rw [if_pos (by simpa using h), if_pos h, app_of (by simp; omega)]; rfl
  · rw [if_neg (by simpa using h), if_neg h]; rfl

theorem s_l06Digits_L5_pos (x0 : Int) : ∀ (k u : Nat) (s : List UInt8), 0 < u → u < 10 ^ (k + 1) → u < 9223372036854775808 → s.length + k + 1 ≤ 1000 → s_l06Digits_L5 x0 s (u : Int) = some ((if x0 < 0 then [45] else []) ++ (Lib.decDigits u ++ s)) := by
  intro k
  induction k with
  | zero =>
    intro u s hp h h2 hl
    have hu : u < 10 := by simpa using h
    rw [s_l06Digits_L5_eq, if_pos (by simp; omega), rem_ten, quo_ten h2]
    simp only [Option.bind_some]
    rw [if_neg (by simp; omega)]
    simp only [List.map_cons, List.map_nil, digit_byte (r := ((u % 10 : Nat) : Int)) (by omega) (by omega), Int.toNat_natCast]
    rw [app_of (by simp; omega)]
    simp only [Option.bind_some]
    have e : u / 10 = 0 := by omega
    have e2 : u % 10 = u := by omega
    rw [e, e2, Int.natCast_zero, digits_end _ _ (by simp; omega), Lib.decDigits_one hu]
  | succ k ih =>
    intro u s hp h h2 hl
    by_cases hu : u < 10
    · rw [s_l06Digits_L5_eq, if_pos (by simp; omega), rem_ten, quo_ten h2]
      simp only [Option.bind_some]
      rw [if_neg (by simp; omega)]
      simp only [List.map_cons, List.map_nil, digit_byte (r := ((u % 10 : Nat) : Int)) (by omega) (by omega), Int.toNat_natCast]
      rw [app_of (by simp; omega)]
      simp only [Option.bind_some]
      have e : u / 10 = 0 := by omega
      have e2 : u % 10 = u := by omega
      rw [e, e2, Int.natCast_zero, digits_end _ _ (by simp; omega), Lib.decDigits_one hu]
    · rw [s_l06Digits_L5_eq, if_pos (by simp; omega), rem_ten, quo_ten h2]
      simp only [Option.bind_some]
      rw [if_neg (by simp; omega)]
      simp only [List.map_cons, List.map_nil, digit_byte (r := ((u % 10 : Nat) : Int)) (by omega) (by omega), Int.toNat_natCast]
      rw [app_of (by simp; omega)]
      simp only [Option.bind_some]
      rw [ih (u / 10) _ (by omega) (by rw [Nat.div_lt_iff_lt_mul (by decide)]; rw [Nat.pow_succ] at h; exact h) (by omega) (by simp; omega), decDigits_step hu]
      simp

theorem s_l06Digits_L5_neg (x0 : Int) : ∀ (k u : Nat) (s : List UInt8), 0 < u → u < 10 ^ (k + 1) → u ≤ 9223372036854775808 → s.length + k + 1 ≤ 1000 → s_l06Digits_L5 x0 s (-(u : Int)) = some ((if x0 < 0 then [45] else []) ++ (Lib.decDigits u ++ s)) := by
  have step : ∀ (u : Nat) (s : List UInt8), 0 < u → u ≤ 9223372036854775808 → s.length ≤ 1000 → s_l06Digits_L5 x0 s (-(u : Int)) = s_l06Digits_L5 x0 (UInt8.ofNat (48 + u % 10) :: s) (-((u / 10 : Nat) : Int)) := by
    intro u s hp h2 hl
    rw [s_l06Digits_L5_eq, if_pos (by simp; omega), rem_neg_ten, quo_neg_ten h2]
    simp only [Option.bind_some]
    by_cases h0 : u % 10 = 0
    · rw [if_neg (by simp; omega), h0]
      have := digit_byte (r := -((0 : Nat) : Int)) (by omega) (by omega)
      simp only [List.map_cons, List.map_nil, this]
      rw [app_of (by simp; omega)]
      rfl
    · rw [if_pos (by simp; omega), w64_of (n := 0 - -((u % 10 : Nat) : Int)) (by omega) (by omega)]
      have e : (0 - -((u % 10 : Nat) : Int)) = ((u % 10 : Nat) : Int) := by omega
      rw [e]
      simp only [List.map_cons, List.map_nil, digit_byte (r := ((u % 10 : Nat) : Int)) (by omega) (by omega), Int.toNat_natCast]
      rw [app_of (by simp; omega)]
      rfl
  intro k
  induction k with
  | zero =>
    intro u s hp h h2 hl
    have hu : u < 10 := by simpa using h
    have e : u / 10 = 0 := by omega
    have e2 : u % 10 = u := by omega
    rw [step u s hp h2 (by omega), e, e2]
    have := digits_end x0 (UInt8.ofNat (48 + u) :: s) (by simp; omega)
    simpa [Lib.decDigits_one hu] using this
  | succ k ih =>
    intro u s hp h h2 hl
    rw [step u s hp h2 (by omega)]
    by_cases hu : u < 10
    · have e : u / 10 = 0 := by omega
      have e2 : u % 10 = u := by omega
      rw [e, e2]
      have := digits_end x0 (UInt8.ofNat (48 + u) :: s) (by simp; omega)
      simpa [Lib.decDigits_one hu] using this
    · rw [ih (u / 10) _ (by omega) (by rw [Nat.div_lt_iff_lt_mul (by decide)]; rw [Nat.pow_succ] at h; exact h) (by omega) (by simp; omega), decDigits_step hu]
      simp

theorem s_l06Digits_ok {n : Int} (h0 : -9223372036854775808 ≤ n) (h1 : n ≤ 9223372036854775807) : s_l06Digits n = some (Lib.itoa n) := by
  rw [s_l06Digits_eq]
  by_cases hz : n = 0
  · subst hz
    have := itoa_nat 0
    rw [Int.natCast_zero] at this
    rw [if_pos (by decide), this, Lib.decDigits_one (by decide)]
    rfl
  rw [if_neg (by simpa using hz)]
  by_cases hn : n < 0
  · obtain ⟨u, hu⟩ : ∃ u : Nat, n = -(u : Int) := ⟨n.natAbs, by omega⟩
    have := s_l06Digits_L5_neg n 18 u [] (by omega) (by omega) (by omega) (by decide)
    rw [← hu, if_pos hn] at this
    rw [this]
    unfold Lib.itoa
    rw [if_pos hn]
    have e : n.natAbs = u := by omega
    simp [e]
  · obtain ⟨u, hu⟩ : ∃ u : Nat, n = (u : Int) := ⟨n.toNat, by omega⟩
    have := s_l06Digits_L5_pos n 18 u [] (by omega) (by omega) (by omega) (by decide)
    rw [← hu, if_neg hn] at this
    rw [this, hu, itoa_nat]
    simp

theorem s_QuoteText_ok {s : List UInt8} (h : s.length ≤ 1000000) : s_QuoteText s = some (qtext s) := by
  have key : ∀ acc : List UInt8, acc.length + 2 * s.length ≤ 10000000 → s_QuoteText_L3 s acc ((0 : Nat) : Int) = some (acc ++ dbl s ++ [34]) := by
    refine loop_ind (xs := s) (by omega) (P := fun i l => ∀ acc : List UInt8, acc.length + 2 * l.length ≤ 10000000 → s_QuoteText_L3 s acc i = some (acc ++ dbl l ++ [34])) ?_ ?_
    · intro acc h1
      rw [s_QuoteText_L3_eq, if_neg (by simp [len_eq]), app_of (by simp at h1 ⊢; omega)]
      simp [dbl]
    · intro i y l hd hlt hy hi hw ih acc h1
      simp only [List.length_cons] at h1
      have hc : cut s (i : Int) (Option.getD (some ((i + 1 : Nat) : Int)) (len s)) = some [y] := by
        have := cut_of (xs := s) (a := i) (b := i + 1) (by omega) (by omega)
        rw [Option.getD_some, this]
        congr 1
        rw [List.drop_take, hd]
        simp
      rw [s_QuoteText_L3_eq, hi, hw, if_pos (by simp [len_eq, hlt])]
      simp only [Option.bind_some]
      by_cases h34 : ib y = 34
      · rw [if_pos (by simpa using h34), app_of (by simp; omega), hc]
        simp only [Option.bind_some]
        have hy34 : y = 34 := ib_inj.1 (h34.trans (by decide))
        rw [app_of (by simp; omega)]
        simp only [Option.bind_some]
        rw [ih _ (by simp; omega)]
        subst hy34; simp [dbl, h34]
      · rw [if_neg (by simpa using h34), hc]
        simp only [Option.bind_some]
        rw [app_of (by simp; omega)]
        simp only [Option.bind_some]
        rw [ih _ (by simp; omega)]
        simp [dbl, h34]
  rw [s_QuoteText_eq]
  have := key [34] (by simp; omega)
  simpa [qtext] using this

theorem i_Value_text_ok {v : TValue} (h : vVal v = true) : i_Value_text v = some (vText v) := by
  obtain ⟨h0, h1, h2, h3, h4⟩ := vVal_rng h
  rw [i_Value_text_eq]
  unfold vText
  rw [i_QuoteText_ok (by omega), i_decimal_ok (by omega) (by omega), i_typeName_ok h0 h1, i_decimal_ok (by omega) (by omega)]
  have hw := vWord_len v.fKind
  have hi := itoa_len (n := v.fRef) (by omega) (by omega)
  simp only [Option.bind_some, beq_iff_eq]
  rw [app_of (xs := [60]) (by simp; omega), app_of (xs := [46]) (by simp; omega), app_of (xs := [42]) (by simp; omega), app_of (xs := vWord v.fKind) (by simp; omega)]
  simp only [Option.bind_some]
  rw [app_of (ys := [62]) (by simp; omega), app_of (ys := Lib.itoa v.fRef) (by simp; omega)]
  repeat' (first | rfl | split)

theorem s_ValueText_ok (v : TValue) : s_ValueText v = some (if vVal v = true then vText v else []) := by
  rw [s_ValueText_eq, s_ValidValue_ok]
  simp only [Option.bind_some]
  cases h : vVal v
  · simp
  obtain ⟨h0, h1, h2, h3, h4⟩ := vVal_rng h
  unfold vText
  rw [s_QuoteText_ok (by omega), s_l06Digits_ok (by omega) (by omega), s_DataType_ok, s_l06Digits_ok (by omega) (by omega), h]
  have hw := vWord_len v.fKind
  have hi := itoa_len (n := v.fRef) (by omega) (by omega)
  simp only [Option.bind_some, beq_iff_eq, Bool.not_true, Bool.false_eq_true, if_false, if_true]
  rw [app_of (xs := [60]) (by simp; omega), app_of (xs := [46]) (by simp; omega), app_of (xs := [42]) (by simp; omega), app_of (xs := vWord v.fKind) (by simp; omega)]
  simp only [Option.bind_some]
  rw [app_of (ys := [62]) (by simp; omega), app_of (ys := Lib.itoa v.fRef) (by simp; omega)]
  repeat' (first | rfl | split)

theorem vText_len {v : TValue} (h : vVal v = true) : (vText v).length ≤ 2500 := by
  obtain ⟨h0, h1, h2, h3, h4⟩ := vVal_rng h
  have hw := vWord_len v.fKind
  have hi := itoa_len (n := v.fRef) (by omega) (by omega)
  have hq := qtext_len v.fText
  have hn := itoa_len20 (n := v.fNum) (by omega) (by omega)
  unfold vText
  repeat' split
  all_goals simp <;> omega

end Go.Dv.U

namespace Go.Dv.U

open Go Go.Dv Go.Proofs

mutual
def TGen.n : TGen → Nat
  | ⟨_, _, _, _, ks⟩ => 1 + TGen.ns ks
def TGen.ns : List TGen → Nat
  | [] => 0
  | y :: r => TGen.n y + TGen.ns r
end

theorem TGen.ns_eq : ∀ l, TGen.ns l = sumOf TGen.n l
  | [] => rfl
  | y :: r => by simp only [TGen.ns, sumOf, TGen.ns_eq r]

theorem TGen.n_eq (x : TGen) : x.n = 1 + sumOf TGen.n x.fKids := by
  rw [← TGen.ns_eq]; cases x; rfl

mutual
def TGen.all (p : TGen → Bool) : TGen → Bool
  | ⟨a, b, c, d, ks⟩ => p ⟨a, b, c, d, ks⟩ && TGen.alls p ks
def TGen.alls (p : TGen → Bool) : List TGen → Bool
  | [] => true
  | y :: r => TGen.all p y && TGen.alls p r
end

theorem TGen.alls_eq (p : TGen → Bool) : ∀ l, TGen.alls p l = l.all (TGen.all p)
  | [] => rfl
  | y :: r => by simp only [TGen.alls, List.all_cons, TGen.alls_eq p r]

theorem TGen.all_eq (p : TGen → Bool) (x : TGen) : x.all p = (p x && x.fKids.all (TGen.all p)) := by
  rw [← TGen.alls_eq]; cases x; rfl

def gKids (k : Int) : Int := if k = 4 ∨ k = 5 ∨ k = 9 ∨ k = 11 ∨ k = 14 then 2 else if k = 8 ∨ k = 12 ∨ k = 15 then 3 else if k = 1 ∨ k = 2 ∨ k = 3 then 0 else 1

def opNames : List (List UInt8) := [[97, 100, 100], [115, 117, 98], [109, 117, 108], [100, 105, 118], [99, 97, 116], [108, 116], [108, 101], [101, 113], [110, 101], [103, 116], [103, 101], [115, 101, 113], [115, 110, 101], [115, 108, 116], [105, 115]]

def vData (v : TValue) : Bool := vVal v && (v.fKind == 1 || v.fKind == 2 || (decide (4 ≤ v.fKind) && decide (v.fKind ≤ 6)))

def vZero (v : TValue) : Bool := v.fKind == 0 && v.fNum == 0 && v.fText == [] && v.fRef == 0

def gNode (x : TGen) : Bool :=
  decide (1 ≤ x.fKind) && decide (x.fKind ≤ 18) &&
  (if x.fKind = 6 then decide (0 ≤ x.fNum) && decide (x.fNum ≤ 60) else x.fNum == 0) &&
  (if x.fKind = 2 ∨ x.fKind = 16 ∨ x.fKind = 17 then isName x.fText else if x.fKind = 11 then opNames.contains x.fText else x.fText == []) &&
  (if x.fKind = 1 then vData x.fValue else vZero x.fValue) && decide ((x.fKids.length : Int) = gKids x.fKind)

def TGen.good (x : TGen) : Bool := x.all gNode

def TGen.valid (x : TGen) : Bool := x.good && decide (x.n ≤ 60)

theorem TGen.good_eq (x : TGen) : x.good = (gNode x && x.fKids.all TGen.good) := TGen.all_eq _ _

theorem i_genKids_ok (k : Int) : i_genKids k = some (gKids k) := by
  rw [i_genKids_eq, i_genKids_L7_eq, i_genKids_L8_eq, i_genKids_L11_eq, i_genKids_L12_eq, i_genKids_L15_eq, i_genKids_L16_eq]
  unfold gKids; grind (splits := 60)

theorem s_l22Kids_ok {k : Int} (h0 : 1 ≤ k) (h1 : k ≤ 18) : s_l22Kids k = some (gKids k) := by
  rw [s_l22Kids_eq, s_l22Kids_L9_eq, s_l22Kids_L10_eq, s_l22Kids_L15_eq, s_l22Kids_L16_eq, s_l22Kids_L19_eq, s_l22Kids_L20_eq]
  unfold gKids; grind (splits := 60)

theorem i_isOperatorName_ok (t : List UInt8) : i_isOperatorName t = some (opNames.contains t) := by
  rw [i_isOperatorName_eq, i_isOperatorName_L17_eq, i_isOperatorName_L18_eq]
  simp only [ite_some]
  congr 1
  simp only [opNames, List.contains_cons, List.contains_nil, beq_iff_eq, Bool.or_false]
  rw [Bool.eq_iff_iff]
  simp only [Bool.or_eq_true, decide_eq_true_eq, beq_iff_eq, Bool.ite_eq_true_distrib, if_true_left, Bool.false_eq_true]
  grind (splits := 60)

theorem s_l22Among_ok (t : List UInt8) : ∃ v, (s_l22Operators.bind fun l => s_l22Among l t) = some v ∧ decide (v ≥ 0) = opNames.contains t := by
  rw [s_l22Operators_eq]
  simp only [Option.bind_some]
  rw [s_l22Among_eq]
  have key : ∀ xs : List (List UInt8), xs.length ≤ 100 → ∃ v, s_l22Among_L2 xs t ((0 : Nat) : Int) = some v ∧ decide (v ≥ 0) = xs.contains t := by
    intro xs hx
    refine loop_ind (xs := xs) (by omega) (P := fun i l => ∃ v, s_l22Among_L2 xs t i = some v ∧ decide (v ≥ 0) = l.contains t) ?_ ?_
    · refine ⟨-1, ?_, rfl⟩
      rw [s_l22Among_L2_eq, if_neg (by simp [len_eq])]
    · intro i y l _ hlt hy hi hw ⟨v, h1, h2⟩
      rw [s_l22Among_L2_eq, hi, hw, if_pos (by simp [len_eq, hlt])]
      simp only [Option.bind_some]
      by_cases c : y = t
      · refine ⟨i, ?_, ?_⟩
        · rw [if_pos (by simpa using c)]
        · subst c; simp
      · refine ⟨v, ?_, ?_⟩
        · rw [if_neg (by simpa using c), h1]
        · rw [h2]
          simp only [List.contains_cons]
          have : (t == y) = false := by rw [beq_eq_false_iff_ne]; exact fun h => c h.symm
          rw [this, Bool.false_or]
  exact key _ (by decide)

theorem i_isData_ok (v : TValue) : i_isData v = some (vData v) := by
  rw [i_isData_eq, i_ValidValue_ok, i_refers_eq, i_within_ok]
  simp only [Option.bind_some, ite_some]
  congr 1
  unfold vData
  cases vVal v <;> cases (v.fKind == 1) <;> cases (v.fKind == 2) <;> simp

theorem zero_eq (v : TValue) : (v.fKind == 0 && (v.fNum == 0 && (v.fText == [] && (v.fRef == 0 && true)))) = vZero v := by
  unfold vZero; simp only [Bool.and_true, Bool.and_assoc]

theorem i_hasForm_L13_ok (a b c : Bool) (k m : Int) (t : List UInt8) (p q : Int) (r : List UInt8) (s : Int) (ks : List TGen) : i_Gen_hasForm_L13 a b c k m t p q r s ks = some (decide (1 ≤ k) && decide (k ≤ 18) && a && b && c && decide ((ks.length : Int) = gKids k)) := by
  rw [i_Gen_hasForm_L13_eq, i_within_ok, i_genKids_ok]
  simp only [Option.bind_some, len_eq]
  have : ((ks.length : Int) == gKids k) = decide ((ks.length : Int) = gKids k) := rfl
  rw [this]
  cases (decide (1 ≤ k) && decide (k ≤ 18)) <;> cases a <;> cases b <;> cases c <;> simp

theorem i_Gen_hasForm_ok (x : TGen) : i_Gen_hasForm x = some (gNode x) := by
  obtain ⟨k, n, t, v, ks⟩ := x
  rw [i_Gen_hasForm_eq]
  simp only [i_isData_ok, zero_eq, i_Gen_hasForm_L8_eq, i_Gen_hasForm_L9_eq, i_IsName_ok, i_within_ok, i_isOperatorName_ok, i_hasForm_L13_ok, Option.bind_some, gNode, beq_iff_eq, ite_some]
  congr 1
  by_cases h1 : k = 1
  · subst h1; simp
  by_cases h2 : k = 2
  · subst h2; simp
  by_cases h16 : k = 16
  · subst h16; simp
  by_cases h17 : k = 17
  · subst h17; simp
  by_cases h6 : k = 6
  · subst h6; simp
  by_cases h11 : k = 11
  · subst h11; simp
  simp [h1, h2, h16, h17, h6, h11]

theorem s_l22Shape_L5_ok (k n : Int) (t : List UInt8) (v : TValue) (ks : List TGen) : s_l22Shape_L5 k n t v.fKind v.fNum v.fText v.fRef ks = some ((if k = 2 ∨ k = 16 ∨ k = 17 then isName t else if k = 11 then opNames.contains t else t == []) && (if k = 6 then decide (0 ≤ n) && decide (n ≤ 60) else true) && (if k = 1 then vData v else true)) := by
  have ev : TValue.mk v.fKind v.fNum v.fText v.fRef = v := rfl
  rw [s_l22Shape_L5_eq, ev]
  obtain ⟨a, ha, hb⟩ := s_l22Among_ok t
  simp only [s_l22Shape_L12_eq, s_l22Shape_L13_eq, s_ValidValue_ok, s_l07IsRef_eq, s_l00In_ok, s_IsName_ok, Option.bind_some, beq_iff_eq]
  have hab : (s_l22Operators.bind fun r199 => (s_l22Among r199 t).bind fun r198 => some (decide (r198 ≥ 0))) = some (opNames.contains t) := by
    rw [← hb]
    rw [s_l22Operators_eq] at ha ⊢
    simp only [Option.bind_some] at ha ⊢
    rw [ha]; rfl
  rw [hab]
  simp only [ite_some]
  congr 1
  unfold vData
  by_cases h1 : k = 1
  · subst h1
    simp
    cases t <;> cases vVal v <;> simp <;> grind
  by_cases h2 : k = 2
  · subst h2; simp
  by_cases h16 : k = 16
  · subst h16; simp
  by_cases h17 : k = 17
  · subst h17; simp
  by_cases h6 : k = 6
  · subst h6; simp; cases t <;> simp
  by_cases h11 : k = 11
  · subst h11; simp
  simp [h1, h2, h16, h17, h6, h11]

theorem s_l22Shape_ok (x : TGen) : s_l22Shape x.fKind x.fNum x.fText x.fValue.fKind x.fValue.fNum x.fValue.fText x.fValue.fRef x.fKids = some (gNode x) := by
  obtain ⟨k, n, t, v, ks⟩ := x
  rw [s_l22Shape_eq]
  simp only [zero_eq, s_l22Shape_L4_eq, s_l22Shape_L5_ok, s_l00In_ok, Option.bind_some, gNode]
  by_cases hr : 1 ≤ k ∧ k ≤ 18
  · rw [s_l22Kids_ok hr.1 hr.2]
    have e1 : decide (1 ≤ k) = true := by simpa using hr.1
    have e2 : decide (k ≤ 18) = true := by simpa using hr.2
    simp only [e1, e2, Bool.true_and, Bool.not_true, Bool.false_eq_true, if_false, Option.bind_some, len_eq]
    by_cases hk : (ks.length : Int) = gKids k
    · have hk' : ((ks.length : Int) != gKids k) = false := by simpa using hk
      simp only [hk', Bool.false_eq_true, if_false, decide_eq_true hk, Bool.and_true, ite_some]
      congr 1
      by_cases h6 : k = 6
      · subst h6; simp; cases vZero v <;> simp [Bool.and_comm]
      by_cases h1 : k = 1
      · subst h1; simp; by_cases hn : n = 0 <;> simp [hn]
      simp [h6, h1]
      cases vZero v <;> by_cases hn : n = 0 <;> simp [hn]
    · have hk' : ((ks.length : Int) != gKids k) = true := by simpa using hk
      simp [hk', hk]
  · have e : (decide (1 ≤ k) && decide (k ≤ 18)) = false := by simp; omega
    simp [e]

theorem i_countGen_ok : ∀ x : TGen, x.m ≤ 1048576 → ∀ c : Int, 0 ≤ c → c ≤ 60 → i_countGen x c = some (if x.good = true ∧ c + x.n ≤ 60 then c + x.n else 61) := by
  intro x
  induction x using TGen.ind with
  | h x ih =>
    intro hm c h0 h1
    have hmq := x.m_eq
    have hn := x.n_eq
    have loop : ∀ c : Int, 0 ≤ c → c ≤ 60 → i_countGen_L5 c x.fKids (len x.fKids) ((0 : Nat) : Int) = some (if x.fKids.all TGen.good = true ∧ c + sumOf TGen.n x.fKids ≤ 60 then c + sumOf TGen.n x.fKids else 61) := by
      refine loop_ind (xs := x.fKids) (by omega) (P := fun i l => ∀ c : Int, 0 ≤ c → c ≤ 60 → i_countGen_L5 c x.fKids (len x.fKids) i = some (if l.all TGen.good = true ∧ c + sumOf TGen.n l ≤ 60 then c + sumOf TGen.n l else 61)) ?_ ?_
      · intro c h0 h1
        rw [i_countGen_L5_eq]
        simp [len_eq, sumOf, h1]
      · intro i y l _ hlt hy hi hw ih2 c h0 h1
        rw [i_countGen_L5_eq, hi, hw, if_pos (by simp [len_eq, hlt])]
        have hmy := TGen.m_kid hy
        simp only [Option.bind_some, TGen.re_eq, TValue.re_eq, ih y hy (by omega) c h0 h1]
        have e : sumOf TGen.n (y :: l) = y.n + sumOf TGen.n l := rfl
        rw [e, List.all_cons]
        by_cases hc : y.good = true ∧ c + y.n ≤ 60
        · rw [if_pos hc, if_neg (by simp; omega), ih2 _ (by omega) hc.2]
          congr 1
          by_cases hd : l.all TGen.good = true ∧ c + y.n + sumOf TGen.n l ≤ 60
          · rw [if_pos hd, if_pos ⟨Bool.and_eq_true_iff.2 ⟨hc.1, hd.1⟩, by omega⟩]; omega
          · rw [if_neg hd, if_neg fun h => hd ⟨(Bool.and_eq_true_iff.1 h.1).2, by omega⟩]
        · rw [if_neg hc, if_pos (by simp), if_neg fun h => hc ⟨(Bool.and_eq_true_iff.1 h.1).1, by omega⟩]
    have hg := x.good_eq
    rw [i_countGen_eq, w64_of (by omega) (by omega)]
    by_cases c1 : c + 1 > 60
    · rw [if_pos (by simpa using c1), if_neg (by omega)]
    rw [if_neg (by simpa using c1)]
    simp only [TGen.re_eq, TValue.re_eq, i_Gen_hasForm_ok]
    have := loop (c + 1) (by omega) (by omega)
    simp only [Int.natCast_zero] at this
    rw [this, hg]
    simp only [Option.bind_some]
    cases ha : gNode x
    · simp
    · simp only [Bool.not_true, Bool.false_eq_true, if_false, Bool.true_and]
      congr 1
      by_cases hd : x.fKids.all TGen.good = true ∧ c + 1 + sumOf TGen.n x.fKids ≤ 60
      · rw [if_pos hd, if_pos ⟨hd.1, by omega⟩]; omega
      · rw [if_neg hd, if_neg fun h => hd ⟨h.1, by omega⟩]

theorem i_ValidGen_ok {x : TGen} (hm : x.m ≤ 1048576) : i_ValidGen x = some x.valid := by
  rw [i_ValidGen_eq]
  simp only [TGen.re_eq, TValue.re_eq]
  rw [i_countGen_ok x hm 0 (by omega) (by omega)]
  simp only [Option.bind_some, TGen.valid]
  congr 1
  by_cases h : x.good = true ∧ (0 : Int) + x.n ≤ 60
  · rw [if_pos h, h.1]; simp; omega
  · rw [if_neg h]
    cases hg : x.good
    · simp
    · simp only [hg, true_and] at h; simp; omega

theorem TGen.n_le_m : ∀ x : TGen, x.n ≤ x.m + 1 := by
  intro x
  induction x using TGen.ind with
  | h x ih =>
    rw [x.n_eq, x.m_eq]
    have : ∀ l : List TGen, (∀ y ∈ l, y.n ≤ y.m + 1) → sumOf TGen.n l ≤ l.length + sumOf TGen.m l := by
      intro l
      induction l with
      | nil => intro _; simp [sumOf]
      | cons y r ihr =>
        intro h
        have h1 := h y (by simp)
        have h2 := ihr fun z hz => h z (by simp [hz])
        simp only [sumOf, List.length_cons]; omega
    have := this x.fKids ih
    omega

/-- the size the other way: 61 for each wrong node -/
theorem s_l22Size_ok : ∀ x : TGen, x.m ≤ 1048576 → ∃ v : Int, s_l22Size x.fKind x.fNum x.fText x.fValue.fKind x.fValue.fNum x.fValue.fText x.fValue.fRef x.fKids = some v ∧ 1 ≤ v ∧ v ≤ 61 * x.n ∧ (v ≤ 60 → x.good = true ∧ v = x.n) ∧ (x.good = true → x.n ≤ 60 → v = x.n) := by
  intro x
  induction x using TGen.ind with
  | h x ih =>
    intro hm
    have hmq := x.m_eq
    have hn := x.n_eq
    have hnm := x.n_le_m
    rw [s_l22Size_eq, s_l22Shape_ok]
    simp only [Option.bind_some]
    have hg := x.good_eq
    cases ha : gNode x
    · rw [ha, Bool.false_and] at hg
      refine ⟨61, by simp, by omega, by omega, by omega, ?_⟩
      rw [hg]; intro h; cases h
    simp only [Bool.not_true, Bool.false_eq_true, if_false]
    rw [ha, Bool.true_and] at hg
    have loop : ∀ acc : Int, 1 ≤ acc → acc + 61 * sumOf TGen.n x.fKids ≤ 100000000000 → ∃ v : Int, s_l22Size_L5 x.fKind x.fNum x.fText x.fValue.fKind x.fValue.fNum x.fValue.fText x.fValue.fRef x.fKids acc ((0 : Nat) : Int) = some v ∧ acc ≤ v ∧ v ≤ acc + 61 * sumOf TGen.n x.fKids ∧ (v ≤ 60 → x.fKids.all TGen.good = true ∧ v = acc + sumOf TGen.n x.fKids) ∧ (x.fKids.all TGen.good = true → acc + sumOf TGen.n x.fKids ≤ 60 → v = acc + sumOf TGen.n x.fKids) := by
      refine loop_ind (xs := x.fKids) (by omega) (P := fun i l => ∀ acc : Int, 1 ≤ acc → acc + 61 * sumOf TGen.n l ≤ 100000000000 → ∃ v : Int, s_l22Size_L5 x.fKind x.fNum x.fText x.fValue.fKind x.fValue.fNum x.fValue.fText x.fValue.fRef x.fKids acc i = some v ∧ acc ≤ v ∧ v ≤ acc + 61 * sumOf TGen.n l ∧ (v ≤ 60 → l.all TGen.good = true ∧ v = acc + sumOf TGen.n l) ∧ (l.all TGen.good = true → acc + sumOf TGen.n l ≤ 60 → v = acc + sumOf TGen.n l)) ?_ ?_
      · intro acc h1 h2
        refine ⟨acc, ?_, Int.le_refl _, by simp [sumOf], by simp [sumOf], by simp [sumOf]⟩
        rw [s_l22Size_L5_eq]
        simp [len_eq]
      · intro i y l _ hlt hy hi hw ih2 acc h1 h2
        have hmy := TGen.m_kid hy
        have hyn := y.n_eq
        have e : sumOf TGen.n (y :: l) = y.n + sumOf TGen.n l := rfl
        rw [e] at h2 ⊢
        rw [List.all_cons]
        by_cases hc : acc ≤ 60
        · obtain ⟨v, hv, v1, v2, v3, v4⟩ := ih y hy (by omega)
          obtain ⟨u, hu, u1, u2, u3, u4⟩ := ih2 (acc + v) (by omega) (by omega)
          refine ⟨u, ?_, by omega, by omega, ?_, ?_⟩
          · rw [s_l22Size_L5_eq, hi, hw, if_pos (by simp [len_eq, hlt]), if_pos (by simpa using hc)]
            simp only [Option.bind_some, hv]
            rw [w64_of (by omega) (by omega)]
            exact hu
          · intro hu60
            obtain ⟨a1, a2⟩ := v3 (by omega)
            obtain ⟨b1, b2⟩ := u3 hu60
            exact ⟨by rw [a1, b1]; rfl, by omega⟩
          · intro hga hs
            rw [Bool.and_eq_true_iff] at hga
            have := v4 hga.1 (by omega)
            have := u4 hga.2 (by omega)
            omega
        · refine ⟨acc, ?_, Int.le_refl _, by omega, by omega, by omega⟩
          rw [s_l22Size_L5_eq, if_pos (by simp [len_eq, hlt]), if_neg (by simpa using hc)]
    obtain ⟨v, hv, v1, v2, v3, v4⟩ := loop 1 (Int.le_refl _) (by omega)
    refine ⟨v, hv, v1, by omega, fun h => ?_, fun h h2 => ?_⟩
    · obtain ⟨a, b⟩ := v3 h
      exact ⟨by rw [hg]; exact a, by omega⟩
    · rw [hg] at h
      have := v4 h (by omega)
      omega

theorem s_l22Ok_ok {x : TGen} (hm : x.m ≤ 1048576) : s_l22Ok x.fKind x.fNum x.fText x.fValue.fKind x.fValue.fNum x.fValue.fText x.fValue.fRef x.fKids = some x.valid := by
  rw [s_l22Ok_eq]
  obtain ⟨v, hv, v1, v2, v3, v4⟩ := s_l22Size_ok x hm
  rw [hv]
  simp only [Option.bind_some, TGen.valid]
  congr 1
  by_cases h : v ≤ 60
  · obtain ⟨a, b⟩ := v3 h
    rw [a]
    simp; omega
  · cases hg : x.good
    · simpa using h
    · have : ¬ x.n ≤ 60 := fun h6 => by have := v4 hg h6; omega
      simp [this]; omega

def gWord (k : Int) : List UInt8 :=
  if k = 3 then [102, 97, 105, 108] else if k = 4 then [97, 108, 116] else if k = 5 then [97, 110, 100] else if k = 6 then [108, 105, 109, 105, 116] else if k = 7 then [110, 111, 116]
  else if k = 8 then [105, 102] else if k = 9 then [101, 118, 101, 114, 121] else if k = 10 then [114, 101, 112, 101, 97, 116] else if k = 12 then [116, 111] else if k = 13 then [101, 97, 99, 104]
  else if k = 14 then [105, 110, 100, 101, 120] else if k = 15 then [115, 116, 111, 114, 101] else if k = 16 then [115, 101, 116] else if k = 17 then [98, 97, 99, 107] else if k = 18 then [97, 99, 116, 105, 118, 97, 116, 101] else []

theorem gWord_len (k : Int) : (gWord k).length ≤ 8 := by
  by_cases h : 3 ≤ k ∧ k ≤ 18
  · have : k = 3 ∨ k = 4 ∨ k = 5 ∨ k = 6 ∨ k = 7 ∨ k = 8 ∨ k = 9 ∨ k = 10 ∨ k = 11 ∨ k = 12 ∨ k = 13 ∨ k = 14 ∨ k = 15 ∨ k = 16 ∨ k = 17 ∨ k = 18 := by omega
    rcases this with rfl | rfl | rfl | rfl | rfl | rfl | rfl | rfl | rfl | rfl | rfl | rfl | rfl | rfl | rfl | rfl <;> decide
  · have t2 : ∀ j : Int, 3 ≤ j → j ≤ 18 → ¬ k = j := by intro j h1 h2; omega
    simp [gWord, t2]

theorem genNames_at {k : Int} (h0 : 1 ≤ k) (h1 : k ≤ 18) : idx ([[], [], [], [102, 97, 105, 108], [97, 108, 116], [97, 110, 100], [108, 105, 109, 105, 116], [110, 111, 116], [105, 102], [101, 118, 101, 114, 121], [114, 101, 112, 101, 97, 116], [], [116, 111], [101, 97, 99, 104], [105, 110, 100, 101, 120], [115, 116, 111, 114, 101], [115, 101, 116], [98, 97, 99, 107], [97, 99, 116, 105, 118, 97, 116, 101]] : List (List UInt8)) k = some (gWord k) := by
  rw [idx_of (by omega)]
  have : k = 1 ∨ k = 2 ∨ k = 3 ∨ k = 4 ∨ k = 5 ∨ k = 6 ∨ k = 7 ∨ k = 8 ∨ k = 9 ∨ k = 10 ∨ k = 11 ∨ k = 12 ∨ k = 13 ∨ k = 14 ∨ k = 15 ∨ k = 16 ∨ k = 17 ∨ k = 18 := by omega
  rcases this with rfl | rfl | rfl | rfl | rfl | rfl | rfl | rfl | rfl | rfl | rfl | rfl | rfl | rfl | rfl | rfl | rfl | rfl <;> rfl

def gHead (k : Int) (t : List UInt8) : List UInt8 := if k = 11 then t else gWord k

def gExtra (k n : Int) (t : List UInt8) : List (List UInt8) := if k = 6 then [Lib.itoa n] else if k = 16 ∨ k = 17 then [t] else []

def gBody (k n : Int) (t : List UInt8) (v : TValue) (ks : List (List UInt8)) : List UInt8 :=
  if k = 1 then vText v else if k = 2 then t else gHead k t ++ [40] ++ Lib.join (gExtra k n t ++ ks) [44] ++ [41]

mutual
def TGen.text : TGen → List UInt8
  | ⟨k, n, t, v, ks⟩ => gBody k n t v (TGen.texts ks)
def TGen.texts : List TGen → List (List UInt8)
  | [] => []
  | y :: r => TGen.text y :: TGen.texts r
end

theorem TGen.texts_eq : ∀ l, TGen.texts l = l.map TGen.text
  | [] => rfl
  | y :: r => by simp only [TGen.texts, List.map_cons, TGen.texts_eq r]

theorem TGen.text_eq (x : TGen) : x.text = gBody x.fKind x.fNum x.fText x.fValue (x.fKids.map TGen.text) := by
  rw [← TGen.texts_eq]; cases x; rfl

theorem gName_len {s : List UInt8} (h : isName s = true) : s.length ≤ 12 := by
  cases s with
  | nil => simp
  | cons b r =>
    simp only [isName, Bool.and_eq_true_iff, decide_eq_true_eq] at h
    exact h.1.1

theorem op_len {t : List UInt8} (h : opNames.contains t = true) : t.length ≤ 12 := by
  have h2 : ∀ s ∈ opNames, s.length ≤ 12 := by decide
  exact h2 t (List.contains_iff_mem.1 h)

/-- what a good node keeps -/
theorem gNode_parts {x : TGen} (h : gNode x = true) : 1 ≤ x.fKind ∧ x.fKind ≤ 18 ∧ (x.fKind = 6 → 0 ≤ x.fNum ∧ x.fNum ≤ 60) ∧ x.fText.length ≤ 12 ∧ (x.fKind = 1 → vVal x.fValue = true) ∧ (x.fKids.length : Int) = gKids x.fKind := by
  unfold gNode at h
  simp only [Bool.and_eq_true_iff, decide_eq_true_eq] at h
  obtain ⟨⟨⟨⟨⟨h1, h2⟩, h3⟩, h4⟩, h5⟩, h6⟩ := h
  refine ⟨h1, h2, fun h => ?_, ?_, fun h => ?_, h6⟩
  · rw [if_pos h] at h3; simpa using h3
  · split at h4
    · exact gName_len h4
    · split at h4
      · exact op_len h4
      · have : x.fText = [] := by simpa using h4
        rw [this]; simp
  · rw [if_pos h] at h5
    unfold vData at h5
    exact (Bool.and_eq_true_iff.1 h5).1

theorem gKids_le (k : Int) : gKids k ≤ 3 := by unfold gKids; grind (splits := 60)

theorem lens_sumG (l : List TGen) (C : Nat) (h : ∀ y ∈ l, y.text.length ≤ C * y.n) : Lib.lens (l.map TGen.text) ≤ C * sumOf TGen.n l := by
  induction l with
  | nil => simp [Lib.lens, sumOf]
  | cons y r ih =>
    have h1 := h y (by simp)
    have h2 := ih fun z hz => h z (by simp [hz])
    have : Lib.lens ((y :: r).map TGen.text) = y.text.length + Lib.lens (r.map TGen.text) := by simp [Lib.lens]
    rw [this]
    simp only [sumOf, Nat.mul_add]; omega

theorem join_len_leG (xs : List (List UInt8)) : (Lib.join xs [44]).length ≤ xs.length + Lib.lens xs := by
  cases xs with
  | nil => simp [Lib.join_nil]
  | cons x r => rw [Lib.join_length]; simp

theorem lens_appG (a b : List (List UInt8)) : Lib.lens (a ++ b) = Lib.lens a + Lib.lens b := by simp [Lib.lens]

theorem gExtra_len {x : TGen} (h : gNode x = true) : Lib.lens (gExtra x.fKind x.fNum x.fText) ≤ 13 ∧ (gExtra x.fKind x.fNum x.fText).length ≤ 1 := by
  obtain ⟨h1, h2, h3, h4, h5, h6⟩ := gNode_parts h
  unfold gExtra
  split
  · have h3 := h3 (by assumption)
    have := itoa_len (n := x.fNum) (by omega) (by omega)
    simp [Lib.lens]; omega
  · split
    · simp [Lib.lens]; omega
    · simp [Lib.lens]

theorem gHead_len {x : TGen} (h : gNode x = true) : (gHead x.fKind x.fText).length ≤ 12 := by
  obtain ⟨h1, h2, h3, h4, h5, h6⟩ := gNode_parts h
  have := gWord_len x.fKind
  unfold gHead; split <;> omega

theorem TGen.text_len : ∀ x : TGen, x.good = true → x.text.length ≤ 2600 * x.n := by
  intro x
  induction x using TGen.ind with
  | h x ih =>
    intro hg
    have hn := x.n_eq
    rw [x.good_eq, Bool.and_eq_true_iff] at hg
    obtain ⟨hnode, hk⟩ := hg
    rw [List.all_eq_true] at hk
    have ih := fun y hy => ih y hy (hk y hy)
    have hl := lens_sumG x.fKids 2600 ih
    have he := gExtra_len hnode
    have hh := gHead_len hnode
    obtain ⟨h1, h2, h3, h4, h5, h6⟩ := gNode_parts hnode
    have hkl := gKids_le x.fKind
    rw [x.text_eq, hn]
    unfold gBody
    split
    · have := vText_len (h5 (by assumption)); omega
    · split
      · omega
      · have hj := join_len_leG (gExtra x.fKind x.fNum x.fText ++ x.fKids.map TGen.text)
        rw [lens_appG, List.length_append, List.length_map] at hj
        simp; omega

theorem i_Gen_text_ok : ∀ x : TGen, x.good = true → x.n ≤ 100000 → i_Gen_text x = some x.text := by
  intro x
  induction x using TGen.ind with
  | h x ih =>
    intro hg hn60
    have hlen := x.text_len hg
    have hn := x.n_eq
    rw [x.good_eq, Bool.and_eq_true_iff] at hg
    obtain ⟨hnode, hk⟩ := hg
    rw [List.all_eq_true] at hk
    have kid : ∀ y ∈ x.fKids, i_Gen_text y = some y.text ∧ y.text.length ≤ 260000000 := fun y hy => by
      have h1 := sumOf_mem (m := TGen.n) hy
      have h2 := y.text_len (hk y hy)
      exact ⟨ih y hy (hk y hy) (by omega), by omega⟩
    have he := gExtra_len hnode
    have hh := gHead_len hnode
    obtain ⟨h1, h2, h3, h4, h5, h6⟩ := gNode_parts hnode
    have hkl := gKids_le x.fKind
    have hl := lens_sumG x.fKids 2600 (fun y hy => y.text_len (hk y hy))
    have fin : ∀ w : List UInt8, w.length ≤ 12 → ∀ args : List (List UInt8), args.length ≤ 4 → Lib.lens args ≤ 1000000000 → i_Gen_text_L16 w x.fKids (len x.fKids) (len x.fKids) args = some (w ++ [40] ++ Lib.join args [44] ++ [41]) := by
      intro w hw args g2 g3
      have hj := join_len_leG args
      rw [i_Gen_text_L16_eq, if_neg (by simp), app_of (by simp; omega)]
      unfold joinS
      rw [if_pos (by unfold big; omega)]
      simp only [Option.bind_some]
      rw [app_of (by simp; omega)]
      simp only [Option.bind_some]
      rw [app_of (by simp; omega)]
      rfl
    have loop : ∀ w : List UInt8, w.length ≤ 12 → ∀ acc : List (List UInt8), acc.length + x.fKids.length ≤ 4 → Lib.lens acc + Lib.lens (x.fKids.map TGen.text) ≤ 1000000000 → i_Gen_text_L16 w x.fKids (len x.fKids) ((0 : Nat) : Int) acc = some (w ++ [40] ++ Lib.join (acc ++ x.fKids.map TGen.text) [44] ++ [41]) := by
      intro w hw
      refine loop_ind (xs := x.fKids) (by omega) (P := fun i l => ∀ acc : List (List UInt8), acc.length + l.length ≤ 4 → Lib.lens acc + Lib.lens (l.map TGen.text) ≤ 1000000000 → i_Gen_text_L16 w x.fKids (len x.fKids) i acc = some (w ++ [40] ++ Lib.join (acc ++ l.map TGen.text) [44] ++ [41])) ?_ ?_
      · intro acc g1 g2
        have := fin w hw acc (by simpa using g1) (by omega)
        rw [len_eq] at this ⊢
        simpa using this
      · intro i y l _ hlt hy hi hw2 ih2 acc g1 g2
        rw [i_Gen_text_L16_eq, hi, hw2, if_pos (by simp [len_eq, hlt])]
        simp only [Option.bind_some, TGen.re_eq, TValue.re_eq, (kid y hy).1]
        simp only [List.length_cons] at g1
        rw [app_of (by simp; omega)]
        simp only [Option.bind_some]
        have e2 : Lib.lens ((y :: l).map TGen.text) = y.text.length + Lib.lens (l.map TGen.text) := by simp [Lib.lens]
        rw [e2] at g2
        rw [ih2 (acc ++ [y.text]) (by simp; omega) (by rw [lens_appG]; simp [Lib.lens] at g2 ⊢; omega)]
        simp
    have go := loop (gHead x.fKind x.fText) hh (gExtra x.fKind x.fNum x.fText) (by omega) (by omega)
    simp only [Int.natCast_zero] at go
    have gw := gWord_len x.fKind
    rw [i_Gen_text_eq, i_genNames_eq, x.text_eq]
    simp only [Option.bind_some]
    rw [genNames_at h1 h2]
    simp only [Option.bind_some, TValue.re_eq, i_Gen_text_L15_eq, beq_iff_eq]
    unfold gBody
    have hE := fun h6 h16 => (show gExtra x.fKind x.fNum x.fText = [] by unfold gExtra; rw [if_neg h6, if_neg h16])
    by_cases c1 : x.fKind = 1
    · rw [if_pos c1, if_pos c1, i_Value_text_ok (h5 c1)]; rfl
    rw [if_neg c1, if_neg c1]
    by_cases c2 : x.fKind = 2
    · rw [if_pos c2, if_pos c2]
    rw [if_neg c2, if_neg c2]
    have hH := fun h => (show gHead x.fKind x.fText = gWord x.fKind by unfold gHead; rw [if_neg h])
    by_cases c6 : x.fKind = 6
    · have := h3 c6
      have hi := itoa_len (n := x.fNum) (by omega) (by omega)
      rw [if_pos c6, i_decimal_ok (by omega) (by omega)]
      simp only [Option.bind_some]
      rw [app_of (by simp)]
      have e1 : gExtra x.fKind x.fNum x.fText = [Lib.itoa x.fNum] := by unfold gExtra; rw [if_pos c6]
      rw [e1, hH (by omega)] at go ⊢
      exact go
    rw [if_neg c6]
    by_cases c16 : x.fKind = 16
    · rw [if_pos c16, app_of (by simp)]
      have e1 : gExtra x.fKind x.fNum x.fText = [x.fText] := by unfold gExtra; rw [if_neg c6, if_pos (.inl c16)]
      rw [e1, hH (by omega)] at go ⊢
      exact go
    by_cases c17 : x.fKind = 17
    · rw [if_neg c16, if_pos c17, app_of (by simp)]
      have e1 : gExtra x.fKind x.fNum x.fText = [x.fText] := by unfold gExtra; rw [if_neg c6, if_pos (.inr c17)]
      rw [e1, hH (by omega)] at go ⊢
      exact go
    rw [hE c6 (by omega)] at go ⊢
    rw [if_neg c16, if_neg c17]
    by_cases c11 : x.fKind = 11
    · have e2 : gHead x.fKind x.fText = x.fText := by unfold gHead; rw [if_pos c11]
      rw [e2] at go ⊢
      rw [if_pos c11]
      exact go
    · rw [hH c11] at go ⊢
      rw [if_neg c11]
      exact go

theorem s_l22List_ok (ks : List TGen) (hx : ks.length ≤ 100) (hk : ∀ y ∈ ks, s_l22Print y.fKind y.fNum y.fText y.fValue.fKind y.fValue.fNum y.fValue.fText y.fValue.fRef y.fKids = some y.text) (hl : Lib.lens (ks.map TGen.text) ≤ 1000000000) :
    s_l22List ks = some (Lib.join (ks.map TGen.text) [44]) := by
  rw [s_l22List_eq]
  have key : ∀ acc : List UInt8, acc.length + Lib.lens (ks.map TGen.text) + ks.length ≤ 2000000000 → s_l22List_L3 ks acc ((0 : Nat) : Int) = some (acc ++ (if (0 : Nat) = 0 then Lib.join (ks.map TGen.text) [44] else Lib.joinTail [44] (ks.map TGen.text))) := by
    refine loop_ind (xs := ks) (by omega) (P := fun i l => ∀ acc : List UInt8, acc.length + Lib.lens (l.map TGen.text) + l.length ≤ 2000000000 → s_l22List_L3 ks acc i = some (acc ++ (if i = 0 then Lib.join (l.map TGen.text) [44] else Lib.joinTail [44] (l.map TGen.text)))) ?_ ?_
    · intro acc h1
      rw [s_l22List_L3_eq, if_neg (by simp [len_eq])]
      split <;> simp [Lib.join_nil, Lib.joinTail]
    · intro i y l _ hlt hy hi hw ih acc h1
      have e2 : Lib.lens ((y :: l).map TGen.text) = y.text.length + Lib.lens (l.map TGen.text) := by simp [Lib.lens]
      rw [e2] at h1
      simp only [List.length_cons] at h1
      rw [s_l22List_L3_eq, hi, hw, if_pos (by simp [len_eq, hlt])]
      simp only [Option.bind_some, hk y hy]
      by_cases c : i = 0
      · rw [if_neg (by simp [c]), if_pos c, app_of (by omega)]
        simp only [Option.bind_some]
        rw [ih _ (by simp; omega), if_neg (by omega)]
        simp [Lib.join_cons]
      · rw [if_pos (by simp; omega), if_neg c, app_of (by simp; omega)]
        simp only [Option.bind_some]
        rw [app_of (by simp; omega)]
        simp only [Option.bind_some]
        rw [ih _ (by simp; omega), if_neg (by omega)]
        simp [Lib.joinTail]
  have := key [] (by simp; omega)
  simpa using this

theorem s_l22Print_ok : ∀ x : TGen, x.good = true → x.n ≤ 100000 → s_l22Print x.fKind x.fNum x.fText x.fValue.fKind x.fValue.fNum x.fValue.fText x.fValue.fRef x.fKids = some x.text := by
  intro x
  induction x using TGen.ind with
  | h x ih =>
    intro hg hn60
    have hn := x.n_eq
    rw [x.good_eq, Bool.and_eq_true_iff] at hg
    obtain ⟨hnode, hk⟩ := hg
    rw [List.all_eq_true] at hk
    have kid : ∀ y ∈ x.fKids, s_l22Print y.fKind y.fNum y.fText y.fValue.fKind y.fValue.fNum y.fValue.fText y.fValue.fRef y.fKids = some y.text := fun y hy => by
      have h1 := sumOf_mem (m := TGen.n) hy
      exact ih y hy (hk y hy) (by omega)
    obtain ⟨h1, h2, h3, h4, h5, h6⟩ := gNode_parts hnode
    have hkl := gKids_le x.fKind
    have hl := lens_sumG x.fKids 2600 (fun y hy => y.text_len (hk y hy))
    have gw := gWord_len x.fKind
    have hL := s_l22List_ok x.fKids (by omega) kid (by omega)
    have hj := join_len_leG (x.fKids.map TGen.text)
    rw [List.length_map] at hj
    have jc : ∀ (a : List UInt8), x.fKids ≠ [] → Lib.join (a :: x.fKids.map TGen.text) [44] = a ++ [44] ++ Lib.join (x.fKids.map TGen.text) [44] := by
      intro a hne
      cases hks : x.fKids with
      | nil => exact absurd hks hne
      | cons y r => simp [Lib.join_cons, Lib.joinTail]
    have kne : x.fKind = 6 ∨ x.fKind = 16 ∨ x.fKind = 17 → x.fKids ≠ [] := by
      intro h e
      rw [e] at h6
      unfold gKids at h6
      rcases h with h | h | h <;> rw [h] at h6 <;> simp at h6
    rw [s_l22Print_eq, x.text_eq, hL, s_l22Words_eq]
    have ev : TValue.mk x.fValue.fKind x.fValue.fNum x.fValue.fText x.fValue.fRef = x.fValue := rfl
    simp only [Option.bind_some, beq_iff_eq, ev, genNames_at h1 h2, s_ValueText_ok]
    unfold gBody gExtra gHead
    by_cases c1 : x.fKind = 1
    · rw [if_pos c1, if_pos c1, h5 c1]; rfl
    rw [if_neg c1, if_neg c1]
    by_cases c2 : x.fKind = 2
    · rw [if_pos c2, if_pos c2]
    rw [if_neg c2, if_neg c2]
    by_cases c11 : x.fKind = 11
    · rw [if_pos c11, if_pos c11, if_neg (by omega), if_neg (by omega), app_of (by simp; omega)]
      simp only [Option.bind_some]
      rw [app_of (by simp; omega)]
      simp only [Option.bind_some]
      rw [app_of (by simp; omega)]
      simp
    rw [if_neg c11, if_neg c11]
    by_cases c6 : x.fKind = 6
    · have h3 := h3 c6
      have hi := itoa_len (n := x.fNum) (by omega) (by omega)
      have gw6 : gWord x.fKind = [108, 105, 109, 105, 116] := by rw [c6]; rfl
      rw [if_pos c6, if_pos c6, s_l06Digits_ok (by omega) (by omega), gw6]
      simp only [Option.bind_some]
      rw [app_of (by simp; omega)]
      simp only [Option.bind_some]
      rw [app_of (by simp; omega)]
      simp only [Option.bind_some]
      rw [app_of (by simp; omega)]
      simp only [Option.bind_some]
      rw [app_of (by simp; omega), List.singleton_append, jc _ (kne (.inl c6))]
      simp
    rw [if_neg c6, if_neg c6]
    rw [app_of (xs := gWord x.fKind) (by simp; omega)]
    simp only [Option.bind_some]
    rw [app_of (ys := x.fText) (by simp; omega)]
    simp only [Option.bind_some]
    rw [app_of (xs := gWord x.fKind ++ [40] ++ x.fText) (by simp; omega)]
    simp only [Option.bind_some]
    rw [app_of (xs := gWord x.fKind ++ [40] ++ x.fText ++ [44]) (by simp; omega)]
    simp only [Option.bind_some]
    rw [app_of (xs := gWord x.fKind ++ [40] ++ x.fText ++ [44] ++ Lib.join (x.fKids.map TGen.text) [44]) (by simp; omega)]
    rw [app_of (xs := gWord x.fKind ++ [40]) (ys := Lib.join (x.fKids.map TGen.text) [44]) (by simp; omega)]
    simp only [Option.bind_some]
    rw [app_of (xs := gWord x.fKind ++ [40] ++ Lib.join (x.fKids.map TGen.text) [44]) (by simp; omega)]
    by_cases c16 : x.fKind = 16
    · rw [if_pos c16, if_pos (.inl c16), List.singleton_append, jc _ (kne (.inr (.inl c16)))]
      simp
    by_cases c17 : x.fKind = 17
    · rw [if_neg c16, if_pos c17, if_pos (.inr c17), List.singleton_append, jc _ (kne (.inr (.inr c17)))]
      simp
    rw [if_neg c16, if_neg c17, if_neg (by omega)]
    simp

theorem i_GenText_ok {x : TGen} (hm : x.m ≤ 1048576) : i_GenText x = some (if x.valid = true then x.text else []) := by
  rw [i_GenText_eq]
  simp only [TGen.re_eq, TValue.re_eq, i_ValidGen_ok hm, Option.bind_some]
  cases h : x.valid
  · rfl
  · unfold TGen.valid at h
    rw [Bool.and_eq_true_iff, decide_eq_true_eq] at h
    rw [i_Gen_text_ok x h.1 (by omega)]
    rfl

theorem s_GenText_ok {x : TGen} (hm : x.m ≤ 1048576) : s_GenText x = some (if x.valid = true then x.text else []) := by
  rw [s_GenText_eq, s_l22Ok_ok hm]
  simp only [Option.bind_some]
  cases h : x.valid
  · rfl
  · unfold TGen.valid at h
    rw [Bool.and_eq_true_iff, decide_eq_true_eq] at h
    rw [s_l22Print_ok x h.1 (by omega)]
    rfl

theorem l_FnExactGenText_ok {x : TGen} (hok : x.Ok) : l_FnExactGenText x = some true := by
  rw [l_FnExactGenText_eq]
  simp only [TGen.re_eq, TValue.re_eq, szGen_ok x hok 1048576 (by decide) (by decide), Option.bind_some]
  by_cases c : minus 1048576 x.m < 0
  · simp [c]
  · have hm : x.m ≤ 1048576 := by have := minus_le c; omega
    simp only [c, decide_false, Bool.false_eq_true, if_false, toGen_ok x hm, s_GenText_ok hm, i_GenText_ok hm, eqGen_ok x hm, Option.bind_some]
    simp

end Go.Dv.U
