/- Plain laws about these equations. -/
import Derived.Test.YtpafmohohdfkgaaDoorFnExactPrintExprEqa
set_option linter.all false
set_option linter.unusedVariables false
set_option linter.unusedSimpArgs false
namespace Go.Dv.U

open Go Go.Dv Go.Proofs

theorem TExpr.ind {P : TExpr → Prop} (h : ∀ x, (∀ y ∈ x.fKids, P y) → P x) : ∀ x, P x := by
  intro x
  exact TExpr.rec (motive_1 := P) (motive_2 := fun l => ∀ y ∈ l, P y) (fun a0 a1 a2 a3 ih => h ⟨a0, a1, a2, a3⟩ ih) (fun y hy => by cases hy)
    (fun a l ha hl y hy => by
      cases hy with
      | head => exact ha
      | tail _ hy => exact hl y hy) x

inductive TExpr.Ok : TExpr → Prop
  | mk (x : TExpr) (h0 : (-9223372036854775808 ≤ x.fKind ∧ x.fKind ≤ 9223372036854775807) ∧ (-9223372036854775808 ≤ x.fNum ∧ x.fNum ≤ 9223372036854775807) ∧ x.fText.length ≤ 9223372036854775807 ∧ x.fKids.length ≤ 9223372036854775807) (h1 : ∀ y ∈ x.fKids, TExpr.Ok y) : TExpr.Ok x

theorem TExpr.Ok.P_fText {x : TExpr} (h : x.Ok) : x.fText.length ≤ 9223372036854775807 := by cases h with | mk _ h0 h1 => exact h0.2.2.1

theorem TExpr.Ok.P_fKids_len {x : TExpr} (h : x.Ok) : x.fKids.length ≤ 9223372036854775807 := by cases h with | mk _ h0 h1 => exact h0.2.2.2

theorem TExpr.Ok.P_fKids {x : TExpr} (h : x.Ok) : ∀ y ∈ x.fKids, y.Ok := by cases h with | mk _ h0 h1 => exact h1

theorem TExpr.ok_cells : ∀ x : TExpr, (∀ c ∈ GG.cells 23 x, ∀ k, WfV GG k c) → x.Ok := by
  intro x
  induction x using TExpr.ind with
  | h x ih =>
    intro h
    have h : ∀ c ∈ ([.int .i64 x.fKind, .int .i64 x.fNum, .str x.fText, .sl (.st 23) x.fKids] : List (V GG.S)), ∀ k, WfV GG k c := h
    exact .mk x ⟨wfv_int (h (.int .i64 x.fKind) (by simp) 1), wfv_int (h (.int .i64 x.fNum) (by simp) 1), wfv_str (h (.str x.fText) (by simp) 1), (wfv_sl (h (.sl (.st 23) x.fKids) (by simp))).1⟩ fun y hy => ih y hy ((wfv_sl (h (.sl (.st 23) x.fKids) (by simp))).2 y hy)

theorem TExpr.ok_of {x : TExpr} (h : ∀ k, WfV GG k (inj GG (.st 23) x)) : x.Ok := TExpr.ok_cells x (wfv_st h)

mutual
def TExpr.m : TExpr → Nat
  | ⟨_, _, a2, a3⟩ => a2.length + (a3.length + TExpr.ms a3)
def TExpr.ms : List TExpr → Nat
  | [] => 0
  | y :: r => TExpr.m y + TExpr.ms r
end

theorem TExpr.ms_eq : ∀ l, TExpr.ms l = sumOf TExpr.m l
  | [] => rfl
  | y :: r => by simp only [TExpr.ms, sumOf, TExpr.ms_eq r]

theorem TExpr.m_eq (x : TExpr) : x.m = x.fText.length + (x.fKids.length + sumOf TExpr.m x.fKids) := by
  rw [← TExpr.ms_eq]; cases x; rfl

theorem TExpr.m_kid {x y : TExpr} (h : y ∈ x.fKids) : y.m + x.fKids.length ≤ x.m := by
  have := sumOf_mem (m := TExpr.m) h
  rw [TExpr.m_eq x]; omega

theorem szExprS_of {xs : (List TExpr)} (hx : xs.length ≤ 9223372036854775807)
    (hF : ∀ y ∈ xs, ∀ b : Int, 0 ≤ b → b < 4611686018427387904 → l_szExpr y b = some (minus b (TExpr.m y))) {b : Int} (h0 : 0 ≤ b) (h1 : b < 4611686018427387904) :
    l_szExprS xs b = some (minus b (xs.length + sumOf TExpr.m xs)) := by
  rw [l_szExprS_eq]
  obtain ⟨e1, e2⟩ := minus_len (l := xs) h0 h1 hx
  by_cases c : minus b xs.length < 0
  · simp only [e1.2 c, decide_true, if_true, minus_neg c]
  · rw [if_neg (by simpa using fun h => c (e1.1 h)), e2 c, sz_loop hx (J := l_szExprS_L5) (F := l_szExpr) (m := TExpr.m) (fun b i => by rw [l_szExprS_L5_eq]; try simp only [TExpr.re_eq, TPattern.re_eq, TValue.re_eq, TGen.re_eq]) hF _ (minus_nonneg c) (minus_lt (by omega) h1), minus_minus c]

theorem toExprS_of {xs : (List TExpr)} (hx : xs.length ≤ 68719476736) (hF : ∀ y ∈ xs, l_toExpr y = some y) : l_toExprS xs = some xs := by
  rw [l_toExprS_eq, mk_len _ _ hx]
  simp only [Option.bind_some]
  exact to_loop (by omega) (J := l_toExprS_L3) (F := l_toExpr) (fun i zs => by rw [l_toExprS_L3_eq]; try simp only [TExpr.re_eq, TPattern.re_eq, TValue.re_eq, TGen.re_eq]) hF _ (by simp)

theorem eqExprS_of {xs : (List TExpr)} (hx : xs.length ≤ 9223372036854775807) (hF : ∀ y ∈ xs, l_eqExpr y y = some true) : l_eqExprS xs xs = some true := by
  rw [l_eqExprS_eq]
  simp only [bne_self_eq_false, Bool.false_eq_true, if_false]
  exact eq_loop (by omega) (J := l_eqExprS_L4) (F := l_eqExpr) (fun i => by rw [l_eqExprS_L4_eq]; try simp only [TExpr.re_eq, TPattern.re_eq, TValue.re_eq, TGen.re_eq]) hF

theorem szExpr_ok : ∀ x : TExpr, x.Ok → ∀ b : Int, 0 ≤ b → b < 4611686018427387904 → l_szExpr x b = some (minus b x.m) := by
  intro x
  induction x using TExpr.ind with
  | h x ih =>
    intro hok b h0 h1
    rw [l_szExpr_eq]
    try simp only [TExpr.re_eq, TPattern.re_eq, TValue.re_eq, TGen.re_eq]
    -- fText
    obtain ⟨e1, e2⟩ := minus_len (b := b) (l := x.fText) h0 h1 hok.P_fText
    by_cases c0 : minus b (x.fText.length) < 0
    · simp only [e1.2 c0, decide_true, if_true]
      rw [minus_neg_le c0 (by rw [TExpr.m_eq]; omega)]
    have e3 := mt e1.1 c0
    simp only [e3, e2 c0, c0, decide_false, Bool.false_eq_true, if_false]
    -- fKids
    rw [szExprS_of hok.P_fKids_len (fun y hy b h0 h1 => ih y hy (hok.P_fKids y hy) b h0 h1) (minus_nonneg c0) (minus_lt (by omega) h1)]
    simp only [Option.bind_some]
    simp only [minus_minus c0]
    by_cases c1 : minus b (x.fText.length + (x.fKids.length + sumOf TExpr.m x.fKids)) < 0
    · simp only [c1, decide_true, if_true]
      rw [minus_neg_le c1 (by rw [TExpr.m_eq]; omega)]
    simp only [c1, decide_false, Bool.false_eq_true, if_false]
    try rw [TExpr.m_eq]

theorem toExpr_ok : ∀ x : TExpr, x.m ≤ 1048576 → l_toExpr x = some x := by
  intro x
  induction x using TExpr.ind with
  | h x ih =>
    intro hm
    have hq := x.m_eq
    rw [l_toExpr_eq]
    try simp only [TExpr.re_eq, TPattern.re_eq, TValue.re_eq, TGen.re_eq]
    rw [toExprS_of (xs := x.fKids) (by omega) fun y hy => ih y hy (by have := TExpr.m_kid hy; omega)]
    simp only [Option.bind_some]
    try simp only [TExpr.eta, TExpr.re_eq, TPattern.re_eq, TValue.re_eq, TGen.re_eq]

theorem eqExpr_ok : ∀ x : TExpr, x.m ≤ 1048576 → l_eqExpr x x = some true := by
  intro x
  induction x using TExpr.ind with
  | h x ih =>
    intro hm
    have hq := x.m_eq
    rw [l_eqExpr_eq]
    try simp only [TExpr.re_eq, TPattern.re_eq, TValue.re_eq, TGen.re_eq]
    rw [eqExprS_of (xs := x.fKids) (by omega) fun y hy => ih y hy (by have := TExpr.m_kid hy; omega)]
    simp

theorem TPattern.ind {P : TPattern → Prop} (h : ∀ x, (∀ y ∈ x.fKids, P y) → P x) : ∀ x, P x := by
  intro x
  exact TPattern.rec (motive_1 := P) (motive_2 := fun l => ∀ y ∈ l, P y) (fun a0 a1 a2 a3 ih => h ⟨a0, a1, a2, a3⟩ ih) (fun y hy => by cases hy)
    (fun a l ha hl y hy => by
      cases hy with
      | head => exact ha
      | tail _ hy => exact hl y hy) x

inductive TPattern.Ok : TPattern → Prop
  | mk (x : TPattern) (h0 : (-9223372036854775808 ≤ x.fKind ∧ x.fKind ≤ 9223372036854775807) ∧ (-9223372036854775808 ≤ x.fNum ∧ x.fNum ≤ 9223372036854775807) ∧ x.fText.length ≤ 9223372036854775807 ∧ x.fKids.length ≤ 9223372036854775807) (h1 : ∀ y ∈ x.fKids, TPattern.Ok y) : TPattern.Ok x

theorem TPattern.Ok.P_fText {x : TPattern} (h : x.Ok) : x.fText.length ≤ 9223372036854775807 := by cases h with | mk _ h0 h1 => exact h0.2.2.1

theorem TPattern.Ok.P_fKids_len {x : TPattern} (h : x.Ok) : x.fKids.length ≤ 9223372036854775807 := by cases h with | mk _ h0 h1 => exact h0.2.2.2

theorem TPattern.Ok.P_fKids {x : TPattern} (h : x.Ok) : ∀ y ∈ x.fKids, y.Ok := by cases h with | mk _ h0 h1 => exact h1

theorem TPattern.ok_cells : ∀ x : TPattern, (∀ c ∈ GG.cells 34 x, ∀ k, WfV GG k c) → x.Ok := by
  intro x
  induction x using TPattern.ind with
  | h x ih =>
    intro h
    have h : ∀ c ∈ ([.int .i64 x.fKind, .int .i64 x.fNum, .str x.fText, .sl (.st 34) x.fKids] : List (V GG.S)), ∀ k, WfV GG k c := h
    exact .mk x ⟨wfv_int (h (.int .i64 x.fKind) (by simp) 1), wfv_int (h (.int .i64 x.fNum) (by simp) 1), wfv_str (h (.str x.fText) (by simp) 1), (wfv_sl (h (.sl (.st 34) x.fKids) (by simp))).1⟩ fun y hy => ih y hy ((wfv_sl (h (.sl (.st 34) x.fKids) (by simp))).2 y hy)

theorem TPattern.ok_of {x : TPattern} (h : ∀ k, WfV GG k (inj GG (.st 34) x)) : x.Ok := TPattern.ok_cells x (wfv_st h)

mutual
def TPattern.m : TPattern → Nat
  | ⟨_, _, a2, a3⟩ => a2.length + (a3.length + TPattern.ms a3)
def TPattern.ms : List TPattern → Nat
  | [] => 0
  | y :: r => TPattern.m y + TPattern.ms r
end

theorem TPattern.ms_eq : ∀ l, TPattern.ms l = sumOf TPattern.m l
  | [] => rfl
  | y :: r => by simp only [TPattern.ms, sumOf, TPattern.ms_eq r]

theorem TPattern.m_eq (x : TPattern) : x.m = x.fText.length + (x.fKids.length + sumOf TPattern.m x.fKids) := by
  rw [← TPattern.ms_eq]; cases x; rfl

theorem TPattern.m_kid {x y : TPattern} (h : y ∈ x.fKids) : y.m + x.fKids.length ≤ x.m := by
  have := sumOf_mem (m := TPattern.m) h
  rw [TPattern.m_eq x]; omega

structure TValue.Ok (x : TValue) : Prop where
  P_fKind : (-9223372036854775808 ≤ x.fKind ∧ x.fKind ≤ 9223372036854775807)
  P_fNum : (-9223372036854775808 ≤ x.fNum ∧ x.fNum ≤ 9223372036854775807)
  P_fText : x.fText.length ≤ 9223372036854775807
  P_fRef : (-9223372036854775808 ≤ x.fRef ∧ x.fRef ≤ 9223372036854775807)

theorem TValue.ok_cells (x : TValue) (h : ∀ c ∈ GG.cells 44 x, ∀ k, WfV GG k c) : x.Ok := by
  have h : ∀ c ∈ ([.int .i64 x.fKind, .int .i64 x.fNum, .str x.fText, .int .i64 x.fRef] : List (V GG.S)), ∀ k, WfV GG k c := h
  exact ⟨wfv_int (h (.int .i64 x.fKind) (by simp) 1), wfv_int (h (.int .i64 x.fNum) (by simp) 1), wfv_str (h (.str x.fText) (by simp) 1), wfv_int (h (.int .i64 x.fRef) (by simp) 1)⟩

theorem TValue.ok_of {x : TValue} (h : ∀ k, WfV GG k (inj GG (.st 44) x)) : x.Ok := TValue.ok_cells x (wfv_st h)

def TValue.m (x : TValue) : Nat := x.fText.length

theorem TValue.m_eq (x : TValue) : x.m = x.fText.length := rfl

theorem TGen.ind {P : TGen → Prop} (h : ∀ x, (∀ y ∈ x.fKids, P y) → P x) : ∀ x, P x := by
  intro x
  exact TGen.rec (motive_1 := P) (motive_2 := fun l => ∀ y ∈ l, P y) (fun a0 a1 a2 a3 a4 ih => h ⟨a0, a1, a2, a3, a4⟩ ih) (fun y hy => by cases hy)
    (fun a l ha hl y hy => by
      cases hy with
      | head => exact ha
      | tail _ hy => exact hl y hy) x

inductive TGen.Ok : TGen → Prop
  | mk (x : TGen) (h0 : (-9223372036854775808 ≤ x.fKind ∧ x.fKind ≤ 9223372036854775807) ∧ (-9223372036854775808 ≤ x.fNum ∧ x.fNum ≤ 9223372036854775807) ∧ x.fText.length ≤ 9223372036854775807 ∧ TValue.Ok x.fValue ∧ x.fKids.length ≤ 9223372036854775807) (h1 : ∀ y ∈ x.fKids, TGen.Ok y) : TGen.Ok x

theorem TGen.Ok.P_fText {x : TGen} (h : x.Ok) : x.fText.length ≤ 9223372036854775807 := by cases h with | mk _ h0 h1 => exact h0.2.2.1

theorem TGen.Ok.P_fKids_len {x : TGen} (h : x.Ok) : x.fKids.length ≤ 9223372036854775807 := by cases h with | mk _ h0 h1 => exact h0.2.2.2.2

theorem TGen.Ok.P_fKids {x : TGen} (h : x.Ok) : ∀ y ∈ x.fKids, y.Ok := by cases h with | mk _ h0 h1 => exact h1

theorem TGen.ok_cells : ∀ x : TGen, (∀ c ∈ GG.cells 51 x, ∀ k, WfV GG k c) → x.Ok := by
  intro x
  induction x using TGen.ind with
  | h x ih =>
    intro h
    have h : ∀ c ∈ ([.int .i64 x.fKind, .int .i64 x.fNum, .str x.fText, .int .i64 x.fValue.fKind, .int .i64 x.fValue.fNum, .str x.fValue.fText, .int .i64 x.fValue.fRef, .sl (.st 51) x.fKids] : List (V GG.S)), ∀ k, WfV GG k c := h
    have h_fValue : ∀ c ∈ ([.int .i64 x.fValue.fKind, .int .i64 x.fValue.fNum, .str x.fValue.fText, .int .i64 x.fValue.fRef] : List (V GG.S)), ∀ k, WfV GG k c := fun c hc => h c (by simp only [List.mem_cons, List.not_mem_nil, or_false] at hc ⊢; rcases hc with rfl | rfl | rfl | rfl <;> simp)
    exact .mk x ⟨wfv_int (h (.int .i64 x.fKind) (by simp) 1), wfv_int (h (.int .i64 x.fNum) (by simp) 1), wfv_str (h (.str x.fText) (by simp) 1), TValue.ok_cells _ h_fValue, (wfv_sl (h (.sl (.st 51) x.fKids) (by simp))).1⟩ fun y hy => ih y hy ((wfv_sl (h (.sl (.st 51) x.fKids) (by simp))).2 y hy)

theorem TGen.ok_of {x : TGen} (h : ∀ k, WfV GG k (inj GG (.st 51) x)) : x.Ok := TGen.ok_cells x (wfv_st h)

mutual
def TGen.m : TGen → Nat
  | ⟨_, _, a2, a3, a4⟩ => a2.length + TValue.m a3 + (a4.length + TGen.ms a4)
def TGen.ms : List TGen → Nat
  | [] => 0
  | y :: r => TGen.m y + TGen.ms r
end

theorem TGen.ms_eq : ∀ l, TGen.ms l = sumOf TGen.m l
  | [] => rfl
  | y :: r => by simp only [TGen.ms, sumOf, TGen.ms_eq r]

theorem TGen.m_eq (x : TGen) : x.m = x.fText.length + TValue.m x.fValue + (x.fKids.length + sumOf TGen.m x.fKids) := by
  rw [← TGen.ms_eq]; cases x; rfl

theorem TGen.m_kid {x y : TGen} (h : y ∈ x.fKids) : y.m + x.fKids.length ≤ x.m := by
  have := sumOf_mem (m := TGen.m) h
  rw [TGen.m_eq x]; omega

end Go.Dv.U

namespace Go.Dv.U

open Go Go.Dv Go.Proofs

theorem i_within_ok (a b c : Int) : i_within a b c = some (decide (b ≤ a) && decide (a ≤ c)) := by
  rw [i_within_eq]; grind

theorem s_l00In_ok (a b c : Int) : s_l00In a b c = some (decide (b ≤ a) && decide (a ≤ c)) := by
  rw [s_l00In_eq]; grind

end Go.Dv.U

namespace Go.Dv.U

open Go Go.Dv Go.Proofs

def isLet (b : Int) : Bool := (decide (65 ≤ b) && decide (b ≤ 90)) || (decide (97 ≤ b) && decide (b ≤ 122))

def isDig (b : Int) : Bool := decide (48 ≤ b) && decide (b ≤ 57)

def isNmB (b : Int) : Bool := isLet b || isDig b || b == 95

theorem i_isLetter_ok (b : Int) : i_isLetter b = some (isLet b) := by
  rw [i_isLetter_eq]; unfold isLet; grind

theorem s_l02Letter_ok (b : Int) : s_l02Letter b = some (isLet b) := by
  rw [s_l02Letter_eq]; unfold isLet; grind

theorem i_isDigit_ok (b : Int) : i_isDigit b = some (isDig b) := by
  rw [i_isDigit_eq]; unfold isDig; grind

theorem s_l02Digit_ok (b : Int) : s_l02Digit b = some (isDig b) := by
  rw [s_l02Digit_eq]; unfold isDig; grind

theorem i_isNameByte_ok (b : Int) : i_isNameByte b = some (isNmB b) := by
  rw [i_isNameByte_eq, i_isLetter_ok, i_isDigit_ok]; unfold isNmB
  simp only [Option.bind_some]; grind

/-- a name -/
def isName (s : List UInt8) : Bool := match s with
  | [] => false
  | b :: _ => decide (s.length ≤ 12) && isLet (ib b) && s.all fun c => isNmB (ib c)

theorem i_areAllNm_ok {s : List UInt8} (h : s.length ≤ 9223372036854775807) : i_areAll_byte__i_isNameByte (s.map ib) = some (s.all fun c => isNmB (ib c)) := by
  rw [i_areAll_byte__i_isNameByte_eq]
  have := all_loop (xs := s.map ib) (by simpa using h) (F := i_isNameByte) (p := isNmB) (J := i_areAll_byte_L2__i_isNameByte (s.map ib) (len (s.map ib))) (fun i => by rw [i_areAll_byte_L2__i_isNameByte_eq]) (fun y _ => i_isNameByte_ok y)
  rw [this, List.all_map]
  rfl

theorem i_IsName_ok {s : List UInt8} : i_IsName s = some (isName s) := by
  rw [i_IsName_eq]
  cases s with
  | nil => simp [isName, len_eq]
  | cons b r =>
    by_cases h : (b :: r).length ≤ 12
    · have h1 : decide (len (b :: r) ≥ 1) = true := by simp only [len_eq, List.length_cons, decide_eq_true_eq]; omega
      have h2 : decide (len (b :: r) ≤ 12) = true := by simp only [len_eq, decide_eq_true_eq]; omega
      rw [if_pos h1, if_pos h2, idx_zero]
      simp only [List.getElem?_cons_zero, Option.bind_some, i_isLetter_ok]
      have := i_areAllNm_ok (s := b :: r) (by omega)
      simp only [List.map_cons] at this ⊢
      rw [this]
      simp only [isName, h, decide_true, Bool.true_and, Option.bind_some]
      cases isLet (ib b) <;> simp
    · have h2 : ¬ decide (len (b :: r) ≤ 12) = true := by simp only [len_eq, decide_eq_true_eq]; omega
      rw [if_neg h2]
      simp only [isName, h, decide_false, Bool.false_and]
      split <;> rfl

/-- how many bytes from the start on belong to a name -/
def nmRun : List UInt8 → Nat
  | [] => 0
  | b :: r => if isNmB (ib b) then nmRun r + 1 else 0

theorem nmRun_all : ∀ s, nmRun s = s.length ↔ (s.all fun c => isNmB (ib c)) = true
  | [] => by simp [nmRun]
  | b :: r => by
    have := nmRun_all r
    simp only [nmRun, List.length_cons, List.all_cons, Bool.and_eq_true]
    cases isNmB (ib b)
    · simp
    · simp [this]

theorem s_l02NameEnd_L3_ok {s : List UInt8} (h : s.length ≤ 9223372036854775807) : ∀ (n i : Nat), i + n = s.length → s_l02NameEnd_L3 s i = some ((i + nmRun (s.drop i) : Nat) : Int) := by
  intro n
  induction n with
  | zero =>
    intro i hi
    have : i = s.length := by omega
    subst this
    rw [s_l02NameEnd_L3_eq, s_l02NameEnd_L5_eq, List.drop_length]
    simp [len_eq, nmRun]
  | succ n ih =>
    intro i hi
    have hlt : i < s.length := by omega
    have hc : decide ((i : Int) < len s) = true := by simp [len_eq, hlt]
    rw [s_l02NameEnd_L3_eq, if_pos hc, idx_nat, List.getElem?_eq_getElem hlt, List.drop_eq_getElem_cons hlt]
    simp only [Option.bind_some, s_l02Letter_ok, s_l02Digit_ok, s_l02NameEnd_L4_eq, s_l02NameEnd_L5_eq, nmRun]
    have hw : w64 ((i : Int) + 1) = ((i + 1 : Nat) : Int) := by rw [w64_of (by omega) (by omega)]; omega
    rw [hw, ih (i + 1) (by omega)]
    unfold isNmB
    cases isLet (ib s[i]) <;> cases isDig (ib s[i]) <;> cases hb : (ib s[i] == 95) <;> simp <;> omega

theorem s_l02NameEnd_ok {s : List UInt8} (h : s.length ≤ 9223372036854775807) {i : Nat} (hi : i ≤ s.length) :
    s_l02NameEnd s i = some (match s.drop i with
      | [] => (i : Int)
      | b :: r => if isLet (ib b) then ((i + nmRun (b :: r) : Nat) : Int) else i) := by
  rw [s_l02NameEnd_eq]
  by_cases hlt : i < s.length
  · have hc : ¬ decide ((i : Int) ≥ len s) = true := by simp only [len_eq, decide_eq_true_eq]; omega
    rw [if_neg hc, idx_nat, List.getElem?_eq_getElem hlt, List.drop_eq_getElem_cons hlt]
    simp only [Option.bind_some, s_l02Letter_ok]
    rw [s_l02NameEnd_L3_ok h (s.length - i) i (by omega), List.drop_eq_getElem_cons hlt]
    cases isLet (ib s[i]) <;> simp
  · have : i = s.length := by omega
    subst this
    rw [List.drop_length]
    simp [len_eq]

theorem s_IsName_ok {s : List UInt8} : s_IsName s = some (isName s) := by
  rw [s_IsName_eq]
  cases s with
  | nil => simp [isName]
  | cons b r =>
    have h0 : (!(b :: r) == []) = true := rfl
    rw [if_pos h0]
    by_cases h : (b :: r).length ≤ 12
    · have h2 : decide (len (b :: r) ≤ 12) = true := by simp only [len_eq, decide_eq_true_eq]; omega
      have := s_l02NameEnd_ok (s := b :: r) (by omega) (Nat.zero_le _)
      simp only [Int.natCast_zero, List.drop_zero, Nat.zero_add] at this
      rw [if_pos h2, this]
      simp only [isName, h, decide_true, Bool.true_and, Option.bind_some, len_eq]
      congr 1
      rw [Bool.eq_iff_iff, Bool.and_eq_true, ← nmRun_all]
      cases hL : isLet (ib b)
      · simp; omega
      · simp; omega
    · have h2 : ¬ decide (len (b :: r) ≤ 12) = true := by simp only [len_eq, decide_eq_true_eq]; omega
      rw [if_neg h2]
      simp only [isName, h, decide_false, Bool.false_and]

end Go.Dv.U

namespace Go.Dv.U

open Go Go.Dv Go.Proofs

def isPl (b : UInt8) : Bool := decide (32 ≤ ib b) && decide (ib b ≤ 126)

def allPl (s : List UInt8) : Bool := s.all isPl

def hasB (c : Int) (s : List UInt8) : Bool := s.any fun b => ib b == c

theorem i_isPlain_ok (b : Int) : i_isPlain b = some (decide (32 ≤ b) && decide (b ≤ 126)) := by
  rw [i_isPlain_eq]; grind

theorem i_isPlainText_ok {s : List UInt8} (h : s.length ≤ 9223372036854775807) : i_isPlainText s = some (allPl s) := by
  rw [i_isPlainText_eq, i_areAll_byte__i_isPlain_eq]
  have := all_loop (xs := s.map ib) (by simpa using h) (F := i_isPlain) (p := fun b => decide (32 ≤ b) && decide (b ≤ 126)) (J := i_areAll_byte_L2__i_isPlain (s.map ib) (len (s.map ib))) (fun i => by rw [i_areAll_byte_L2__i_isPlain_eq]) (fun y _ => i_isPlain_ok y)
  rw [this, List.all_map]
  rfl

def isPr (x : Bool) (b : UInt8) : Bool := isPl b || (x && ib b == 10)

theorem s_l01Printable_ok' {s : List UInt8} (h : s.length ≤ 9223372036854775807) (x : Bool) : s_l01Printable s x = some (s.all (isPr x)) := by
  rw [s_l01Printable_eq]
  refine loop_ind (xs := s) h (P := fun i l => s_l01Printable_L2 s x i = some (l.all (isPr x))) ?_ ?_
  · rw [s_l01Printable_L2_eq]; simp [len_eq]
  · intro i y l _ hlt hy hi hw ih
    rw [s_l01Printable_L2_eq, hi, if_pos (by simp [len_eq, hlt])]
    simp only [Option.bind_some, s_l01Printable_L5_eq, s_l01Printable_L3_eq, hw, ih, List.all_cons, isPr, isPl]
    by_cases h1 : ib y < 32
    · have h3 : ¬ (32 ≤ ib y) := by omega
      cases x <;> by_cases h2 : ib y = 10 <;> simp [h1, h2, h3]
    · have h3 : 32 ≤ ib y := by omega
      by_cases h2 : ib y > 126
      · have h4 : ¬ (ib y ≤ 126) := by omega
        have h5 : ¬ ib y = 10 := by omega
        cases x <;> simp [h1, h2, h3, h4, h5]
      · have h4 : ib y ≤ 126 := by omega
        cases x <;> simp [h1, h2, h3, h4]

theorem s_l01Printable_ok {s : List UInt8} (h : s.length ≤ 9223372036854775807) : s_l01Printable s false = some (allPl s) := by
  rw [s_l01Printable_ok' h]
  congr 1
  unfold allPl
  congr 1
  funext b
  simp [isPr]

theorem s_l02Holds_ok {s : List UInt8} (h : s.length ≤ 9223372036854775807) (c : Int) : s_l02Holds s c = some (hasB c s) := by
  rw [s_l02Holds_eq]
  exact any_loop h (p := fun b => ib b == c) (J := s_l02Holds_L2 s c) (fun i => by rw [s_l02Holds_L2_eq])

theorem index_one (c : UInt8) : ∀ s : List UInt8, decide (0 ≤ Lib.index s [c]) = hasB (ib c) s
  | [] => by simp [Lib.index, hasB]
  | b :: l => by
    have ih := index_one c l
    have hge := Lib.index_ge l [c]
    unfold Lib.index
    have hp : [c].isPrefixOf (b :: l) = (ib b == ib c) := by
      rw [Bool.eq_iff_iff]
      simp only [List.isPrefixOf, Bool.and_true, beq_iff_eq, ib_inj]
      exact eq_comm
    have hh : hasB (ib c) (b :: l) = (ib b == ib c || hasB (ib c) l) := rfl
    rw [hp, hh, ← ih]
    cases (ib b == ib c)
    · simp only [Bool.false_eq_true, if_false, Bool.false_or]
      split
      · rename_i h; rw [beq_iff_eq] at h; rw [h]
      · rename_i h
        have h : ¬ Lib.index l [c] = -1 := by simpa using h
        rw [Bool.eq_iff_iff, decide_eq_true_eq, decide_eq_true_eq]; omega
    · simp

theorem containsS_one {s : List UInt8} (h : s.length < 4294967281) (c : UInt8) : containsS s [c] = some (hasB (ib c) s) := by
  unfold containsS
  rw [if_pos h, ← index_one]
  rfl

def canQ (s : List UInt8) : Bool := decide (s.length ≤ 200) && allPl s && !(hasB 39 s && hasB 34 s)

def quote (s : List UInt8) : List UInt8 := if canQ s = true then (if hasB 39 s = true then 34 :: s ++ [34] else 39 :: s ++ [39]) else []

theorem c39 (s : List UInt8) (h : s.length ≤ 200) : containsS s [39] = some (hasB 39 s) := containsS_one (by omega) 39

theorem c34 (s : List UInt8) (h : s.length ≤ 200) : containsS s [34] = some (hasB 34 s) := containsS_one (by omega) 34

theorem i_CanQuote_ok (s : List UInt8) : i_CanQuote s = some (canQ s) := by
  rw [i_CanQuote_eq]
  by_cases h : s.length ≤ 200
  · have h1 : decide (len s ≤ 200) = true := by simp only [len_eq, decide_eq_true_eq]; omega
    rw [if_pos h1, i_isPlainText_ok (by omega), c39 s h, c34 s h]
    simp only [Option.bind_some, canQ, h, decide_true, Bool.true_and]
    cases allPl s <;> cases hasB 39 s <;> simp
  · have h1 : ¬ decide (len s ≤ 200) = true := by simp only [len_eq, decide_eq_true_eq]; omega
    rw [if_neg h1]
    simp [canQ, h]

theorem s_CanQuote_ok (s : List UInt8) : s_CanQuote s = some (canQ s) := by
  rw [s_CanQuote_eq]
  by_cases h : s.length ≤ 200
  · have h1 : decide (len s ≤ 200) = true := by simp only [len_eq, decide_eq_true_eq]; omega
    rw [if_pos h1, s_l01Printable_ok (by omega), s_l02Holds_ok (by omega), s_l02Holds_ok (by omega)]
    simp only [Option.bind_some, canQ, h, decide_true, Bool.true_and]
    cases allPl s <;> cases hasB 39 s <;> simp
  · have h1 : ¬ decide (len s ≤ 200) = true := by simp only [len_eq, decide_eq_true_eq]; omega
    rw [if_neg h1]
    simp [canQ, h]

theorem canQ_len {s : List UInt8} (h : canQ s = true) : s.length ≤ 200 := by
  unfold canQ at h
  simp only [Bool.and_eq_true_iff, decide_eq_true_eq] at h
  exact h.1.1

theorem quote_len (s : List UInt8) : (quote s).length ≤ 202 := by
  unfold quote
  split
  · rename_i h
    have := canQ_len h
    split <;> simp <;> omega
  · simp

theorem i_QuoteString_ok (s : List UInt8) : i_QuoteString s = some (quote s) := by
  rw [i_QuoteString_eq, i_CanQuote_ok]
  simp only [Option.bind_some, quote]
  cases h : canQ s
  · rfl
  · have hl := canQ_len h
    simp only [Bool.not_true, Bool.false_eq_true, if_false, if_true, c39 s hl, Option.bind_some]
    rw [app_of (by simp; omega), app_of (by simp; omega)]
    simp only [Option.bind_some]
    rw [app_of (by simp; omega), app_of (by simp; omega)]
    cases hasB 39 s <;> rfl

theorem s_QuoteString_ok (s : List UInt8) : s_QuoteString s = some (quote s) := by
  rw [s_QuoteString_eq, s_CanQuote_ok]
  simp only [Option.bind_some, quote]
  cases h : canQ s
  · rfl
  · have hl := canQ_len h
    simp only [Bool.not_true, Bool.false_eq_true, if_false, if_true, s_l02Holds_ok (show s.length ≤ 9223372036854775807 by omega), Option.bind_some]
    rw [app_of (by simp; omega), app_of (by simp; omega)]
    simp only [Option.bind_some]
    rw [app_of (by simp; omega), app_of (by simp; omega)]
    cases hasB 39 s <;> rfl

/-- numbers -/
theorem nDigits_le : ∀ (k u : Nat), u < 10 ^ (k + 1) → Lib.nDigits u ≤ k + 1
  | 0, u, h => by rw [Lib.nDigits_small (by simpa using h)]; exact Nat.le_refl _
  | k + 1, u, h => by
    by_cases hu : u < 10
    · rw [Lib.nDigits_small hu]; omega
    · rw [Lib.nDigits_big hu]
      have := nDigits_le k (u / 10) (by rw [Nat.div_lt_iff_lt_mul (by decide)]; rw [Nat.pow_succ] at h; exact h)
      omega

theorem digit_byte {r : Int} (h0 : 0 ≤ r) (h1 : r < 10) : UInt8.ofNat (Int.toNat (IntKind.wrap .u8 (w64 (48 + r)))) = UInt8.ofNat (48 + r.toNat) := by
  rw [w64_of (by omega) (by omega)]
  have e2 : IntKind.u8.wrap (48 + r) = 48 + r := by unfold IntKind.wrap; simp [IntKind.bits, IntKind.signed]; omega
  rw [e2]
  congr 1
  omega

theorem rem_ten (u : Nat) : rem (u : Int) 10 = some ((u % 10 : Nat) : Int) := by
  unfold rem
  rw [if_neg (by decide), Int.tmod_eq_emod_of_nonneg (by omega)]
  congr 1

theorem quo_ten {u : Nat} (h : u < 9223372036854775808) : quo .i64 (u : Int) 10 = some ((u / 10 : Nat) : Int) := by
  unfold quo
  rw [if_neg (by decide), Int.tdiv_eq_ediv_of_nonneg (by omega)]
  congr 1
  have : IntKind.i64.wrap ((u : Int) / 10) = w64 ((u : Int) / 10) := rfl
  rw [this, w64_of (by omega) (by omega)]
  omega

theorem s_l02Int_L4_ok : ∀ (k u : Nat) (s : List UInt8), u < 10 ^ (k + 1) → u < 9223372036854775808 → s.length + k + 1 ≤ 1000 → s_l02Int_L4 u s = some (Lib.decDigits u ++ s) := by
  intro k
  induction k with
  | zero =>
    intro u s h h2 hl
    have hu : u < 10 := by simpa using h
    rw [s_l02Int_L4_eq, if_neg (by simp only [decide_eq_true_eq]; omega)]
    simp only [List.map_cons, List.map_nil, digit_byte (r := (u : Int)) (by omega) (by omega), Int.toNat_natCast]
    rw [app_of (by simp; omega)]
    rw [Lib.decDigits_one hu]
    rfl
  | succ k ih =>
    intro u s h h2 hl
    by_cases hu : u < 10
    · rw [s_l02Int_L4_eq, if_neg (by simp only [decide_eq_true_eq]; omega)]
      simp only [List.map_cons, List.map_nil, digit_byte (r := (u : Int)) (by omega) (by omega), Int.toNat_natCast]
      rw [app_of (by simp; omega), Lib.decDigits_one hu]
      rfl
    · rw [s_l02Int_L4_eq, if_pos (by simp only [decide_eq_true_eq]; omega), rem_ten, quo_ten h2]
      simp only [Option.bind_some, List.map_cons, List.map_nil, digit_byte (r := ((u % 10 : Nat) : Int)) (by omega) (by omega), Int.toNat_natCast]
      rw [app_of (by simp; omega)]
      simp only [Option.bind_some]
      rw [ih (u / 10) _ (by rw [Nat.div_lt_iff_lt_mul (by decide)]; rw [Nat.pow_succ] at h; exact h) (by omega) (by simp; omega)]
      have hd : Lib.decDigits u = Lib.decDigits (u / 10) ++ [UInt8.ofNat (48 + u % 10)] := by
        rw [Lib.decDigits, dif_neg hu]
      rw [hd]
      simp

theorem itoa_nat (u : Nat) : Lib.itoa (u : Int) = Lib.decDigits u := by
  unfold Lib.itoa
  rw [if_neg (by omega)]
  rfl

theorem s_l02Int_ok {n : Int} (h0 : 0 ≤ n) (h1 : n < 9223372036854775808) : s_l02Int n = some (Lib.itoa n) := by
  obtain ⟨u, rfl⟩ : ∃ u : Nat, n = u := ⟨n.toNat, by omega⟩
  rw [s_l02Int_eq, if_neg (by simp), s_l02Int_L4_ok 18 u [] (by omega) (by omega) (by decide), itoa_nat]
  simp

theorem i_decimal_ok {n : Int} (h0 : -9223372036854775808 ≤ n) (h1 : n ≤ 9223372036854775807) : i_decimal n = some (Lib.itoa n) := by
  rw [i_decimal_eq]
  unfold itoaS
  rw [if_pos ⟨rfl, h0, h1⟩]
  rfl

theorem itoa_len {n : Int} (h0 : 0 ≤ n) (h1 : n ≤ 1000000000000) : (Lib.itoa n).length ≤ 13 := by
  obtain ⟨u, rfl⟩ : ∃ u : Nat, n = u := ⟨n.toNat, by omega⟩
  rw [itoa_nat, Lib.decDigits_length]
  exact nDigits_le 12 u (by omega)

end Go.Dv.U

namespace Go.Dv.U

open Go Go.Dv Go.Proofs

mutual
def TExpr.n : TExpr → Nat
  | ⟨_, _, _, ks⟩ => 1 + TExpr.ns ks
def TExpr.ns : List TExpr → Nat
  | [] => 0
  | y :: r => TExpr.n y + TExpr.ns r
end

theorem TExpr.ns_eq : ∀ l, TExpr.ns l = sumOf TExpr.n l
  | [] => rfl
  | y :: r => by simp only [TExpr.ns, sumOf, TExpr.ns_eq r]

theorem TExpr.n_eq (x : TExpr) : x.n = 1 + sumOf TExpr.n x.fKids := by
  rw [← TExpr.ns_eq]; cases x; rfl

mutual
def TExpr.all (p : TExpr → Bool) : TExpr → Bool
  | ⟨a, b, c, ks⟩ => p ⟨a, b, c, ks⟩ && TExpr.alls p ks
def TExpr.alls (p : TExpr → Bool) : List TExpr → Bool
  | [] => true
  | y :: r => TExpr.all p y && TExpr.alls p r
end

theorem TExpr.alls_eq (p : TExpr → Bool) : ∀ l, TExpr.alls p l = l.all (TExpr.all p)
  | [] => rfl
  | y :: r => by simp only [TExpr.alls, List.all_cons, TExpr.alls_eq p r]

theorem TExpr.all_eq (p : TExpr → Bool) (x : TExpr) : x.all p = (p x && x.fKids.all (TExpr.all p)) := by
  rw [← TExpr.alls_eq]; cases x; rfl

def eNode (x : TExpr) : Bool :=
  if x.fKind = 1 then x.fKids.length == 0 && x.fNum == 0 && canQ x.fText
  else if x.fKind = 2 then x.fKids.length == 0 && x.fText == [] && (decide (0 ≤ x.fNum) && decide (x.fNum ≤ 1000000000000))
  else if x.fKind = 3 ∨ x.fKind = 16 ∨ x.fKind = 17 ∨ x.fKind = 18 then x.fKids.length == 0 && x.fNum == 0 && isName x.fText
  else if x.fKind = 4 then decide (x.fKids.length ≤ 6) && x.fNum == 0 && isName x.fText
  else x.fNum == 0 && x.fText == [] && (if x.fKind = 12 ∨ x.fKind = 13 then (match x.fKids with | [_, y] => y.fKind == 3 | _ => false)
    else if x.fKind = 14 ∨ x.fKind = 15 then x.fKids.length == 1
    else if 5 ≤ x.fKind ∧ x.fKind ≤ 11 then x.fKids.length == 2 else false)

def TExpr.good (x : TExpr) : Bool := x.all eNode

def TExpr.valid (x : TExpr) : Bool := x.good && decide (x.n ≤ 60)

theorem TExpr.good_eq (x : TExpr) : x.good = (eNode x && x.fKids.all TExpr.good) := TExpr.all_eq _ _

theorem i_isNumber_ok (n : Int) : i_isNumber n = some (decide (0 ≤ n) && decide (n ≤ 1000000000000)) := by
  rw [i_isNumber_eq, i_within_ok]; rfl

theorem i_isNamed_ok (k : Int) : i_isNamed k = some (decide (16 ≤ k) && decide (k ≤ 18)) := by
  rw [i_isNamed_eq, i_within_ok]; rfl

theorem i_isBinary_ok (k : Int) : i_isBinary k = some (decide (6 ≤ k) && decide (k ≤ 13)) := by
  rw [i_isBinary_eq, i_within_ok]; rfl

theorem ek_cases (k : Int) : (k = 1 ∨ k = 2 ∨ k = 3 ∨ k = 4 ∨ k = 5 ∨ k = 6 ∨ k = 7 ∨ k = 8 ∨ k = 9 ∨ k = 10 ∨ k = 11 ∨ k = 12 ∨ k = 13 ∨ k = 14 ∨ k = 15 ∨ k = 16 ∨ k = 17 ∨ k = 18) ∨ (∀ j : Int, 1 ≤ j → j ≤ 18 → ¬ k = j) := by
  by_cases h : 1 ≤ k ∧ k ≤ 18
  · left; omega
  · right; intro j h1 h2 e; omega

theorem i_Expr_hasFields_ok (x : TExpr) : i_Expr_hasFields x = some (eNode x) := by
  obtain ⟨k, n, t, ks⟩ := x
  rw [i_Expr_hasFields_eq]
  simp only [i_CanQuote_ok, i_isNumber_ok, i_isNamed_ok, i_isBinary_ok, i_IsName_ok, i_Expr_hasFields_L11_eq, i_Expr_hasFields_L12_eq, i_Expr_hasFields_L18_eq, i_Expr_hasFields_L19_eq, Option.bind_some, len_eq, idx_one, eNode]
  rcases ek_cases k with hk | hk
  · rcases hk with rfl | rfl | rfl | rfl | rfl | rfl | rfl | rfl | rfl | rfl | rfl | rfl | rfl | rfl | rfl | rfl | rfl | rfl <;> rcases ks with _ | ⟨a, _ | ⟨b, _ | ⟨c, r⟩⟩⟩ <;> simp <;> first | grind | (by_cases hn : n = 0 <;> by_cases hm : isName t = true <;> by_cases hr : r.length ≤ 3 <;> simp [hn, hm, hr] <;> omega)
  · have hr : (decide (16 ≤ k) && decide (k ≤ 18)) = false := by
      by_cases h1 : 16 ≤ k
      · have := hk 16 (by omega) (by omega); have := hk 17 (by omega) (by omega); have := hk 18 (by omega) (by omega)
        have h2 : ¬ k ≤ 18 := by omega
        simp [h2]
      · simp [h1]
    have hr2 : (decide (6 ≤ k) && decide (k ≤ 13)) = false := by
      by_cases h1 : 6 ≤ k
      · have h2 : ¬ k ≤ 13 := fun h2 => hk k (by omega) (by omega) rfl
        simp [h2]
      · simp [h1]
    have hr3 : ¬ (5 ≤ k ∧ k ≤ 11) := fun h => hk k (by omega) (by omega) rfl
    simp only [hk, hr, hr2, hr3, beq_iff_eq, Int.reduceLE, or_self, if_false, Bool.false_eq_true, not_false_eq_true, Bool.and_false, ite_self]

theorem s_l03Shape_ok (x : TExpr) : s_l03Shape x.fKind x.fNum x.fText x.fKids = some (eNode x) := by
  obtain ⟨k, n, t, ks⟩ := x
  rw [s_l03Shape_eq]
  simp only [s_CanQuote_ok, s_l00In_ok, s_IsName_ok, s_l03Shape_L13_eq, s_l03Shape_L14_eq, s_l03Shape_L26_eq, s_l03Shape_L27_eq, s_l03Shape_L31_eq, s_l03Shape_L32_eq, Option.bind_some, len_eq, idx_one, eNode]
  rcases ek_cases k with hk | hk
  · rcases hk with rfl | rfl | rfl | rfl | rfl | rfl | rfl | rfl | rfl | rfl | rfl | rfl | rfl | rfl | rfl | rfl | rfl | rfl <;> rcases ks with _ | ⟨a, _ | ⟨b, _ | ⟨c, r⟩⟩⟩ <;> simp <;> first | grind | (by_cases hn : n = 0 <;> by_cases hm : isName t = true <;> by_cases hr : r.length ≤ 3 <;> simp [hn, hm, hr] <;> omega)
  · have hr3 : ¬ (5 ≤ k ∧ k ≤ 11) := fun h => hk k (by omega) (by omega) rfl
    simp only [hk, hr3, beq_iff_eq, Int.reduceLE, or_self, if_false, Bool.false_eq_true, not_false_eq_true, Bool.and_false, ite_self]

theorem TExpr.n_le_m : ∀ x : TExpr, x.n ≤ x.m + 1 := by
  intro x
  induction x using TExpr.ind with
  | h x ih =>
    rw [x.n_eq, x.m_eq]
    have : ∀ l : List TExpr, (∀ y ∈ l, y.n ≤ y.m + 1) → sumOf TExpr.n l ≤ l.length + sumOf TExpr.m l := by
      intro l
      induction l with
      | nil => intro _; simp [sumOf]
      | cons y r ihr =>
        intro h
        have h1 := h y (by simp)
        have h2 := ihr fun z hz => h z (by simp [hz])
        simp only [sumOf, List.length_cons]; omega
    have := this x.fKids ih
    omega

theorem i_countNodes_ok : ∀ x : TExpr, x.m ≤ 1048576 → ∀ c : Int, 0 ≤ c → c ≤ 60 → i_countNodes x c = some (if x.good = true ∧ c + x.n ≤ 60 then c + x.n else 61) := by
  intro x
  induction x using TExpr.ind with
  | h x ih =>
    intro hm c h0 h1
    have hmq := x.m_eq
    have hn := x.n_eq
    have loop : ∀ c : Int, 0 ≤ c → c ≤ 60 → i_countNodes_L5 c x.fKids (len x.fKids) ((0 : Nat) : Int) = some (if x.fKids.all TExpr.good = true ∧ c + sumOf TExpr.n x.fKids ≤ 60 then c + sumOf TExpr.n x.fKids else 61) := by
      refine loop_ind (xs := x.fKids) (by omega) (P := fun i l => ∀ c : Int, 0 ≤ c → c ≤ 60 → i_countNodes_L5 c x.fKids (len x.fKids) i = some (if l.all TExpr.good = true ∧ c + sumOf TExpr.n l ≤ 60 then c + sumOf TExpr.n l else 61)) ?_ ?_
      · intro c h0 h1
        rw [i_countNodes_L5_eq]
        simp [len_eq, sumOf, h1]
      · intro i y l _ hlt hy hi hw ih2 c h0 h1
        rw [i_countNodes_L5_eq, hi, hw, if_pos (by simp [len_eq, hlt])]
        have hmy := TExpr.m_kid hy
        simp only [Option.bind_some, TExpr.re_eq, ih y hy (by omega) c h0 h1]
        have e : sumOf TExpr.n (y :: l) = y.n + sumOf TExpr.n l := rfl
        rw [e, List.all_cons]
        by_cases hc : y.good = true ∧ c + y.n ≤ 60
        · rw [if_pos hc, if_neg (by simp; omega), ih2 _ (by omega) hc.2]
          congr 1
          by_cases hd : l.all TExpr.good = true ∧ c + y.n + sumOf TExpr.n l ≤ 60
          · rw [if_pos hd, if_pos ⟨Bool.and_eq_true_iff.2 ⟨hc.1, hd.1⟩, by omega⟩]; omega
          · rw [if_neg hd, if_neg fun h => hd ⟨(Bool.and_eq_true_iff.1 h.1).2, by omega⟩]
        · rw [if_neg hc, if_pos (by simp), if_neg fun h => hc ⟨(Bool.and_eq_true_iff.1 h.1).1, by omega⟩]
    have hg := x.good_eq
    rw [i_countNodes_eq, w64_of (by omega) (by omega)]
    by_cases c1 : c + 1 > 60
    · rw [if_pos (by simpa using c1), if_neg (by omega)]
    rw [if_neg (by simpa using c1), TExpr.re_eq, i_Expr_hasFields_ok]
    have := loop (c + 1) (by omega) (by omega)
    simp only [Int.natCast_zero] at this
    rw [this, hg]
    simp only [Option.bind_some]
    cases ha : eNode x
    · simp
    · simp only [Bool.not_true, Bool.false_eq_true, if_false, Bool.true_and]
      congr 1
      by_cases hd : x.fKids.all TExpr.good = true ∧ c + 1 + sumOf TExpr.n x.fKids ≤ 60
      · rw [if_pos hd, if_pos ⟨hd.1, by omega⟩]; omega
      · rw [if_neg hd, if_neg fun h => hd ⟨h.1, by omega⟩]

theorem i_ValidExpr_ok {x : TExpr} (hm : x.m ≤ 1048576) : i_ValidExpr x = some x.valid := by
  rw [i_ValidExpr_eq, TExpr.re_eq, i_countNodes_ok x hm 0 (by omega) (by omega)]
  simp only [Option.bind_some, TExpr.valid]
  congr 1
  by_cases h : x.good = true ∧ (0 : Int) + x.n ≤ 60
  · rw [if_pos h, h.1]; simp; omega
  · rw [if_neg h]
    cases hg : x.good
    · simp
    · simp only [hg, true_and] at h; simp; omega

theorem s_l03Size_ok : ∀ x : TExpr, x.m ≤ 1048576 → ∃ v : Int, s_l03Size x.fKind x.fNum x.fText x.fKids = some v ∧ 1 ≤ v ∧ v ≤ x.n ∧ (v ≤ 60 → v = x.n) := by
  intro x
  induction x using TExpr.ind with
  | h x ih =>
    intro hm
    have hmq := x.m_eq
    have hn := x.n_eq
    have hnm := x.n_le_m
    have loop : ∀ acc : Int, 1 ≤ acc → acc + sumOf TExpr.n x.fKids ≤ 1048577 → ∃ v : Int, s_l03Size_L3 x.fKind x.fNum x.fText x.fKids acc ((0 : Nat) : Int) = some v ∧ acc ≤ v ∧ v ≤ acc + sumOf TExpr.n x.fKids ∧ (v ≤ 60 → v = acc + sumOf TExpr.n x.fKids) := by
      refine loop_ind (xs := x.fKids) (by omega) (P := fun i l => ∀ acc : Int, 1 ≤ acc → acc + sumOf TExpr.n l ≤ 1048577 → ∃ v : Int, s_l03Size_L3 x.fKind x.fNum x.fText x.fKids acc i = some v ∧ acc ≤ v ∧ v ≤ acc + sumOf TExpr.n l ∧ (v ≤ 60 → v = acc + sumOf TExpr.n l)) ?_ ?_
      · intro acc h1 h2
        refine ⟨acc, ?_, Int.le_refl _, by simp [sumOf], by simp [sumOf]⟩
        rw [s_l03Size_L3_eq]
        simp [len_eq]
      · intro i y l _ hlt hy hi hw ih2 acc h1 h2
        have hmy := TExpr.m_kid hy
        have hyn := y.n_eq
        have e : sumOf TExpr.n (y :: l) = y.n + sumOf TExpr.n l := rfl
        rw [e] at h2 ⊢
        by_cases hc : acc ≤ 60
        · obtain ⟨v, hv, v1, v2, v3⟩ := ih y hy (by omega)
          obtain ⟨u, hu, u1, u2, u3⟩ := ih2 (acc + v) (by omega) (by omega)
          refine ⟨u, ?_, by omega, by omega, by omega⟩
          rw [s_l03Size_L3_eq, hi, hw, if_pos (by simp [len_eq, hlt]), if_pos (by simpa using hc)]
          simp only [Option.bind_some, hv]
          rw [w64_of (by omega) (by omega)]
          exact hu
        · refine ⟨acc, ?_, Int.le_refl _, by omega, by omega⟩
          rw [s_l03Size_L3_eq, if_pos (by simp [len_eq, hlt]), if_neg (by simpa using hc)]
    obtain ⟨v, hv, v1, v2, v3⟩ := loop 1 (Int.le_refl _) (by omega)
    refine ⟨v, ?_, v1, by omega, by omega⟩
    rw [s_l03Size_eq]
    exact hv

theorem s_l03Nodes_ok : ∀ x : TExpr, x.m ≤ 1048576 → s_l03Nodes x.fKind x.fNum x.fText x.fKids = some x.good := by
  intro x
  induction x using TExpr.ind with
  | h x ih =>
    intro hm
    have hmq := x.m_eq
    rw [s_l03Nodes_eq, s_l03Shape_ok, x.good_eq]
    have := all_loop (xs := x.fKids) (by omega) (F := fun y => s_l03Nodes y.fKind y.fNum y.fText y.fKids) (p := TExpr.good) (J := s_l03Nodes_L4 x.fKind x.fNum x.fText x.fKids) (fun i => by rw [s_l03Nodes_L4_eq]) (fun y hy => ih y hy (by have := TExpr.m_kid hy; omega))
    rw [this]
    simp only [Option.bind_some]
    cases eNode x <;> simp

theorem s_l03Ok_ok {x : TExpr} (hm : x.m ≤ 1048576) : s_l03Ok x.fKind x.fNum x.fText x.fKids = some x.valid := by
  rw [s_l03Ok_eq]
  obtain ⟨v, hv, v1, v2, v3⟩ := s_l03Size_ok x hm
  rw [hv, s_l03Nodes_ok x hm]
  simp only [Option.bind_some, TExpr.valid]
  by_cases h : v ≤ 60
  · have := v3 h
    rw [if_pos (by simpa using h)]
    have h2 : x.n ≤ 60 := by omega
    simp [h2]
  · rw [if_neg (by simpa using h)]
    have h2 : ¬ x.n ≤ 60 := by omega
    simp [h2]

def eLevel (k : Int) : Int := if k = 6 then 1 else if k = 7 then 2 else if k = 8 ∨ k = 9 then 3 else if k = 10 ∨ k = 11 then 4 else if k = 12 ∨ k = 13 then 5 else if 14 ≤ k ∧ k ≤ 18 then 6 else 7

def eSym (k : Int) : List UInt8 := if k = 6 then [124] else if k = 8 then [43] else if k = 9 then [45] else if k = 10 then [42] else if k = 11 then [47] else if k = 12 then [46] else if k = 13 then [36] else if k = 14 then [45] else if k = 15 then [36] else if k = 16 then [46] else if k = 17 then [42] else if k = 18 then [64] else []

theorem eLevel_rng (k : Int) : 1 ≤ eLevel k ∧ eLevel k ≤ 7 := by unfold eLevel; grind (splits := 60)

theorem eSym_len (k : Int) : (eSym k).length ≤ 1 := by unfold eSym; grind (splits := 60)

theorem i_level_ok (k : Int) : i_level k = some (eLevel k) := by
  rw [i_level_eq, i_level_L11_eq, i_level_L12_eq, i_level_L20_eq, i_level_L21_eq]; unfold eLevel; grind (splits := 60)

theorem s_l03Level_ok (k n : Int) (t : List UInt8) (ks : List TExpr) : s_l03Level k n t ks = some (eLevel k) := by
  rw [s_l03Level_eq, s_l03Level_L11_eq, s_l03Level_L12_eq, s_l03Level_L20_eq, s_l03Level_L21_eq]; unfold eLevel; grind (splits := 60)

theorem i_symbol_ok {k : Int} (h0 : 0 ≤ k) (h1 : k ≤ 18) : i_symbol k = some (eSym k) := by
  rw [i_symbol_eq, idx_of h0]
  have : k = 0 ∨ k = 1 ∨ k = 2 ∨ k = 3 ∨ k = 4 ∨ k = 5 ∨ k = 6 ∨ k = 7 ∨ k = 8 ∨ k = 9 ∨ k = 10 ∨ k = 11 ∨ k = 12 ∨ k = 13 ∨ k = 14 ∨ k = 15 ∨ k = 16 ∨ k = 17 ∨ k = 18 := by omega
  rcases this with rfl | rfl | rfl | rfl | rfl | rfl | rfl | rfl | rfl | rfl | rfl | rfl | rfl | rfl | rfl | rfl | rfl | rfl | rfl <;> rfl

theorem s_l03Sign_ok {k : Int} (h0 : 6 ≤ k) (h1 : k ≤ 13) : s_l03Sign k = some (if k = 7 then [32] else 32 :: eSym k ++ [32]) := by
  rw [s_l03Sign_eq]
  have : k = 6 ∨ k = 7 ∨ k = 8 ∨ k = 9 ∨ k = 10 ∨ k = 11 ∨ k = 12 ∨ k = 13 := by omega
  rcases this with rfl | rfl | rfl | rfl | rfl | rfl | rfl | rfl <;> rfl

def opdT (l : Int) (p : Int × List UInt8) : List UInt8 := if p.1 < l then 40 :: (p.2 ++ [41]) else p.2

theorem opdT_len (l : Int) (p : Int × List UInt8) : (opdT l p).length ≤ p.2.length + 2 := by
  unfold opdT; split <;> simp

def eBody (k n : Int) (t : List UInt8) (ps : List (Int × List UInt8)) : List UInt8 :=
  if k = 1 then quote t else if k = 2 then Lib.itoa n else if k = 3 then t
  else if k = 4 then t ++ [40] ++ Lib.join (ps.map (·.2)) [44] ++ [41]
  else if k = 16 ∨ k = 17 ∨ k = 18 then eSym k ++ t
  else match ps with
    | [a] => eSym k ++ opdT 6 a
    | [a, b] => if k = 5 then opdT 7 a ++ [60] ++ b.2 ++ [62] else if k = 7 then opdT 2 a ++ [32] ++ opdT 3 b else opdT (eLevel k) a ++ [32] ++ eSym k ++ [32] ++ opdT (eLevel k + 1) b
    | _ => []

mutual
def TExpr.text : TExpr → List UInt8
  | ⟨k, n, t, ks⟩ => eBody k n t (TExpr.ptexts ks)
def TExpr.ptexts : List TExpr → List (Int × List UInt8)
  | [] => []
  | y :: r => (eLevel y.fKind, TExpr.text y) :: TExpr.ptexts r
end

theorem TExpr.ptexts_eq : ∀ l, TExpr.ptexts l = l.map fun y => (eLevel y.fKind, TExpr.text y)
  | [] => rfl
  | y :: r => by simp only [TExpr.ptexts, List.map_cons, TExpr.ptexts_eq r]

theorem TExpr.text_eq (x : TExpr) : x.text = eBody x.fKind x.fNum x.fText (x.fKids.map fun y => (eLevel y.fKind, TExpr.text y)) := by
  rw [← TExpr.ptexts_eq]; cases x; rfl

theorem isName_len {s : List UInt8} (h : isName s = true) : s.length ≤ 12 := by
  cases s with
  | nil => simp
  | cons b r =>
    simp only [isName, Bool.and_eq_true_iff, decide_eq_true_eq] at h
    exact h.1.1

theorem lens_sum (l : List TExpr) (C : Nat) (h : ∀ y ∈ l, y.text.length ≤ C * y.n) : Lib.lens (l.map TExpr.text) ≤ C * sumOf TExpr.n l := by
  induction l with
  | nil => simp [Lib.lens, sumOf]
  | cons y r ih =>
    have h1 := h y (by simp)
    have h2 := ih fun z hz => h z (by simp [hz])
    have : Lib.lens ((y :: r).map TExpr.text) = y.text.length + Lib.lens (r.map TExpr.text) := by simp [Lib.lens]
    rw [this]
    simp only [sumOf, Nat.mul_add]; omega

theorem join_len_le (xs : List (List UInt8)) : (Lib.join xs [44]).length ≤ xs.length + Lib.lens xs := by
  cases xs with
  | nil => simp [Lib.join_nil]
  | cons x r => rw [Lib.join_length]; simp

/-- the shapes of a good node -/
theorem eNode_cases {x : TExpr} (h : eNode x = true) : (x.fKind = 1 ∧ x.fKids = [] ∧ canQ x.fText = true) ∨ (x.fKind = 2 ∧ x.fKids = [] ∧ 0 ≤ x.fNum ∧ x.fNum ≤ 1000000000000) ∨
    ((x.fKind = 3 ∨ x.fKind = 16 ∨ x.fKind = 17 ∨ x.fKind = 18) ∧ x.fKids = [] ∧ isName x.fText = true) ∨ (x.fKind = 4 ∧ x.fKids.length ≤ 6 ∧ isName x.fText = true) ∨
    ((x.fKind = 14 ∨ x.fKind = 15) ∧ ∃ a, x.fKids = [a]) ∨ ((5 ≤ x.fKind ∧ x.fKind ≤ 13) ∧ ∃ a b, x.fKids = [a, b]) := by
  obtain ⟨k, n, t, ks⟩ := x
  unfold eNode at h
  rcases ks with _ | ⟨a, _ | ⟨b, _ | ⟨c, r⟩⟩⟩ <;> grind (splits := 60)

theorem TExpr.text_len : ∀ x : TExpr, x.good = true → x.text.length ≤ 250 * x.n := by
  intro x
  induction x using TExpr.ind with
  | h x ih =>
    intro hg
    have hn := x.n_eq
    rw [x.good_eq, Bool.and_eq_true_iff] at hg
    obtain ⟨hnode, hk⟩ := hg
    rw [List.all_eq_true] at hk
    have ih := fun y hy => ih y hy (hk y hy)
    rw [x.text_eq, hn]
    have hs := eSym_len x.fKind
    have l1 : ∀ l a, (opdT l a).length ≤ a.2.length + 2 := opdT_len
    rcases eNode_cases hnode with ⟨h1, h2, h3⟩ | ⟨h1, h2, h3, h4⟩ | ⟨h1, h2, h3⟩ | ⟨h1, h2, h3⟩ | ⟨h1, a, h2⟩ | ⟨h1, a, b, h2⟩
    · have := quote_len x.fText
      simp only [eBody, h1, if_true]; omega
    · have := itoa_len h3 h4
      simp only [eBody, h1, if_true]; simp; omega
    · have := isName_len h3
      unfold eBody
      rcases h1 with h1 | h1 | h1 | h1 <;> rw [h1] at hs ⊢ <;> simp <;> omega
    · have := isName_len h3
      have hj := join_len_le (x.fKids.map TExpr.text)
      have hl := lens_sum x.fKids 250 ih
      rw [List.length_map] at hj
      have e : ((x.fKids.map fun y => (eLevel y.fKind, TExpr.text y)).map (·.2)) = x.fKids.map TExpr.text := by rw [List.map_map]; rfl
      simp only [eBody, h1, e]
      simp only [List.length_append, List.length_cons, List.length_nil, show ¬ ((4 : Int) = 1) by decide, show ¬ ((4 : Int) = 2) by decide, show ¬ ((4 : Int) = 3) by decide, if_false, if_true]
      omega
    · have ha := ih a (by simp [h2])
      have hl := l1 6 (eLevel a.fKind, a.text)
      rw [h2]
      simp only [List.map_cons, List.map_nil, sumOf]
      unfold eBody
      rcases h1 with h1 | h1 <;> rw [h1] at hs ⊢ <;> simp <;> simp at hl <;> omega
    · have ha := ih a (by simp [h2])
      have hb := ih b (by simp [h2])
      have p1 := fun l => l1 l (eLevel a.fKind, a.text)
      have p2 := fun l => l1 l (eLevel b.fKind, b.text)
      have q1 := p1 7
      have q2 := p1 2
      have q3 := p2 3
      have q4 := p1 (eLevel x.fKind)
      have q5 := p2 (eLevel x.fKind + 1)
      rw [h2]
      simp only [List.map_cons, List.map_nil, sumOf]
      unfold eBody
      rw [if_neg (by omega), if_neg (by omega), if_neg (by omega), if_neg (by omega), if_neg (by omega)]
      simp only at q1 q2 q3 q4 q5 ⊢
      split
      · simp only [List.length_append, List.length_cons, List.length_nil]; omega
      · split
        · simp only [List.length_append, List.length_cons, List.length_nil]; omega
        · simp only [List.length_append, List.length_cons, List.length_nil]; omega

theorem i_operand_of {y : TExpr} (l : Int) (h : i_Expr_text y = some y.text) (hl : y.text.length ≤ 1000000000) : i_operand y l = some (opdT l (eLevel y.fKind, y.text)) := by
  rw [i_operand_eq, i_level_ok, TExpr.re_eq, h]
  simp only [Option.bind_some, opdT]
  rw [app_of (by simp; omega)]
  simp only [Option.bind_some]
  rw [app_of (by simp; omega)]
  by_cases hc : eLevel y.fKind < l
  · rw [if_pos (by simpa using hc), if_pos hc]; simp
  · rw [if_neg (by simpa using hc), if_neg hc]

theorem s_l03At_of {y : TExpr} (l : Int) (h : s_l03Print y.fKind y.fNum y.fText y.fKids = some y.text) (hl : y.text.length ≤ 1000000000) : s_l03At y.fKind y.fNum y.fText y.fKids l = some (opdT l (eLevel y.fKind, y.text)) := by
  rw [s_l03At_eq, s_l03Level_ok, h]
  simp only [Option.bind_some, opdT]
  rw [app_of (by simp; omega)]
  simp only [Option.bind_some]
  rw [app_of (by simp; omega)]
  by_cases hc : eLevel y.fKind < l
  · rw [if_pos (by simpa using hc), if_pos hc]; simp
  · rw [if_neg (by simpa using hc), if_neg hc]

theorem i_Expr_text_ok : ∀ x : TExpr, x.good = true → x.n ≤ 1000000 → i_Expr_text x = some x.text := by
  intro x
  induction x using TExpr.ind with
  | h x ih =>
    intro hg hn60
    have hlen := x.text_len hg
    have hn := x.n_eq
    have hg' := hg
    rw [x.good_eq, Bool.and_eq_true_iff] at hg
    obtain ⟨hnode, hk⟩ := hg
    rw [List.all_eq_true] at hk
    have kid : ∀ y ∈ x.fKids, i_Expr_text y = some y.text ∧ y.text.length ≤ 250000000 := fun y hy => by
      have h1 := sumOf_mem (m := TExpr.n) hy
      have h2 := y.text_len (hk y hy)
      exact ⟨ih y hy (hk y hy) (by omega), by omega⟩
    rw [i_Expr_text_eq, i_level_ok]
    simp only [Option.bind_some, i_isNamed_ok]
    have hs := eSym_len x.fKind
    rw [x.text_eq]
    rcases eNode_cases hnode with ⟨h1, h2, h3⟩ | ⟨h1, h2, h3, h4⟩ | ⟨h1, h2, h3⟩ | ⟨h1, h2, h3⟩ | ⟨h1, a, h2⟩ | ⟨h1, a, b, h2⟩
    · simp [h1, eBody, i_QuoteString_ok]
    · simp [h1, eBody, i_decimal_ok (show -9223372036854775808 ≤ x.fNum by omega) (show x.fNum ≤ 9223372036854775807 by omega)]
    · have := isName_len h3
      rcases h1 with h1 | h1 | h1 | h1
      · simp [h1, eBody]
      all_goals
        rw [h1] at hs ⊢
        simp [eBody, i_symbol_ok]
        rw [app_of (by omega)]
    · have hnl := isName_len h3
      have fin : ∀ acc : List (List UInt8), acc.length ≤ 6 → Lib.lens acc ≤ 250000000 → i_Expr_text_L11 x.fKids (len x.fKids) (len x.fKids) x.fKind x.fNum x.fText x.fKids acc = some (x.fText ++ [40] ++ Lib.join acc [44] ++ [41]) := by
        intro acc h1 h2
        have hj := join_len_le acc
        rw [i_Expr_text_L11_eq, if_neg (by simp)]
        rw [app_of (by simp; omega)]
        unfold joinS
        rw [if_pos (by unfold big; omega)]
        simp only [Option.bind_some]
        rw [app_of (by simp; omega)]
        simp only [Option.bind_some]
        rw [app_of (by simp; omega)]
        rfl
      have loop : ∀ acc : List (List UInt8), acc.length + x.fKids.length ≤ 6 → Lib.lens acc + Lib.lens (x.fKids.map TExpr.text) ≤ 250000000 → i_Expr_text_L11 x.fKids (len x.fKids) ((0 : Nat) : Int) x.fKind x.fNum x.fText x.fKids acc = some (x.fText ++ [40] ++ Lib.join (acc ++ x.fKids.map TExpr.text) [44] ++ [41]) := by
        refine loop_ind (xs := x.fKids) (by omega) (P := fun i l => ∀ acc : List (List UInt8), acc.length + l.length ≤ 6 → Lib.lens acc + Lib.lens (l.map TExpr.text) ≤ 250000000 → i_Expr_text_L11 x.fKids (len x.fKids) i x.fKind x.fNum x.fText x.fKids acc = some (x.fText ++ [40] ++ Lib.join (acc ++ l.map TExpr.text) [44] ++ [41])) ?_ ?_
        · intro acc h1 h2
          have := fin acc (by simpa using h1) (by omega)
          rw [len_eq] at this ⊢
          simpa using this
        · intro i y l _ hlt hy hi hw ih2 acc h1 h2
          rw [i_Expr_text_L11_eq, hi, hw, if_pos (by simp [len_eq, hlt])]
          simp only [Option.bind_some, TExpr.re_eq, (kid y hy).1]
          simp only [List.length_cons] at h1
          rw [app_of (by simp; omega)]
          simp only [Option.bind_some]
          have e1 : Lib.lens (acc ++ [y.text]) = Lib.lens acc + y.text.length := by simp [Lib.lens]
          have e2 : Lib.lens ((y :: l).map TExpr.text) = y.text.length + Lib.lens (l.map TExpr.text) := by simp [Lib.lens]
          rw [e2] at h2
          rw [ih2 (acc ++ [y.text]) (by simp; omega) (by rw [e1]; omega)]
          simp
      have hl := lens_sum x.fKids 250 (fun y hy => y.text_len (hk y hy))
      have := loop [] (by simpa using h2) (by simp [Lib.lens] at hl ⊢; omega)
      have e : ((x.fKids.map fun y => (eLevel y.fKind, TExpr.text y)).map (·.2)) = x.fKids.map TExpr.text := by rw [List.map_map]; rfl
      simp only [Int.natCast_zero, List.nil_append] at this
      rw [h1] at this ⊢
      simp only [eBody, e]
      simpa using this
    · obtain ⟨ka, la⟩ := kid a (by simp [h2])
      have hl := opdT_len 6 (eLevel a.fKind, a.text)
      simp only at hl
      rw [h2]
      simp only [idx_zero, List.getElem?_cons_zero, Option.bind_some, TExpr.re_eq]
      rw [i_operand_of 6 ka (by omega)]
      rcases h1 with h1 | h1
      all_goals
        rw [h1] at hs ⊢
        simp [eBody, i_symbol_ok, show eLevel 14 = 6 by decide, show eLevel 15 = 6 by decide]
        rw [app_of (by omega)]
    · obtain ⟨ka, la⟩ := kid a (by simp [h2])
      obtain ⟨kb, lb⟩ := kid b (by simp [h2])
      have p1 := fun l => opdT_len l (eLevel a.fKind, a.text)
      have p2 := fun l => opdT_len l (eLevel b.fKind, b.text)
      simp only at p1 p2
      have hr := eLevel_rng x.fKind
      rw [h2]
      simp only [idx_zero, idx_one, List.getElem?_cons_zero, List.getElem?_cons_succ, Option.bind_some, TExpr.re_eq]
      rw [w64_of (by omega) (by omega)]
      simp only [fun l => i_operand_of l ka (by omega), fun l => i_operand_of l kb (by omega), kb, Option.bind_some]
      have q1 := p1 7
      have q2 := p1 2
      have q3 := p2 3
      have q4 := p1 (eLevel x.fKind)
      have q5 := p2 (eLevel x.fKind + 1)
      have hsy := i_symbol_ok (k := x.fKind) (by omega) (by omega)
      have n1 : ¬ x.fKind = 1 := by omega
      have n2 : ¬ x.fKind = 2 := by omega
      have n3 : ¬ x.fKind = 3 := by omega
      have n4 : ¬ x.fKind = 4 := by omega
      have n5 : ¬ (x.fKind = 16 ∨ x.fKind = 17 ∨ x.fKind = 18) := by omega
      have n6 : (decide (16 ≤ x.fKind) && decide (x.fKind ≤ 18)) = false := by simp; omega
      simp only [List.map_cons, List.map_nil, eBody, n1, n2, n3, n4, n5, n6, if_false, beq_iff_eq, hsy, Option.bind_some, Bool.false_eq_true]
      by_cases c5 : x.fKind = 5
      · rw [if_pos c5, if_pos c5]
        rw [app_of (by simp; omega)]
        simp only [Option.bind_some]
        rw [app_of (by simp; omega)]
        simp only [Option.bind_some]
        rw [app_of (by simp; omega)]
        rfl
      · have l6 : ¬ eLevel x.fKind = 6 := by unfold eLevel; grind (splits := 60)
        rw [if_neg c5, if_neg c5, if_neg l6]
        by_cases c7 : x.fKind = 7
        · have l7 : eLevel x.fKind = 2 := by unfold eLevel; simp [c7]
          rw [if_pos c7, if_pos c7]
          rw [l7] at q4 q5 ⊢
          rw [app_of (by simp; omega)]
          simp only [Option.bind_some]
          rw [app_of (by simp; omega)]
          rfl
        · rw [if_neg c7, if_neg c7]
          rw [app_of (by simp; omega)]
          simp only [Option.bind_some]
          rw [app_of (by simp; omega)]
          simp only [Option.bind_some]
          rw [app_of (by simp; omega)]
          simp only [Option.bind_some]
          rw [app_of (by simp; omega)]
          rfl

theorem s_l03Print_ok : ∀ x : TExpr, x.good = true → x.n ≤ 1000000 → s_l03Print x.fKind x.fNum x.fText x.fKids = some x.text := by
  intro x
  induction x using TExpr.ind with
  | h x ih =>
    intro hg hn60
    have hlen := x.text_len hg
    have hn := x.n_eq
    have hg' := hg
    rw [x.good_eq, Bool.and_eq_true_iff] at hg
    obtain ⟨hnode, hk⟩ := hg
    rw [List.all_eq_true] at hk
    have kid : ∀ y ∈ x.fKids, s_l03Print y.fKind y.fNum y.fText y.fKids = some y.text ∧ y.text.length ≤ 250000000 := fun y hy => by
      have h1 := sumOf_mem (m := TExpr.n) hy
      have h2 := y.text_len (hk y hy)
      exact ⟨ih y hy (hk y hy) (by omega), by omega⟩
    rw [s_l03Print_eq]
    have hs := eSym_len x.fKind
    rw [x.text_eq]
    rcases eNode_cases hnode with ⟨h1, h2, h3⟩ | ⟨h1, h2, h3, h4⟩ | ⟨h1, h2, h3⟩ | ⟨h1, h2, h3⟩ | ⟨h1, a, h2⟩ | ⟨h1, a, b, h2⟩
    · simp [h1, eBody, s_QuoteString_ok]
    · simp [h1, eBody, s_l02Int_ok (show 0 ≤ x.fNum by omega) (show x.fNum < 9223372036854775808 by omega)]
    · have := isName_len h3
      rcases h1 with h1 | h1 | h1 | h1
      · simp [h1, eBody]
      all_goals
        rw [h1] at hs ⊢
        simp [eBody, eSym]
        rw [app_of (by simp; omega)]
        simp
    · have hnl := isName_len h3
      have loop : ∀ acc : List UInt8, acc.length ≤ 1000 → (((0 : Nat) : Int) = 0 → True) → s_l03Print_L23 x.fKind x.fNum x.fText x.fKids acc ((0 : Nat) : Int) = some (acc ++ Lib.join (x.fKids.map TExpr.text) [44] ++ [41]) := by
        have key : ∀ acc : List UInt8, acc.length + Lib.lens (x.fKids.map TExpr.text) + x.fKids.length ≤ 1000000000 → s_l03Print_L23 x.fKind x.fNum x.fText x.fKids acc ((0 : Nat) : Int) = some (acc ++ (if (0 : Nat) = 0 then Lib.join (x.fKids.map TExpr.text) [44] else Lib.joinTail [44] (x.fKids.map TExpr.text)) ++ [41]) := by
          refine loop_ind (xs := x.fKids) (by omega) (P := fun i l => ∀ acc : List UInt8, acc.length + Lib.lens (l.map TExpr.text) + l.length ≤ 1000000000 → s_l03Print_L23 x.fKind x.fNum x.fText x.fKids acc i = some (acc ++ (if i = 0 then Lib.join (l.map TExpr.text) [44] else Lib.joinTail [44] (l.map TExpr.text)) ++ [41])) ?_ ?_
          · intro acc h1
            rw [s_l03Print_L23_eq, if_neg (by simp [len_eq])]
            simp only [List.length_nil, Lib.lens, List.map_nil, List.sum_nil] at h1
            rw [app_of (by simp; omega)]
            have : Lib.joinTail [44] [] = [] := rfl
            simp [Lib.join_nil, this]
          · intro i y l _ hlt hy hi hw ih2 acc h1
            have e2 : Lib.lens ((y :: l).map TExpr.text) = y.text.length + Lib.lens (l.map TExpr.text) := by simp [Lib.lens]
            rw [e2, List.length_cons] at h1
            rw [s_l03Print_L23_eq, hi, hw, if_pos (by simp [len_eq, hlt])]
            simp only [Option.bind_some, (kid y hy).1]
            by_cases h0 : i = 0
            · subst h0
              rw [if_neg (by simp), app_of (by omega)]
              simp only [Option.bind_some]
              rw [ih2 _ (by simp; omega)]
              simp only [Nat.zero_add, Nat.one_ne_zero, if_false, if_true, List.map_cons, Lib.join_cons, List.append_assoc]
            · rw [if_pos (by simp; omega), app_of (by simp; omega)]
              simp only [Option.bind_some]
              rw [app_of (by simp; omega)]
              simp only [Option.bind_some]
              rw [ih2 _ (by simp; omega)]
              have : Lib.joinTail [44] (y.text :: l.map TExpr.text) = [44] ++ y.text ++ Lib.joinTail [44] (l.map TExpr.text) := rfl
              simp only [h0, Nat.add_eq_zero_iff, Nat.one_ne_zero, and_false, if_false, List.map_cons, this, List.append_assoc]
        intro acc h1 _
        have hl := lens_sum x.fKids 250 (fun y hy => y.text_len (hk y hy))
        have := key acc (by omega)
        simpa using this
      have e : ((x.fKids.map fun y => (eLevel y.fKind, TExpr.text y)).map (·.2)) = x.fKids.map TExpr.text := by rw [List.map_map]; rfl
      have := loop (x.fText ++ [40]) (by simp; omega) (fun _ => trivial)
      simp only [Int.natCast_zero] at this
      rw [h1] at this ⊢
      simp only [eBody, e]
      simp
      rw [app_of (by simp; omega)]
      simpa using this
    · obtain ⟨ka, la⟩ := kid a (by simp [h2])
      have hl := opdT_len 6 (eLevel a.fKind, a.text)
      simp only at hl
      rw [h2]
      simp only [idx_zero, List.getElem?_cons_zero, Option.bind_some]
      rw [s_l03At_of 6 ka (by omega)]
      rcases h1 with h1 | h1
      all_goals
        rw [h1] at hs ⊢
        simp [eBody, eSym]
        rw [app_of (by simp; omega)]
        simp
    · obtain ⟨ka, la⟩ := kid a (by simp [h2])
      obtain ⟨kb, lb⟩ := kid b (by simp [h2])
      have p1 := fun l => opdT_len l (eLevel a.fKind, a.text)
      have p2 := fun l => opdT_len l (eLevel b.fKind, b.text)
      simp only at p1 p2
      have hr := eLevel_rng x.fKind
      rw [h2]
      simp only [idx_zero, idx_one, List.getElem?_cons_zero, List.getElem?_cons_succ, Option.bind_some, s_l03Level_ok]
      rw [w64_of (by omega) (by omega)]
      simp only [fun l => s_l03At_of l ka (by omega), fun l => s_l03At_of l kb (by omega), kb, Option.bind_some]
      have q1 := p1 7
      have q2 := p1 2
      have q3 := p2 3
      have q4 := p1 (eLevel x.fKind)
      have q5 := p2 (eLevel x.fKind + 1)
      have n1 : ¬ x.fKind = 1 := by omega
      have n2 : ¬ x.fKind = 2 := by omega
      have n3 : ¬ x.fKind = 3 := by omega
      have n4 : ¬ x.fKind = 4 := by omega
      have n5 : ¬ (x.fKind = 16 ∨ x.fKind = 17 ∨ x.fKind = 18) := by omega
      have m1 : ¬ x.fKind = 16 := by omega
      have m2 : ¬ x.fKind = 17 := by omega
      have m3 : ¬ x.fKind = 18 := by omega
      have m4 : ¬ x.fKind = 14 := by omega
      have m5 : ¬ x.fKind = 15 := by omega
      simp only [List.map_cons, List.map_nil, eBody, n1, n2, n3, n4, n5, m1, m2, m3, m4, m5, if_false, beq_iff_eq]
      by_cases c5 : x.fKind = 5
      · rw [if_pos c5, if_pos c5]
        rw [app_of (by simp; omega)]
        simp only [Option.bind_some]
        rw [app_of (by simp; omega)]
        simp only [Option.bind_some]
        rw [app_of (by simp; omega)]
        rfl
      · rw [if_neg c5, if_neg c5, s_l03Sign_ok (by omega) (by omega)]
        by_cases c7 : x.fKind = 7
        · have l7 : eLevel x.fKind = 2 := by unfold eLevel; simp [c7]
          rw [if_pos c7, if_pos c7]
          rw [l7] at q4 q5 ⊢
          simp only [Option.bind_some]
          rw [app_of (by simp; omega)]
          simp only [Option.bind_some]
          rw [app_of (by simp; omega)]
          rfl
        · rw [if_neg c7, if_neg c7]
          simp only [Option.bind_some]
          rw [app_of (by simp; omega)]
          simp only [Option.bind_some]
          rw [app_of (by simp; omega)]
          simp

theorem i_PrintExpr_ok {x : TExpr} (hm : x.m ≤ 1048576) : i_PrintExpr x = some (if x.valid = true then x.text else []) := by
  rw [i_PrintExpr_eq, TExpr.re_eq, i_ValidExpr_ok hm]
  simp only [Option.bind_some]
  cases h : x.valid
  · rfl
  · unfold TExpr.valid at h
    rw [Bool.and_eq_true_iff, decide_eq_true_eq] at h
    rw [i_Expr_text_ok x h.1 (by omega)]
    rfl

theorem s_PrintExpr_ok {x : TExpr} (hm : x.m ≤ 1048576) : s_PrintExpr x = some (if x.valid = true then x.text else []) := by
  rw [s_PrintExpr_eq, s_l03Ok_ok hm]
  simp only [Option.bind_some]
  cases h : x.valid
  · rfl
  · unfold TExpr.valid at h
    rw [Bool.and_eq_true_iff, decide_eq_true_eq] at h
    rw [s_l03Print_ok x h.1 (by omega)]
    rfl

theorem l_FnExactPrintExpr_ok {x : TExpr} (hok : x.Ok) : l_FnExactPrintExpr x = some true := by
  rw [l_FnExactPrintExpr_eq]
  simp only [TExpr.re_eq, szExpr_ok x hok 1048576 (by decide) (by decide), Option.bind_some]
  by_cases c : minus 1048576 x.m < 0
  · simp [c]
  · have hm : x.m ≤ 1048576 := by have := minus_le c; omega
    simp only [c, decide_false, Bool.false_eq_true, if_false, toExpr_ok x hm, s_PrintExpr_ok hm, i_PrintExpr_ok hm, eqExpr_ok x hm, Option.bind_some]
    simp

end Go.Dv.U
