/- Plain laws about these equations. -/
import Derived.Test.YtpafmohohdfkgaaDoorFnExactPatternValueEqa
set_option linter.all false
set_option linter.unusedVariables false
set_option linter.unusedSimpArgs false
namespace Go.Dv.U

open Go Go.Dv Go.Proofs

theorem TExpr.ind {P : TExpr → Prop} (h : ∀ x, (∀ y ∈ x.fKids, P y) → P x) : ∀ x, P x := by
  intro x
  exact TExpr.rec (motive_1 := P) (motive_2 := fun l => ∀ y ∈ l, P y) (fun a0 a1 a2 a3 ih => h ⟨a0, a1, a2, a3⟩ ih) (fun y hy => by cases hy)
    (fun a l ha hl y hy => by
      cases hy with
      | head => exact ha
      | tail _ hy => exact hl y hy) x

inductive TExpr.Ok : TExpr → Prop
  | mk (x : TExpr) (h0 : (-9223372036854775808 ≤ x.fKind ∧ x.fKind ≤ 9223372036854775807) ∧ (-9223372036854775808 ≤ x.fNum ∧ x.fNum ≤ 9223372036854775807) ∧ x.fText.length ≤ 9223372036854775807 ∧ x.fKids.length ≤ 9223372036854775807) (h1 : ∀ y ∈ x.fKids, TExpr.Ok y) : TExpr.Ok x

theorem TExpr.Ok.P_fText {x : TExpr} (h : x.Ok) : x.fText.length ≤ 9223372036854775807 := by cases h with | mk _ h0 h1 => exact h0.2.2.1

theorem TExpr.Ok.P_fKids_len {x : TExpr} (h : x.Ok) : x.fKids.length ≤ 9223372036854775807 := by cases h with | mk _ h0 h1 => exact h0.2.2.2

theorem TExpr.Ok.P_fKids {x : TExpr} (h : x.Ok) : ∀ y ∈ x.fKids, y.Ok := by cases h with | mk _ h0 h1 => exact h1

theorem TExpr.ok_cells : ∀ x : TExpr, (∀ c ∈ GG.cells 23 x, ∀ k, WfV GG k c) → x.Ok := by
  intro x
  induction x using TExpr.ind with
  | h x ih =>
    intro h
    have h : ∀ c ∈ ([.int .i64 x.fKind, .int .i64 x.fNum, .str x.fText, .sl (.st 23) x.fKids] : List (V GG.S)), ∀ k, WfV GG k c := h
    exact .mk x ⟨wfv_int (h (.int .i64 x.fKind) (by simp) 1), wfv_int (h (.int .i64 x.fNum) (by simp) 1), wfv_str (h (.str x.fText) (by simp) 1), (wfv_sl (h (.sl (.st 23) x.fKids) (by simp))).1⟩ fun y hy => ih y hy ((wfv_sl (h (.sl (.st 23) x.fKids) (by simp))).2 y hy)

theorem TExpr.ok_of {x : TExpr} (h : ∀ k, WfV GG k (inj GG (.st 23) x)) : x.Ok := TExpr.ok_cells x (wfv_st h)

mutual
def TExpr.m : TExpr → Nat
  | ⟨_, _, a2, a3⟩ => a2.length + (a3.length + TExpr.ms a3)
def TExpr.ms : List TExpr → Nat
  | [] => 0
  | y :: r => TExpr.m y + TExpr.ms r
end

theorem TExpr.ms_eq : ∀ l, TExpr.ms l = sumOf TExpr.m l
  | [] => rfl
  | y :: r => by simp only [TExpr.ms, sumOf, TExpr.ms_eq r]

theorem TExpr.m_eq (x : TExpr) : x.m = x.fText.length + (x.fKids.length + sumOf TExpr.m x.fKids) := by
  rw [← TExpr.ms_eq]; cases x; rfl

theorem TExpr.m_kid {x y : TExpr} (h : y ∈ x.fKids) : y.m + x.fKids.length ≤ x.m := by
  have := sumOf_mem (m := TExpr.m) h
  rw [TExpr.m_eq x]; omega

theorem TPattern.ind {P : TPattern → Prop} (h : ∀ x, (∀ y ∈ x.fKids, P y) → P x) : ∀ x, P x := by
  intro x
  exact TPattern.rec (motive_1 := P) (motive_2 := fun l => ∀ y ∈ l, P y) (fun a0 a1 a2 a3 ih => h ⟨a0, a1, a2, a3⟩ ih) (fun y hy => by cases hy)
    (fun a l ha hl y hy => by
      cases hy with
      | head => exact ha
      | tail _ hy => exact hl y hy) x

inductive TPattern.Ok : TPattern → Prop
  | mk (x : TPattern) (h0 : (-9223372036854775808 ≤ x.fKind ∧ x.fKind ≤ 9223372036854775807) ∧ (-9223372036854775808 ≤ x.fNum ∧ x.fNum ≤ 9223372036854775807) ∧ x.fText.length ≤ 9223372036854775807 ∧ x.fKids.length ≤ 9223372036854775807) (h1 : ∀ y ∈ x.fKids, TPattern.Ok y) : TPattern.Ok x

theorem TPattern.Ok.P_fText {x : TPattern} (h : x.Ok) : x.fText.length ≤ 9223372036854775807 := by cases h with | mk _ h0 h1 => exact h0.2.2.1

theorem TPattern.Ok.P_fKids_len {x : TPattern} (h : x.Ok) : x.fKids.length ≤ 9223372036854775807 := by cases h with | mk _ h0 h1 => exact h0.2.2.2

theorem TPattern.Ok.P_fKids {x : TPattern} (h : x.Ok) : ∀ y ∈ x.fKids, y.Ok := by cases h with | mk _ h0 h1 => exact h1

theorem TPattern.ok_cells : ∀ x : TPattern, (∀ c ∈ GG.cells 34 x, ∀ k, WfV GG k c) → x.Ok := by
  intro x
  induction x using TPattern.ind with
  | h x ih =>
    intro h
    have h : ∀ c ∈ ([.int .i64 x.fKind, .int .i64 x.fNum, .str x.fText, .sl (.st 34) x.fKids] : List (V GG.S)), ∀ k, WfV GG k c := h
    exact .mk x ⟨wfv_int (h (.int .i64 x.fKind) (by simp) 1), wfv_int (h (.int .i64 x.fNum) (by simp) 1), wfv_str (h (.str x.fText) (by simp) 1), (wfv_sl (h (.sl (.st 34) x.fKids) (by simp))).1⟩ fun y hy => ih y hy ((wfv_sl (h (.sl (.st 34) x.fKids) (by simp))).2 y hy)

theorem TPattern.ok_of {x : TPattern} (h : ∀ k, WfV GG k (inj GG (.st 34) x)) : x.Ok := TPattern.ok_cells x (wfv_st h)

mutual
def TPattern.m : TPattern → Nat
  | ⟨_, _, a2, a3⟩ => a2.length + (a3.length + TPattern.ms a3)
def TPattern.ms : List TPattern → Nat
  | [] => 0
  | y :: r => TPattern.m y + TPattern.ms r
end

theorem TPattern.ms_eq : ∀ l, TPattern.ms l = sumOf TPattern.m l
  | [] => rfl
  | y :: r => by simp only [TPattern.ms, sumOf, TPattern.ms_eq r]

theorem TPattern.m_eq (x : TPattern) : x.m = x.fText.length + (x.fKids.length + sumOf TPattern.m x.fKids) := by
  rw [← TPattern.ms_eq]; cases x; rfl

theorem TPattern.m_kid {x y : TPattern} (h : y ∈ x.fKids) : y.m + x.fKids.length ≤ x.m := by
  have := sumOf_mem (m := TPattern.m) h
  rw [TPattern.m_eq x]; omega

theorem szPatternS_of {xs : (List TPattern)} (hx : xs.length ≤ 9223372036854775807)
    (hF : ∀ y ∈ xs, ∀ b : Int, 0 ≤ b → b < 4611686018427387904 → l_szPattern y b = some (minus b (TPattern.m y))) {b : Int} (h0 : 0 ≤ b) (h1 : b < 4611686018427387904) :
    l_szPatternS xs b = some (minus b (xs.length + sumOf TPattern.m xs)) := by
  rw [l_szPatternS_eq]
  obtain ⟨e1, e2⟩ := minus_len (l := xs) h0 h1 hx
  by_cases c : minus b xs.length < 0
  · simp only [e1.2 c, decide_true, if_true, minus_neg c]
  · rw [if_neg (by simpa using fun h => c (e1.1 h)), e2 c, sz_loop hx (J := l_szPatternS_L5) (F := l_szPattern) (m := TPattern.m) (fun b i => by rw [l_szPatternS_L5_eq]; try simp only [TExpr.re_eq, TPattern.re_eq, TValue.re_eq, TGen.re_eq]) hF _ (minus_nonneg c) (minus_lt (by omega) h1), minus_minus c]

theorem toPatternS_of {xs : (List TPattern)} (hx : xs.length ≤ 68719476736) (hF : ∀ y ∈ xs, l_toPattern y = some y) : l_toPatternS xs = some xs := by
  rw [l_toPatternS_eq, mk_len _ _ hx]
  simp only [Option.bind_some]
  exact to_loop (by omega) (J := l_toPatternS_L3) (F := l_toPattern) (fun i zs => by rw [l_toPatternS_L3_eq]; try simp only [TExpr.re_eq, TPattern.re_eq, TValue.re_eq, TGen.re_eq]) hF _ (by simp)

theorem eqPatternS_of {xs : (List TPattern)} (hx : xs.length ≤ 9223372036854775807) (hF : ∀ y ∈ xs, l_eqPattern y y = some true) : l_eqPatternS xs xs = some true := by
  rw [l_eqPatternS_eq]
  simp only [bne_self_eq_false, Bool.false_eq_true, if_false]
  exact eq_loop (by omega) (J := l_eqPatternS_L4) (F := l_eqPattern) (fun i => by rw [l_eqPatternS_L4_eq]; try simp only [TExpr.re_eq, TPattern.re_eq, TValue.re_eq, TGen.re_eq]) hF

theorem szPattern_ok : ∀ x : TPattern, x.Ok → ∀ b : Int, 0 ≤ b → b < 4611686018427387904 → l_szPattern x b = some (minus b x.m) := by
  intro x
  induction x using TPattern.ind with
  | h x ih =>
    intro hok b h0 h1
    rw [l_szPattern_eq]
    try simp only [TExpr.re_eq, TPattern.re_eq, TValue.re_eq, TGen.re_eq]
    -- fText
    obtain ⟨e1, e2⟩ := minus_len (b := b) (l := x.fText) h0 h1 hok.P_fText
    by_cases c0 : minus b (x.fText.length) < 0
    · simp only [e1.2 c0, decide_true, if_true]
      rw [minus_neg_le c0 (by rw [TPattern.m_eq]; omega)]
    have e3 := mt e1.1 c0
    simp only [e3, e2 c0, c0, decide_false, Bool.false_eq_true, if_false]
    -- fKids
    rw [szPatternS_of hok.P_fKids_len (fun y hy b h0 h1 => ih y hy (hok.P_fKids y hy) b h0 h1) (minus_nonneg c0) (minus_lt (by omega) h1)]
    simp only [Option.bind_some]
    simp only [minus_minus c0]
    by_cases c1 : minus b (x.fText.length + (x.fKids.length + sumOf TPattern.m x.fKids)) < 0
    · simp only [c1, decide_true, if_true]
      rw [minus_neg_le c1 (by rw [TPattern.m_eq]; omega)]
    simp only [c1, decide_false, Bool.false_eq_true, if_false]
    try rw [TPattern.m_eq]

theorem toPattern_ok : ∀ x : TPattern, x.m ≤ 1048576 → l_toPattern x = some x := by
  intro x
  induction x using TPattern.ind with
  | h x ih =>
    intro hm
    have hq := x.m_eq
    rw [l_toPattern_eq]
    try simp only [TExpr.re_eq, TPattern.re_eq, TValue.re_eq, TGen.re_eq]
    rw [toPatternS_of (xs := x.fKids) (by omega) fun y hy => ih y hy (by have := TPattern.m_kid hy; omega)]
    simp only [Option.bind_some]
    try simp only [TPattern.eta, TExpr.re_eq, TPattern.re_eq, TValue.re_eq, TGen.re_eq]

theorem eqPattern_ok : ∀ x : TPattern, x.m ≤ 1048576 → l_eqPattern x x = some true := by
  intro x
  induction x using TPattern.ind with
  | h x ih =>
    intro hm
    have hq := x.m_eq
    rw [l_eqPattern_eq]
    try simp only [TExpr.re_eq, TPattern.re_eq, TValue.re_eq, TGen.re_eq]
    rw [eqPatternS_of (xs := x.fKids) (by omega) fun y hy => ih y hy (by have := TPattern.m_kid hy; omega)]
    simp

structure TValue.Ok (x : TValue) : Prop where
  P_fKind : (-9223372036854775808 ≤ x.fKind ∧ x.fKind ≤ 9223372036854775807)
  P_fNum : (-9223372036854775808 ≤ x.fNum ∧ x.fNum ≤ 9223372036854775807)
  P_fText : x.fText.length ≤ 9223372036854775807
  P_fRef : (-9223372036854775808 ≤ x.fRef ∧ x.fRef ≤ 9223372036854775807)

theorem TValue.ok_cells (x : TValue) (h : ∀ c ∈ GG.cells 44 x, ∀ k, WfV GG k c) : x.Ok := by
  have h : ∀ c ∈ ([.int .i64 x.fKind, .int .i64 x.fNum, .str x.fText, .int .i64 x.fRef] : List (V GG.S)), ∀ k, WfV GG k c := h
  exact ⟨wfv_int (h (.int .i64 x.fKind) (by simp) 1), wfv_int (h (.int .i64 x.fNum) (by simp) 1), wfv_str (h (.str x.fText) (by simp) 1), wfv_int (h (.int .i64 x.fRef) (by simp) 1)⟩

theorem TValue.ok_of {x : TValue} (h : ∀ k, WfV GG k (inj GG (.st 44) x)) : x.Ok := TValue.ok_cells x (wfv_st h)

def TValue.m (x : TValue) : Nat := x.fText.length

theorem TValue.m_eq (x : TValue) : x.m = x.fText.length := rfl

theorem TGen.ind {P : TGen → Prop} (h : ∀ x, (∀ y ∈ x.fKids, P y) → P x) : ∀ x, P x := by
  intro x
  exact TGen.rec (motive_1 := P) (motive_2 := fun l => ∀ y ∈ l, P y) (fun a0 a1 a2 a3 a4 ih => h ⟨a0, a1, a2, a3, a4⟩ ih) (fun y hy => by cases hy)
    (fun a l ha hl y hy => by
      cases hy with
      | head => exact ha
      | tail _ hy => exact hl y hy) x

inductive TGen.Ok : TGen → Prop
  | mk (x : TGen) (h0 : (-9223372036854775808 ≤ x.fKind ∧ x.fKind ≤ 9223372036854775807) ∧ (-9223372036854775808 ≤ x.fNum ∧ x.fNum ≤ 9223372036854775807) ∧ x.fText.length ≤ 9223372036854775807 ∧ TValue.Ok x.fValue ∧ x.fKids.length ≤ 9223372036854775807) (h1 : ∀ y ∈ x.fKids, TGen.Ok y) : TGen.Ok x

theorem TGen.Ok.P_fText {x : TGen} (h : x.Ok) : x.fText.length ≤ 9223372036854775807 := by cases h with | mk _ h0 h1 => exact h0.2.2.1

theorem TGen.Ok.P_fKids_len {x : TGen} (h : x.Ok) : x.fKids.length ≤ 9223372036854775807 := by cases h with | mk _ h0 h1 => exact h0.2.2.2.2

theorem TGen.Ok.P_fKids {x : TGen} (h : x.Ok) : ∀ y ∈ x.fKids, y.Ok := by cases h with | mk _ h0 h1 => exact h1

theorem TGen.ok_cells : ∀ x : TGen, (∀ c ∈ GG.cells 51 x, ∀ k, WfV GG k c) → x.Ok := by
  intro x
  induction x using TGen.ind with
  | h x ih =>
    intro h
    have h : ∀ c ∈ ([.int .i64 x.fKind, .int .i64 x.fNum, .str x.fText, .int .i64 x.fValue.fKind, .int .i64 x.fValue.fNum, .str x.fValue.fText, .int .i64 x.fValue.fRef, .sl (.st 51) x.fKids] : List (V GG.S)), ∀ k, WfV GG k c := h
    have h_fValue : ∀ c ∈ ([.int .i64 x.fValue.fKind, .int .i64 x.fValue.fNum, .str x.fValue.fText, .int .i64 x.fValue.fRef] : List (V GG.S)), ∀ k, WfV GG k c := fun c hc => h c (by simp only [List.mem_cons, List.not_mem_nil, or_false] at hc ⊢; rcases hc with rfl | rfl | rfl | rfl <;> simp)
    exact .mk x ⟨wfv_int (h (.int .i64 x.fKind) (by simp) 1), wfv_int (h (.int .i64 x.fNum) (by simp) 1), wfv_str (h (.str x.fText) (by simp) 1), TValue.ok_cells _ h_fValue, (wfv_sl (h (.sl (.st 51) x.fKids) (by simp))).1⟩ fun y hy => ih y hy ((wfv_sl (h (.sl (.st 51) x.fKids) (by simp))).2 y hy)

theorem TGen.ok_of {x : TGen} (h : ∀ k, WfV GG k (inj GG (.st 51) x)) : x.Ok := TGen.ok_cells x (wfv_st h)

mutual
def TGen.m : TGen → Nat
  | ⟨_, _, a2, a3, a4⟩ => a2.length + TValue.m a3 + (a4.length + TGen.ms a4)
def TGen.ms : List TGen → Nat
  | [] => 0
  | y :: r => TGen.m y + TGen.ms r
end

theorem TGen.ms_eq : ∀ l, TGen.ms l = sumOf TGen.m l
  | [] => rfl
  | y :: r => by simp only [TGen.ms, sumOf, TGen.ms_eq r]

theorem TGen.m_eq (x : TGen) : x.m = x.fText.length + TValue.m x.fValue + (x.fKids.length + sumOf TGen.m x.fKids) := by
  rw [← TGen.ms_eq]; cases x; rfl

theorem TGen.m_kid {x y : TGen} (h : y ∈ x.fKids) : y.m + x.fKids.length ≤ x.m := by
  have := sumOf_mem (m := TGen.m) h
  rw [TGen.m_eq x]; omega

end Go.Dv.U

namespace Go.Dv.U

open Go Go.Dv Go.Proofs

theorem i_within_ok (a b c : Int) : i_within a b c = some (decide (b ≤ a) && decide (a ≤ c)) := by
  rw [i_within_eq]; grind

theorem s_l00In_ok (a b c : Int) : s_l00In a b c = some (decide (b ≤ a) && decide (a ≤ c)) := by
  rw [s_l00In_eq]; grind

end Go.Dv.U

namespace Go.Dv.U

open Go Go.Dv Go.Proofs

def isLet (b : Int) : Bool := (decide (65 ≤ b) && decide (b ≤ 90)) || (decide (97 ≤ b) && decide (b ≤ 122))

def isDig (b : Int) : Bool := decide (48 ≤ b) && decide (b ≤ 57)

def isNmB (b : Int) : Bool := isLet b || isDig b || b == 95

theorem i_isLetter_ok (b : Int) : i_isLetter b = some (isLet b) := by
  rw [i_isLetter_eq]; unfold isLet; grind

theorem s_l02Letter_ok (b : Int) : s_l02Letter b = some (isLet b) := by
  rw [s_l02Letter_eq]; unfold isLet; grind

theorem i_isDigit_ok (b : Int) : i_isDigit b = some (isDig b) := by
  rw [i_isDigit_eq]; unfold isDig; grind

theorem s_l02Digit_ok (b : Int) : s_l02Digit b = some (isDig b) := by
  rw [s_l02Digit_eq]; unfold isDig; grind

theorem i_isNameByte_ok (b : Int) : i_isNameByte b = some (isNmB b) := by
  rw [i_isNameByte_eq, i_isLetter_ok, i_isDigit_ok]; unfold isNmB
  simp only [Option.bind_some]; grind

/-- a name -/
def isName (s : List UInt8) : Bool := match s with
  | [] => false
  | b :: _ => decide (s.length ≤ 12) && isLet (ib b) && s.all fun c => isNmB (ib c)

theorem i_areAllNm_ok {s : List UInt8} (h : s.length ≤ 9223372036854775807) : i_areAll_byte__i_isNameByte (s.map ib) = some (s.all fun c => isNmB (ib c)) := by
  rw [i_areAll_byte__i_isNameByte_eq]
  have := all_loop (xs := s.map ib) (by simpa using h) (F := i_isNameByte) (p := isNmB) (J := i_areAll_byte_L2__i_isNameByte (s.map ib) (len (s.map ib))) (fun i => by rw [i_areAll_byte_L2__i_isNameByte_eq]) (fun y _ => i_isNameByte_ok y)
  rw [this, List.all_map]
  rfl

theorem i_IsName_ok {s : List UInt8} : i_IsName s = some (isName s) := by
  rw [i_IsName_eq]
  cases s with
  | nil => simp [isName, len_eq]
  | cons b r =>
    by_cases h : (b :: r).length ≤ 12
    · have h1 : decide (len (b :: r) ≥ 1) = true := by simp only [len_eq, List.length_cons, decide_eq_true_eq]; omega
      have h2 : decide (len (b :: r) ≤ 12) = true := by simp only [len_eq, decide_eq_true_eq]; omega
      rw [if_pos h1, if_pos h2, idx_zero]
      simp only [List.getElem?_cons_zero, Option.bind_some, i_isLetter_ok]
      have := i_areAllNm_ok (s := b :: r) (by omega)
      simp only [List.map_cons] at this ⊢
      rw [this]
      simp only [isName, h, decide_true, Bool.true_and, Option.bind_some]
      cases isLet (ib b) <;> simp
    · have h2 : ¬ decide (len (b :: r) ≤ 12) = true := by simp only [len_eq, decide_eq_true_eq]; omega
      rw [if_neg h2]
      simp only [isName, h, decide_false, Bool.false_and]
      split <;> rfl

/-- how many bytes from the start on belong to a name -/
def nmRun : List UInt8 → Nat
  | [] => 0
  | b :: r => if isNmB (ib b) then nmRun r + 1 else 0

theorem nmRun_all : ∀ s, nmRun s = s.length ↔ (s.all fun c => isNmB (ib c)) = true
  | [] => by simp [nmRun]
  | b :: r => by
    have := nmRun_all r
    simp only [nmRun, List.length_cons, List.all_cons, Bool.and_eq_true]
    cases isNmB (ib b)
    · simp
    · simp [this]

theorem s_l02NameEnd_L3_ok {s : List UInt8} (h : s.length ≤ 9223372036854775807) : ∀ (n i : Nat), i + n = s.length → s_l02NameEnd_L3 s i = some ((i + nmRun (s.drop i) : Nat) : Int) := by
  intro n
  induction n with
  | zero =>
    intro i hi
    have : i = s.length := by omega
    subst this
    rw [s_l02NameEnd_L3_eq, s_l02NameEnd_L5_eq, List.drop_length]
    simp [len_eq, nmRun]
  | succ n ih =>
    intro i hi
    have hlt : i < s.length := by omega
    have hc : decide ((i : Int) < len s) = true := by simp [len_eq, hlt]
    rw [s_l02NameEnd_L3_eq, if_pos hc, idx_nat, List.getElem?_eq_getElem hlt, List.drop_eq_getElem_cons hlt]
    simp only [Option.bind_some, s_l02Letter_ok, s_l02Digit_ok, s_l02NameEnd_L4_eq, s_l02NameEnd_L5_eq, nmRun]
    have hw : w64 ((i : Int) + 1) = ((i + 1 : Nat) : Int) := by rw [w64_of (by omega) (by omega)]; omega
    rw [hw, ih (i + 1) (by omega)]
    unfold isNmB
    cases isLet (ib s[i]) <;> cases isDig (ib s[i]) <;> cases hb : (ib s[i] == 95) <;> simp <;> omega

theorem s_l02NameEnd_ok {s : List UInt8} (h : s.length ≤ 9223372036854775807) {i : Nat} (hi : i ≤ s.length) :
    s_l02NameEnd s i = some (match s.drop i with
      | [] => (i : Int)
      | b :: r => if isLet (ib b) then ((i + nmRun (b :: r) : Nat) : Int) else i) := by
  rw [s_l02NameEnd_eq]
  by_cases hlt : i < s.length
  · have hc : ¬ decide ((i : Int) ≥ len s) = true := by simp only [len_eq, decide_eq_true_eq]; omega
    rw [if_neg hc, idx_nat, List.getElem?_eq_getElem hlt, List.drop_eq_getElem_cons hlt]
    simp only [Option.bind_some, s_l02Letter_ok]
    rw [s_l02NameEnd_L3_ok h (s.length - i) i (by omega), List.drop_eq_getElem_cons hlt]
    cases isLet (ib s[i]) <;> simp
  · have : i = s.length := by omega
    subst this
    rw [List.drop_length]
    simp [len_eq]

theorem s_IsName_ok {s : List UInt8} : s_IsName s = some (isName s) := by
  rw [s_IsName_eq]
  cases s with
  | nil => simp [isName]
  | cons b r =>
    have h0 : (!(b :: r) == []) = true := rfl
    rw [if_pos h0]
    by_cases h : (b :: r).length ≤ 12
    · have h2 : decide (len (b :: r) ≤ 12) = true := by simp only [len_eq, decide_eq_true_eq]; omega
      have := s_l02NameEnd_ok (s := b :: r) (by omega) (Nat.zero_le _)
      simp only [Int.natCast_zero, List.drop_zero, Nat.zero_add] at this
      rw [if_pos h2, this]
      simp only [isName, h, decide_true, Bool.true_and, Option.bind_some, len_eq]
      congr 1
      rw [Bool.eq_iff_iff, Bool.and_eq_true, ← nmRun_all]
      cases hL : isLet (ib b)
      · simp; omega
      · simp; omega
    · have h2 : ¬ decide (len (b :: r) ≤ 12) = true := by simp only [len_eq, decide_eq_true_eq]; omega
      rw [if_neg h2]
      simp only [isName, h, decide_false, Bool.false_and]

end Go.Dv.U

namespace Go.Dv.U

open Go Go.Dv Go.Proofs

def hasB (c : Int) (s : List UInt8) : Bool := s.any fun b => ib b == c

theorem index_one (c : UInt8) : ∀ s : List UInt8, decide (0 ≤ Lib.index s [c]) = hasB (ib c) s
  | [] => by simp [Lib.index, hasB]
  | b :: l => by
    have ih := index_one c l
    have hge := Lib.index_ge l [c]
    unfold Lib.index
    have hp : [c].isPrefixOf (b :: l) = (ib b == ib c) := by
      rw [Bool.eq_iff_iff]
      simp only [List.isPrefixOf, Bool.and_true, beq_iff_eq, ib_inj]
      exact eq_comm
    have hh : hasB (ib c) (b :: l) = (ib b == ib c || hasB (ib c) l) := rfl
    rw [hp, hh, ← ih]
    cases (ib b == ib c)
    · simp only [Bool.false_eq_true, if_false, Bool.false_or]
      split
      · rename_i h; rw [beq_iff_eq] at h; rw [h]
      · rename_i h
        have h : ¬ Lib.index l [c] = -1 := by simpa using h
        rw [Bool.eq_iff_iff, decide_eq_true_eq, decide_eq_true_eq]; omega
    · simp

/-- numbers -/
theorem nDigits_le : ∀ (k u : Nat), u < 10 ^ (k + 1) → Lib.nDigits u ≤ k + 1
  | 0, u, h => by rw [Lib.nDigits_small (by simpa using h)]; exact Nat.le_refl _
  | k + 1, u, h => by
    by_cases hu : u < 10
    · rw [Lib.nDigits_small hu]; omega
    · rw [Lib.nDigits_big hu]
      have := nDigits_le k (u / 10) (by rw [Nat.div_lt_iff_lt_mul (by decide)]; rw [Nat.pow_succ] at h; exact h)
      omega

theorem digit_byte {r : Int} (h0 : 0 ≤ r) (h1 : r < 10) : UInt8.ofNat (Int.toNat (IntKind.wrap .u8 (w64 (48 + r)))) = UInt8.ofNat (48 + r.toNat) := by
  rw [w64_of (by omega) (by omega)]
  have e2 : IntKind.u8.wrap (48 + r) = 48 + r := by unfold IntKind.wrap; simp [IntKind.bits, IntKind.signed]; omega
  rw [e2]
  congr 1
  omega

theorem rem_ten (u : Nat) : rem (u : Int) 10 = some ((u % 10 : Nat) : Int) := by
  unfold rem
  rw [if_neg (by decide), Int.tmod_eq_emod_of_nonneg (by omega)]
  congr 1

theorem quo_ten {u : Nat} (h : u < 9223372036854775808) : quo .i64 (u : Int) 10 = some ((u / 10 : Nat) : Int) := by
  unfold quo
  rw [if_neg (by decide), Int.tdiv_eq_ediv_of_nonneg (by omega)]
  congr 1
  have : IntKind.i64.wrap ((u : Int) / 10) = w64 ((u : Int) / 10) := rfl
  rw [this, w64_of (by omega) (by omega)]
  omega

theorem itoa_nat (u : Nat) : Lib.itoa (u : Int) = Lib.decDigits u := by
  unfold Lib.itoa
  rw [if_neg (by omega)]
  rfl

theorem i_decimal_ok {n : Int} (h0 : -9223372036854775808 ≤ n) (h1 : n ≤ 9223372036854775807) : i_decimal n = some (Lib.itoa n) := by
  rw [i_decimal_eq]
  unfold itoaS
  rw [if_pos ⟨rfl, h0, h1⟩]
  rfl

theorem itoa_len {n : Int} (h0 : 0 ≤ n) (h1 : n ≤ 1000000000000) : (Lib.itoa n).length ≤ 13 := by
  obtain ⟨u, rfl⟩ : ∃ u : Nat, n = u := ⟨n.toNat, by omega⟩
  rw [itoa_nat, Lib.decDigits_length]
  exact nDigits_le 12 u (by omega)

end Go.Dv.U

namespace Go.Dv.U

open Go Go.Dv Go.Proofs

mutual
def TPattern.n : TPattern → Nat
  | ⟨_, _, _, ks⟩ => 1 + TPattern.ns ks
def TPattern.ns : List TPattern → Nat
  | [] => 0
  | y :: r => TPattern.n y + TPattern.ns r
end

theorem TPattern.ns_eq : ∀ l, TPattern.ns l = sumOf TPattern.n l
  | [] => rfl
  | y :: r => by simp only [TPattern.ns, sumOf, TPattern.ns_eq r]

theorem TPattern.n_eq (x : TPattern) : x.n = 1 + sumOf TPattern.n x.fKids := by
  rw [← TPattern.ns_eq]; cases x; rfl

mutual
def TPattern.all (p : TPattern → Bool) : TPattern → Bool
  | ⟨a, b, c, ks⟩ => p ⟨a, b, c, ks⟩ && TPattern.alls p ks
def TPattern.alls (p : TPattern → Bool) : List TPattern → Bool
  | [] => true
  | y :: r => TPattern.all p y && TPattern.alls p r
end

theorem TPattern.alls_eq (p : TPattern → Bool) : ∀ l, TPattern.alls p l = l.all (TPattern.all p)
  | [] => rfl
  | y :: r => by simp only [TPattern.alls, List.all_cons, TPattern.alls_eq p r]

theorem TPattern.all_eq (p : TPattern → Bool) (x : TPattern) : x.all p = (p x && x.fKids.all (TPattern.all p)) := by
  rw [← TPattern.alls_eq]; cases x; rfl

def pKids (k : Int) : Int := if k = 18 ∨ k = 19 then 2 else if k = 20 ∨ k = 21 ∨ k = 22 then 1 else 0

def pArg (k n : Int) (t : List UInt8) : Bool :=
  if k = 1 then n == 0 && decide (t.length ≤ 200)
  else if 2 ≤ k ∧ k ≤ 5 then n == 0 && (!t == []) && decide (t.length ≤ 200)
  else if 6 ≤ k ∧ k ≤ 10 then t == [] && decide (0 ≤ n) && decide (n ≤ 200)
  else if 21 ≤ k ∧ k ≤ 24 then n == 0 && isName t
  else decide (1 ≤ k) && decide (k ≤ 24) && n == 0 && t == []

def pNode (x : TPattern) : Bool := pArg x.fKind x.fNum x.fText && decide ((x.fKids.length : Int) = pKids x.fKind)

def TPattern.good (x : TPattern) : Bool := x.all pNode

def TPattern.valid (x : TPattern) : Bool := x.good && decide (x.n ≤ 60)

theorem i_kidsOf_ok (k : Int) : i_kidsOf k = some (pKids k) := by
  rw [i_kidsOf_eq, i_kidsOf_L8_eq, i_kidsOf_L9_eq]; unfold pKids; grind

theorem i_isShort_ok (t : List UInt8) : i_isShort t = some (decide (t.length ≤ 200)) := by
  rw [i_isShort_eq]; simp only [len_eq]; congr 1; rw [Bool.eq_iff_iff]; simp; omega

theorem i_isArgument_ok (k n : Int) (t : List UInt8) : i_isArgument k n t = some (pArg k n t) := by
  rw [i_isArgument_eq]
  simp only [i_isShort_ok, i_hasSet_eq, i_hasNumber_eq, i_hasName_eq, i_isPatternKind_eq, i_within_ok, i_IsName_ok, Option.bind_some]
  unfold pArg
  simp only [ite_some]
  grind

theorem s_l11Form_ok (k : Int) : s_l11Form k = some (pKids k, if 1 ≤ k ∧ k ≤ 5 then [115] else if 6 ≤ k ∧ k ≤ 10 then [110] else if 21 ≤ k ∧ k ≤ 24 then [120] else []) := by
  have i0 : ib 112 = 112 := by decide
  have l0 : s_l11Form_L7 [] 0 [] 0 = some (0, []) := by rw [s_l11Form_L7_eq]; simp [len_eq]
  have l1 : ∀ b : UInt8, b ≠ 112 → s_l11Form_L7 [b] 0 [] 0 = some (0, [b]) := by
    intro b hb
    have hb' : ¬ ib b = 112 := fun h => hb (ib_inj.1 (h.trans (by decide)))
    rw [s_l11Form_L7_eq, idx_zero]; simp [len_eq, hb', w64_of, cut, app, big]
    rw [s_l11Form_L7_eq]; simp [len_eq]
  have lp : ∀ b : UInt8, b ≠ 112 → s_l11Form_L7 [112, b] 0 [] 0 = some (1, [b]) := by
    intro b hb
    have hb' : ¬ ib b = 112 := fun h => hb (ib_inj.1 (h.trans (by decide)))
    rw [s_l11Form_L7_eq, idx_zero]; simp [len_eq, w64_of, i0]
    rw [s_l11Form_L7_eq, idx_one]; simp [len_eq, hb', w64_of, cut, app, big]
    rw [s_l11Form_L7_eq]; simp [len_eq]
  have p1 : s_l11Form_L7 [112] 0 [] 0 = some (1, []) := by
    rw [s_l11Form_L7_eq, idx_zero]; simp [len_eq, w64_of, i0]
    rw [s_l11Form_L7_eq]; simp [len_eq]
  have p2 : s_l11Form_L7 [112, 112] 0 [] 0 = some (2, []) := by
    rw [s_l11Form_L7_eq, idx_zero]; simp [len_eq, w64_of, i0]
    rw [s_l11Form_L7_eq, idx_one]; simp [len_eq, w64_of, i0]
    rw [s_l11Form_L7_eq]; simp [len_eq]
  rw [s_l11Form_eq]
  by_cases h1 : k = 1
  · subst h1; simp [pKids]
  rw [if_neg (by simpa using h1), s_l11Word_eq]
  unfold pKids
  have a := l1 115 (by decide)
  have b := l1 110 (by decide)
  have c := l1 120 (by decide)
  have d := lp 120 (by decide)
  by_cases h : 2 ≤ k ∧ k ≤ 24
  · have : k = 2 ∨ k = 3 ∨ k = 4 ∨ k = 5 ∨ k = 6 ∨ k = 7 ∨ k = 8 ∨ k = 9 ∨ k = 10 ∨ k = 11 ∨ k = 12 ∨ k = 13 ∨ k = 14 ∨ k = 15 ∨ k = 16 ∨ k = 17 ∨ k = 18 ∨ k = 19 ∨ k = 20 ∨ k = 21 ∨ k = 22 ∨ k = 23 ∨ k = 24 := by omega
    rcases this with rfl | rfl | rfl | rfl | rfl | rfl | rfl | rfl | rfl | rfl | rfl | rfl | rfl | rfl | rfl | rfl | rfl | rfl | rfl | rfl | rfl | rfl | rfl <;> simp [a, b, c, d, p1, p2, l0]
  · have : ∀ j : Int, 2 ≤ j → j ≤ 24 → (k == j) = false := by
      intro j h1 h2; rw [beq_eq_false_iff_ne]; omega
    simp only [this, Int.reduceLE, Bool.false_eq_true, if_false, Option.bind_some, l0]
    grind

theorem s_l11Node_ok (x : TPattern) : s_l11Node x = some (pNode x) := by
  rw [s_l11Node_eq]
  simp only [s_l00In_ok, s_l11Form_ok, s_IsName_ok, Option.bind_some, ite_some, len_eq]
  unfold pNode pArg
  congr 1
  by_cases h : 1 ≤ x.fKind ∧ x.fKind ≤ 24
  · by_cases hk : (x.fKids.length : Int) = pKids x.fKind
    · by_cases c1 : x.fKind ≤ 5
      · grind
      · by_cases c2 : x.fKind ≤ 10
        · grind
        · by_cases c3 : 21 ≤ x.fKind
          · grind
          · grind
    · grind
  · grind

theorem i_countPattern_ok : ∀ x : TPattern, x.m ≤ 1048576 → ∀ c : Int, 0 ≤ c → c ≤ 60 → i_countPattern x c = some (if x.good = true ∧ c + x.n ≤ 60 then c + x.n else 61) := by
  intro x
  induction x using TPattern.ind with
  | h x ih =>
    intro hm c h0 h1
    have hmq := x.m_eq
    have hn := x.n_eq
    have loop : ∀ c : Int, 0 ≤ c → c ≤ 60 → i_countPattern_L5 c x.fKids (len x.fKids) ((0 : Nat) : Int) = some (if x.fKids.all TPattern.good = true ∧ c + sumOf TPattern.n x.fKids ≤ 60 then c + sumOf TPattern.n x.fKids else 61) := by
      refine loop_ind (xs := x.fKids) (by omega) (P := fun i l => ∀ c : Int, 0 ≤ c → c ≤ 60 → i_countPattern_L5 c x.fKids (len x.fKids) i = some (if l.all TPattern.good = true ∧ c + sumOf TPattern.n l ≤ 60 then c + sumOf TPattern.n l else 61)) ?_ ?_
      · intro c h0 h1
        rw [i_countPattern_L5_eq]
        simp [len_eq, sumOf, h1]
      · intro i y l _ hlt hy hi hw ih2 c h0 h1
        rw [i_countPattern_L5_eq, hi, hw, if_pos (by simp [len_eq, hlt])]
        have hmy := TPattern.m_kid hy
        simp only [Option.bind_some, TPattern.re_eq, ih y hy (by omega) c h0 h1]
        have e : sumOf TPattern.n (y :: l) = y.n + sumOf TPattern.n l := rfl
        rw [e, List.all_cons]
        by_cases hc : y.good = true ∧ c + y.n ≤ 60
        · rw [if_pos hc, if_neg (by simp; omega), ih2 _ (by omega) hc.2]
          congr 1
          by_cases hd : l.all TPattern.good = true ∧ c + y.n + sumOf TPattern.n l ≤ 60
          · rw [if_pos hd, if_pos ⟨Bool.and_eq_true_iff.2 ⟨hc.1, hd.1⟩, by omega⟩]; omega
          · rw [if_neg hd, if_neg fun h => hd ⟨(Bool.and_eq_true_iff.1 h.1).2, by omega⟩]
        · rw [if_neg hc, if_pos (by simp), if_neg fun h => hc ⟨(Bool.and_eq_true_iff.1 h.1).1, by omega⟩]
    have hg : x.good = (pNode x && x.fKids.all TPattern.good) := TPattern.all_eq _ _
    rw [i_countPattern_eq, w64_of (by omega) (by omega)]
    by_cases c1 : c + 1 > 60
    · rw [if_pos (by simpa using c1), i_countPattern_L3_eq, if_neg (by omega)]
    rw [if_neg (by simpa using c1), i_isArgument_ok, i_kidsOf_ok, i_countPattern_L3_eq, i_countPattern_L4_eq]
    have := loop (c + 1) (by omega) (by omega)
    simp only [Int.natCast_zero] at this
    rw [this]
    simp only [Option.bind_some, len_eq]
    unfold pNode at hg
    rw [hg]
    cases ha : pArg x.fKind x.fNum x.fText
    · simp
    · by_cases hk : (x.fKids.length : Int) = pKids x.fKind
      · simp only [hk, Bool.not_true, Bool.false_eq_true, if_false, bne_self_eq_false, decide_true, Bool.true_and]
        congr 1
        by_cases hd : x.fKids.all TPattern.good = true ∧ c + 1 + sumOf TPattern.n x.fKids ≤ 60
        · rw [if_pos hd, if_pos ⟨hd.1, by omega⟩]; omega
        · rw [if_neg hd, if_neg fun h => hd ⟨h.1, by omega⟩]
      · simp [hk]

theorem i_ValidPattern_ok {x : TPattern} (hm : x.m ≤ 1048576) : i_ValidPattern x = some x.valid := by
  rw [i_ValidPattern_eq, TPattern.re_eq, i_countPattern_ok x hm 0 (by omega) (by omega)]
  simp only [Option.bind_some, TPattern.valid]
  congr 1
  by_cases h : x.good = true ∧ (0 : Int) + x.n ≤ 60
  · rw [if_pos h, h.1]; simp; omega
  · rw [if_neg h]
    cases hg : x.good
    · simp
    · simp only [hg, true_and] at h; simp; omega

theorem s_l11Valid_ok : ∀ x : TPattern, x.m ≤ 1048576 → ∀ c : Int, 0 ≤ c → c ≤ 60 → s_l11Valid x c = some (if x.good = true ∧ x.n ≤ c then (x.n : Int) else -1) := by
  intro x
  induction x using TPattern.ind with
  | h x ih =>
    intro hm c h0 h1
    have hmq := x.m_eq
    have hn := x.n_eq
    have loop : ∀ d : Int, 0 ≤ d → d ≤ c → s_l11Valid_L5 c d ((0 : Nat) : Int) x.fKind x.fNum x.fText x.fKids = some (if x.fKids.all TPattern.good = true ∧ d + sumOf TPattern.n x.fKids ≤ c then d + sumOf TPattern.n x.fKids else -1) := by
      refine loop_ind (xs := x.fKids) (by omega) (P := fun i l => ∀ d : Int, 0 ≤ d → d ≤ c → s_l11Valid_L5 c d i x.fKind x.fNum x.fText x.fKids = some (if l.all TPattern.good = true ∧ d + sumOf TPattern.n l ≤ c then d + sumOf TPattern.n l else -1)) ?_ ?_
      · intro d h0 h1
        rw [s_l11Valid_L5_eq]
        simp [len_eq, sumOf, h1]
      · intro i y l _ hlt hy hi hw ih2 d h0 h1
        rw [s_l11Valid_L5_eq, hi, hw, if_pos (by simp [len_eq, hlt])]
        have hmy := TPattern.m_kid hy
        simp only [Option.bind_some, TPattern.re_eq]
        rw [w64_of (by omega) (by omega), ih y hy (by omega) (c - d) (by omega) (by omega)]
        have e : sumOf TPattern.n (y :: l) = y.n + sumOf TPattern.n l := rfl
        rw [e, List.all_cons]
        simp only [Option.bind_some]
        by_cases hc : y.good = true ∧ (y.n : Int) ≤ c - d
        · rw [if_pos hc, if_neg (by simp), w64_of (by omega) (by omega), ih2 _ (by omega) (by omega)]
          congr 1
          by_cases hd : l.all TPattern.good = true ∧ d + y.n + sumOf TPattern.n l ≤ c
          · rw [if_pos hd, if_pos ⟨Bool.and_eq_true_iff.2 ⟨hc.1, hd.1⟩, by omega⟩]; omega
          · rw [if_neg hd, if_neg fun h => hd ⟨(Bool.and_eq_true_iff.1 h.1).2, by omega⟩]
        · rw [if_neg hc, if_pos (by simp), if_neg fun h => hc ⟨(Bool.and_eq_true_iff.1 h.1).1, by omega⟩]
    have hg : x.good = (pNode x && x.fKids.all TPattern.good) := TPattern.all_eq _ _
    rw [s_l11Valid_eq]
    by_cases c1 : c < 1
    · rw [if_pos (by simpa using c1), if_neg (by omega)]
    rw [if_neg (by simpa using c1), TPattern.re_eq, s_l11Node_ok]
    have := loop 1 (by omega) (by omega)
    simp only [Int.natCast_zero] at this
    rw [this, hg]
    simp only [Option.bind_some]
    cases ha : pNode x
    · simp
    · simp only [Bool.not_true, Bool.false_eq_true, if_false, Bool.true_and]
      congr 1
      by_cases hd : x.fKids.all TPattern.good = true ∧ 1 + (sumOf TPattern.n x.fKids : Int) ≤ c
      · rw [if_pos hd, if_pos ⟨hd.1, by omega⟩]; omega
      · rw [if_neg hd, if_neg fun h => hd ⟨h.1, by omega⟩]

theorem s_ValidPattern_ok {x : TPattern} (hm : x.m ≤ 1048576) : s_ValidPattern x = some x.valid := by
  rw [s_ValidPattern_eq, TPattern.re_eq, s_l11Valid_ok x hm 60 (by omega) (by omega)]
  simp only [Option.bind_some, TPattern.valid]
  congr 1
  have := x.n_eq
  by_cases h : x.good = true ∧ (x.n : Int) ≤ 60
  · rw [if_pos h, h.1]; simp; omega
  · rw [if_neg h]
    cases hg : x.good
    · simp
    · simp only [hg, true_and] at h; simp; omega

end Go.Dv.U

namespace Go.Dv.U

open Go Go.Dv Go.Proofs

/-- a valid value -/
def vVal (v : TValue) : Bool :=
  if v.fKind = 1 then v.fNum == 0 && v.fRef == 0 && decide (v.fText.length ≤ 200)
  else if v.fKind = 2 then v.fText == [] && v.fRef == 0 && decide (-1000000000000 ≤ v.fNum) && decide (v.fNum ≤ 1000000000000)
  else if v.fKind = 3 then v.fNum == 0 && v.fRef == 0 && decide (1 ≤ v.fText.length) && decide (v.fText.length ≤ 1200)
  else if v.fKind = 4 ∨ v.fKind = 5 ∨ v.fKind = 6 then v.fNum == 0 && v.fText == [] && decide (1 ≤ v.fRef) && decide (v.fRef ≤ 1000000)
  else if v.fKind = 7 ∨ v.fKind = 8 then v.fNum == 0 && v.fRef == 0 && isName v.fText
  else false

theorem s_l06Plain_ok (v : TValue) (a b c : Bool) : s_l06Plain v a b c = some ((a || v.fNum == 0) && (b || v.fText == []) && (c || v.fRef == 0)) := by
  rw [s_l06Plain_eq]
  cases a <;> cases b <;> cases c <;> simp only [Bool.false_eq_true, if_false, if_true, Bool.true_or, Bool.false_or, Bool.true_and, Bool.and_true] <;> grind

theorem s_ValidValue_ok (v : TValue) : s_ValidValue v = some (vVal v) := by
  rw [s_ValidValue_eq]
  simp only [s_ValidValue_L11_eq, s_ValidValue_L12_eq, s_l06Plain_ok, s_l00In_ok, s_IsName_ok, Option.bind_some, ite_some, len_eq]
  congr 1
  unfold vVal
  have e : ∀ n : Nat, decide ((1 : Int) ≤ (n : Int)) = decide (1 ≤ n) := fun n => by rw [Bool.eq_iff_iff]; simp only [decide_eq_true_eq]; omega
  have e2 : ∀ n : Nat, decide ((n : Int) ≤ (1200 : Int)) = decide (n ≤ 1200) := fun n => by rw [Bool.eq_iff_iff]; simp only [decide_eq_true_eq]; omega
  have e3 : ∀ n : Nat, decide ((n : Int) ≤ (200 : Int)) = decide (n ≤ 200) := fun n => by rw [Bool.eq_iff_iff]; simp only [decide_eq_true_eq]; omega
  simp only [e, e2, e3]
  grind

theorem i_isObjectId_ok (n : Int) : i_isObjectId n = some (decide (1 ≤ n) && decide (n ≤ 1000000)) := by
  rw [i_isObjectId_eq, i_within_ok]; rfl

theorem i_ValidValue_ok (v : TValue) : i_ValidValue v = some (vVal v) := by
  rw [i_ValidValue_eq]
  simp only [i_ValidValue_L11_eq, i_ValidValue_L12_eq, i_isObjectId_ok, i_within_ok, i_IsName_ok, Option.bind_some, ite_some, len_eq]
  congr 1
  unfold vVal
  have e : ∀ n : Nat, decide ((n : Int) ≥ (1 : Int)) = decide (1 ≤ n) := fun n => by rw [Bool.eq_iff_iff]; simp only [decide_eq_true_eq]; omega
  have e2 : ∀ n : Nat, decide ((n : Int) ≤ (1200 : Int)) = decide (n ≤ 1200) := fun n => by rw [Bool.eq_iff_iff]; simp only [decide_eq_true_eq]; omega
  have e3 : ∀ n : Nat, decide ((n : Int) ≤ (200 : Int)) = decide (n ≤ 200) := fun n => by rw [Bool.eq_iff_iff]; simp only [decide_eq_true_eq]; omega
  simp only [e, e2, e3]
  grind

end Go.Dv.U

namespace Go.Dv.U

open Go Go.Dv Go.Proofs

def dbl : List UInt8 → List UInt8
  | [] => []
  | b :: r => if ib b = 34 then b :: 34 :: dbl r else b :: dbl r

def qtext (s : List UInt8) : List UInt8 := 34 :: (dbl s ++ [34])

theorem dbl_len : ∀ s, (dbl s).length ≤ 2 * s.length
  | [] => by simp [dbl]
  | b :: r => by have := dbl_len r; simp only [dbl]; split <;> simp <;> omega

theorem qtext_len (s : List UInt8) : (qtext s).length ≤ 2 * s.length + 2 := by
  have := dbl_len s; simp [qtext]; omega

theorem dbl_app : ∀ (a b : List UInt8), dbl (a ++ b) = dbl a ++ dbl b
  | [], b => rfl
  | x :: a, b => by simp only [List.cons_append, dbl, dbl_app a b]; split <;> simp

theorem dbl_none : ∀ (s : List UInt8), hasB 34 s = false → dbl s = s
  | [], _ => rfl
  | b :: r, h => by
    simp only [hasB, List.any_cons, Bool.or_eq_false_iff] at h
    have h1 : ¬ ib b = 34 := by simpa using h.1
    rw [dbl, if_neg h1, dbl_none r h.2]

theorem split34 : ∀ (s : List UInt8), hasB 34 s = true → ∃ a r, s = a ++ 34 :: r ∧ hasB 34 a = false
  | [], h => by simp [hasB] at h
  | b :: s, h => by
    by_cases hb : ib b = 34
    · have : b = 34 := ib_inj.1 (hb.trans (by decide))
      subst this
      exact ⟨[], s, rfl, rfl⟩
    · have h2 : hasB 34 s = true := by
        simp only [hasB, List.any_cons, Bool.or_eq_true] at h
        rcases h with h | h
        · exact absurd (by simpa using h) hb
        · exact h
      obtain ⟨a, r, e, h3⟩ := split34 s h2
      refine ⟨b :: a, r, by rw [e]; rfl, ?_⟩
      simp only [hasB, List.any_cons, Bool.or_eq_false_iff]
      exact ⟨by simpa using hb, h3⟩

theorem index34_none {s : List UInt8} (h : hasB 34 s = false) : Lib.index s [34] = -1 := by
  have h1 := index_one 34 s
  have e : ib 34 = 34 := by decide
  rw [e, h] at h1
  have := Lib.index_ge s [34]
  simp only [decide_eq_false_iff_not] at h1
  omega

theorem index34_some {a r : List UInt8} (h : hasB 34 a = false) : Lib.index (a ++ 34 :: r) [34] = (a.length : Int) := by
  refine Lib.index_first (by simp) ?_ ?_
  · simp [Lib.occAt]
  · intro j hj
    simp only [Lib.occAt]
    rw [List.drop_append_of_le_length (by omega), List.drop_eq_getElem_cons hj]
    simp only [List.cons_append, List.isPrefixOf, Bool.and_true]
    rw [beq_eq_false_iff_ne]
    intro e
    have : hasB 34 a = true := by
      simp only [hasB, List.any_eq_true]
      exact ⟨a[j], List.getElem_mem hj, by rw [← e]; decide⟩
    rw [h] at this; cases this

theorem replaceK34 : ∀ (k : Nat) (s : List UInt8), Lib.count s [34] ≤ k → Lib.replaceK [34] [34, 34] k s = dbl s
  | 0, s, h => by
    cases hb : hasB 34 s with
    | false => rw [dbl_none s hb]; rfl
    | true =>
      obtain ⟨a, r, rfl, h3⟩ := split34 s hb
      have := Lib.count_hit (sub := [34]) (by simp) (index34_some (r := r) h3)
      omega
  | k + 1, s, h => by
    cases hb : hasB 34 s with
    | false => rw [dbl_none s hb, Lib.replaceK, index34_none hb]; rfl
    | true =>
      obtain ⟨a, r, rfl, h3⟩ := split34 s hb
      have hi := index34_some (r := r) h3
      have hc := Lib.count_hit (sub := [34]) (by simp) hi
      rw [Lib.replaceK_hit _ _ _ _ _ hi]
      have e1 : (a ++ 34 :: r).take a.length = a := by simp
      have e2 : (a ++ 34 :: r).drop (a.length + ([34] : List UInt8).length) = r := by simp [List.drop_append]
      rw [e2] at hc
      rw [e1, e2, replaceK34 k r (by omega), dbl_app, dbl_none a h3]
      have e3 : ib 34 = 34 := by decide
      simp [dbl, e3]

theorem replaceAll34 (s : List UInt8) : Lib.replaceAll s [34] [34, 34] = dbl s := by
  unfold Lib.replaceAll Lib.replace
  rw [if_neg (by decide)]
  exact replaceK34 _ s (by unfold Lib.replaceNum; rw [if_pos (by left; decide)]; exact Nat.le_refl _)

theorem i_QuoteText_ok {s : List UInt8} (h : s.length ≤ 1000000) : i_QuoteText s = some (qtext s) := by
  rw [i_QuoteText_eq]
  unfold replAllS
  rw [if_pos ⟨by omega, by decide, by decide⟩, replaceAll34]
  have := dbl_len s
  simp only [Option.bind_some]
  rw [app_of (by simp; omega)]
  simp only [Option.bind_some]
  rw [app_of (by simp; omega)]
  rfl

theorem s_l11Literal_ok {s : List UInt8} (h : s.length ≤ 1000000) : s_l11Literal s = some (qtext s) := by
  have key : ∀ acc : List UInt8, acc.length + 2 * s.length ≤ 10000000 → s_l11Literal_L3 s ((0 : Nat) : Int) (acc.map ib) = some (acc ++ dbl s ++ [34]) := by
    refine loop_ind (xs := s) (by omega) (P := fun i l => ∀ acc : List UInt8, acc.length + 2 * l.length ≤ 10000000 → s_l11Literal_L3 s i (acc.map ib) = some (acc ++ dbl l ++ [34])) ?_ ?_
    · intro acc h1
      rw [s_l11Literal_L3_eq, if_neg (by simp [len_eq]), app_of (by simp at h1 ⊢; omega)]
      have e : (fun n : Int => UInt8.ofNat n.toNat) ∘ ib = id := by
        funext b
        simp [ib]
      simp [dbl, List.map_append, List.map_map, e]
    · intro i y l _ hlt hy hi hw ih acc h1
      simp only [List.length_cons] at h1
      rw [s_l11Literal_L3_eq, hi, hw, if_pos (by simp [len_eq, hlt])]
      simp only [Option.bind_some]
      rw [app_of (by simp; omega)]
      simp only [Option.bind_some]
      by_cases h34 : ib y = 34
      · rw [if_pos (by simpa using h34), app_of (by simp; omega)]
        simp only [Option.bind_some]
        have e : (acc.map ib ++ [ib y] ++ [34] : List Int) = (acc ++ [y, 34]).map ib := by
          have e3 : ib 34 = 34 := by decide
          simp [e3]
        rw [e, ih (acc ++ [y, 34]) (by simp; omega)]
        simp [dbl, h34]
      · rw [if_neg (by simpa using h34)]
        have e : (acc.map ib ++ [ib y] : List Int) = (acc ++ [y]).map ib := by simp
        rw [e, ih (acc ++ [y]) (by simp; omega)]
        simp [dbl, h34]
  rw [s_l11Literal_eq]
  have := key [34] (by simp; omega)
  simpa [qtext, show ib 34 = 34 by decide] using this

theorem s_l11Digits_ok : ∀ (k u : Nat), u < 10 ^ (k + 1) → u < 9223372036854775808 → k ≤ 100 → s_l11Digits u = some (Lib.decDigits u) := by
  intro k
  induction k with
  | zero =>
    intro u h h2 _
    have hu : u < 10 := by simpa using h
    rw [s_l11Digits_eq, if_pos (by simp only [decide_eq_true_eq]; omega)]
    simp only [List.map_cons, List.map_nil, digit_byte (r := (u : Int)) (by omega) (by omega), Int.toNat_natCast, Lib.decDigits_one hu]
  | succ k ih =>
    intro u h h2 hk
    by_cases hu : u < 10
    · rw [s_l11Digits_eq, if_pos (by simp only [decide_eq_true_eq]; omega)]
      simp only [List.map_cons, List.map_nil, digit_byte (r := (u : Int)) (by omega) (by omega), Int.toNat_natCast, Lib.decDigits_one hu]
    · have hq : u / 10 < 10 ^ (k + 1) := by rw [Nat.div_lt_iff_lt_mul (by decide)]; rw [Nat.pow_succ] at h; exact h
      have hl : (Lib.decDigits (u / 10)).length ≤ k + 1 := by rw [Lib.decDigits_length]; exact nDigits_le k _ hq
      rw [s_l11Digits_eq, if_neg (by simp only [decide_eq_true_eq]; omega), rem_ten, quo_ten h2]
      simp only [Option.bind_some]
      rw [ih (u / 10) hq (by omega) (by omega)]
      simp only [Option.bind_some, List.map_cons, List.map_nil, digit_byte (r := ((u % 10 : Nat) : Int)) (by omega) (by omega), Int.toNat_natCast]
      rw [app_of (by simp; omega)]
      have hd : Lib.decDigits u = Lib.decDigits (u / 10) ++ [UInt8.ofNat (48 + u % 10)] := by
        rw [Lib.decDigits, dif_neg hu]
      rw [hd]
      rfl

theorem s_l11Digits_int {n : Int} (h0 : 0 ≤ n) (h1 : n < 9223372036854775808) : s_l11Digits n = some (Lib.itoa n) := by
  obtain ⟨u, rfl⟩ : ∃ u : Nat, n = u := ⟨n.toNat, by omega⟩
  rw [s_l11Digits_ok 18 u (by omega) (by omega) (by decide), itoa_nat]

end Go.Dv.U

namespace Go.Dv.U

open Go Go.Dv Go.Proofs

def pWord (k : Int) : List UInt8 :=
  if k = 2 then [97, 110, 121] else if k = 3 then [110, 111, 116, 97, 110, 121] else if k = 4 then [115, 112, 97, 110] else if k = 5 then [98, 114, 101, 97, 107] else if k = 6 then [108, 101, 110]
  else if k = 7 then [112, 111, 115] else if k = 8 then [114, 112, 111, 115] else if k = 9 then [116, 97, 98] else if k = 10 then [114, 116, 97, 98] else if k = 11 then [114, 101, 109]
  else if k = 12 then [97, 114, 98] else if k = 13 then [98, 97, 108] else if k = 14 then [102, 101, 110, 99, 101] else if k = 15 then [97, 98, 111, 114, 116] else if k = 16 then [102, 97, 105, 108]
  else if k = 17 then [115, 117, 99, 99, 101, 101, 100] else if k = 18 then [97, 108, 116] else if k = 19 then [99, 97, 116] else if k = 20 then [97, 114, 98, 110, 111] else if k = 21 then [99, 111, 110, 100]
  else if k = 22 then [110, 111, 119] else if k = 23 then [99, 117, 114, 115, 111, 114] else if k = 24 then [100, 101, 102, 101, 114] else []

def pExtra (k n : Int) (t : List UInt8) : List (List UInt8) :=
  if 2 ≤ k ∧ k ≤ 5 then [qtext t] else if 6 ≤ k ∧ k ≤ 10 then [Lib.itoa n] else if 21 ≤ k ∧ k ≤ 24 then [t] else []

def wrapT (w : List UInt8) (args : List (List UInt8)) : List UInt8 := if args = [] then w else w ++ [40] ++ Lib.join args [44] ++ [41]

def pBody (k n : Int) (t : List UInt8) (ks : List (List UInt8)) : List UInt8 := if k = 1 then qtext t else wrapT (pWord k) (ks ++ pExtra k n t)

mutual
def TPattern.text : TPattern → List UInt8
  | ⟨k, n, t, ks⟩ => pBody k n t (TPattern.texts ks)
def TPattern.texts : List TPattern → List (List UInt8)
  | [] => []
  | y :: r => TPattern.text y :: TPattern.texts r
end

theorem TPattern.texts_eq : ∀ l, TPattern.texts l = l.map TPattern.text
  | [] => rfl
  | y :: r => by simp only [TPattern.texts, List.map_cons, TPattern.texts_eq r]

theorem TPattern.text_eq (x : TPattern) : x.text = pBody x.fKind x.fNum x.fText (x.fKids.map TPattern.text) := by
  rw [← TPattern.texts_eq]; cases x; rfl

theorem TPattern.good_eq (x : TPattern) : x.good = (pNode x && x.fKids.all TPattern.good) := TPattern.all_eq _ _

theorem isName_len' {s : List UInt8} (h : isName s = true) : s.length ≤ 12 := by
  cases s with
  | nil => simp
  | cons b r =>
    simp only [isName, Bool.and_eq_true_iff, decide_eq_true_eq] at h
    exact h.1.1

theorem itoa_len' {n : Int} (h0 : 0 ≤ n) (h1 : n ≤ 1000000000000) : (Lib.itoa n).length ≤ 13 := itoa_len h0 h1

theorem pWord_len (k : Int) : (pWord k).length ≤ 7 := by
  by_cases h : 2 ≤ k ∧ k ≤ 24
  · have : k = 2 ∨ k = 3 ∨ k = 4 ∨ k = 5 ∨ k = 6 ∨ k = 7 ∨ k = 8 ∨ k = 9 ∨ k = 10 ∨ k = 11 ∨ k = 12 ∨ k = 13 ∨ k = 14 ∨ k = 15 ∨ k = 16 ∨ k = 17 ∨ k = 18 ∨ k = 19 ∨ k = 20 ∨ k = 21 ∨ k = 22 ∨ k = 23 ∨ k = 24 := by omega
    rcases this with rfl | rfl | rfl | rfl | rfl | rfl | rfl | rfl | rfl | rfl | rfl | rfl | rfl | rfl | rfl | rfl | rfl | rfl | rfl | rfl | rfl | rfl | rfl <;> decide
  · have t2 : ∀ j : Int, 2 ≤ j → j ≤ 24 → ¬ k = j := by intro j h1 h2; omega
    simp [pWord, t2]

theorem lens_sumP (l : List TPattern) (C : Nat) (h : ∀ y ∈ l, y.text.length ≤ C * y.n) : Lib.lens (l.map TPattern.text) ≤ C * sumOf TPattern.n l := by
  induction l with
  | nil => simp [Lib.lens, sumOf]
  | cons y r ih =>
    have h1 := h y (by simp)
    have h2 := ih fun z hz => h z (by simp [hz])
    have : Lib.lens ((y :: r).map TPattern.text) = y.text.length + Lib.lens (r.map TPattern.text) := by simp [Lib.lens]
    rw [this]
    simp only [sumOf, Nat.mul_add]; omega

theorem join_len_le' (xs : List (List UInt8)) : (Lib.join xs [44]).length ≤ xs.length + Lib.lens xs := by
  cases xs with
  | nil => simp [Lib.join_nil]
  | cons x r => rw [Lib.join_length]; simp

theorem lens_app (a b : List (List UInt8)) : Lib.lens (a ++ b) = Lib.lens a + Lib.lens b := by simp [Lib.lens]

/-- the shapes of a good node -/
theorem pNode_cases {x : TPattern} (h : pNode x = true) : (x.fKind = 1 ∧ x.fKids = [] ∧ x.fText.length ≤ 200) ∨ ((2 ≤ x.fKind ∧ x.fKind ≤ 5) ∧ x.fKids = [] ∧ x.fText.length ≤ 200) ∨ ((6 ≤ x.fKind ∧ x.fKind ≤ 10) ∧ x.fKids = [] ∧ 0 ≤ x.fNum ∧ x.fNum ≤ 200) ∨
    ((11 ≤ x.fKind ∧ x.fKind ≤ 17) ∧ x.fKids = []) ∨ ((x.fKind = 18 ∨ x.fKind = 19) ∧ ∃ a b, x.fKids = [a, b]) ∨ (x.fKind = 20 ∧ ∃ a, x.fKids = [a]) ∨ ((x.fKind = 21 ∨ x.fKind = 22) ∧ isName x.fText = true ∧ ∃ a, x.fKids = [a]) ∨ ((x.fKind = 23 ∨ x.fKind = 24) ∧ isName x.fText = true ∧ x.fKids = []) := by
  obtain ⟨k, n, t, ks⟩ := x
  unfold pNode pArg pKids at h
  simp only at h ⊢
  by_cases hk : 1 ≤ k ∧ k ≤ 24
  · rcases ks with _ | ⟨a, _ | ⟨b, _ | ⟨c, r⟩⟩⟩ <;> simp only [List.length_nil, List.length_cons] at h <;> grind (splits := 60)
  · grind (splits := 60)

theorem pExtra_len {x : TPattern} (h : pNode x = true) : Lib.lens (pExtra x.fKind x.fNum x.fText) ≤ 402 ∧ (pExtra x.fKind x.fNum x.fText).length ≤ 1 := by
  unfold pExtra
  have hq := qtext_len x.fText
  rcases pNode_cases h with ⟨h1, _⟩ | ⟨h1, _, h2⟩ | ⟨h1, _, h2, h3⟩ | ⟨h1, _⟩ | ⟨h1, _⟩ | ⟨h1, _⟩ | ⟨h1, h2, _⟩ | ⟨h1, h2, _⟩
  · rw [if_neg (by omega), if_neg (by omega), if_neg (by omega)]; simp [Lib.lens]
  · rw [if_pos (by omega)]; simp [Lib.lens]; omega
  · rw [if_neg (by omega), if_pos (by omega)]
    have := itoa_len' h2 (by omega)
    simp [Lib.lens]; omega
  · rw [if_neg (by omega), if_neg (by omega), if_neg (by omega)]; simp [Lib.lens]
  · rw [if_neg (by omega), if_neg (by omega), if_neg (by omega)]; simp [Lib.lens]
  · rw [if_neg (by omega), if_neg (by omega), if_neg (by omega)]; simp [Lib.lens]
  · have := isName_len' h2
    rw [if_neg (by omega), if_neg (by omega), if_pos (by omega)]; simp [Lib.lens]; omega
  · have := isName_len' h2
    rw [if_neg (by omega), if_neg (by omega), if_pos (by omega)]; simp [Lib.lens]; omega

theorem pKids_le {x : TPattern} (h : pNode x = true) : x.fKids.length ≤ 2 := by
  rcases pNode_cases h with ⟨_, h2, _⟩ | ⟨_, h2, _⟩ | ⟨_, h2, _⟩ | ⟨_, h2⟩ | ⟨_, a, b, h2⟩ | ⟨_, a, h2⟩ | ⟨_, _, a, h2⟩ | ⟨_, _, h2⟩ <;> rw [h2] <;> simp

theorem wrapT_len (w : List UInt8) (args : List (List UInt8)) : (wrapT w args).length ≤ w.length + 2 + args.length + Lib.lens args := by
  unfold wrapT
  have := join_len_le' args
  split
  · omega
  · simp; omega

theorem TPattern.text_len : ∀ x : TPattern, x.good = true → x.text.length ≤ 450 * x.n := by
  intro x
  induction x using TPattern.ind with
  | h x ih =>
    intro hg
    have hn := x.n_eq
    rw [x.good_eq, Bool.and_eq_true_iff] at hg
    obtain ⟨hnode, hk⟩ := hg
    rw [List.all_eq_true] at hk
    have ih := fun y hy => ih y hy (hk y hy)
    have hl := lens_sumP x.fKids 450 ih
    have he := pExtra_len hnode
    have hkl := pKids_le hnode
    have hw := pWord_len x.fKind
    rw [x.text_eq, hn]
    unfold pBody
    by_cases h1 : x.fKind = 1
    · rw [if_pos h1]
      have hq := qtext_len x.fText
      rcases pNode_cases hnode with ⟨_, _, h3⟩ | ⟨h2, _⟩ | ⟨h2, _⟩ | ⟨h2, _⟩ | ⟨h2, _⟩ | ⟨h2, _⟩ | ⟨h2, _⟩ | ⟨h2, _⟩ <;> omega
    · rw [if_neg h1]
      have := wrapT_len (pWord x.fKind) (x.fKids.map TPattern.text ++ pExtra x.fKind x.fNum x.fText)
      rw [lens_app] at this
      simp only [List.length_append, List.length_map] at this
      omega

theorem i_hasSet_ok (k : Int) : i_hasSet k = some (decide (2 ≤ k) && decide (k ≤ 5)) := by rw [i_hasSet_eq, i_within_ok]; rfl

theorem i_hasNumber_ok (k : Int) : i_hasNumber k = some (decide (6 ≤ k) && decide (k ≤ 10)) := by rw [i_hasNumber_eq, i_within_ok]; rfl

theorem i_hasName_ok (k : Int) : i_hasName k = some (decide (21 ≤ k) && decide (k ≤ 24)) := by rw [i_hasName_eq, i_within_ok]; rfl

theorem pNames_at {k : Int} (h0 : 1 ≤ k) (h1 : k ≤ 24) : idx ([[], [], [97, 110, 121], [110, 111, 116, 97, 110, 121], [115, 112, 97, 110], [98, 114, 101, 97, 107], [108, 101, 110], [112, 111, 115], [114, 112, 111, 115], [116, 97, 98], [114, 116, 97, 98], [114, 101, 109], [97, 114, 98], [98, 97, 108], [102, 101, 110, 99, 101], [97, 98, 111, 114, 116], [102, 97, 105, 108], [115, 117, 99, 99, 101, 101, 100], [97, 108, 116], [99, 97, 116], [97, 114, 98, 110, 111], [99, 111, 110, 100], [110, 111, 119], [99, 117, 114, 115, 111, 114], [100, 101, 102, 101, 114]] : List (List UInt8)) k = some (pWord k) := by
  rw [idx_of (by omega)]
  have : k = 1 ∨ k = 2 ∨ k = 3 ∨ k = 4 ∨ k = 5 ∨ k = 6 ∨ k = 7 ∨ k = 8 ∨ k = 9 ∨ k = 10 ∨ k = 11 ∨ k = 12 ∨ k = 13 ∨ k = 14 ∨ k = 15 ∨ k = 16 ∨ k = 17 ∨ k = 18 ∨ k = 19 ∨ k = 20 ∨ k = 21 ∨ k = 22 ∨ k = 23 ∨ k = 24 := by omega
  rcases this with rfl | rfl | rfl | rfl | rfl | rfl | rfl | rfl | rfl | rfl | rfl | rfl | rfl | rfl | rfl | rfl | rfl | rfl | rfl | rfl | rfl | rfl | rfl | rfl <;> rfl

theorem i_Pattern_text_ok : ∀ x : TPattern, x.good = true → x.n ≤ 1000000 → i_Pattern_text x = some x.text := by
  intro x
  induction x using TPattern.ind with
  | h x ih =>
    intro hg hn60
    have hlen := x.text_len hg
    have hn := x.n_eq
    rw [x.good_eq, Bool.and_eq_true_iff] at hg
    obtain ⟨hnode, hk⟩ := hg
    rw [List.all_eq_true] at hk
    have kid : ∀ y ∈ x.fKids, i_Pattern_text y = some y.text ∧ y.text.length ≤ 450000000 := fun y hy => by
      have h1 := sumOf_mem (m := TPattern.n) hy
      have h2 := y.text_len (hk y hy)
      exact ⟨ih y hy (hk y hy) (by omega), by omega⟩
    have hkl := pKids_le hnode
    have he := pExtra_len hnode
    have hw := pWord_len x.fKind
    have hl := lens_sumP x.fKids 450 (fun y hy => y.text_len (hk y hy))
    have hq := qtext_len x.fText
    rw [i_Pattern_text_eq, x.text_eq]
    -- the end
    have fin : ∀ args : List (List UInt8), 1 ≤ x.fKind → x.fKind ≤ 24 → args.length ≤ 3 → Lib.lens args ≤ 1000000000 → i_Pattern_text_L15 x.fKind x.fNum x.fText x.fKids args = some (wrapT (pWord x.fKind) args) := by
      intro args h0 h1 h2 h3
      have hj := join_len_le' args
      rw [i_Pattern_text_L15_eq, i_patternNames_eq]
      simp only [Option.bind_some]
      rw [pNames_at h0 h1]
      simp only [Option.bind_some]
      unfold wrapT
      by_cases ha : args = []
      · subst ha; simp [len_eq]
      · have hb : ¬ (len args == 0) = true := by
          rw [beq_iff_eq, len_eq]
          intro h
          exact ha (List.eq_nil_of_length_eq_zero (by omega))
        rw [if_neg hb, if_neg ha, app_of (by simp; omega)]
        unfold joinS
        rw [if_pos (by unfold big; omega)]
        simp only [Option.bind_some]
        rw [app_of (by simp; omega)]
        simp only [Option.bind_some]
        rw [app_of (by simp; omega)]
        rfl
    have tail : ∀ acc : List (List UInt8), acc.length ≤ 2 → Lib.lens acc ≤ 500000000 → i_Pattern_text_L3 x.fKids (len x.fKids) (len x.fKids) x.fKind x.fNum x.fText x.fKids acc = some (if x.fKind = 1 then qtext x.fText else wrapT (pWord x.fKind) (acc ++ pExtra x.fKind x.fNum x.fText)) := by
      intro acc h1 h2
      rw [i_Pattern_text_L3_eq, if_neg (by simp)]
      have hle := lens_app acc (pExtra x.fKind x.fNum x.fText)
      have hll : (acc ++ pExtra x.fKind x.fNum x.fText).length ≤ 3 := by rw [List.length_append]; omega
      simp only [i_hasSet_ok, i_hasNumber_ok, i_hasName_ok, Option.bind_some]
      have fin' := fin (acc ++ pExtra x.fKind x.fNum x.fText)
      have hbd : Lib.lens (acc ++ pExtra x.fKind x.fNum x.fText) ≤ 1000000000 := by rw [hle]; omega
      clear hle
      unfold pExtra at fin' hbd hll ⊢
      rcases pNode_cases hnode with ⟨a1, _, a2⟩ | ⟨a1, _, a2⟩ | ⟨a1, _, a2, a3⟩ | ⟨a1, _⟩ | ⟨a1, _⟩ | ⟨a1, _⟩ | ⟨a1, a2, _⟩ | ⟨a1, a2, _⟩
      · rw [if_pos (by simpa using a1), if_pos a1, i_QuoteText_ok (by omega)]; rfl
      · rw [if_neg (by simp; omega), if_pos (by simp; omega), i_QuoteText_ok (by omega), if_neg (by omega)]
        simp only [Option.bind_some]
        rw [if_pos (by omega)] at fin' hbd hll
        rw [if_pos (by omega), app_of (by simp; omega)]
        exact fin' (by omega) (by omega) hll hbd
      · rw [if_neg (by simp; omega), if_neg (by simp; omega), if_pos (by simp; omega), i_decimal_ok (by omega) (by omega), if_neg (by omega)]
        simp only [Option.bind_some]
        rw [if_neg (by omega), if_pos (by omega)] at fin' hbd hll
        rw [if_neg (by omega), if_pos (by omega), app_of (by simp; omega)]
        exact fin' (by omega) (by omega) hll hbd
      · rw [if_neg (by simp; omega), if_neg (by simp; omega), if_neg (by simp; omega), if_neg (by simp; omega), if_neg (by omega)]
        rw [if_neg (by omega), if_neg (by omega), if_neg (by omega), List.append_nil] at fin' hbd hll
        rw [if_neg (by omega), if_neg (by omega), if_neg (by omega), List.append_nil]
        exact fin' (by omega) (by omega) hll hbd
      · rw [if_neg (by simp; omega), if_neg (by simp; omega), if_neg (by simp; omega), if_neg (by simp; omega), if_neg (by omega)]
        rw [if_neg (by omega), if_neg (by omega), if_neg (by omega), List.append_nil] at fin' hbd hll
        rw [if_neg (by omega), if_neg (by omega), if_neg (by omega), List.append_nil]
        exact fin' (by omega) (by omega) hll hbd
      · rw [if_neg (by simp; omega), if_neg (by simp; omega), if_neg (by simp; omega), if_neg (by simp; omega), if_neg (by omega)]
        rw [if_neg (by omega), if_neg (by omega), if_neg (by omega), List.append_nil] at fin' hbd hll
        rw [if_neg (by omega), if_neg (by omega), if_neg (by omega), List.append_nil]
        exact fin' (by omega) (by omega) hll hbd
      · have := isName_len' a2
        rw [if_neg (by simp; omega), if_neg (by simp; omega), if_neg (by simp; omega), if_pos (by simp; omega), if_neg (by omega)]
        rw [if_neg (by omega), if_neg (by omega), if_pos (by omega)] at fin' hbd hll
        rw [if_neg (by omega), if_neg (by omega), if_pos (by omega), app_of (by simp; omega)]
        exact fin' (by omega) (by omega) hll hbd
      · have := isName_len' a2
        rw [if_neg (by simp; omega), if_neg (by simp; omega), if_neg (by simp; omega), if_pos (by simp; omega), if_neg (by omega)]
        rw [if_neg (by omega), if_neg (by omega), if_pos (by omega)] at fin' hbd hll
        rw [if_neg (by omega), if_neg (by omega), if_pos (by omega), app_of (by simp; omega)]
        exact fin' (by omega) (by omega) hll hbd
    have loop : ∀ acc : List (List UInt8), acc.length + x.fKids.length ≤ 2 → Lib.lens acc + Lib.lens (x.fKids.map TPattern.text) ≤ 500000000 → i_Pattern_text_L3 x.fKids (len x.fKids) ((0 : Nat) : Int) x.fKind x.fNum x.fText x.fKids acc = some (if x.fKind = 1 then qtext x.fText else wrapT (pWord x.fKind) ((acc ++ x.fKids.map TPattern.text) ++ pExtra x.fKind x.fNum x.fText)) := by
      refine loop_ind (xs := x.fKids) (by omega) (P := fun i l => ∀ acc : List (List UInt8), acc.length + l.length ≤ 2 → Lib.lens acc + Lib.lens (l.map TPattern.text) ≤ 500000000 → i_Pattern_text_L3 x.fKids (len x.fKids) i x.fKind x.fNum x.fText x.fKids acc = some (if x.fKind = 1 then qtext x.fText else wrapT (pWord x.fKind) ((acc ++ l.map TPattern.text) ++ pExtra x.fKind x.fNum x.fText))) ?_ ?_
      · intro acc h1 h2
        have := tail acc (by simpa using h1) (by omega)
        rw [len_eq] at this ⊢
        simpa using this
      · intro i y l _ hlt hy hi hw ih2 acc h1 h2
        rw [i_Pattern_text_L3_eq, hi, hw, if_pos (by simp [len_eq, hlt])]
        simp only [Option.bind_some, TPattern.re_eq, (kid y hy).1]
        simp only [List.length_cons] at h1
        rw [app_of (by simp; omega)]
        simp only [Option.bind_some]
        have e2 : Lib.lens ((y :: l).map TPattern.text) = y.text.length + Lib.lens (l.map TPattern.text) := by simp [Lib.lens]
        rw [e2] at h2
        rw [ih2 (acc ++ [y.text]) (by simp; omega) (by rw [lens_app]; simp [Lib.lens] at h2 ⊢; omega)]
        simp
    have := loop [] (by simpa using hkl) (by simp [Lib.lens] at hl ⊢; omega)
    simpa [pBody] using this

theorem s_l11Word_ok {k : Int} (h1 : ¬ k = 1) : s_l11Word k = some (pWord k, if 2 ≤ k ∧ k ≤ 5 then [115] else if 6 ≤ k ∧ k ≤ 10 then [110] else if k = 18 ∨ k = 19 then [112, 112] else if k = 20 then [112] else if k = 21 ∨ k = 22 then [112, 120] else if k = 23 ∨ k = 24 then [120] else []) := by
  rw [s_l11Word_eq]
  by_cases h : 2 ≤ k ∧ k ≤ 24
  · have : k = 2 ∨ k = 3 ∨ k = 4 ∨ k = 5 ∨ k = 6 ∨ k = 7 ∨ k = 8 ∨ k = 9 ∨ k = 10 ∨ k = 11 ∨ k = 12 ∨ k = 13 ∨ k = 14 ∨ k = 15 ∨ k = 16 ∨ k = 17 ∨ k = 18 ∨ k = 19 ∨ k = 20 ∨ k = 21 ∨ k = 22 ∨ k = 23 ∨ k = 24 := by omega
    rcases this with rfl | rfl | rfl | rfl | rfl | rfl | rfl | rfl | rfl | rfl | rfl | rfl | rfl | rfl | rfl | rfl | rfl | rfl | rfl | rfl | rfl | rfl | rfl <;> rfl
  · have : ∀ j : Int, 2 ≤ j → j ≤ 24 → (k == j) = false := by
      intro j h1 h2; rw [beq_eq_false_iff_ne]; omega
    have t2 : ∀ j : Int, 2 ≤ j → j ≤ 24 → ¬ k = j := by intro j h1 h2; omega
    have t3 : ¬ (2 ≤ k ∧ k ≤ 5) := by omega
    have t4 : ¬ (6 ≤ k ∧ k ≤ 10) := by omega
    simp only [this, t2, t3, t4, Int.reduceLE, Bool.false_eq_true, if_false, pWord, or_self]

theorem s_l11Text_ok : ∀ x : TPattern, x.good = true → x.n ≤ 1000000 → s_l11Text x = some x.text := by
  intro x
  induction x using TPattern.ind with
  | h x ih =>
    intro hg hn60
    have hn := x.n_eq
    rw [x.good_eq, Bool.and_eq_true_iff] at hg
    obtain ⟨hnode, hk⟩ := hg
    rw [List.all_eq_true] at hk
    have kid : ∀ y ∈ x.fKids, s_l11Text y = some y.text ∧ y.text.length ≤ 450000000 := fun y hy => by
      have h1 := sumOf_mem (m := TPattern.n) hy
      have h2 := y.text_len (hk y hy)
      exact ⟨ih y hy (hk y hy) (by omega), by omega⟩
    have hw := pWord_len x.fKind
    have hq := qtext_len x.fText
    rw [s_l11Text_eq, x.text_eq]
    unfold pBody
    by_cases h1 : x.fKind = 1
    · rw [if_pos (by simpa using h1), if_pos h1]
      rcases pNode_cases hnode with ⟨_, _, h3⟩ | ⟨h2, _⟩ | ⟨h2, _⟩ | ⟨h2, _⟩ | ⟨h2, _⟩ | ⟨h2, _⟩ | ⟨h2, _⟩ | ⟨h2, _⟩
      · rw [s_l11Literal_ok (by omega)]; rfl
      all_goals omega
    · rw [if_neg (by simpa using h1), if_neg h1]
      have i0 : ib 112 = 112 := by decide
      have i1 : ib 115 = 115 := by decide
      have i2 : ib 110 = 110 := by decide
      have i3 : ib 120 = 120 := by decide
      -- the ends of the loop
      have e1 : ∀ (b : UInt8) (acc : List UInt8) (kd : Int), acc.length ≤ 2000000000 → s_l11Text_L9 [b] acc kd 1 x.fKind x.fNum x.fText x.fKids = some (acc ++ [41]) := by
        intro b acc kd h
        rw [s_l11Text_L9_eq, if_neg (by simp [len_eq]), app_of (by simp; omega)]; rfl
      have e2 : ∀ (b c : UInt8) (acc : List UInt8) (kd : Int), acc.length ≤ 2000000000 → s_l11Text_L9 [b, c] acc kd 2 x.fKind x.fNum x.fText x.fKids = some (acc ++ [41]) := by
        intro b c acc kd h
        rw [s_l11Text_L9_eq, if_neg (by simp [len_eq]), app_of (by simp; omega)]; rfl
      have w1 : w64 (0 + 1) = 1 := by decide
      have w2 : w64 (1 + 1) = 2 := by decide
      rcases pNode_cases hnode with ⟨a1, _, a2⟩ | ⟨a1, a4, a2⟩ | ⟨a1, a4, a2, a3⟩ | ⟨a1, a4⟩ | ⟨a1, a, b, a4⟩ | ⟨a1, a, a4⟩ | ⟨a1, a2, a, a4⟩ | ⟨a1, a2, a4⟩
      · exact absurd a1 h1
      · have hE : pExtra x.fKind x.fNum x.fText = [qtext x.fText] := by unfold pExtra; rw [if_pos a1]
        have hW : s_l11Word x.fKind = some (pWord x.fKind, [115]) := by rw [s_l11Word_ok h1]; rw [if_pos a1]
        have hm : x.fKids.map TPattern.text = [] := by rw [a4]; rfl
        rw [hW, hE, hm]
        simp only [Option.bind_some, List.nil_append, List.append_nil, wrapT]
        rw [if_neg (by decide), app_of (by simp; omega)]
        simp only [Option.bind_some]
        rw [s_l11Text_L9_eq, if_pos (by simp [len_eq]), if_neg (by simp), idx_zero]
        simp only [List.getElem?_cons_zero, Option.bind_some, i0, i1, i2, i3]
        rw [if_pos (by simp), s_l11Literal_ok (by omega)]
        simp only [Option.bind_some]
        rw [app_of (by simp; omega)]
        simp only [Option.bind_some]
        rw [s_l11Text_L10_eq, w1, e1 _ _ _ (by simp; omega)]
        simp [Lib.join_one]
      · have := itoa_len' a2 (by omega)
        have hE : pExtra x.fKind x.fNum x.fText = [Lib.itoa x.fNum] := by unfold pExtra; rw [if_neg (by omega), if_pos a1]
        have hW : s_l11Word x.fKind = some (pWord x.fKind, [110]) := by rw [s_l11Word_ok h1]; rw [if_neg (by omega), if_pos a1]
        have hm : x.fKids.map TPattern.text = [] := by rw [a4]; rfl
        rw [hW, hE, hm]
        simp only [Option.bind_some, List.nil_append, List.append_nil, wrapT]
        rw [if_neg (by decide), app_of (by simp; omega)]
        simp only [Option.bind_some]
        rw [s_l11Text_L9_eq, if_pos (by simp [len_eq]), if_neg (by simp), idx_zero]
        simp only [List.getElem?_cons_zero, Option.bind_some, i0, i1, i2, i3]
        rw [if_neg (by simp), if_pos (by simp), s_l11Digits_int (by omega) (by omega)]
        simp only [Option.bind_some]
        rw [app_of (by simp; omega)]
        simp only [Option.bind_some]
        rw [s_l11Text_L10_eq, w1, e1 _ _ _ (by simp; omega)]
        simp [Lib.join_one]
      · have hE : pExtra x.fKind x.fNum x.fText = [] := by unfold pExtra; rw [if_neg (by omega), if_neg (by omega), if_neg (by omega)]
        have hW : s_l11Word x.fKind = some (pWord x.fKind, []) := by rw [s_l11Word_ok h1]; rw [if_neg (by omega), if_neg (by omega), if_neg (by omega), if_neg (by omega), if_neg (by omega), if_neg (by omega)]
        have hm : x.fKids.map TPattern.text = [] := by rw [a4]; rfl
        rw [hW, hE, hm]
        simp only [Option.bind_some, List.nil_append, List.append_nil, wrapT]
        simp
      · obtain ⟨ka, la⟩ := kid a (by simp [a4])
        obtain ⟨kb, lb⟩ := kid b (by simp [a4])
        have x0 : idx x.fKids 0 = some a := by rw [a4, idx_zero]; rfl
        have x1 : idx x.fKids 1 = some b := by rw [a4, idx_one]; rfl
        have hE : pExtra x.fKind x.fNum x.fText = [] := by unfold pExtra; rw [if_neg (by omega), if_neg (by omega), if_neg (by omega)]
        have hW : s_l11Word x.fKind = some (pWord x.fKind, [112, 112]) := by rw [s_l11Word_ok h1]; rw [if_neg (by omega), if_neg (by omega), if_pos a1]
        have hm : x.fKids.map TPattern.text = [a.text, b.text] := by rw [a4]; rfl
        rw [hW, hE, hm]
        simp only [Option.bind_some, List.nil_append, List.append_nil, wrapT]
        rw [if_neg (by decide), app_of (by simp; omega)]
        simp only [Option.bind_some]
        rw [s_l11Text_L9_eq, if_pos (by simp [len_eq]), if_neg (by simp), idx_zero]
        simp only [List.getElem?_cons_zero, Option.bind_some, i0, i1, i2, i3]
        rw [if_neg (by simp), if_neg (by simp), if_neg (by simp), x0]
        simp only [Option.bind_some, TPattern.re_eq, ka]
        rw [app_of (by simp; omega)]
        simp only [Option.bind_some]
        rw [s_l11Text_L10_eq, w1, s_l11Text_L9_eq, if_pos (by simp [len_eq]), if_pos (by simp), app_of (by simp; omega)]
        simp only [Option.bind_some]
        rw [idx_one]
        simp only [List.getElem?_cons_succ, List.getElem?_cons_zero, Option.bind_some, i0, i1, i2, i3]
        rw [if_neg (by simp), if_neg (by simp), if_neg (by simp), x1]
        simp only [Option.bind_some, TPattern.re_eq, kb]
        rw [app_of (by simp; omega)]
        simp only [Option.bind_some]
        rw [s_l11Text_L10_eq, w2, e2 _ _ _ _ (by simp; omega)]
        simp [Lib.join_cons, Lib.joinTail]
      · obtain ⟨ka, la⟩ := kid a (by simp [a4])
        have x0 : idx x.fKids 0 = some a := by rw [a4, idx_zero]; rfl
        have hE : pExtra x.fKind x.fNum x.fText = [] := by unfold pExtra; rw [if_neg (by omega), if_neg (by omega), if_neg (by omega)]
        have hW : s_l11Word x.fKind = some (pWord x.fKind, [112]) := by rw [s_l11Word_ok h1]; rw [if_neg (by omega), if_neg (by omega), if_neg (by omega), if_pos a1]
        have hm : x.fKids.map TPattern.text = [a.text] := by rw [a4]; rfl
        rw [hW, hE, hm]
        simp only [Option.bind_some, List.nil_append, List.append_nil, wrapT]
        rw [if_neg (by decide), app_of (by simp; omega)]
        simp only [Option.bind_some]
        rw [s_l11Text_L9_eq, if_pos (by simp [len_eq]), if_neg (by simp), idx_zero]
        simp only [List.getElem?_cons_zero, Option.bind_some, i0, i1, i2, i3]
        rw [if_neg (by simp), if_neg (by simp), if_neg (by simp), x0]
        simp only [Option.bind_some, TPattern.re_eq, ka]
        rw [app_of (by simp; omega)]
        simp only [Option.bind_some]
        rw [s_l11Text_L10_eq, w1, e1 _ _ _ (by simp; omega)]
        simp [Lib.join_one]
      · obtain ⟨ka, la⟩ := kid a (by simp [a4])
        have hnl := isName_len' a2
        have x0 : idx x.fKids 0 = some a := by rw [a4, idx_zero]; rfl
        have hE : pExtra x.fKind x.fNum x.fText = [x.fText] := by unfold pExtra; rw [if_neg (by omega), if_neg (by omega), if_pos (by omega)]
        have hW : s_l11Word x.fKind = some (pWord x.fKind, [112, 120]) := by rw [s_l11Word_ok h1]; rw [if_neg (by omega), if_neg (by omega), if_neg (by omega), if_neg (by omega), if_pos a1]
        have hm : x.fKids.map TPattern.text = [a.text] := by rw [a4]; rfl
        rw [hW, hE, hm]
        simp only [Option.bind_some, List.nil_append, List.append_nil, wrapT]
        rw [if_neg (by decide), app_of (by simp; omega)]
        simp only [Option.bind_some]
        rw [s_l11Text_L9_eq, if_pos (by simp [len_eq]), if_neg (by simp), idx_zero]
        simp only [List.getElem?_cons_zero, Option.bind_some, i0, i1, i2, i3]
        rw [if_neg (by simp), if_neg (by simp), if_neg (by simp), x0]
        simp only [Option.bind_some, TPattern.re_eq, ka]
        rw [app_of (by simp; omega)]
        simp only [Option.bind_some]
        rw [s_l11Text_L10_eq, w1, s_l11Text_L9_eq, if_pos (by simp [len_eq]), if_pos (by simp), app_of (by simp; omega)]
        simp only [Option.bind_some]
        rw [idx_one]
        simp only [List.getElem?_cons_succ, List.getElem?_cons_zero, Option.bind_some, i0, i1, i2, i3]
        rw [if_neg (by simp), if_neg (by simp), if_pos (by simp), app_of (by simp; omega)]
        simp only [Option.bind_some]
        rw [s_l11Text_L10_eq, w2, e2 _ _ _ _ (by simp; omega)]
        simp [Lib.join_cons, Lib.joinTail]
      · have hnl := isName_len' a2
        have hE : pExtra x.fKind x.fNum x.fText = [x.fText] := by unfold pExtra; rw [if_neg (by omega), if_neg (by omega), if_pos (by omega)]
        have hW : s_l11Word x.fKind = some (pWord x.fKind, [120]) := by rw [s_l11Word_ok h1]; rw [if_neg (by omega), if_neg (by omega), if_neg (by omega), if_neg (by omega), if_neg (by omega), if_pos a1]
        have hm : x.fKids.map TPattern.text = [] := by rw [a4]; rfl
        rw [hW, hE, hm]
        simp only [Option.bind_some, List.nil_append, List.append_nil, wrapT]
        rw [if_neg (by decide), app_of (by simp; omega)]
        simp only [Option.bind_some]
        rw [s_l11Text_L9_eq, if_pos (by simp [len_eq]), if_neg (by simp), idx_zero]
        simp only [List.getElem?_cons_zero, Option.bind_some, i0, i1, i2, i3]
        rw [if_neg (by simp), if_neg (by simp), if_pos (by simp), app_of (by simp; omega)]
        simp only [Option.bind_some]
        rw [s_l11Text_L10_eq, w1, e1 _ _ _ (by simp; omega)]
        simp [Lib.join_one]

theorem s_PatternText_ok {x : TPattern} (hm : x.m ≤ 1048576) : s_PatternText x = some (if x.valid = true then x.text else []) := by
  rw [s_PatternText_eq, TPattern.re_eq, s_ValidPattern_ok hm]
  simp only [Option.bind_some]
  cases h : x.valid
  · rfl
  · unfold TPattern.valid at h
    rw [Bool.and_eq_true_iff, decide_eq_true_eq] at h
    rw [s_l11Text_ok x h.1 (by omega)]
    rfl

def pVal (x : TPattern) : TValue × Int := if x.valid = true then (if vVal ⟨3, 0, x.text, 0⟩ = true then (⟨3, 0, x.text, 0⟩, 0) else (⟨0, 0, [], 0⟩, 6)) else (⟨0, 0, [], 0⟩, 1)

theorem i_PatternValue_ok {x : TPattern} (hm : x.m ≤ 1048576) : i_PatternValue x = some (pVal x) := by
  rw [i_PatternValue_eq, TPattern.re_eq, i_ValidPattern_ok hm]
  simp only [Option.bind_some, pVal]
  cases h : x.valid
  · rfl
  · unfold TPattern.valid at h
    rw [Bool.and_eq_true_iff, decide_eq_true_eq] at h
    rw [i_Pattern_text_ok x h.1 (by omega)]
    simp only [Option.bind_some, i_ValidValue_ok, Bool.not_true, Bool.false_eq_true, if_false, if_true]
    cases vVal ⟨3, 0, x.text, 0⟩ <;> rfl

theorem s_PatternValue_ok {x : TPattern} (hm : x.m ≤ 1048576) : s_PatternValue x = some (pVal x) := by
  rw [s_PatternValue_eq, TPattern.re_eq, s_ValidPattern_ok hm, s_PatternText_ok hm]
  simp only [Option.bind_some, pVal]
  cases h : x.valid
  · rfl
  · simp only [Option.bind_some, s_ValidValue_ok, Bool.not_true, Bool.false_eq_true, if_false, if_true]
    cases vVal ⟨3, 0, x.text, 0⟩ <;> rfl

theorem l_FnExactPatternValue_ok {x : TPattern} (hok : x.Ok) : l_FnExactPatternValue x = some true := by
  rw [l_FnExactPatternValue_eq]
  simp only [TPattern.re_eq, szPattern_ok x hok 1048576 (by decide) (by decide), Option.bind_some]
  by_cases c : minus 1048576 x.m < 0
  · simp [c]
  · have hm : x.m ≤ 1048576 := by have := minus_le c; omega
    have he : ∀ v : TValue, l_eqValue v v = some true := fun v => by rw [l_eqValue_eq]; simp
    simp only [c, decide_false, Bool.false_eq_true, if_false, toPattern_ok x hm, s_PatternValue_ok hm, i_PatternValue_ok hm, eqPattern_ok x hm, Option.bind_some, TValue.re_eq, he]
    simp

end Go.Dv.U
