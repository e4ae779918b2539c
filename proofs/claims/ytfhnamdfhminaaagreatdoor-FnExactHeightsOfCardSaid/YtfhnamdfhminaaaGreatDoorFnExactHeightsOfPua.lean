/- Plain laws about these equations. -/
import Derived.Test.YtfhnamdfhminaaaGreatDoorFnExactHeightsOfEqb
set_option linter.all false
set_option linter.unusedVariables false
set_option linter.unusedSimpArgs false
namespace Go.Dv.U
open Go Go.Dv Go.Proofs
theorem TExpr.ind {P : TExpr → Prop} (h : ∀ x, (∀ y ∈ x.fKids, P y) → P x) : ∀ x, P x := by
 intro x
 exact TExpr.rec (motive_1 := P) (motive_2 := fun l => ∀ y ∈ l, P y) (fun a0 a1 a2 a3 ih => h ⟨a0, a1, a2, a3⟩ ih) (fun y hy => by cases hy)
  (fun a l ha hl y hy => by
   cases hy with
   | head => exact ha
   | tail _ hy => exact hl y hy) x
inductive TExpr.Ok : TExpr → Prop
 | mk (x : TExpr) (h0 : (-9223372036854775808 ≤ x.fKind ∧ x.fKind ≤ 9223372036854775807) ∧ (-9223372036854775808 ≤ x.fNum ∧ x.fNum ≤ 9223372036854775807) ∧ x.fText.length ≤ 9223372036854775807 ∧ x.fKids.length ≤ 9223372036854775807) (h1 : ∀ y ∈ x.fKids, TExpr.Ok y) : TExpr.Ok x
theorem TExpr.Ok.P_fText {x : TExpr} (h : x.Ok) : x.fText.length ≤ 9223372036854775807 := by cases h with | mk _ h0 h1 => exact h0.2.2.1
theorem TExpr.Ok.P_fKids_len {x : TExpr} (h : x.Ok) : x.fKids.length ≤ 9223372036854775807 := by cases h with | mk _ h0 h1 => exact h0.2.2.2
theorem TExpr.Ok.P_fKids {x : TExpr} (h : x.Ok) : ∀ y ∈ x.fKids, y.Ok := by cases h with | mk _ h0 h1 => exact h1
theorem TExpr.ok_cells : ∀ x : TExpr, (∀ c ∈ GG.cells 112 x, ∀ k, WfV GG k c) → x.Ok := by
 intro x
 induction x using TExpr.ind with
 | h x ih =>
  intro h
  have h : ∀ c ∈ ([.int .i64 x.fKind, .int .i64 x.fNum, .str x.fText, .sl (.st 112) x.fKids] : List (V GG.S)), ∀ k, WfV GG k c := h
  exact .mk x ⟨wfv_int (h (.int .i64 x.fKind) (by simp) 1), wfv_int (h (.int .i64 x.fNum) (by simp) 1), wfv_str (h (.str x.fText) (by simp) 1), (wfv_sl (h (.sl (.st 112) x.fKids) (by simp))).1⟩ fun y hy => ih y hy ((wfv_sl (h (.sl (.st 112) x.fKids) (by simp))).2 y hy)
theorem TExpr.ok_of {x : TExpr} (h : ∀ k, WfV GG k (inj GG (.st 112) x)) : x.Ok := TExpr.ok_cells x (wfv_st h)
mutual
def TExpr.m : TExpr → Nat
 | ⟨_, _, a2, a3⟩ => a2.length + (a3.length + TExpr.ms a3)
def TExpr.ms : List TExpr → Nat
 | [] => 0
 | y :: r => TExpr.m y + TExpr.ms r
end
theorem TExpr.ms_eq : ∀ l, TExpr.ms l = sumOf TExpr.m l
 | [] => rfl
 | y :: r => by simp only [TExpr.ms, sumOf, TExpr.ms_eq r]
theorem TExpr.m_eq (x : TExpr) : x.m = x.fText.length + (x.fKids.length + sumOf TExpr.m x.fKids) := by
 rw [← TExpr.ms_eq]; cases x; rfl
theorem TExpr.m_kid {x y : TExpr} (h : y ∈ x.fKids) : y.m + x.fKids.length ≤ x.m := by
 have := sumOf_mem (m := TExpr.m) h
 rw [TExpr.m_eq x]; omega
theorem szExprS_of {xs : (List TExpr)} (hx : xs.length ≤ 9223372036854775807)
  (hF : ∀ y ∈ xs, ∀ b : Int, 0 ≤ b → b < 4611686018427387904 → l_szExpr y b = some (minus b (TExpr.m y))) {b : Int} (h0 : 0 ≤ b) (h1 : b < 4611686018427387904) :
  l_szExprS xs b = some (minus b (xs.length + sumOf TExpr.m xs)) := by
 rw [l_szExprS_eq]
 obtain ⟨e1, e2⟩ := minus_len (l := xs) h0 h1 hx
 by_cases c : minus b xs.length < 0
 ·simp only [e1.2 c, decide_true, if_true, minus_neg c]
 ·rw [if_neg (by simpa using fun h => c (e1.1 h)), e2 c, sz_loop hx (J := l_szExprS_L5) (F := l_szExpr) (m := TExpr.m) (fun b i => by rw [l_szExprS_L5_eq]; try simp only [TExpr.re_eq, TGoto.re_eq, TStatement.re_eq, TProgram.re_eq, TInstr.re_eq, TCode.re_eq]) hF _ (minus_nonneg c) (minus_lt (by omega) h1), minus_minus c]
theorem eqExprS_of {xs : (List TExpr)} (hx : xs.length ≤ 9223372036854775807) (hF : ∀ y ∈ xs, l_eqExpr y y = some true) : l_eqExprS xs xs = some true := by
 rw [l_eqExprS_eq]
 simp only [bne_self_eq_false, Bool.false_eq_true, if_false]
 exact eq_loop (by omega) (J := l_eqExprS_L4) (F := l_eqExpr) (fun i => by rw [l_eqExprS_L4_eq]; try simp only [TExpr.re_eq, TGoto.re_eq, TStatement.re_eq, TProgram.re_eq, TInstr.re_eq, TCode.re_eq]) hF
theorem szExpr_ok : ∀ x : TExpr, x.Ok → ∀ b : Int, 0 ≤ b → b < 4611686018427387904 → l_szExpr x b = some (minus b x.m) := by
 intro x
 induction x using TExpr.ind with
 | h x ih =>
  intro hok b h0 h1
  rw [l_szExpr_eq]
  try simp only [TExpr.re_eq, TGoto.re_eq, TStatement.re_eq, TProgram.re_eq, TInstr.re_eq, TCode.re_eq]
  -- fText
  obtain ⟨e1, e2⟩ := minus_len (b := b) (l := x.fText) h0 h1 hok.P_fText
  by_cases c0 : minus b (x.fText.length) < 0
  ·simp only [e1.2 c0, decide_true, if_true]
   rw [minus_neg_le c0 (by rw [TExpr.m_eq]; omega)]
  have e3 := mt e1.1 c0
  simp only [e3, e2 c0, c0, decide_false, Bool.false_eq_true, if_false]
  -- fKids
  rw [szExprS_of hok.P_fKids_len (fun y hy b h0 h1 => ih y hy (hok.P_fKids y hy) b h0 h1) (minus_nonneg c0) (minus_lt (by omega) h1)]
  simp only [Option.bind_some]
  simp only [minus_minus c0]
  by_cases c1 : minus b (x.fText.length + (x.fKids.length + sumOf TExpr.m x.fKids)) < 0
  ·simp only [c1, decide_true, if_true]
   rw [minus_neg_le c1 (by rw [TExpr.m_eq]; omega)]
  simp only [c1, decide_false, Bool.false_eq_true, if_false]
  try rw [TExpr.m_eq]
theorem eqExpr_ok : ∀ x : TExpr, x.m ≤ 1048576 → l_eqExpr x x = some true := by
 intro x
 induction x using TExpr.ind with
 | h x ih =>
  intro hm
  have hq := x.m_eq
  rw [l_eqExpr_eq]
  try simp only [TExpr.re_eq, TGoto.re_eq, TStatement.re_eq, TProgram.re_eq, TInstr.re_eq, TCode.re_eq]
  rw [eqExprS_of (xs := x.fKids) (by omega) fun y hy => ih y hy (by have := TExpr.m_kid hy; omega)]
  simp
structure TGoto.Ok (x : TGoto) : Prop where
 P_fAlways : x.fAlways.length ≤ 9223372036854775807
 P_fSuccess : x.fSuccess.length ≤ 9223372036854775807
 P_fFailure : x.fFailure.length ≤ 9223372036854775807
theorem TGoto.ok_cells (x : TGoto) (h : ∀ c ∈ GG.cells 114 x, ∀ k, WfV GG k c) : x.Ok := by
 have h : ∀ c ∈ ([.str x.fAlways, .str x.fSuccess, .str x.fFailure] : List (V GG.S)), ∀ k, WfV GG k c := h
 exact ⟨wfv_str (h (.str x.fAlways) (by simp) 1), wfv_str (h (.str x.fSuccess) (by simp) 1), wfv_str (h (.str x.fFailure) (by simp) 1)⟩
theorem TGoto.ok_of {x : TGoto} (h : ∀ k, WfV GG k (inj GG (.st 114) x)) : x.Ok := TGoto.ok_cells x (wfv_st h)
def TGoto.m (x : TGoto) : Nat := x.fAlways.length + x.fSuccess.length + x.fFailure.length
theorem TGoto.m_eq (x : TGoto) : x.m = x.fAlways.length + x.fSuccess.length + x.fFailure.length := rfl
theorem szGoto_ok : ∀ x : TGoto, x.Ok → ∀ b : Int, 0 ≤ b → b < 4611686018427387904 → l_szGoto x b = some (minus b x.m) := by
 intro x
 intro hok b h0 h1
 rw [l_szGoto_eq]
 try simp only [TExpr.re_eq, TGoto.re_eq, TStatement.re_eq, TProgram.re_eq, TInstr.re_eq, TCode.re_eq]
 -- fAlways
 obtain ⟨e1, e2⟩ := minus_len (b := b) (l := x.fAlways) h0 h1 hok.P_fAlways
 by_cases c0 : minus b (x.fAlways.length) < 0
 ·simp only [e1.2 c0, decide_true, if_true]
  rw [minus_neg_le c0 (by rw [TGoto.m_eq]; omega)]
 have e3 := mt e1.1 c0
 simp only [e3, e2 c0, c0, decide_false, Bool.false_eq_true, if_false]
 -- fSuccess
 obtain ⟨e1, e2⟩ := minus_len (b := (minus b (x.fAlways.length))) (l := x.fSuccess) (minus_nonneg c0) (minus_lt (by omega) h1) hok.P_fSuccess
 rw [minus_minus c0] at e1 e2
 by_cases c1 : minus b (x.fAlways.length + x.fSuccess.length) < 0
 ·simp only [e1.2 c1, decide_true, if_true]
  rw [minus_neg_le c1 (by rw [TGoto.m_eq]; omega)]
 have e3 := mt e1.1 c1
 simp only [e3, e2 c1, c1, decide_false, Bool.false_eq_true, if_false]
 -- fFailure
 obtain ⟨e1, e2⟩ := minus_len (b := (minus b (x.fAlways.length + x.fSuccess.length))) (l := x.fFailure) (minus_nonneg c1) (minus_lt (by omega) h1) hok.P_fFailure
 rw [minus_minus c1] at e1 e2
 by_cases c2 : minus b (x.fAlways.length + x.fSuccess.length + x.fFailure.length) < 0
 ·simp only [e1.2 c2, decide_true, if_true]
  rw [minus_neg_le c2 (by rw [TGoto.m_eq]; omega)]
 have e3 := mt e1.1 c2
 simp only [e3, e2 c2, c2, decide_false, Bool.false_eq_true, if_false]
 try rw [TGoto.m_eq]
theorem toGoto_ok : ∀ x : TGoto, x.m ≤ 1048576 → l_toGoto x = some x := by
 intro x
 intro hm
 have hq := x.m_eq
 rw [l_toGoto_eq]
 try simp only [TExpr.re_eq, TGoto.re_eq, TStatement.re_eq, TProgram.re_eq, TInstr.re_eq, TCode.re_eq]
 try simp only [TGoto.eta, TExpr.re_eq, TGoto.re_eq, TStatement.re_eq, TProgram.re_eq, TInstr.re_eq, TCode.re_eq]
theorem eqGoto_ok : ∀ x : TGoto, x.m ≤ 1048576 → l_eqGoto x x = some true := by
 intro x
 intro hm
 have hq := x.m_eq
 rw [l_eqGoto_eq]
 try simp only [TExpr.re_eq, TGoto.re_eq, TStatement.re_eq, TProgram.re_eq, TInstr.re_eq, TCode.re_eq]
 simp
structure TStatement.Ok (x : TStatement) : Prop where
 P_fLabel : x.fLabel.length ≤ 9223372036854775807
 P_fSubject : TExpr.Ok x.fSubject
 P_fPattern : TExpr.Ok x.fPattern
 P_fReplace : TExpr.Ok x.fReplace
 P_fGoto : TGoto.Ok x.fGoto
theorem TStatement.ok_cells (x : TStatement) (h : ∀ c ∈ GG.cells 116 x, ∀ k, WfV GG k c) : x.Ok := by
 have h : ∀ c ∈ ([.str x.fLabel, .bool x.fHasSubject, .int .i64 x.fSubject.fKind, .int .i64 x.fSubject.fNum, .str x.fSubject.fText, .sl (.st 112) x.fSubject.fKids, .bool x.fHasPattern, .int .i64 x.fPattern.fKind, .int .i64 x.fPattern.fNum, .str x.fPattern.fText, .sl (.st 112) x.fPattern.fKids, .bool x.fHasReplace, .int .i64 x.fReplace.fKind, .int .i64 x.fReplace.fNum, .str x.fReplace.fText, .sl (.st 112) x.fReplace.fKids, .str x.fGoto.fAlways, .str x.fGoto.fSuccess, .str x.fGoto.fFailure] : List (V GG.S)), ∀ k, WfV GG k c := h
 have h_fSubject : ∀ c ∈ ([.int .i64 x.fSubject.fKind, .int .i64 x.fSubject.fNum, .str x.fSubject.fText, .sl (.st 112) x.fSubject.fKids] : List (V GG.S)), ∀ k, WfV GG k c := fun c hc => h c (by simp only [List.mem_cons, List.not_mem_nil, or_false] at hc ⊢; rcases hc with rfl | rfl | rfl | rfl <;> simp)
 have h_fPattern : ∀ c ∈ ([.int .i64 x.fPattern.fKind, .int .i64 x.fPattern.fNum, .str x.fPattern.fText, .sl (.st 112) x.fPattern.fKids] : List (V GG.S)), ∀ k, WfV GG k c := fun c hc => h c (by simp only [List.mem_cons, List.not_mem_nil, or_false] at hc ⊢; rcases hc with rfl | rfl | rfl | rfl <;> simp)
 have h_fReplace : ∀ c ∈ ([.int .i64 x.fReplace.fKind, .int .i64 x.fReplace.fNum, .str x.fReplace.fText, .sl (.st 112) x.fReplace.fKids] : List (V GG.S)), ∀ k, WfV GG k c := fun c hc => h c (by simp only [List.mem_cons, List.not_mem_nil, or_false] at hc ⊢; rcases hc with rfl | rfl | rfl | rfl <;> simp)
 have h_fGoto : ∀ c ∈ ([.str x.fGoto.fAlways, .str x.fGoto.fSuccess, .str x.fGoto.fFailure] : List (V GG.S)), ∀ k, WfV GG k c := fun c hc => h c (by simp only [List.mem_cons, List.not_mem_nil, or_false] at hc ⊢; rcases hc with rfl | rfl | rfl <;> simp)
 exact ⟨wfv_str (h (.str x.fLabel) (by simp) 1), TExpr.ok_cells _ h_fSubject, TExpr.ok_cells _ h_fPattern, TExpr.ok_cells _ h_fReplace, TGoto.ok_cells _ h_fGoto⟩
theorem TStatement.ok_of {x : TStatement} (h : ∀ k, WfV GG k (inj GG (.st 116) x)) : x.Ok := TStatement.ok_cells x (wfv_st h)
def TStatement.m (x : TStatement) : Nat := x.fLabel.length + TExpr.m x.fSubject + TExpr.m x.fPattern + TExpr.m x.fReplace + TGoto.m x.fGoto
theorem TStatement.m_eq (x : TStatement) : x.m = x.fLabel.length + TExpr.m x.fSubject + TExpr.m x.fPattern + TExpr.m x.fReplace + TGoto.m x.fGoto := rfl
theorem szStatement_ok : ∀ x : TStatement, x.Ok → ∀ b : Int, 0 ≤ b → b < 4611686018427387904 → l_szStatement x b = some (minus b x.m) := by
 intro x
 intro hok b h0 h1
 rw [l_szStatement_eq]
 try simp only [TExpr.re_eq, TGoto.re_eq, TStatement.re_eq, TProgram.re_eq, TInstr.re_eq, TCode.re_eq]
 -- fLabel
 obtain ⟨e1, e2⟩ := minus_len (b := b) (l := x.fLabel) h0 h1 hok.P_fLabel
 by_cases c0 : minus b (x.fLabel.length) < 0
 ·simp only [e1.2 c0, decide_true, if_true]
  rw [minus_neg_le c0 (by rw [TStatement.m_eq]; omega)]
 have e3 := mt e1.1 c0
 simp only [e3, e2 c0, c0, decide_false, Bool.false_eq_true, if_false]
 -- fSubject
 rw [szExpr_ok x.fSubject hok.P_fSubject (minus b (x.fLabel.length)) (minus_nonneg c0) (minus_lt (by omega) h1)]
 simp only [Option.bind_some]
 simp only [minus_minus c0]
 by_cases c1 : minus b (x.fLabel.length + TExpr.m x.fSubject) < 0
 ·simp only [c1, decide_true, if_true]
  rw [minus_neg_le c1 (by rw [TStatement.m_eq]; omega)]
 simp only [c1, decide_false, Bool.false_eq_true, if_false]
 -- fPattern
 rw [szExpr_ok x.fPattern hok.P_fPattern (minus b (x.fLabel.length + TExpr.m x.fSubject)) (minus_nonneg c1) (minus_lt (by omega) h1)]
 simp only [Option.bind_some]
 simp only [minus_minus c1]
 by_cases c2 : minus b (x.fLabel.length + TExpr.m x.fSubject + TExpr.m x.fPattern) < 0
 ·simp only [c2, decide_true, if_true]
  rw [minus_neg_le c2 (by rw [TStatement.m_eq]; omega)]
 simp only [c2, decide_false, Bool.false_eq_true, if_false]
 -- fReplace
 rw [szExpr_ok x.fReplace hok.P_fReplace (minus b (x.fLabel.length + TExpr.m x.fSubject + TExpr.m x.fPattern)) (minus_nonneg c2) (minus_lt (by omega) h1)]
 simp only [Option.bind_some]
 simp only [minus_minus c2]
 by_cases c3 : minus b (x.fLabel.length + TExpr.m x.fSubject + TExpr.m x.fPattern + TExpr.m x.fReplace) < 0
 ·simp only [c3, decide_true, if_true]
  rw [minus_neg_le c3 (by rw [TStatement.m_eq]; omega)]
 simp only [c3, decide_false, Bool.false_eq_true, if_false]
 -- fGoto
 rw [szGoto_ok x.fGoto hok.P_fGoto (minus b (x.fLabel.length + TExpr.m x.fSubject + TExpr.m x.fPattern + TExpr.m x.fReplace)) (minus_nonneg c3) (minus_lt (by omega) h1)]
 simp only [Option.bind_some]
 simp only [minus_minus c3]
 by_cases c4 : minus b (x.fLabel.length + TExpr.m x.fSubject + TExpr.m x.fPattern + TExpr.m x.fReplace + TGoto.m x.fGoto) < 0
 ·simp only [c4, decide_true, if_true]
  rw [minus_neg_le c4 (by rw [TStatement.m_eq]; omega)]
 simp only [c4, decide_false, Bool.false_eq_true, if_false]
 try rw [TStatement.m_eq]
theorem eqStatement_ok : ∀ x : TStatement, x.m ≤ 1048576 → l_eqStatement x x = some true := by
 intro x
 intro hm
 have hq := x.m_eq
 rw [l_eqStatement_eq]
 try simp only [TExpr.re_eq, TGoto.re_eq, TStatement.re_eq, TProgram.re_eq, TInstr.re_eq, TCode.re_eq]
 rw [eqExpr_ok x.fSubject (by omega)]
 rw [eqExpr_ok x.fPattern (by omega)]
 rw [eqExpr_ok x.fReplace (by omega)]
 rw [eqGoto_ok x.fGoto (by omega)]
 simp
structure TProgram.Ok (x : TProgram) : Prop where
 P_fStatements : (x.fStatements.length ≤ 9223372036854775807 ∧ ∀ y ∈ x.fStatements, TStatement.Ok y)
theorem TProgram.ok_cells (x : TProgram) (h : ∀ c ∈ GG.cells 23 x, ∀ k, WfV GG k c) : x.Ok := by
 have h : ∀ c ∈ ([.sl (.st 116) x.fStatements] : List (V GG.S)), ∀ k, WfV GG k c := h
 exact ⟨⟨(wfv_sl (h (.sl (.st 116) x.fStatements) (by simp))).1, fun y hy => TStatement.ok_cells y ((wfv_sl (h (.sl (.st 116) x.fStatements) (by simp))).2 y hy)⟩⟩
theorem TProgram.ok_of {x : TProgram} (h : ∀ k, WfV GG k (inj GG (.st 23) x)) : x.Ok := TProgram.ok_cells x (wfv_st h)
theorem szStatementS_of {xs : (List TStatement)} (hx : xs.length ≤ 9223372036854775807)
  (hF : ∀ y ∈ xs, ∀ b : Int, 0 ≤ b → b < 4611686018427387904 → l_szStatement y b = some (minus b (TStatement.m y))) {b : Int} (h0 : 0 ≤ b) (h1 : b < 4611686018427387904) :
  l_szStatementS xs b = some (minus b (xs.length + sumOf TStatement.m xs)) := by
 rw [l_szStatementS_eq]
 obtain ⟨e1, e2⟩ := minus_len (l := xs) h0 h1 hx
 by_cases c : minus b xs.length < 0
 ·simp only [e1.2 c, decide_true, if_true, minus_neg c]
 ·rw [if_neg (by simpa using fun h => c (e1.1 h)), e2 c, sz_loop hx (J := l_szStatementS_L5) (F := l_szStatement) (m := TStatement.m) (fun b i => by rw [l_szStatementS_L5_eq]; try simp only [TExpr.re_eq, TGoto.re_eq, TStatement.re_eq, TProgram.re_eq, TInstr.re_eq, TCode.re_eq]) hF _ (minus_nonneg c) (minus_lt (by omega) h1), minus_minus c]
theorem eqStatementS_of {xs : (List TStatement)} (hx : xs.length ≤ 9223372036854775807) (hF : ∀ y ∈ xs, l_eqStatement y y = some true) : l_eqStatementS xs xs = some true := by
 rw [l_eqStatementS_eq]
 simp only [bne_self_eq_false, Bool.false_eq_true, if_false]
 exact eq_loop (by omega) (J := l_eqStatementS_L4) (F := l_eqStatement) (fun i => by rw [l_eqStatementS_L4_eq]; try simp only [TExpr.re_eq, TGoto.re_eq, TStatement.re_eq, TProgram.re_eq, TInstr.re_eq, TCode.re_eq]) hF
def TProgram.m (x : TProgram) : Nat := (x.fStatements.length + sumOf TStatement.m x.fStatements)
theorem TProgram.m_eq (x : TProgram) : x.m = (x.fStatements.length + sumOf TStatement.m x.fStatements) := rfl
theorem szProgram_ok : ∀ x : TProgram, x.Ok → ∀ b : Int, 0 ≤ b → b < 4611686018427387904 → l_szProgram x b = some (minus b x.m) := by
 intro x
 intro hok b h0 h1
 rw [l_szProgram_eq]
 try simp only [TExpr.re_eq, TGoto.re_eq, TStatement.re_eq, TProgram.re_eq, TInstr.re_eq, TCode.re_eq]
 -- fStatements
 rw [szStatementS_of hok.P_fStatements.1 (fun y hy b h0 h1 => szStatement_ok y (hok.P_fStatements.2 y hy) b h0 h1) h0 h1]
 simp only [Option.bind_some]
 by_cases c0 : minus b ((x.fStatements.length + sumOf TStatement.m x.fStatements)) < 0
 ·simp only [c0, decide_true, if_true]
  rw [minus_neg_le c0 (by rw [TProgram.m_eq]; omega)]
 simp only [c0, decide_false, Bool.false_eq_true, if_false]
 try rw [TProgram.m_eq]
theorem eqProgram_ok : ∀ x : TProgram, x.m ≤ 1048576 → l_eqProgram x x = some true := by
 intro x
 intro hm
 have hq := x.m_eq
 rw [l_eqProgram_eq]
 try simp only [TExpr.re_eq, TGoto.re_eq, TStatement.re_eq, TProgram.re_eq, TInstr.re_eq, TCode.re_eq]
 rw [eqStatementS_of (xs := x.fStatements) (by omega) fun y hy => eqStatement_ok y (by have := sumOf_mem (m := TStatement.m) hy; omega)]
 simp
structure TInstr.Ok (x : TInstr) : Prop where
 P_fOp : (-9223372036854775808 ≤ x.fOp ∧ x.fOp ≤ 9223372036854775807)
 P_fA : (-9223372036854775808 ≤ x.fA ∧ x.fA ≤ 9223372036854775807)
 P_fText : x.fText.length ≤ 9223372036854775807
theorem TInstr.ok_cells (x : TInstr) (h : ∀ c ∈ GG.cells 67 x, ∀ k, WfV GG k c) : x.Ok := by
 have h : ∀ c ∈ ([.int .i64 x.fOp, .int .i64 x.fA, .str x.fText] : List (V GG.S)), ∀ k, WfV GG k c := h
 exact ⟨wfv_int (h (.int .i64 x.fOp) (by simp) 1), wfv_int (h (.int .i64 x.fA) (by simp) 1), wfv_str (h (.str x.fText) (by simp) 1)⟩
theorem TInstr.ok_of {x : TInstr} (h : ∀ k, WfV GG k (inj GG (.st 67) x)) : x.Ok := TInstr.ok_cells x (wfv_st h)
structure TCode.Ok (x : TCode) : Prop where
 P_fInstrs : (x.fInstrs.length ≤ 9223372036854775807 ∧ ∀ y ∈ x.fInstrs, TInstr.Ok y)
 P_fEntries : (x.fEntries.length ≤ 9223372036854775807 ∧ ∀ y ∈ x.fEntries, (-9223372036854775808 ≤ y ∧ y ≤ 9223372036854775807))
 P_fFails : (x.fFails.length ≤ 9223372036854775807 ∧ ∀ y ∈ x.fFails, (-9223372036854775808 ≤ y ∧ y ≤ 9223372036854775807))
theorem TCode.ok_cells (x : TCode) (h : ∀ c ∈ GG.cells 39 x, ∀ k, WfV GG k c) : x.Ok := by
 have h : ∀ c ∈ ([.sl (.st 67) x.fInstrs, .sl (.int .i64) x.fEntries, .sl (.int .i64) x.fFails] : List (V GG.S)), ∀ k, WfV GG k c := h
 exact ⟨⟨(wfv_sl (h (.sl (.st 67) x.fInstrs) (by simp))).1, fun y hy => TInstr.ok_cells y ((wfv_sl (h (.sl (.st 67) x.fInstrs) (by simp))).2 y hy)⟩, ⟨(wfv_sl (h (.sl (.int .i64) x.fEntries) (by simp))).1, fun y hy => wfv_int ((wfv_sl (h (.sl (.int .i64) x.fEntries) (by simp))).2 y hy (.int .i64 y) (by simp [Ty.cells, inj]) 1)⟩, ⟨(wfv_sl (h (.sl (.int .i64) x.fFails) (by simp))).1, fun y hy => wfv_int ((wfv_sl (h (.sl (.int .i64) x.fFails) (by simp))).2 y hy (.int .i64 y) (by simp [Ty.cells, inj]) 1)⟩⟩
theorem TCode.ok_of {x : TCode} (h : ∀ k, WfV GG k (inj GG (.st 39) x)) : x.Ok := TCode.ok_cells x (wfv_st h)
theorem eqInt64S_of {xs : (List Int)} (hx : xs.length ≤ 9223372036854775807) : l_eqInt64S xs xs = some true := by
 rw [l_eqInt64S_eq]
 simp only [bne_self_eq_false, Bool.false_eq_true, if_false]
 exact eq_loop0 (by omega) (J := l_eqInt64S_L4) (fun i => by rw [l_eqInt64S_L4_eq]) (fun y => by simp)
structure TPatternIns.Ok (x : TPatternIns) : Prop where
 P_fOp : (-9223372036854775808 ≤ x.fOp ∧ x.fOp ≤ 9223372036854775807)
 P_fNum : (-9223372036854775808 ≤ x.fNum ∧ x.fNum ≤ 9223372036854775807)
 P_fText : x.fText.length ≤ 9223372036854775807
theorem TPatternIns.ok_cells (x : TPatternIns) (h : ∀ c ∈ GG.cells 94 x, ∀ k, WfV GG k c) : x.Ok := by
 have h : ∀ c ∈ ([.int .i64 x.fOp, .int .i64 x.fNum, .str x.fText] : List (V GG.S)), ∀ k, WfV GG k c := h
 exact ⟨wfv_int (h (.int .i64 x.fOp) (by simp) 1), wfv_int (h (.int .i64 x.fNum) (by simp) 1), wfv_str (h (.str x.fText) (by simp) 1)⟩
theorem TPatternIns.ok_of {x : TPatternIns} (h : ∀ k, WfV GG k (inj GG (.st 94) x)) : x.Ok := TPatternIns.ok_cells x (wfv_st h)
structure TPatternEntry.Ok (x : TPatternEntry) : Prop where
 P_fName : x.fName.length ≤ 9223372036854775807
 P_fAt : (-9223372036854775808 ≤ x.fAt ∧ x.fAt ≤ 9223372036854775807)
theorem TPatternEntry.ok_cells (x : TPatternEntry) (h : ∀ c ∈ GG.cells 90 x, ∀ k, WfV GG k c) : x.Ok := by
 have h : ∀ c ∈ ([.str x.fName, .int .i64 x.fAt] : List (V GG.S)), ∀ k, WfV GG k c := h
 exact ⟨wfv_str (h (.str x.fName) (by simp) 1), wfv_int (h (.int .i64 x.fAt) (by simp) 1)⟩
theorem TPatternEntry.ok_of {x : TPatternEntry} (h : ∀ k, WfV GG k (inj GG (.st 90) x)) : x.Ok := TPatternEntry.ok_cells x (wfv_st h)
structure TPatternCode.Ok (x : TPatternCode) : Prop where
 P_fCode : (x.fCode.length ≤ 9223372036854775807 ∧ ∀ y ∈ x.fCode, TPatternIns.Ok y)
 P_fEntries : (x.fEntries.length ≤ 9223372036854775807 ∧ ∀ y ∈ x.fEntries, TPatternEntry.Ok y)
theorem TPatternCode.ok_cells (x : TPatternCode) (h : ∀ c ∈ GG.cells 52 x, ∀ k, WfV GG k c) : x.Ok := by
 have h : ∀ c ∈ ([.sl (.st 94) x.fCode, .sl (.st 90) x.fEntries] : List (V GG.S)), ∀ k, WfV GG k c := h
 exact ⟨⟨(wfv_sl (h (.sl (.st 94) x.fCode) (by simp))).1, fun y hy => TPatternIns.ok_cells y ((wfv_sl (h (.sl (.st 94) x.fCode) (by simp))).2 y hy)⟩, ⟨(wfv_sl (h (.sl (.st 90) x.fEntries) (by simp))).1, fun y hy => TPatternEntry.ok_cells y ((wfv_sl (h (.sl (.st 90) x.fEntries) (by simp))).2 y hy)⟩⟩
theorem TPatternCode.ok_of {x : TPatternCode} (h : ∀ k, WfV GG k (inj GG (.st 52) x)) : x.Ok := TPatternCode.ok_cells x (wfv_st h)
theorem TPattern.ind {P : TPattern → Prop} (h : ∀ x, (∀ y ∈ x.fKids, P y) → P x) : ∀ x, P x := by
 intro x
 exact TPattern.rec (motive_1 := P) (motive_2 := fun l => ∀ y ∈ l, P y) (fun a0 a1 a2 a3 ih => h ⟨a0, a1, a2, a3⟩ ih) (fun y hy => by cases hy)
  (fun a l ha hl y hy => by
   cases hy with
   | head => exact ha
   | tail _ hy => exact hl y hy) x
inductive TPattern.Ok : TPattern → Prop
 | mk (x : TPattern) (h0 : (-9223372036854775808 ≤ x.fKind ∧ x.fKind ≤ 9223372036854775807) ∧ (-9223372036854775808 ≤ x.fNum ∧ x.fNum ≤ 9223372036854775807) ∧ x.fText.length ≤ 9223372036854775807 ∧ x.fKids.length ≤ 9223372036854775807) (h1 : ∀ y ∈ x.fKids, TPattern.Ok y) : TPattern.Ok x
theorem TPattern.Ok.P_fText {x : TPattern} (h : x.Ok) : x.fText.length ≤ 9223372036854775807 := by cases h with | mk _ h0 h1 => exact h0.2.2.1
theorem TPattern.Ok.P_fKids_len {x : TPattern} (h : x.Ok) : x.fKids.length ≤ 9223372036854775807 := by cases h with | mk _ h0 h1 => exact h0.2.2.2
theorem TPattern.Ok.P_fKids {x : TPattern} (h : x.Ok) : ∀ y ∈ x.fKids, y.Ok := by cases h with | mk _ h0 h1 => exact h1
theorem TPattern.ok_cells : ∀ x : TPattern, (∀ c ∈ GG.cells 152 x, ∀ k, WfV GG k c) → x.Ok := by
 intro x
 induction x using TPattern.ind with
 | h x ih =>
  intro h
  have h : ∀ c ∈ ([.int .i64 x.fKind, .int .i64 x.fNum, .str x.fText, .sl (.st 152) x.fKids] : List (V GG.S)), ∀ k, WfV GG k c := h
  exact .mk x ⟨wfv_int (h (.int .i64 x.fKind) (by simp) 1), wfv_int (h (.int .i64 x.fNum) (by simp) 1), wfv_str (h (.str x.fText) (by simp) 1), (wfv_sl (h (.sl (.st 152) x.fKids) (by simp))).1⟩ fun y hy => ih y hy ((wfv_sl (h (.sl (.st 152) x.fKids) (by simp))).2 y hy)
theorem TPattern.ok_of {x : TPattern} (h : ∀ k, WfV GG k (inj GG (.st 152) x)) : x.Ok := TPattern.ok_cells x (wfv_st h)
structure TToken.Ok (x : TToken) : Prop where
 P_fKind : (-9223372036854775808 ≤ x.fKind ∧ x.fKind ≤ 9223372036854775807)
 P_fNum : (-9223372036854775808 ≤ x.fNum ∧ x.fNum ≤ 9223372036854775807)
 P_fText : x.fText.length ≤ 9223372036854775807
theorem TToken.ok_cells (x : TToken) (h : ∀ c ∈ GG.cells 223 x, ∀ k, WfV GG k c) : x.Ok := by
 have h : ∀ c ∈ ([.int .i64 x.fKind, .int .i64 x.fNum, .str x.fText, .bool x.fBefore, .bool x.fAfter] : List (V GG.S)), ∀ k, WfV GG k c := h
 exact ⟨wfv_int (h (.int .i64 x.fKind) (by simp) 1), wfv_int (h (.int .i64 x.fNum) (by simp) 1), wfv_str (h (.str x.fText) (by simp) 1)⟩
theorem TToken.ok_of {x : TToken} (h : ∀ k, WfV GG k (inj GG (.st 223) x)) : x.Ok := TToken.ok_cells x (wfv_st h)
structure TLine.Ok (x : TLine) : Prop where
 P_fNumber : (-9223372036854775808 ≤ x.fNumber ∧ x.fNumber ≤ 9223372036854775807)
 P_fText : x.fText.length ≤ 9223372036854775807
theorem TLine.ok_cells (x : TLine) (h : ∀ c ∈ GG.cells 261 x, ∀ k, WfV GG k c) : x.Ok := by
 have h : ∀ c ∈ ([.int .i64 x.fNumber, .str x.fText] : List (V GG.S)), ∀ k, WfV GG k c := h
 exact ⟨wfv_int (h (.int .i64 x.fNumber) (by simp) 1), wfv_str (h (.str x.fText) (by simp) 1)⟩
theorem TLine.ok_of {x : TLine} (h : ∀ k, WfV GG k (inj GG (.st 261) x)) : x.Ok := TLine.ok_cells x (wfv_st h)
end Go.Dv.U

namespace Go.Dv
open Go
def gate {α : Type} (c : α → Nat → Bool) : List α → Nat → Bool
 | [], _ => true
 | y :: r, i => c y i && gate c r (i + 1)
theorem gate_all {α : Type} {p : α → Bool} {c : α → Nat → Bool} : ∀ (l : List α) (i : Nat), gate (fun y i => p y && c y i) l i = (l.all p && gate c l i)
 | [], _ => rfl
 | y :: r, i => by
  simp only [gate, List.all_cons, gate_all r (i + 1)]
  cases p y <;> cases c y i <;> cases r.all p <;> simp
theorem gate_loop {α : Type} {xs : List α} (hx : xs.length ≤ 9223372036854775807) {c : α → Nat → Bool} {J : Int → Option Bool}
  (hs : ∀ (i : Nat) (y : α), i < xs.length → y ∈ xs → idx xs (i : Int) = some y → w64 ((i : Int) + 1) = ((i + 1 : Nat) : Int) → J (i : Int) = if c y i = true then J ((i + 1 : Nat) : Int) else some false) :
  J 0 = if gate c xs 0 = true then J (xs.length : Int) else some false := by
 refine loop_ind hx (P := fun i l => J (i : Int) = if gate c l i = true then J (xs.length : Int) else some false) ?_ ?_
 ·simp [gate]
 ·intro i y l _ hlt hy hi hw ih
  rw [hs i y hlt hy hi hw]
  have hg : gate c (y :: l) i = (c y i && gate c l (i + 1)) := rfl
  by_cases hc : c y i = true
  ·rw [if_pos hc, ih]
   by_cases h2 : gate c l (i + 1) = true
   ·rw [if_pos h2, if_pos (by rw [hg, hc, h2]; rfl)]
   ·rw [if_neg h2, if_neg (by rw [hg, hc]; simpa using h2)]
  ·rw [if_neg hc, if_neg (by rw [hg]; simp [hc])]
def ixF {α : Type} (p : α → Bool) : List α → Nat → Int
 | [], _ => -1
 | y :: r, i => if p y = true then (i : Int) else ixF p r (i + 1)
theorem ix_loop {α : Type} {xs : List α} (hx : xs.length ≤ 9223372036854775807) {p : α → Bool} {J : Int → Option Int}
  (hs : ∀ (i : Nat) (y : α), i < xs.length → y ∈ xs → idx xs (i : Int) = some y → w64 ((i : Int) + 1) = ((i + 1 : Nat) : Int) → J (i : Int) = if p y = true then some (i : Int) else J ((i + 1 : Nat) : Int))
  (he : J (xs.length : Int) = some (-1)) : J 0 = some (ixF p xs 0) := by
 refine loop_ind hx (P := fun i l => J (i : Int) = some (ixF p l i)) ?_ ?_
 ·rw [he]; rfl
 ·intro i y l _ hlt hy hi hw ih
  rw [hs i y hlt hy hi hw]
  by_cases hc : p y = true
  ·rw [if_pos hc]; simp [ixF, hc]
  ·rw [if_neg hc, ih]; simp [ixF, hc]
theorem cat_loop {α β γ : Type} {xs : List α} (hx : xs.length ≤ 9223372036854775807) {f : α → List β} {B : Nat} {J : Int → List β → Option γ}
  (hs : ∀ (i : Nat) (y : α) (a : List β), i < xs.length → y ∈ xs → idx xs (i : Int) = some y → w64 ((i : Int) + 1) = ((i + 1 : Nat) : Int) → a.length + (f y).length ≤ B → J (i : Int) a = J ((i + 1 : Nat) : Int) (a ++ f y))
  (hb : (xs.flatMap f).length ≤ B) : J 0 [] = J (xs.length : Int) (xs.flatMap f) := by
 have key := loop_ind hx (P := fun i l => ∀ a : List β, a.length + (l.flatMap f).length ≤ B → J (i : Int) a = J (xs.length : Int) (a ++ l.flatMap f)) (by
  intro a _
  simp) (by
  intro i y l _ hlt hy hi hw ih a ha
  simp only [List.flatMap_cons, List.length_append] at ha
  rw [hs i y a hlt hy hi hw (by omega), ih (a ++ f y) (by simp only [List.length_append]; omega)]
  simp only [List.flatMap_cons, List.append_assoc]) [] (by simpa using hb)
 simpa using key
theorem bytesOf_ib (s : List UInt8) : bytesOf (s.map ib) = some s := by
 unfold bytesOf
 have h : ((s.map ib).all fun n => decide (0 ≤ n) && decide (n < 256)) = true := by
  simp only [List.all_map, List.all_eq_true]
  intro x _
  simp [ib_lt x, ib_nonneg x]
 rw [if_pos h, List.map_map]
 congr 1
 conv => rhs; rw [← List.map_id s]
 apply List.map_congr_left
 intro x _
 simp only [Function.comp, id, ib, Int.ofNat_eq_natCast, Int.toNat_natCast]
 exact UInt8.ofNat_toNat
end Go.Dv

namespace Go.Dv.U
open Go Go.Dv Go.Proofs
theorem mk_rem_ten (u : Nat) : rem (u : Int) 10 = some ((u % 10 : Nat) : Int) := by
 unfold rem
 rw [if_neg (by decide)]
 congr 1
theorem mk_quo_ten {u : Nat} (h : u < 9223372036854775808) : quo .i64 (u : Int) 10 = some ((u / 10 : Nat) : Int) := by
 unfold quo
 rw [if_neg (by decide)]
 congr 1
 rw [show ((u : Int).tdiv 10) = ((u / 10 : Nat) : Int) from rfl, IntKind.wrap_i64]
 omega
theorem l_markText_L4_ok : ∀ (f n : Nat) (a : List UInt8), n < 9223372036854775808 → n < 10 ^ f → a.length + f ≤ 100 → ∃ t, l_markText_L4 (n : Int) a = some t
 | 0, n, a, _, h, ha => by
  have : n = 0 := by simpa using h
  subst this
  rw [l_markText_L4_eq]
  refine ⟨[109] ++ a, ?_⟩
  have := app_of (xs := ([109] : List UInt8)) (ys := a) (by simp; omega)
  simp [this]
 | f + 1, n, a, h0, h, ha => by
  rw [l_markText_L4_eq]
  by_cases hn : n = 0
  ·subst hn
   refine ⟨[109] ++ a, ?_⟩
   have := app_of (xs := ([109] : List UInt8)) (ys := a) (by simp; omega)
   simp [this]
  ·have hc : decide ((n : Int) > 0) = true := by simp; omega
   rw [if_pos hc, mk_rem_ten]
   simp only [Option.bind_some, mk_quo_ten h0]
   rw [app_of (by simp; omega)]
   simp only [Option.bind_some]
   exact l_markText_L4_ok f (n / 10) _ (by omega) (by rw [Nat.pow_succ] at h; omega) (by simp; omega)
noncomputable def mkT (k : Int) : List UInt8 := (l_markText k).getD []
theorem l_markText_ok {k : Int} (h0 : 0 ≤ k) (h : k < 9223372036854775808) : l_markText k = some (mkT k) := by
 have : ∃ t, l_markText k = some t := by
  rw [l_markText_eq]
  by_cases c : k ≤ 0
  ·exact ⟨_, by rw [if_pos (by simpa using c)]⟩
  ·rw [if_neg (by simpa using c)]
   have := l_markText_L4_ok 19 k.toNat [] (by omega) (by simp; omega) (by simp)
   rwa [show ((k.toNat : Nat) : Int) = k by omega] at this
 obtain ⟨t, e⟩ := this
 rw [mkT, e]; rfl
end Go.Dv.U

namespace Go.Dv
open Go
theorem toE_loop {α β γ : Type} {xs : List α} (hx : xs.length ≤ 9223372036854775807) {F : α → Option β} {G : β → α} {E : List α → Option γ} {J : List α → Int → List α → Option γ}
  (hJ : ∀ i zs, J xs i zs = if decide (i < len xs) = true then (idx xs i).bind fun y => (F y).bind fun r => (idx zs i).bind fun _ => (zs[i.toNat]?).bind fun _ => J xs (w64 (i + 1)) (upd zs i.toNat (G r)) else E zs)
  (hF : ∀ y ∈ xs, ∃ r, F y = some r ∧ G r = y) : ∀ zs, zs.length = xs.length → J xs 0 zs = E xs := by
 have key : ∀ zs, zs.length = xs.length → (∀ j : Nat, j < 0 → zs[j]? = xs[j]?) → J xs ((0 : Nat) : Int) zs = E xs := by
  refine loop_ind hx (P := fun i l => ∀ zs, zs.length = xs.length → (∀ j, j < i → zs[j]? = xs[j]?) → J xs i zs = E xs) ?_ ?_
  ·intro zs hl hz
   rw [hJ]
   simp only [len_eq, Int.lt_irrefl, decide_false, Bool.false_eq_true, if_false]
   congr 1
   apply List.ext_getElem?
   intro j
   by_cases hj : j < xs.length
   ·exact hz j hj
   ·rw [List.getElem?_eq_none (by omega), List.getElem?_eq_none (by omega)]
  ·intro i y l _ hlt hy hi hw ih zs hl hz
   rw [hJ, hi, hw]
   have hc : decide ((i : Int) < len xs) = true := by simp [len_eq, hlt]
   rw [if_pos hc]
   have hzi : zs[i]? = some zs[i] := List.getElem?_eq_getElem (by omega)
   have hxi : xs[i]? = some y := by rw [← idx_nat]; exact hi
   obtain ⟨r, e1, e2⟩ := hF y hy
   simp only [Option.bind_some, e1, idx_nat, Int.toNat_natCast, hzi, upd_eq]
   refine ih _ (by simp [hl]) fun j hj => ?_
   by_cases hji : j = i
   ·subst hji; rw [List.getElem?_set_self (by omega), hxi, e2]
   ·rw [List.getElem?_set_ne (by omega)]; exact hz j (by omega)
 intro zs hl
 exact key zs hl fun j hj => absurd hj (Nat.not_lt_zero j)
theorem mark_loop {α : Type} {B : Int} {m : α → Nat} {Q : α → Prop} {J : Int → Int → List α → Option (Int × List α × Unit)}
    (he : ∀ k (xs : List α), J k (xs.length : Int) xs = some (k, xs, ()))
    (hs : ∀ (k : Int) (i : Nat) (xs : List α) (h : i < xs.length), Q xs[i] → 0 ≤ k → k + m xs[i] < B → xs.length < 4611686018427387904 → ∃ k' y', J k (i : Int) xs = J k' ((i + 1 : Nat) : Int) (xs.set i y') ∧ k ≤ k' ∧ k' ≤ k + m xs[i]) :
    ∀ (xs : List α) (k : Int), (∀ y ∈ xs, Q y) → 0 ≤ k → k + sumOf m xs < B → xs.length < 4611686018427387904 → ∃ k' xs', J k 0 xs = some (k', xs', ()) ∧ k ≤ k' ∧ k' ≤ k + sumOf m xs ∧ xs'.length = xs.length := by
  have key : ∀ (n i : Nat) (xs : List α) (k : Int), i + n = xs.length → (∀ y ∈ xs.drop i, Q y) → 0 ≤ k → k + sumOf m (xs.drop i) < B → xs.length < 4611686018427387904 →
      ∃ k' xs', J k (i : Int) xs = some (k', xs', ()) ∧ k ≤ k' ∧ k' ≤ k + sumOf m (xs.drop i) ∧ xs'.length = xs.length := by
    intro n
    induction n with
    | zero =>
      intro i xs k hi hq h0 h1 h2
      have : i = xs.length := by omega
      subst this
      exact ⟨k, xs, he k xs, by omega, by omega, rfl⟩
    | succ n ih =>
      intro i xs k hi hq h0 h1 h2
      have hlt : i < xs.length := by omega
      rw [List.drop_eq_getElem_cons hlt] at h1 hq ⊢
      simp only [sumOf] at h1 ⊢
      obtain ⟨k1, y1, e1, g1, g2⟩ := hs k i xs hlt (hq _ List.mem_cons_self) h0 (by omega) h2
      have ed : (xs.set i y1).drop (i + 1) = xs.drop (i + 1) := List.drop_set_of_lt (by omega)
      obtain ⟨k2, xs2, e2, g3, g4, g5⟩ := ih (i + 1) (xs.set i y1) k1 (by simp; omega) (by rw [ed]; exact fun y hy => hq y (List.mem_cons_of_mem _ hy)) (by omega) (by rw [ed]; omega) (by simpa using h2)
      rw [ed] at g4
      exact ⟨k2, xs2, e1.trans e2, by omega, by omega, by rw [g5]; simp⟩
  intro xs k hq h0 h1 h2
  have := key xs.length 0 xs k (by omega) (by simpa using hq) h0 (by simpa using h1) h2
  simpa using this
def marksL {α : Type} (μ : Int → α) (c : Nat) : Int → Nat → List α
 | _, 0 => []
 | k, n + 1 => μ k :: marksL μ c (k + c) n
theorem marksL_len {α : Type} (μ : Int → α) (c : Nat) : ∀ (n : Nat) (k : Int), (marksL μ c k n).length = n
 | 0, _ => rfl
 | n + 1, k => by simp [marksL, marksL_len μ c n]
theorem markL_loop {α : Type} {μ : Int → α} {c : Nat} {J : Int → Int → List α → Option (Int × List α × Unit)}
    (he : ∀ k (xs : List α), J k (xs.length : Int) xs = some (k, xs, ()))
    (hs : ∀ (k : Int) (i : Nat) (xs : List α) (h : i < xs.length), 0 ≤ k → k + c < 4611686018427387904 → xs.length < 4611686018427387904 → J k (i : Int) xs = J (k + c) ((i + 1 : Nat) : Int) (xs.set i (μ k))) :
    ∀ (xs : List α) (k : Int), 0 ≤ k → k + (c * xs.length : Nat) < 4611686018427387904 → xs.length < 4611686018427387904 → J k 0 xs = some (k + (c * xs.length : Nat), marksL μ c k xs.length, ()) := by
  have key : ∀ (n i : Nat) (xs : List α) (k : Int), i + n = xs.length → 0 ≤ k → k + (c * n : Nat) < 4611686018427387904 → xs.length < 4611686018427387904 →
      J k (i : Int) xs = some (k + (c * n : Nat), xs.take i ++ marksL μ c k n, ()) := by
    intro n
    induction n with
    | zero =>
      intro i xs k hi h0 h1 h2
      have : i = xs.length := by omega
      subst this
      rw [he]
      simp [marksL]
    | succ n ih =>
      intro i xs k hi h0 h1 h2
      have hlt : i < xs.length := by omega
      have hm : c * (n + 1) = c + c * n := by rw [Nat.mul_succ]; omega
      rw [hm] at h1 ⊢
      rw [hs k i xs hlt h0 (by omega) h2, ih (i + 1) (xs.set i (μ k)) (k + c) (by simp; omega) (by omega) (by omega) (by simpa using h2)]
      congr 1
      rw [show k + (c : Int) + ((c * n : Nat) : Int) = k + ((c + c * n : Nat) : Int) by omega]
      congr 2
      simp only [marksL]
      rw [List.take_set, List.take_succ_eq_append_getElem hlt, List.set_append_right _ _ (by simp; omega)]
      simp [Nat.min_eq_left (by omega : i ≤ xs.length)]
  intro xs k h0 h1 h2
  have := key xs.length 0 xs k (by omega) h0 h1 h2
  simpa using this
theorem heldL_loop {α : Type} {μ : Int → α} {c n : Nat} {k : Int} {J : Int → Int → Option Int} (hn : n < 4611686018427387904) (h0 : 0 ≤ k) (h1 : k + (c * n : Nat) < 4611686018427387904)
  (he : ∀ k, J k (n : Int) = some k)
  (hs : ∀ (k' : Int) (i : Nat), i < n → 0 ≤ k' → k' + c < 4611686018427387904 → idx (marksL μ c k n) (i : Int) = some (μ k') → J k' (i : Int) = J (k' + c) ((i + 1 : Nat) : Int)) :
  J k 0 = some (k + (c * n : Nat)) := by
 have key := loop_ind (xs := marksL μ c k n) (by rw [marksL_len]; omega) (P := fun i l => ∀ k' : Int, 0 ≤ k' → k' + (c * l.length : Nat) < 4611686018427387904 → l = marksL μ c k' l.length → J k' (i : Int) = some (k' + (c * l.length : Nat))) (by
  intro k' _ _ _
  rw [marksL_len, he]
  simp) (by
  intro i y l _ hlt hy hi hw ih k' g0 g1 e
  simp only [List.length_cons, marksL, List.cons.injEq] at e g1
  have hm : c * (l.length + 1) = c + c * l.length := by rw [Nat.mul_succ]; omega
  rw [marksL_len] at hlt
  rw [hm] at g1
  rw [hs k' i hlt g0 (by omega) (by rw [hi, e.1]), ih (k' + c) (by omega) (by omega) e.2]
  congr 1
  simp only [List.length_cons, hm]; omega) k h0 (by rw [marksL_len]; exact h1) (by rw [marksL_len])
 rw [marksL_len] at key
 exact key
theorem sum_40 {α : Type} (m : α → Nat) : ∀ l : List α, sumOf (fun y => 40 + 40 * m y) l = 40 * l.length + 40 * sumOf m l
 | [] => rfl
 | y :: r => by simp only [sumOf, List.length_cons, sum_40 m r]; omega
theorem rem_three (k : Int) : rem k 3 = some (k.tmod 3) := by unfold rem; rw [if_neg (by decide)]
end Go.Dv

namespace Go.Dv.U
open Go Go.Dv Go.Proofs
theorem i_within_ok (a b c : Int) : i_within a b c = some (decide (b ≤ a) && decide (a ≤ c)) := by
 rw [i_within_eq]; grind
theorem s_l00In_ok (a b c : Int) : s_l00In a b c = some (decide (b ≤ a) && decide (a ≤ c)) := by
 rw [s_l00In_eq]; grind
end Go.Dv.U

namespace Go.Dv.U
open Go Go.Dv Go.Proofs
def isLet (b : Int) : Bool := (decide (65 ≤ b) && decide (b ≤ 90)) || (decide (97 ≤ b) && decide (b ≤ 122))
def isDig (b : Int) : Bool := decide (48 ≤ b) && decide (b ≤ 57)
def isNmB (b : Int) : Bool := isLet b || isDig b || b == 95
theorem i_isLetter_ok (b : Int) : i_isLetter b = some (isLet b) := by
 rw [i_isLetter_eq]; unfold isLet; grind
theorem s_l02Letter_ok (b : Int) : s_l02Letter b = some (isLet b) := by
 rw [s_l02Letter_eq]; unfold isLet; grind
theorem i_isDigit_ok (b : Int) : i_isDigit b = some (isDig b) := by
 rw [i_isDigit_eq]; unfold isDig; grind
theorem s_l02Digit_ok (b : Int) : s_l02Digit b = some (isDig b) := by
 rw [s_l02Digit_eq]; unfold isDig; grind
theorem i_isNameByte_ok (b : Int) : i_isNameByte b = some (isNmB b) := by
 rw [i_isNameByte_eq, i_isLetter_ok, i_isDigit_ok]; unfold isNmB
 simp only [Option.bind_some]; grind
def isName (s : List UInt8) : Bool := match s with
 | [] => false
 | b :: _ => decide (s.length ≤ 12) && isLet (ib b) && s.all fun c => isNmB (ib c)
theorem i_areAllNm_ok {s : List UInt8} (h : s.length ≤ 9223372036854775807) : i_areAll_byte__i_isNameByte (s.map ib) = some (s.all fun c => isNmB (ib c)) := by
 rw [i_areAll_byte__i_isNameByte_eq]
 have := all_loop (xs := s.map ib) (by simpa using h) (F := i_isNameByte) (p := isNmB) (J := i_areAll_byte_L2__i_isNameByte (s.map ib) (len (s.map ib))) (fun i => by rw [i_areAll_byte_L2__i_isNameByte_eq]) (fun y _ => i_isNameByte_ok y)
 rw [this, List.all_map]
 rfl
theorem i_IsName_ok {s : List UInt8} : i_IsName s = some (isName s) := by
 rw [i_IsName_eq]
 cases s with
 | nil => simp [isName, len_eq]
 | cons b r =>
  by_cases h : (b :: r).length ≤ 12
  ·have h1 : decide (len (b :: r) ≥ 1) = true := by simp only [len_eq, List.length_cons, decide_eq_true_eq]; omega
   have h2 : decide (len (b :: r) ≤ 12) = true := by simp only [len_eq, decide_eq_true_eq]; omega
   rw [if_pos h1, if_pos h2, idx_zero]
   simp only [List.getElem?_cons_zero, Option.bind_some, i_isLetter_ok]
   have := i_areAllNm_ok (s := b :: r) (by omega)
   simp only [List.map_cons] at this ⊢
   rw [this]
   simp only [isName, h, decide_true, Bool.true_and, Option.bind_some]
   cases isLet (ib b) <;> simp
  ·have h2 : ¬ decide (len (b :: r) ≤ 12) = true := by simp only [len_eq, decide_eq_true_eq]; omega
   rw [if_neg h2]
   simp only [isName, h, decide_false, Bool.false_and]
   split <;> rfl
def nmRun : List UInt8 → Nat
 | [] => 0
 | b :: r => if isNmB (ib b) then nmRun r + 1 else 0
theorem nmRun_all : ∀ s, nmRun s = s.length ↔ (s.all fun c => isNmB (ib c)) = true
 | [] => by simp [nmRun]
 | b :: r => by
  have := nmRun_all r
  simp only [nmRun, List.length_cons, List.all_cons, Bool.and_eq_true]
  cases isNmB (ib b)
  ·simp
  ·simp [this]
theorem s_l02NameEnd_L3_ok {s : List UInt8} (h : s.length ≤ 9223372036854775807) : ∀ (n i : Nat), i + n = s.length → s_l02NameEnd_L3 s i = some ((i + nmRun (s.drop i) : Nat) : Int) := by
 intro n
 induction n with
 | zero =>
  intro i hi
  have : i = s.length := by omega
  subst this
  rw [s_l02NameEnd_L3_eq, s_l02NameEnd_L5_eq, List.drop_length]
  simp [len_eq, nmRun]
 | succ n ih =>
  intro i hi
  have hlt : i < s.length := by omega
  have hc : decide ((i : Int) < len s) = true := by simp [len_eq, hlt]
  rw [s_l02NameEnd_L3_eq, if_pos hc, idx_nat, List.getElem?_eq_getElem hlt, List.drop_eq_getElem_cons hlt]
  simp only [Option.bind_some, s_l02Letter_ok, s_l02Digit_ok, s_l02NameEnd_L4_eq, s_l02NameEnd_L5_eq, nmRun]
  have hw : w64 ((i : Int) + 1) = ((i + 1 : Nat) : Int) := by rw [w64_of (by omega) (by omega)]; omega
  rw [hw, ih (i + 1) (by omega)]
  unfold isNmB
  cases isLet (ib s[i]) <;> cases isDig (ib s[i]) <;> cases hb : (ib s[i] == 95) <;> simp <;> omega
theorem s_l02NameEnd_ok {s : List UInt8} (h : s.length ≤ 9223372036854775807) {i : Nat} (hi : i ≤ s.length) :
  s_l02NameEnd s i = some (match s.drop i with
   | [] => (i : Int)
   | b :: r => if isLet (ib b) then ((i + nmRun (b :: r) : Nat) : Int) else i) := by
 rw [s_l02NameEnd_eq]
 by_cases hlt : i < s.length
 ·have hc : ¬ decide ((i : Int) ≥ len s) = true := by simp only [len_eq, decide_eq_true_eq]; omega
  rw [if_neg hc, idx_nat, List.getElem?_eq_getElem hlt, List.drop_eq_getElem_cons hlt]
  simp only [Option.bind_some, s_l02Letter_ok]
  rw [s_l02NameEnd_L3_ok h (s.length - i) i (by omega), List.drop_eq_getElem_cons hlt]
  cases isLet (ib s[i]) <;> simp
 ·have : i = s.length := by omega
  subst this
  rw [List.drop_length]
  simp [len_eq]
theorem s_IsName_ok {s : List UInt8} : s_IsName s = some (isName s) := by
 rw [s_IsName_eq]
 cases s with
 | nil => simp [isName]
 | cons b r =>
  have h0 : (!(b :: r) == []) = true := rfl
  rw [if_pos h0]
  by_cases h : (b :: r).length ≤ 12
  ·have h2 : decide (len (b :: r) ≤ 12) = true := by simp only [len_eq, decide_eq_true_eq]; omega
   have := s_l02NameEnd_ok (s := b :: r) (by omega) (Nat.zero_le _)
   simp only [Int.natCast_zero, List.drop_zero, Nat.zero_add] at this
   rw [if_pos h2, this]
   simp only [isName, h, decide_true, Bool.true_and, Option.bind_some, len_eq]
   congr 1
   rw [Bool.eq_iff_iff, Bool.and_eq_true, ← nmRun_all]
   cases hL : isLet (ib b)
   ·simp; omega
   ·simp; omega
  ·have h2 : ¬ decide (len (b :: r) ≤ 12) = true := by simp only [len_eq, decide_eq_true_eq]; omega
   rw [if_neg h2]
   simp only [isName, h, decide_false, Bool.false_and]
end Go.Dv.U

namespace Go.Dv.U
open Go Go.Dv Go.Proofs
def isPl (b : UInt8) : Bool := decide (32 ≤ ib b) && decide (ib b ≤ 126)
def allPl (s : List UInt8) : Bool := s.all isPl
def hasB (c : Int) (s : List UInt8) : Bool := s.any fun b => ib b == c
theorem i_isPlain_ok (b : Int) : i_isPlain b = some (decide (32 ≤ b) && decide (b ≤ 126)) := by
 rw [i_isPlain_eq]; grind
theorem i_isPlainText_ok {s : List UInt8} (h : s.length ≤ 9223372036854775807) : i_isPlainText s = some (allPl s) := by
 rw [i_isPlainText_eq, i_areAll_byte__i_isPlain_eq]
 have := all_loop (xs := s.map ib) (by simpa using h) (F := i_isPlain) (p := fun b => decide (32 ≤ b) && decide (b ≤ 126)) (J := i_areAll_byte_L2__i_isPlain (s.map ib) (len (s.map ib))) (fun i => by rw [i_areAll_byte_L2__i_isPlain_eq]) (fun y _ => i_isPlain_ok y)
 rw [this, List.all_map]
 rfl
def isPr (x : Bool) (b : UInt8) : Bool := isPl b || (x && ib b == 10)
theorem s_l01Printable_ok' {s : List UInt8} (h : s.length ≤ 9223372036854775807) (x : Bool) : s_l01Printable s x = some (s.all (isPr x)) := by
 rw [s_l01Printable_eq]
 refine loop_ind (xs := s) h (P := fun i l => s_l01Printable_L2 s x i = some (l.all (isPr x))) ?_ ?_
 ·rw [s_l01Printable_L2_eq]; simp [len_eq]
 ·intro i y l _ hlt hy hi hw ih
  rw [s_l01Printable_L2_eq, hi, if_pos (by simp [len_eq, hlt])]
  simp only [Option.bind_some, s_l01Printable_L5_eq, s_l01Printable_L3_eq, hw, ih, List.all_cons, isPr, isPl]
  by_cases h1 : ib y < 32
  ·have h3 : ¬ (32 ≤ ib y) := by omega
   cases x <;> by_cases h2 : ib y = 10 <;> simp [h1, h2, h3]
  ·have h3 : 32 ≤ ib y := by omega
   by_cases h2 : ib y > 126
   ·have h4 : ¬ (ib y ≤ 126) := by omega
    have h5 : ¬ ib y = 10 := by omega
    cases x <;> simp [h1, h2, h3, h4, h5]
   ·have h4 : ib y ≤ 126 := by omega
    cases x <;> simp [h1, h2, h3, h4]
theorem s_l01Printable_ok {s : List UInt8} (h : s.length ≤ 9223372036854775807) : s_l01Printable s false = some (allPl s) := by
 rw [s_l01Printable_ok' h]
 congr 1
 unfold allPl
 congr 1
 funext b
 simp [isPr]
theorem s_l02Holds_ok {s : List UInt8} (h : s.length ≤ 9223372036854775807) (c : Int) : s_l02Holds s c = some (hasB c s) := by
 rw [s_l02Holds_eq]
 exact any_loop h (p := fun b => ib b == c) (J := s_l02Holds_L2 s c) (fun i => by rw [s_l02Holds_L2_eq])
theorem index_one (c : UInt8) : ∀ s : List UInt8, decide (0 ≤ Lib.index s [c]) = hasB (ib c) s
 | [] => by simp [Lib.index, hasB]
 | b :: l => by
  have ih := index_one c l
  have hge := Lib.index_ge l [c]
  unfold Lib.index
  have hp : [c].isPrefixOf (b :: l) = (ib b == ib c) := by
   rw [Bool.eq_iff_iff]
   simp only [List.isPrefixOf, Bool.and_true, beq_iff_eq, ib_inj]
   exact eq_comm
  have hh : hasB (ib c) (b :: l) = (ib b == ib c || hasB (ib c) l) := rfl
  rw [hp, hh, ← ih]
  cases (ib b == ib c)
  ·simp only [Bool.false_eq_true, if_false, Bool.false_or]
   split
   ·rename_i h; rw [beq_iff_eq] at h; rw [h]
   ·rename_i h
    have h : ¬ Lib.index l [c] = -1 := by simpa using h
    rw [Bool.eq_iff_iff, decide_eq_true_eq, decide_eq_true_eq]; omega
  ·simp
theorem containsS_one {s : List UInt8} (h : s.length < 4294967281) (c : UInt8) : containsS s [c] = some (hasB (ib c) s) := by
 unfold containsS
 rw [if_pos h, ← index_one]
 rfl
def canQ (s : List UInt8) : Bool := decide (s.length ≤ 200) && allPl s && !(hasB 39 s && hasB 34 s)
def quote (s : List UInt8) : List UInt8 := if canQ s = true then (if hasB 39 s = true then 34 :: s ++ [34] else 39 :: s ++ [39]) else []
theorem c39 (s : List UInt8) (h : s.length ≤ 200) : containsS s [39] = some (hasB 39 s) := containsS_one (by omega) 39
theorem c34 (s : List UInt8) (h : s.length ≤ 200) : containsS s [34] = some (hasB 34 s) := containsS_one (by omega) 34
theorem i_CanQuote_ok (s : List UInt8) : i_CanQuote s = some (canQ s) := by
 rw [i_CanQuote_eq]
 by_cases h : s.length ≤ 200
 ·have h1 : decide (len s ≤ 200) = true := by simp only [len_eq, decide_eq_true_eq]; omega
  rw [if_pos h1, i_isPlainText_ok (by omega), c39 s h, c34 s h]
  simp only [Option.bind_some, canQ, h, decide_true, Bool.true_and]
  cases allPl s <;> cases hasB 39 s <;> simp
 ·have h1 : ¬ decide (len s ≤ 200) = true := by simp only [len_eq, decide_eq_true_eq]; omega
  rw [if_neg h1]
  simp [canQ, h]
theorem s_CanQuote_ok (s : List UInt8) : s_CanQuote s = some (canQ s) := by
 rw [s_CanQuote_eq]
 by_cases h : s.length ≤ 200
 ·have h1 : decide (len s ≤ 200) = true := by simp only [len_eq, decide_eq_true_eq]; omega
  rw [if_pos h1, s_l01Printable_ok (by omega), s_l02Holds_ok (by omega), s_l02Holds_ok (by omega)]
  simp only [Option.bind_some, canQ, h, decide_true, Bool.true_and]
  cases allPl s <;> cases hasB 39 s <;> simp
 ·have h1 : ¬ decide (len s ≤ 200) = true := by simp only [len_eq, decide_eq_true_eq]; omega
  rw [if_neg h1]
  simp [canQ, h]
theorem canQ_len {s : List UInt8} (h : canQ s = true) : s.length ≤ 200 := by
 unfold canQ at h
 simp only [Bool.and_eq_true_iff, decide_eq_true_eq] at h
 exact h.1.1
theorem quote_len (s : List UInt8) : (quote s).length ≤ 202 := by
 unfold quote
 split
 ·rename_i h
  have := canQ_len h
  split <;> simp <;> omega
 ·simp
theorem i_QuoteString_ok (s : List UInt8) : i_QuoteString s = some (quote s) := by
 rw [i_QuoteString_eq, i_CanQuote_ok]
 simp only [Option.bind_some, quote]
 cases h : canQ s
 ·rfl
 ·have hl := canQ_len h
  simp only [Bool.not_true, Bool.false_eq_true, if_false, if_true, c39 s hl, Option.bind_some]
  rw [app_of (by simp; omega), app_of (by simp; omega)]
  simp only [Option.bind_some]
  rw [app_of (by simp; omega), app_of (by simp; omega)]
  cases hasB 39 s <;> rfl
theorem s_QuoteString_ok (s : List UInt8) : s_QuoteString s = some (quote s) := by
 rw [s_QuoteString_eq, s_CanQuote_ok]
 simp only [Option.bind_some, quote]
 cases h : canQ s
 ·rfl
 ·have hl := canQ_len h
  simp only [Bool.not_true, Bool.false_eq_true, if_false, if_true, s_l02Holds_ok (show s.length ≤ 9223372036854775807 by omega), Option.bind_some]
  rw [app_of (by simp; omega), app_of (by simp; omega)]
  simp only [Option.bind_some]
  rw [app_of (by simp; omega), app_of (by simp; omega)]
  cases hasB 39 s <;> rfl
theorem nDigits_le : ∀ (k u : Nat), u < 10 ^ (k + 1) → Lib.nDigits u ≤ k + 1
 | 0, u, h => by rw [Lib.nDigits_small (by simpa using h)]; exact Nat.le_refl _
 | k + 1, u, h => by
  by_cases hu : u < 10
  ·rw [Lib.nDigits_small hu]; omega
  ·rw [Lib.nDigits_big hu]
   have := nDigits_le k (u / 10) (by rw [Nat.div_lt_iff_lt_mul (by decide)]; rw [Nat.pow_succ] at h; exact h)
   omega
theorem digit_byte {r : Int} (h0 : 0 ≤ r) (h1 : r < 10) : UInt8.ofNat (Int.toNat (IntKind.wrap .u8 (w64 (48 + r)))) = UInt8.ofNat (48 + r.toNat) := by
 rw [w64_of (by omega) (by omega)]
 have e2 : IntKind.u8.wrap (48 + r) = 48 + r := by unfold IntKind.wrap; simp [IntKind.bits, IntKind.signed]; omega
 rw [e2]
 congr 1
 omega
theorem rem_ten (u : Nat) : rem (u : Int) 10 = some ((u % 10 : Nat) : Int) := by
 unfold rem
 rw [if_neg (by decide), Int.tmod_eq_emod_of_nonneg (by omega)]
 congr 1
theorem quo_ten {u : Nat} (h : u < 9223372036854775808) : quo .i64 (u : Int) 10 = some ((u / 10 : Nat) : Int) := by
 unfold quo
 rw [if_neg (by decide), Int.tdiv_eq_ediv_of_nonneg (by omega)]
 congr 1
 have : IntKind.i64.wrap ((u : Int) / 10) = w64 ((u : Int) / 10) := rfl
 rw [this, w64_of (by omega) (by omega)]
 omega
theorem s_l02Int_L4_ok : ∀ (k u : Nat) (s : List UInt8), u < 10 ^ (k + 1) → u < 9223372036854775808 → s.length + k + 1 ≤ 1000 → s_l02Int_L4 u s = some (Lib.decDigits u ++ s) := by
 intro k
 induction k with
 | zero =>
  intro u s h h2 hl
  have hu : u < 10 := by simpa using h
  rw [s_l02Int_L4_eq, if_neg (by simp only [decide_eq_true_eq]; omega)]
  simp only [List.map_cons, List.map_nil, digit_byte (r := (u : Int)) (by omega) (by omega), Int.toNat_natCast]
  rw [app_of (by simp; omega)]
  rw [Lib.decDigits_one hu]
  rfl
 | succ k ih =>
  intro u s h h2 hl
  by_cases hu : u < 10
  ·rw [s_l02Int_L4_eq, if_neg (by simp only [decide_eq_true_eq]; omega)]
   simp only [List.map_cons, List.map_nil, digit_byte (r := (u : Int)) (by omega) (by omega), Int.toNat_natCast]
   rw [app_of (by simp; omega), Lib.decDigits_one hu]
   rfl
  ·rw [s_l02Int_L4_eq, if_pos (by simp only [decide_eq_true_eq]; omega), rem_ten, quo_ten h2]
   simp only [Option.bind_some, List.map_cons, List.map_nil, digit_byte (r := ((u % 10 : Nat) : Int)) (by omega) (by omega), Int.toNat_natCast]
   rw [app_of (by simp; omega)]
   simp only [Option.bind_some]
   rw [ih (u / 10) _ (by rw [Nat.div_lt_iff_lt_mul (by decide)]; rw [Nat.pow_succ] at h; exact h) (by omega) (by simp; omega)]
   have hd : Lib.decDigits u = Lib.decDigits (u / 10) ++ [UInt8.ofNat (48 + u % 10)] := by
    rw [Lib.decDigits, dif_neg hu]
   rw [hd]
   simp
theorem itoa_nat (u : Nat) : Lib.itoa (u : Int) = Lib.decDigits u := by
 unfold Lib.itoa
 rw [if_neg (by omega)]
 rfl
theorem s_l02Int_ok {n : Int} (h0 : 0 ≤ n) (h1 : n < 9223372036854775808) : s_l02Int n = some (Lib.itoa n) := by
 obtain ⟨u, rfl⟩ : ∃ u : Nat, n = u := ⟨n.toNat, by omega⟩
 rw [s_l02Int_eq, if_neg (by simp), s_l02Int_L4_ok 18 u [] (by omega) (by omega) (by decide), itoa_nat]
 simp
theorem i_decimal_ok {n : Int} (h0 : -9223372036854775808 ≤ n) (h1 : n ≤ 9223372036854775807) : i_decimal n = some (Lib.itoa n) := by
 rw [i_decimal_eq]
 unfold itoaS
 rw [if_pos ⟨rfl, h0, h1⟩]
 rfl
theorem itoa_len {n : Int} (h0 : 0 ≤ n) (h1 : n ≤ 1000000000000) : (Lib.itoa n).length ≤ 13 := by
 obtain ⟨u, rfl⟩ : ∃ u : Nat, n = u := ⟨n.toNat, by omega⟩
 rw [itoa_nat, Lib.decDigits_length]
 exact nDigits_le 12 u (by omega)
end Go.Dv.U

namespace Go.Dv.U
open Go Go.Dv Go.Proofs
def SrcOk (c : List Int) (a B : Int) : Prop := (∀ y ∈ c, 0 ≤ y ∧ y ≤ 255) ∧ c.length ≤ 9223372036854775807 ∧ 0 ≤ a ∧ a ≤ B
def Dr {α : Type} (o : Option (α × ((List Int × Int × Int × Unit) × Unit))) (B : Int) (P : α → Prop) : Prop := ∃ v c a s, o = some (v, ((c, a, s, ()), ())) ∧ SrcOk c a B ∧ P v
theorem Dr.bind {α β : Type} {o : Option (α × ((List Int × Int × Int × Unit) × Unit))} {B B' : Int} {P : α → Prop} {Q : β → Prop} {k : α × ((List Int × Int × Int × Unit) × Unit) → Option (β × ((List Int × Int × Int × Unit) × Unit))}
  (h : Dr o B P) (hk : ∀ v c a s, SrcOk c a B → P v → Dr (k (v, ((c, a, s, ()), ()))) B' Q) : Dr (o.bind k) B' Q := by
 obtain ⟨v, c, a, s, rfl, h2, h3⟩ := h
 exact hk v c a s h2 h3
theorem Dr.some {α : Type} {v : α} {c : List Int} {a s B : Int} {P : α → Prop} (h : SrcOk c a B) (hp : P v) : Dr (Option.some (v, ((c, a, s, ()), ()))) B P := ⟨v, c, a, s, rfl, h, hp⟩
end Go.Dv.U

namespace Go.Dv.U
open Go Go.Dv Go.Proofs
theorem i_first2_ok (a b : Int) : i_first [a, b] = some (if a ≠ 0 then a else b) := by
 rw [i_first_eq]
 have e2 : len [a, b] = 2 := rfl
 have w1 : w64 (0 + 1) = 1 := by decide
 have w2 : w64 (1 + 1) = 2 := by decide
 rw [e2, i_first_L2_eq, if_pos (by decide), idx_zero]
 simp only [List.getElem?_cons_zero, Option.bind_some]
 by_cases ha : a = 0
 ·subst ha
  rw [if_neg (by simp), w1, i_first_L2_eq, if_pos (by decide), idx_one]
  simp only [List.getElem?_cons_succ, List.getElem?_cons_zero, Option.bind_some]
  by_cases hb : b = 0
  ·subst hb
   rw [if_neg (by simp), w2, i_first_L2_eq, if_neg (by decide)]
   simp
  ·rw [if_pos (by simpa using hb)]; simp
 ·rw [if_pos (by simpa using ha), if_pos ha]
theorem i_unless_ok (b : Bool) (n : Int) : i_unless b n = some (if b = true then 0 else n) := by
 rw [i_unless_eq, ite_some]
end Go.Dv.U

namespace Go.Dv.U
open Go Go.Dv Go.Proofs
def runOf (p : Int → Bool) : List UInt8 → Nat
 | [] => 0
 | b :: r => if p (ib b) = true then runOf p r + 1 else 0
theorem runOf_le (p : Int → Bool) : ∀ s, runOf p s ≤ s.length
 | [] => Nat.le_refl _
 | b :: r => by
  have := runOf_le p r
  simp only [runOf, List.length_cons]
  split <;> omega
theorem runOf_all (p : Int → Bool) : ∀ s : List UInt8, (s.take (runOf p s)).all (fun b => p (ib b)) = true
 | [] => rfl
 | b :: r => by
  simp only [runOf]
  split
  ·rename_i h
   rw [List.take_succ_cons, List.all_cons, runOf_all p r, h]; rfl
  ·rfl
theorem runOf_nm : ∀ s, runOf isNmB s = nmRun s
 | [] => rfl
 | b :: r => by
  simp only [runOf, nmRun, runOf_nm r]
def isOpr (b : Int) : Bool := b == 43 || b == 45 || b == 42 || b == 47 || b == 124 || b == 46 || b == 36 || b == 64 || b == 61
def markOf (b : Int) : Int := if b = 40 then 5 else if b = 41 then 6 else if b = 60 then 7 else if b = 62 then 8 else if b = 44 then 9 else if b = 58 then 10 else 0
def tokAt : List UInt8 → Option (Int × Int × List UInt8 × Nat)
 | [] => none
 | b :: r =>
  if isLet (ib b) = true then (if runOf isNmB (b :: r) ≤ 12 then some (1, 0, (b :: r).take (runOf isNmB (b :: r)), runOf isNmB (b :: r)) else none)
  else if isDig (ib b) = true then (if runOf isDig (b :: r) ≤ 13 ∧ numD ((b :: r).take (runOf isDig (b :: r))) 0 ≤ 1000000000000 then some (2, ((numD ((b :: r).take (runOf isDig (b :: r))) 0 : Nat) : Int), [], runOf isDig (b :: r)) else none)
  else if ib b = 39 ∨ ib b = 34 then (if runOf (fun c => c != ib b) r < r.length ∧ runOf (fun c => c != ib b) r ≤ 200 then some (3, 0, r.take (runOf (fun c => c != ib b) r), runOf (fun c => c != ib b) r + 2) else none)
  else if isOpr (ib b) = true then some (4, 0, [b], 1)
  else if markOf (ib b) ≠ 0 then some (markOf (ib b), 0, [], 1) else none
theorem tokAt_cons (b : UInt8) (r : List UInt8) : tokAt (b :: r) =
  if isLet (ib b) = true then (if runOf isNmB (b :: r) ≤ 12 then some (1, 0, (b :: r).take (runOf isNmB (b :: r)), runOf isNmB (b :: r)) else none)
  else if isDig (ib b) = true then (if runOf isDig (b :: r) ≤ 13 ∧ numD ((b :: r).take (runOf isDig (b :: r))) 0 ≤ 1000000000000 then some (2, ((numD ((b :: r).take (runOf isDig (b :: r))) 0 : Nat) : Int), [], runOf isDig (b :: r)) else none)
  else if ib b = 39 ∨ ib b = 34 then (if runOf (fun c => c != ib b) r < r.length ∧ runOf (fun c => c != ib b) r ≤ 200 then some (3, 0, r.take (runOf (fun c => c != ib b) r), runOf (fun c => c != ib b) r + 2) else none)
  else if isOpr (ib b) = true then some (4, 0, [b], 1)
  else if markOf (ib b) ≠ 0 then some (markOf (ib b), 0, [], 1) else none := rfl
theorem tokAt_len {s : List UInt8} {k n : Int} {t : List UInt8} {m : Nat} (h : tokAt s = some (k, n, t, m)) : 1 ≤ m ∧ m ≤ s.length := by
 cases s with
 | nil => cases h
 | cons b r =>
  rw [tokAt_cons] at h
  have l1 := runOf_le isNmB (b :: r)
  have l2 := runOf_le isDig (b :: r)
  have l3 := runOf_le (fun c => c != ib b) r
  simp only [List.length_cons] at l1 l2 ⊢
  split at h
  ·rename_i hl
   have : 1 ≤ runOf isNmB (b :: r) := by
    have : isNmB (ib b) = true := by unfold isNmB; rw [hl]; rfl
    simp only [runOf, this, if_true]; omega
   split at h
   ·cases h; omega
   ·cases h
  split at h
  ·rename_i hl
   have : 1 ≤ runOf isDig (b :: r) := by simp only [runOf, hl, if_true]; omega
   split at h
   ·cases h; omega
   ·cases h
  split at h
  ·split at h
   ·rename_i hc; cases h; omega
   ·cases h
  split at h
  ·cases h; omega
  split at h
  ·cases h; omega
  ·cases h
def nextBl (s : List UInt8) : Bool := match s with | [] => true | b :: _ => ib b == 32
def scanL : Nat → List UInt8 → Bool → List TToken → Nat → List TToken × Int × Int
 | _, [], _, out, _ => (out, 0, 0)
 | 0, _ :: _, _, out, _ => (out, 0, 0)
 | n + 1, b :: r, bl, out, at_ => if ib b = 32 then scanL n r true out (at_ + 1) else match tokAt (b :: r) with
  | none => ([], at_, 2)
  | some (k, m, t, w) => if 120 ≤ out.length then ([], at_, 6) else scanL n ((b :: r).drop w) false (out ++ [⟨k, m, t, bl, nextBl ((b :: r).drop w)⟩]) (at_ + w)
theorem span_of {x : List UInt8} (hx : x.length ≤ 1000000) (p : Int → Bool) {J : Int → Option Int} (at_ : Nat) (hJ : ∀ i : Int, J i = if decide (i < len x) = true then (idx x i).bind fun y => if p (ib y) = true then J (w64 (i + 1)) else some (w64 (i - at_)) else some (w64 (i - at_))) :
  ∀ (l : List UInt8) (j : Nat), x.drop j = l → at_ ≤ j → j ≤ x.length → J (j : Int) = some ((j - at_ + runOf p l : Nat) : Int) := by
 intro l
 induction l with
 | nil =>
  intro j hd ha hj
  have : x.length ≤ j := by
   have := congrArg List.length hd
   simp at this; omega
  rw [hJ, if_neg (by simp [len_eq]; omega), w64_of (by omega) (by omega)]
  simp [runOf]; omega
 | cons b l ih =>
  intro j hd ha hj
  have hlt : j < x.length := by
   have := congrArg List.length hd
   simp at this; omega
  rw [List.drop_eq_getElem_cons hlt] at hd
  simp only [List.cons.injEq] at hd
  rw [hJ, if_pos (by simp [len_eq, hlt]), idx_nat, List.getElem?_eq_getElem hlt, hd.1]
  simp only [Option.bind_some, runOf]
  cases hp : p (ib b)
  ·rw [if_neg (by simp), w64_of (by omega) (by omega)]
   simp; omega
  ·rw [if_pos rfl, w64_of (by omega) (by omega), show (j : Int) + 1 = ((j + 1 : Nat) : Int) by omega, ih (j + 1) hd.2 (by omega) (by omega)]
   simp; omega
section
variable {x : List UInt8} (hx : x.length ≤ 4000)

include hx
theorem span_nm {j : Nat} (hj : j ≤ x.length) : i_span__i_isNameByte x (j : Int) = some (runOf isNmB (x.drop j) : Int) := by
 rw [i_span__i_isNameByte_eq]
 have := span_of (x := x) (by omega) isNmB (J := i_span_L2__i_isNameByte x (j : Int)) j (fun i => by rw [i_span_L2__i_isNameByte_eq]; simp only [i_isNameByte_ok, Option.bind_some]) (x.drop j) j rfl (Nat.le_refl _) hj
 rw [this]; simp
theorem span_dg {j : Nat} (hj : j ≤ x.length) : i_span__i_isDigit x (j : Int) = some (runOf isDig (x.drop j) : Int) := by
 rw [i_span__i_isDigit_eq]
 have := span_of (x := x) (by omega) isDig (J := i_span_L2__i_isDigit x (j : Int)) j (fun i => by rw [i_span_L2__i_isDigit_eq]; simp only [i_isDigit_ok, Option.bind_some]) (x.drop j) j rfl (Nat.le_refl _) hj
 rw [this]; simp
theorem span_qu (q : Int) {j : Nat} (hj : j ≤ x.length) : i_span__i_scanToken_c1 x (j : Int) q = some (runOf (fun c => c != q) (x.drop j) : Int) := by
 rw [i_span__i_scanToken_c1_eq]
 have := span_of (x := x) (by omega) (fun c => c != q) (J := i_span_L2__i_scanToken_c1 x (j : Int) q) j (fun i => by rw [i_span_L2__i_scanToken_c1_eq]; simp only [i_scanToken_c1_eq, Option.bind_some]) (x.drop j) j rfl (Nat.le_refl _) hj
 rw [this]; simp
theorem span_bl {j : Nat} (hj : j ≤ x.length) : i_span__i_ScanTokens_c1 x (j : Int) = some (runOf (fun c => c == 32) (x.drop j) : Int) := by
 rw [i_span__i_ScanTokens_c1_eq]
 have := span_of (x := x) (by omega) (fun c => c == 32) (J := i_span_L2__i_ScanTokens_c1 x (j : Int)) j (fun i => by rw [i_span_L2__i_ScanTokens_c1_eq]; simp only [i_ScanTokens_c1_eq, Option.bind_some]) (x.drop j) j rfl (Nat.le_refl _) hj
 rw [this]; simp
end
theorem cut_at {x : List UInt8} {j m : Nat} (h : j + m ≤ x.length) : cut x (j : Int) (Option.getD (some ((j + m : Nat) : Int)) (len x)) = some ((x.drop j).take m) := by
 have := cut_of (xs := x) (a := j) (b := j + m) (by omega) h
 rw [Option.getD_some, this, List.drop_take]
 congr 2; omega
theorem opr_index (b : UInt8) : indexByteS [43, 45, 42, 47, 124, 46, 36, 64, 61] (ib b) = some (Lib.indexByte [43, 45, 42, 47, 124, 46, 36, 64, 61] b) := by
 unfold indexByteS
 have : (ib b).toNat.toUInt8 = b := by simp [ib]
 rw [this]
theorem mark_index (b : UInt8) : indexByteS [40, 41, 60, 62, 44, 58] (ib b) = some (Lib.indexByte [40, 41, 60, 62, 44, 58] b) := by
 unfold indexByteS
 have : (ib b).toNat.toUInt8 = b := by simp [ib]
 rw [this]
theorem all_bytes {P : UInt8 → Prop} (h : ∀ n : Fin 256, P (UInt8.ofNat n)) (b : UInt8) : P b := by
 have := h ⟨b.toNat, b.toNat_lt⟩
 simpa using this
theorem opr_ok : ∀ b : UInt8, decide (Lib.indexByte [43, 45, 42, 47, 124, 46, 36, 64, 61] b ≥ 0) = isOpr (ib b) := all_bytes (by decide +kernel)
theorem mark_ok : ∀ b : UInt8, (Lib.indexByte [40, 41, 60, 62, 44, 58] b = -1 ∧ markOf (ib b) = 0) ∨ (0 ≤ Lib.indexByte [40, 41, 60, 62, 44, 58] b ∧ markOf (ib b) = 5 + Lib.indexByte [40, 41, 60, 62, 44, 58] b ∧ Lib.indexByte [40, 41, 60, 62, 44, 58] b ≤ 5) := all_bytes (by decide +kernel)
theorem opr_lt : ∀ b : UInt8, isOpr (ib b) = true → chr (ib b) = some [b] := all_bytes (by decide +kernel)
theorem i_scanToken_ok {x : List UInt8} (hx : x.length ≤ 4000) {j : Nat} (hj : j < x.length) : ∃ (tk : TToken) (n : Int) (ok : Bool), i_scanToken x (j : Int) = some (tk, n, ok) ∧
    (match tokAt (x.drop j) with | none => ok = false | some (k, m, t, w) => ok = true ∧ tk.fKind = k ∧ tk.fNum = m ∧ tk.fText = t ∧ n = (w : Int)) := by
  obtain ⟨b, r, hd⟩ : ∃ b r, x.drop j = b :: r := ⟨_, _, List.drop_eq_getElem_cons hj⟩
  have hget : idx x (j : Int) = some b := by
    rw [idx_nat, List.getElem?_eq_getElem hj]
    rw [List.drop_eq_getElem_cons hj] at hd
    simp only [List.cons.injEq] at hd
    rw [hd.1]
  have hd1 : x.drop (j + 1) = r := by
    rw [List.drop_eq_getElem_cons hj] at hd
    simp only [List.cons.injEq] at hd
    exact hd.2
  have hrl : (b :: r).length = x.length - j := by rw [← hd, List.length_drop]
  simp only [List.length_cons] at hrl
  rw [i_scanToken_eq, hget, hd, tokAt_cons]
  simp only [Option.bind_some, i_isLetter_ok, i_isDigit_ok]
  by_cases h1 : isLet (ib b) = true
  · rw [if_pos h1, if_pos h1, span_nm hx (by omega), hd]
    have hle := runOf_le isNmB (b :: r)
    simp only [List.length_cons] at hle
    generalize hn : runOf isNmB (b :: r) = n at hle
    simp only [Option.bind_some]
    rw [w64_of (by omega) (by omega), show (j : Int) + (n : Int) = ((j + n : Nat) : Int) by omega, cut_at (by omega), hd]
    simp only [Option.bind_some]
    refine ⟨_, _, _, rfl, ?_⟩
    by_cases h12 : n ≤ 12
    · rw [if_pos h12]
      exact ⟨by simp; omega, rfl, rfl, rfl, rfl⟩
    · rw [if_neg h12]
      simp; omega
  rw [if_neg h1, if_neg h1]
  by_cases h2 : isDig (ib b) = true
  · rw [if_pos h2, if_pos h2, span_dg hx (by omega), hd]
    have hle := runOf_le isDig (b :: r)
    have hall := runOf_all isDig (b :: r)
    have hpos : 1 ≤ runOf isDig (b :: r) := by simp only [runOf, h2, if_true]; omega
    simp only [List.length_cons] at hle
    generalize hn : runOf isDig (b :: r) = n at hle hall hpos
    simp only [Option.bind_some]
    rw [w64_of (by omega) (by omega), show (j : Int) + (n : Int) = ((j + n : Nat) : Int) by omega, cut_at (by omega), hd]
    simp only [Option.bind_some]
    have htl : ((b :: r).take n).length = n := by rw [List.length_take]; simp; omega
    have hdg : ((b :: r).take n).all digB = true := by
      have : (fun c : UInt8 => isDig (ib c)) = digB := by
        funext c
        unfold digB isDig
        rw [ib_eq, Bool.eq_iff_iff]
        simp
        omega
      rw [← this]; exact hall
    unfold readIntS
    by_cases h13 : 13 < n
    · rw [if_pos (by rw [htl]; exact h13)]
      refine ⟨_, _, _, rfl, ?_⟩
      rw [if_neg (by omega)]
    · rw [if_neg (by rw [htl]; exact h13), if_pos ⟨by intro e; rw [e] at htl; simp at htl; omega, hdg⟩]
      refine ⟨_, _, _, rfl, ?_⟩
      by_cases hb : numD ((b :: r).take n) 0 ≤ 1000000000000
      · rw [if_pos ⟨by omega, hb⟩]
        exact ⟨by simpa using hb, rfl, rfl, rfl, rfl⟩
      · rw [if_neg (by omega)]
        simpa using hb
  rw [if_neg h2, if_neg h2]
  have quo : ib b = 39 ∨ ib b = 34 → ∀ z : Option (TToken × Int × Bool), z = ((i_span__i_scanToken_c1 x (w64 ((j : Int) + 1)) (ib b)).bind fun r194 => ((cut x (w64 ((j : Int) + 1)) (Option.getD (Option.some (w64 (w64 ((j : Int) + 1) + r194))) (len x))) : Option (List UInt8)).bind fun y193 =>
      if decide (w64 (w64 ((j : Int) + 1) + r194) < len x) = true then some (TToken.mk (Int.ofNat 3) (Int.ofNat 0) y193 false false, w64 (r194 + 2), decide (r194 ≤ 200)) else some (TToken.mk (Int.ofNat 3) (Int.ofNat 0) y193 false false, w64 (r194 + 2), false)) →
      ∃ (tk : TToken) (n : Int) (ok : Bool), z = some (tk, n, ok) ∧ (match (if runOf (fun c => c != ib b) r < r.length ∧ runOf (fun c => c != ib b) r ≤ 200 then some ((3 : Int), (0 : Int), r.take (runOf (fun c => c != ib b) r), runOf (fun c => c != ib b) r + 2) else none) with | none => ok = false | some (k, m, t, w) => ok = true ∧ tk.fKind = k ∧ tk.fNum = m ∧ tk.fText = t ∧ n = (w : Int)) := by
    intro _ z hz
    have hle := runOf_le (fun c => c != ib b) r
    rw [w64_of (by omega) (by omega), show (j : Int) + 1 = ((j + 1 : Nat) : Int) by omega, span_qu hx (ib b) (by omega), hd1] at hz
    generalize hn : runOf (fun c => c != ib b) r = n at hle hz
    simp only [Option.bind_some] at hz
    rw [w64_of (by omega) (by omega), show ((j + 1 : Nat) : Int) + (n : Int) = ((j + 1 + n : Nat) : Int) by omega, cut_at (by omega), hd1] at hz
    simp only [Option.bind_some] at hz
    rw [w64_of (by omega) (by omega), len_eq] at hz
    by_cases hq : n < r.length
    · rw [if_pos (by simp; omega)] at hz
      refine ⟨_, _, _, hz, ?_⟩
      by_cases h200 : n ≤ 200
      · rw [if_pos ⟨hq, h200⟩]
        exact ⟨by simp; omega, rfl, rfl, rfl, by simp⟩
      · rw [if_neg (by omega)]
        simp; omega
    · rw [if_neg (by simp; omega)] at hz
      refine ⟨_, _, _, hz, ?_⟩
      rw [if_neg (by omega)]
  by_cases h39 : ib b = 39
  · rw [if_pos (by simpa using h39), if_pos (.inl h39)]
    exact quo (.inl h39) _ rfl
  rw [if_neg (by simpa using h39)]
  by_cases h34 : ib b = 34
  · rw [if_pos (by simpa using h34), if_pos (.inr h34)]
    exact quo (.inr h34) _ rfl
  rw [if_neg (by simpa using h34), if_neg (by omega), opr_index]
  simp only [Option.bind_some]
  by_cases h4 : isOpr (ib b) = true
  · rw [if_pos (by rw [opr_ok]; exact h4), if_pos h4, opr_lt b h4]
    simp only [Option.bind_some]
    exact ⟨_, _, _, rfl, rfl, rfl, rfl, rfl, rfl⟩
  · rw [if_neg (by rw [opr_ok]; exact h4), if_neg h4, mark_index]
    simp only [Option.bind_some]
    refine ⟨_, _, _, rfl, ?_⟩
    rcases mark_ok b with ⟨e1, e2⟩ | ⟨e1, e2, e3⟩
    · rw [if_neg (by simpa using e2)]
      simp [e1]
    · rw [if_pos (by omega)]
      refine ⟨by simpa using e1, ?_, rfl, rfl, rfl⟩
      show w64 _ = _
      rw [w64_of (by omega) (by omega), e2]
end Go.Dv.U

namespace Go.Dv.U
open Go Go.Dv Go.Proofs
theorem runOf_zero {p : Int → Bool} {b : UInt8} {r : List UInt8} (h : p (ib b) = false) : runOf p (b :: r) = 0 := by simp [runOf, h]
theorem runOf_succ {p : Int → Bool} {b : UInt8} {r : List UInt8} (h : p (ib b) = true) : runOf p (b :: r) = runOf p r + 1 := by simp [runOf, h]
theorem scanL_skip : ∀ (s : List UInt8) (n : Nat) (bl : Bool) (out : List TToken) (at_ : Nat), s.length ≤ n → scanL n s bl out at_ = scanL (n - runOf (fun c => c == 32) s) (s.drop (runOf (fun c => c == 32) s)) (if runOf (fun c => c == 32) s = 0 then bl else true) out (at_ + runOf (fun c => c == 32) s) := by
 intro s
 induction s with
 | nil => intro n bl out at_ _; simp [runOf]
 | cons b r ih =>
  intro n bl out at_ h
  by_cases hb : ib b = 32
  ·have hr : (fun c : Int => c == 32) (ib b) = true := by simpa using hb
   rw [runOf_succ hr]
   cases n with
   | zero => simp at h
   | succ n =>
    simp only [scanL, hb, if_true]
    rw [ih n true out (at_ + 1) (by simpa using h)]
    simp only [List.drop_succ_cons, Nat.add_eq_zero_iff, Nat.one_ne_zero, and_false, if_false, ite_self]
    congr 1
    ·omega
    ·omega
  ·have hr : (fun c : Int => c == 32) (ib b) = false := by simpa using hb
   rw [runOf_zero hr]
   simp
theorem drop_run {p : Int → Bool} : ∀ s : List UInt8, ∀ b r, s.drop (runOf p s) = b :: r → p (ib b) = false
 | [], b, r, h => by simp [runOf] at h
 | c :: s, b, r, h => by
  cases hc : p (ib c)
  ·rw [runOf_zero hc] at h
   simp only [List.drop_zero, List.cons.injEq] at h
   rw [← h.1]; exact hc
  ·rw [runOf_succ hc] at h
   exact drop_run s b r h
theorem i_L5_ok {x : List UInt8} (hx : x.length ≤ 4000) : ∀ (N n j : Nat) (out : List TToken), n ≤ N → j ≤ x.length → x.length - j ≤ n → out.length ≤ 120 → i_ScanTokens_L5 x (j : Int) out = some (scanL n (x.drop j) (len out == 0) out j) := by
 intro N
 induction N with
 | zero =>
  intro n j out hn hj hl ho
  have : x.drop j = [] := List.drop_eq_nil_of_le (by omega)
  rw [i_ScanTokens_L5_eq, if_neg (by simp [len_eq]; omega), this]
  cases n <;> rfl
 | succ N ih =>
  intro n j out hn hj hl ho
  by_cases hlt : j < x.length
  ·rw [i_ScanTokens_L5_eq, if_pos (by simpa [len_eq] using hlt), span_bl hx hj]
   simp only [Option.bind_some]
   have hle := runOf_le (fun c => c == 32) (x.drop j)
   rw [List.length_drop] at hle
   rw [scanL_skip (x.drop j) n (len out == 0) out j (by rw [List.length_drop]; omega)]
   have hdr := drop_run (p := fun c => c == 32) (x.drop j)
   generalize runOf (fun c => c == 32) (x.drop j) = q at hle hdr ⊢
   rw [List.drop_drop] at hdr ⊢
   rw [w64_of (by omega) (by omega), show (j : Int) + (q : Int) = ((j + q : Nat) : Int) by omega]
   by_cases hend : j + q = x.length
   ·rw [if_pos (by simp [len_eq, hend])]
    have : x.drop (j + q) = [] := List.drop_eq_nil_of_le (by omega)
    rw [this]
    cases (n - q) <;> rfl
   ·rw [if_neg (by simp [len_eq]; omega)]
    have hlt2 : j + q < x.length := by omega
    obtain ⟨b, r, hd⟩ : ∃ b r, x.drop (j + q) = b :: r := ⟨_, _, List.drop_eq_getElem_cons hlt2⟩
    have hb : ¬ ib b = 32 := by simpa using hdr b r hd
    obtain ⟨m, hm⟩ : ∃ m, n - q = m + 1 := ⟨n - q - 1, by omega⟩
    rw [hm, hd]
    simp only [scanL, hb, if_false]
    obtain ⟨tk, w, ok, hs, hmt⟩ := i_scanToken_ok hx hlt2
    rw [hs]
    rw [hd] at hmt
    simp only [Option.bind_some, i_unless_ok, i_first2_ok]
    cases ht : tokAt (b :: r) with
    | none =>
     rw [ht] at hmt
     simp only at hmt
     subst hmt
     simp
    | some z =>
     obtain ⟨k, mm, t, w'⟩ := z
     rw [ht] at hmt
     simp only at hmt
     obtain ⟨rfl, rfl, rfl, rfl, rfl⟩ := hmt
     have hw := tokAt_len ht
     rw [← hd, List.length_drop] at hw
     simp only [if_true, ne_eq, not_true_eq_false, if_false]
     by_cases h120 : 120 ≤ out.length
     ·have e : decide (len out < 120) = false := by simp [len_eq]; omega
      rw [e, if_pos h120]
      simp
     ·have e : decide (len out < 120) = true := by simp [len_eq]; omega
      rw [e, if_neg h120]
      simp only [if_true]
      rw [if_neg (by simp), w64_of (n := ((j + q : Nat) : Int) + (w' : Int)) (by omega) (by omega), show ((j + q : Nat) : Int) + (w' : Int) = ((j + q + w' : Nat) : Int) by omega]
      have hrest : (b :: r).drop w' = x.drop (j + q + w') := by rw [← hd, List.drop_drop]
      rw [hrest]
      have go : ∀ (bf af : Bool), af = nextBl (x.drop (j + q + w')) → bf = (if q = 0 then (len out == 0) else true) → i_ScanTokens_L16 x ((j + q + w' : Nat) : Int) out tk.fKind tk.fNum tk.fText bf af = some (scanL m (x.drop (j + q + w')) false (out ++ [⟨tk.fKind, tk.fNum, tk.fText, if q = 0 then (len out == 0) else true, nextBl (x.drop (j + q + w'))⟩]) (j + q + w')) := by
       intro bf af h1 h2
       rw [i_ScanTokens_L16_eq, app_of (by simp; omega)]
       simp only [Option.bind_some]
       rw [ih m (j + q + w') _ (by omega) (by omega) (by omega) (by simp; omega), h1, h2]
       have : (len (out ++ [(⟨tk.fKind, tk.fNum, tk.fText, if q = 0 then (len out == 0) else true, nextBl (x.drop (j + q + w'))⟩ : TToken)]) == 0) = false := by
        simp [len_eq]; omega
       rw [this]
      by_cases hq : q = 0
      ·rw [if_neg (by simp [hq])]
       by_cases he : j + q + w' = x.length
       ·have hn2 : x.drop (j + q + w') = [] := List.drop_eq_nil_of_le (by omega)
        rw [if_pos (by simp [len_eq, he])]
        exact go _ _ (by rw [hn2]; rfl) (by rw [if_pos hq])
       ·rw [if_neg (by simp [len_eq]; omega), idx_nat, List.getElem?_eq_getElem (by omega)]
        simp only [Option.bind_some]
        exact go _ _ (by rw [List.drop_eq_getElem_cons (by omega)]; rfl) (by rw [if_pos hq])
      ·rw [if_pos (by simp; omega)]
       by_cases he : j + q + w' = x.length
       ·have hn2 : x.drop (j + q + w') = [] := List.drop_eq_nil_of_le (by omega)
        rw [if_pos (by simp [len_eq, he])]
        exact go _ _ (by rw [hn2]; rfl) (by rw [if_neg hq])
       ·rw [if_neg (by simp [len_eq]; omega), idx_nat, List.getElem?_eq_getElem (by omega)]
        simp only [Option.bind_some]
        exact go _ _ (by rw [List.drop_eq_getElem_cons (by omega)]; rfl) (by rw [if_neg hq])
  ·have : x.drop j = [] := List.drop_eq_nil_of_le (by omega)
   rw [i_ScanTokens_L5_eq, if_neg (by simp [len_eq]; omega), this]
   cases n <;> rfl
def scanT (x : List UInt8) : List TToken × Int × Int := if x.length ≤ 4000 ∧ allPl x = true then scanL x.length x true [] 0 else ([], 0, 1)
theorem i_ScanTokens_ok {x : List UInt8} (h : x.length ≤ 9223372036854775807) : i_ScanTokens x = some (scanT x) := by
 rw [i_ScanTokens_eq]
 unfold scanT
 by_cases hl : x.length ≤ 4000
 ·rw [if_neg (by simp [len_eq]; omega), i_isPlainText_ok h]
  simp only [Option.bind_some]
  cases hp : allPl x
  ·simp
  ·have := i_L5_ok hl x.length x.length 0 [] (Nat.le_refl _) (by omega) (by omega) (by simp)
   simp only [Int.natCast_zero, List.drop_zero] at this
   simp only [Bool.not_true, Bool.false_eq_true, if_false, hl, and_self, if_true]
   rw [this]
   rfl
 ·rw [if_pos (by simp [len_eq]; omega), if_neg (by omega)]
end Go.Dv.U

namespace Go.Dv.U
open Go Go.Dv Go.Proofs
theorem s_l02Operator_ok (c : Int) : s_l02Operator c = some (isOpr c) := by
 rw [s_l02Operator_eq, s_l02Operator_L11_eq, s_l02Operator_L12_eq]
 unfold isOpr
 simp only [ite_some]
 congr 1
 cases c == 43 <;> cases c == 45 <;> cases c == 42 <;> cases c == 47 <;> cases c == 124 <;> cases c == 46 <;> cases c == 36 <;> cases c == 64 <;> cases c == 61 <;> rfl
def zTok : TToken := ⟨0, 0, [], false, false⟩
theorem L27_ok (j : Nat) (hj : j ≤ 4000) (c : Int) : s_l02One_L27 (j : Int) c [40, 41, 60, 62, 44, 58] 0 0 0 [] false false = some (if markOf c ≠ 0 then ((⟨markOf c, 0, [], false, false⟩ : TToken), ((j + 1 : Nat) : Int)) else (zTok, -1)) := by
 have hw : w64 ((j : Int) + 1) = ((j + 1 : Nat) : Int) := by rw [w64_of (by omega) (by omega)]; omega
 have step : ∀ (k : Int) (y : UInt8), idx [40, 41, 60, 62, 44, 58] k = some y → 0 ≤ k → k < 6 → s_l02One_L27 (j : Int) c [40, 41, 60, 62, 44, 58] k 0 0 [] false false = if ib y = c then some ((⟨w64 (5 + k), 0, [], false, false⟩ : TToken), ((j + 1 : Nat) : Int)) else s_l02One_L27 (j : Int) c [40, 41, 60, 62, 44, 58] (w64 (k + 1)) 0 0 [] false false := by
  intro k y h h0 h6
  rw [s_l02One_L27_eq, if_pos (by simp [len_eq]; omega), h]
  simp only [Option.bind_some, beq_iff_eq, hw]
  rfl
 have w1 : w64 (0 + 1) = 1 := by decide
 have w2 : w64 (1 + 1) = 2 := by decide
 have w3 : w64 (2 + 1) = 3 := by decide
 have w4 : w64 (3 + 1) = 4 := by decide
 have w5 : w64 (4 + 1) = 5 := by decide
 have w6 : w64 (5 + 1) = 6 := by decide
 have last : s_l02One_L27 (j : Int) c [40, 41, 60, 62, 44, 58] 6 0 0 [] false false = some (zTok, -1) := by
  rw [s_l02One_L27_eq, if_neg (by simp [len_eq])]; rfl
 rw [step 0 40 rfl (by decide) (by decide), w1, step 1 41 rfl (by decide) (by decide), w2, step 2 60 rfl (by decide) (by decide), w3, step 3 62 rfl (by decide) (by decide), w4, step 4 44 rfl (by decide) (by decide), w5, step 5 58 rfl (by decide) (by decide), w6, last]
 have i1 : ib 40 = 40 := by decide
 have i2 : ib 41 = 41 := by decide
 have i3 : ib 60 = 60 := by decide
 have i4 : ib 62 = 62 := by decide
 have i5 : ib 44 = 44 := by decide
 have i6 : ib 58 = 58 := by decide
 have v0 : w64 (5 + 0) = 5 := by decide
 have v1 : w64 (5 + 1) = 6 := by decide
 have v2 : w64 (5 + 2) = 7 := by decide
 have v3 : w64 (5 + 3) = 8 := by decide
 have v4 : w64 (5 + 4) = 9 := by decide
 have v5 : w64 (5 + 5) = 10 := by decide
 simp only [i1, i2, i3, i4, i5, i6, v0, v1, v2, v3, v4, v5]
 unfold markOf
 by_cases h1 : c = 40
 ·subst h1; simp
 by_cases h2 : c = 41
 ·subst h2; simp
 by_cases h3 : c = 60
 ·subst h3; simp
 by_cases h4 : c = 62
 ·subst h4; simp
 by_cases h5 : c = 44
 ·subst h5; simp
 by_cases h6 : c = 58
 ·subst h6; simp
 have f : ∀ n : Int, c ≠ n → ¬ n = c := fun n h e => h e.symm
 simp [h1, h2, h3, h4, h5, h6, f _ h1, f _ h2, f _ h3, f _ h4, f _ h5, f _ h6]
section
variable {x : List UInt8} (hx : x.length ≤ 4000)

include hx
theorem L10_ok {j : Nat} : ∀ (l : List UInt8) (e acc : Nat), x.drop e = l → j ≤ e → e ≤ x.length → e - j ≤ 14 → acc < 10 ^ (e - j) →
  s_l02One_L10 x (j : Int) (acc : Int) (e : Int) 0 0 [] false false = some (if (e - j) + runOf isDig l ≤ 13 ∧ numD (l.take (runOf isDig l)) acc ≤ 1000000000000 then ((⟨2, (numD (l.take (runOf isDig l)) acc : Nat), [], false, false⟩ : TToken), ((e + runOf isDig l : Nat) : Int)) else (zTok, -1)) := by
 have L13 : ∀ (e acc : Nat), j ≤ e → e ≤ x.length → s_l02One_L13 (j : Int) (acc : Int) (e : Int) 0 0 [] false false = some (if e - j ≤ 13 ∧ acc ≤ 1000000000000 then ((⟨2, (acc : Nat), [], false, false⟩ : TToken), (e : Int)) else (zTok, -1)) := by
  intro e acc h1 h2
  rw [s_l02One_L13_eq, w64_of (by omega) (by omega)]
  by_cases h13 : e - j ≤ 13
  ·rw [if_neg (by simp; omega)]
   by_cases hb : acc ≤ 1000000000000
   ·rw [if_neg (by simp; omega), if_pos ⟨h13, hb⟩]
    rfl
   ·rw [if_pos (by simp; omega), if_neg (by omega)]; rfl
  ·rw [if_pos (by simp; omega), if_neg (by omega)]; rfl
 intro l
 induction l with
 | nil =>
  intro e acc hd h1 h2 h3 h4
  have : x.length ≤ e := by
   have := congrArg List.length hd
   simp at this; omega
  rw [s_l02One_L10_eq, if_neg (by simp [len_eq]; omega), L13 e acc h1 h2]
  simp [runOf, numD]
 | cons b l ih =>
  intro e acc hd h1 h2 h3 h4
  have hlt : e < x.length := by
   have := congrArg List.length hd
   simp at this; omega
  rw [List.drop_eq_getElem_cons hlt] at hd
  simp only [List.cons.injEq] at hd
  rw [s_l02One_L10_eq, if_pos (by simp [len_eq, hlt]), idx_nat, List.getElem?_eq_getElem hlt, hd.1]
  simp only [Option.bind_some, s_l02Digit_ok]
  cases hg : isDig (ib b)
  ·rw [if_neg (by simp), L13 e acc h1 h2, runOf_zero hg]
   simp [numD]
  ·rw [if_pos rfl, runOf_succ hg, w64_of (by omega) (by omega)]
   by_cases h14 : e - j < 14
   ·have hb := ib_eq b
    unfold isDig at hg
    simp only [Bool.and_eq_true_iff, decide_eq_true_eq] at hg
    have hp : 10 ^ (e - j) ≤ 10 ^ 13 := Nat.pow_le_pow_right (by decide) (by omega)
    have hp2 : 10 ^ (e - j + 1) = 10 ^ (e - j) * 10 := Nat.pow_succ _ _
    rw [if_pos (by simp; omega), s_l02One_L11_eq, idx_nat, List.getElem?_eq_getElem hlt, hd.1]
    simp only [Option.bind_some]
    have e1 : Go.IntKind.wrap Go.IntKind.u8 (ib b - 48) = ib b - 48 := by unfold IntKind.wrap; simp [IntKind.bits, IntKind.signed]; omega
    rw [e1, w64_of (n := ib b - 48) (by omega) (by omega), w64_of (n := 10 * (acc : Int)) (by omega) (by omega), w64_of (n := 10 * (acc : Int) + (ib b - 48)) (by omega) (by omega), w64_of (n := (e : Int) + 1) (by omega) (by omega)]
    rw [show 10 * (acc : Int) + (ib b - 48) = ((acc * 10 + (b.toNat - 48) : Nat) : Int) by omega, show (e : Int) + 1 = ((e + 1 : Nat) : Int) by omega]
    rw [ih (e + 1) (acc * 10 + (b.toNat - 48)) hd.2 (by omega) (by omega) (by omega) (by rw [show e + 1 - j = e - j + 1 by omega]; omega)]
    have en : numD ((b :: l).take (runOf isDig l + 1)) acc = numD (l.take (runOf isDig l)) (acc * 10 + (b.toNat - 48)) := by
     rw [List.take_succ_cons]; rfl
    rw [en, show e + 1 - j + runOf isDig l = e - j + (runOf isDig l + 1) by omega, show e + 1 + runOf isDig l = e + (runOf isDig l + 1) by omega]
   ·rw [if_neg (by simp; omega), L13 e acc h1 h2, if_neg (by omega), if_neg (by omega)]
theorem L18_ok {j : Nat} (q : Int) : ∀ (l : List UInt8) (e : Nat), x.drop e = l → j + 1 ≤ e → e ≤ x.length →
  s_l02One_L18 x (j : Int) q (e : Int) 0 0 [] false false = some (if runOf (fun c => c != q) l < l.length ∧ e + runOf (fun c => c != q) l - j - 1 ≤ 200 then ((⟨3, 0, (x.drop (j + 1)).take (e + runOf (fun c => c != q) l - j - 1), false, false⟩ : TToken), ((e + runOf (fun c => c != q) l + 1 : Nat) : Int)) else (zTok, -1)) := by
 intro l
 induction l with
 | nil =>
  intro e hd h1 h2
  have : e = x.length := by
   have := congrArg List.length hd
   simp at this; omega
  rw [s_l02One_L18_eq, if_neg (by simp [len_eq]; omega), if_pos (by simp [len_eq, this]), s_l02One_L21_eq]
  rfl
 | cons b l ih =>
  intro e hd h1 h2
  have hlt : e < x.length := by
   have := congrArg List.length hd
   simp at this; omega
  rw [List.drop_eq_getElem_cons hlt] at hd
  simp only [List.cons.injEq] at hd
  rw [s_l02One_L18_eq, if_pos (by simp [len_eq, hlt]), idx_nat, List.getElem?_eq_getElem hlt, hd.1]
  simp only [Option.bind_some]
  by_cases hb : ib b = q
  ·have hr : (fun c : Int => c != q) (ib b) = false := by simpa using hb
   rw [if_neg (by simpa using hb), if_neg (by simp [len_eq]; omega), runOf_zero hr]
   rw [w64_of (n := (e : Int) - (j : Int)) (by omega) (by omega), w64_of (by omega) (by omega)]
   simp only [Nat.add_zero]
   by_cases h200 : e - j - 1 ≤ 200
   ·rw [if_neg (by simp; omega), if_pos ⟨by simp, h200⟩, s_l02One_L22_eq, w64_of (n := (j : Int) + 1) (by omega) (by omega), w64_of (by omega) (by omega)]
    have := cut_at (x := x) (j := j + 1) (m := e - j - 1) (by omega)
    rw [show j + 1 + (e - j - 1) = e by omega] at this
    rw [show (j : Int) + 1 = ((j + 1 : Nat) : Int) by omega, this]
    rfl
   ·rw [if_pos (by simp; omega), if_neg (by omega), s_l02One_L21_eq]
    rfl
  ·have hr : (fun c : Int => c != q) (ib b) = true := by simpa using hb
   rw [if_pos (by simpa using hb), w64_of (by omega) (by omega), show (e : Int) + 1 = ((e + 1 : Nat) : Int) by omega, ih (e + 1) hd.2 (by omega) (by omega), runOf_succ hr]
   have e1 : e + 1 + runOf (fun c => c != q) l = e + (runOf (fun c => c != q) l + 1) := by omega
   rw [e1]
   simp only [List.length_cons, Nat.add_lt_add_iff_right]
theorem s_l02One_ok {j : Nat} (hj : j < x.length) : ∃ (tk : TToken) (e : Int), s_l02One x (j : Int) = some (tk, e) ∧
  (match tokAt (x.drop j) with | none => e = -1 | some (k, m, t, w) => tk.fKind = k ∧ tk.fNum = m ∧ tk.fText = t ∧ e = ((j + w : Nat) : Int)) := by
 obtain ⟨b, r, hd⟩ : ∃ b r, x.drop j = b :: r := ⟨_, _, List.drop_eq_getElem_cons hj⟩
 have hget : idx x (j : Int) = some b := by
  rw [idx_nat, List.getElem?_eq_getElem hj]
  rw [List.drop_eq_getElem_cons hj] at hd
  simp only [List.cons.injEq] at hd
  rw [hd.1]
 have hd1 : x.drop (j + 1) = r := by
  rw [List.drop_eq_getElem_cons hj] at hd
  simp only [List.cons.injEq] at hd
  exact hd.2
 have hrl : (b :: r).length = x.length - j := by rw [← hd, List.length_drop]
 simp only [List.length_cons] at hrl
 have hone : w64 ((j : Int) + 1) = ((j + 1 : Nat) : Int) := by rw [w64_of (by omega) (by omega)]; omega
 rw [s_l02One_eq, hget, hd, tokAt_cons]
 simp only [Option.bind_some, s_l02Letter_ok, s_l02Digit_ok]
 by_cases h1 : isLet (ib b) = true
 ·have hle := runOf_le isNmB (b :: r)
  simp only [List.length_cons] at hle
  rw [if_pos h1, if_pos h1, s_l02NameEnd_ok (by omega) (by omega), hd]
  simp only [h1, if_true, Option.bind_some, ← runOf_nm]
  generalize runOf isNmB (b :: r) = n at hle
  rw [w64_of (by omega) (by omega)]
  by_cases h12 : n ≤ 12
  ·rw [if_neg (by simp; omega), if_pos h12, cut_at (by omega), hd]
   exact ⟨_, _, rfl, rfl, rfl, rfl, rfl⟩
  ·rw [if_pos (by simp; omega), if_neg h12]
   exact ⟨_, _, rfl, rfl⟩
 rw [if_neg h1, if_neg h1]
 by_cases h2 : isDig (ib b) = true
 ·rw [if_pos h2, if_pos h2]
  have := L10_ok hx (j := j) (b :: r) j 0 hd (Nat.le_refl _) (by omega) (by omega) (by simp)
  simp only [Int.natCast_zero, Nat.sub_self, Nat.zero_add] at this
  rw [this]
  split
  ·exact ⟨_, _, rfl, rfl, rfl, rfl, rfl⟩
  ·exact ⟨_, _, rfl, rfl⟩
 rw [if_neg h2, if_neg h2]
 have quo : ∃ (tk : TToken) (e : Int), s_l02One_L18 x (j : Int) (ib b) ((j + 1 : Nat) : Int) 0 0 [] false false = some (tk, e) ∧ (match (if runOf (fun c => c != ib b) r < r.length ∧ runOf (fun c => c != ib b) r ≤ 200 then some ((3 : Int), (0 : Int), r.take (runOf (fun c => c != ib b) r), runOf (fun c => c != ib b) r + 2) else none) with | none => e = -1 | some (k, m, t, w) => tk.fKind = k ∧ tk.fNum = m ∧ tk.fText = t ∧ e = ((j + w : Nat) : Int)) := by
  rw [L18_ok hx (ib b) r (j + 1) hd1 (Nat.le_refl _) (by omega), hd1]
  rw [show j + 1 + runOf (fun c => c != ib b) r - j - 1 = runOf (fun c => c != ib b) r by omega]
  split
  ·exact ⟨_, _, rfl, rfl, rfl, rfl, by omega⟩
  ·exact ⟨_, _, rfl, rfl⟩
 by_cases h39 : ib b = 39
 ·rw [if_pos (by simpa using h39), if_pos (.inl h39), hone]
  exact quo
 rw [if_neg (by simpa using h39)]
 by_cases h34 : ib b = 34
 ·rw [if_pos (by simpa using h34), if_pos (.inr h34), hone]
  exact quo
 rw [if_neg (by simpa using h34), if_neg (by omega), s_l02Operator_ok]
 simp only [Option.bind_some]
 by_cases h4 : isOpr (ib b) = true
 ·rw [if_pos h4, if_pos h4, hone]
  have := cut_at (x := x) (j := j) (m := 1) (by omega)
  rw [this, hd]
  exact ⟨_, _, rfl, rfl, rfl, rfl, rfl⟩
 ·rw [if_neg h4, if_neg h4, L27_ok j (by omega) (ib b)]
  split
  ·exact ⟨_, _, rfl, rfl, rfl, rfl, rfl⟩
  ·exact ⟨_, _, rfl, rfl⟩
theorem s_L4_ok : ∀ (N n j : Nat) (bl : Bool) (out : List TToken), n ≤ N → j ≤ x.length → x.length - j ≤ n → out.length ≤ 120 →
    (∀ tk, out[out.length - 1]? = some tk → tk.fAfter = true ∨ (bl = false ∧ nextBl (x.drop j) = false)) → s_l02Scan_L4 x (j : Int) bl out = some (scanL n (x.drop j) bl out j) := by
  have fin : ∀ (j : Nat) (bl : Bool) (out : List TToken) (n : Nat), x.length ≤ j → j ≤ x.length → out.length ≤ 120 → (∀ tk, out[out.length - 1]? = some tk → tk.fAfter = true ∨ (bl = false ∧ nextBl (x.drop j) = false)) → s_l02Scan_L4 x (j : Int) bl out = some (scanL n (x.drop j) bl out j) := by
    intro j bl out n h1 h2 ho hi
    have hd : x.drop j = [] := List.drop_eq_nil_of_le h1
    have hs : scanL n (x.drop j) bl out j = (out, 0, 0) := by rw [hd]; cases n <;> rfl
    rw [hs, s_l02Scan_L4_eq, if_neg (by simp [len_eq]; omega)]
    by_cases h0 : out.length = 0
    · rw [if_neg (by simp [len_eq, h0])]
    · rw [if_pos (by simp [len_eq]; omega), len_eq, w64_of (by omega) (by omega), show (out.length : Int) - 1 = ((out.length - 1 : Nat) : Int) by omega, idx_nat, Int.toNat_natCast]
      have hlt : out.length - 1 < out.length := by omega
      rw [List.getElem?_eq_getElem hlt]
      simp only [Option.bind_some]
      have ha : (out[out.length - 1]).fAfter = true := by
        rcases hi _ (List.getElem?_eq_getElem hlt) with h | ⟨_, h⟩
        · exact h
        · rw [hd] at h; cases h
      have : upd out (out.length - 1) ⟨out[out.length - 1].fKind, out[out.length - 1].fNum, out[out.length - 1].fText, out[out.length - 1].fBefore, true⟩ = out := by
        rw [upd_eq, ← ha]
        exact List.set_getElem_self hlt
      rw [this]
  intro N
  induction N with
  | zero =>
    intro n j bl out hn hj hl ho hi
    exact fin j bl out n (by omega) hj ho hi
  | succ N ih =>
    intro n j bl out hn hj hl ho hi
    by_cases hlt : j < x.length
    · obtain ⟨b, r, hd⟩ : ∃ b r, x.drop j = b :: r := ⟨_, _, List.drop_eq_getElem_cons hlt⟩
      have hget : idx x (j : Int) = some b := by
        rw [idx_nat, List.getElem?_eq_getElem hlt]
        rw [List.drop_eq_getElem_cons hlt] at hd
        simp only [List.cons.injEq] at hd
        rw [hd.1]
      have hd1 : x.drop (j + 1) = r := by
        rw [List.drop_eq_getElem_cons hlt] at hd
        simp only [List.cons.injEq] at hd
        exact hd.2
      obtain ⟨m, rfl⟩ : ∃ m, n = m + 1 := ⟨n - 1, by omega⟩
      rw [s_l02Scan_L4_eq, if_pos (by simpa [len_eq] using hlt), hget, hd]
      simp only [Option.bind_some, scanL]
      by_cases hb : ib b = 32
      · rw [if_pos (by simpa using hb), if_pos hb, w64_of (by omega) (by omega), show (j : Int) + 1 = ((j + 1 : Nat) : Int) by omega, ih m (j + 1) true out (by omega) (by omega) (by omega) ho (fun tk h => by
          rcases hi tk h with h | ⟨_, h⟩
          · exact .inl h
          · rw [hd] at h
            simp [nextBl, hb] at h), hd1]
      · rw [if_neg (by simpa using hb), if_neg hb]
        obtain ⟨tk, e, hs, hmt⟩ := s_l02One_ok hx hlt
        rw [hs]
        rw [hd] at hmt
        simp only [Option.bind_some]
        cases ht : tokAt (b :: r) with
        | none =>
          rw [ht] at hmt
          simp only at hmt
          subst hmt
          rw [if_pos (by simp)]
        | some z =>
          obtain ⟨k, mm, t, w⟩ := z
          rw [ht] at hmt
          simp only at hmt
          obtain ⟨rfl, rfl, rfl, rfl⟩ := hmt
          have hw := tokAt_len ht
          rw [← hd, List.length_drop] at hw
          rw [if_neg (by simp; omega)]
          simp only
          by_cases h120 : out.length = 120
          · rw [if_pos (show (len out == 120) = true by simp [len_eq, h120]), if_pos (show 120 ≤ out.length by omega)]
          · rw [if_neg (show ¬ (len out == 120) = true by simp [len_eq]; omega), if_neg (show ¬ 120 ≤ out.length by omega)]
            have hrest : (b :: r).drop w = x.drop (j + w) := by rw [← hd, List.drop_drop]
            rw [hrest]
            have go : ∀ af : Bool, af = nextBl (x.drop (j + w)) → ((app out [(⟨tk.fKind, tk.fNum, tk.fText, bl, af⟩ : TToken)]).bind fun y => s_l02Scan_L4 x ((j + w : Nat) : Int) false y) = some (scanL m (x.drop (j + w)) false (out ++ [⟨tk.fKind, tk.fNum, tk.fText, bl, nextBl (x.drop (j + w))⟩]) (j + w)) := by
              intro af h
              rw [app_of (by simp; omega)]
              simp only [Option.bind_some]
              rw [h]
              exact ih m (j + w) false _ (by omega) (by omega) (by omega) (by simp; omega) (fun tk' hk => by
                simp only [List.length_append, List.length_cons, List.length_nil, Nat.zero_add, Nat.add_sub_cancel] at hk
                rw [List.getElem?_append_right (Nat.le_refl _)] at hk
                simp only [Nat.sub_self, List.getElem?_cons_zero, Option.some.injEq] at hk
                subst hk
                cases hnb : nextBl (x.drop (j + w))
                · exact .inr ⟨rfl, rfl⟩
                · exact .inl rfl)
            by_cases he : j + w = x.length
            · have hn2 : x.drop (j + w) = [] := List.drop_eq_nil_of_le (by omega)
              rw [if_pos (show (((j + w : Nat) : Int) == len x) = true by simp [len_eq, he])]
              exact go true (by rw [hn2]; rfl)
            · rw [if_neg (show ¬ (((j + w : Nat) : Int) == len x) = true by simp [len_eq]; omega), idx_nat, List.getElem?_eq_getElem (by omega)]
              simp only [Option.bind_some]
              exact go _ (by rw [List.drop_eq_getElem_cons (by omega)]; rfl)
    · exact fin j bl out n (by omega) hj ho hi
end
theorem s_ScanTokens_ok {x : List UInt8} (h : x.length ≤ 9223372036854775807) : s_ScanTokens x = some (scanT x) := by
 rw [s_ScanTokens_eq]
 unfold scanT
 by_cases hl : x.length ≤ 4000
 ·rw [if_neg (by simp [len_eq]; omega), s_l01Printable_ok h]
  simp only [Option.bind_some]
  cases hp : allPl x
  ·simp
  ·have := s_L4_ok hl x.length x.length 0 true [] (Nat.le_refl _) (by omega) (by omega) (by simp) (fun tk h => by simp at h)
   simp only [Int.natCast_zero, List.drop_zero] at this
   simp only [Bool.not_true, Bool.false_eq_true, if_false, hl, and_self, if_true, s_l02Scan_eq]
   rw [this]
   rfl
 ·rw [if_pos (by simp [len_eq]; omega), if_neg (by omega)]
end Go.Dv.U

namespace Go.Dv.U
open Go Go.Dv Go.Proofs
mutual
def TExpr.n : TExpr → Nat
 | ⟨_, _, _, ks⟩ => 1 + TExpr.ns ks
def TExpr.ns : List TExpr → Nat
 | [] => 0
 | y :: r => TExpr.n y + TExpr.ns r
end
theorem TExpr.ns_eq : ∀ l, TExpr.ns l = sumOf TExpr.n l
 | [] => rfl
 | y :: r => by simp only [TExpr.ns, sumOf, TExpr.ns_eq r]
theorem TExpr.n_eq (x : TExpr) : x.n = 1 + sumOf TExpr.n x.fKids := by
 rw [← TExpr.ns_eq]; cases x; rfl
mutual
def TExpr.all (p : TExpr → Bool) : TExpr → Bool
 | ⟨a, b, c, ks⟩ => p ⟨a, b, c, ks⟩ && TExpr.alls p ks
def TExpr.alls (p : TExpr → Bool) : List TExpr → Bool
 | [] => true
 | y :: r => TExpr.all p y && TExpr.alls p r
end
theorem TExpr.alls_eq (p : TExpr → Bool) : ∀ l, TExpr.alls p l = l.all (TExpr.all p)
 | [] => rfl
 | y :: r => by simp only [TExpr.alls, List.all_cons, TExpr.alls_eq p r]
theorem TExpr.all_eq (p : TExpr → Bool) (x : TExpr) : x.all p = (p x && x.fKids.all (TExpr.all p)) := by
 rw [← TExpr.alls_eq]; cases x; rfl
def eNode (x : TExpr) : Bool :=
 if x.fKind = 1 then x.fKids.length == 0 && x.fNum == 0 && canQ x.fText
 else if x.fKind = 2 then x.fKids.length == 0 && x.fText == [] && (decide (0 ≤ x.fNum) && decide (x.fNum ≤ 1000000000000))
 else if x.fKind = 3 ∨ x.fKind = 16 ∨ x.fKind = 17 ∨ x.fKind = 18 then x.fKids.length == 0 && x.fNum == 0 && isName x.fText
 else if x.fKind = 4 then decide (x.fKids.length ≤ 6) && x.fNum == 0 && isName x.fText
 else x.fNum == 0 && x.fText == [] && (if x.fKind = 12 ∨ x.fKind = 13 then (match x.fKids with | [_, y] => y.fKind == 3 | _ => false)
  else if x.fKind = 14 ∨ x.fKind = 15 then x.fKids.length == 1
  else if 5 ≤ x.fKind ∧ x.fKind ≤ 11 then x.fKids.length == 2 else false)
def TExpr.good (x : TExpr) : Bool := x.all eNode
def TExpr.valid (x : TExpr) : Bool := x.good && decide (x.n ≤ 60)
theorem TExpr.good_eq (x : TExpr) : x.good = (eNode x && x.fKids.all TExpr.good) := TExpr.all_eq _ _
theorem i_isNumber_ok (n : Int) : i_isNumber n = some (decide (0 ≤ n) && decide (n ≤ 1000000000000)) := by
 rw [i_isNumber_eq, i_within_ok]; rfl
theorem i_isNamed_ok (k : Int) : i_isNamed k = some (decide (16 ≤ k) && decide (k ≤ 18)) := by
 rw [i_isNamed_eq, i_within_ok]; rfl
theorem i_isBinary_ok (k : Int) : i_isBinary k = some (decide (6 ≤ k) && decide (k ≤ 13)) := by
 rw [i_isBinary_eq, i_within_ok]; rfl
theorem ek_cases (k : Int) : (k = 1 ∨ k = 2 ∨ k = 3 ∨ k = 4 ∨ k = 5 ∨ k = 6 ∨ k = 7 ∨ k = 8 ∨ k = 9 ∨ k = 10 ∨ k = 11 ∨ k = 12 ∨ k = 13 ∨ k = 14 ∨ k = 15 ∨ k = 16 ∨ k = 17 ∨ k = 18) ∨ (∀ j : Int, 1 ≤ j → j ≤ 18 → ¬ k = j) := by
 by_cases h : 1 ≤ k ∧ k ≤ 18
 ·left; omega
 ·right; intro j h1 h2 e; omega
theorem i_Expr_hasFields_ok (x : TExpr) : i_Expr_hasFields x = some (eNode x) := by
  obtain ⟨k, n, t, ks⟩ := x
  rw [i_Expr_hasFields_eq]
  simp only [i_CanQuote_ok, i_isNumber_ok, i_isNamed_ok, i_isBinary_ok, i_IsName_ok, i_Expr_hasFields_L11_eq, i_Expr_hasFields_L12_eq, i_Expr_hasFields_L18_eq, i_Expr_hasFields_L19_eq, Option.bind_some, len_eq, idx_one, eNode]
  rcases ek_cases k with hk | hk
  · rcases hk with rfl | rfl | rfl | rfl | rfl | rfl | rfl | rfl | rfl | rfl | rfl | rfl | rfl | rfl | rfl | rfl | rfl | rfl <;> rcases ks with _ | ⟨a, _ | ⟨b, _ | ⟨c, r⟩⟩⟩ <;> simp <;> first | grind | (by_cases hn : n = 0 <;> by_cases hm : isName t = true <;> by_cases hr : r.length ≤ 3 <;> simp [hn, hm, hr] <;> omega)
  · have hr : (decide (16 ≤ k) && decide (k ≤ 18)) = false := by
      by_cases h1 : 16 ≤ k
      · have := hk 16 (by omega) (by omega); have := hk 17 (by omega) (by omega); have := hk 18 (by omega) (by omega)
        have h2 : ¬ k ≤ 18 := by omega
        simp [h2]
      · simp [h1]
    have hr2 : (decide (6 ≤ k) && decide (k ≤ 13)) = false := by
      by_cases h1 : 6 ≤ k
      · have h2 : ¬ k ≤ 13 := fun h2 => hk k (by omega) (by omega) rfl
        simp [h2]
      · simp [h1]
    have hr3 : ¬ (5 ≤ k ∧ k ≤ 11) := fun h => hk k (by omega) (by omega) rfl
    simp only [hk, hr, hr2, hr3, beq_iff_eq, Int.reduceLE, or_self, if_false, Bool.false_eq_true, not_false_eq_true, Bool.and_false, ite_self]
theorem s_l03Shape_ok (x : TExpr) : s_l03Shape x.fKind x.fNum x.fText x.fKids = some (eNode x) := by
 obtain ⟨k, n, t, ks⟩ := x
 rw [s_l03Shape_eq]
 simp only [s_CanQuote_ok, s_l00In_ok, s_IsName_ok, s_l03Shape_L13_eq, s_l03Shape_L14_eq, s_l03Shape_L26_eq, s_l03Shape_L27_eq, s_l03Shape_L31_eq, s_l03Shape_L32_eq, Option.bind_some, len_eq, idx_one, eNode]
 rcases ek_cases k with hk | hk
 ·rcases hk with rfl | rfl | rfl | rfl | rfl | rfl | rfl | rfl | rfl | rfl | rfl | rfl | rfl | rfl | rfl | rfl | rfl | rfl <;> rcases ks with _ | ⟨a, _ | ⟨b, _ | ⟨c, r⟩⟩⟩ <;> simp <;> first | grind | (by_cases hn : n = 0 <;> by_cases hm : isName t = true <;> by_cases hr : r.length ≤ 3 <;> simp [hn, hm, hr] <;> omega)
 ·have hr3 : ¬ (5 ≤ k ∧ k ≤ 11) := fun h => hk k (by omega) (by omega) rfl
  simp only [hk, hr3, beq_iff_eq, Int.reduceLE, or_self, if_false, Bool.false_eq_true, not_false_eq_true, Bool.and_false, ite_self]
theorem eSum_pos {l : List TExpr} : l.length ≤ sumOf TExpr.n l := by
 induction l with
 | nil => simp [sumOf]
 | cons y r ih => simp only [List.length_cons, sumOf]; have := y.n_eq; omega
theorem TExpr.n_le_m : ∀ x : TExpr, x.n ≤ x.m + 1 := by
 intro x
 induction x using TExpr.ind with
 | h x ih =>
  rw [x.n_eq, x.m_eq]
  have : ∀ l : List TExpr, (∀ y ∈ l, y.n ≤ y.m + 1) → sumOf TExpr.n l ≤ l.length + sumOf TExpr.m l := by
   intro l
   induction l with
   | nil => intro _; simp [sumOf]
   | cons y r ihr =>
    intro h
    have h1 := h y (by simp)
    have h2 := ihr fun z hz => h z (by simp [hz])
    simp only [sumOf, List.length_cons]; omega
  have := this x.fKids ih
  omega
theorem i_countNodes_ok : ∀ x : TExpr, x.m ≤ 1048576 → ∀ c : Int, 0 ≤ c → c ≤ 60 → i_countNodes x c = some (if x.good = true ∧ c + x.n ≤ 60 then c + x.n else 61) := by
 intro x
 induction x using TExpr.ind with
 | h x ih =>
  intro hm c h0 h1
  have hmq := x.m_eq
  have hn := x.n_eq
  have loop : ∀ c : Int, 0 ≤ c → c ≤ 60 → i_countNodes_L5 c x.fKids (len x.fKids) ((0 : Nat) : Int) = some (if x.fKids.all TExpr.good = true ∧ c + sumOf TExpr.n x.fKids ≤ 60 then c + sumOf TExpr.n x.fKids else 61) := by
   refine loop_ind (xs := x.fKids) (by omega) (P := fun i l => ∀ c : Int, 0 ≤ c → c ≤ 60 → i_countNodes_L5 c x.fKids (len x.fKids) i = some (if l.all TExpr.good = true ∧ c + sumOf TExpr.n l ≤ 60 then c + sumOf TExpr.n l else 61)) ?_ ?_
   ·intro c h0 h1
    rw [i_countNodes_L5_eq]
    simp [len_eq, sumOf, h1]
   ·intro i y l _ hlt hy hi hw ih2 c h0 h1
    rw [i_countNodes_L5_eq, hi, hw, if_pos (by simp [len_eq, hlt])]
    have hmy := TExpr.m_kid hy
    simp only [Option.bind_some, TExpr.re_eq, ih y hy (by omega) c h0 h1]
    have e : sumOf TExpr.n (y :: l) = y.n + sumOf TExpr.n l := rfl
    rw [e, List.all_cons]
    by_cases hc : y.good = true ∧ c + y.n ≤ 60
    ·rw [if_pos hc, if_neg (by simp; omega), ih2 _ (by omega) hc.2]
     congr 1
     by_cases hd : l.all TExpr.good = true ∧ c + y.n + sumOf TExpr.n l ≤ 60
     ·rw [if_pos hd, if_pos ⟨Bool.and_eq_true_iff.2 ⟨hc.1, hd.1⟩, by omega⟩]; omega
     ·rw [if_neg hd, if_neg fun h => hd ⟨(Bool.and_eq_true_iff.1 h.1).2, by omega⟩]
    ·rw [if_neg hc, if_pos (by simp), if_neg fun h => hc ⟨(Bool.and_eq_true_iff.1 h.1).1, by omega⟩]
  have hg := x.good_eq
  rw [i_countNodes_eq, w64_of (by omega) (by omega)]
  by_cases c1 : c + 1 > 60
  ·rw [if_pos (by simpa using c1), if_neg (by omega)]
  rw [if_neg (by simpa using c1), TExpr.re_eq, i_Expr_hasFields_ok]
  have := loop (c + 1) (by omega) (by omega)
  simp only [Int.natCast_zero] at this
  rw [this, hg]
  simp only [Option.bind_some]
  cases ha : eNode x
  ·simp
  ·simp only [Bool.not_true, Bool.false_eq_true, if_false, Bool.true_and]
   congr 1
   by_cases hd : x.fKids.all TExpr.good = true ∧ c + 1 + sumOf TExpr.n x.fKids ≤ 60
   ·rw [if_pos hd, if_pos ⟨hd.1, by omega⟩]; omega
   ·rw [if_neg hd, if_neg fun h => hd ⟨h.1, by omega⟩]
theorem i_ValidExpr_ok {x : TExpr} (hm : x.m ≤ 1048576) : i_ValidExpr x = some x.valid := by
 rw [i_ValidExpr_eq, TExpr.re_eq, i_countNodes_ok x hm 0 (by omega) (by omega)]
 simp only [Option.bind_some, TExpr.valid]
 congr 1
 by_cases h : x.good = true ∧ (0 : Int) + x.n ≤ 60
 ·rw [if_pos h, h.1]; simp; omega
 ·rw [if_neg h]
  cases hg : x.good
  ·simp
  ·simp only [hg, true_and] at h; simp; omega
theorem s_l03Size_ok : ∀ x : TExpr, x.m ≤ 1048576 → ∃ v : Int, s_l03Size x.fKind x.fNum x.fText x.fKids = some v ∧ 1 ≤ v ∧ v ≤ x.n ∧ (v ≤ 60 → v = x.n) := by
 intro x
 induction x using TExpr.ind with
 | h x ih =>
  intro hm
  have hmq := x.m_eq
  have hn := x.n_eq
  have hnm := x.n_le_m
  have loop : ∀ acc : Int, 1 ≤ acc → acc + sumOf TExpr.n x.fKids ≤ 1048577 → ∃ v : Int, s_l03Size_L3 x.fKind x.fNum x.fText x.fKids acc ((0 : Nat) : Int) = some v ∧ acc ≤ v ∧ v ≤ acc + sumOf TExpr.n x.fKids ∧ (v ≤ 60 → v = acc + sumOf TExpr.n x.fKids) := by
   refine loop_ind (xs := x.fKids) (by omega) (P := fun i l => ∀ acc : Int, 1 ≤ acc → acc + sumOf TExpr.n l ≤ 1048577 → ∃ v : Int, s_l03Size_L3 x.fKind x.fNum x.fText x.fKids acc i = some v ∧ acc ≤ v ∧ v ≤ acc + sumOf TExpr.n l ∧ (v ≤ 60 → v = acc + sumOf TExpr.n l)) ?_ ?_
   ·intro acc h1 h2
    refine ⟨acc, ?_, Int.le_refl _, by simp [sumOf], by simp [sumOf]⟩
    rw [s_l03Size_L3_eq]
    simp [len_eq]
   ·intro i y l _ hlt hy hi hw ih2 acc h1 h2
    have hmy := TExpr.m_kid hy
    have hyn := y.n_eq
    have e : sumOf TExpr.n (y :: l) = y.n + sumOf TExpr.n l := rfl
    rw [e] at h2 ⊢
    by_cases hc : acc ≤ 60
    ·obtain ⟨v, hv, v1, v2, v3⟩ := ih y hy (by omega)
     obtain ⟨u, hu, u1, u2, u3⟩ := ih2 (acc + v) (by omega) (by omega)
     refine ⟨u, ?_, by omega, by omega, by omega⟩
     rw [s_l03Size_L3_eq, hi, hw, if_pos (by simp [len_eq, hlt]), if_pos (by simpa using hc)]
     simp only [Option.bind_some, hv]
     rw [w64_of (by omega) (by omega)]
     exact hu
    ·refine ⟨acc, ?_, Int.le_refl _, by omega, by omega⟩
     rw [s_l03Size_L3_eq, if_pos (by simp [len_eq, hlt]), if_neg (by simpa using hc)]
  obtain ⟨v, hv, v1, v2, v3⟩ := loop 1 (Int.le_refl _) (by omega)
  refine ⟨v, ?_, v1, by omega, by omega⟩
  rw [s_l03Size_eq]
  exact hv
theorem s_l03Nodes_ok : ∀ x : TExpr, x.m ≤ 1048576 → s_l03Nodes x.fKind x.fNum x.fText x.fKids = some x.good := by
 intro x
 induction x using TExpr.ind with
 | h x ih =>
  intro hm
  have hmq := x.m_eq
  rw [s_l03Nodes_eq, s_l03Shape_ok, x.good_eq]
  have := all_loop (xs := x.fKids) (by omega) (F := fun y => s_l03Nodes y.fKind y.fNum y.fText y.fKids) (p := TExpr.good) (J := s_l03Nodes_L4 x.fKind x.fNum x.fText x.fKids) (fun i => by rw [s_l03Nodes_L4_eq]) (fun y hy => ih y hy (by have := TExpr.m_kid hy; omega))
  rw [this]
  simp only [Option.bind_some]
  cases eNode x <;> simp
theorem s_l03Ok_ok {x : TExpr} (hm : x.m ≤ 1048576) : s_l03Ok x.fKind x.fNum x.fText x.fKids = some x.valid := by
 rw [s_l03Ok_eq]
 obtain ⟨v, hv, v1, v2, v3⟩ := s_l03Size_ok x hm
 rw [hv, s_l03Nodes_ok x hm]
 simp only [Option.bind_some, TExpr.valid]
 by_cases h : v ≤ 60
 ·have := v3 h
  rw [if_pos (by simpa using h)]
  have h2 : x.n ≤ 60 := by omega
  simp [h2]
 ·rw [if_neg (by simpa using h)]
  have h2 : ¬ x.n ≤ 60 := by omega
  simp [h2]
def eLevel (k : Int) : Int := if k = 6 then 1 else if k = 7 then 2 else if k = 8 ∨ k = 9 then 3 else if k = 10 ∨ k = 11 then 4 else if k = 12 ∨ k = 13 then 5 else if 14 ≤ k ∧ k ≤ 18 then 6 else 7
def eSym (k : Int) : List UInt8 := if k = 6 then [124] else if k = 8 then [43] else if k = 9 then [45] else if k = 10 then [42] else if k = 11 then [47] else if k = 12 then [46] else if k = 13 then [36] else if k = 14 then [45] else if k = 15 then [36] else if k = 16 then [46] else if k = 17 then [42] else if k = 18 then [64] else []
theorem eLevel_rng (k : Int) : 1 ≤ eLevel k ∧ eLevel k ≤ 7 := by unfold eLevel; grind (splits := 60)
theorem eSym_len (k : Int) : (eSym k).length ≤ 1 := by unfold eSym; grind (splits := 60)
theorem i_level_ok (k : Int) : i_level k = some (eLevel k) := by
 rw [i_level_eq, i_level_L11_eq, i_level_L12_eq, i_level_L20_eq, i_level_L21_eq]; unfold eLevel; grind (splits := 60)
theorem s_l03Level_ok (k n : Int) (t : List UInt8) (ks : List TExpr) : s_l03Level k n t ks = some (eLevel k) := by
 rw [s_l03Level_eq, s_l03Level_L11_eq, s_l03Level_L12_eq, s_l03Level_L20_eq, s_l03Level_L21_eq]; unfold eLevel; grind (splits := 60)
theorem i_symbol_ok {k : Int} (h0 : 0 ≤ k) (h1 : k ≤ 18) : i_symbol k = some (eSym k) := by
 rw [i_symbol_eq, idx_of h0]
 have : k = 0 ∨ k = 1 ∨ k = 2 ∨ k = 3 ∨ k = 4 ∨ k = 5 ∨ k = 6 ∨ k = 7 ∨ k = 8 ∨ k = 9 ∨ k = 10 ∨ k = 11 ∨ k = 12 ∨ k = 13 ∨ k = 14 ∨ k = 15 ∨ k = 16 ∨ k = 17 ∨ k = 18 := by omega
 rcases this with rfl | rfl | rfl | rfl | rfl | rfl | rfl | rfl | rfl | rfl | rfl | rfl | rfl | rfl | rfl | rfl | rfl | rfl | rfl <;> rfl
theorem s_l03Sign_ok {k : Int} (h0 : 6 ≤ k) (h1 : k ≤ 13) : s_l03Sign k = some (if k = 7 then [32] else 32 :: eSym k ++ [32]) := by
 rw [s_l03Sign_eq]
 have : k = 6 ∨ k = 7 ∨ k = 8 ∨ k = 9 ∨ k = 10 ∨ k = 11 ∨ k = 12 ∨ k = 13 := by omega
 rcases this with rfl | rfl | rfl | rfl | rfl | rfl | rfl | rfl <;> rfl
def opdT (l : Int) (p : Int × List UInt8) : List UInt8 := if p.1 < l then 40 :: (p.2 ++ [41]) else p.2
theorem opdT_len (l : Int) (p : Int × List UInt8) : (opdT l p).length ≤ p.2.length + 2 := by
 unfold opdT; split <;> simp
def eBody (k n : Int) (t : List UInt8) (ps : List (Int × List UInt8)) : List UInt8 :=
 if k = 1 then quote t else if k = 2 then Lib.itoa n else if k = 3 then t
 else if k = 4 then t ++ [40] ++ Lib.join (ps.map (·.2)) [44] ++ [41]
 else if k = 16 ∨ k = 17 ∨ k = 18 then eSym k ++ t
 else match ps with
  | [a] => eSym k ++ opdT 6 a
  | [a, b] => if k = 5 then opdT 7 a ++ [60] ++ b.2 ++ [62] else if k = 7 then opdT 2 a ++ [32] ++ opdT 3 b else opdT (eLevel k) a ++ [32] ++ eSym k ++ [32] ++ opdT (eLevel k + 1) b
  | _ => []
mutual
def TExpr.text : TExpr → List UInt8
 | ⟨k, n, t, ks⟩ => eBody k n t (TExpr.ptexts ks)
def TExpr.ptexts : List TExpr → List (Int × List UInt8)
 | [] => []
 | y :: r => (eLevel y.fKind, TExpr.text y) :: TExpr.ptexts r
end
theorem TExpr.ptexts_eq : ∀ l, TExpr.ptexts l = l.map fun y => (eLevel y.fKind, TExpr.text y)
 | [] => rfl
 | y :: r => by simp only [TExpr.ptexts, List.map_cons, TExpr.ptexts_eq r]
theorem TExpr.text_eq (x : TExpr) : x.text = eBody x.fKind x.fNum x.fText (x.fKids.map fun y => (eLevel y.fKind, TExpr.text y)) := by
 rw [← TExpr.ptexts_eq]; cases x; rfl
theorem isName_len {s : List UInt8} (h : isName s = true) : s.length ≤ 12 := by
 cases s with
 | nil => simp
 | cons b r =>
  simp only [isName, Bool.and_eq_true_iff, decide_eq_true_eq] at h
  exact h.1.1
theorem lens_sum (l : List TExpr) (C : Nat) (h : ∀ y ∈ l, y.text.length ≤ C * y.n) : Lib.lens (l.map TExpr.text) ≤ C * sumOf TExpr.n l := by
 induction l with
 | nil => simp [Lib.lens, sumOf]
 | cons y r ih =>
  have h1 := h y (by simp)
  have h2 := ih fun z hz => h z (by simp [hz])
  have : Lib.lens ((y :: r).map TExpr.text) = y.text.length + Lib.lens (r.map TExpr.text) := by simp [Lib.lens]
  rw [this]
  simp only [sumOf, Nat.mul_add]; omega
theorem join_len_le (xs : List (List UInt8)) : (Lib.join xs [44]).length ≤ xs.length + Lib.lens xs := by
 cases xs with
 | nil => simp [Lib.join_nil]
 | cons x r => rw [Lib.join_length]; simp
theorem eNode_cases {x : TExpr} (h : eNode x = true) : (x.fKind = 1 ∧ x.fKids = [] ∧ canQ x.fText = true) ∨ (x.fKind = 2 ∧ x.fKids = [] ∧ 0 ≤ x.fNum ∧ x.fNum ≤ 1000000000000) ∨
  ((x.fKind = 3 ∨ x.fKind = 16 ∨ x.fKind = 17 ∨ x.fKind = 18) ∧ x.fKids = [] ∧ isName x.fText = true) ∨ (x.fKind = 4 ∧ x.fKids.length ≤ 6 ∧ isName x.fText = true) ∨
  ((x.fKind = 14 ∨ x.fKind = 15) ∧ ∃ a, x.fKids = [a]) ∨ ((5 ≤ x.fKind ∧ x.fKind ≤ 13) ∧ ∃ a b, x.fKids = [a, b]) := by
 obtain ⟨k, n, t, ks⟩ := x
 unfold eNode at h
 rcases ks with _ | ⟨a, _ | ⟨b, _ | ⟨c, r⟩⟩⟩ <;> grind (splits := 60)
theorem TExpr.text_len : ∀ x : TExpr, x.good = true → x.text.length ≤ 250 * x.n := by
 intro x
 induction x using TExpr.ind with
 | h x ih =>
  intro hg
  have hn := x.n_eq
  rw [x.good_eq, Bool.and_eq_true_iff] at hg
  obtain ⟨hnode, hk⟩ := hg
  rw [List.all_eq_true] at hk
  have ih := fun y hy => ih y hy (hk y hy)
  rw [x.text_eq, hn]
  have hs := eSym_len x.fKind
  have l1 : ∀ l a, (opdT l a).length ≤ a.2.length + 2 := opdT_len
  rcases eNode_cases hnode with ⟨h1, h2, h3⟩ | ⟨h1, h2, h3, h4⟩ | ⟨h1, h2, h3⟩ | ⟨h1, h2, h3⟩ | ⟨h1, a, h2⟩ | ⟨h1, a, b, h2⟩
  ·have := quote_len x.fText
   simp only [eBody, h1, if_true]; omega
  ·have := itoa_len h3 h4
   simp only [eBody, h1, if_true]; simp; omega
  ·have := isName_len h3
   unfold eBody
   rcases h1 with h1 | h1 | h1 | h1 <;> rw [h1] at hs ⊢ <;> simp <;> omega
  ·have := isName_len h3
   have hj := join_len_le (x.fKids.map TExpr.text)
   have hl := lens_sum x.fKids 250 ih
   rw [List.length_map] at hj
   have e : ((x.fKids.map fun y => (eLevel y.fKind, TExpr.text y)).map (·.2)) = x.fKids.map TExpr.text := by rw [List.map_map]; rfl
   simp only [eBody, h1, e]
   simp only [List.length_append, List.length_cons, List.length_nil, show ¬ ((4 : Int) = 1) by decide, show ¬ ((4 : Int) = 2) by decide, show ¬ ((4 : Int) = 3) by decide, if_false, if_true]
   omega
  ·have ha := ih a (by simp [h2])
   have hl := l1 6 (eLevel a.fKind, a.text)
   rw [h2]
   simp only [List.map_cons, List.map_nil, sumOf]
   unfold eBody
   rcases h1 with h1 | h1 <;> rw [h1] at hs ⊢ <;> simp <;> simp at hl <;> omega
  ·have ha := ih a (by simp [h2])
   have hb := ih b (by simp [h2])
   have p1 := fun l => l1 l (eLevel a.fKind, a.text)
   have p2 := fun l => l1 l (eLevel b.fKind, b.text)
   have q1 := p1 7
   have q2 := p1 2
   have q3 := p2 3
   have q4 := p1 (eLevel x.fKind)
   have q5 := p2 (eLevel x.fKind + 1)
   rw [h2]
   simp only [List.map_cons, List.map_nil, sumOf]
   unfold eBody
   rw [if_neg (by omega), if_neg (by omega), if_neg (by omega), if_neg (by omega), if_neg (by omega)]
   simp only at q1 q2 q3 q4 q5 ⊢
   split
   ·simp only [List.length_append, List.length_cons, List.length_nil]; omega
   ·split
    ·simp only [List.length_append, List.length_cons, List.length_nil]; omega
    ·simp only [List.length_append, List.length_cons, List.length_nil]; omega
theorem i_operand_of {y : TExpr} (l : Int) (h : i_Expr_text y = some y.text) (hl : y.text.length ≤ 1000000000) : i_operand y l = some (opdT l (eLevel y.fKind, y.text)) := by
 rw [i_operand_eq, i_level_ok, TExpr.re_eq, h]
 simp only [Option.bind_some, opdT]
 rw [app_of (by simp; omega)]
 simp only [Option.bind_some]
 rw [app_of (by simp; omega)]
 by_cases hc : eLevel y.fKind < l
 ·rw [if_pos (by simpa using hc), if_pos hc]; simp
 ·rw [if_neg (by simpa using hc), if_neg hc]
theorem s_l03At_of {y : TExpr} (l : Int) (h : s_l03Print y.fKind y.fNum y.fText y.fKids = some y.text) (hl : y.text.length ≤ 1000000000) : s_l03At y.fKind y.fNum y.fText y.fKids l = some (opdT l (eLevel y.fKind, y.text)) := by
 rw [s_l03At_eq, s_l03Level_ok, h]
 simp only [Option.bind_some, opdT]
 rw [app_of (by simp; omega)]
 simp only [Option.bind_some]
 rw [app_of (by simp; omega)]
 by_cases hc : eLevel y.fKind < l
 ·rw [if_pos (by simpa using hc), if_pos hc]; simp
 ·rw [if_neg (by simpa using hc), if_neg hc]
theorem i_Expr_text_ok : ∀ x : TExpr, x.good = true → x.n ≤ 1000000 → i_Expr_text x = some x.text := by
 intro x
 induction x using TExpr.ind with
 | h x ih =>
  intro hg hn60
  have hlen := x.text_len hg
  have hn := x.n_eq
  have hg' := hg
  rw [x.good_eq, Bool.and_eq_true_iff] at hg
  obtain ⟨hnode, hk⟩ := hg
  rw [List.all_eq_true] at hk
  have kid : ∀ y ∈ x.fKids, i_Expr_text y = some y.text ∧ y.text.length ≤ 250000000 := fun y hy => by
   have h1 := sumOf_mem (m := TExpr.n) hy
   have h2 := y.text_len (hk y hy)
   exact ⟨ih y hy (hk y hy) (by omega), by omega⟩
  rw [i_Expr_text_eq, i_level_ok]
  simp only [Option.bind_some, i_isNamed_ok]
  have hs := eSym_len x.fKind
  rw [x.text_eq]
  rcases eNode_cases hnode with ⟨h1, h2, h3⟩ | ⟨h1, h2, h3, h4⟩ | ⟨h1, h2, h3⟩ | ⟨h1, h2, h3⟩ | ⟨h1, a, h2⟩ | ⟨h1, a, b, h2⟩
  ·simp [h1, eBody, i_QuoteString_ok]
  ·simp [h1, eBody, i_decimal_ok (show -9223372036854775808 ≤ x.fNum by omega) (show x.fNum ≤ 9223372036854775807 by omega)]
  ·have := isName_len h3
   rcases h1 with h1 | h1 | h1 | h1
   ·simp [h1, eBody]
   all_goals
    rw [h1] at hs ⊢
    simp [eBody, i_symbol_ok]
    rw [app_of (by omega)]
  ·have hnl := isName_len h3
   have fin : ∀ acc : List (List UInt8), acc.length ≤ 6 → Lib.lens acc ≤ 250000000 → i_Expr_text_L11 x.fKids (len x.fKids) (len x.fKids) x.fKind x.fNum x.fText x.fKids acc = some (x.fText ++ [40] ++ Lib.join acc [44] ++ [41]) := by
    intro acc h1 h2
    have hj := join_len_le acc
    rw [i_Expr_text_L11_eq, if_neg (by simp)]
    rw [app_of (by simp; omega)]
    unfold joinS
    rw [if_pos (by unfold big; omega)]
    simp only [Option.bind_some]
    rw [app_of (by simp; omega)]
    simp only [Option.bind_some]
    rw [app_of (by simp; omega)]
    rfl
   have loop : ∀ acc : List (List UInt8), acc.length + x.fKids.length ≤ 6 → Lib.lens acc + Lib.lens (x.fKids.map TExpr.text) ≤ 250000000 → i_Expr_text_L11 x.fKids (len x.fKids) ((0 : Nat) : Int) x.fKind x.fNum x.fText x.fKids acc = some (x.fText ++ [40] ++ Lib.join (acc ++ x.fKids.map TExpr.text) [44] ++ [41]) := by
    refine loop_ind (xs := x.fKids) (by omega) (P := fun i l => ∀ acc : List (List UInt8), acc.length + l.length ≤ 6 → Lib.lens acc + Lib.lens (l.map TExpr.text) ≤ 250000000 → i_Expr_text_L11 x.fKids (len x.fKids) i x.fKind x.fNum x.fText x.fKids acc = some (x.fText ++ [40] ++ Lib.join (acc ++ l.map TExpr.text) [44] ++ [41])) ?_ ?_
    ·intro acc h1 h2
     have := fin acc (by simpa using h1) (by omega)
     rw [len_eq] at this ⊢
     simpa using this
    ·intro i y l _ hlt hy hi hw ih2 acc h1 h2
     rw [i_Expr_text_L11_eq, hi, hw, if_pos (by simp [len_eq, hlt])]
     simp only [Option.bind_some, TExpr.re_eq, (kid y hy).1]
     simp only [List.length_cons] at h1
     rw [app_of (by simp; omega)]
     simp only [Option.bind_some]
     have e1 : Lib.lens (acc ++ [y.text]) = Lib.lens acc + y.text.length := by simp [Lib.lens]
     have e2 : Lib.lens ((y :: l).map TExpr.text) = y.text.length + Lib.lens (l.map TExpr.text) := by simp [Lib.lens]
     rw [e2] at h2
     rw [ih2 (acc ++ [y.text]) (by simp; omega) (by rw [e1]; omega)]
     simp
   have hl := lens_sum x.fKids 250 (fun y hy => y.text_len (hk y hy))
   have := loop [] (by simpa using h2) (by simp [Lib.lens] at hl ⊢; omega)
   have e : ((x.fKids.map fun y => (eLevel y.fKind, TExpr.text y)).map (·.2)) = x.fKids.map TExpr.text := by rw [List.map_map]; rfl
   simp only [Int.natCast_zero, List.nil_append] at this
   rw [h1] at this ⊢
   simp only [eBody, e]
   simpa using this
  ·obtain ⟨ka, la⟩ := kid a (by simp [h2])
   have hl := opdT_len 6 (eLevel a.fKind, a.text)
   simp only at hl
   rw [h2]
   simp only [idx_zero, List.getElem?_cons_zero, Option.bind_some, TExpr.re_eq]
   rw [i_operand_of 6 ka (by omega)]
   rcases h1 with h1 | h1
   all_goals
    rw [h1] at hs ⊢
    simp [eBody, i_symbol_ok, show eLevel 14 = 6 by decide, show eLevel 15 = 6 by decide]
    rw [app_of (by omega)]
  ·obtain ⟨ka, la⟩ := kid a (by simp [h2])
   obtain ⟨kb, lb⟩ := kid b (by simp [h2])
   have p1 := fun l => opdT_len l (eLevel a.fKind, a.text)
   have p2 := fun l => opdT_len l (eLevel b.fKind, b.text)
   simp only at p1 p2
   have hr := eLevel_rng x.fKind
   rw [h2]
   simp only [idx_zero, idx_one, List.getElem?_cons_zero, List.getElem?_cons_succ, Option.bind_some, TExpr.re_eq]
   rw [w64_of (by omega) (by omega)]
   simp only [fun l => i_operand_of l ka (by omega), fun l => i_operand_of l kb (by omega), kb, Option.bind_some]
   have q1 := p1 7
   have q2 := p1 2
   have q3 := p2 3
   have q4 := p1 (eLevel x.fKind)
   have q5 := p2 (eLevel x.fKind + 1)
   have hsy := i_symbol_ok (k := x.fKind) (by omega) (by omega)
   have n1 : ¬ x.fKind = 1 := by omega
   have n2 : ¬ x.fKind = 2 := by omega
   have n3 : ¬ x.fKind = 3 := by omega
   have n4 : ¬ x.fKind = 4 := by omega
   have n5 : ¬ (x.fKind = 16 ∨ x.fKind = 17 ∨ x.fKind = 18) := by omega
   have n6 : (decide (16 ≤ x.fKind) && decide (x.fKind ≤ 18)) = false := by simp; omega
   simp only [List.map_cons, List.map_nil, eBody, n1, n2, n3, n4, n5, n6, if_false, beq_iff_eq, hsy, Option.bind_some, Bool.false_eq_true]
   by_cases c5 : x.fKind = 5
   ·rw [if_pos c5, if_pos c5]
    rw [app_of (by simp; omega)]
    simp only [Option.bind_some]
    rw [app_of (by simp; omega)]
    simp only [Option.bind_some]
    rw [app_of (by simp; omega)]
    rfl
   ·have l6 : ¬ eLevel x.fKind = 6 := by unfold eLevel; grind (splits := 60)
    rw [if_neg c5, if_neg c5, if_neg l6]
    by_cases c7 : x.fKind = 7
    ·have l7 : eLevel x.fKind = 2 := by unfold eLevel; simp [c7]
     rw [if_pos c7, if_pos c7]
     rw [l7] at q4 q5 ⊢
     rw [app_of (by simp; omega)]
     simp only [Option.bind_some]
     rw [app_of (by simp; omega)]
     rfl
    ·rw [if_neg c7, if_neg c7]
     rw [app_of (by simp; omega)]
     simp only [Option.bind_some]
     rw [app_of (by simp; omega)]
     simp only [Option.bind_some]
     rw [app_of (by simp; omega)]
     simp only [Option.bind_some]
     rw [app_of (by simp; omega)]
     rfl
theorem s_l03Print_ok : ∀ x : TExpr, x.good = true → x.n ≤ 1000000 → s_l03Print x.fKind x.fNum x.fText x.fKids = some x.text := by
 intro x
 induction x using TExpr.ind with
 | h x ih =>
  intro hg hn60
  have hlen := x.text_len hg
  have hn := x.n_eq
  have hg' := hg
  rw [x.good_eq, Bool.and_eq_true_iff] at hg
  obtain ⟨hnode, hk⟩ := hg
  rw [List.all_eq_true] at hk
  have kid : ∀ y ∈ x.fKids, s_l03Print y.fKind y.fNum y.fText y.fKids = some y.text ∧ y.text.length ≤ 250000000 := fun y hy => by
   have h1 := sumOf_mem (m := TExpr.n) hy
   have h2 := y.text_len (hk y hy)
   exact ⟨ih y hy (hk y hy) (by omega), by omega⟩
  rw [s_l03Print_eq]
  have hs := eSym_len x.fKind
  rw [x.text_eq]
  rcases eNode_cases hnode with ⟨h1, h2, h3⟩ | ⟨h1, h2, h3, h4⟩ | ⟨h1, h2, h3⟩ | ⟨h1, h2, h3⟩ | ⟨h1, a, h2⟩ | ⟨h1, a, b, h2⟩
  ·simp [h1, eBody, s_QuoteString_ok]
  ·simp [h1, eBody, s_l02Int_ok (show 0 ≤ x.fNum by omega) (show x.fNum < 9223372036854775808 by omega)]
  ·have := isName_len h3
   rcases h1 with h1 | h1 | h1 | h1
   ·simp [h1, eBody]
   all_goals
    rw [h1] at hs ⊢
    simp [eBody, eSym]
    rw [app_of (by simp; omega)]
    simp
  ·have hnl := isName_len h3
   have loop : ∀ acc : List UInt8, acc.length ≤ 1000 → (((0 : Nat) : Int) = 0 → True) → s_l03Print_L23 x.fKind x.fNum x.fText x.fKids acc ((0 : Nat) : Int) = some (acc ++ Lib.join (x.fKids.map TExpr.text) [44] ++ [41]) := by
    have key : ∀ acc : List UInt8, acc.length + Lib.lens (x.fKids.map TExpr.text) + x.fKids.length ≤ 1000000000 → s_l03Print_L23 x.fKind x.fNum x.fText x.fKids acc ((0 : Nat) : Int) = some (acc ++ (if (0 : Nat) = 0 then Lib.join (x.fKids.map TExpr.text) [44] else Lib.joinTail [44] (x.fKids.map TExpr.text)) ++ [41]) := by
     refine loop_ind (xs := x.fKids) (by omega) (P := fun i l => ∀ acc : List UInt8, acc.length + Lib.lens (l.map TExpr.text) + l.length ≤ 1000000000 → s_l03Print_L23 x.fKind x.fNum x.fText x.fKids acc i = some (acc ++ (if i = 0 then Lib.join (l.map TExpr.text) [44] else Lib.joinTail [44] (l.map TExpr.text)) ++ [41])) ?_ ?_
     ·intro acc h1
      rw [s_l03Print_L23_eq, if_neg (by simp [len_eq])]
      simp only [List.length_nil, Lib.lens, List.map_nil, List.sum_nil] at h1
      rw [app_of (by simp; omega)]
      have : Lib.joinTail [44] [] = [] := rfl
      simp [Lib.join_nil, this]
     ·intro i y l _ hlt hy hi hw ih2 acc h1
      have e2 : Lib.lens ((y :: l).map TExpr.text) = y.text.length + Lib.lens (l.map TExpr.text) := by simp [Lib.lens]
      rw [e2, List.length_cons] at h1
      rw [s_l03Print_L23_eq, hi, hw, if_pos (by simp [len_eq, hlt])]
      simp only [Option.bind_some, (kid y hy).1]
      by_cases h0 : i = 0
      ·subst h0
       rw [if_neg (by simp), app_of (by omega)]
       simp only [Option.bind_some]
       rw [ih2 _ (by simp; omega)]
       simp only [Nat.zero_add, Nat.one_ne_zero, if_false, if_true, List.map_cons, Lib.join_cons, List.append_assoc]
      ·rw [if_pos (by simp; omega), app_of (by simp; omega)]
       simp only [Option.bind_some]
       rw [app_of (by simp; omega)]
       simp only [Option.bind_some]
       rw [ih2 _ (by simp; omega)]
       have : Lib.joinTail [44] (y.text :: l.map TExpr.text) = [44] ++ y.text ++ Lib.joinTail [44] (l.map TExpr.text) := rfl
       simp only [h0, Nat.add_eq_zero_iff, Nat.one_ne_zero, and_false, if_false, List.map_cons, this, List.append_assoc]
    intro acc h1 _
    have hl := lens_sum x.fKids 250 (fun y hy => y.text_len (hk y hy))
    have := key acc (by omega)
    simpa using this
   have e : ((x.fKids.map fun y => (eLevel y.fKind, TExpr.text y)).map (·.2)) = x.fKids.map TExpr.text := by rw [List.map_map]; rfl
   have := loop (x.fText ++ [40]) (by simp; omega) (fun _ => trivial)
   simp only [Int.natCast_zero] at this
   rw [h1] at this ⊢
   simp only [eBody, e]
   simp
   rw [app_of (by simp; omega)]
   simpa using this
  ·obtain ⟨ka, la⟩ := kid a (by simp [h2])
   have hl := opdT_len 6 (eLevel a.fKind, a.text)
   simp only at hl
   rw [h2]
   simp only [idx_zero, List.getElem?_cons_zero, Option.bind_some]
   rw [s_l03At_of 6 ka (by omega)]
   rcases h1 with h1 | h1
   all_goals
    rw [h1] at hs ⊢
    simp [eBody, eSym]
    rw [app_of (by simp; omega)]
    simp
  ·obtain ⟨ka, la⟩ := kid a (by simp [h2])
   obtain ⟨kb, lb⟩ := kid b (by simp [h2])
   have p1 := fun l => opdT_len l (eLevel a.fKind, a.text)
   have p2 := fun l => opdT_len l (eLevel b.fKind, b.text)
   simp only at p1 p2
   have hr := eLevel_rng x.fKind
   rw [h2]
   simp only [idx_zero, idx_one, List.getElem?_cons_zero, List.getElem?_cons_succ, Option.bind_some, s_l03Level_ok]
   rw [w64_of (by omega) (by omega)]
   simp only [fun l => s_l03At_of l ka (by omega), fun l => s_l03At_of l kb (by omega), kb, Option.bind_some]
   have q1 := p1 7
   have q2 := p1 2
   have q3 := p2 3
   have q4 := p1 (eLevel x.fKind)
   have q5 := p2 (eLevel x.fKind + 1)
   have n1 : ¬ x.fKind = 1 := by omega
   have n2 : ¬ x.fKind = 2 := by omega
   have n3 : ¬ x.fKind = 3 := by omega
   have n4 : ¬ x.fKind = 4 := by omega
   have n5 : ¬ (x.fKind = 16 ∨ x.fKind = 17 ∨ x.fKind = 18) := by omega
   have m1 : ¬ x.fKind = 16 := by omega
   have m2 : ¬ x.fKind = 17 := by omega
   have m3 : ¬ x.fKind = 18 := by omega
   have m4 : ¬ x.fKind = 14 := by omega
   have m5 : ¬ x.fKind = 15 := by omega
   simp only [List.map_cons, List.map_nil, eBody, n1, n2, n3, n4, n5, m1, m2, m3, m4, m5, if_false, beq_iff_eq]
   by_cases c5 : x.fKind = 5
   ·rw [if_pos c5, if_pos c5]
    rw [app_of (by simp; omega)]
    simp only [Option.bind_some]
    rw [app_of (by simp; omega)]
    simp only [Option.bind_some]
    rw [app_of (by simp; omega)]
    rfl
   ·rw [if_neg c5, if_neg c5, s_l03Sign_ok (by omega) (by omega)]
    by_cases c7 : x.fKind = 7
    ·have l7 : eLevel x.fKind = 2 := by unfold eLevel; simp [c7]
     rw [if_pos c7, if_pos c7]
     rw [l7] at q4 q5 ⊢
     simp only [Option.bind_some]
     rw [app_of (by simp; omega)]
     simp only [Option.bind_some]
     rw [app_of (by simp; omega)]
     rfl
    ·rw [if_neg c7, if_neg c7]
     simp only [Option.bind_some]
     rw [app_of (by simp; omega)]
     simp only [Option.bind_some]
     rw [app_of (by simp; omega)]
     simp
end Go.Dv.U

namespace Go.Dv.U
open Go Go.Dv Go.Proofs
def nmB (s : List UInt8) : Bool := s == [] || isName s
def gOk (g : TGoto) : Bool := (g.fAlways == [] || (g.fSuccess == [] && g.fFailure == [])) && (nmB g.fAlways && nmB g.fSuccess && nmB g.fFailure)
def gZero (g : TGoto) : Bool := g.fAlways == [] && g.fSuccess == [] && g.fFailure == []
def zE (e : TExpr) : Bool := e.fKind == 0 && e.fNum == 0 && e.fText == [] && decide (e.fKids.length = 0)
def partB (b : Bool) (e : TExpr) : Bool := if b = true then e.valid else zE e
def sForm (s : TStatement) : Bool := nmB s.fLabel && gOk s.fGoto && (s.fHasSubject || (!s.fHasPattern && !s.fHasReplace)) && (partB s.fHasSubject s.fSubject && partB s.fHasPattern s.fPattern && partB s.fHasReplace s.fReplace) && !(s.fLabel == [] && !s.fHasSubject && gZero s.fGoto)
def wrapG (c : UInt8) (s : List UInt8) : List UInt8 := if s = [] then [] else [c, 40] ++ s ++ [41]
def gText (g : TGoto) : List UInt8 := if g.fAlways ≠ [] then [58, 40] ++ g.fAlways ++ [41] else if wrapG 83 g.fSuccess ++ wrapG 70 g.fFailure = [] then [] else 58 :: (wrapG 83 g.fSuccess ++ wrapG 70 g.fFailure)
def sTail (s : TStatement) : List UInt8 := (if s.fHasReplace = true then [32, 61, 32] ++ s.fReplace.text else []) ++ (if gText s.fGoto = [] then [] else [32] ++ gText s.fGoto)
def sRest (s : TStatement) : List UInt8 := (if s.fHasSubject = true then [32] ++ opdT 6 (eLevel s.fSubject.fKind, s.fSubject.text) else []) ++ (if s.fHasPattern = true then [32] ++ s.fPattern.text else []) ++ sTail s
def sText (s : TStatement) : List UInt8 := s.fLabel ++ sRest s
def sValid (s : TStatement) : Bool := sForm s && (decide ((sText s).length ≤ 4000) && (scanT (sRest s)).2.2 == 0)
theorem nmB_len {s : List UInt8} (h : nmB s = true) : s.length ≤ 12 := by
 unfold nmB at h
 rw [Bool.or_eq_true_iff] at h
 rcases h with h | h
 ·have : s = [] := by simpa using h
  rw [this]; simp
 ·exact isName_len h
theorem nmB_eq (s : List UInt8) : nmB s = if s = [] then true else isName s := by
 unfold nmB
 by_cases h : s = []
 ·simp [h]
 ·have : (s == []) = false := by simpa using h
  simp [h]
theorem s_l04Name_ok (s : List UInt8) : s_l04Name s = some (nmB s) := by
 rw [s_l04Name_eq, s_IsName_ok, nmB_eq]
 simp only [Option.bind_some, beq_iff_eq]
 split <;> rfl
theorem s_ValidGoto_ok (g : TGoto) : s_ValidGoto g = some (gOk g) := by
 rw [s_ValidGoto_eq, s_ValidGoto_L2_eq, s_ValidGoto_L3_eq]
 simp only [s_l04Name_ok, Option.bind_some, ite_some]
 congr 1
 unfold gOk
 cases g.fAlways == [] <;> cases g.fSuccess == [] <;> cases g.fFailure == [] <;> cases nmB g.fAlways <;> cases nmB g.fSuccess <;> cases nmB g.fFailure <;> rfl
theorem i_IsLabel_ok (s : List UInt8) : i_IsLabel s = some (isName s) := by
 rw [i_IsLabel_eq, i_IsName_ok]; rfl
theorem i_ValidGoto_ok (g : TGoto) : i_ValidGoto g = some (gOk g) := by
 have hlab : i_Goto_labels g = some ([g.fAlways, g.fSuccess, g.fFailure].filter fun s => !(s == [])) := by
  rw [i_Goto_labels_eq]
  generalize g.fAlways = A
  generalize g.fSuccess = B
  generalize g.fFailure = D
  have t3 : len [A, B, D] = 3 := rfl
  have w1 : w64 (0 + 1) = 1 := by decide
  have w2 : w64 (1 + 1) = 2 := by decide
  have w3 : w64 (2 + 1) = 3 := by decide
  have step : ∀ (i : Int) (acc : List (List UInt8)) (y : List UInt8), idx [A, B, D] i = some y → ([A, B, D] : List (List UInt8))[i.toNat]? = some y → i < 3 → acc.length ≤ 10 → i_Goto_labels_L3 3 i acc [A, B, D] = i_Goto_labels_L3 3 (w64 (i + 1)) (acc ++ [y].filter fun s => !(s == [])) [A, B, D] := by
   intro i acc y h1 h2 h3 h4
   rw [i_Goto_labels_L3_eq, if_pos (by simpa using h3), h1, h2]
   simp only [Option.bind_some]
   by_cases hy : y = []
   ·rw [if_neg (by simp [hy])]; simp [hy]
   ·have : (y == []) = false := by simpa using hy
    have hf : ([y].filter fun s => !(s == [])) = [y] := by
     rw [List.filter_cons, if_pos (by rw [this]; rfl)]
     rfl
    rw [if_pos (by simp [hy]), app_of (by simp; omega), hf]
    rfl
  have fl : ∀ y : List UInt8, ([y].filter fun s => !(s == [])).length ≤ 1 := fun y => by
   have := List.length_filter_le (fun s : List UInt8 => !(s == [])) [y]
   simpa using this
  have f1 := fl A
  have f2 := fl B
  rw [t3, step 0 [] A rfl rfl (by decide) (by simp), w1, step 1 _ B rfl rfl (by decide) (by simp at f1 ⊢; omega), w2, step 2 _ D rfl rfl (by decide) (by simp at f1 f2 ⊢; omega), w3, i_Goto_labels_L3_eq, if_neg (by decide)]
  congr 1
  rw [show [A, B, D] = [A] ++ [B] ++ [D] from rfl, List.filter_append, List.filter_append]
  simp
 have hall : ∀ l : List (List UInt8), l.length ≤ 10 → i_areAll_string__i_IsLabel l = some (l.all isName) := by
  intro l hl
  rw [i_areAll_string__i_IsLabel_eq]
  exact all_loop (xs := l) (by omega) (F := i_IsLabel) (p := isName) (J := i_areAll_string_L2__i_IsLabel l (len l)) (fun i => by rw [i_areAll_string_L2__i_IsLabel_eq]) (fun y _ => i_IsLabel_ok y)
 rw [i_ValidGoto_eq]
 try simp only [TGoto.re_eq]
 rw [hlab]
 simp only [Option.bind_some]
 rw [hall _ (by
  have := List.length_filter_le (fun s : List UInt8 => !(s == [])) [g.fAlways, g.fSuccess, g.fFailure]
  simp at this ⊢; omega)]
 simp only [Option.bind_some, ite_some]
 congr 1
 unfold gOk nmB
 have hf : ∀ s : List UInt8, (s == []) = true ∨ (s == []) = false := fun s => by cases s == [] <;> simp
 rcases hf g.fAlways with h1 | h1 <;> rcases hf g.fSuccess with h2 | h2 <;> rcases hf g.fFailure with h3 | h3 <;> simp only [List.filter_cons, List.filter_nil, h1, h2, h3, Bool.not_true, Bool.not_false, Bool.false_eq_true, if_false, if_true, List.all_nil, List.all_cons, Bool.and_true, Bool.true_or, Bool.false_or, Bool.true_and, Bool.and_self, Bool.and_false, Bool.false_and, ite_self] <;> (try split) <;> simp_all
theorem i_isPart_ok (b : Bool) {e : TExpr} (hm : e.m ≤ 1048576) : i_isPart b e = some (partB b e) := by
 rw [i_isPart_eq]
 unfold partB
 cases b
 ·simp only [Bool.false_eq_true, if_false]
  have z0 : (Int.ofNat 0) = 0 := rfl
  simp only [TExpr.re_eq, z0]
  rw [i_SameExpr_eq]
  unfold zE
  have hk : slices_EqualFunc___i_Expr___i_Expr_i_Expr_i_Expr___i_SameExpr e.fKids [] = some (decide (e.fKids.length = 0)) := by
   rw [slices_EqualFunc___i_Expr___i_Expr_i_Expr_i_Expr___i_SameExpr_eq]
   by_cases h : e.fKids.length = 0
   ·rw [if_neg (by simp [len_eq, h]), slices_EqualFunc___i_Expr___i_Expr_i_Expr_i_Expr__L4__i_SameExpr_eq, if_neg (by simp [len_eq, h])]
    simp [h]
   ·rw [if_pos (by simp [len_eq]; intro e; exact h (by rw [e]; rfl))]
    simp [h]
  rw [hk]
  simp only [Option.bind_some, ite_some]
  cases e.fKind == 0 <;> cases e.fNum == 0 <;> cases e.fText == [] <;> simp
 ·simp only [if_true, TExpr.re_eq, i_ValidExpr_ok hm, Option.bind_some]
theorem s_l04Part_ok (b : Bool) {e : TExpr} (hm : e.m ≤ 1048576) : s_l04Part b e = some (partB b e) := by
 rw [s_l04Part_eq]
 unfold partB
 cases b
 ·simp only [Bool.false_eq_true, if_false]
  have z0 : (Int.ofNat 0) = 0 := rfl
  simp only [TExpr.re_eq, z0]
  rw [s_SameExpr_eq, s_l03Same_eq, s_l03Same_L2_eq]
  unfold zE
  by_cases h1 : e.fKind = 0
  ·rw [if_neg (by simp [h1])]
   by_cases h2 : e.fNum = 0
   ·rw [if_neg (by simp [h2])]
    by_cases h3 : e.fText = []
    ·rw [if_neg (by simp [h3])]
     by_cases h4 : e.fKids.length = 0
     ·rw [if_neg (by simp [len_eq, h4]), s_l03Same_L3_eq, s_l03Same_L4_eq, if_neg (by simp [len_eq, h4])]
      simp [h1, h2, h3, h4]
     ·rw [if_pos (by simp [len_eq]; intro e; exact h4 (by rw [e]; rfl))]
      simp [h4]
    ·rw [if_pos (by simp [h3])]
     simp [h3]
   ·rw [if_pos (by simp [h2])]
    simp [h2]
  ·rw [if_pos (by simp [h1])]
   simp [h1]
 ·simp only [if_true, TExpr.re_eq, s_ValidExpr_eq, s_l03Ok_ok hm, Option.bind_some]
theorem s_l04Form_ok {s : TStatement} (h1 : s.fSubject.m ≤ 1048576) (h2 : s.fPattern.m ≤ 1048576) (h3 : s.fReplace.m ≤ 1048576) : s_l04Form s = some (sForm s) := by
 rw [s_l04Form_eq, s_l04Form_L2_eq, s_l04Form_L3_eq, s_l04Form_L4_eq, s_l04Form_L5_eq]
 simp only [TExpr.re_eq, TGoto.re_eq, s_l04Name_ok, s_ValidGoto_ok, s_l04Part_ok _ h1, s_l04Part_ok _ h2, s_l04Part_ok _ h3, Option.bind_some, ite_some]
 congr 1
 unfold sForm gZero
 cases nmB s.fLabel <;> cases gOk s.fGoto <;> cases partB s.fHasSubject s.fSubject <;> cases partB s.fHasPattern s.fPattern <;> cases partB s.fHasReplace s.fReplace <;> cases s.fHasSubject <;> cases s.fHasPattern <;> cases s.fHasReplace <;> cases (s.fLabel == []) <;> cases s.fGoto.fAlways == [] <;> cases s.fGoto.fSuccess == [] <;> cases s.fGoto.fFailure == [] <;> rfl
theorem gOk_len {g : TGoto} (h : gOk g = true) : g.fAlways.length ≤ 12 ∧ g.fSuccess.length ≤ 12 ∧ g.fFailure.length ≤ 12 := by
 unfold gOk at h
 simp only [Bool.and_eq_true_iff] at h
 exact ⟨nmB_len h.2.1.1, nmB_len h.2.1.2, nmB_len h.2.2⟩
theorem wrapG_of {c : UInt8} {s : List UInt8} (h : s ≠ []) : wrapG c s = [c, 40] ++ s ++ [41] := by unfold wrapG; rw [if_neg h]
theorem wrapG_nil (c : UInt8) : wrapG c [] = [] := rfl
theorem wrapG_len (c : UInt8) (s : List UInt8) : (wrapG c s).length ≤ s.length + 3 := by unfold wrapG; split <;> simp
theorem i_Goto_text_ok {g : TGoto} (h : gOk g = true) : i_Goto_text g = some (gText g) := by
 obtain ⟨l1, l2, l3⟩ := gOk_len h
 have L8 : ∀ o : List UInt8, o.length ≤ 100 → i_Goto_text_L8 o = some (if o = [] then [] else 58 :: o) := by
  intro o ho
  rw [i_Goto_text_L8_eq]
  by_cases h : o = []
  ·rw [if_pos (by simp [h]), if_pos h]
  ·rw [if_neg (by simpa using h), if_neg h, app_of (by simp; omega)]
   rfl
 rw [i_Goto_text_eq]
 have w1 := wrapG_len 83 g.fSuccess
 have w2 := wrapG_len 70 g.fFailure
 by_cases hA : g.fAlways = []
 ·have hG : gText g = if wrapG 83 g.fSuccess ++ wrapG 70 g.fFailure = [] then [] else 58 :: (wrapG 83 g.fSuccess ++ wrapG 70 g.fFailure) := by unfold gText; rw [if_neg (fun h => h hA)]
  rw [if_neg (by simp [hA]), hG]
  by_cases hS : g.fSuccess = []
  ·rw [if_neg (by simp [hS]), hS, wrapG_nil, List.nil_append]
   by_cases hF : g.fFailure = []
   ·rw [if_neg (by simp [hF]), hF, wrapG_nil, L8 [] (by simp)]
   ·rw [if_pos (by simp [hF]), app_of (by simp; omega)]
    simp only [Option.bind_some]
    rw [app_of (by simp; omega)]
    simp only [Option.bind_some]
    rw [app_of (by simp; omega)]
    simp only [Option.bind_some]
    rw [L8 _ (by simp; omega), wrapG_of hF]
    simp
  ·rw [if_pos (by simp [hS]), app_of (by simp; omega)]
   simp only [Option.bind_some]
   rw [app_of (by simp; omega)]
   simp only [Option.bind_some]
   rw [app_of (by simp; omega)]
   simp only [Option.bind_some]
   by_cases hF : g.fFailure = []
   ·rw [if_neg (by simp [hF]), hF, wrapG_nil, L8 _ (by simp; omega), wrapG_of hS]
    simp
   ·rw [if_pos (by simp [hF]), app_of (by simp; omega)]
    simp only [Option.bind_some]
    rw [app_of (by simp; omega)]
    simp only [Option.bind_some]
    rw [app_of (by simp; omega)]
    simp only [Option.bind_some]
    rw [L8 _ (by simp; omega), wrapG_of hF, wrapG_of hS]
    simp
 ·have hG : gText g = [58, 40] ++ g.fAlways ++ [41] := by unfold gText; rw [if_pos hA]
  rw [if_pos (by simp [hA]), hG, app_of (by simp; omega)]
  simp only [Option.bind_some]
  rw [app_of (by simp; omega)]
  rfl
theorem s_GotoText_ok {g : TGoto} (h : gOk g = true) : s_GotoText g = some (gText g) := by
 obtain ⟨l1, l2, l3⟩ := gOk_len h
 rw [s_GotoText_eq]
 try simp only [TGoto.re_eq]
 rw [s_ValidGoto_ok, h]
 simp only [Option.bind_some, Bool.not_true, Bool.false_eq_true, if_false]
 have L8 : ∀ (o A B D : List UInt8), o.length ≤ 100 → D.length ≤ 12 → s_GotoText_L8 o A B D = some (o ++ wrapG 70 D) := by
  intro o A B D ho hD
  rw [s_GotoText_L8_eq]
  by_cases h : D = []
  ·rw [if_neg (by simp [h]), h, wrapG_nil]; simp
  ·rw [if_pos (by simp [h]), app_of (by simp; omega)]
   simp only [Option.bind_some]
   rw [app_of (by simp; omega)]
   simp only [Option.bind_some]
   rw [app_of (by simp; omega), wrapG_of h]
   simp
 by_cases hA : g.fAlways = []
 ·have hG : gText g = if wrapG 83 g.fSuccess ++ wrapG 70 g.fFailure = [] then [] else 58 :: (wrapG 83 g.fSuccess ++ wrapG 70 g.fFailure) := by unfold gText; rw [if_neg (fun h => h hA)]
  rw [hG]
  by_cases hS : g.fSuccess = []
  ·by_cases hF : g.fFailure = []
   ·rw [if_pos (by simp [hA, hS, hF]), hS, hF]
    rfl
   ·rw [if_neg (by simp [hF]), if_neg (by simp [hA]), if_neg (by simp [hS]), L8 _ _ _ _ (by simp) l3, hS, wrapG_nil, wrapG_of hF]
    simp
  ·rw [if_neg (by simp [hS]), if_neg (by simp [hA]), if_pos (by simp [hS]), app_of (by simp; omega)]
   simp only [Option.bind_some]
   rw [app_of (by simp; omega)]
   simp only [Option.bind_some]
   rw [app_of (by simp; omega)]
   simp only [Option.bind_some]
   rw [L8 _ _ _ _ (by simp; omega) l3, wrapG_of hS]
   simp
 ·have hG : gText g = [58, 40] ++ g.fAlways ++ [41] := by unfold gText; rw [if_pos hA]
  rw [if_neg (by simp [hA]), if_pos (by simp [hA]), hG, app_of (by simp; omega)]
  simp only [Option.bind_some]
  rw [app_of (by simp; omega)]
  rfl
theorem gText_len {g : TGoto} (h : gOk g = true) : (gText g).length ≤ 100 := by
 obtain ⟨l1, l2, l3⟩ := gOk_len h
 have w1 := wrapG_len 83 g.fSuccess
 have w2 := wrapG_len 70 g.fFailure
 unfold gText
 repeat' split
 all_goals simp <;> omega
theorem gText_nil (g : TGoto) : gText g = [] ↔ gZero g = true := by
 unfold gText gZero wrapG
 by_cases hA : g.fAlways = [] <;> by_cases hS : g.fSuccess = [] <;> by_cases hF : g.fFailure = [] <;> simp [hA, hS, hF]
theorem part_text {b : Bool} {e : TExpr} (h : partB b e = true) (hb : b = true) : i_Expr_text e = some e.text ∧ s_l03Print e.fKind e.fNum e.fText e.fKids = some e.text ∧ e.text.length ≤ 15000 := by
 unfold partB at h
 rw [if_pos hb] at h
 unfold TExpr.valid at h
 rw [Bool.and_eq_true_iff, decide_eq_true_eq] at h
 have := e.text_len h.1
 exact ⟨i_Expr_text_ok e h.1 (by omega), s_l03Print_ok e h.1 (by omega), by omega⟩
theorem sForm_parts {s : TStatement} (h : sForm s = true) : nmB s.fLabel = true ∧ gOk s.fGoto = true ∧ partB s.fHasSubject s.fSubject = true ∧ partB s.fHasPattern s.fPattern = true ∧ partB s.fHasReplace s.fReplace = true := by
 unfold sForm at h
 simp only [Bool.and_eq_true_iff] at h
 obtain ⟨⟨⟨⟨h1, h2⟩, h3⟩, ⟨h4, h5⟩, h6⟩, h7⟩ := h
 exact ⟨h1, h2, h4, h5, h6⟩
theorem i_Statement_text_ok {s : TStatement} (h : sForm s = true) : i_Statement_text s = some (sText s) := by
 obtain ⟨hl, hg, hs, hp, hr⟩ := sForm_parts h
 have ll := nmB_len hl
 have lg := gText_len hg
 have hgt : i_Goto_text (TGoto.mk s.fGoto.fAlways s.fGoto.fSuccess s.fGoto.fFailure) = some (gText s.fGoto) := i_Goto_text_ok hg
 have L6 : ∀ acc : List UInt8, acc.length ≤ 100000 → i_Statement_text_L6 acc s.fLabel s.fHasSubject s.fSubject.fKind s.fSubject.fNum s.fSubject.fText s.fSubject.fKids s.fHasPattern s.fPattern.fKind s.fPattern.fNum s.fPattern.fText s.fPattern.fKids s.fHasReplace s.fReplace.fKind s.fReplace.fNum s.fReplace.fText s.fReplace.fKids s.fGoto.fAlways s.fGoto.fSuccess s.fGoto.fFailure = some (acc ++ sTail s) := by
  intro acc ha
  rw [i_Statement_text_L6_eq]
  simp only [i_Statement_text_L11_eq, hgt, Option.bind_some]
  unfold sTail
  have er : TExpr.mk s.fReplace.fKind s.fReplace.fNum s.fReplace.fText s.fReplace.fKids = s.fReplace := by cases s.fReplace; rfl
  rw [er]
  have fin : ∀ o : List UInt8, o.length ≤ 200000 → (if (!gText s.fGoto == []) = true then (app [32] (gText s.fGoto)).bind fun y194 => (app o y194).bind fun y193 => some y193 else some o) = some (o ++ (if gText s.fGoto = [] then [] else [32] ++ gText s.fGoto)) := by
   intro o ho
   by_cases hz : gText s.fGoto = []
   ·rw [if_neg (by simp [hz]), if_pos hz]; simp
   ·rw [if_pos (by simp [hz]), if_neg hz, app_of (by simp; omega)]
    simp only [Option.bind_some]
    rw [app_of (by simp; omega)]
    rfl
  cases hR : s.fHasReplace
  ·simp only [Bool.false_eq_true, if_false, List.nil_append]
   exact fin acc (by omega)
  ·obtain ⟨t1, _, t3⟩ := part_text hr hR
   simp only [if_true, t1, Option.bind_some]
   rw [app_of (by simp; omega)]
   simp only [Option.bind_some]
   rw [app_of (by simp; omega)]
   simp only [Option.bind_some]
   rw [fin _ (by simp; omega)]
   simp
 rw [i_Statement_text_eq]
 try simp only [TExpr.re_eq, TGoto.re_eq]
 unfold sText sRest
 cases hS : s.fHasSubject
 ·cases hP : s.fHasPattern
  ·rw [hS, hP] at L6
   simp only [Bool.false_eq_true, if_false, List.nil_append]
   exact L6 s.fLabel (by omega)
  ·obtain ⟨t1, _, t3⟩ := part_text hp hP
   rw [hS, hP] at L6
   simp only [Bool.false_eq_true, if_false, if_true, List.nil_append, t1, Option.bind_some]
   rw [app_of (by simp; omega)]
   simp only [Option.bind_some]
   rw [app_of (by simp; omega)]
   simp only [Option.bind_some]
   rw [L6 _ (by simp; omega)]
   simp
 ·obtain ⟨u1, _, u3⟩ := part_text hs hS
  have lo := opdT_len 6 (eLevel s.fSubject.fKind, s.fSubject.text)
  simp only at lo
  have uo := i_operand_of 6 u1 (by omega)
  cases hP : s.fHasPattern
  ·rw [hS, hP] at L6
   simp only [Bool.false_eq_true, if_false, if_true, uo, Option.bind_some]
   rw [app_of (by simp; omega)]
   simp only [Option.bind_some]
   rw [app_of (by simp; omega)]
   simp only [Option.bind_some]
   rw [L6 _ (by simp; omega)]
   simp
  ·obtain ⟨t1, _, t3⟩ := part_text hp hP
   rw [hS, hP] at L6
   simp only [if_true, uo, t1, Option.bind_some]
   rw [app_of (xs := [32]) (ys := opdT 6 (eLevel s.fSubject.fKind, s.fSubject.text)) (by simp; omega)]
   simp only [Option.bind_some]
   rw [app_of (xs := s.fLabel) (by simp; omega)]
   simp only [Option.bind_some]
   rw [app_of (xs := [32]) (by simp; omega)]
   simp only [Option.bind_some]
   rw [app_of (by simp; omega)]
   simp only [Option.bind_some]
   rw [L6 _ (by simp; omega)]
   simp
theorem s_l04Print_ok {s : TStatement} (h : sForm s = true) : s_l04Print s = some (sText s) := by
  obtain ⟨hl, hg, hs, hp, hr⟩ := sForm_parts h
  have ll := nmB_len hl
  have lg := gText_len hg
  have hgt : s_GotoText (TGoto.mk s.fGoto.fAlways s.fGoto.fSuccess s.fGoto.fFailure) = some (gText s.fGoto) := s_GotoText_ok hg
  have hz2 : (s.fGoto.fAlways == [] && (s.fGoto.fSuccess == [] && (s.fGoto.fFailure == [] && true))) = gZero s.fGoto := by
    unfold gZero; simp only [Bool.and_true, Bool.and_assoc]
  have L6 : ∀ acc : List UInt8, acc.length ≤ 100000 → s_l04Print_L6 acc s.fLabel s.fHasSubject s.fSubject.fKind s.fSubject.fNum s.fSubject.fText s.fSubject.fKids s.fHasPattern s.fPattern.fKind s.fPattern.fNum s.fPattern.fText s.fPattern.fKids s.fHasReplace s.fReplace.fKind s.fReplace.fNum s.fReplace.fText s.fReplace.fKids s.fGoto.fAlways s.fGoto.fSuccess s.fGoto.fFailure = some (acc ++ sTail s) := by
    intro acc ha
    rw [s_l04Print_L6_eq]
    simp only [s_l04Print_L10_eq, hgt, hz2, Option.bind_some]
    unfold sTail
    have fin : ∀ o : List UInt8, o.length ≤ 200000 → (if (!gZero s.fGoto) = true then (app [32] (gText s.fGoto)).bind fun y194 => (app o y194).bind fun y193 => some y193 else some o) = some (o ++ (if gText s.fGoto = [] then [] else [32] ++ gText s.fGoto)) := by
      intro o ho
      by_cases hz : gText s.fGoto = []
      · rw [if_neg (by rw [(gText_nil _).1 hz]; simp), if_pos hz]; simp
      · have hzf : gZero s.fGoto = false := by
          cases hq : gZero s.fGoto
          · rfl
          · exact absurd ((gText_nil _).2 hq) hz
        rw [if_pos (by rw [hzf]; rfl), if_neg hz, app_of (by simp; omega)]
        simp only [Option.bind_some]
        rw [app_of (by simp; omega)]
        rfl
    cases hR : s.fHasReplace
    · simp only [Bool.false_eq_true, if_false, List.nil_append]
      exact fin acc (by omega)
    · obtain ⟨_, t1, t3⟩ := part_text hr hR
      simp only [if_true, t1, Option.bind_some]
      rw [app_of (by simp; omega)]
      simp only [Option.bind_some]
      rw [app_of (by simp; omega)]
      simp only [Option.bind_some]
      rw [fin _ (by simp; omega)]
      simp
  rw [s_l04Print_eq]
  try simp only [TExpr.re_eq, TGoto.re_eq]
  unfold sText sRest
  cases hS : s.fHasSubject
  · cases hP : s.fHasPattern
    · rw [hS, hP] at L6
      simp only [Bool.false_eq_true, if_false, List.nil_append]
      exact L6 s.fLabel (by omega)
    · obtain ⟨_, t1, t3⟩ := part_text hp hP
      rw [hS, hP] at L6
      simp only [Bool.false_eq_true, if_false, if_true, List.nil_append, t1, Option.bind_some]
      rw [app_of (by simp; omega)]
      simp only [Option.bind_some]
      rw [app_of (by simp; omega)]
      simp only [Option.bind_some]
      rw [L6 _ (by simp; omega)]
      simp
  · obtain ⟨_, u1, u3⟩ := part_text hs hS
    have lo := opdT_len 6 (eLevel s.fSubject.fKind, s.fSubject.text)
    simp only at lo
    have uo := s_l03At_of 6 u1 (by omega)
    cases hP : s.fHasPattern
    · rw [hS, hP] at L6
      simp only [Bool.false_eq_true, if_false, if_true, uo, Option.bind_some]
      rw [app_of (by simp; omega)]
      simp only [Option.bind_some]
      rw [app_of (by simp; omega)]
      simp only [Option.bind_some]
      rw [L6 _ (by simp; omega)]
      simp
    · obtain ⟨_, t1, t3⟩ := part_text hp hP
      rw [hS, hP] at L6
      simp only [if_true, uo, t1, Option.bind_some]
      rw [app_of (xs := [32]) (ys := opdT 6 (eLevel s.fSubject.fKind, s.fSubject.text)) (by simp; omega)]
      simp only [Option.bind_some]
      rw [app_of (xs := s.fLabel) (by simp; omega)]
      simp only [Option.bind_some]
      rw [app_of (xs := [32]) (by simp; omega)]
      simp only [Option.bind_some]
      rw [app_of (by simp; omega)]
      simp only [Option.bind_some]
      rw [L6 _ (by simp; omega)]
      simp
theorem sText_len {s : TStatement} (h : sForm s = true) : (sText s).length ≤ 100000 := by
 obtain ⟨hl, hg, hs, hp, hr⟩ := sForm_parts h
 have ll := nmB_len hl
 have lg := gText_len hg
 have lo := opdT_len 6 (eLevel s.fSubject.fKind, s.fSubject.text)
 simp only at lo
 unfold sText sRest sTail
 have a1 : (if s.fHasSubject = true then [32] ++ opdT 6 (eLevel s.fSubject.fKind, s.fSubject.text) else []).length ≤ 15003 := by
  split
  ·rename_i hS
   obtain ⟨_, _, u3⟩ := part_text hs hS
   simp; omega
  ·simp
 have a2 : (if s.fHasPattern = true then [32] ++ s.fPattern.text else []).length ≤ 15003 := by
  split
  ·rename_i hS
   obtain ⟨_, _, u3⟩ := part_text hp hS
   simp; omega
  ·simp
 have a3 : (if s.fHasReplace = true then [32, 61, 32] ++ s.fReplace.text else []).length ≤ 15003 := by
  split
  ·rename_i hS
   obtain ⟨_, _, u3⟩ := part_text hr hS
   simp; omega
  ·simp
 have a4 : (if gText s.fGoto = [] then [] else [32] ++ gText s.fGoto).length ≤ 101 := by
  split
  ·simp
  ·simp; omega
 simp only [List.length_append]
 omega
theorem trim_ok {p r : List UInt8} (h : (p ++ r).length ≤ 1000000) : strings_TrimPrefix (p ++ r) p = some r := by
 have hh : internal_stringslite_HasPrefix (p ++ r) p = some true := by
  rw [internal_stringslite_HasPrefix_eq, if_pos (by simp [len_eq]; omega)]
  have := cut_of (xs := p ++ r) (a := 0) (b := p.length) (by omega) (by simp)
  rw [Option.getD_some, len_eq, show (0 : Int) = ((0 : Nat) : Int) from rfl, this]
  simp
 rw [strings_TrimPrefix_eq, internal_stringslite_TrimPrefix_eq, hh]
 simp only [Option.bind_some, if_true]
 have := cut_of (xs := p ++ r) (a := p.length) (b := (p ++ r).length) (by simp) (Nat.le_refl _)
 rw [Option.getD_none, len_eq, len_eq, this, List.take_length, List.drop_left]
 rfl
theorem s_ValidStatement_ok {s : TStatement} (h1 : s.fSubject.m ≤ 1048576) (h2 : s.fPattern.m ≤ 1048576) (h3 : s.fReplace.m ≤ 1048576) : s_ValidStatement s = some (sValid s) := by
 have es : TStatement.mk s.fLabel s.fHasSubject s.fSubject s.fHasPattern s.fPattern s.fHasReplace s.fReplace s.fGoto = s := rfl
 rw [s_ValidStatement_eq]
 try simp only [TStatement.re_eq, TExpr.re_eq, TGoto.re_eq]
 rw [es, s_l04Form_ok h1 h2 h3]
 simp only [Option.bind_some]
 unfold sValid
 cases hf : sForm s
 ·simp
 ·have hl := sText_len hf
  rw [s_l04Print_ok hf]
  simp only [Option.bind_some, Bool.not_true, Bool.false_eq_true, if_false, Bool.true_and]
  by_cases h4 : (sText s).length ≤ 4000
  ·rw [if_neg (by simp [len_eq]; omega)]
   have hc : cut (sText s) (len s.fLabel) (Option.getD none (len (sText s))) = some (sRest s) := by
    have := cut_of (xs := sText s) (a := s.fLabel.length) (b := (sText s).length) (by unfold sText; simp) (Nat.le_refl _)
    rw [Option.getD_none, len_eq, len_eq, this, List.take_length]
    unfold sText
    rw [List.drop_left]
   have hr : (sRest s).length ≤ (sText s).length := by unfold sText; simp
   rw [hc]
   simp only [Option.bind_some]
   rw [s_ScanTokens_ok (by omega)]
   simp only [Option.bind_some, h4, decide_true, Bool.true_and]
  ·rw [if_pos (by simp [len_eq]; omega)]
   simp [h4]
theorem i_ValidStatement_ok {s : TStatement} (h1 : s.fSubject.m ≤ 1048576) (h2 : s.fPattern.m ≤ 1048576) (h3 : s.fReplace.m ≤ 1048576) : i_ValidStatement s = some (sValid s) := by
 have es : TStatement.mk s.fLabel s.fHasSubject s.fSubject s.fHasPattern s.fPattern s.fHasReplace s.fReplace s.fGoto = s := rfl
 have ea : TExpr.mk s.fSubject.fKind s.fSubject.fNum s.fSubject.fText s.fSubject.fKids = s.fSubject := by cases s.fSubject; rfl
 have eb : TExpr.mk s.fPattern.fKind s.fPattern.fNum s.fPattern.fText s.fPattern.fKids = s.fPattern := by cases s.fPattern; rfl
 have ec : TExpr.mk s.fReplace.fKind s.fReplace.fNum s.fReplace.fText s.fReplace.fKids = s.fReplace := by cases s.fReplace; rfl
 have eg : TGoto.mk s.fGoto.fAlways s.fGoto.fSuccess s.fGoto.fFailure = s.fGoto := rfl
 have L7 : sForm s = true → i_ValidStatement_L7 s.fLabel s.fHasSubject s.fSubject.fKind s.fSubject.fNum s.fSubject.fText s.fSubject.fKids s.fHasPattern s.fPattern.fKind s.fPattern.fNum s.fPattern.fText s.fPattern.fKids s.fHasReplace s.fReplace.fKind s.fReplace.fNum s.fReplace.fText s.fReplace.fKids s.fGoto.fAlways s.fGoto.fSuccess s.fGoto.fFailure = some (sValid s) := by
  intro hf
  have hl := sText_len hf
  have hr : (sRest s).length ≤ (sText s).length := by unfold sText; simp
  rw [i_ValidStatement_L7_eq, ea, eb, ec, eg, es, i_Statement_text_ok hf]
  simp only [Option.bind_some]
  have ht : strings_TrimPrefix (sText s) s.fLabel = some (sRest s) := trim_ok (by unfold sText at hl; omega)
  rw [ht]
  simp only [Option.bind_some]
  rw [i_ScanTokens_ok (by omega)]
  simp only [Option.bind_some]
  unfold sValid
  rw [hf]
  by_cases h4 : (sText s).length ≤ 4000
  ·rw [if_pos (by simp [len_eq]; omega)]
   simp [h4]
  ·rw [if_neg (by simp [len_eq]; omega)]
   simp [h4]
 have bad : sForm s = false → sValid s = false := fun h => by unfold sValid; rw [h]; rfl
 have hz2 : (s.fGoto.fAlways == [] && (s.fGoto.fSuccess == [] && (s.fGoto.fFailure == [] && true))) = gZero s.fGoto := by
  unfold gZero; simp only [Bool.and_true, Bool.and_assoc]
 have hform : sForm s = (nmB s.fLabel && gOk s.fGoto && (s.fHasSubject || (!s.fHasPattern && !s.fHasReplace)) && (partB s.fHasSubject s.fSubject && partB s.fHasPattern s.fPattern && partB s.fHasReplace s.fReplace) && !(s.fLabel == [] && !s.fHasSubject && gZero s.fGoto)) := rfl
 have hnm : nmB s.fLabel = (s.fLabel == [] || isName s.fLabel) := rfl
 rw [i_ValidStatement_eq]
 try simp only [TStatement.re_eq, TExpr.re_eq, TGoto.re_eq]
 rw [i_IsLabel_ok, i_ValidGoto_ok]
 simp only [i_ValidStatement_L2_eq, i_ValidStatement_L3_eq, i_ValidStatement_L4_eq, i_ValidStatement_L5_eq, i_ValidStatement_L6_eq, ea, eb, ec, i_isPart_ok _ h1, i_isPart_ok _ h2, i_isPart_ok _ h3, Option.bind_some, hz2]
 generalize i_ValidStatement_L7 s.fLabel s.fHasSubject s.fSubject.fKind s.fSubject.fNum s.fSubject.fText s.fSubject.fKids s.fHasPattern s.fPattern.fKind s.fPattern.fNum s.fPattern.fText s.fPattern.fKids s.fHasReplace s.fReplace.fKind s.fReplace.fNum s.fReplace.fText s.fReplace.fKids s.fGoto.fAlways s.fGoto.fSuccess s.fGoto.fFailure = Z at L7
 cases hF : sForm s
 ·rw [bad hF]
  rw [hform, hnm] at hF
  revert hF
  cases (s.fLabel == []) <;> cases isName s.fLabel <;> cases gOk s.fGoto <;> cases partB s.fHasSubject s.fSubject <;> cases partB s.fHasPattern s.fPattern <;> cases partB s.fHasReplace s.fReplace <;> cases s.fHasSubject <;> cases s.fHasPattern <;> cases s.fHasReplace <;> cases gZero s.fGoto <;> intro hF <;> first | rfl | (cases hF)
 ·have hZ := L7 hF
  rw [← hZ]
  rw [hform, hnm] at hF
  revert hF
  cases (s.fLabel == []) <;> cases isName s.fLabel <;> cases gOk s.fGoto <;> cases partB s.fHasSubject s.fSubject <;> cases partB s.fHasPattern s.fPattern <;> cases partB s.fHasReplace s.fReplace <;> cases s.fHasSubject <;> cases s.fHasPattern <;> cases s.fHasReplace <;> cases gZero s.fGoto <;> intro hF <;> first | rfl | (cases hF)
theorem sValid_form {s : TStatement} (h : sValid s = true) : sForm s = true := by
 unfold sValid at h
 exact (Bool.and_eq_true_iff.1 h).1
end Go.Dv.U

namespace Go.Dv.U
open Go Go.Dv Go.Proofs
def rsvB (l : List UInt8) : Bool := l == [82, 69, 84, 85, 82, 78] || l == [70, 82, 69, 84, 85, 82, 78]
def ixP (xs : List TStatement) (l : List UInt8) : Int := ixF (fun s : TStatement => s.fLabel == l) xs 0
def labP (xs : List TStatement) (s : TStatement) (i : Nat) : Bool := s.fLabel == [] || (!(rsvB s.fLabel) && ixP xs s.fLabel == (i : Int))
def pText (xs : List TStatement) : List UInt8 := xs.flatMap fun s => sText s ++ [10]
def pChk (xs : List TStatement) : Bool := xs.all sValid && gate (labP xs) xs 0
def pValid (p : TProgram) : Bool := decide (p.fStatements.length ≤ 80) && pChk p.fStatements && decide ((pText p.fStatements).length ≤ 4000)
theorem sMk (s : TStatement) : TStatement.mk s.fLabel s.fHasSubject s.fSubject s.fHasPattern s.fPattern s.fHasReplace s.fReplace s.fGoto = s := rfl
theorem sM {y : TStatement} (hy : y.m ≤ 1048576) : y.fSubject.m ≤ 1048576 ∧ y.fPattern.m ≤ 1048576 ∧ y.fReplace.m ≤ 1048576 := by
 have he := y.m_eq
 omega
theorem s_l05Reserved_ok (l : List UInt8) : s_l05Reserved l = some (rsvB l) := by
 rw [s_l05Reserved_eq]; unfold rsvB
 cases l == [82, 69, 84, 85, 82, 78] <;> simp
theorem i_isReserved_ok (l : List UInt8) : i_isReserved l = some (rsvB l) := by
 rw [i_isReserved_eq]; unfold rsvB
 cases l == [82, 69, 84, 85, 82, 78] <;> simp
theorem s_l05Index_ok {p : TProgram} (hp : p.fStatements.length ≤ 80) {l : List UInt8} (hl : (l == []) = false) : s_l05Index p l = some (ixP p.fStatements l) := by
 rw [s_l05Index_eq]
 refine ix_loop (xs := p.fStatements) (by omega) (J := fun i => s_l05Index_L2 l i p.fStatements) ?_ ?_
 ·intro i y hlt hy hi hw
  show s_l05Index_L2 l (i : Int) p.fStatements = _
  rw [s_l05Index_L2_eq, if_pos (by simpa [len_eq] using hlt), if_pos (by simp [hl]), hi]
  simp only [Option.bind_some, hw]
 ·show s_l05Index_L2 l _ p.fStatements = _
  rw [s_l05Index_L2_eq, if_neg (by simp [len_eq])]
theorem i_labelIndex_ok {p : TProgram} (hp : p.fStatements.length ≤ 80) (l : List UInt8) : i_Program_labelIndex p l = some (ixP p.fStatements l) := by
 rw [i_Program_labelIndex_eq, slices_IndexFunc___i_Statement_i_Statement___i_Program_labelIndex_c1_eq]
 have := ix_loop (xs := p.fStatements) (by omega) (p := fun s : TStatement => s.fLabel == l) (J := fun i => slices_IndexFunc___i_Statement_i_Statement__L2__i_Program_labelIndex_c1 p.fStatements l (len p.fStatements) i) (by
  intro i y hlt hy hi hw
  show slices_IndexFunc___i_Statement_i_Statement__L2__i_Program_labelIndex_c1 p.fStatements l (len p.fStatements) (i : Int) = _
  rw [slices_IndexFunc___i_Statement_i_Statement__L2__i_Program_labelIndex_c1_eq, if_pos (by simpa [len_eq] using hlt), hi]
  simp only [Option.bind_some, i_Program_labelIndex_c1_eq, hw]) (by
  show slices_IndexFunc___i_Statement_i_Statement__L2__i_Program_labelIndex_c1 p.fStatements l (len p.fStatements) _ = _
  rw [slices_IndexFunc___i_Statement_i_Statement__L2__i_Program_labelIndex_c1_eq, if_neg (by simp [len_eq])])
 try simp only at this
 rw [this]; rfl
theorem flat_len {α β : Type} {f : α → List β} {B : Nat} : ∀ {l : List α}, (∀ y ∈ l, (f y).length ≤ B) → (l.flatMap f).length ≤ l.length * B
 | [], _ => by simp
 | y :: r, h => by
  have h1 := h y (by simp)
  have h2 := flat_len (l := r) fun z hz => h z (by simp [hz])
  simp only [List.flatMap_cons, List.length_append, List.length_cons, Nat.add_mul]
  omega
theorem pText_len {xs : List TStatement} (hp : xs.length ≤ 80) (hv : ∀ y ∈ xs, sForm y = true) : (pText xs).length ≤ 8000080 := by
 have := flat_len (f := fun s : TStatement => sText s ++ [10]) (B := 100001) (l := xs) fun y hy => by
  have := sText_len (hv y hy)
  simp; omega
 have h2 : xs.length * 100001 ≤ 80 * 100001 := Nat.mul_le_mul_right _ hp
 unfold pText
 omega
theorem s_l05Text_ok {p : TProgram} (hp : p.fStatements.length ≤ 80) (hv : ∀ y ∈ p.fStatements, sForm y = true) : s_l05Text p = some (pText p.fStatements) := by
 rw [s_l05Text_eq]
 have hl := pText_len hp hv
 have := cat_loop (xs := p.fStatements) (by omega) (f := fun s : TStatement => sText s ++ [10]) (B := 8000080) (J := fun i a => s_l05Text_L3 a i p.fStatements) (by
  intro i y a hlt hy hi hw hb
  show s_l05Text_L3 a (i : Int) p.fStatements = _
  simp only [List.length_append, List.length_cons, List.length_nil] at hb
  rw [s_l05Text_L3_eq, if_pos (by simpa [len_eq] using hlt), hi]
  simp only [Option.bind_some]
  try simp only [TStatement.re_eq, TExpr.re_eq, TGoto.re_eq]
  rw [sMk, s_l04Print_ok (hv y hy)]
  simp only [Option.bind_some]
  rw [app_of (by simp; omega)]
  simp only [Option.bind_some]
  rw [app_of (by simp; omega)]
  simp only [Option.bind_some, hw]) hl
 try simp only at this
 rw [this, s_l05Text_L3_eq, if_neg (by simp [len_eq])]
 rfl
theorem i_text_v1_ok {p : TProgram} (hv : ∀ y ∈ p.fStatements, sForm y = true) (xs : List TStatement) (hxs : xs = p.fStatements) :
  ∀ (i : Nat) (y : TStatement) (a : List UInt8), i < xs.length → y ∈ xs → idx xs (i : Int) = some y → w64 ((i : Int) + 1) = ((i + 1 : Nat) : Int) → a.length + (sText y ++ [10]).length ≤ 8000080 →
   (i_Program_text_L3_v1 xs (len xs) (i : Int) (a.map ib) = i_Program_text_L3_v1 xs (len xs) ((i + 1 : Nat) : Int) ((a ++ (sText y ++ [10])).map ib)) ∧ (i_Program_text_L3 xs (len xs) (i : Int) (a.map ib) = i_Program_text_L3_v1 xs (len xs) ((i + 1 : Nat) : Int) ((a ++ (sText y ++ [10])).map ib)) := by
 intro i y a hlt hy hi hw hb
 subst hxs
 simp only [List.length_append, List.length_cons, List.length_nil] at hb
 have hc : decide ((i : Int) < len p.fStatements) = true := by simpa [len_eq] using hlt
 constructor
 ·rw [i_Program_text_L3_v1_eq, if_pos hc, hi]
  simp only [Option.bind_some]
  try simp only [TStatement.re_eq, TExpr.re_eq, TGoto.re_eq]
  rw [sMk, i_Statement_text_ok (hv y hy)]
  simp only [Option.bind_some]
  rw [app_of (by simp; omega)]
  simp only [Option.bind_some]
  rw [app_of (by simp; omega)]
  simp only [Option.bind_some, hw, List.map_append]
 ·rw [i_Program_text_L3_eq, if_pos hc, hi]
  simp only [Option.bind_some]
  try simp only [TStatement.re_eq, TExpr.re_eq, TGoto.re_eq]
  rw [sMk, i_Statement_text_ok (hv y hy)]
  simp only [Option.bind_some]
  rw [app_of (by simp; omega)]
  simp only [Option.bind_some]
  rw [app_of (by simp; omega)]
  simp only [Option.bind_some, hw, List.map_append]
theorem i_Program_text_ok {p : TProgram} (hp : p.fStatements.length ≤ 80) (hv : ∀ y ∈ p.fStatements, sForm y = true) : i_Program_text p = some (pText p.fStatements) := by
 rw [i_Program_text_eq]
 have hl := pText_len hp hv
 have st := i_text_v1_ok hv p.fStatements rfl
 have key := cat_loop (xs := p.fStatements) (by omega) (f := fun s : TStatement => sText s ++ [10]) (B := 8000080) (J := fun i a => i_Program_text_L3_v1 p.fStatements (len p.fStatements) i (a.map ib)) (fun i y a h1 h2 h3 h4 h5 => (st i y a h1 h2 h3 h4 h5).1) hl
 simp only [List.map_nil] at key
 have fin : i_Program_text_L3_v1 p.fStatements (len p.fStatements) (p.fStatements.length : Int) ((p.fStatements.flatMap fun s => sText s ++ [10]).map ib) = some (pText p.fStatements) := by
  rw [i_Program_text_L3_v1_eq, if_neg (by simp [len_eq]), bytesOf_ib]
  rfl
 have same : i_Program_text_L3 p.fStatements (len p.fStatements) 0 [] = i_Program_text_L3_v1 p.fStatements (len p.fStatements) 0 [] := by
  rw [i_Program_text_L3_eq, i_Program_text_L3_v1_eq]
 rw [same, key, fin]
theorem s_ValidProgram_ok {p : TProgram} (hm : p.m ≤ 1048576) : s_ValidProgram p = some (pValid p) := by
  have hq := p.m_eq
  rw [s_ValidProgram_eq]
  unfold pValid
  by_cases hp : p.fStatements.length ≤ 80
  · rw [if_neg (by simp [len_eq]; omega)]
    have hkey := gate_loop (xs := p.fStatements) (by omega) (c := fun y i => sValid y && labP p.fStatements y i) (J := fun i => s_ValidProgram_L4 i p.fStatements) (by
      intro i y hlt hy hi hw
      show s_ValidProgram_L4 (i : Int) p.fStatements = _
      have hym : y.m ≤ 1048576 := by have := sumOf_mem (m := TStatement.m) hy; omega
      obtain ⟨h1, h2, h3⟩ := sM hym
      rw [s_ValidProgram_L4_eq, if_pos (by simpa [len_eq] using hlt), hi]
      simp only [Option.bind_some, s_ValidProgram_L8_eq, s_ValidProgram_L5_eq, hw]
      try simp only [TStatement.re_eq, TExpr.re_eq, TGoto.re_eq]
      rw [sMk, s_ValidStatement_ok h1 h2 h3]
      simp only [Option.bind_some, s_l05Reserved_ok]
      cases hsv : sValid y
      · simp
      · unfold labP
        cases hlab : (y.fLabel == [])
        · rw [s_l05Index_ok (p := TProgram.mk p.fStatements) hp hlab]
          cases rsvB y.fLabel <;> by_cases hix : ixP p.fStatements y.fLabel = (i : Int) <;> simp [hix]
        · have : y.fLabel = [] := by simpa using hlab
          have hr : rsvB y.fLabel = false := by rw [this]; rfl
          simp [hr])
    try simp only at hkey
    rw [hkey, gate_all]
    show (if pChk p.fStatements = true then _ else _) = _
    cases hc : pChk p.fStatements
    · simp
    · have hv : ∀ y ∈ p.fStatements, sForm y = true := fun y hy => by
        unfold pChk at hc
        rw [Bool.and_eq_true] at hc
        exact sValid_form (List.all_eq_true.mp hc.1 y hy)
      have ht := s_l05Text_ok (p := TProgram.mk p.fStatements) hp hv
      simp only [if_true]
      rw [s_ValidProgram_L4_eq, if_neg (by simp [len_eq]), ht]
      simp [len_eq, hp]
      try omega
  · rw [if_pos (by simp [len_eq]; omega)]
    simp [hp]
theorem i_ValidProgram_ok {p : TProgram} (hm : p.m ≤ 1048576) : i_ValidProgram p = some (pValid p) := by
 have hq := p.m_eq
 rw [i_ValidProgram_eq]
 unfold pValid
 by_cases hp : p.fStatements.length ≤ 80
 ·rw [if_neg (by simp [len_eq]; omega)]
  have hall : i_areAll_impl_Statement__i_ValidStatement p.fStatements = some (p.fStatements.all sValid) := by
   rw [i_areAll_impl_Statement__i_ValidStatement_eq]
   refine all_loop (xs := p.fStatements) (by omega) (F := i_ValidStatement) (p := sValid) (J := i_areAll_impl_Statement_L2__i_ValidStatement p.fStatements (len p.fStatements)) (fun i => by rw [i_areAll_impl_Statement_L2__i_ValidStatement_eq]; try simp only [TStatement.re_eq, TExpr.re_eq, TGoto.re_eq, sMk]) (fun y hy => ?_)
   have hym : y.m ≤ 1048576 := by have := sumOf_mem (m := TStatement.m) hy; omega
   obtain ⟨h1, h2, h3⟩ := sM hym
   exact i_ValidStatement_ok h1 h2 h3
  rw [hall]
  simp only [Option.bind_some]
  unfold pChk
  cases hv : p.fStatements.all sValid
  ·simp
  have hkey := gate_loop (xs := p.fStatements) (by omega) (c := labP p.fStatements) (J := fun i => i_ValidProgram_L4 p.fStatements (len p.fStatements) i p.fStatements) (by
   intro i y hlt hy hi hw
   show i_ValidProgram_L4 p.fStatements (len p.fStatements) (i : Int) p.fStatements = _
   rw [i_ValidProgram_L4_eq, if_pos (by simpa [len_eq] using hlt), hi]
   simp only [Option.bind_some, i_ValidProgram_L7_eq, i_ValidProgram_L8_eq, hw, i_isReserved_ok]
   unfold labP
   cases hlab : (y.fLabel == [])
   ·rw [i_labelIndex_ok (p := TProgram.mk p.fStatements) hp]
    cases rsvB y.fLabel <;> by_cases hix : ixP p.fStatements y.fLabel = (i : Int) <;> simp [hix]
   ·simp)
  try simp only at hkey
  simp only [Bool.not_true, Bool.false_eq_true, if_false, Bool.true_and]
  rw [hkey]
  cases hc : gate (labP p.fStatements) p.fStatements 0
  ·simp
  ·have hvf : ∀ y ∈ p.fStatements, sForm y = true := fun y hy => sValid_form (List.all_eq_true.mp hv y hy)
   have ht := i_Program_text_ok (p := TProgram.mk p.fStatements) hp hvf
   simp only [if_true]
   rw [i_ValidProgram_L4_eq, if_neg (by simp [len_eq]), ht]
   simp [len_eq, hp]
   try omega
 ·rw [if_pos (by simp [len_eq]; omega)]
  simp [hp]
theorem pValid_parts {p : TProgram} (h : pValid p = true) : p.fStatements.length ≤ 80 ∧ ∀ y ∈ p.fStatements, sForm y = true := by
 unfold pValid pChk at h
 simp only [Bool.and_eq_true, decide_eq_true_eq] at h
 exact ⟨h.1.1, fun y hy => sValid_form (List.all_eq_true.mp h.1.2.1 y hy)⟩
end Go.Dv.U

namespace Go.Dv.U
open Go Go.Dv Go.Proofs
theorem TExpr.etaR (x : TExpr) : TExpr.mk x.fKind x.fNum x.fText x.fKids = x := by cases x; rfl
theorem TPattern.etaR (x : TPattern) : TPattern.mk x.fKind x.fNum x.fText x.fKids = x := by cases x; rfl
theorem ownExprS_of {xs : List TExpr} (hx : xs.length ≤ 68719476736) (hF : ∀ y ∈ xs, l_toExpr_v3 y = some ((y.fKind, y.fNum, y.fText, y.fKids, ()), ())) : l_toExprS_v3 xs = some ((xs, ()), ()) := by
 rw [l_toExprS_v3_eq, mk_len _ _ hx]
 simp only [Option.bind_some]
 exact toE_loop (xs := xs) (by omega) (F := l_toExpr_v3) (G := fun r198 => (TExpr.mk (Prod.fst (Prod.fst r198)) (Prod.fst (Prod.snd (Prod.fst r198))) (Prod.fst (Prod.snd (Prod.snd (Prod.fst r198)))) (Prod.fst (Prod.snd (Prod.snd (Prod.snd (Prod.fst r198))))))) (E := fun zs => some ((zs, ()), ())) (J := l_toExprS_L3_v3) (fun i zs => by rw [l_toExprS_L3_v3_eq]; first | done | (simp only [TExpr.re_eq, TPattern.re_eq]; done) | (simp only [TExpr.re_eq, TPattern.re_eq]; rfl)) (fun y hy => ⟨_, hF y hy, by first | rfl | (cases y; rfl) | (cases y; simp only [TExpr.etaR, TPattern.etaR])⟩) _ (by simp)
theorem ownExpr_ok : ∀ x : TExpr, x.m ≤ 1048576 → l_toExpr_v3 x = some ((x.fKind, x.fNum, x.fText, x.fKids, ()), ()) := by
 refine TExpr.ind fun x ih => ?_
 intro hm
 have hq := x.m_eq
 rw [l_toExpr_v3_eq]
 try simp only [TExpr.re_eq, TPattern.re_eq]
 simp only [ownExprS_of (xs := x.fKids) (by omega) (fun y hy => ih y hy (by have := TExpr.m_kid hy; omega)), Option.bind_some]
theorem ownStatement_ok : ∀ x : TStatement, x.m ≤ 1048576 → l_toStatement_v2 x = some ((x.fLabel, x.fHasSubject, x.fSubject.fKind, x.fSubject.fNum, x.fSubject.fText, x.fSubject.fKids, x.fHasPattern, x.fPattern.fKind, x.fPattern.fNum, x.fPattern.fText, x.fPattern.fKids, x.fHasReplace, x.fReplace.fKind, x.fReplace.fNum, x.fReplace.fText, x.fReplace.fKids, x.fGoto.fAlways, x.fGoto.fSuccess, x.fGoto.fFailure, ()), ()) := by
 intro x
 intro hm
 have hq := x.m_eq
 have := x.fSubject.m_eq
 have := x.fPattern.m_eq
 have := x.fReplace.m_eq
 have := x.fGoto.m_eq
 rw [l_toStatement_v2_eq]
 try simp only [TExpr.re_eq, TPattern.re_eq]
 simp only [ownExpr_ok x.fSubject (by omega), ownExpr_ok x.fPattern (by omega), ownExpr_ok x.fReplace (by omega), toGoto_ok x.fGoto (by omega), Option.bind_some]
theorem ownStatementS_of {xs : List TStatement} (hx : xs.length ≤ 68719476736) (hF : ∀ y ∈ xs, l_toStatement_v2 y = some ((y.fLabel, y.fHasSubject, y.fSubject.fKind, y.fSubject.fNum, y.fSubject.fText, y.fSubject.fKids, y.fHasPattern, y.fPattern.fKind, y.fPattern.fNum, y.fPattern.fText, y.fPattern.fKids, y.fHasReplace, y.fReplace.fKind, y.fReplace.fNum, y.fReplace.fText, y.fReplace.fKids, y.fGoto.fAlways, y.fGoto.fSuccess, y.fGoto.fFailure, ()), ())) : l_toStatementS_v2 xs = some ((xs, ()), ()) := by
 rw [l_toStatementS_v2_eq, mk_len _ _ hx]
 simp only [Option.bind_some]
 exact toE_loop (xs := xs) (by omega) (F := l_toStatement_v2) (G := fun r198 => (TStatement.mk (Prod.fst (Prod.fst r198)) (Prod.fst (Prod.snd (Prod.fst r198))) (TExpr.mk (Prod.fst (Prod.snd (Prod.snd (Prod.fst r198)))) (Prod.fst (Prod.snd (Prod.snd (Prod.snd (Prod.fst r198))))) (Prod.fst (Prod.snd (Prod.snd (Prod.snd (Prod.snd (Prod.fst r198)))))) (Prod.fst (Prod.snd (Prod.snd (Prod.snd (Prod.snd (Prod.snd (Prod.fst r198)))))))) (Prod.fst (Prod.snd (Prod.snd (Prod.snd (Prod.snd (Prod.snd (Prod.snd (Prod.fst r198)))))))) (TExpr.mk (Prod.fst (Prod.snd (Prod.snd (Prod.snd (Prod.snd (Prod.snd (Prod.snd (Prod.snd (Prod.fst r198))))))))) (Prod.fst (Prod.snd (Prod.snd (Prod.snd (Prod.snd (Prod.snd (Prod.snd (Prod.snd (Prod.snd (Prod.fst r198)))))))))) (Prod.fst (Prod.snd (Prod.snd (Prod.snd (Prod.snd (Prod.snd (Prod.snd (Prod.snd (Prod.snd (Prod.snd (Prod.fst r198))))))))))) (Prod.fst (Prod.snd (Prod.snd (Prod.snd (Prod.snd (Prod.snd (Prod.snd (Prod.snd (Prod.snd (Prod.snd (Prod.snd (Prod.fst r198))))))))))))) (Prod.fst (Prod.snd (Prod.snd (Prod.snd (Prod.snd (Prod.snd (Prod.snd (Prod.snd (Prod.snd (Prod.snd (Prod.snd (Prod.snd (Prod.fst r198))))))))))))) (TExpr.mk (Prod.fst (Prod.snd (Prod.snd (Prod.snd (Prod.snd (Prod.snd (Prod.snd (Prod.snd (Prod.snd (Prod.snd (Prod.snd (Prod.snd (Prod.snd (Prod.fst r198)))))))))))))) (Prod.fst (Prod.snd (Prod.snd (Prod.snd (Prod.snd (Prod.snd (Prod.snd (Prod.snd (Prod.snd (Prod.snd (Prod.snd (Prod.snd (Prod.snd (Prod.snd (Prod.fst r198))))))))))))))) (Prod.fst (Prod.snd (Prod.snd (Prod.snd (Prod.snd (Prod.snd (Prod.snd (Prod.snd (Prod.snd (Prod.snd (Prod.snd (Prod.snd (Prod.snd (Prod.snd (Prod.snd (Prod.fst r198)))))))))))))))) (Prod.fst (Prod.snd (Prod.snd (Prod.snd (Prod.snd (Prod.snd (Prod.snd (Prod.snd (Prod.snd (Prod.snd (Prod.snd (Prod.snd (Prod.snd (Prod.snd (Prod.snd (Prod.snd (Prod.fst r198)))))))))))))))))) (TGoto.mk (Prod.fst (Prod.snd (Prod.snd (Prod.snd (Prod.snd (Prod.snd (Prod.snd (Prod.snd (Prod.snd (Prod.snd (Prod.snd (Prod.snd (Prod.snd (Prod.snd (Prod.snd (Prod.snd (Prod.snd (Prod.fst r198)))))))))))))))))) (Prod.fst (Prod.snd (Prod.snd (Prod.snd (Prod.snd (Prod.snd (Prod.snd (Prod.snd (Prod.snd (Prod.snd (Prod.snd (Prod.snd (Prod.snd (Prod.snd (Prod.snd (Prod.snd (Prod.snd (Prod.snd (Prod.fst r198))))))))))))))))))) (Prod.fst (Prod.snd (Prod.snd (Prod.snd (Prod.snd (Prod.snd (Prod.snd (Prod.snd (Prod.snd (Prod.snd (Prod.snd (Prod.snd (Prod.snd (Prod.snd (Prod.snd (Prod.snd (Prod.snd (Prod.snd (Prod.snd (Prod.fst r198))))))))))))))))))))))) (E := fun zs => some ((zs, ()), ())) (J := l_toStatementS_L3_v2) (fun i zs => by rw [l_toStatementS_L3_v2_eq]; first | done | (simp only [TExpr.re_eq, TPattern.re_eq]; done) | (simp only [TExpr.re_eq, TPattern.re_eq]; rfl)) (fun y hy => ⟨_, hF y hy, by first | rfl | (cases y; rfl) | (cases y; simp only [TExpr.etaR, TPattern.etaR])⟩) _ (by simp)
theorem ownProgram_ok : ∀ x : TProgram, x.m ≤ 1048576 → l_toProgram_v2 x = some ((x.fStatements, ()), ()) := by
 intro x
 intro hm
 have hq := x.m_eq
 rw [l_toProgram_v2_eq]
 try simp only [TExpr.re_eq, TPattern.re_eq]
 simp only [ownStatementS_of (xs := x.fStatements) (by omega) (fun y hy => ownStatement_ok y (by have := sumOf_mem (m := TStatement.m) hy; omega)), Option.bind_some]
set_option maxHeartbeats 8000000 in
theorem markExprS_of {xs : List TExpr} (hF : ∀ y ∈ xs, ∀ k : Int, 0 ≤ k → k + 40 * y.m < 4611686018427387904 → ∃ k' ys, l_markExprS_v2 k y.fKids = some (k', ys, ()) ∧ k ≤ k' ∧ k' ≤ k + 40 * y.m) {k : Int} (h0 : 0 ≤ k) (h1 : k + (40 * xs.length + 40 * sumOf TExpr.m xs : Nat) < 4611686018427387904) : ∃ k' xs', l_markExprS_v2 k xs = some (k', xs', ()) ∧ k ≤ k' ∧ k' ≤ k + (40 * xs.length + 40 * sumOf TExpr.m xs : Nat) ∧ xs'.length = xs.length := by
  rw [l_markExprS_v2_eq]
  obtain ⟨k', xs', e, g1, g2, g3⟩ := mark_loop (B := 4611686018427387904) (m := fun y : TExpr => 40 + 40 * y.m) (Q := fun y => y ∈ xs) (J := l_markExprS_L2_v2) (fun k xs => by rw [l_markExprS_L2_v2_eq]; simp [len_eq]) (by
      intro k i xs hlt hq g0 g1 gl
      rw [l_markExprS_L2_v2_eq]
      have hme := xs[i].m_eq
      have hc : decide ((i : Int) < len xs) = true := by simp [len_eq, hlt]
      rw [if_pos hc]
      have w4 : w64 ((i : Int) + 1) = ((i + 1 : Nat) : Int) := by rw [w64_of (by omega) (by omega)]; omega
      obtain ⟨k1, ys1, e1, p1, q1⟩ := hF _ hq (k + 1 + 1 + 1) (by omega) (by omega)
      simp (disch := omega) only [idx_nat, Int.toNat_natCast, List.getElem?_eq_getElem hlt, upd_eq, List.set_set, List.getElem?_set_self hlt, Option.bind_some, w4, w64_of, rem_three, l_markText_ok, e1, TExpr.re_eq, TPattern.re_eq]
      exact ⟨_, _, rfl, by omega, by omega⟩) xs k (fun y hy => hy) h0 (by rw [sum_40]; omega) (by omega)
  rw [sum_40] at g2
  exact ⟨k', xs', e, g1, by omega, g3⟩
theorem markExprS_rec : ∀ (y : TExpr) (k : Int), 0 ≤ k → k + 40 * y.m < 4611686018427387904 → ∃ k' ys, l_markExprS_v2 k y.fKids = some (k', ys, ()) ∧ k ≤ k' ∧ k' ≤ k + 40 * y.m := by
 refine TExpr.ind fun x ih => ?_
 intro k h0 h1
 have hq := x.m_eq
 obtain ⟨k', ys, e, g1, g2, _⟩ := markExprS_of (xs := x.fKids) ih h0 (by omega)
 exact ⟨k', ys, e, g1, by omega⟩
theorem markExprS_ok {xs : List TExpr} {k : Int} (h0 : 0 ≤ k) (h1 : k + (40 * xs.length + 40 * sumOf TExpr.m xs : Nat) < 4611686018427387904) : ∃ k' xs', l_markExprS_v2 k xs = some (k', xs', ()) ∧ k ≤ k' ∧ k' ≤ k + (40 * xs.length + 40 * sumOf TExpr.m xs : Nat) ∧ xs'.length = xs.length :=
 markExprS_of (fun y _ => markExprS_rec y) h0 h1
set_option maxHeartbeats 8000000 in
theorem markStatementS_ok {xs : List TStatement} {k : Int} (h0 : 0 ≤ k) (h1 : k + (40 * xs.length + 40 * sumOf TStatement.m xs : Nat) < 4611686018427387904) : ∃ k' xs', l_markStatementS_v1 k xs = some (k', xs', ()) ∧ k ≤ k' ∧ k' ≤ k + (40 * xs.length + 40 * sumOf TStatement.m xs : Nat) ∧ xs'.length = xs.length := by
  rw [l_markStatementS_v1_eq]
  obtain ⟨k', xs', e, g1, g2, g3⟩ := mark_loop (B := 4611686018427387904) (m := fun y : TStatement => 40 + 40 * y.m) (Q := fun y => y ∈ xs) (J := l_markStatementS_L2_v1) (fun k xs => by rw [l_markStatementS_L2_v1_eq]; simp [len_eq]) (by
      intro k i xs hlt hq g0 g1 gl
      rw [l_markStatementS_L2_v1_eq]
      have hme := xs[i].m_eq
      have := xs[i].fSubject.m_eq
      have := xs[i].fPattern.m_eq
      have := xs[i].fReplace.m_eq
      have := xs[i].fGoto.m_eq
      have hc : decide ((i : Int) < len xs) = true := by simp [len_eq, hlt]
      rw [if_pos hc]
      have w4 : w64 ((i : Int) + 1) = ((i + 1 : Nat) : Int) := by rw [w64_of (by omega) (by omega)]; omega
      obtain ⟨k1, ys1, e1, p1, q1, _⟩ := markExprS_ok (xs := xs[i].fSubject.fKids) (k := k + 1 + 1 + 1 + 1 + 1) (by omega) (by omega)
      obtain ⟨k2, ys2, e2, p2, q2, _⟩ := markExprS_ok (xs := xs[i].fPattern.fKids) (k := k1 + 1 + 1 + 1 + 1) (by omega) (by omega)
      obtain ⟨k3, ys3, e3, p3, q3, _⟩ := markExprS_ok (xs := xs[i].fReplace.fKids) (k := k2 + 1 + 1 + 1 + 1) (by omega) (by omega)
      simp (disch := omega) only [idx_nat, Int.toNat_natCast, List.getElem?_eq_getElem hlt, upd_eq, List.set_set, List.getElem?_set_self hlt, Option.bind_some, w4, w64_of, rem_three, l_markText_ok, e1, e2, e3, TExpr.re_eq, TPattern.re_eq]
      exact ⟨_, _, rfl, by omega, by omega⟩) xs k (fun y hy => hy) h0 (by rw [sum_40]; omega) (by omega)
  rw [sum_40] at g2
  exact ⟨k', xs', e, g1, by omega, g3⟩
theorem markProgram_ok (x : TProgram) {k : Int} (h0 : 0 ≤ k) (h1 : k + (40 * x.fStatements.length + 40 * sumOf TStatement.m x.fStatements : Nat) < 4611686018427387904) : ∃ k' a0, l_markProgram_v1 k x.fStatements = some (k', a0, ()) ∧ k ≤ k' ∧ k' ≤ k + (40 * x.fStatements.length + 40 * sumOf TStatement.m x.fStatements : Nat) := by
 obtain ⟨k0, b0, e0, p0, q0, _⟩ := markStatementS_ok (xs := x.fStatements) (k := k) (by omega) (by omega)
 have hk : k ≤ k0 ∧ k0 ≤ k + (40 * x.fStatements.length + 40 * sumOf TStatement.m x.fStatements : Nat) := by omega
 refine ⟨k0, b0, ?_, hk.1, hk.2⟩
 rw [l_markProgram_v1_eq]
 rw [e0]
 try simp only [Option.bind_some]
end Go.Dv.U

namespace Go.Dv.U
open Go Go.Dv Go.Proofs
theorem next_ok {p : TProgram} (hp : p.fStatements.length ≤ 80) (g : TGoto) (b : Bool) {at_ : Int} (h0 : 0 ≤ at_) (h1 : at_ < p.fStatements.length) : ∃ v : Int × Int, s_l20Next p g b at_ = some v ∧ i_Program_next p g b at_ = some v := by
 have place : ∀ i : Int, 0 ≤ i → ∃ v : Int, s_l20Place p i = some v ∧ i_Program_entry p i = some v := by
  intro i hi
  rw [s_l20Place_eq, i_Program_entry_eq, i_Program_isStatement_eq, i_isIndex_eq]
  by_cases c : i ≥ len p.fStatements
  ·refine ⟨-1, by simp [c], ?_⟩
   have c1 : decide (i ≥ 0) = true := by simpa using hi
   have c2 : decide (i < len p.fStatements) = false := by simp; omega
   simp [c1, c2]
  ·have c1 : decide (i ≥ 0) = true := by simpa using hi
   have c2 : decide (i < len p.fStatements) = true := by simp; omega
   have c3 : decide (i ≥ len p.fStatements) = false := by simpa using c
   simp only [c1, c2, c3, if_true, Bool.false_eq_true, if_false, Option.bind_some, Bool.not_true]
   rw [len_eq] at c
   rw [idx_of hi, List.getElem?_eq_getElem (by omega)]
   simp only [Option.bind_some]
   by_cases e : ((p.fStatements[i.toNat]'(by omega)).fLabel == [69, 78, 68]) = true
   ·exact ⟨-1, by rw [if_pos e], by rw [if_pos e]⟩
   ·exact ⟨i, by rw [if_neg e], by rw [if_neg e]⟩
 have w1 : w64 (at_ + 1) = at_ + 1 := w64_of (by omega) (by omega)
 have six : ∀ l : List UInt8, ∃ v : Int × Int, s_l20Next_L6 at_ l p.fStatements = some v ∧ i_Program_next_L6 at_ l p.fStatements = some v := by
  intro l
  rw [s_l20Next_L6_eq, i_Program_next_L6_eq, i_Program_jump_eq]
  by_cases c : l = []
  ·have e : (l == []) = true := by simpa using c
   obtain ⟨v, e1, e2⟩ := place (at_ + 1) (by omega)
   refine ⟨(v, 0), ?_, ?_⟩
   ·rw [if_pos e, w1, show TProgram.mk p.fStatements = p from rfl, e1]; rfl
   ·rw [if_pos e, w1, show TProgram.mk p.fStatements = p from rfl, e2]; rfl
  ·have e : (l == []) = false := by simpa using c
   simp only [e, Bool.false_eq_true, if_false]
   have hix := s_l05Index_ok (p := TProgram.mk p.fStatements) hp e
   have hii := i_labelIndex_ok (p := TProgram.mk p.fStatements) hp l
   rw [hix, hii]
   by_cases d1 : l = [69, 78, 68]
   ·subst d1; exact ⟨(-1, 0), rfl, rfl⟩
   by_cases d2 : l = [82, 69, 84, 85, 82, 78]
   ·subst d2; exact ⟨(-2, 0), rfl, rfl⟩
   by_cases d3 : l = [70, 82, 69, 84, 85, 82, 78]
   ·subst d3; exact ⟨(-3, 0), rfl, rfl⟩
   have f1 : (l == [69, 78, 68]) = false := by simpa using d1
   have f2 : (l == [82, 69, 84, 85, 82, 78]) = false := by simpa using d2
   have f3 : (l == [70, 82, 69, 84, 85, 82, 78]) = false := by simpa using d3
   simp only [f1, f2, f3, Bool.false_eq_true, if_false, Option.bind_some]
   by_cases c2 : ixP p.fStatements l < 0
   ·exact ⟨(0, 5), by rw [if_pos (by simpa using c2)], by rw [if_pos (by simpa using c2)]; rfl⟩
   ·obtain ⟨v, e1, e2⟩ := place (ixP p.fStatements l) (by omega)
    refine ⟨(v, 0), ?_, ?_⟩
    ·rw [if_neg (by simpa using c2), show TProgram.mk p.fStatements = p from rfl, e1]; rfl
    ·rw [if_neg (by simpa using c2), show TProgram.mk p.fStatements = p from rfl, e2]; rfl
 rw [s_l20Next_eq, i_Program_next_eq]
 by_cases c : g.fAlways = []
 ·have e : (g.fAlways == []) = true := by simpa using c
  simp only [e, Bool.not_true, Bool.false_eq_true, if_false, if_true]
  cases b
  ·exact six _
  ·exact six _
 ·have e : (g.fAlways == []) = false := by simpa using c
  simp only [e, Bool.not_false, if_true, Bool.false_eq_true, if_false, ite_self]
  exact six _
end Go.Dv.U

namespace Go.Dv.U
open Go Go.Dv Go.Proofs
def lastI (x : TExpr) : TInstr :=
 if x.fKind = 1 then ⟨2, 0, x.fText⟩
 else if x.fKind = 2 then ⟨3, x.fNum, []⟩
 else if x.fKind = 3 then ⟨4, 0, x.fText⟩
 else if x.fKind = 16 ∨ x.fKind = 17 ∨ x.fKind = 18 then ⟨x.fKind - 11, 0, x.fText⟩
 else if x.fKind = 4 then ⟨13, x.fKids.length, x.fText⟩
 else if x.fKind = 5 then ⟨12, 0, []⟩
 else if x.fKind = 14 ∨ x.fKind = 15 then ⟨x.fKind - 5, 0, []⟩
 else if x.fKind = 12 ∨ x.fKind = 13 then ⟨11, x.fKind + 9, (x.fKids.getD 1 x).fText⟩
 else ⟨8, x.fKind, []⟩
mutual
def TExpr.code : TExpr → List TInstr
 | ⟨k, n, t, ks⟩ => (if k = 12 ∨ k = 13 then TExpr.code1 ks else TExpr.codes ks) ++ [lastI ⟨k, n, t, ks⟩]
def TExpr.codes : List TExpr → List TInstr
 | [] => []
 | y :: r => TExpr.code y ++ TExpr.codes r
def TExpr.code1 : List TExpr → List TInstr
 | [] => []
 | y :: _ => TExpr.code y
end
theorem TExpr.code_eq (x : TExpr) : x.code = (if x.fKind = 12 ∨ x.fKind = 13 then TExpr.code1 x.fKids else TExpr.codes x.fKids) ++ [lastI x] := by
 obtain ⟨k, n, t, ks⟩ := x; simp only [TExpr.code]
theorem TExpr.codes_eq : ∀ l : List TExpr, TExpr.codes l = l.flatMap TExpr.code
 | [] => rfl
 | y :: r => by simp only [TExpr.codes, List.flatMap_cons, TExpr.codes_eq r]
theorem TExpr.codes_len : ∀ l : List TExpr, (∀ y ∈ l, y.code.length ≤ y.n) → (TExpr.codes l).length ≤ sumOf TExpr.n l
 | [], _ => by simp [TExpr.codes, sumOf]
 | y :: r, h => by
  have h1 := h y (by simp)
  have h2 := TExpr.codes_len r fun z hz => h z (by simp [hz])
  simp only [TExpr.codes, sumOf, List.length_append]; omega
theorem TExpr.code_len : ∀ x : TExpr, x.code.length ≤ x.n := by
 refine TExpr.ind fun x ih => ?_
 have h1 := TExpr.codes_len x.fKids ih
 have h2 : (TExpr.code1 x.fKids).length ≤ sumOf TExpr.n x.fKids := by
  cases hk : x.fKids with
  | nil => simp [TExpr.code1]
  | cons y r =>
   have := ih y (by rw [hk]; simp)
   simp only [TExpr.code1, sumOf]; omega
 rw [TExpr.code_eq, TExpr.n_eq, List.length_append]
 split <;> simp <;> omega
theorem TExpr.codes_len' (l : List TExpr) : (TExpr.codes l).length ≤ sumOf TExpr.n l := TExpr.codes_len l fun y _ => TExpr.code_len y
theorem w2 {a b c : Int} (h1 : -1000 ≤ a) (h2 : a ≤ 1000) (h3 : -1000 ≤ b) (h4 : b ≤ 1000) (h5 : -1000 ≤ c) (h6 : c ≤ 1000) : w64 (w64 (a - b) + c) = a - b + c := by
 rw [w64_of (n := a - b) (by omega) (by omega), w64_of (by omega) (by omega)]
theorem w3 {a b c : Int} (h1 : -1000 ≤ a) (h2 : a ≤ 1000) (h3 : -1000 ≤ b) (h4 : b ≤ 1000) (h5 : -1000 ≤ c) (h6 : c ≤ 1000) : w64 (w64 (c + a) - b) = c + a - b := by
 rw [w64_of (n := c + a) (by omega) (by omega), w64_of (by omega) (by omega)]
theorem eNode_k {x : TExpr} (h : eNode x = true) : 1 ≤ x.fKind ∧ x.fKind ≤ 18 := by
 rcases eNode_cases h with h | h | h | h | h | h <;> omega
theorem i_lastInstr_ok {x : TExpr} (h : eNode x = true) : i_Expr_lastInstr x = some (lastI x) := by
 obtain ⟨k, n, t, ks⟩ := x
 have hk : 1 ≤ k ∧ k ≤ 18 := eNode_k h
 rw [i_Expr_lastInstr_eq]
 simp only [i_Expr_lastInstr_L11_eq, i_Expr_lastInstr_L12_eq, lastI]
 by_cases h1 : k = 1
 ·subst h1; rfl
 by_cases h2 : k = 2
 ·subst h2; rfl
 by_cases h3 : k = 3
 ·subst h3; rfl
 by_cases h16 : k = 16
 ·subst h16; rfl
 by_cases h17 : k = 17
 ·subst h17; rfl
 by_cases h18 : k = 18
 ·subst h18; rfl
 by_cases h4 : k = 4
 ·subst h4; simp [len_eq]
 by_cases h5 : k = 5
 ·subst h5; rfl
 by_cases h14 : k = 14
 ·subst h14; rfl
 by_cases h15 : k = 15
 ·subst h15; rfl
 by_cases h12 : k = 12
 ·subst h12
  rcases eNode_cases h with h | h | h | h | h | ⟨_, a, b, rfl⟩
  all_goals first | (simp at h; done) | rfl
 by_cases h13 : k = 13
 ·subst h13
  rcases eNode_cases h with h | h | h | h | h | ⟨_, a, b, rfl⟩
  all_goals first | (simp at h; done) | rfl
 simp [h1, h2, h3, h4, h5, h12, h13, h14, h15, h16, h17, h18]
theorem i_codeOf_of {l : List TExpr} (hl : l.length ≤ 1000000) (h : ∀ y ∈ l, i_Expr_code y = some ((y.code, ()), ())) (hn : (TExpr.codes l).length ≤ 68719476736) : i_codeOf l = some ((TExpr.codes l, ()), ()) := by
 rw [i_codeOf_eq]
 have := cat_loop (xs := l) (by omega) (f := TExpr.code) (J := fun i a => i_codeOf_L3 l (len l) i a) (B := 68719476736) (by
  intro i y a hlt hy hi hw hb
  show i_codeOf_L3 _ _ _ _ = i_codeOf_L3 _ _ _ _
  rw [i_codeOf_L3_eq]
  have hc : decide ((i : Int) < len l) = true := by simp [len_eq, hlt]
  rw [if_pos hc, hi]
  simp only [Option.bind_some, TExpr.re_eq, h y hy]
  rw [app_of hb, hw]
  rfl) (by rw [← TExpr.codes_eq]; exact hn)
 rw [show i_codeOf_L3 l (len l) 0 [] = _ from this, i_codeOf_L3_eq, TExpr.codes_eq]
 simp [len_eq]
theorem good_kids {x : TExpr} (h : x.good = true) : eNode x = true ∧ ∀ y ∈ x.fKids, y.good = true := by
 rw [TExpr.good_eq, Bool.and_eq_true, List.all_eq_true] at h
 exact h
theorem kid_n {x y : TExpr} (h : y ∈ x.fKids) : y.n ≤ x.n := by
 have := sumOf_mem (m := TExpr.n) h
 rw [TExpr.n_eq x]; omega
theorem i_Expr_code_ok : ∀ x : TExpr, x.good = true → x.n ≤ 1000000 → i_Expr_code x = some ((x.code, ()), ()) := by
 refine TExpr.ind fun x ih => ?_
 intro hg hn
 obtain ⟨he, hk⟩ := good_kids hg
 have ih' : ∀ y ∈ x.fKids, i_Expr_code y = some ((y.code, ()), ()) := fun y hy => ih y hy (hk y hy) (Nat.le_trans (kid_n hy) hn)
 have hne := x.n_eq
 have hlen := eSum_pos (l := x.fKids)
 have hL := i_lastInstr_ok he
 have hcl := TExpr.code_len x
 rw [TExpr.code_eq, List.length_append, List.length_singleton] at hcl
 rw [i_Expr_code_eq, TExpr.code_eq]
 have fin : ∀ l : List TExpr, l.length ≤ 1000000 → (∀ y ∈ l, y ∈ x.fKids) → (TExpr.codes l).length ≤ 1000000 → i_Expr_code_L4 l x.fKind x.fNum x.fText x.fKids = some ((TExpr.codes l ++ [lastI x], ()), ()) := by
  intro l h1 h2 h3
  rw [i_Expr_code_L4_eq, i_codeOf_of h1 (fun y hy => ih' y (h2 y hy)) (by omega)]
  simp only [Option.bind_some]
  have e : TExpr.mk x.fKind x.fNum x.fText x.fKids = x := by cases x; rfl
  rw [e, hL]
  simp only [Option.bind_some]
  rw [app_of (by (try simp); omega)]
  rfl
 by_cases h12 : x.fKind = 12 ∨ x.fKind = 13
 ·rw [if_pos h12] at hcl ⊢
  rcases eNode_cases he with h | h | h | h | h | ⟨_, a, b, hab⟩
  any_goals omega
  have hc : cut x.fKids 0 (Option.getD (some 1) (len x.fKids)) = some [a] := by rw [hab]; rfl
  have h1 : TExpr.code1 x.fKids = TExpr.codes [a] := by rw [hab]; simp [TExpr.code1, TExpr.codes]
  rw [h1] at hcl ⊢
  have := fin [a] (by simp) (by rw [hab]; simp) (by omega)
  rcases h12 with h12 | h12
  ·rw [if_pos (by simpa using h12), hc]; exact this
  ·rw [if_neg (by simp [h12]), if_pos (by simpa using h12), hc]; exact this
 ·rw [if_neg h12] at hcl ⊢
  rw [if_neg (by simp; omega), if_neg (by simp; omega)]
  exact fin x.fKids (by omega) (fun y h => h) (by omega)
theorem s_l24Expr_ok : ∀ x : TExpr, x.good = true → x.n ≤ 1000000 → s_l24Expr x.fKind x.fNum x.fText x.fKids = some ((x.code, ()), ()) := by
 refine TExpr.ind fun x ih => ?_
 intro hg hn
 obtain ⟨he, hk⟩ := good_kids hg
 have ih' : ∀ y ∈ x.fKids, s_l24Expr y.fKind y.fNum y.fText y.fKids = some ((y.code, ()), ()) := fun y hy => ih y hy (hk y hy) (Nat.le_trans (kid_n hy) hn)
 have hne := x.n_eq
 have hlen := eSum_pos (l := x.fKids)
 have hcl := TExpr.code_len x
 rw [TExpr.code_eq, List.length_append, List.length_singleton] at hcl
 have hkr := eNode_k he
 rw [s_l24Expr_eq, TExpr.code_eq]
 by_cases h12 : x.fKind = 12 ∨ x.fKind = 13
 ·rw [if_pos h12] at hcl ⊢
  rcases eNode_cases he with h | h | h | h | h | ⟨_, a, b, hab⟩
  any_goals omega
  have h1 : TExpr.code1 x.fKids = a.code := by rw [hab]; simp [TExpr.code1]
  have hi0 : idx x.fKids 0 = some a := by rw [hab]; rfl
  have hi1 : idx x.fKids 1 = some b := by rw [hab]; rfl
  rw [h1] at hcl ⊢
  have ha := ih' a (by rw [hab]; simp)
  have hw : w64 (w64 (21 + x.fKind) - 12) = x.fKind + 9 := by rw [w3 (by omega) (by omega) (by omega) (by omega) (by omega) (by omega)]; omega
  have hl : lastI x = ⟨11, x.fKind + 9, b.fText⟩ := by
   unfold lastI
   rcases h12 with h | h <;> simp [h, hab]
  simp only [hi0, hi1, Option.bind_some, ha, hw, hl]
  rw [app_of (by (try simp); omega)]
  simp only [Option.bind_some, List.nil_append]
  rw [app_of (by (try simp); omega)]
  rcases h12 with h | h
  ·rw [if_pos (by simpa using h)]; rfl
  ·rw [if_neg (by simp [h]), if_pos (by simpa using h)]; rfl
 ·rw [if_neg h12] at hcl ⊢
  rw [if_neg (by simp; omega), if_neg (by simp; omega)]
  have := cat_loop (xs := x.fKids) (by omega) (f := TExpr.code) (J := fun i a => s_l24Expr_L6 x.fKind x.fNum x.fText x.fKids i a) (B := 68719476736) (by
   intro i y a hlt hy hi hw hb
   show s_l24Expr_L6 _ _ _ _ _ _ = s_l24Expr_L6 _ _ _ _ _ _
   rw [s_l24Expr_L6_eq]
   have hc : decide ((i : Int) < len x.fKids) = true := by simp [len_eq, hlt]
   rw [if_pos hc, hi]
   simp only [Option.bind_some, ih' y hy]
   rw [app_of hb, hw]
   rfl) (by rw [← TExpr.codes_eq]; omega)
  rw [show s_l24Expr_L6 x.fKind x.fNum x.fText x.fKids 0 [] = _ from this, ← TExpr.codes_eq]
  generalize TExpr.codes x.fKids = cs at hcl
  rw [s_l24Expr_L6_eq]
  have hc : decide ((x.fKids.length : Int) < len x.fKids) = false := by simp [len_eq]
  have ha : ∀ i : TInstr, app cs [i] = some (cs ++ [i]) := fun i => app_of (by (try simp); omega)
  simp only [hc, Bool.false_eq_true, if_false, s_l24Expr_L19_eq, s_l24Expr_L20_eq, ha, Option.bind_some]
  clear ih ih' this hg hk hne hlen hc ha
  obtain ⟨k, n, t, ks⟩ := x
  simp only at *
  unfold lastI
  simp only
  by_cases h1 : k = 1
  ·subst h1; rfl
  by_cases h2 : k = 2
  ·subst h2; rfl
  by_cases h3 : k = 3
  ·subst h3; rfl
  by_cases h16 : k = 16
  ·subst h16; rfl
  by_cases h17 : k = 17
  ·subst h17; rfl
  by_cases h18 : k = 18
  ·subst h18; rfl
  by_cases h4 : k = 4
  ·subst h4; simp [len_eq]
  by_cases h5 : k = 5
  ·subst h5; rfl
  by_cases h14 : k = 14
  ·subst h14; rfl
  by_cases h15 : k = 15
  ·subst h15; rfl
  have h12' : k ≠ 12 := fun e => h12 (.inl e)
  have h13' : k ≠ 13 := fun e => h12 (.inr e)
  simp [h1, h2, h3, h4, h5, h12', h13', h14, h15, h16, h17, h18]
def tgt (x : TExpr) : Option (List TInstr × TInstr × TInstr) :=
 if x.fKind = 3 then some ([], ⟨4, 0, x.fText⟩, ⟨17, 0, x.fText⟩)
 else if x.fKind = 15 then some (TExpr.codes x.fKids ++ [⟨15, 0, []⟩], ⟨21, 0, []⟩, ⟨18, 0, []⟩)
 else if x.fKind = 5 then some (TExpr.codes x.fKids, ⟨22, 0, []⟩, ⟨19, 0, []⟩)
 else if x.fKind = 4 ∧ x.fKids.length = 1 then some (⟨16, 0, x.fText⟩ :: TExpr.codes x.fKids, ⟨23, 0, x.fText⟩, ⟨20, 0, x.fText⟩)
 else none
theorem i_codes_ok {x : TExpr} (hg : x.good = true) (hn : x.n ≤ 1000000) : i_codeOf x.fKids = some ((TExpr.codes x.fKids, ()), ()) := by
 obtain ⟨he, hk⟩ := good_kids hg
 have hne := x.n_eq
 have hlen := eSum_pos (l := x.fKids)
 have hcl := TExpr.codes_len' x.fKids
 exact i_codeOf_of (by omega) (fun y hy => i_Expr_code_ok y (hk y hy) (Nat.le_trans (kid_n hy) hn)) (by omega)
theorem i_target_ok {x : TExpr} (hg : x.good = true) (hn : x.n ≤ 1000000) : i_Expr_targetCode x = some (match tgt x with
  | some (p, k, s) => ((p, k.fOp, k.fA, k.fText, s.fOp, s.fA, s.fText, ()), (true, ()), ())
  | none => (([], 0, 0, [], 0, 0, [], ()), (false, ()), ())) := by
 have hcl := TExpr.codes_len' x.fKids
 have hne := x.n_eq
 rw [i_Expr_targetCode_eq, i_codes_ok hg hn]
 simp only [Option.bind_some]
 have a1 : ∀ i : TInstr, app (TExpr.codes x.fKids) [i] = some (TExpr.codes x.fKids ++ [i]) := fun i => app_of (by (try simp); omega)
 have a2 : ∀ i : TInstr, app [i] (TExpr.codes x.fKids) = some (i :: TExpr.codes x.fKids) := fun i => app_of (by (try simp); omega)
 simp only [a1, a2, Option.bind_some]
 unfold tgt
 by_cases h3 : x.fKind = 3
 ·simp [h3]
 by_cases h15 : x.fKind = 15
 ·simp [h15]
 by_cases h5 : x.fKind = 5
 ·simp [h5]
 by_cases h4 : x.fKind = 4
 ·by_cases hl : x.fKids.length = 1
  ·simp [h4, hl, len_eq]
  ·have : ¬ (len x.fKids == 1) = true := by simp [len_eq]; omega
   simp [h4, hl, this]
 ·simp [h3, h15, h5, h4]
theorem s_target_ok {x : TExpr} (hg : x.good = true) (hn : x.n ≤ 1000000) : s_l24Target x.fKind x.fNum x.fText x.fKids = some (match tgt x with
  | some (p, k, s) => ((p, ()), (k.fOp, k.fA, k.fText, ()), (s.fOp, s.fA, s.fText, ()), (true, ()), ())
  | none => (([], ()), (0, 0, [], ()), (0, 0, [], ()), (false, ()), ())) := by
 have hcl := TExpr.codes_len' x.fKids
 have hne := x.n_eq
 obtain ⟨he, hk⟩ := good_kids hg
 have hs : ∀ y ∈ x.fKids, s_l24Expr y.fKind y.fNum y.fText y.fKids = some ((y.code, ()), ()) := fun y hy => s_l24Expr_ok y (hk y hy) (Nat.le_trans (kid_n hy) hn)
 rw [s_l24Target_eq]
 unfold tgt
 by_cases h3 : x.fKind = 3
 ·simp [h3]
 by_cases h15 : x.fKind = 15
 ·rcases eNode_cases he with h | h | h | h | ⟨_, a, ha⟩ | ⟨h, _⟩
  any_goals omega
  have e : TExpr.codes x.fKids = a.code := by rw [ha]; simp [TExpr.codes]
  have hi : idx x.fKids 0 = some a := by rw [ha]; rfl
  rw [e] at hcl
  have a1 : ∀ i : TInstr, app a.code [i] = some (a.code ++ [i]) := fun i => app_of (by (try simp); omega)
  simp [h15, hi, e, hs a (by rw [ha]; simp), a1]
 by_cases h5 : x.fKind = 5
 ·rcases eNode_cases he with h | h | h | h | h | ⟨_, a, b, ha⟩
  any_goals omega
  have e : TExpr.codes x.fKids = a.code ++ b.code := by rw [ha]; simp [TExpr.codes]
  have hi : idx x.fKids 0 = some a := by rw [ha]; rfl
  have hi1 : idx x.fKids 1 = some b := by rw [ha]; rfl
  rw [e, List.length_append] at hcl
  have a1 : app a.code b.code = some (a.code ++ b.code) := app_of (by omega)
  simp [h5, hi, hi1, e, hs a (by rw [ha]; simp), hs b (by rw [ha]; simp), a1]
 by_cases h4 : x.fKind = 4
 ·by_cases hl : x.fKids.length = 1
  ·obtain ⟨a, ha⟩ := List.length_eq_one_iff.1 hl
   have e : TExpr.codes x.fKids = a.code := by rw [ha]; simp [TExpr.codes]
   have hi : idx x.fKids 0 = some a := by rw [ha]; rfl
   rw [e] at hcl
   have hq : (len x.fKids == 1) = true := by simp [len_eq, hl]
   have a2 : ∀ i : TInstr, app [i] a.code = some (i :: a.code) := fun i => app_of (by (try simp); omega)
   simp [h4, hi, e, hq, hs a (by rw [ha]; simp), a2, hl]
  ·have : ¬ (len x.fKids == 1) = true := by simp [len_eq]; omega
   simp [h4, hl, this]
 ·simp [h3, h15, h5, h4]
theorem tgt_len (x : TExpr) {p : List TInstr} {k s : TInstr} (h : tgt x = some (p, k, s)) : p.length ≤ x.n := by
 have hcl := TExpr.codes_len' x.fKids
 have hne := x.n_eq
 unfold tgt at h
 split at h
 ·cases h; simp
 split at h
 ·cases h; simp; omega
 split at h
 ·cases h; omega
 split at h
 ·cases h; simp; omega
 ·cases h
def sBody (s : TStatement) : List TInstr :=
 if s.fHasSubject = true then
  if s.fHasReplace = true then (match tgt s.fSubject with
   | some (p, k, t) => p ++ (if s.fHasPattern = true then k :: s.fPattern.code ++ [⟨25, 0, []⟩] else []) ++ s.fReplace.code ++ (if s.fHasPattern = true then [⟨26, 0, []⟩] else []) ++ [t]
   | none => [⟨31, 4, []⟩])
  else if s.fHasPattern = true then s.fSubject.code ++ s.fPattern.code ++ [⟨24, 0, []⟩] else s.fSubject.code ++ [⟨14, 0, []⟩]
 else []
theorem sForm_has {s : TStatement} (h : sForm s = true) : (s.fHasSubject = true → s.fSubject.good = true ∧ s.fSubject.n ≤ 60) ∧ (s.fHasPattern = true → s.fHasSubject = true ∧ s.fPattern.good = true ∧ s.fPattern.n ≤ 60) ∧ (s.fHasReplace = true → s.fHasSubject = true ∧ s.fReplace.good = true ∧ s.fReplace.n ≤ 60) := by
 obtain ⟨_, _, h1, h2, h3⟩ := sForm_parts h
 unfold sForm at h
 simp only [Bool.and_eq_true, Bool.or_eq_true, Bool.not_eq_true'] at h
 have h4 := h.1.1.2
 have val : ∀ {b : Bool} {e : TExpr}, partB b e = true → b = true → e.good = true ∧ e.n ≤ 60 := fun {b e} hp hb => by
  unfold partB at hp
  rw [if_pos hb] at hp
  unfold TExpr.valid at hp
  simpa using hp
 refine ⟨val h1, fun hb => ⟨?_, val h2 hb⟩, fun hb => ⟨?_, val h3 hb⟩⟩
 ·rcases h4 with h4 | h4
  ·exact h4
  ·rw [hb] at h4; simp at h4
 ·rcases h4 with h4 | h4
  ·exact h4
  ·rw [hb] at h4; simp at h4
theorem concat2 {a b : List TInstr} (ha : a.length ≤ 1000000) (hb : b.length ≤ 1000000) : slices_Concat___i_Instr_i_Instr_ [a, b] = some ((a ++ b, ()), ()) := by
 have l2 : len [a, b] = 2 := rfl
 have i0 : idx [a, b] 0 = some a := rfl
 have i1 : idx [a, b] 1 = some b := rfl
 have w1 : w64 ((0 : Int) + 1) = 1 := rfl
 have w2' : w64 ((1 : Int) + 1) = 2 := rfl
 have wa : w64 (0 + len a) = a.length := by rw [len_eq, w64_of (by omega) (by omega)]; omega
 have wb : w64 ((a.length : Int) + len b) = (a.length + b.length : Nat) := by rw [len_eq, w64_of (by omega) (by omega)]; omega
 have ca : decide ((a.length : Int) < 0) = false := by simp
 have cb : decide ((((a.length + b.length : Nat) : Int)) < 0) = false := by simp; omega
 have hg : growN ((a.length + b.length : Nat) : Int) = some () := by
  unfold growN big
  rw [if_pos (by omega)]
 have u : ∀ s i, slices_Concat___i_Instr_i_Instr__L3 [a, b] s [a, b] 2 i = _ := fun s i => slices_Concat___i_Instr_i_Instr__L3_eq [a, b] s [a, b] 2 i
 have v : ∀ i z, slices_Concat___i_Instr_i_Instr__L11 [a, b] 2 i z = _ := fun i z => slices_Concat___i_Instr_i_Instr__L11_eq [a, b] 2 i z
 rw [slices_Concat___i_Instr_i_Instr__eq, l2, u]
 simp only [i0, w1, wa, ca, Option.bind_some, show decide ((0 : Int) < 2) = true from rfl, if_true, Bool.false_eq_true, if_false]
 rw [u]
 simp only [i1, w2', wb, cb, Option.bind_some, show decide ((1 : Int) < 2) = true from rfl, if_true, Bool.false_eq_true, if_false]
 rw [u]
 simp only [hg, l2, Option.bind_some, show decide ((2 : Int) < 2) = false from rfl, Bool.false_eq_true, if_false]
 rw [v]
 simp only [i0, w1, Option.bind_some, show decide ((0 : Int) < 2) = true from rfl, if_true]
 rw [app_of (by (try simp); omega)]
 simp only [Option.bind_some, List.nil_append]
 rw [v]
 simp only [i1, w2', Option.bind_some, show decide ((1 : Int) < 2) = true from rfl, if_true]
 rw [app_of (by omega)]
 simp only [Option.bind_some]
 rw [v]
 simp only [show decide ((2 : Int) < 2) = false from rfl, Bool.false_eq_true, if_false]
theorem sBody_len {s : TStatement} (h : sForm s = true) : (sBody s).length ≤ 1000 := by
 obtain ⟨h1, h2, h3⟩ := sForm_has h
 have c1 := TExpr.code_len s.fSubject
 have c2 := TExpr.code_len s.fPattern
 have c3 := TExpr.code_len s.fReplace
 unfold sBody
 split
 ·rename_i hs
  have := h1 hs
  split
  ·rename_i hr
   have := h3 hr
   split
   ·rename_i p k t ht
    have := tgt_len _ ht
    split
    ·rename_i hp; have := h2 hp; simp; omega
    ·simp; omega
   ·simp
  ·split
   ·rename_i hp; have := h2 hp; simp; omega
   ·simp; omega
 ·simp
theorem i_body_ok {s : TStatement} (h : sForm s = true) : i_Statement_body s = some ((sBody s, ()), ()) := by
 obtain ⟨h1, h2, h3⟩ := sForm_has h
 have c1 := TExpr.code_len s.fSubject
 have c2 := TExpr.code_len s.fPattern
 have c3 := TExpr.code_len s.fReplace
 have re : ∀ x : TExpr, TExpr.mk x.fKind x.fNum x.fText x.fKids = x := fun x => by cases x; rfl
 rw [i_Statement_body_eq]
 simp only [re]
 by_cases hr : s.fHasReplace = true
 ·obtain ⟨hs, gr, nr⟩ := h3 hr
  obtain ⟨gs, ns⟩ := h1 hs
  rw [if_pos hr, i_Statement_replaceBody_eq]
  simp only [TStatement.re, TExpr.re_eq]
  rw [i_target_ok gs (by omega), i_Expr_code_ok _ gr (by omega)]
  simp only [Option.bind_some]
  unfold sBody
  rw [if_pos hs, if_pos hr]
  cases ht : tgt s.fSubject with
  | none => rfl
  | some q =>
   obtain ⟨p, k, t⟩ := q
   have hp := tgt_len _ ht
   simp only [Bool.not_true, Bool.false_eq_true, if_false]
   by_cases hh : s.fHasPattern = true
   ·obtain ⟨_, gp, np⟩ := h2 hh
    rw [i_Expr_code_ok _ gp (by omega)]
    have hcl : cloneL p = some p := by unfold cloneL big; rw [if_pos (by omega)]
    simp only [hh, hcl, Option.bind_some, Bool.not_true, Bool.false_eq_true, if_false, if_true]
    rw [app_of (by (try simp); omega)]
    simp only [Option.bind_some]
    rw [app_of (by (try simp); omega)]
    simp only [Option.bind_some]
    rw [app_of (by (try simp); omega)]
    simp only [Option.bind_some]
    rw [app_of (by (try simp); omega)]
    simp only [Option.bind_some]
    rw [app_of (by (try simp); omega)]
    simp
   ·simp only [hh, Bool.not_false, if_true]
    rw [concat2 (by omega) (by omega)]
    simp only [Option.bind_some]
    rw [app_of (by (try simp); omega)]
    simp
 ·rw [if_neg hr]
  unfold sBody
  by_cases hp : s.fHasPattern = true
  ·obtain ⟨hs, gp, np⟩ := h2 hp
   obtain ⟨gs, ns⟩ := h1 hs
   have e : TExpr.codes [s.fSubject, s.fPattern] = s.fSubject.code ++ s.fPattern.code := by simp [TExpr.codes]
   rw [if_pos hp, i_codeOf_of (by simp) (fun y hy => by
    simp only [List.mem_cons, List.mem_nil_iff, or_false] at hy
    rcases hy with rfl | rfl
    ·exact i_Expr_code_ok _ gs (by omega)
    ·exact i_Expr_code_ok _ gp (by omega)) (by rw [e, List.length_append]; omega), e]
   simp only [Option.bind_some]
   rw [app_of (by (try simp); omega), if_pos hs, if_neg hr, if_pos hp]
   rfl
  ·rw [if_neg hp]
   by_cases hs : s.fHasSubject = true
   ·obtain ⟨gs, ns⟩ := h1 hs
    have e : TExpr.codes [s.fSubject] = s.fSubject.code := by simp [TExpr.codes]
    rw [if_pos hs, if_pos hs, if_neg hr, if_neg hp, i_codeOf_of (by simp) (fun y hy => by
     simp only [List.mem_cons, List.mem_nil_iff, or_false] at hy
     subst hy
     exact i_Expr_code_ok _ gs (by omega)) (by rw [e]; omega), e]
    simp only [Option.bind_some]
    rw [app_of (by (try simp); omega)]
    rfl
   ·rw [if_neg hs, if_neg hs]
theorem s_body_ok {s : TStatement} (h : sForm s = true) : s_l24Body s.fLabel s.fHasSubject s.fSubject.fKind s.fSubject.fNum s.fSubject.fText s.fSubject.fKids s.fHasPattern s.fPattern.fKind s.fPattern.fNum s.fPattern.fText s.fPattern.fKids s.fHasReplace s.fReplace.fKind s.fReplace.fNum s.fReplace.fText s.fReplace.fKids s.fGoto.fAlways s.fGoto.fSuccess s.fGoto.fFailure = some ((sBody s, ()), ()) := by
 obtain ⟨h1, h2, h3⟩ := sForm_has h
 have c1 := TExpr.code_len s.fSubject
 have c2 := TExpr.code_len s.fPattern
 have c3 := TExpr.code_len s.fReplace
 rw [s_l24Body_eq]
 unfold sBody
 by_cases hs : s.fHasSubject = true
 ·obtain ⟨gs, ns⟩ := h1 hs
  rw [s_l24Expr_ok _ gs (by omega), s_target_ok gs (by omega)]
  simp only [hs, Bool.not_true, Bool.false_eq_true, if_false, if_true, Option.bind_some, s_l24Body_L21_eq]
  by_cases hr : s.fHasReplace = true
  ·obtain ⟨_, gr, nr⟩ := h3 hr
   rw [s_l24Expr_ok _ gr (by omega)]
   simp only [hr, Bool.not_true, Bool.false_eq_true, if_false, if_true]
   cases ht : tgt s.fSubject with
   | none => rfl
   | some q =>
    obtain ⟨p, k, t⟩ := q
    have hp := tgt_len _ ht
    simp only [Bool.not_true, Bool.false_eq_true, if_false]
    rw [app_of (by (try simp); omega)]
    simp only [Option.bind_some, List.nil_append]
    by_cases hh : s.fHasPattern = true
    ·obtain ⟨_, gp, np⟩ := h2 hh
     rw [s_l24Expr_ok _ gp (by omega)]
     simp only [hh, if_true]
     rw [app_of (by (try simp); omega)]
     simp only [Option.bind_some]
     rw [app_of (by (try simp); omega)]
     simp only [Option.bind_some]
     rw [app_of (by (try simp); omega)]
     simp only [Option.bind_some]
     rw [app_of (by (try simp); omega)]
     simp only [Option.bind_some]
     rw [app_of (by (try simp); omega)]
     simp only [Option.bind_some]
     rw [app_of (by (try simp); omega)]
     simp
    ·simp only [hh, Bool.false_eq_true, if_false, Option.bind_some]
     rw [app_of (by (try simp); omega)]
     simp only [Option.bind_some]
     rw [app_of (by (try simp); omega)]
     simp
  ·simp only [hr, Bool.not_false, if_true, Bool.false_eq_true, if_false]
   rw [app_of (by (try simp); omega)]
   simp only [Option.bind_some, List.nil_append]
   by_cases hp : s.fHasPattern = true
   ·obtain ⟨_, gp, np⟩ := h2 hp
    rw [s_l24Expr_ok _ gp (by omega)]
    simp only [hp, Bool.not_true, Bool.false_eq_true, if_false, if_true, Option.bind_some]
    rw [app_of (by omega)]
    simp only [Option.bind_some]
    rw [app_of (by (try simp); omega)]
    rfl
   ·simp only [hp, Bool.not_false, if_true, Bool.false_eq_true, if_false]
    rw [app_of (by (try simp); omega)]
    rfl
 ·simp [hs]
def jmp (v : Int × Int) : TInstr := if v.2 ≠ 0 then ⟨31, v.2, []⟩ else if v.1 = -1 then ⟨28, 0, []⟩ else if v.1 = -2 then ⟨29, 0, []⟩ else if v.1 = -3 then ⟨30, 0, []⟩ else ⟨27, v.1, []⟩
theorem jump_ok {p : TProgram} (hp : p.fStatements.length ≤ 80) (b : Bool) {at_ : Int} (h0 : 0 ≤ at_) (h1 : at_ < p.fStatements.length) : ∃ v : Int × Int, s_l24Jump p at_ b = some (jmp v) ∧ i_Program_jumpCode p at_ b = some (jmp v) := by
 have hi : idx p.fStatements at_ = some (p.fStatements[at_.toNat]'(by omega)) := by rw [idx_of h0, List.getElem?_eq_getElem]
 obtain ⟨v, e1, e2⟩ := next_ok hp (p.fStatements[at_.toNat]'(by omega)).fGoto b h0 h1
 refine ⟨v, ?_, ?_⟩
 ·rw [s_l24Jump_eq, hi]
  try simp only [TGoto.re_eq]
  simp only [Option.bind_some, e1]
  unfold jmp
  by_cases c : v.2 = 0 <;> by_cases c1 : v.1 = -1 <;> by_cases c2 : v.1 = -2 <;> by_cases c3 : v.1 = -3 <;> simp [c, c1, c2, c3]
 ·rw [i_Program_jumpCode_eq, hi]
  try simp only [TGoto.re_eq]
  simp only [Option.bind_some, e2]
  unfold jmp
  by_cases c : v.2 = 0 <;> by_cases c1 : v.1 = -1 <;> by_cases c2 : v.1 = -2 <;> by_cases c3 : v.1 = -3 <;> simp [c, c1, c2, c3]
noncomputable def jmpA (p : TProgram) (at_ : Int) (b : Bool) : TInstr := (s_l24Jump p at_ b).getD ⟨0, 0, []⟩
noncomputable def stC (p : TProgram) (at_ : Int) (s : TStatement) : List TInstr := ⟨1, at_, []⟩ :: (sBody s ++ [jmpA p at_ true, jmpA p at_ false])
theorem jmpA_ok {p : TProgram} (hp : p.fStatements.length ≤ 80) (b : Bool) {at_ : Int} (h0 : 0 ≤ at_) (h1 : at_ < p.fStatements.length) : s_l24Jump p at_ b = some (jmpA p at_ b) ∧ i_Program_jumpCode p at_ b = some (jmpA p at_ b) ∧ ∃ v, jmpA p at_ b = jmp v := by
 obtain ⟨v, e1, e2⟩ := jump_ok hp b h0 h1
 unfold jmpA
 rw [e1, e2]
 exact ⟨rfl, rfl, v, rfl⟩
theorem stC_ok {p : TProgram} (hp : p.fStatements.length ≤ 80) {i : Nat} {s : TStatement} (hi : p.fStatements[i]? = some s) (hf : sForm s = true) : s_l24Statement p (i : Int) = some ((stC p i s, ()), ()) ∧ i_Program_statementCode p (i : Int) = some ((stC p i s, ()), ()) := by
 have hlt := (List.getElem?_eq_some_iff.1 hi).1
 obtain ⟨t1, t2, _⟩ := jmpA_ok hp true (at_ := (i : Int)) (by omega) (by omega)
 obtain ⟨f1, f2, _⟩ := jmpA_ok hp false (at_ := (i : Int)) (by omega) (by omega)
 have hb := sBody_len hf
 have hix : idx p.fStatements (i : Int) = some s := by rw [idx_nat]; exact hi
 refine ⟨?_, ?_⟩
 ·rw [s_l24Statement_eq, hix]
  try simp only [TProgram.re_eq]
  simp only [Option.bind_some, s_body_ok hf, t1, f1]
  rw [app_of (by (try simp); omega)]
  simp only [Option.bind_some]
  rw [app_of (by (try simp); omega)]
  simp only [Option.bind_some]
  rw [app_of (by (try simp); omega)]
  simp [stC]
 ·rw [i_Program_statementCode_eq, hix]
  try simp only [TProgram.re_eq]
  simp only [Option.bind_some]
  try simp only [TExpr.re_eq]
  rw [show TStatement.mk s.fLabel s.fHasSubject s.fSubject s.fHasPattern s.fPattern s.fHasReplace s.fReplace s.fGoto = s from rfl, i_body_ok hf]
  simp only [Option.bind_some, t2, f2]
  rw [app_of (by (try simp); omega)]
  simp only [Option.bind_some]
  rw [app_of (by (try simp); omega)]
  simp [stC]
theorem stC_len {p : TProgram} {i : Int} {s : TStatement} (hf : sForm s = true) : (stC p i s).length ≤ 1003 := by
 have := sBody_len hf
 simp [stC]; omega
theorem intMarks_ok {xs : List Int} {k : Int} (h0 : 0 ≤ k) (h1 : k + (1 * xs.length : Nat) < 4611686018427387904) : l_markInt64S k xs = some (k + (1 * xs.length : Nat), marksL (fun k => k) 1 k xs.length, ()) := by
 rw [l_markInt64S_eq]
 exact markL_loop (J := l_markInt64S_L2) (fun k xs => by
  rw [l_markInt64S_L2_eq]
  simp [len_eq]) (fun k i xs hlt g0 g1 g2 => by
  have hc : decide ((i : Int) < len xs) = true := by simp [len_eq]; omega
  have w1 : w64 (k + 1) = k + 1 := w64_of (by omega) (by omega)
  have wi : w64 ((i : Int) + 1) = ((i + 1 : Nat) : Int) := by rw [w64_of (by omega) (by omega)]; omega
  rw [l_markInt64S_L2_eq, if_pos hc]
  simp [idx_nat, List.getElem?_eq_getElem hlt, upd_eq, w1, wi]) xs k h0 h1 (by omega)
theorem intHeld_ok {n : Nat} {k : Int} (h0 : 0 ≤ k) (h1 : k + (1 * n : Nat) < 4611686018427387904) : l_heldInt64S (marksL (fun k => k) 1 k n) k = some (k + (1 * n : Nat)) := by
 rw [l_heldInt64S_eq]
 refine heldL_loop (μ := fun k => k) (J := fun k' i => l_heldInt64S_L2 (marksL (fun k => k) 1 k n) k' i) (by omega) h0 h1 (fun k => by
  show l_heldInt64S_L2 _ _ _ = _
  rw [l_heldInt64S_L2_eq]
  simp [len_eq, marksL_len]) (fun k' i hlt g0 g1 hi => ?_)
 have hc : decide ((i : Int) < len (marksL (fun k => k) 1 k n)) = true := by simp [len_eq, marksL_len]; omega
 have w1 : w64 (k' + 1) = k' + 1 := w64_of (by omega) (by omega)
 have wi : w64 ((i : Int) + 1) = ((i + 1 : Nat) : Int) := by rw [w64_of (by omega) (by omega)]; omega
 show l_heldInt64S_L2 _ _ _ = l_heldInt64S_L2 _ _ _
 rw [l_heldInt64S_L2_eq, if_pos hc, hi]
 simp [w1, wi]
end Go.Dv.U

namespace Go.Dv.U
open Go Go.Dv Go.Proofs
noncomputable def allC (p : TProgram) : Nat → List TStatement → List TInstr
 | _, [] => []
 | i, s :: r => stC p i s ++ allC p (i + 1) r
noncomputable def entE (p : TProgram) : Nat → Nat → List TStatement → List Int
 | _, _, [] => []
 | i, o, s :: r => (o : Int) :: entE p (i + 1) (o + (stC p i s).length) r
noncomputable def failF (p : TProgram) : Nat → Nat → List TStatement → List Int
 | _, _, [] => []
 | i, o, s :: r => (((o + (stC p i s).length : Nat) : Int) - 1) :: failF p (i + 1) (o + (stC p i s).length) r
theorem allC_len {p : TProgram} : ∀ (l : List TStatement) (i : Nat), (∀ s ∈ l, sForm s = true) → (allC p i l).length ≤ 1003 * l.length
 | [], _, _ => by simp [allC]
 | s :: r, i, h => by
  have h1 := stC_len (p := p) (i := (i : Int)) (h s (by simp))
  have h2 := allC_len (p := p) r (i + 1) fun s hs => h s (by simp [hs])
  simp only [allC, List.length_append, List.length_cons]; omega
theorem failF_len {p : TProgram} : ∀ (l : List TStatement) (i o : Nat), (failF p i o l).length = l.length
 | [], _, _ => rfl
 | s :: r, i, o => by simp [failF, failF_len r]
theorem stC_pos (p : TProgram) (i : Int) (s : TStatement) : 3 ≤ (stC p i s).length := by simp [stC]
theorem s_code_ok {p : TProgram} (hp : p.fStatements.length ≤ 80) (hf : ∀ s ∈ p.fStatements, sForm s = true) :
    s_l24Code p = some ((allC p 0 p.fStatements, entE p 0 0 p.fStatements, failF p 0 0 p.fStatements, ()), ()) := by
  rw [s_l24Code_eq]
  have re : TProgram.mk p.fStatements = p := rfl
  have key := loop_ind (xs := p.fStatements) (by omega) (P := fun i l => (∀ t, l[t]? = p.fStatements[i + t]?) → ∀ (a : List TInstr) (b c : List Int), a.length + 1003 * l.length ≤ 1000000 → b.length + l.length ≤ 1000000 → c.length + l.length ≤ 1000000 →
      s_l24Code_L3 (i : Int) p.fStatements [] [] [] a b c = some ((a ++ allC p i l, b ++ entE p i a.length l, c ++ failF p i a.length l, ()), ())) (by
    intro _ a b c _ _ _
    rw [s_l24Code_L3_eq]
    simp [len_eq, allC, entE, failF]) (by
    intro i y l _ hlt hy hi hw ih ht a b c h1 h2 h3
    have hiy : p.fStatements[i]? = some y := by rw [← idx_nat]; exact hi
    have hfy := hf y hy
    have hl := stC_len (p := p) (i := (i : Int)) hfy
    have hpos := stC_pos p i y
    have e1 := (stC_ok hp hiy hfy).1
    simp only [List.length_cons] at h1 h2 h3
    rw [s_l24Code_L3_eq]
    have hc : decide ((i : Int) < len p.fStatements) = true := by simp [len_eq, hlt]
    rw [if_pos hc, app_of (by simp; omega)]
    simp only [Option.bind_some, re, e1]
    rw [app_of (by omega)]
    simp only [Option.bind_some]
    rw [app_of (by simp; omega)]
    simp only [Option.bind_some, hw]
    have w : w64 (len (a ++ stC p i y) - 1) = ((a.length + (stC p i y).length : Nat) : Int) - 1 := by rw [len_eq, List.length_append, w64_of (by omega) (by omega)]
    rw [w, ih (fun t => by have := ht (t + 1); simp only [List.getElem?_cons_succ] at this; rw [this]; congr 1; omega) _ _ _ (by rw [List.length_append]; omega) (by simp; omega) (by simp; omega)]
    simp [allC, entE, failF, len_eq, List.append_assoc])
  have := key (fun t => by simp) [] [] [] (by simp; omega) (by simp; omega) (by simp; omega)
  simpa using this
theorem i_code_ok {p : TProgram} (hp : p.fStatements.length ≤ 80) (hf : ∀ s ∈ p.fStatements, sForm s = true) :
    i_Program_code p = some ((allC p 0 p.fStatements, entE p 0 0 p.fStatements, failF p 0 0 p.fStatements, ()), ()) := by
  rw [i_Program_code_eq]
  have re : TProgram.mk p.fStatements = p := rfl
  have key := loop_ind (xs := p.fStatements) (by omega) (P := fun i l => (∀ t, l[t]? = p.fStatements[i + t]?) → ∀ (a : List TInstr) (b c : List Int), a.length + 1003 * l.length ≤ 1000000 → b.length + l.length ≤ 1000000 → c.length + l.length ≤ 1000000 →
      i_Program_code_L3 (len p.fStatements) (i : Int) p.fStatements [] [] [] a b c = some ((a ++ allC p i l, b ++ entE p i a.length l, c ++ failF p i a.length l, ()), ())) (by
    intro _ a b c _ _ _
    rw [i_Program_code_L3_eq]
    simp [len_eq, allC, entE, failF]) (by
    intro i y l _ hlt hy hi hw ih ht a b c h1 h2 h3
    have hiy : p.fStatements[i]? = some y := by rw [← idx_nat]; exact hi
    have hfy := hf y hy
    have hl := stC_len (p := p) (i := (i : Int)) hfy
    have hpos := stC_pos p i y
    have e1 := (stC_ok hp hiy hfy).2
    simp only [List.length_cons] at h1 h2 h3
    rw [i_Program_code_L3_eq]
    have hc : decide ((i : Int) < len p.fStatements) = true := by simp [len_eq, hlt]
    rw [if_pos hc, app_of (by simp; omega)]
    simp only [Option.bind_some, re, e1]
    rw [app_of (by omega)]
    simp only [Option.bind_some]
    rw [app_of (by simp; omega)]
    simp only [Option.bind_some, hw]
    have w : w64 (len (a ++ stC p i y) - 1) = ((a.length + (stC p i y).length : Nat) : Int) - 1 := by rw [len_eq, List.length_append, w64_of (by omega) (by omega)]
    rw [w, ih (fun t => by have := ht (t + 1); simp only [List.getElem?_cons_succ] at this; rw [this]; congr 1; omega) _ _ _ (by rw [List.length_append]; omega) (by simp; omega) (by simp; omega)]
    simp [allC, entE, failF, len_eq, List.append_assoc])
  have := key (fun t => by simp) [] [] [] (by simp; omega) (by simp; omega) (by simp; omega)
  simpa using this
end Go.Dv.U

namespace Go.Dv.U
open Go Go.Dv Go.Proofs
def eff (x : TInstr) : Int × Int :=
 let o := x.fOp
 if o = 2 ∨ o = 3 ∨ o = 4 ∨ o = 5 ∨ o = 6 ∨ o = 7 then (0, 1)
 else if o = 8 ∨ o = 12 then (2, 1)
 else if o = 9 ∨ o = 10 ∨ o = 11 ∨ o = 15 then (1, 1)
 else if o = 13 then (x.fA, 1)
 else if o = 14 ∨ o = 17 then (1, 0)
 else if o = 18 ∨ o = 20 ∨ o = 24 then (2, 0)
 else if o = 19 then (3, 0)
 else if o = 21 ∨ o = 23 then (1, 2)
 else if o = 22 ∨ o = 25 then (2, 3)
 else if o = 26 then (4, 1)
 else (0, 0)
def okI (x : TInstr) : Prop := 1 ≤ x.fOp ∧ x.fOp ≤ 31 ∧ (x.fOp = 13 → 0 ≤ x.fA ∧ x.fA ≤ 6)
theorem eff_rng {x : TInstr} (h : okI x) : 0 ≤ (eff x).1 ∧ (eff x).1 ≤ 6 ∧ 0 ≤ (eff x).2 ∧ (eff x).2 ≤ 3 := by
 obtain ⟨o, a, t⟩ := x
 obtain ⟨h1, h2, h3⟩ := h
 simp only at h1 h2 h3
 unfold eff
 simp only
 grind (splits := 60)
theorem op_cases {o : Int} (h1 : 1 ≤ o) (h2 : o ≤ 31) : o = 1 ∨ o = 2 ∨ o = 3 ∨ o = 4 ∨ o = 5 ∨ o = 6 ∨ o = 7 ∨ o = 8 ∨ o = 9 ∨ o = 10 ∨ o = 11 ∨ o = 12 ∨ o = 13 ∨ o = 14 ∨ o = 15 ∨ o = 16 ∨ o = 17 ∨ o = 18 ∨ o = 19 ∨ o = 20 ∨ o = 21 ∨ o = 22 ∨ o = 23 ∨ o = 24 ∨ o = 25 ∨ o = 26 ∨ o = 27 ∨ o = 28 ∨ o = 29 ∨ o = 30 ∨ o = 31 := by omega
theorem s_effect_ok {x : TInstr} (h : okI x) : s_l24Effect x = some (eff x) := by
 obtain ⟨o, a, t⟩ := x
 obtain ⟨h1, h2, _⟩ := h
 rw [s_l24Effect_eq]
 simp only [s_l24Effect_L8_eq, s_l24Effect_L9_eq, s_l24Effect_L16_eq, s_l24Effect_L17_eq, s_l24Effect_L25_eq, s_l24Effect_L26_eq, s_l24Effect_L33_eq, s_l24Effect_L34_eq]
 rcases op_cases h1 h2 with h | h | h | h | h | h | h | h | h | h | h | h | h | h | h | h | h | h | h | h | h | h | h | h | h | h | h | h | h | h | h <;> (simp only at h; subst h; rfl)
theorem i_effect_ok {x : TInstr} (h : okI x) : i_Instr_effect x = some (eff x) := by
 obtain ⟨o, a, t⟩ := x
 obtain ⟨h1, h2, _⟩ := h
 rw [i_Instr_effect_eq, i_Instr_form_eq, i_instrForms_eq]
 simp only [Option.bind_some]
 rcases op_cases h1 h2 with h | h | h | h | h | h | h | h | h | h | h | h | h | h | h | h | h | h | h | h | h | h | h | h | h | h | h | h | h | h | h <;> (simp only at h; subst h; rfl)
def net (x : TInstr) : Int := (eff x).2 - (eff x).1
def nets : List TInstr → Int
 | [] => 0
 | x :: r => net x + nets r
theorem nets_app : ∀ a b : List TInstr, nets (a ++ b) = nets a + nets b
 | [], b => by simp [nets]
 | x :: a, b => by simp only [List.cons_append, nets, nets_app a b]; omega
theorem lastI_ok {x : TExpr} (h : eNode x = true) : okI (lastI x) ∧ net (lastI x) = (if x.fKind = 12 ∨ x.fKind = 13 then 0 else 1 - (x.fKids.length : Int)) := by
 obtain ⟨k, n, t, ks⟩ := x
 rcases eNode_cases h with ⟨h1, h2, _⟩ | ⟨h1, h2, _⟩ | ⟨h1, h2, _⟩ | ⟨h1, h2, _⟩ | ⟨h1, a, h2⟩ | ⟨h1, a, b, h2⟩
 ·simp only at h1 h2; subst h1; subst h2; exact ⟨by simp [okI, lastI], by simp [net, eff, lastI]⟩
 ·simp only at h1 h2; subst h1; subst h2; exact ⟨by simp [okI, lastI], by simp [net, eff, lastI]⟩
 ·simp only at h1 h2; subst h2
  rcases h1 with h1 | h1 | h1 | h1 <;> subst h1 <;> exact ⟨by simp [okI, lastI], by simp [net, eff, lastI]⟩
 ·simp only at h1 h2; subst h1; exact ⟨by simp [okI, lastI]; omega, by simp [net, eff, lastI]⟩
 ·simp only at h1 h2; subst h2
  rcases h1 with h1 | h1 <;> subst h1 <;> exact ⟨by simp [okI, lastI], by simp [net, eff, lastI]⟩
 ·simp only at h1 h2; subst h2
  have : k = 5 ∨ k = 6 ∨ k = 7 ∨ k = 8 ∨ k = 9 ∨ k = 10 ∨ k = 11 ∨ k = 12 ∨ k = 13 := by omega
  rcases this with h | h | h | h | h | h | h | h | h <;> subst h <;> exact ⟨by simp [okI, lastI], by simp [net, eff, lastI]⟩
theorem code_net : ∀ x : TExpr, x.good = true → nets x.code = 1 ∧ ∀ i ∈ x.code, okI i := by
 refine TExpr.ind fun x ih => ?_
 intro hg
 obtain ⟨he, hk⟩ := good_kids hg
 obtain ⟨l1, l2⟩ := lastI_ok he
 have codes : ∀ l : List TExpr, (∀ y ∈ l, y ∈ x.fKids) → nets (TExpr.codes l) = l.length ∧ ∀ i ∈ TExpr.codes l, okI i := by
  intro l
  induction l with
  | nil => intro _; exact ⟨rfl, fun i hi => by simp [TExpr.codes] at hi⟩
  | cons y r ihr =>
   intro hl
   obtain ⟨h1, h2⟩ := ih y (hl y (by simp)) (hk y (hl y (by simp)))
   obtain ⟨h3, h4⟩ := ihr fun z hz => hl z (by simp [hz])
   refine ⟨by simp only [TExpr.codes, nets_app, h1, h3, List.length_cons]; omega, fun i hi => ?_⟩
   simp only [TExpr.codes, List.mem_append] at hi
   rcases hi with hi | hi
   ·exact h2 i hi
   ·exact h4 i hi
 rw [TExpr.code_eq]
 by_cases h12 : x.fKind = 12 ∨ x.fKind = 13
 ·rw [if_pos h12] at l2 ⊢
  rcases eNode_cases he with h | h | h | h | h | ⟨_, a, b, hab⟩
  any_goals omega
  have h1 : TExpr.code1 x.fKids = a.code := by rw [hab]; simp [TExpr.code1]
  obtain ⟨h2, h3⟩ := ih a (by rw [hab]; simp) (hk a (by rw [hab]; simp))
  rw [h1]
  refine ⟨by rw [nets_app, h2]; simp only [nets, l2]; omega, fun i hi => ?_⟩
  simp only [List.mem_append, List.mem_singleton] at hi
  rcases hi with hi | rfl
  ·exact h3 i hi
  ·exact l1
 ·rw [if_neg h12] at l2 ⊢
  obtain ⟨h2, h3⟩ := codes x.fKids fun y hy => hy
  refine ⟨by rw [nets_app, h2]; simp only [nets, l2]; omega, fun i hi => ?_⟩
  simp only [List.mem_append, List.mem_singleton] at hi
  rcases hi with hi | rfl
  ·exact h3 i hi
  ·exact l1
theorem codes_net : ∀ l : List TExpr, (∀ y ∈ l, y.good = true) → nets (TExpr.codes l) = l.length ∧ ∀ i ∈ TExpr.codes l, okI i
 | [], _ => ⟨rfl, fun i hi => by simp [TExpr.codes] at hi⟩
 | y :: r, h => by
  obtain ⟨h1, h2⟩ := code_net y (h y (by simp))
  obtain ⟨h3, h4⟩ := codes_net r fun z hz => h z (by simp [hz])
  refine ⟨by simp only [TExpr.codes, nets_app, h1, h3, List.length_cons]; omega, fun i hi => ?_⟩
  simp only [TExpr.codes, List.mem_append] at hi
  rcases hi with hi | hi
  ·exact h2 i hi
  ·exact h4 i hi
theorem tgt_net {x : TExpr} (hg : x.good = true) {p : List TInstr} {k t : TInstr} (h : tgt x = some (p, k, t)) : nets p + net t = -1 ∧ net k = 1 ∧ (∀ i ∈ p, okI i) ∧ okI k ∧ okI t := by
 obtain ⟨he, hk⟩ := good_kids hg
 obtain ⟨c1, c2⟩ := codes_net x.fKids hk
 unfold tgt at h
 split at h
 ·cases h
  exact ⟨by simp [nets, net, eff], by simp [net, eff], fun i hi => by simp at hi, by simp [okI], by simp [okI]⟩
 split at h
 ·rename_i h15
  rcases eNode_cases he with h' | h' | h' | h' | ⟨_, a, ha⟩ | ⟨h', _⟩
  any_goals omega
  cases h
  rw [ha] at c1
  simp only [List.length_singleton] at c1
  refine ⟨by rw [ha, nets_app, c1]; simp [nets, net, eff], by simp [net, eff], fun i hi => ?_, by simp [okI], by simp [okI]⟩
  simp only [List.mem_append, List.mem_singleton] at hi
  rcases hi with hi | rfl
  ·exact c2 i hi
  ·simp [okI]
 split at h
 ·rename_i h5
  rcases eNode_cases he with h' | h' | h' | h' | h' | ⟨_, a, b, ha⟩
  any_goals omega
  cases h
  rw [ha] at c1
  exact ⟨by rw [ha, c1]; simp [net, eff], by simp [net, eff], c2, by simp [okI], by simp [okI]⟩
 split at h
 ·rename_i h4
  cases h
  rw [h4.2] at c1
  refine ⟨by simp only [nets, c1]; simp [net, eff], by simp [net, eff], fun i hi => ?_, by simp [okI], by simp [okI]⟩
  simp only [List.mem_cons] at hi
  rcases hi with rfl | hi
  ·simp [okI]
  ·exact c2 i hi
 ·cases h
theorem body_net {s : TStatement} (h : sForm s = true) : nets (sBody s) = 0 ∧ ∀ i ∈ sBody s, okI i := by
 obtain ⟨h1, h2, h3⟩ := sForm_has h
 unfold sBody
 split
 ·rename_i hs
  obtain ⟨c1, c2⟩ := code_net _ (h1 hs).1
  split
  ·rename_i hr
   obtain ⟨r1, r2⟩ := code_net _ (h3 hr).2.1
   split
   ·rename_i p k t ht
    obtain ⟨t1, t2, t3, t4, t5⟩ := tgt_net (h1 hs).1 ht
    split
    ·rename_i hp
     obtain ⟨p1, p2⟩ := code_net _ (h2 hp).2.1
     refine ⟨?_, fun i hi => ?_⟩
     ·simp only [List.cons_append, nets_app, nets, p1, r1, t2]
      have e25 : net ⟨25, 0, []⟩ = 1 := by simp [net, eff]
      have e26 : net ⟨26, 0, []⟩ = -3 := by simp [net, eff]
      rw [e25, e26]; omega
     ·simp only [List.mem_append, List.mem_cons, List.mem_nil_iff, or_false] at hi
      rcases hi with (((hi | (rfl | hi) | rfl) | hi) | rfl) | rfl
      ·exact t3 i hi
      ·exact t4
      ·exact p2 i hi
      ·simp [okI]
      ·exact r2 i hi
      ·simp [okI]
      ·exact t5
    ·refine ⟨by simp only [List.append_nil, nets_app, nets, r1]; omega, fun i hi => ?_⟩
     simp only [List.append_nil, List.mem_append, List.mem_cons, List.mem_nil_iff, or_false] at hi
     rcases hi with (hi | hi) | rfl
     ·exact t3 i hi
     ·exact r2 i hi
     ·exact t5
   ·exact ⟨by simp [nets, net, eff], fun i hi => by simp only [List.mem_singleton] at hi; subst hi; simp [okI]⟩
  ·split
   ·rename_i hp
    obtain ⟨p1, p2⟩ := code_net _ (h2 hp).2.1
    refine ⟨by simp only [nets_app, nets, c1, p1]; simp [net, eff], fun i hi => ?_⟩
    simp only [List.mem_append, List.mem_singleton] at hi
    rcases hi with (hi | hi) | rfl
    ·exact c2 i hi
    ·exact p2 i hi
    ·simp [okI]
   ·refine ⟨by simp only [nets_app, nets, c1]; simp [net, eff], fun i hi => ?_⟩
    simp only [List.mem_append, List.mem_singleton] at hi
    rcases hi with hi | rfl
    ·exact c2 i hi
    ·simp [okI]
 ·exact ⟨rfl, fun i hi => by simp at hi⟩
theorem jmp_ok (v : Int × Int) : okI (jmp v) := by
 unfold jmp
 split
 ·simp [okI]
 split
 ·simp [okI]
 split
 ·simp [okI]
 split <;> simp [okI]
def runH : Int → List TInstr → List Int
 | _, [] => []
 | _, [_] => [0]
 | h, x :: y :: r => h :: runH (h + net x) (y :: r)
theorem runH_len : ∀ (l : List TInstr) (h : Int), (runH h l).length = l.length
 | [], _ => rfl
 | [_], _ => rfl
 | x :: y :: r, h => by simp only [runH, List.length_cons, runH_len (y :: r)]
def runI : Int → List TInstr → List Int
 | _, [] => []
 | _, [_] => [0]
 | _, [_, _] => [0, 0]
 | h, x :: y :: z :: r => h :: runI (h + net x) (y :: z :: r)
theorem runI_eq : ∀ (l : List TInstr) (h : Int) (a b : TInstr), h + nets l = 0 → runI h (l ++ [a, b]) = runH h (l ++ [a, b])
 | [], h, a, b, e => by simp [nets] at e; subst e; rfl
 | [x], h, a, b, e => by
  have := runI_eq [] (h + net x) a b (by simp only [nets] at e ⊢; omega)
  simp only [List.nil_append] at this
  simp only [List.cons_append, List.nil_append, runI, runH]
  simp only [nets] at e
  rw [show h + net x = 0 by omega]
 | x :: y :: l, h, a, b, e => by
  have := runI_eq (y :: l) (h + net x) a b (by simp only [nets] at e ⊢; omega)
  cases hl : l ++ [a, b] with
  | nil => simp at hl
  | cons z r =>
   simp only [List.cons_append, hl, runI, runH] at this ⊢
   rw [this]
theorem w_run {h d l : Int} (h1 : -1000000 ≤ h) (h2 : h ≤ 1000000) (h3 : 0 ≤ d) (h4 : d ≤ 6) (h5 : 0 ≤ l) (h6 : l ≤ 3) : w64 (h + w64 (l - d)) = h + (l - d) ∧ w64 (w64 (h - d) + l) = h + (l - d) := by
 refine ⟨?_, ?_⟩
 ·rw [w64_of (n := l - d) (by omega) (by omega), w64_of (by omega) (by omega)]
 ·rw [w64_of (n := h - d) (by omega) (by omega), w64_of (by omega) (by omega)]; omega
theorem set_mid {α : Type} (pre : List α) (x y : α) (post : List α) : (pre ++ x :: post).set pre.length y = pre ++ y :: post := by
 rw [List.set_append_right _ _ (Nat.le_refl _), Nat.sub_self]; rfl
theorem get_mid {α : Type} (pre : List α) (x : α) (post : List α) : (pre ++ x :: post)[pre.length]? = some x := by
 rw [List.getElem?_append_right (Nat.le_refl _), Nat.sub_self]; rfl
theorem s_inner {I : List TInstr} {E F : List Int} {k : Nat} : ∀ (r : List TInstr) (pre post : List Int) (h : Int), r ≠ [] → (∀ t, t < r.length → I[pre.length + t]? = r[t]?) → (∀ i ∈ r, okI i) → F[k]? = some (((pre.length + r.length : Nat) : Int) - 1) → pre.length + r.length < 1000000 → -100000 + 10 * (r.length : Int) ≤ h → h + 10 * r.length ≤ 100000 →
  s_l24Heights_L7 (k : Int) h (pre.length : Int) I E F (pre ++ List.replicate r.length 0 ++ post) = s_l24Heights_L3 (w64 ((k : Int) + 1)) I E F (pre ++ runH h r ++ post)
 | [], _, _, _, hne, _, _, _, _, _, _ => (hne rfl).elim
 | [x], pre, post, h, _, _, _, hF, _, _, _ => by
  rw [s_l24Heights_L7_eq, idx_nat, hF]
  simp only [Option.bind_some, List.length_singleton]
  rw [if_neg (by simp)]
  rfl
 | x :: y :: r, pre, post, h, _, hI, hok, hF, hb, h1, h2 => by
  have hx := hok x (by simp)
  obtain ⟨e1, e2, e3, e4⟩ := eff_rng hx
  have hI0 : I[pre.length]? = some x := by have := hI 0 (by simp); simpa using this
  simp only [List.length_cons] at h1 h2 hb hF
  obtain ⟨w1, _⟩ := w_run (h := h) (by omega) (by omega) e1 e2 e3 e4
  have wi : w64 ((pre.length : Int) + 1) = ((pre ++ [h]).length : Int) := by rw [w64_of (by omega) (by omega)]; simp
  rw [s_l24Heights_L7_eq, idx_nat, hF]
  simp only [Option.bind_some]
  have ez : pre ++ List.replicate (x :: y :: r).length 0 ++ post = pre ++ 0 :: (List.replicate (y :: r).length 0 ++ post) := by simp [List.replicate_succ]
  rw [if_pos (by simp; omega), ez, idx_nat, idx_nat, hI0, get_mid]
  simp only [Option.bind_some, Int.toNat_natCast, get_mid, s_effect_ok hx, upd_eq, set_mid, w1, wi]
  have ih := s_inner (I := I) (E := E) (F := F) (k := k) (y :: r) (pre ++ [h]) post (h + ((eff x).2 - (eff x).1)) (by simp) (fun t ht => by
   have := hI (t + 1) (by simpa using ht)
   simp only [List.getElem?_cons_succ] at this
   rw [← this, List.length_append, List.length_singleton]
   congr 1; omega) (fun i hi => hok i (List.mem_cons_of_mem _ hi)) (by rw [hF]; simp; omega) (by simp; omega) (by simp; omega) (by simp; omega)
  rw [show pre ++ h :: (List.replicate (y :: r).length 0 ++ post) = pre ++ [h] ++ List.replicate (y :: r).length 0 ++ post by simp, ih]
  simp [runH, net]
theorem i_inner {I : List TInstr} {E F F' : List Int} {n k : Int} : ∀ (r : List TInstr) (x : TInstr) (pre post : List Int) (h : Int) (fail : Int), r ≠ [] → I[pre.length]? = some x → (∀ t, t < r.length → I[pre.length + 1 + t]? = r[t]?) → (∀ i ∈ x :: r, okI i) → fail = ((pre.length + r.length : Nat) : Int) → pre.length + r.length < 1000000 → -100000 + 10 * (r.length : Int) ≤ h → h + 10 * r.length ≤ 100000 →
  i_Code_heights_L6 fail (((pre.length + 1 : Nat)) : Int) F' n k I E F (pre ++ h :: (List.replicate r.length 0 ++ post)) = i_Code_heights_L3 F' n (w64 (k + 1)) I E F (pre ++ h :: ((runI (h + net x) r) ++ post))
 | [], _, _, _, _, _, hne, _, _, _, _, _, _, _ => (hne rfl).elim
 | [y], x, pre, post, h, fail, _, _, _, _, hf, hb, _, _ => by
  rw [i_Code_heights_L6_eq]
  simp only [List.length_singleton] at hf hb
  rw [w64_of (n := fail - 1) (by omega) (by omega), if_neg (by simp; omega)]
  rfl
 | [y, z], x, pre, post, h, fail, _, _, _, _, hf, hb, _, _ => by
  rw [i_Code_heights_L6_eq]
  simp only [List.length_cons, List.length_nil] at hf hb
  rw [w64_of (n := fail - 1) (by omega) (by omega), if_neg (by simp; omega)]
  rfl
 | y :: z :: v :: r, x, pre, post, h, fail, _, hx0, hI, hok, hf, hb, h1, h2 => by
  have hx := hok x (by simp)
  obtain ⟨e1, e2, e3, e4⟩ := eff_rng hx
  simp only [List.length_cons] at h1 h2 hb hf
  obtain ⟨_, w1⟩ := w_run (h := h) (by omega) (by omega) e1 e2 e3 e4
  have wm : w64 (((pre.length + 1 : Nat) : Int) - 1) = (pre.length : Int) := by rw [w64_of (by omega) (by omega)]; omega
  have wi : w64 (((pre.length + 1 : Nat) : Int) + 1) = (((pre ++ [h]).length + 1 : Nat) : Int) := by rw [w64_of (by omega) (by omega)]; simp
  rw [i_Code_heights_L6_eq, w64_of (n := fail - 1) (by omega) (by omega)]
  rw [if_pos (by simp; omega), wm, idx_nat, hx0]
  have ez : pre ++ h :: (List.replicate (y :: z :: v :: r).length 0 ++ post) = (pre ++ [h]) ++ 0 :: (List.replicate (z :: v :: r).length 0 ++ post) := by simp [List.replicate_succ]
  have g0 : (pre ++ h :: (List.replicate (y :: z :: v :: r).length 0 ++ post))[pre.length]? = some h := get_mid _ _ _
  have g1 : (pre ++ h :: (List.replicate (y :: z :: v :: r).length 0 ++ post))[pre.length + 1]? = some 0 := by rw [ez]; have := get_mid (pre ++ [h]) 0 (List.replicate (z :: v :: r).length 0 ++ post); simpa using this
  simp only [Option.bind_some, i_effect_ok hx, idx_nat, Int.toNat_natCast, g0, g1, upd_eq, w1, wi]
  have es : (pre ++ h :: (List.replicate (y :: z :: v :: r).length 0 ++ post)).set (pre.length + 1) (h + ((eff x).2 - (eff x).1)) = (pre ++ [h]) ++ (h + ((eff x).2 - (eff x).1)) :: (List.replicate (z :: v :: r).length 0 ++ post) := by
   rw [ez]
   have := set_mid (pre ++ [h]) 0 (h + ((eff x).2 - (eff x).1)) (List.replicate (z :: v :: r).length 0 ++ post)
   simpa using this
  rw [es]
  have hy0 : I[pre.length + 1]? = some y := by have := hI 0 (by simp); simpa using this
  have ih := i_inner (I := I) (E := E) (F := F) (F' := F') (n := n) (k := k) (z :: v :: r) y (pre ++ [h]) post (h + ((eff x).2 - (eff x).1)) fail (by simp) (by simpa using hy0) (fun t ht => by
   have := hI (t + 1) (by simpa using ht)
   simp only [List.getElem?_cons_succ] at this
   rw [← this, List.length_append, List.length_singleton]
   congr 1; omega) (fun i hi => hok i (List.mem_cons_of_mem _ hi)) (by rw [hf]; simp; omega) (by simp; omega) (by simp; omega) (by simp; omega)
  rw [ih]
  simp [runI, net]
noncomputable def hAll (p : TProgram) : Nat → List TStatement → List Int
 | _, [] => []
 | i, s :: r => runH 0 (stC p i s) ++ hAll p (i + 1) r
theorem stC_okI {p : TProgram} (hp : p.fStatements.length ≤ 80) {i : Nat} (hi : i < p.fStatements.length) {s : TStatement} (hf : sForm s = true) : ∀ x ∈ stC p i s, okI x := by
 obtain ⟨_, _, v1, e1⟩ := jmpA_ok hp true (at_ := (i : Int)) (by omega) (by omega)
 obtain ⟨_, _, v2, e2⟩ := jmpA_ok hp false (at_ := (i : Int)) (by omega) (by omega)
 intro x hx
 simp only [stC, List.mem_cons, List.mem_append, List.mem_nil_iff, or_false] at hx
 rcases hx with rfl | hx | rfl | rfl
 ·simp [okI]
 ·exact (body_net hf).2 x hx
 ·rw [e1]; exact jmp_ok _
 ·rw [e2]; exact jmp_ok _
theorem allC_cons (p : TProgram) (i : Nat) (s : TStatement) (r : List TStatement) : allC p i (s :: r) = stC p i s ++ allC p (i + 1) r := rfl
theorem hAll_len {p : TProgram} : ∀ (l : List TStatement) (i : Nat), (hAll p i l).length = (allC p i l).length
 | [], _ => rfl
 | s :: r, i => by simp only [hAll, allC, List.length_append, runH_len, hAll_len r]
theorem s_outer {p : TProgram} (hp : p.fStatements.length ≤ 80) : ∀ (l : List TStatement) (i : Nat) (A : List TInstr) (Ea Fa pre : List Int), (∀ s ∈ l, sForm s = true) → A.length = pre.length → Ea.length = i → Fa.length = i → pre.length + 1003 * l.length ≤ 500000 → i + l.length ≤ p.fStatements.length →
  s_l24Heights_L3 (i : Int) (A ++ allC p i l) (Ea ++ entE p i pre.length l) (Fa ++ failF p i pre.length l) (pre ++ List.replicate (allC p i l).length 0) = some ((pre ++ hAll p i l, ()), ())
 | [], i, A, Ea, Fa, pre, _, hA, hE, hF, _, _ => by
  rw [s_l24Heights_L3_eq, if_neg (by simp [len_eq, entE, hE])]
  simp [allC, hAll]
 | s :: l, i, A, Ea, Fa, pre, hf, hA, hE, hF, hb, hi => by
  simp only [List.length_cons] at hb hi
  have hfs := hf s (by simp)
  have hlen := stC_len (p := p) (i := (i : Int)) hfs
  have hpos := stC_pos p i s
  have hne : stC p i s ≠ [] := by intro e; rw [e] at hpos; simp at hpos
  have gE : (Ea ++ entE p i pre.length (s :: l))[i]? = some (pre.length : Int) := by
   rw [List.getElem?_append_right (by omega), hE, Nat.sub_self]; rfl
  have gF : (Fa ++ failF p i pre.length (s :: l))[i]? = some (((pre.length + (stC p i s).length : Nat) : Int) - 1) := by
   rw [List.getElem?_append_right (by omega), hF, Nat.sub_self]; rfl
  rw [s_l24Heights_L3_eq, if_pos (by simp [len_eq, entE, hE]; omega), idx_nat, gE]
  simp only [Option.bind_some]
  have er : pre ++ List.replicate (allC p i (s :: l)).length (0 : Int) = pre ++ List.replicate (stC p i s).length 0 ++ List.replicate (allC p (i + 1) l).length 0 := by
   rw [allC_cons, List.length_append, ← List.replicate_append_replicate, List.append_assoc]
  rw [er, s_inner (stC p i s) pre _ 0 hne (fun t ht => by
   rw [List.getElem?_append_right (by omega), hA, Nat.add_sub_cancel_left, allC_cons, List.getElem?_append_left ht]) (stC_okI hp (by omega) hfs) gF (by omega) (by omega) (by omega)]
  have wi : w64 ((i : Int) + 1) = ((i + 1 : Nat) : Int) := by rw [w64_of (by omega) (by omega)]; omega
  have ih := s_outer hp l (i + 1) (A ++ stC p i s) (Ea ++ [(pre.length : Int)]) (Fa ++ [((pre.length + (stC p i s).length : Nat) : Int) - 1]) (pre ++ runH 0 (stC p i s)) (fun z hz => hf z (by simp [hz])) (by simp [hA, runH_len]) (by simp [hE]) (by simp [hF]) (by rw [List.length_append, runH_len]; omega) (by omega)
  rw [wi]
  rw [List.length_append, runH_len] at ih
  simp only [allC_cons, entE, failF, hAll]
  rw [show A ++ (stC p i s ++ allC p (i + 1) l) = A ++ stC p i s ++ allC p (i + 1) l by simp, show ∀ (a : Int) (q : List Int), Ea ++ a :: q = Ea ++ [a] ++ q from fun a q => by simp, show ∀ (a : Int) (q : List Int), Fa ++ a :: q = Fa ++ [a] ++ q from fun a q => by simp, ih]
  simp
theorem run_stC {p : TProgram} {i : Nat} {s : TStatement} (hf : sForm s = true) : ∃ x r, stC p i s = x :: r ∧ r ≠ [] ∧ (0 : Int) :: runI (0 + net x) r = runH 0 (stC p i s) := by
 refine ⟨⟨1, i, []⟩, sBody s ++ [jmpA p i true, jmpA p i false], rfl, by simp, ?_⟩
 have h0 : net ⟨1, (i : Int), []⟩ = 0 := by simp [net, eff]
 rw [h0, runI_eq _ _ _ _ (by rw [(body_net hf).1]; rfl)]
 unfold stC
 cases hb : sBody s ++ [jmpA p i true, jmpA p i false] with
 | nil => simp at hb
 | cons y r => simp only [runH, h0]
theorem i_outer {p : TProgram} (hp : p.fStatements.length ≤ 80) : ∀ (l : List TStatement) (i : Nat) (A : List TInstr) (Ea Fa pre : List Int), (∀ s ∈ l, sForm s = true) → A.length = pre.length → Ea.length = i → Fa.length = i → pre.length + 1003 * l.length ≤ 500000 → i + l.length ≤ p.fStatements.length →
  i_Code_heights_L3 (Fa ++ failF p i pre.length l) (((i + l.length : Nat)) : Int) (i : Int) (A ++ allC p i l) (Ea ++ entE p i pre.length l) (Fa ++ failF p i pre.length l) (pre ++ List.replicate (allC p i l).length 0) = some ((pre ++ hAll p i l, ()), ())
 | [], i, A, Ea, Fa, pre, _, hA, hE, hF, _, _ => by
  rw [i_Code_heights_L3_eq, if_neg (by simp)]
  simp [allC, hAll]
 | s :: l, i, A, Ea, Fa, pre, hf, hA, hE, hF, hb, hi => by
  simp only [List.length_cons] at hb hi
  have hfs := hf s (by simp)
  have hlen := stC_len (p := p) (i := (i : Int)) hfs
  have hpos := stC_pos p i s
  obtain ⟨x, r, hst, hr, hrun⟩ := run_stC (p := p) (i := i) hfs
  have hsl : (stC p i s).length = r.length + 1 := by rw [hst]; rfl
  have gE : (Ea ++ entE p i pre.length (s :: l))[i]? = some (pre.length : Int) := by
   rw [List.getElem?_append_right (by omega), hE, Nat.sub_self]; rfl
  have gF : (Fa ++ failF p i pre.length (s :: l))[i]? = some (((pre.length + (stC p i s).length : Nat) : Int) - 1) := by
   rw [List.getElem?_append_right (by omega), hF, Nat.sub_self]; rfl
  rw [i_Code_heights_L3_eq, if_pos (by simp; omega), idx_nat, idx_nat, gE, gF]
  simp only [Option.bind_some]
  have er : pre ++ List.replicate (allC p i (s :: l)).length (0 : Int) = pre ++ 0 :: (List.replicate r.length 0 ++ List.replicate (allC p (i + 1) l).length 0) := by
   rw [allC_cons, List.length_append, hsl, ← List.replicate_append_replicate, List.replicate_succ]; simp
  have we : w64 ((pre.length : Int) + 1) = ((pre.length + 1 : Nat) : Int) := by rw [w64_of (by omega) (by omega)]; omega
  have hcell : ∀ t, t < r.length + 1 → (A ++ allC p i (s :: l))[pre.length + t]? = (x :: r)[t]? := fun t ht => by
   rw [List.getElem?_append_right (by omega), hA, Nat.add_sub_cancel_left, allC_cons, List.getElem?_append_left (by omega), hst]
  have hok := stC_okI (i := i) hp (by omega) hfs
  rw [hst] at hok
  rw [er, we, i_inner r x pre _ 0 _ hr (by have := hcell 0 (by omega); simpa using this) (fun t ht => by
   have := hcell (t + 1) (by omega)
   simp only [List.getElem?_cons_succ] at this
   rw [← this]; congr 1; omega) hok (by rw [hsl]; omega) (by omega) (by omega) (by omega)]
  have wi : w64 ((i : Int) + 1) = ((i + 1 : Nat) : Int) := by rw [w64_of (by omega) (by omega)]; omega
  have ih := i_outer hp l (i + 1) (A ++ stC p i s) (Ea ++ [(pre.length : Int)]) (Fa ++ [((pre.length + (stC p i s).length : Nat) : Int) - 1]) (pre ++ runH 0 (stC p i s)) (fun z hz => hf z (by simp [hz])) (by simp [hA, runH_len]) (by simp [hE]) (by simp [hF]) (by rw [List.length_append, runH_len]; omega) (by omega)
  rw [wi, show pre ++ (0 : Int) :: (runI (0 + net x) r ++ List.replicate (allC p (i + 1) l).length 0) = pre ++ ((0 : Int) :: runI (0 + net x) r) ++ List.replicate (allC p (i + 1) l).length 0 by simp, hrun]
  rw [List.length_append, runH_len] at ih
  simp only [allC_cons, entE, failF, hAll]
  rw [show A ++ (stC p i s ++ allC p (i + 1) l) = A ++ stC p i s ++ allC p (i + 1) l by simp, show ∀ (a : Int) (q : List Int), Ea ++ a :: q = Ea ++ [a] ++ q from fun a q => by simp, show ∀ (a : Int) (q : List Int), Fa ++ a :: q = Fa ++ [a] ++ q from fun a q => by simp, show i + (s :: l).length = i + 1 + l.length by simp; omega, ih]
  simp
noncomputable def pHs (p : TProgram) : List Int := if pValid p = true then hAll p 0 p.fStatements else []
theorem s_HeightsOf_ok {p : TProgram} (hm : p.m ≤ 1048576) : s_HeightsOf p = some (pHs p) := by
 rw [s_HeightsOf_eq]
 try simp only [TProgram.re_eq]
 rw [s_ValidProgram_ok hm]
 unfold pHs
 by_cases h : pValid p = true
 ·obtain ⟨hp, hf⟩ := pValid_parts h
  have hl := allC_len (p := p) p.fStatements 0 hf
  have := s_outer hp p.fStatements 0 [] [] [] [] hf rfl rfl rfl (by simp; omega) (by omega)
  simp only [List.nil_append, List.length_nil] at this
  simp only [h, Bool.not_true, Bool.false_eq_true, if_false, if_true, Option.bind_some, s_code_ok hp hf, s_l24Heights_eq]
  rw [mk_len _ _ (by omega)]
  simp only [Option.bind_some]
  rw [show s_l24Heights_L3 0 (allC p 0 p.fStatements) (entE p 0 0 p.fStatements) (failF p 0 0 p.fStatements) (List.replicate (allC p 0 p.fStatements).length 0) = _ from this]
  rfl
 ·simp [h]
theorem i_HeightsOf_ok {p : TProgram} (hm : p.m ≤ 1048576) : i_HeightsOf p = some ((pHs p, ()), ()) := by
 rw [i_HeightsOf_eq]
 try simp only [TProgram.re_eq]
 rw [i_ValidProgram_ok hm]
 unfold pHs
 by_cases h : pValid p = true
 ·obtain ⟨hp, hf⟩ := pValid_parts h
  have hl := allC_len (p := p) p.fStatements 0 hf
  have := i_outer hp p.fStatements 0 [] [] [] [] hf rfl rfl rfl (by simp; omega) (by omega)
  simp only [List.nil_append, List.length_nil, Nat.zero_add] at this
  simp only [h, Bool.not_true, Bool.false_eq_true, if_false, if_true, Option.bind_some, i_code_ok hp hf, i_Code_heights_eq]
  rw [mk_len _ _ (by omega)]
  simp only [Option.bind_some]
  rw [show len (failF p 0 0 p.fStatements) = (p.fStatements.length : Int) by rw [len_eq, failF_len], show i_Code_heights_L3 (failF p 0 0 p.fStatements) (p.fStatements.length : Int) 0 (allC p 0 p.fStatements) (entE p 0 0 p.fStatements) (failF p 0 0 p.fStatements) (List.replicate (allC p 0 p.fStatements).length 0) = _ from this]
  rfl
 ·simp [h]
theorem pHs_len (p : TProgram) : (pHs p).length ≤ 80240 := by
 unfold pHs
 split
 ·rename_i h
  obtain ⟨hp, hf⟩ := pValid_parts h
  have hl := allC_len (p := p) p.fStatements 0 hf
  rw [hAll_len]; omega
 ·simp
theorem l_FnExactHeightsOf_ok {x : TProgram} (hok : x.Ok) : l_FnExactHeightsOf x = some true := by
 rw [l_FnExactHeightsOf_eq]
 simp only [szProgram_ok x hok 1048576 (by decide) (by decide), Option.bind_some]
 by_cases c : minus 1048576 x.m < 0
 ·simp [c]
 ·have hm : x.m ≤ 1048576 := by have := minus_le c; omega
  have hq := x.m_eq
  have es := s_HeightsOf_ok hm
  have ei := i_HeightsOf_ok hm
  have hl := pHs_len x
  generalize pHs x = w at es ei hl
  have eta : TProgram.mk x.fStatements = x := rfl
  obtain ⟨k', a, ek, hk, _⟩ := markProgram_ok x (k := 1) (by omega) (by omega)
  have hk0 : decide (k' < 0) = false := by simp; omega
  have hn : decide ((1 : Int) + ((1 * w.length : Nat) : Int) < 0) = false := by simp; omega
  simp only [c, decide_false, Bool.false_eq_true, if_false, ownProgram_ok x hm, eta, es, ei, Option.bind_some, eqInt64S_of (xs := w) (by omega), eqProgram_ok x hm, Bool.not_true, ek, hk0, intMarks_ok (xs := w) (k := 1) (by omega) (by omega), intHeld_ok (n := w.length) (k := 1) (by omega) (by omega), hn, bne_self_eq_false]
end Go.Dv.U
