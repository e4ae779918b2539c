/- Plain laws about these equations. -/
import Derived.Test.YthifliapgmalpaaFnExactNamesInEqa
set_option linter.all false
set_option linter.unusedVariables false
set_option linter.unusedSimpArgs false
namespace Go.Dv.U

open Go Go.Dv Go.Proofs

theorem TExpr.ind {P : TExpr → Prop} (h : ∀ x, (∀ y ∈ x.fKids, P y) → P x) : ∀ x, P x := by
  intro x
  exact TExpr.rec (motive_1 := P) (motive_2 := fun l => ∀ y ∈ l, P y) (fun a0 a1 a2 a3 ih => h ⟨a0, a1, a2, a3⟩ ih) (fun y hy => by cases hy)
    (fun a l ha hl y hy => by
      cases hy with
      | head => exact ha
      | tail _ hy => exact hl y hy) x

inductive TExpr.Ok : TExpr → Prop
  | mk (x : TExpr) (h0 : (-9223372036854775808 ≤ x.fKind ∧ x.fKind ≤ 9223372036854775807) ∧ (-9223372036854775808 ≤ x.fNum ∧ x.fNum ≤ 9223372036854775807) ∧ x.fText.length ≤ 9223372036854775807 ∧ x.fKids.length ≤ 9223372036854775807) (h1 : ∀ y ∈ x.fKids, TExpr.Ok y) : TExpr.Ok x

theorem TExpr.Ok.P_fText {x : TExpr} (h : x.Ok) : x.fText.length ≤ 9223372036854775807 := by cases h with | mk _ h0 h1 => exact h0.2.2.1

theorem TExpr.Ok.P_fKids_len {x : TExpr} (h : x.Ok) : x.fKids.length ≤ 9223372036854775807 := by cases h with | mk _ h0 h1 => exact h0.2.2.2

theorem TExpr.Ok.P_fKids {x : TExpr} (h : x.Ok) : ∀ y ∈ x.fKids, y.Ok := by cases h with | mk _ h0 h1 => exact h1

theorem TExpr.ok_cells : ∀ x : TExpr, (∀ c ∈ GG.cells 23 x, ∀ k, WfV GG k c) → x.Ok := by
  intro x
  induction x using TExpr.ind with
  | h x ih =>
    intro h
    have h : ∀ c ∈ ([.int .i64 x.fKind, .int .i64 x.fNum, .str x.fText, .sl (.st 23) x.fKids] : List (V GG.S)), ∀ k, WfV GG k c := h
    exact .mk x ⟨wfv_int (h (.int .i64 x.fKind) (by simp) 1), wfv_int (h (.int .i64 x.fNum) (by simp) 1), wfv_str (h (.str x.fText) (by simp) 1), (wfv_sl (h (.sl (.st 23) x.fKids) (by simp))).1⟩ fun y hy => ih y hy ((wfv_sl (h (.sl (.st 23) x.fKids) (by simp))).2 y hy)

theorem TExpr.ok_of {x : TExpr} (h : ∀ k, WfV GG k (inj GG (.st 23) x)) : x.Ok := TExpr.ok_cells x (wfv_st h)

mutual
def TExpr.m : TExpr → Nat
  | ⟨_, _, a2, a3⟩ => a2.length + (a3.length + TExpr.ms a3)
def TExpr.ms : List TExpr → Nat
  | [] => 0
  | y :: r => TExpr.m y + TExpr.ms r
end

theorem TExpr.ms_eq : ∀ l, TExpr.ms l = sumOf TExpr.m l
  | [] => rfl
  | y :: r => by simp only [TExpr.ms, sumOf, TExpr.ms_eq r]

theorem TExpr.m_eq (x : TExpr) : x.m = x.fText.length + (x.fKids.length + sumOf TExpr.m x.fKids) := by
  rw [← TExpr.ms_eq]; cases x; rfl

theorem TExpr.m_kid {x y : TExpr} (h : y ∈ x.fKids) : y.m + x.fKids.length ≤ x.m := by
  have := sumOf_mem (m := TExpr.m) h
  rw [TExpr.m_eq x]; omega

theorem szExprS_of {xs : (List TExpr)} (hx : xs.length ≤ 9223372036854775807)
    (hF : ∀ y ∈ xs, ∀ b : Int, 0 ≤ b → b < 4611686018427387904 → l_szExpr y b = some (minus b (TExpr.m y))) {b : Int} (h0 : 0 ≤ b) (h1 : b < 4611686018427387904) :
    l_szExprS xs b = some (minus b (xs.length + sumOf TExpr.m xs)) := by
  rw [l_szExprS_eq]
  obtain ⟨e1, e2⟩ := minus_len (l := xs) h0 h1 hx
  by_cases c : minus b xs.length < 0
  · simp only [e1.2 c, decide_true, if_true, minus_neg c]
  · rw [if_neg (by simpa using fun h => c (e1.1 h)), e2 c, sz_loop hx (J := l_szExprS_L5) (F := l_szExpr) (m := TExpr.m) (fun b i => by rw [l_szExprS_L5_eq]; try simp only [TExpr.re_eq]) hF _ (minus_nonneg c) (minus_lt (by omega) h1), minus_minus c]

theorem eqExprS_of {xs : (List TExpr)} (hx : xs.length ≤ 9223372036854775807) (hF : ∀ y ∈ xs, l_eqExpr y y = some true) : l_eqExprS xs xs = some true := by
  rw [l_eqExprS_eq]
  simp only [bne_self_eq_false, Bool.false_eq_true, if_false]
  exact eq_loop (by omega) (J := l_eqExprS_L4) (F := l_eqExpr) (fun i => by rw [l_eqExprS_L4_eq]; try simp only [TExpr.re_eq]) hF

theorem szExpr_ok : ∀ x : TExpr, x.Ok → ∀ b : Int, 0 ≤ b → b < 4611686018427387904 → l_szExpr x b = some (minus b x.m) := by
  intro x
  induction x using TExpr.ind with
  | h x ih =>
    intro hok b h0 h1
    rw [l_szExpr_eq]
    try simp only [TExpr.re_eq]
    -- fText
    obtain ⟨e1, e2⟩ := minus_len (b := b) (l := x.fText) h0 h1 hok.P_fText
    by_cases c0 : minus b (x.fText.length) < 0
    · simp only [e1.2 c0, decide_true, if_true]
      rw [minus_neg_le c0 (by rw [TExpr.m_eq]; omega)]
    have e3 := mt e1.1 c0
    simp only [e3, e2 c0, c0, decide_false, Bool.false_eq_true, if_false]
    -- fKids
    rw [szExprS_of hok.P_fKids_len (fun y hy b h0 h1 => ih y hy (hok.P_fKids y hy) b h0 h1) (minus_nonneg c0) (minus_lt (by omega) h1)]
    simp only [Option.bind_some]
    simp only [minus_minus c0]
    by_cases c1 : minus b (x.fText.length + (x.fKids.length + sumOf TExpr.m x.fKids)) < 0
    · simp only [c1, decide_true, if_true]
      rw [minus_neg_le c1 (by rw [TExpr.m_eq]; omega)]
    simp only [c1, decide_false, Bool.false_eq_true, if_false]
    try rw [TExpr.m_eq]

theorem eqExpr_ok : ∀ x : TExpr, x.m ≤ 1048576 → l_eqExpr x x = some true := by
  intro x
  induction x using TExpr.ind with
  | h x ih =>
    intro hm
    have hq := x.m_eq
    rw [l_eqExpr_eq]
    try simp only [TExpr.re_eq]
    rw [eqExprS_of (xs := x.fKids) (by omega) fun y hy => ih y hy (by have := TExpr.m_kid hy; omega)]
    simp

end Go.Dv.U

namespace Go.Dv.U

open Go Go.Dv Go.Proofs

theorem mk_rem_ten (u : Nat) : rem (u : Int) 10 = some ((u % 10 : Nat) : Int) := by
  unfold rem
  rw [if_neg (by decide)]
  congr 1

theorem mk_quo_ten {u : Nat} (h : u < 9223372036854775808) : quo .i64 (u : Int) 10 = some ((u / 10 : Nat) : Int) := by
  unfold quo
  rw [if_neg (by decide)]
  congr 1
  rw [show ((u : Int).tdiv 10) = ((u / 10 : Nat) : Int) from rfl, IntKind.wrap_i64]
  omega

theorem l_markText_L4_ok : ∀ (f n : Nat) (a : List UInt8), n < 9223372036854775808 → n < 10 ^ f → a.length + f ≤ 100 → ∃ t, l_markText_L4 (n : Int) a = some t
  | 0, n, a, _, h, ha => by
    have : n = 0 := by simpa using h
    subst this
    rw [l_markText_L4_eq]
    refine ⟨[109] ++ a, ?_⟩
    have := app_of (xs := ([109] : List UInt8)) (ys := a) (by simp; omega)
    simp [this]
  | f + 1, n, a, h0, h, ha => by
    rw [l_markText_L4_eq]
    by_cases hn : n = 0
    · subst hn
      refine ⟨[109] ++ a, ?_⟩
      have := app_of (xs := ([109] : List UInt8)) (ys := a) (by simp; omega)
      simp [this]
    · have hc : decide ((n : Int) > 0) = true := by simp; omega
      rw [if_pos hc, mk_rem_ten]
      simp only [Option.bind_some, mk_quo_ten h0]
      rw [app_of (by simp; omega)]
      simp only [Option.bind_some]
      exact l_markText_L4_ok f (n / 10) _ (by omega) (by rw [Nat.pow_succ] at h; omega) (by simp; omega)

noncomputable def mkT (k : Int) : List UInt8 := (l_markText k).getD []

theorem l_markText_ok {k : Int} (h0 : 0 ≤ k) (h : k < 9223372036854775808) : l_markText k = some (mkT k) := by
  have : ∃ t, l_markText k = some t := by
    rw [l_markText_eq]
    by_cases c : k ≤ 0
    · exact ⟨_, by rw [if_pos (by simpa using c)]⟩
    · rw [if_neg (by simpa using c)]
      have := l_markText_L4_ok 19 k.toNat [] (by omega) (by simp; omega) (by simp)
      rwa [show ((k.toNat : Nat) : Int) = k by omega] at this
  obtain ⟨t, e⟩ := this
  rw [mkT, e]; rfl

noncomputable def marksS : Int → Nat → List (List UInt8)
  | _, 0 => []
  | k, n + 1 => mkT k :: marksS (k + 1) n

theorem marksS_len : ∀ (n : Nat) (k : Int), (marksS k n).length = n
  | 0, _ => rfl
  | n + 1, k => by simp [marksS, marksS_len n]

theorem l_markStringS_L2_ok : ∀ (n i : Nat) (k : Int) (xs : List (List UInt8)), i + n = xs.length → 0 ≤ k → k + n < 9223372036854775808 → xs.length < 9223372036854775807 →
    l_markStringS_L2 k (i : Int) xs = some (k + n, xs.take i ++ marksS k n, ())
  | 0, i, k, xs, hi, h0, h1, h2 => by
    rw [l_markStringS_L2_eq]
    have : i = xs.length := by omega
    subst this
    simp [len_eq, marksS]
  | n + 1, i, k, xs, hi, h0, h1, h2 => by
    rw [l_markStringS_L2_eq]
    have hc : decide ((i : Int) < len xs) = true := by simp [len_eq]; omega
    have hlt : i < xs.length := by omega
    rw [if_pos hc, l_markText_ok h0 (by omega)]
    simp only [Option.bind_some, idx_nat, Int.toNat_natCast, List.getElem?_eq_getElem hlt, upd_eq]
    rw [w64_of (by omega) (by omega), w64_of (by omega) (by omega)]
    have ih := l_markStringS_L2_ok n (i + 1) (k + 1) (xs.set i (mkT k)) (by simp; omega) (by omega) (by omega) (by simpa using h2)
    rw [show ((i : Int) + 1) = ((i + 1 : Nat) : Int) by omega, ih]
    congr 1
    rw [show k + 1 + (n : Int) = k + ((n + 1 : Nat) : Int) by omega]
    congr 2
    simp only [marksS]
    rw [List.take_set, List.take_succ_eq_append_getElem hlt, List.set_append_right _ _ (by simp; omega)]
    simp [Nat.min_eq_left (by omega : i ≤ xs.length)]

theorem l_markStringS_ok {xs : List (List UInt8)} {k : Int} (h0 : 0 ≤ k) (h1 : k + xs.length < 9223372036854775807) : l_markStringS k xs = some (k + xs.length, marksS k xs.length, ()) := by
  have := l_markStringS_L2_ok xs.length 0 k xs (by omega) h0 (by omega) (by omega)
  rw [l_markStringS_eq]
  simpa using this

theorem l_heldStringS_ok {n : Nat} {k : Int} (h0 : 0 ≤ k) (h1 : k + n < 9223372036854775807) : l_heldStringS (marksS k n) k = some (k + n) := by
  rw [l_heldStringS_eq]
  have key := loop_ind (xs := marksS k n) (by rw [marksS_len]; omega) (P := fun i l => ∀ k' : Int, 0 ≤ k' → k' + l.length < 9223372036854775807 → l = marksS k' l.length → l_heldStringS_L2 (marksS k n) k' (i : Int) = some (k' + l.length)) (by
    intro k' _ _ _
    rw [l_heldStringS_L2_eq]
    simp [len_eq]) (by
    intro i y l _ hlt hy hi hw ih k' g0 g1 e
    simp only [List.length_cons, marksS, List.cons.injEq] at e g1
    rw [l_heldStringS_L2_eq]
    have hc : decide ((i : Int) < len (marksS k n)) = true := by simp [len_eq, hlt]
    rw [if_pos hc, hi, l_markText_ok g0 (by omega), ← e.1]
    simp only [Option.bind_some, beq_self_eq_true, Bool.not_true, Bool.false_eq_true, if_false, hw]
    rw [w64_of (by omega) (by omega), ih (k' + 1) (by omega) (by omega) e.2]
    congr 1
    simp only [List.length_cons]; omega) k h0 (by rw [marksS_len]; omega) (by rw [marksS_len])
  rw [marksS_len] at key
  exact key

theorem strSelf_ok {xs : List (List UInt8)} (hx : xs.length ≤ 9223372036854775807) : l_eqStringS xs xs = some true := by
  rw [l_eqStringS_eq]
  simp only [bne_self_eq_false, Bool.false_eq_true, if_false]
  exact eq_loop0 (by omega) (J := l_eqStringS_L4) (fun i => by rw [l_eqStringS_L4_eq]) (fun y => by simp)

end Go.Dv.U

namespace Go.Dv

open Go

theorem toE_loop {α β γ : Type} {xs : List α} (hx : xs.length ≤ 9223372036854775807) {F : α → Option β} {G : β → α} {E : List α → Option γ} {J : List α → Int → List α → Option γ}
    (hJ : ∀ i zs, J xs i zs = if decide (i < len xs) = true then (idx xs i).bind fun y => (F y).bind fun r => (idx zs i).bind fun _ => (zs[i.toNat]?).bind fun _ => J xs (w64 (i + 1)) (upd zs i.toNat (G r)) else E zs)
    (hF : ∀ y ∈ xs, ∃ r, F y = some r ∧ G r = y) : ∀ zs, zs.length = xs.length → J xs 0 zs = E xs := by
  have key : ∀ zs, zs.length = xs.length → (∀ j : Nat, j < 0 → zs[j]? = xs[j]?) → J xs ((0 : Nat) : Int) zs = E xs := by
    refine loop_ind hx (P := fun i l => ∀ zs, zs.length = xs.length → (∀ j, j < i → zs[j]? = xs[j]?) → J xs i zs = E xs) ?_ ?_
    · intro zs hl hz
      rw [hJ]
      simp only [len_eq, Int.lt_irrefl, decide_false, Bool.false_eq_true, if_false]
      congr 1
      apply List.ext_getElem?
      intro j
      by_cases hj : j < xs.length
      · exact hz j hj
      · rw [List.getElem?_eq_none (by omega), List.getElem?_eq_none (by omega)]
    · intro i y l _ hlt hy hi hw ih zs hl hz
      rw [hJ, hi, hw]
      have hc : decide ((i : Int) < len xs) = true := by simp [len_eq, hlt]
      rw [if_pos hc]
      have hzi : zs[i]? = some zs[i] := List.getElem?_eq_getElem (by omega)
      have hxi : xs[i]? = some y := by rw [← idx_nat]; exact hi
      obtain ⟨r, e1, e2⟩ := hF y hy
      simp only [Option.bind_some, e1, idx_nat, Int.toNat_natCast, hzi, upd_eq]
      refine ih _ (by simp [hl]) fun j hj => ?_
      by_cases hji : j = i
      · subst hji; rw [List.getElem?_set_self (by omega), hxi, e2]
      · rw [List.getElem?_set_ne (by omega)]; exact hz j (by omega)
  intro zs hl
  exact key zs hl fun j hj => absurd hj (Nat.not_lt_zero j)

/-- a loop that marks every cell ends, and the number grows by what the cells take at most -/
theorem mark_loop {α : Type} {B : Int} {m : α → Nat} {Q : α → Prop} {J : Int → Int → List α → Option (Int × List α × Unit)}
    (he : ∀ k (xs : List α), J k (xs.length : Int) xs = some (k, xs, ()))
    (hs : ∀ (k : Int) (i : Nat) (xs : List α) (h : i < xs.length), Q xs[i] → 0 ≤ k → k + m xs[i] < B → xs.length < 4611686018427387904 → ∃ k' y', J k (i : Int) xs = J k' ((i + 1 : Nat) : Int) (xs.set i y') ∧ k ≤ k' ∧ k' ≤ k + m xs[i]) :
    ∀ (xs : List α) (k : Int), (∀ y ∈ xs, Q y) → 0 ≤ k → k + sumOf m xs < B → xs.length < 4611686018427387904 → ∃ k' xs', J k 0 xs = some (k', xs', ()) ∧ k ≤ k' ∧ k' ≤ k + sumOf m xs ∧ xs'.length = xs.length := by
  have key : ∀ (n i : Nat) (xs : List α) (k : Int), i + n = xs.length → (∀ y ∈ xs.drop i, Q y) → 0 ≤ k → k + sumOf m (xs.drop i) < B → xs.length < 4611686018427387904 →
      ∃ k' xs', J k (i : Int) xs = some (k', xs', ()) ∧ k ≤ k' ∧ k' ≤ k + sumOf m (xs.drop i) ∧ xs'.length = xs.length := by
    intro n
    induction n with
    | zero =>
      intro i xs k hi hq h0 h1 h2
      have : i = xs.length := by omega
      subst this
      exact ⟨k, xs, he k xs, by omega, by omega, rfl⟩
    | succ n ih =>
      intro i xs k hi hq h0 h1 h2
      have hlt : i < xs.length := by omega
      rw [List.drop_eq_getElem_cons hlt] at h1 hq ⊢
      simp only [sumOf] at h1 ⊢
      obtain ⟨k1, y1, e1, g1, g2⟩ := hs k i xs hlt (hq _ List.mem_cons_self) h0 (by omega) h2
      have ed : (xs.set i y1).drop (i + 1) = xs.drop (i + 1) := List.drop_set_of_lt (by omega)
      obtain ⟨k2, xs2, e2, g3, g4, g5⟩ := ih (i + 1) (xs.set i y1) k1 (by simp; omega) (by rw [ed]; exact fun y hy => hq y (List.mem_cons_of_mem _ hy)) (by omega) (by rw [ed]; omega) (by simpa using h2)
      rw [ed] at g4
      exact ⟨k2, xs2, e1.trans e2, by omega, by omega, by rw [g5]; simp⟩
  intro xs k hq h0 h1 h2
  have := key xs.length 0 xs k (by omega) (by simpa using hq) h0 (by simpa using h1) h2
  simpa using this

end Go.Dv

namespace Go.Dv

open Go

theorem sorted_ext : ∀ {a b : List (List UInt8)}, a.Pairwise (fun x y => x < y) → b.Pairwise (fun x y => x < y) → (∀ x, x ∈ a ↔ x ∈ b) → a = b
  | [], b, _, _, h => by
    cases b with
    | nil => rfl
    | cons y r => exact absurd ((h y).2 (by simp)) (by simp)
  | x :: a, b, ha, hb, h => by
    cases b with
    | nil => exact absurd ((h x).1 (by simp)) (by simp)
    | cons y r =>
      rw [List.pairwise_cons] at ha hb
      have hxy : x = y := by
        rcases List.mem_cons.1 ((h x).1 (by simp)) with e | e
        · exact e
        · rcases List.mem_cons.1 ((h y).2 (by simp)) with f | f
          · exact f.symm
          · exact absurd (List.lt_trans (hb.1 x e) (ha.1 y f)) (List.lt_irrefl _)
      subst hxy
      congr 1
      refine sorted_ext ha.2 hb.2 fun z => ⟨fun hz => ?_, fun hz => ?_⟩
      · rcases List.mem_cons.1 ((h z).1 (by simp [hz])) with e | e
        · subst e; exact absurd (ha.1 z hz) (List.lt_irrefl _)
        · exact e
      · rcases List.mem_cons.1 ((h z).2 (by simp [hz])) with e | e
        · subst e; exact absurd (hb.1 z hz) (List.lt_irrefl _)
        · exact e

theorem compact_sorted {zs : List (List UInt8)} (hs : zs.Pairwise (fun a b => a ≤ b)) : (Lib.compact zs).Pairwise (fun x y => x < y) ∧ ∀ x, x ∈ Lib.compact zs ↔ x ∈ zs := by
  rw [List.pairwise_iff_getElem] at hs
  have key : ∀ m, m ≤ zs.length → (Lib.compactUpTo zs.toArray m).Pairwise (fun x y => x < y) ∧ ∀ x, x ∈ Lib.compactUpTo zs.toArray m ↔ x ∈ zs.take m := by
    intro m
    induction m with
    | zero => intro _; simp [Lib.compactUpTo]
    | succ m ih =>
      intro hm
      obtain ⟨i1, i2⟩ := ih (by omega)
      have hlt : m < zs.length := by omega
      have e1 : zs.toArray[m]! = zs[m] := by simp [getElem!_pos, hlt]
      rw [Lib.compactUpTo_succ, e1, List.take_succ_eq_append_getElem hlt]
      by_cases hk : Lib.keeps zs.toArray m = true
      · rw [if_pos hk]
        simp only [Lib.keeps, decide_eq_true_eq] at hk
        refine ⟨?_, fun x => by rw [List.mem_append, List.mem_append, i2 x]⟩
        rw [List.pairwise_append]
        refine ⟨i1, by simp, fun a ha b hb => ?_⟩
        have hb : b = zs[m] := by simpa using hb
        subst hb
        have ha := (i2 a).1 ha
        obtain ⟨j, hj, rfl⟩ := List.getElem_of_mem ha
        have hj' : j < m := by simp at hj; omega
        rw [List.getElem_take]
        have h0 : ¬ m = 0 := by omega
        have e2 : zs.toArray[m - 1]! = zs[m - 1] := by simp [getElem!_pos, show m - 1 < zs.length by omega]
        have hne : ¬ zs[m] = zs[m - 1] := by
          rcases hk with h | h
          · exact absurd h h0
          · rw [e1, e2] at h; exact h
        have h1 : zs[j] ≤ zs[m - 1] := by
          by_cases e : j = m - 1
          · subst e; exact List.le_refl _
          · exact hs j (m - 1) (by omega) (by omega) (by omega)
        have h2 : zs[m - 1] ≤ zs[m] := hs (m - 1) m (by omega) (by omega) (by omega)
        rw [← List.not_le]
        intro h3
        exact hne (List.le_antisymm (List.le_trans h3 h1) h2)
      · rw [if_neg hk]
        simp only [Lib.keeps, decide_eq_true_eq, not_or, Classical.not_not] at hk
        have e2 : zs.toArray[m - 1]! = zs[m - 1] := by simp [getElem!_pos, show m - 1 < zs.length by omega]
        rw [e1, e2] at hk
        refine ⟨by simpa using i1, fun x => ?_⟩
        simp only [List.append_nil, i2 x, List.mem_append, List.mem_singleton]
        constructor
        · exact .inl
        · rintro (h | h)
          · exact h
          · rw [h, hk.2]
            exact List.mem_take_iff_getElem.2 ⟨m - 1, by omega, rfl⟩
  have := key zs.length (Nat.le_refl _)
  rw [List.take_length] at this
  exact this

theorem sort_sorted (xs : List (List UInt8)) : (Lib.compact (xs.mergeSort fun x y => decide (x ≤ y))).Pairwise (fun x y => x < y) ∧ ∀ x, x ∈ Lib.compact (xs.mergeSort fun x y => decide (x ≤ y)) ↔ x ∈ xs := by
  have hs : List.Pairwise (fun a b => (decide (a ≤ b)) = true) (xs.mergeSort fun x y => decide (x ≤ y)) :=
    List.pairwise_mergeSort (fun a b c h k => by simp only [decide_eq_true_eq] at *; exact List.le_trans h k) (fun a b => by simp only [Bool.or_eq_true, decide_eq_true_eq]; exact List.le_total a b) xs
  simp only [decide_eq_true_eq] at hs
  obtain ⟨h1, h2⟩ := compact_sorted hs
  exact ⟨h1, fun x => (h2 x).trans List.mem_mergeSort⟩

/-- a text put into its place -/
def insS (x : List UInt8) : List (List UInt8) → List (List UInt8)
  | [] => [x]
  | y :: r => if y = x then y :: r else if y < x then y :: insS x r else x :: y :: r

theorem insS_mem (x z : List UInt8) : ∀ l, z ∈ insS x l ↔ z = x ∨ z ∈ l
  | [] => by simp [insS]
  | y :: r => by
    simp only [insS]
    split
    · next h => subst h; simp
    · split
      · simp only [List.mem_cons, insS_mem x z r]
        constructor <;> (intro h; rcases h with h | h | h <;> simp [h])
      · simp

theorem insS_sorted (x : List UInt8) : ∀ {l : List (List UInt8)}, l.Pairwise (fun x y => x < y) → (insS x l).Pairwise (fun x y => x < y)
  | [], _ => by simp [insS]
  | y :: r, h => by
    have h' := List.pairwise_cons.1 h
    simp only [insS]
    split
    · exact h
    · next hne =>
      split
      · next hlt =>
        rw [List.pairwise_cons]
        refine ⟨fun z hz => ?_, insS_sorted x h'.2⟩
        rcases (insS_mem x z r).1 hz with e | e
        · rw [e]; exact hlt
        · exact h'.1 z e
      · next hge =>
        have hxy : x < y := by
          rw [← List.not_le]; intro h3
          exact hne (List.le_antisymm h3 (List.not_lt.1 hge))
        rw [List.pairwise_cons]
        refine ⟨fun z hz => ?_, h⟩
        rcases List.mem_cons.1 hz with e | e
        · rw [e]; exact hxy
        · exact List.lt_trans hxy (h'.1 z e)

theorem insS_len (x : List UInt8) : ∀ l, (insS x l).length ≤ l.length + 1
  | [] => by simp [insS]
  | y :: r => by
    simp only [insS]
    have := insS_len x r
    split
    · simp
    · split <;> simp <;> omega

theorem insS_old {x : List UInt8} : ∀ {l : List (List UInt8)}, l.Pairwise (fun x y => x < y) → x ∈ l → insS x l = l
  | [], _, h => by simp at h
  | y :: r, h, hx => by
    have h' := List.pairwise_cons.1 h
    simp only [insS]
    split
    · rfl
    · next hne =>
      have hx' : x ∈ r := by
        rcases List.mem_cons.1 hx with e | e
        · exact absurd e.symm hne
        · exact e
      rw [if_pos (h'.1 x hx'), insS_old h'.2 hx']

def insAll (l a : List (List UInt8)) : List (List UInt8) := l.foldl (fun a n => insS n a) a

theorem insAll_sorted : ∀ (l : List (List UInt8)) {a : List (List UInt8)}, a.Pairwise (fun x y => x < y) → (insAll l a).Pairwise (fun x y => x < y) ∧ (∀ z, z ∈ insAll l a ↔ z ∈ l ∨ z ∈ a) ∧ (insAll l a).length ≤ l.length + a.length
  | [], a, h => ⟨h, fun z => by simp [insAll], by simp [insAll]⟩
  | x :: l, a, h => by
    obtain ⟨h1, h2, h3⟩ := insAll_sorted l (insS_sorted x h)
    have hl := insS_len x a
    refine ⟨h1, fun z => ?_, ?_⟩
    · show z ∈ insAll l (insS x a) ↔ _
      rw [h2, insS_mem]
      simp only [List.mem_cons]
      grind
    · show (insAll l (insS x a)).length ≤ _
      simp only [List.length_cons]; omega

theorem insAll_sort (l : List (List UInt8)) : Lib.compact (l.mergeSort fun x y => decide (x ≤ y)) = insAll l [] := by
  obtain ⟨h1, h2⟩ := sort_sorted l
  obtain ⟨h3, h4, _⟩ := insAll_sorted l (a := []) List.Pairwise.nil
  exact sorted_ext h1 h3 fun x => (h2 x).trans ((h4 x).trans (by simp)).symm

end Go.Dv

namespace Go.Dv.U

open Go Go.Dv Go.Proofs

theorem i_within_ok (a b c : Int) : i_within a b c = some (decide (b ≤ a) && decide (a ≤ c)) := by
  rw [i_within_eq]; grind

theorem s_l00In_ok (a b c : Int) : s_l00In a b c = some (decide (b ≤ a) && decide (a ≤ c)) := by
  rw [s_l00In_eq]; grind

end Go.Dv.U

namespace Go.Dv.U

open Go Go.Dv Go.Proofs

def isLet (b : Int) : Bool := (decide (65 ≤ b) && decide (b ≤ 90)) || (decide (97 ≤ b) && decide (b ≤ 122))

def isDig (b : Int) : Bool := decide (48 ≤ b) && decide (b ≤ 57)

def isNmB (b : Int) : Bool := isLet b || isDig b || b == 95

theorem i_isLetter_ok (b : Int) : i_isLetter b = some (isLet b) := by
  rw [i_isLetter_eq]; unfold isLet; grind

theorem s_l02Letter_ok (b : Int) : s_l02Letter b = some (isLet b) := by
  rw [s_l02Letter_eq]; unfold isLet; grind

theorem i_isDigit_ok (b : Int) : i_isDigit b = some (isDig b) := by
  rw [i_isDigit_eq]; unfold isDig; grind

theorem s_l02Digit_ok (b : Int) : s_l02Digit b = some (isDig b) := by
  rw [s_l02Digit_eq]; unfold isDig; grind

theorem i_isNameByte_ok (b : Int) : i_isNameByte b = some (isNmB b) := by
  rw [i_isNameByte_eq, i_isLetter_ok, i_isDigit_ok]; unfold isNmB
  simp only [Option.bind_some]; grind

/-- a name -/
def isName (s : List UInt8) : Bool := match s with
  | [] => false
  | b :: _ => decide (s.length ≤ 12) && isLet (ib b) && s.all fun c => isNmB (ib c)

theorem i_areAllNm_ok {s : List UInt8} (h : s.length ≤ 9223372036854775807) : i_areAll_byte__i_isNameByte (s.map ib) = some (s.all fun c => isNmB (ib c)) := by
  rw [i_areAll_byte__i_isNameByte_eq]
  have := all_loop (xs := s.map ib) (by simpa using h) (F := i_isNameByte) (p := isNmB) (J := i_areAll_byte_L2__i_isNameByte (s.map ib) (len (s.map ib))) (fun i => by rw [i_areAll_byte_L2__i_isNameByte_eq]) (fun y _ => i_isNameByte_ok y)
  rw [this, List.all_map]
  rfl

theorem i_IsName_ok {s : List UInt8} : i_IsName s = some (isName s) := by
  rw [i_IsName_eq]
  cases s with
  | nil => simp [isName, len_eq]
  | cons b r =>
    by_cases h : (b :: r).length ≤ 12
    · have h1 : decide (len (b :: r) ≥ 1) = true := by simp only [len_eq, List.length_cons, decide_eq_true_eq]; omega
      have h2 : decide (len (b :: r) ≤ 12) = true := by simp only [len_eq, decide_eq_true_eq]; omega
      rw [if_pos h1, if_pos h2, idx_zero]
      simp only [List.getElem?_cons_zero, Option.bind_some, i_isLetter_ok]
      have := i_areAllNm_ok (s := b :: r) (by omega)
      simp only [List.map_cons] at this ⊢
      rw [this]
      simp only [isName, h, decide_true, Bool.true_and, Option.bind_some]
      cases isLet (ib b) <;> simp
    · have h2 : ¬ decide (len (b :: r) ≤ 12) = true := by simp only [len_eq, decide_eq_true_eq]; omega
      rw [if_neg h2]
      simp only [isName, h, decide_false, Bool.false_and]
      split <;> rfl

/-- how many bytes from the start on belong to a name -/
def nmRun : List UInt8 → Nat
  | [] => 0
  | b :: r => if isNmB (ib b) then nmRun r + 1 else 0

theorem nmRun_all : ∀ s, nmRun s = s.length ↔ (s.all fun c => isNmB (ib c)) = true
  | [] => by simp [nmRun]
  | b :: r => by
    have := nmRun_all r
    simp only [nmRun, List.length_cons, List.all_cons, Bool.and_eq_true]
    cases isNmB (ib b)
    · simp
    · simp [this]

theorem s_l02NameEnd_L3_ok {s : List UInt8} (h : s.length ≤ 9223372036854775807) : ∀ (n i : Nat), i + n = s.length → s_l02NameEnd_L3 s i = some ((i + nmRun (s.drop i) : Nat) : Int) := by
  intro n
  induction n with
  | zero =>
    intro i hi
    have : i = s.length := by omega
    subst this
    rw [s_l02NameEnd_L3_eq, s_l02NameEnd_L5_eq, List.drop_length]
    simp [len_eq, nmRun]
  | succ n ih =>
    intro i hi
    have hlt : i < s.length := by omega
    have hc : decide ((i : Int) < len s) = true := by simp [len_eq, hlt]
    rw [s_l02NameEnd_L3_eq, if_pos hc, idx_nat, List.getElem?_eq_getElem hlt, List.drop_eq_getElem_cons hlt]
    simp only [Option.bind_some, s_l02Letter_ok, s_l02Digit_ok, s_l02NameEnd_L4_eq, s_l02NameEnd_L5_eq, nmRun]
    have hw : w64 ((i : Int) + 1) = ((i + 1 : Nat) : Int) := by rw [w64_of (by omega) (by omega)]; omega
    rw [hw, ih (i + 1) (by omega)]
    unfold isNmB
    cases isLet (ib s[i]) <;> cases isDig (ib s[i]) <;> cases hb : (ib s[i] == 95) <;> simp <;> omega

theorem s_l02NameEnd_ok {s : List UInt8} (h : s.length ≤ 9223372036854775807) {i : Nat} (hi : i ≤ s.length) :
    s_l02NameEnd s i = some (match s.drop i with
      | [] => (i : Int)
      | b :: r => if isLet (ib b) then ((i + nmRun (b :: r) : Nat) : Int) else i) := by
  rw [s_l02NameEnd_eq]
  by_cases hlt : i < s.length
  · have hc : ¬ decide ((i : Int) ≥ len s) = true := by simp only [len_eq, decide_eq_true_eq]; omega
    rw [if_neg hc, idx_nat, List.getElem?_eq_getElem hlt, List.drop_eq_getElem_cons hlt]
    simp only [Option.bind_some, s_l02Letter_ok]
    rw [s_l02NameEnd_L3_ok h (s.length - i) i (by omega), List.drop_eq_getElem_cons hlt]
    cases isLet (ib s[i]) <;> simp
  · have : i = s.length := by omega
    subst this
    rw [List.drop_length]
    simp [len_eq]

theorem s_IsName_ok {s : List UInt8} : s_IsName s = some (isName s) := by
  rw [s_IsName_eq]
  cases s with
  | nil => simp [isName]
  | cons b r =>
    have h0 : (!(b :: r) == []) = true := rfl
    rw [if_pos h0]
    by_cases h : (b :: r).length ≤ 12
    · have h2 : decide (len (b :: r) ≤ 12) = true := by simp only [len_eq, decide_eq_true_eq]; omega
      have := s_l02NameEnd_ok (s := b :: r) (by omega) (Nat.zero_le _)
      simp only [Int.natCast_zero, List.drop_zero, Nat.zero_add] at this
      rw [if_pos h2, this]
      simp only [isName, h, decide_true, Bool.true_and, Option.bind_some, len_eq]
      congr 1
      rw [Bool.eq_iff_iff, Bool.and_eq_true, ← nmRun_all]
      cases hL : isLet (ib b)
      · simp; omega
      · simp; omega
    · have h2 : ¬ decide (len (b :: r) ≤ 12) = true := by simp only [len_eq, decide_eq_true_eq]; omega
      rw [if_neg h2]
      simp only [isName, h, decide_false, Bool.false_and]

end Go.Dv.U

namespace Go.Dv.U

open Go Go.Dv Go.Proofs

def isPl (b : UInt8) : Bool := decide (32 ≤ ib b) && decide (ib b ≤ 126)

def allPl (s : List UInt8) : Bool := s.all isPl

def hasB (c : Int) (s : List UInt8) : Bool := s.any fun b => ib b == c

theorem i_isPlain_ok (b : Int) : i_isPlain b = some (decide (32 ≤ b) && decide (b ≤ 126)) := by
  rw [i_isPlain_eq]; grind

theorem i_isPlainText_ok {s : List UInt8} (h : s.length ≤ 9223372036854775807) : i_isPlainText s = some (allPl s) := by
  rw [i_isPlainText_eq, i_areAll_byte__i_isPlain_eq]
  have := all_loop (xs := s.map ib) (by simpa using h) (F := i_isPlain) (p := fun b => decide (32 ≤ b) && decide (b ≤ 126)) (J := i_areAll_byte_L2__i_isPlain (s.map ib) (len (s.map ib))) (fun i => by rw [i_areAll_byte_L2__i_isPlain_eq]) (fun y _ => i_isPlain_ok y)
  rw [this, List.all_map]
  rfl

def isPr (x : Bool) (b : UInt8) : Bool := isPl b || (x && ib b == 10)

theorem s_l01Printable_ok' {s : List UInt8} (h : s.length ≤ 9223372036854775807) (x : Bool) : s_l01Printable s x = some (s.all (isPr x)) := by
  rw [s_l01Printable_eq]
  refine loop_ind (xs := s) h (P := fun i l => s_l01Printable_L2 s x i = some (l.all (isPr x))) ?_ ?_
  · rw [s_l01Printable_L2_eq]; simp [len_eq]
  · intro i y l _ hlt hy hi hw ih
    rw [s_l01Printable_L2_eq, hi, if_pos (by simp [len_eq, hlt])]
    simp only [Option.bind_some, s_l01Printable_L5_eq, s_l01Printable_L3_eq, hw, ih, List.all_cons, isPr, isPl]
    by_cases h1 : ib y < 32
    · have h3 : ¬ (32 ≤ ib y) := by omega
      cases x <;> by_cases h2 : ib y = 10 <;> simp [h1, h2, h3]
    · have h3 : 32 ≤ ib y := by omega
      by_cases h2 : ib y > 126
      · have h4 : ¬ (ib y ≤ 126) := by omega
        have h5 : ¬ ib y = 10 := by omega
        cases x <;> simp [h1, h2, h3, h4, h5]
      · have h4 : ib y ≤ 126 := by omega
        cases x <;> simp [h1, h2, h3, h4]

theorem s_l01Printable_ok {s : List UInt8} (h : s.length ≤ 9223372036854775807) : s_l01Printable s false = some (allPl s) := by
  rw [s_l01Printable_ok' h]
  congr 1
  unfold allPl
  congr 1
  funext b
  simp [isPr]

theorem s_l02Holds_ok {s : List UInt8} (h : s.length ≤ 9223372036854775807) (c : Int) : s_l02Holds s c = some (hasB c s) := by
  rw [s_l02Holds_eq]
  exact any_loop h (p := fun b => ib b == c) (J := s_l02Holds_L2 s c) (fun i => by rw [s_l02Holds_L2_eq])

theorem index_one (c : UInt8) : ∀ s : List UInt8, decide (0 ≤ Lib.index s [c]) = hasB (ib c) s
  | [] => by simp [Lib.index, hasB]
  | b :: l => by
    have ih := index_one c l
    have hge := Lib.index_ge l [c]
    unfold Lib.index
    have hp : [c].isPrefixOf (b :: l) = (ib b == ib c) := by
      rw [Bool.eq_iff_iff]
      simp only [List.isPrefixOf, Bool.and_true, beq_iff_eq, ib_inj]
      exact eq_comm
    have hh : hasB (ib c) (b :: l) = (ib b == ib c || hasB (ib c) l) := rfl
    rw [hp, hh, ← ih]
    cases (ib b == ib c)
    · simp only [Bool.false_eq_true, if_false, Bool.false_or]
      split
      · rename_i h; rw [beq_iff_eq] at h; rw [h]
      · rename_i h
        have h : ¬ Lib.index l [c] = -1 := by simpa using h
        rw [Bool.eq_iff_iff, decide_eq_true_eq, decide_eq_true_eq]; omega
    · simp

theorem containsS_one {s : List UInt8} (h : s.length < 4294967281) (c : UInt8) : containsS s [c] = some (hasB (ib c) s) := by
  unfold containsS
  rw [if_pos h, ← index_one]
  rfl

def canQ (s : List UInt8) : Bool := decide (s.length ≤ 200) && allPl s && !(hasB 39 s && hasB 34 s)

theorem c39 (s : List UInt8) (h : s.length ≤ 200) : containsS s [39] = some (hasB 39 s) := containsS_one (by omega) 39

theorem c34 (s : List UInt8) (h : s.length ≤ 200) : containsS s [34] = some (hasB 34 s) := containsS_one (by omega) 34

theorem i_CanQuote_ok (s : List UInt8) : i_CanQuote s = some (canQ s) := by
  rw [i_CanQuote_eq]
  by_cases h : s.length ≤ 200
  · have h1 : decide (len s ≤ 200) = true := by simp only [len_eq, decide_eq_true_eq]; omega
    rw [if_pos h1, i_isPlainText_ok (by omega), c39 s h, c34 s h]
    simp only [Option.bind_some, canQ, h, decide_true, Bool.true_and]
    cases allPl s <;> cases hasB 39 s <;> simp
  · have h1 : ¬ decide (len s ≤ 200) = true := by simp only [len_eq, decide_eq_true_eq]; omega
    rw [if_neg h1]
    simp [canQ, h]

theorem s_CanQuote_ok (s : List UInt8) : s_CanQuote s = some (canQ s) := by
  rw [s_CanQuote_eq]
  by_cases h : s.length ≤ 200
  · have h1 : decide (len s ≤ 200) = true := by simp only [len_eq, decide_eq_true_eq]; omega
    rw [if_pos h1, s_l01Printable_ok (by omega), s_l02Holds_ok (by omega), s_l02Holds_ok (by omega)]
    simp only [Option.bind_some, canQ, h, decide_true, Bool.true_and]
    cases allPl s <;> cases hasB 39 s <;> simp
  · have h1 : ¬ decide (len s ≤ 200) = true := by simp only [len_eq, decide_eq_true_eq]; omega
    rw [if_neg h1]
    simp [canQ, h]

end Go.Dv.U

namespace Go.Dv.U

open Go Go.Dv Go.Proofs

mutual
def TExpr.n : TExpr → Nat
  | ⟨_, _, _, ks⟩ => 1 + TExpr.ns ks
def TExpr.ns : List TExpr → Nat
  | [] => 0
  | y :: r => TExpr.n y + TExpr.ns r
end

theorem TExpr.ns_eq : ∀ l, TExpr.ns l = sumOf TExpr.n l
  | [] => rfl
  | y :: r => by simp only [TExpr.ns, sumOf, TExpr.ns_eq r]

theorem TExpr.n_eq (x : TExpr) : x.n = 1 + sumOf TExpr.n x.fKids := by
  rw [← TExpr.ns_eq]; cases x; rfl

mutual
def TExpr.all (p : TExpr → Bool) : TExpr → Bool
  | ⟨a, b, c, ks⟩ => p ⟨a, b, c, ks⟩ && TExpr.alls p ks
def TExpr.alls (p : TExpr → Bool) : List TExpr → Bool
  | [] => true
  | y :: r => TExpr.all p y && TExpr.alls p r
end

theorem TExpr.alls_eq (p : TExpr → Bool) : ∀ l, TExpr.alls p l = l.all (TExpr.all p)
  | [] => rfl
  | y :: r => by simp only [TExpr.alls, List.all_cons, TExpr.alls_eq p r]

theorem TExpr.all_eq (p : TExpr → Bool) (x : TExpr) : x.all p = (p x && x.fKids.all (TExpr.all p)) := by
  rw [← TExpr.alls_eq]; cases x; rfl

def eNode (x : TExpr) : Bool :=
  if x.fKind = 1 then x.fKids.length == 0 && x.fNum == 0 && canQ x.fText
  else if x.fKind = 2 then x.fKids.length == 0 && x.fText == [] && (decide (0 ≤ x.fNum) && decide (x.fNum ≤ 1000000000000))
  else if x.fKind = 3 ∨ x.fKind = 16 ∨ x.fKind = 17 ∨ x.fKind = 18 then x.fKids.length == 0 && x.fNum == 0 && isName x.fText
  else if x.fKind = 4 then decide (x.fKids.length ≤ 6) && x.fNum == 0 && isName x.fText
  else x.fNum == 0 && x.fText == [] && (if x.fKind = 12 ∨ x.fKind = 13 then (match x.fKids with | [_, y] => y.fKind == 3 | _ => false)
    else if x.fKind = 14 ∨ x.fKind = 15 then x.fKids.length == 1
    else if 5 ≤ x.fKind ∧ x.fKind ≤ 11 then x.fKids.length == 2 else false)

def TExpr.good (x : TExpr) : Bool := x.all eNode

def TExpr.valid (x : TExpr) : Bool := x.good && decide (x.n ≤ 60)

theorem TExpr.good_eq (x : TExpr) : x.good = (eNode x && x.fKids.all TExpr.good) := TExpr.all_eq _ _

theorem i_isNumber_ok (n : Int) : i_isNumber n = some (decide (0 ≤ n) && decide (n ≤ 1000000000000)) := by
  rw [i_isNumber_eq, i_within_ok]; rfl

theorem i_isNamed_ok (k : Int) : i_isNamed k = some (decide (16 ≤ k) && decide (k ≤ 18)) := by
  rw [i_isNamed_eq, i_within_ok]; rfl

theorem i_isBinary_ok (k : Int) : i_isBinary k = some (decide (6 ≤ k) && decide (k ≤ 13)) := by
  rw [i_isBinary_eq, i_within_ok]; rfl

theorem ek_cases (k : Int) : (k = 1 ∨ k = 2 ∨ k = 3 ∨ k = 4 ∨ k = 5 ∨ k = 6 ∨ k = 7 ∨ k = 8 ∨ k = 9 ∨ k = 10 ∨ k = 11 ∨ k = 12 ∨ k = 13 ∨ k = 14 ∨ k = 15 ∨ k = 16 ∨ k = 17 ∨ k = 18) ∨ (∀ j : Int, 1 ≤ j → j ≤ 18 → ¬ k = j) := by
  by_cases h : 1 ≤ k ∧ k ≤ 18
  · left; omega
  · right; intro j h1 h2 e; omega

theorem i_Expr_hasFields_ok (x : TExpr) : i_Expr_hasFields x = some (eNode x) := by
  obtain ⟨k, n, t, ks⟩ := x
  rw [i_Expr_hasFields_eq]
  simp only [i_CanQuote_ok, i_isNumber_ok, i_isNamed_ok, i_isBinary_ok, i_IsName_ok, i_Expr_hasFields_L11_eq, i_Expr_hasFields_L12_eq, i_Expr_hasFields_L18_eq, i_Expr_hasFields_L19_eq, Option.bind_some, len_eq, idx_one, eNode]
  rcases ek_cases k with hk | hk
  · rcases hk with rfl | rfl | rfl | rfl | rfl | rfl | rfl | rfl | rfl | rfl | rfl | rfl | rfl | rfl | rfl | rfl | rfl | rfl <;> rcases ks with _ | ⟨a, _ | ⟨b, _ | ⟨c, r⟩⟩⟩ <;> simp <;> first | grind | (by_cases hn : n = 0 <;> by_cases hm : isName t = true <;> by_cases hr : r.length ≤ 3 <;> simp [hn, hm, hr] <;> omega)
  · have hr : (decide (16 ≤ k) && decide (k ≤ 18)) = false := by
      by_cases h1 : 16 ≤ k
      · have := hk 16 (by omega) (by omega); have := hk 17 (by omega) (by omega); have := hk 18 (by omega) (by omega)
        have h2 : ¬ k ≤ 18 := by omega
        simp [h2]
      · simp [h1]
    have hr2 : (decide (6 ≤ k) && decide (k ≤ 13)) = false := by
      by_cases h1 : 6 ≤ k
      · have h2 : ¬ k ≤ 13 := fun h2 => hk k (by omega) (by omega) rfl
        simp [h2]
      · simp [h1]
    have hr3 : ¬ (5 ≤ k ∧ k ≤ 11) := fun h => hk k (by omega) (by omega) rfl
    simp only [hk, hr, hr2, hr3, beq_iff_eq, Int.reduceLE, or_self, if_false, Bool.false_eq_true, not_false_eq_true, Bool.and_false, ite_self]

theorem s_l03Shape_ok (x : TExpr) : s_l03Shape x.fKind x.fNum x.fText x.fKids = some (eNode x) := by
  obtain ⟨k, n, t, ks⟩ := x
  rw [s_l03Shape_eq]
  simp only [s_CanQuote_ok, s_l00In_ok, s_IsName_ok, s_l03Shape_L13_eq, s_l03Shape_L14_eq, s_l03Shape_L26_eq, s_l03Shape_L27_eq, s_l03Shape_L31_eq, s_l03Shape_L32_eq, Option.bind_some, len_eq, idx_one, eNode]
  rcases ek_cases k with hk | hk
  · rcases hk with rfl | rfl | rfl | rfl | rfl | rfl | rfl | rfl | rfl | rfl | rfl | rfl | rfl | rfl | rfl | rfl | rfl | rfl <;> rcases ks with _ | ⟨a, _ | ⟨b, _ | ⟨c, r⟩⟩⟩ <;> simp <;> first | grind | (by_cases hn : n = 0 <;> by_cases hm : isName t = true <;> by_cases hr : r.length ≤ 3 <;> simp [hn, hm, hr] <;> omega)
  · have hr3 : ¬ (5 ≤ k ∧ k ≤ 11) := fun h => hk k (by omega) (by omega) rfl
    simp only [hk, hr3, beq_iff_eq, Int.reduceLE, or_self, if_false, Bool.false_eq_true, not_false_eq_true, Bool.and_false, ite_self]

theorem eSum_pos {l : List TExpr} : l.length ≤ sumOf TExpr.n l := by
  induction l with
  | nil => simp [sumOf]
  | cons y r ih => simp only [List.length_cons, sumOf]; have := y.n_eq; omega

theorem TExpr.n_le_m : ∀ x : TExpr, x.n ≤ x.m + 1 := by
  intro x
  induction x using TExpr.ind with
  | h x ih =>
    rw [x.n_eq, x.m_eq]
    have : ∀ l : List TExpr, (∀ y ∈ l, y.n ≤ y.m + 1) → sumOf TExpr.n l ≤ l.length + sumOf TExpr.m l := by
      intro l
      induction l with
      | nil => intro _; simp [sumOf]
      | cons y r ihr =>
        intro h
        have h1 := h y (by simp)
        have h2 := ihr fun z hz => h z (by simp [hz])
        simp only [sumOf, List.length_cons]; omega
    have := this x.fKids ih
    omega

theorem i_countNodes_ok : ∀ x : TExpr, x.m ≤ 1048576 → ∀ c : Int, 0 ≤ c → c ≤ 60 → i_countNodes x c = some (if x.good = true ∧ c + x.n ≤ 60 then c + x.n else 61) := by
  intro x
  induction x using TExpr.ind with
  | h x ih =>
    intro hm c h0 h1
    have hmq := x.m_eq
    have hn := x.n_eq
    have loop : ∀ c : Int, 0 ≤ c → c ≤ 60 → i_countNodes_L5 c x.fKids (len x.fKids) ((0 : Nat) : Int) = some (if x.fKids.all TExpr.good = true ∧ c + sumOf TExpr.n x.fKids ≤ 60 then c + sumOf TExpr.n x.fKids else 61) := by
      refine loop_ind (xs := x.fKids) (by omega) (P := fun i l => ∀ c : Int, 0 ≤ c → c ≤ 60 → i_countNodes_L5 c x.fKids (len x.fKids) i = some (if l.all TExpr.good = true ∧ c + sumOf TExpr.n l ≤ 60 then c + sumOf TExpr.n l else 61)) ?_ ?_
      · intro c h0 h1
        rw [i_countNodes_L5_eq]
        simp [len_eq, sumOf, h1]
      · intro i y l _ hlt hy hi hw ih2 c h0 h1
        rw [i_countNodes_L5_eq, hi, hw, if_pos (by simp [len_eq, hlt])]
        have hmy := TExpr.m_kid hy
        simp only [Option.bind_some, TExpr.re_eq, ih y hy (by omega) c h0 h1]
        have e : sumOf TExpr.n (y :: l) = y.n + sumOf TExpr.n l := rfl
        rw [e, List.all_cons]
        by_cases hc : y.good = true ∧ c + y.n ≤ 60
        · rw [if_pos hc, if_neg (by simp; omega), ih2 _ (by omega) hc.2]
          congr 1
          by_cases hd : l.all TExpr.good = true ∧ c + y.n + sumOf TExpr.n l ≤ 60
          · rw [if_pos hd, if_pos ⟨Bool.and_eq_true_iff.2 ⟨hc.1, hd.1⟩, by omega⟩]; omega
          · rw [if_neg hd, if_neg fun h => hd ⟨(Bool.and_eq_true_iff.1 h.1).2, by omega⟩]
        · rw [if_neg hc, if_pos (by simp), if_neg fun h => hc ⟨(Bool.and_eq_true_iff.1 h.1).1, by omega⟩]
    have hg := x.good_eq
    rw [i_countNodes_eq, w64_of (by omega) (by omega)]
    by_cases c1 : c + 1 > 60
    · rw [if_pos (by simpa using c1), if_neg (by omega)]
    rw [if_neg (by simpa using c1), TExpr.re_eq, i_Expr_hasFields_ok]
    have := loop (c + 1) (by omega) (by omega)
    simp only [Int.natCast_zero] at this
    rw [this, hg]
    simp only [Option.bind_some]
    cases ha : eNode x
    · simp
    · simp only [Bool.not_true, Bool.false_eq_true, if_false, Bool.true_and]
      congr 1
      by_cases hd : x.fKids.all TExpr.good = true ∧ c + 1 + sumOf TExpr.n x.fKids ≤ 60
      · rw [if_pos hd, if_pos ⟨hd.1, by omega⟩]; omega
      · rw [if_neg hd, if_neg fun h => hd ⟨h.1, by omega⟩]

theorem i_ValidExpr_ok {x : TExpr} (hm : x.m ≤ 1048576) : i_ValidExpr x = some x.valid := by
  rw [i_ValidExpr_eq, TExpr.re_eq, i_countNodes_ok x hm 0 (by omega) (by omega)]
  simp only [Option.bind_some, TExpr.valid]
  congr 1
  by_cases h : x.good = true ∧ (0 : Int) + x.n ≤ 60
  · rw [if_pos h, h.1]; simp; omega
  · rw [if_neg h]
    cases hg : x.good
    · simp
    · simp only [hg, true_and] at h; simp; omega

theorem s_l03Size_ok : ∀ x : TExpr, x.m ≤ 1048576 → ∃ v : Int, s_l03Size x.fKind x.fNum x.fText x.fKids = some v ∧ 1 ≤ v ∧ v ≤ x.n ∧ (v ≤ 60 → v = x.n) := by
  intro x
  induction x using TExpr.ind with
  | h x ih =>
    intro hm
    have hmq := x.m_eq
    have hn := x.n_eq
    have hnm := x.n_le_m
    have loop : ∀ acc : Int, 1 ≤ acc → acc + sumOf TExpr.n x.fKids ≤ 1048577 → ∃ v : Int, s_l03Size_L3 x.fKind x.fNum x.fText x.fKids acc ((0 : Nat) : Int) = some v ∧ acc ≤ v ∧ v ≤ acc + sumOf TExpr.n x.fKids ∧ (v ≤ 60 → v = acc + sumOf TExpr.n x.fKids) := by
      refine loop_ind (xs := x.fKids) (by omega) (P := fun i l => ∀ acc : Int, 1 ≤ acc → acc + sumOf TExpr.n l ≤ 1048577 → ∃ v : Int, s_l03Size_L3 x.fKind x.fNum x.fText x.fKids acc i = some v ∧ acc ≤ v ∧ v ≤ acc + sumOf TExpr.n l ∧ (v ≤ 60 → v = acc + sumOf TExpr.n l)) ?_ ?_
      · intro acc h1 h2
        refine ⟨acc, ?_, Int.le_refl _, by simp [sumOf], by simp [sumOf]⟩
        rw [s_l03Size_L3_eq]
        simp [len_eq]
      · intro i y l _ hlt hy hi hw ih2 acc h1 h2
        have hmy := TExpr.m_kid hy
        have hyn := y.n_eq
        have e : sumOf TExpr.n (y :: l) = y.n + sumOf TExpr.n l := rfl
        rw [e] at h2 ⊢
        by_cases hc : acc ≤ 60
        · obtain ⟨v, hv, v1, v2, v3⟩ := ih y hy (by omega)
          obtain ⟨u, hu, u1, u2, u3⟩ := ih2 (acc + v) (by omega) (by omega)
          refine ⟨u, ?_, by omega, by omega, by omega⟩
          rw [s_l03Size_L3_eq, hi, hw, if_pos (by simp [len_eq, hlt]), if_pos (by simpa using hc)]
          simp only [Option.bind_some, hv]
          rw [w64_of (by omega) (by omega)]
          exact hu
        · refine ⟨acc, ?_, Int.le_refl _, by omega, by omega⟩
          rw [s_l03Size_L3_eq, if_pos (by simp [len_eq, hlt]), if_neg (by simpa using hc)]
    obtain ⟨v, hv, v1, v2, v3⟩ := loop 1 (Int.le_refl _) (by omega)
    refine ⟨v, ?_, v1, by omega, by omega⟩
    rw [s_l03Size_eq]
    exact hv

theorem s_l03Nodes_ok : ∀ x : TExpr, x.m ≤ 1048576 → s_l03Nodes x.fKind x.fNum x.fText x.fKids = some x.good := by
  intro x
  induction x using TExpr.ind with
  | h x ih =>
    intro hm
    have hmq := x.m_eq
    rw [s_l03Nodes_eq, s_l03Shape_ok, x.good_eq]
    have := all_loop (xs := x.fKids) (by omega) (F := fun y => s_l03Nodes y.fKind y.fNum y.fText y.fKids) (p := TExpr.good) (J := s_l03Nodes_L4 x.fKind x.fNum x.fText x.fKids) (fun i => by rw [s_l03Nodes_L4_eq]) (fun y hy => ih y hy (by have := TExpr.m_kid hy; omega))
    rw [this]
    simp only [Option.bind_some]
    cases eNode x <;> simp

theorem s_l03Ok_ok {x : TExpr} (hm : x.m ≤ 1048576) : s_l03Ok x.fKind x.fNum x.fText x.fKids = some x.valid := by
  rw [s_l03Ok_eq]
  obtain ⟨v, hv, v1, v2, v3⟩ := s_l03Size_ok x hm
  rw [hv, s_l03Nodes_ok x hm]
  simp only [Option.bind_some, TExpr.valid]
  by_cases h : v ≤ 60
  · have := v3 h
    rw [if_pos (by simpa using h)]
    have h2 : x.n ≤ 60 := by omega
    simp [h2]
  · rw [if_neg (by simpa using h)]
    have h2 : ¬ x.n ≤ 60 := by omega
    simp [h2]

end Go.Dv.U

namespace Go.Dv.U

open Go Go.Dv Go.Proofs

def selN (b : Bool) (x : TExpr) : Bool := if x.fKind = 4 then b else if x.fKind = 3 ∨ (16 ≤ x.fKind ∧ x.fKind ≤ 18) then !b else false

mutual
def TExpr.nms (b : Bool) : TExpr → List (List UInt8)
  | ⟨k, n, t, ks⟩ => (if selN b ⟨k, n, t, ks⟩ = true then [t] else []) ++ TExpr.nmss b ks
def TExpr.nmss (b : Bool) : List TExpr → List (List UInt8)
  | [] => []
  | y :: r => TExpr.nms b y ++ TExpr.nmss b r
end

theorem TExpr.nms_eq (b : Bool) (x : TExpr) : x.nms b = (if selN b x = true then [x.fText] else []) ++ TExpr.nmss b x.fKids := by
  obtain ⟨k, n, t, ks⟩ := x; simp only [TExpr.nms]

theorem TExpr.nmss_len (b : Bool) : ∀ (l : List TExpr), (∀ y ∈ l, (y.nms b).length ≤ y.n) → (TExpr.nmss b l).length ≤ sumOf TExpr.n l
  | [], _ => by simp [TExpr.nmss, sumOf]
  | y :: r, h => by
    have h1 := h y (by simp)
    have h2 := TExpr.nmss_len b r fun z hz => h z (by simp [hz])
    simp only [TExpr.nmss, sumOf, List.length_append]; omega

theorem TExpr.nms_len (b : Bool) : ∀ x : TExpr, (x.nms b).length ≤ x.n := by
  refine TExpr.ind fun x ih => ?_
  have := TExpr.nmss_len b x.fKids ih
  rw [TExpr.nms_eq, TExpr.n_eq, List.length_append]
  split <;> simp <;> omega

theorem i_namesOf_c1_ok (x : TExpr) (b : Bool) {a : List (List UInt8)} (ha : a.length ≤ 1000000) : i_namesOf_c1 x b a = some ((), (b, ()), (a ++ (if selN b x = true then [x.fText] else []), ()), ()) := by
  have happ : ∀ t : List UInt8, app a [t] = some (a ++ [t]) := fun t => app_of (by simp; omega)
  rw [i_namesOf_c1_eq]
  simp only [i_isNamed_ok, i_namesOf_c1_L2_eq, happ, Option.bind_some, selN]
  obtain ⟨k, n, t, ks⟩ := x
  by_cases h4 : k = 4
  · subst h4; cases b <;> simp
  · by_cases h3 : k = 3
    · subst h3; cases b <;> simp
    · by_cases h5 : 16 ≤ k <;> by_cases h6 : k ≤ 18 <;> cases b <;> simp [h3, h4, h5, h6]

theorem eachNode_ok (b : Bool) : ∀ (x : TExpr), x.m ≤ 1048576 → ∀ a : List (List UInt8), a.length + x.n ≤ 1000000 → i_Expr_eachNode__i_namesOf_c1 x b a = some ((), (b, ()), (a ++ x.nms b, ()), ()) := by
  refine TExpr.ind fun x ih => ?_
  intro hm a ha
  have hme := x.m_eq
  have hn := x.n_eq
  have hs := eSum_pos (l := x.fKids)
  rw [i_Expr_eachNode__i_namesOf_c1_eq, TExpr.re_eq, i_namesOf_c1_ok x b (by omega)]
  simp only [Option.bind_some]
  rw [TExpr.nms_eq, ← List.append_assoc]
  have ha2 : (a ++ (if selN b x = true then [x.fText] else [])).length + sumOf TExpr.n x.fKids ≤ 1000000 := by
    rw [List.length_append]; split <;> simp <;> omega
  generalize (a ++ (if selN b x = true then [x.fText] else [])) = a1 at ha2
  have key := loop_ind (xs := x.fKids) (by omega) (P := fun i l => (∀ y ∈ l, y ∈ x.fKids) → ∀ a1 : List (List UInt8), a1.length + sumOf TExpr.n l ≤ 1000000 →
      i_Expr_eachNode_L3__i_namesOf_c1 x.fKids (len x.fKids) (i : Int) b a1 = some ((), (b, ()), (a1 ++ TExpr.nmss b l, ()), ())) (by
    intro _ a1 _
    rw [i_Expr_eachNode_L3__i_namesOf_c1_eq]
    simp [len_eq, TExpr.nmss]) (by
    intro i y l _ hlt hy hi hw ih2 hl a1 h1
    simp only [sumOf] at h1
    rw [i_Expr_eachNode_L3__i_namesOf_c1_eq]
    have hc : decide ((i : Int) < len x.fKids) = true := by simp [len_eq, hlt]
    have hk := TExpr.m_kid hy
    have hnl := TExpr.nms_len b y
    rw [if_pos hc, hi]
    simp only [Option.bind_some]
    rw [TExpr.re_eq, ih y hy (by omega) a1 (by omega)]
    simp only [Option.bind_some, hw]
    rw [ih2 (fun z hz => hl z (by simp [hz])) _ (by rw [List.length_append]; omega), TExpr.nmss, List.append_assoc]) (fun y hy => hy) a1 ha2
  exact key

theorem put_ok {l : List (List UInt8)} (hs : l.Pairwise (fun x y => x < y)) (hl : l.length ≤ 1000000) (x : List UInt8) : s_l03Put l x = some (insS x l) := by
  rw [s_l03Put_eq]
  have hlt_of : ∀ a b : List UInt8, Op.bytesLess a b = decide (a < b) := bl_eq
  have key := loop_ind (xs := l) (by omega) (P := fun i r => r.Pairwise (fun x y => x < y) → ∀ o : List (List UInt8), o.length + 2 * r.length ≤ 2000000 →
      (((∀ y ∈ r, x < y) → s_l03Put_L4 l x true (i : Int) o = some (o ++ r)) ∧ s_l03Put_L4 l x false (i : Int) o = some (if x ∈ r then l else o ++ insS x r))) (by
    intro _ o ho
    refine ⟨fun _ => ?_, ?_⟩
    · rw [s_l03Put_L4_eq]; simp [len_eq]
    · rw [s_l03Put_L4_eq]
      have := app_of (xs := o) (ys := [x]) (by simp; omega)
      simp [len_eq, insS, this]) (by
    intro i y r _ hlt hy hi hw ih hp o ho
    rw [List.pairwise_cons] at hp
    simp only [List.length_cons] at ho
    have hc : decide ((i : Int) < len l) = true := by simp [len_eq, hlt]
    have ih := ih hp.2
    have st : ∀ (d : Bool) (o : List (List UInt8)), o.length ≤ 3000000 → s_l03Put_L11 l x d (i : Int) o = s_l03Put_L4 l x d ((i + 1 : Nat) : Int) (o ++ [y]) := by
      intro d o ho
      rw [s_l03Put_L11_eq, hi]
      simp only [Option.bind_some]
      rw [app_of (by simp; omega), hw]
      rfl
    refine ⟨fun hx => ?_, ?_⟩
    · have hne : (y == x) = false := by
        rw [beq_eq_false_iff_ne]; intro e; subst e; exact List.lt_irrefl _ (hx y (by simp))
      rw [s_l03Put_L4_eq, if_pos hc, hi]
      simp only [Option.bind_some, hne, Bool.false_eq_true, if_false, Bool.not_true]
      rw [st true o (by omega), (ih (o ++ [y]) (by simp; omega)).1 fun z hz => hx z (by simp [hz])]
      simp
    · rw [s_l03Put_L4_eq, if_pos hc, hi]
      simp only [Option.bind_some]
      by_cases he : y = x
      · subst he
        simp
      · have hne : (y == x) = false := by simpa using he
        simp only [hne, Bool.false_eq_true, if_false, Bool.not_false, if_true, Bool.or_false, hlt_of]
        have hxy : x ∈ y :: r ↔ x ∈ r := by
          simp only [List.mem_cons]
          constructor
          · rintro (h | h)
            · exact absurd h.symm he
            · exact h
          · exact .inr
        by_cases hl2 : y < x
        · simp only [hl2, decide_true, Bool.not_true, Bool.false_eq_true, if_false]
          rw [st false o (by omega), (ih (o ++ [y]) (by simp; omega)).2]
          simp only [hxy, insS, he, hl2, if_false, if_true, List.append_assoc, List.singleton_append]
        · simp only [hl2, decide_false, Bool.not_false, if_true]
          have hxl : x < y := by
            rw [← List.not_le]; intro h3
            exact he (List.le_antisymm h3 (List.not_lt.1 hl2))
          have hall : ∀ z ∈ r, x < z := fun z hz => List.lt_trans hxl (hp.1 z hz)
          have hxr : ¬ x ∈ r := fun h => List.lt_irrefl _ (hall x h)
          rw [app_of (by simp; omega)]
          simp only [Option.bind_some]
          rw [st true _ (by simp; omega), (ih (o ++ [x] ++ [y]) (by
            have : (o ++ [x] ++ [y]).length = o.length + 2 := by simp
            omega)).1 hall]
          simp only [hxy, hxr, if_false, insS, he, hl2, List.append_assoc, List.singleton_append]
          rfl) hs [] (by simp; omega)
  rw [show s_l03Put_L4 l x false 0 [] = _ from key.2]
  by_cases h : x ∈ l
  · rw [if_pos h, insS_old hs h]
  · rw [if_neg h]; rfl

theorem selN_node {x : TExpr} (h : eNode x = true) (b : Bool) : ((b == (x.fKind == 4)) && (!(x.fText == [])) && (x.fKind != 1)) = selN b x := by
  obtain ⟨k, n, t, ks⟩ := x
  have hnm : isName t = true → (t == []) = false := by
    intro h; cases t with
    | nil => exact absurd h (by decide)
    | cons => rfl
  unfold eNode at h
  unfold selN
  simp only at h ⊢
  rcases ek_cases k with hk | hk
  · rcases hk with rfl | rfl | rfl | rfl | rfl | rfl | rfl | rfl | rfl | rfl | rfl | rfl | rfl | rfl | rfl | rfl | rfl | rfl <;> simp at h ⊢ <;> cases b <;> simp_all
  · have h3 : ¬ (k = 3 ∨ (16 ≤ k ∧ k ≤ 18)) := by
      rintro (h | h)
      · exact hk 3 (by omega) (by omega) h
      · exact hk k (by omega) (by omega) rfl
    have hr3 : ¬ (5 ≤ k ∧ k ≤ 11) := fun h => hk k (by omega) (by omega) rfl
    simp [hk, hr3] at h

theorem insAll_app (a b c : List (List UInt8)) : insAll (a ++ b) c = insAll b (insAll a c) := by unfold insAll; rw [List.foldl_append]

theorem s_l03Names_ok (b : Bool) : ∀ x : TExpr, x.good = true → x.m ≤ 1048576 → ∀ a : List (List UInt8), a.Pairwise (fun x y => x < y) → a.length + x.n ≤ 1000000 →
    s_l03Names x.fKind x.fNum x.fText x.fKids b a = some (insAll (x.nms b) a) := by
  refine TExpr.ind fun x ih => ?_
  intro hg hm a hs ha
  have hme := x.m_eq
  have hn := x.n_eq
  have hsm := eSum_pos (l := x.fKids)
  rw [TExpr.good_eq, Bool.and_eq_true_iff] at hg
  have hsel := selN_node hg.1 b
  have hkids := List.all_eq_true.1 hg.2
  have kids : ∀ a : List (List UInt8), a.Pairwise (fun x y => x < y) → a.length + sumOf TExpr.n x.fKids ≤ 1000000 → s_l03Names_L3 x.fKind x.fNum x.fText x.fKids b a = some (insAll (TExpr.nmss b x.fKids) a) := by
    intro a hs ha
    rw [s_l03Names_L3_eq]
    refine loop_ind (xs := x.fKids) (by omega) (P := fun i l => (∀ y ∈ l, y ∈ x.fKids) → ∀ a1 : List (List UInt8), a1.Pairwise (fun x y => x < y) → a1.length + sumOf TExpr.n l ≤ 1000000 →
      s_l03Names_L4 x.fKind x.fNum x.fText x.fKids b a1 (i : Int) = some (insAll (TExpr.nmss b l) a1)) ?_ ?_ (fun y hy => hy) a hs ha
    · intro _ a1 _ _
      rw [s_l03Names_L4_eq]
      simp [len_eq, TExpr.nmss, insAll]
    · intro i y l _ hlt hy hi hw ih2 hl a1 hs1 h1
      simp only [sumOf] at h1
      rw [s_l03Names_L4_eq]
      have hc : decide ((i : Int) < len x.fKids) = true := by simp [len_eq, hlt]
      have hk := TExpr.m_kid hy
      have hnl := TExpr.nms_len b y
      obtain ⟨q1, q2, q3⟩ := insAll_sorted (y.nms b) hs1
      rw [if_pos hc, hi]
      simp only [Option.bind_some]
      rw [ih y hy (hkids y hy) (by omega) a1 hs1 (by omega)]
      simp only [Option.bind_some, hw]
      rw [ih2 (fun z hz => hl z (by simp [hz])) _ q1 (by omega), TExpr.nmss, insAll_app]
  rw [s_l03Names_eq, TExpr.nms_eq, insAll_app]
  have hput : s_l03Names_L2 x.fKind x.fNum x.fText x.fKids b a = some (insAll (TExpr.nmss b x.fKids) (insAll [x.fText] a)) := by
    rw [s_l03Names_L2_eq, put_ok hs (by omega)]
    simp only [Option.bind_some]
    exact kids _ (insS_sorted _ hs) (by have := insS_len x.fText a; omega)
  by_cases h : selN b x = true
  · rw [h] at hsel
    rw [if_pos h, ← hput]
    simp only [Bool.and_eq_true] at hsel
    rw [if_pos hsel.1.1, if_pos hsel.1.2, if_pos hsel.2]
  · rw [if_neg h]
    have e : insAll (TExpr.nmss b x.fKids) (insAll [] a) = insAll (TExpr.nmss b x.fKids) a := rfl
    rw [e, ← kids a hs (by omega)]
    by_cases c1 : (b == (x.fKind == 4)) = true
    · rw [if_pos c1]
      by_cases c2 : (!(x.fText == [])) = true
      · rw [if_pos c2]
        by_cases c3 : (x.fKind != 1) = true
        · exact absurd (hsel.symm.trans (by rw [c1, c2, c3]; rfl)) h
        · rw [if_neg c3]
      · rw [if_neg c2]
    · rw [if_neg c1]

def namesV (b : Bool) (x : TExpr) : List (List UInt8) := if x.valid = true then insAll (x.nms b) [] else []

theorem valid_parts {x : TExpr} (h : x.valid = true) : x.good = true ∧ x.n ≤ 60 := by
  unfold TExpr.valid at h
  rwa [Bool.and_eq_true_iff, decide_eq_true_eq] at h

theorem s_names_ok (b : Bool) {x : TExpr} (hm : x.m ≤ 1048576) : ((s_l03Ok x.fKind x.fNum x.fText x.fKids).bind fun r200 => if (!r200) = true then some [] else (s_l03Names x.fKind x.fNum x.fText x.fKids b []).bind fun r198 => some r198) = some (namesV b x) := by
  rw [s_l03Ok_ok hm]
  simp only [Option.bind_some, namesV]
  by_cases h : x.valid = true
  · obtain ⟨h1, h2⟩ := valid_parts h
    simp only [h, Bool.not_true, Bool.false_eq_true, if_false, if_true]
    rw [s_l03Names_ok b x h1 hm [] List.Pairwise.nil (by simp; omega)]
    rfl
  · simp [h]

theorem i_namesOf_ok (b : Bool) {x : TExpr} (hm : x.m ≤ 1048576) (h2 : x.n ≤ 60) : i_namesOf x b = some ((insAll (x.nms b) [], ()), ()) := by
  have hl := TExpr.nms_len b x
  rw [i_namesOf_eq, TExpr.re_eq, eachNode_ok b x hm [] (by simp; omega)]
  simp only [Option.bind_some, List.nil_append]
  unfold sortS big
  rw [if_pos (by omega), insAll_sort]
  rfl

theorem i_names_ok (b : Bool) {x : TExpr} (hm : x.m ≤ 1048576) : ((i_ValidExpr x).bind fun r200 => if (!r200) = true then some (([], ()), ()) else (i_namesOf x b).bind fun r198 => some ((Prod.fst (Prod.fst r198), ()), ())) = some ((namesV b x, ()), ()) := by
  rw [i_ValidExpr_ok hm]
  simp only [Option.bind_some, namesV]
  by_cases h : x.valid = true
  · obtain ⟨h1, h2⟩ := valid_parts h
    simp only [h, Bool.not_true, Bool.false_eq_true, if_false, if_true, i_namesOf_ok b hm h2]
    rfl
  · simp [h]

theorem namesV_len (b : Bool) (x : TExpr) : (namesV b x).length ≤ 60 := by
  unfold namesV
  split
  · next h =>
    obtain ⟨h1, h2⟩ := valid_parts h
    obtain ⟨_, _, q⟩ := insAll_sorted (x.nms b) (a := []) List.Pairwise.nil
    have := TExpr.nms_len b x
    simp only [List.length_nil] at q
    omega
  · simp

theorem ownExpr_ok : ∀ x : TExpr, x.m ≤ 1048576 → l_toExpr_v1 x = some ((x.fKind, x.fNum, x.fText, x.fKids, ()), ()) := by
  refine TExpr.ind fun x ih => ?_
  intro hm
  have hme := x.m_eq
  rw [l_toExpr_v1_eq, l_toExprS_v1_eq, mk_len _ _ (by omega)]
  simp only [Option.bind_some]
  rw [toE_loop (xs := x.fKids) (by omega) (F := l_toExpr_v1) (G := fun r198 => TExpr.mk (Prod.fst (Prod.fst r198)) (Prod.fst (Prod.snd (Prod.fst r198))) (Prod.fst (Prod.snd (Prod.snd (Prod.fst r198)))) (Prod.fst (Prod.snd (Prod.snd (Prod.snd (Prod.fst r198)))))) (E := fun zs => some ((zs, ()), ())) (J := l_toExprS_L3_v1) (fun i zs => by rw [l_toExprS_L3_v1_eq]; try simp only [TExpr.re_eq]) (fun y hy => ⟨_, ih y hy (by have := TExpr.m_kid hy; omega), by cases y; rfl⟩) _ (by simp)]
  rfl

theorem markExprS_ok : ∀ x : TExpr, x.m ≤ 1048576 → ∀ k : Int, 0 ≤ k → k + 4 * x.m < 4611686018427387904 → ∃ k' xs', l_markExprS k x.fKids = some (k', xs', ()) ∧ k ≤ k' := by
  have key : ∀ x : TExpr, x.m ≤ 1048576 → ∀ k : Int, 0 ≤ k → k + 4 * x.m < 4611686018427387904 → ∃ k' xs', l_markExprS k x.fKids = some (k', xs', ()) ∧ k ≤ k' ∧ k' ≤ k + 4 * x.m := by
    refine TExpr.ind fun x ih => ?_
    intro hm k h0 h1
    have hme := x.m_eq
    have hsum : sumOf (fun y : TExpr => 4 + 4 * y.m) x.fKids = 4 * x.fKids.length + 4 * sumOf TExpr.m x.fKids := by
      generalize x.fKids = l
      induction l with
      | nil => rfl
      | cons y r ih => simp only [sumOf, List.length_cons, ih]; omega
    rw [l_markExprS_eq]
    obtain ⟨k', xs', e, g1, g2, _⟩ := mark_loop (B := 4611686018427387904) (m := fun y : TExpr => 4 + 4 * y.m) (Q := fun y => y ∈ x.fKids) (J := l_markExprS_L2) (fun k xs => by rw [l_markExprS_L2_eq]; simp [len_eq]) (by
      intro k i xs hlt hq g0 g1 gl
      have hk := TExpr.m_kid hq
      rw [l_markExprS_L2_eq]
      have hc : decide ((i : Int) < len xs) = true := by simp [len_eq, hlt]
      rw [if_pos hc]
      have w1 : w64 (k + 1) = k + 1 := w64_of (by omega) (by omega)
      have w2 : w64 (k + 1 + 1) = k + 1 + 1 := w64_of (by omega) (by omega)
      have w3 : w64 (k + 1 + 1 + 1) = k + 1 + 1 + 1 := w64_of (by omega) (by omega)
      have w4 : w64 ((i : Int) + 1) = ((i + 1 : Nat) : Int) := by rw [w64_of (by omega) (by omega)]; omega
      obtain ⟨k', ks', e, h1, h2⟩ := ih _ hq (by omega) (k + 1 + 1 + 1) (by omega) (by omega)
      simp only [idx_nat, Int.toNat_natCast, List.getElem?_eq_getElem hlt, upd_eq, List.set_set, List.getElem?_set_self hlt, Option.bind_some, w1, w2, w3, w4, l_markText_ok (k := k + 1 + 1) (by omega) (by omega), e]
      exact ⟨k', _, rfl, by omega, by omega⟩) x.fKids k (fun y hy => hy) h0 (by rw [hsum]; omega) (by omega)
    exact ⟨k', xs', e, g1, by rw [hsum] at g2; omega⟩
  intro x hm k h0 h1
  obtain ⟨k', xs', e, g, _⟩ := key x hm k h0 h1
  exact ⟨k', xs', e, g⟩

theorem l_FnExactNamesIn_ok {x : TExpr} (hok : x.Ok) : l_FnExactNamesIn x = some true := by
  rw [l_FnExactNamesIn_eq]
  simp only [TExpr.re_eq, szExpr_ok x hok 1048576 (by decide) (by decide), Option.bind_some]
  by_cases c : minus 1048576 x.m < 0
  · simp [c]
  · have hm : x.m ≤ 1048576 := by have := minus_le c; omega
    have es : s_NamesIn x = some (namesV false x) := by rw [s_NamesIn_eq]; exact s_names_ok false hm
    have ei : i_NamesIn x = some ((namesV false x, ()), ()) := by rw [i_NamesIn_eq, TExpr.re_eq]; exact i_names_ok false hm
    have hl := namesV_len false x
    have eta : TExpr.mk x.fKind x.fNum x.fText x.fKids = x := by cases x; rfl
    obtain ⟨k', xs', ek, hk⟩ := markExprS_ok x hm 1 (by omega) (by omega)
    have hk0 : decide (k' < 0) = false := by simp; omega
    have hn : decide ((1 : Int) + ((namesV false x).length : Int) < 0) = false := by simp; omega
    simp only [c, decide_false, Bool.false_eq_true, if_false, ownExpr_ok x hm, eta, es, ei, Option.bind_some, strSelf_ok (xs := namesV false x) (by omega), eqExpr_ok x hm, Bool.not_true, l_markExpr_eq, ek, hk0, l_markStringS_ok (xs := namesV false x) (k := 1) (by omega) (by omega), l_heldStringS_ok (n := (namesV false x).length) (k := 1) (by omega) (by omega), hn, bne_self_eq_false]

end Go.Dv.U
