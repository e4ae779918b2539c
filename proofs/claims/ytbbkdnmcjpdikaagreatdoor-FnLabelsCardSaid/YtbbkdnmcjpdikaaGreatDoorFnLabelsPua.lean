/- Plain laws about these equations. -/
import Derived.Test.YtbbkdnmcjpdikaaGreatDoorFnLabelsEqa
set_option linter.all false
set_option linter.unusedVariables false
set_option linter.unusedSimpArgs false
namespace Go.Dv.U
open Go Go.Dv Go.Proofs
theorem TExpr.ind {P : TExpr → Prop} (h : ∀ x, (∀ y ∈ x.fKids, P y) → P x) : ∀ x, P x := by
 intro x
 exact TExpr.rec (motive_1 := P) (motive_2 := fun l => ∀ y ∈ l, P y) (fun a0 a1 a2 a3 ih => h ⟨a0, a1, a2, a3⟩ ih) (fun y hy => by cases hy)
  (fun a l ha hl y hy => by
   cases hy with
   | head => exact ha
   | tail _ hy => exact hl y hy) x
mutual
def TExpr.m : TExpr → Nat
 | ⟨_, _, a2, a3⟩ => a2.length + (a3.length + TExpr.ms a3)
def TExpr.ms : List TExpr → Nat
 | [] => 0
 | y :: r => TExpr.m y + TExpr.ms r
end
theorem TExpr.ms_eq : ∀ l, TExpr.ms l = sumOf TExpr.m l
 | [] => rfl
 | y :: r => by simp only [TExpr.ms, sumOf, TExpr.ms_eq r]
theorem TExpr.m_eq (x : TExpr) : x.m = x.fText.length + (x.fKids.length + sumOf TExpr.m x.fKids) := by
 rw [← TExpr.ms_eq]; cases x; rfl
theorem TExpr.m_kid {x y : TExpr} (h : y ∈ x.fKids) : y.m + x.fKids.length ≤ x.m := by
 have := sumOf_mem (m := TExpr.m) h
 rw [TExpr.m_eq x]; omega
def TGoto.m (x : TGoto) : Nat := x.fAlways.length + x.fSuccess.length + x.fFailure.length
theorem TGoto.m_eq (x : TGoto) : x.m = x.fAlways.length + x.fSuccess.length + x.fFailure.length := rfl
def TStatement.m (x : TStatement) : Nat := x.fLabel.length + TExpr.m x.fSubject + TExpr.m x.fPattern + TExpr.m x.fReplace + TGoto.m x.fGoto
theorem TStatement.m_eq (x : TStatement) : x.m = x.fLabel.length + TExpr.m x.fSubject + TExpr.m x.fPattern + TExpr.m x.fReplace + TGoto.m x.fGoto := rfl
def TProgram.m (x : TProgram) : Nat := (x.fStatements.length + sumOf TStatement.m x.fStatements)
theorem TProgram.m_eq (x : TProgram) : x.m = (x.fStatements.length + sumOf TStatement.m x.fStatements) := rfl
def TToken.m (x : TToken) : Nat := x.fText.length
theorem TToken.m_eq (x : TToken) : x.m = x.fText.length := rfl
def TLine.m (x : TLine) : Nat := x.fText.length
theorem TLine.m_eq (x : TLine) : x.m = x.fText.length := rfl
end Go.Dv.U

namespace Go.Dv
open Go
def gate {α : Type} (c : α → Nat → Bool) : List α → Nat → Bool
 | [], _ => true
 | y :: r, i => c y i && gate c r (i + 1)
theorem gate_all {α : Type} {p : α → Bool} {c : α → Nat → Bool} : ∀ (l : List α) (i : Nat), gate (fun y i => p y && c y i) l i = (l.all p && gate c l i)
 | [], _ => rfl
 | y :: r, i => by
  simp only [gate, List.all_cons, gate_all r (i + 1)]
  cases p y <;> cases c y i <;> cases r.all p <;> simp
theorem gate_loop {α : Type} {xs : List α} (hx : xs.length ≤ 9223372036854775807) {c : α → Nat → Bool} {J : Int → Option Bool}
  (hs : ∀ (i : Nat) (y : α), i < xs.length → y ∈ xs → idx xs (i : Int) = some y → w64 ((i : Int) + 1) = ((i + 1 : Nat) : Int) → J (i : Int) = if c y i = true then J ((i + 1 : Nat) : Int) else some false) :
  J 0 = if gate c xs 0 = true then J (xs.length : Int) else some false := by
 refine loop_ind hx (P := fun i l => J (i : Int) = if gate c l i = true then J (xs.length : Int) else some false) ?_ ?_
 ·simp [gate]
 ·intro i y l _ hlt hy hi hw ih
  rw [hs i y hlt hy hi hw]
  have hg : gate c (y :: l) i = (c y i && gate c l (i + 1)) := rfl
  by_cases hc : c y i = true
  ·rw [if_pos hc, ih]
   by_cases h2 : gate c l (i + 1) = true
   ·rw [if_pos h2, if_pos (by rw [hg, hc, h2]; rfl)]
   ·rw [if_neg h2, if_neg (by rw [hg, hc]; simpa using h2)]
  ·rw [if_neg hc, if_neg (by rw [hg]; simp [hc])]
def ixF {α : Type} (p : α → Bool) : List α → Nat → Int
 | [], _ => -1
 | y :: r, i => if p y = true then (i : Int) else ixF p r (i + 1)
theorem ix_loop {α : Type} {xs : List α} (hx : xs.length ≤ 9223372036854775807) {p : α → Bool} {J : Int → Option Int}
  (hs : ∀ (i : Nat) (y : α), i < xs.length → y ∈ xs → idx xs (i : Int) = some y → w64 ((i : Int) + 1) = ((i + 1 : Nat) : Int) → J (i : Int) = if p y = true then some (i : Int) else J ((i + 1 : Nat) : Int))
  (he : J (xs.length : Int) = some (-1)) : J 0 = some (ixF p xs 0) := by
 refine loop_ind hx (P := fun i l => J (i : Int) = some (ixF p l i)) ?_ ?_
 ·rw [he]; rfl
 ·intro i y l _ hlt hy hi hw ih
  rw [hs i y hlt hy hi hw]
  by_cases hc : p y = true
  ·rw [if_pos hc]; simp [ixF, hc]
  ·rw [if_neg hc, ih]; simp [ixF, hc]
theorem cat_loop {α β γ : Type} {xs : List α} (hx : xs.length ≤ 9223372036854775807) {f : α → List β} {B : Nat} {J : Int → List β → Option γ}
  (hs : ∀ (i : Nat) (y : α) (a : List β), i < xs.length → y ∈ xs → idx xs (i : Int) = some y → w64 ((i : Int) + 1) = ((i + 1 : Nat) : Int) → a.length + (f y).length ≤ B → J (i : Int) a = J ((i + 1 : Nat) : Int) (a ++ f y))
  (hb : (xs.flatMap f).length ≤ B) : J 0 [] = J (xs.length : Int) (xs.flatMap f) := by
 have key := loop_ind hx (P := fun i l => ∀ a : List β, a.length + (l.flatMap f).length ≤ B → J (i : Int) a = J (xs.length : Int) (a ++ l.flatMap f)) (by
  intro a _
  simp) (by
  intro i y l _ hlt hy hi hw ih a ha
  simp only [List.flatMap_cons, List.length_append] at ha
  rw [hs i y a hlt hy hi hw (by omega), ih (a ++ f y) (by simp only [List.length_append]; omega)]
  simp only [List.flatMap_cons, List.append_assoc]) [] (by simpa using hb)
 simpa using key
theorem bytesOf_ib (s : List UInt8) : bytesOf (s.map ib) = some s := by
 unfold bytesOf
 have h : ((s.map ib).all fun n => decide (0 ≤ n) && decide (n < 256)) = true := by
  simp only [List.all_map, List.all_eq_true]
  intro x _
  simp [ib_lt x, ib_nonneg x]
 rw [if_pos h, List.map_map]
 congr 1
 conv => rhs; rw [← List.map_id s]
 apply List.map_congr_left
 intro x _
 simp only [Function.comp, id, ib, Int.ofNat_eq_natCast, Int.toNat_natCast]
 exact UInt8.ofNat_toNat
end Go.Dv

namespace Go.Dv
open Go
theorem sorted_ext : ∀ {a b : List (List UInt8)}, a.Pairwise (fun x y => x < y) → b.Pairwise (fun x y => x < y) → (∀ x, x ∈ a ↔ x ∈ b) → a = b
 | [], b, _, _, h => by
  cases b with
  | nil => rfl
  | cons y r => exact absurd ((h y).2 (by simp)) (by simp)
 | x :: a, b, ha, hb, h => by
  cases b with
  | nil => exact absurd ((h x).1 (by simp)) (by simp)
  | cons y r =>
   rw [List.pairwise_cons] at ha hb
   have hxy : x = y := by
    rcases List.mem_cons.1 ((h x).1 (by simp)) with e | e
    ·exact e
    ·rcases List.mem_cons.1 ((h y).2 (by simp)) with f | f
     ·exact f.symm
     ·exact absurd (List.lt_trans (hb.1 x e) (ha.1 y f)) (List.lt_irrefl _)
   subst hxy
   congr 1
   refine sorted_ext ha.2 hb.2 fun z => ⟨fun hz => ?_, fun hz => ?_⟩
   ·rcases List.mem_cons.1 ((h z).1 (by simp [hz])) with e | e
    ·subst e; exact absurd (ha.1 z hz) (List.lt_irrefl _)
    ·exact e
   ·rcases List.mem_cons.1 ((h z).2 (by simp [hz])) with e | e
    ·subst e; exact absurd (hb.1 z hz) (List.lt_irrefl _)
    ·exact e
theorem compact_sorted {zs : List (List UInt8)} (hs : zs.Pairwise (fun a b => a ≤ b)) : (Lib.compact zs).Pairwise (fun x y => x < y) ∧ ∀ x, x ∈ Lib.compact zs ↔ x ∈ zs := by
 rw [List.pairwise_iff_getElem] at hs
 have key : ∀ m, m ≤ zs.length → (Lib.compactUpTo zs.toArray m).Pairwise (fun x y => x < y) ∧ ∀ x, x ∈ Lib.compactUpTo zs.toArray m ↔ x ∈ zs.take m := by
  intro m
  induction m with
  | zero => intro _; simp [Lib.compactUpTo]
  | succ m ih =>
   intro hm
   obtain ⟨i1, i2⟩ := ih (by omega)
   have hlt : m < zs.length := by omega
   have e1 : zs.toArray[m]! = zs[m] := by simp [getElem!_pos, hlt]
   rw [Lib.compactUpTo_succ, e1, List.take_succ_eq_append_getElem hlt]
   by_cases hk : Lib.keeps zs.toArray m = true
   ·rw [if_pos hk]
    simp only [Lib.keeps, decide_eq_true_eq] at hk
    refine ⟨?_, fun x => by rw [List.mem_append, List.mem_append, i2 x]⟩
    rw [List.pairwise_append]
    refine ⟨i1, by simp, fun a ha b hb => ?_⟩
    have hb : b = zs[m] := by simpa using hb
    subst hb
    have ha := (i2 a).1 ha
    obtain ⟨j, hj, rfl⟩ := List.getElem_of_mem ha
    have hj' : j < m := by simp at hj; omega
    rw [List.getElem_take]
    have h0 : ¬ m = 0 := by omega
    have e2 : zs.toArray[m - 1]! = zs[m - 1] := by simp [getElem!_pos, show m - 1 < zs.length by omega]
    have hne : ¬ zs[m] = zs[m - 1] := by
     rcases hk with h | h
     ·exact absurd h h0
     ·rw [e1, e2] at h; exact h
    have h1 : zs[j] ≤ zs[m - 1] := by
     by_cases e : j = m - 1
     ·subst e; exact List.le_refl _
     ·exact hs j (m - 1) (by omega) (by omega) (by omega)
    have h2 : zs[m - 1] ≤ zs[m] := hs (m - 1) m (by omega) (by omega) (by omega)
    rw [← List.not_le]
    intro h3
    exact hne (List.le_antisymm (List.le_trans h3 h1) h2)
   ·rw [if_neg hk]
    simp only [Lib.keeps, decide_eq_true_eq, not_or, Classical.not_not] at hk
    have e2 : zs.toArray[m - 1]! = zs[m - 1] := by simp [getElem!_pos, show m - 1 < zs.length by omega]
    rw [e1, e2] at hk
    refine ⟨by simpa using i1, fun x => ?_⟩
    simp only [List.append_nil, i2 x, List.mem_append, List.mem_singleton]
    constructor
    ·exact .inl
    ·rintro (h | h)
     ·exact h
     ·rw [h, hk.2]
      exact List.mem_take_iff_getElem.2 ⟨m - 1, by omega, rfl⟩
 have := key zs.length (Nat.le_refl _)
 rw [List.take_length] at this
 exact this
theorem sort_sorted (xs : List (List UInt8)) : (Lib.compact (xs.mergeSort fun x y => decide (x ≤ y))).Pairwise (fun x y => x < y) ∧ ∀ x, x ∈ Lib.compact (xs.mergeSort fun x y => decide (x ≤ y)) ↔ x ∈ xs := by
 have hs : List.Pairwise (fun a b => (decide (a ≤ b)) = true) (xs.mergeSort fun x y => decide (x ≤ y)) :=
  List.pairwise_mergeSort (fun a b c h k => by simp only [decide_eq_true_eq] at *; exact List.le_trans h k) (fun a b => by simp only [Bool.or_eq_true, decide_eq_true_eq]; exact List.le_total a b) xs
 simp only [decide_eq_true_eq] at hs
 obtain ⟨h1, h2⟩ := compact_sorted hs
 exact ⟨h1, fun x => (h2 x).trans List.mem_mergeSort⟩
def insS (x : List UInt8) : List (List UInt8) → List (List UInt8)
 | [] => [x]
 | y :: r => if y = x then y :: r else if y < x then y :: insS x r else x :: y :: r
theorem insS_mem (x z : List UInt8) : ∀ l, z ∈ insS x l ↔ z = x ∨ z ∈ l
 | [] => by simp [insS]
 | y :: r => by
  simp only [insS]
  split
  ·next h => subst h; simp
  ·split
   ·simp only [List.mem_cons, insS_mem x z r]
    constructor <;> (intro h; rcases h with h | h | h <;> simp [h])
   ·simp
theorem insS_sorted (x : List UInt8) : ∀ {l : List (List UInt8)}, l.Pairwise (fun x y => x < y) → (insS x l).Pairwise (fun x y => x < y)
 | [], _ => by simp [insS]
 | y :: r, h => by
  have h' := List.pairwise_cons.1 h
  simp only [insS]
  split
  ·exact h
  ·next hne =>
   split
   ·next hlt =>
    rw [List.pairwise_cons]
    refine ⟨fun z hz => ?_, insS_sorted x h'.2⟩
    rcases (insS_mem x z r).1 hz with e | e
    ·rw [e]; exact hlt
    ·exact h'.1 z e
   ·next hge =>
    have hxy : x < y := by
     rw [← List.not_le]; intro h3
     exact hne (List.le_antisymm h3 (List.not_lt.1 hge))
    rw [List.pairwise_cons]
    refine ⟨fun z hz => ?_, h⟩
    rcases List.mem_cons.1 hz with e | e
    ·rw [e]; exact hxy
    ·exact List.lt_trans hxy (h'.1 z e)
theorem insS_len (x : List UInt8) : ∀ l, (insS x l).length ≤ l.length + 1
 | [] => by simp [insS]
 | y :: r => by
  simp only [insS]
  have := insS_len x r
  split
  ·simp
  ·split <;> simp <;> omega
def insAll (l a : List (List UInt8)) : List (List UInt8) := l.foldl (fun a n => insS n a) a
theorem insAll_sorted : ∀ (l : List (List UInt8)) {a : List (List UInt8)}, a.Pairwise (fun x y => x < y) → (insAll l a).Pairwise (fun x y => x < y) ∧ (∀ z, z ∈ insAll l a ↔ z ∈ l ∨ z ∈ a) ∧ (insAll l a).length ≤ l.length + a.length
 | [], a, h => ⟨h, fun z => by simp [insAll], by simp [insAll]⟩
 | x :: l, a, h => by
  obtain ⟨h1, h2, h3⟩ := insAll_sorted l (insS_sorted x h)
  have hl := insS_len x a
  refine ⟨h1, fun z => ?_, ?_⟩
  ·show z ∈ insAll l (insS x a) ↔ _
   rw [h2, insS_mem]
   simp only [List.mem_cons]
   grind
  ·show (insAll l (insS x a)).length ≤ _
   simp only [List.length_cons]; omega
theorem insAll_sort (l : List (List UInt8)) : Lib.compact (l.mergeSort fun x y => decide (x ≤ y)) = insAll l [] := by
 obtain ⟨h1, h2⟩ := sort_sorted l
 obtain ⟨h3, h4, _⟩ := insAll_sorted l (a := []) List.Pairwise.nil
 exact sorted_ext h1 h3 fun x => (h2 x).trans ((h4 x).trans (by simp)).symm
end Go.Dv

namespace Go.Dv.U
open Go Go.Dv Go.Proofs
theorem i_within_ok (a b c : Int) : i_within a b c = some (decide (b ≤ a) && decide (a ≤ c)) := by
 rw [i_within_eq]; grind
theorem s_l00In_ok (a b c : Int) : s_l00In a b c = some (decide (b ≤ a) && decide (a ≤ c)) := by
 rw [s_l00In_eq]; grind
end Go.Dv.U

namespace Go.Dv.U
open Go Go.Dv Go.Proofs
def isLet (b : Int) : Bool := (decide (65 ≤ b) && decide (b ≤ 90)) || (decide (97 ≤ b) && decide (b ≤ 122))
def isDig (b : Int) : Bool := decide (48 ≤ b) && decide (b ≤ 57)
def isNmB (b : Int) : Bool := isLet b || isDig b || b == 95
theorem i_isLetter_ok (b : Int) : i_isLetter b = some (isLet b) := by
 rw [i_isLetter_eq]; unfold isLet; grind
theorem s_l02Letter_ok (b : Int) : s_l02Letter b = some (isLet b) := by
 rw [s_l02Letter_eq]; unfold isLet; grind
theorem i_isDigit_ok (b : Int) : i_isDigit b = some (isDig b) := by
 rw [i_isDigit_eq]; unfold isDig; grind
theorem s_l02Digit_ok (b : Int) : s_l02Digit b = some (isDig b) := by
 rw [s_l02Digit_eq]; unfold isDig; grind
theorem i_isNameByte_ok (b : Int) : i_isNameByte b = some (isNmB b) := by
 rw [i_isNameByte_eq, i_isLetter_ok, i_isDigit_ok]; unfold isNmB
 simp only [Option.bind_some]; grind
def isName (s : List UInt8) : Bool := match s with
 | [] => false
 | b :: _ => decide (s.length ≤ 12) && isLet (ib b) && s.all fun c => isNmB (ib c)
theorem i_areAllNm_ok {s : List UInt8} (h : s.length ≤ 9223372036854775807) : i_areAll_byte__i_isNameByte (s.map ib) = some (s.all fun c => isNmB (ib c)) := by
 rw [i_areAll_byte__i_isNameByte_eq]
 have := all_loop (xs := s.map ib) (by simpa using h) (F := i_isNameByte) (p := isNmB) (J := i_areAll_byte_L2__i_isNameByte (s.map ib) (len (s.map ib))) (fun i => by rw [i_areAll_byte_L2__i_isNameByte_eq]) (fun y _ => i_isNameByte_ok y)
 rw [this, List.all_map]
 rfl
theorem i_IsName_ok {s : List UInt8} : i_IsName s = some (isName s) := by
 rw [i_IsName_eq]
 cases s with
 | nil => simp [isName, len_eq]
 | cons b r =>
  by_cases h : (b :: r).length ≤ 12
  ·have h1 : decide (len (b :: r) ≥ 1) = true := by simp only [len_eq, List.length_cons, decide_eq_true_eq]; omega
   have h2 : decide (len (b :: r) ≤ 12) = true := by simp only [len_eq, decide_eq_true_eq]; omega
   rw [if_pos h1, if_pos h2, idx_zero]
   simp only [List.getElem?_cons_zero, Option.bind_some, i_isLetter_ok]
   have := i_areAllNm_ok (s := b :: r) (by omega)
   simp only [List.map_cons] at this ⊢
   rw [this]
   simp only [isName, h, decide_true, Bool.true_and, Option.bind_some]
   cases isLet (ib b) <;> simp
  ·have h2 : ¬ decide (len (b :: r) ≤ 12) = true := by simp only [len_eq, decide_eq_true_eq]; omega
   rw [if_neg h2]
   simp only [isName, h, decide_false, Bool.false_and]
   split <;> rfl
def nmRun : List UInt8 → Nat
 | [] => 0
 | b :: r => if isNmB (ib b) then nmRun r + 1 else 0
theorem nmRun_all : ∀ s, nmRun s = s.length ↔ (s.all fun c => isNmB (ib c)) = true
 | [] => by simp [nmRun]
 | b :: r => by
  have := nmRun_all r
  simp only [nmRun, List.length_cons, List.all_cons, Bool.and_eq_true]
  cases isNmB (ib b)
  ·simp
  ·simp [this]
theorem s_l02NameEnd_L3_ok {s : List UInt8} (h : s.length ≤ 9223372036854775807) : ∀ (n i : Nat), i + n = s.length → s_l02NameEnd_L3 s i = some ((i + nmRun (s.drop i) : Nat) : Int) := by
 intro n
 induction n with
 | zero =>
  intro i hi
  have : i = s.length := by omega
  subst this
  rw [s_l02NameEnd_L3_eq, s_l02NameEnd_L5_eq, List.drop_length]
  simp [len_eq, nmRun]
 | succ n ih =>
  intro i hi
  have hlt : i < s.length := by omega
  have hc : decide ((i : Int) < len s) = true := by simp [len_eq, hlt]
  rw [s_l02NameEnd_L3_eq, if_pos hc, idx_nat, List.getElem?_eq_getElem hlt, List.drop_eq_getElem_cons hlt]
  simp only [Option.bind_some, s_l02Letter_ok, s_l02Digit_ok, s_l02NameEnd_L4_eq, s_l02NameEnd_L5_eq, nmRun]
  have hw : w64 ((i : Int) + 1) = ((i + 1 : Nat) : Int) := by rw [w64_of (by omega) (by omega)]; omega
  rw [hw, ih (i + 1) (by omega)]
  unfold isNmB
  cases isLet (ib s[i]) <;> cases isDig (ib s[i]) <;> cases hb : (ib s[i] == 95) <;> simp <;> omega
theorem s_l02NameEnd_ok {s : List UInt8} (h : s.length ≤ 9223372036854775807) {i : Nat} (hi : i ≤ s.length) :
  s_l02NameEnd s i = some (match s.drop i with
   | [] => (i : Int)
   | b :: r => if isLet (ib b) then ((i + nmRun (b :: r) : Nat) : Int) else i) := by
 rw [s_l02NameEnd_eq]
 by_cases hlt : i < s.length
 ·have hc : ¬ decide ((i : Int) ≥ len s) = true := by simp only [len_eq, decide_eq_true_eq]; omega
  rw [if_neg hc, idx_nat, List.getElem?_eq_getElem hlt, List.drop_eq_getElem_cons hlt]
  simp only [Option.bind_some, s_l02Letter_ok]
  rw [s_l02NameEnd_L3_ok h (s.length - i) i (by omega), List.drop_eq_getElem_cons hlt]
  cases isLet (ib s[i]) <;> simp
 ·have : i = s.length := by omega
  subst this
  rw [List.drop_length]
  simp [len_eq]
theorem s_IsName_ok {s : List UInt8} : s_IsName s = some (isName s) := by
 rw [s_IsName_eq]
 cases s with
 | nil => simp [isName]
 | cons b r =>
  have h0 : (!(b :: r) == []) = true := rfl
  rw [if_pos h0]
  by_cases h : (b :: r).length ≤ 12
  ·have h2 : decide (len (b :: r) ≤ 12) = true := by simp only [len_eq, decide_eq_true_eq]; omega
   have := s_l02NameEnd_ok (s := b :: r) (by omega) (Nat.zero_le _)
   simp only [Int.natCast_zero, List.drop_zero, Nat.zero_add] at this
   rw [if_pos h2, this]
   simp only [isName, h, decide_true, Bool.true_and, Option.bind_some, len_eq]
   congr 1
   rw [Bool.eq_iff_iff, Bool.and_eq_true, ← nmRun_all]
   cases hL : isLet (ib b)
   ·simp; omega
   ·simp; omega
  ·have h2 : ¬ decide (len (b :: r) ≤ 12) = true := by simp only [len_eq, decide_eq_true_eq]; omega
   rw [if_neg h2]
   simp only [isName, h, decide_false, Bool.false_and]
end Go.Dv.U

namespace Go.Dv.U
open Go Go.Dv Go.Proofs
def isPl (b : UInt8) : Bool := decide (32 ≤ ib b) && decide (ib b ≤ 126)
def allPl (s : List UInt8) : Bool := s.all isPl
def hasB (c : Int) (s : List UInt8) : Bool := s.any fun b => ib b == c
theorem i_isPlain_ok (b : Int) : i_isPlain b = some (decide (32 ≤ b) && decide (b ≤ 126)) := by
 rw [i_isPlain_eq]; grind
theorem i_isPlainText_ok {s : List UInt8} (h : s.length ≤ 9223372036854775807) : i_isPlainText s = some (allPl s) := by
 rw [i_isPlainText_eq, i_areAll_byte__i_isPlain_eq]
 have := all_loop (xs := s.map ib) (by simpa using h) (F := i_isPlain) (p := fun b => decide (32 ≤ b) && decide (b ≤ 126)) (J := i_areAll_byte_L2__i_isPlain (s.map ib) (len (s.map ib))) (fun i => by rw [i_areAll_byte_L2__i_isPlain_eq]) (fun y _ => i_isPlain_ok y)
 rw [this, List.all_map]
 rfl
def isPr (x : Bool) (b : UInt8) : Bool := isPl b || (x && ib b == 10)
theorem s_l01Printable_ok' {s : List UInt8} (h : s.length ≤ 9223372036854775807) (x : Bool) : s_l01Printable s x = some (s.all (isPr x)) := by
 rw [s_l01Printable_eq]
 refine loop_ind (xs := s) h (P := fun i l => s_l01Printable_L2 s x i = some (l.all (isPr x))) ?_ ?_
 ·rw [s_l01Printable_L2_eq]; simp [len_eq]
 ·intro i y l _ hlt hy hi hw ih
  rw [s_l01Printable_L2_eq, hi, if_pos (by simp [len_eq, hlt])]
  simp only [Option.bind_some, s_l01Printable_L5_eq, s_l01Printable_L3_eq, hw, ih, List.all_cons, isPr, isPl]
  by_cases h1 : ib y < 32
  ·have h3 : ¬ (32 ≤ ib y) := by omega
   cases x <;> by_cases h2 : ib y = 10 <;> simp [h1, h2, h3]
  ·have h3 : 32 ≤ ib y := by omega
   by_cases h2 : ib y > 126
   ·have h4 : ¬ (ib y ≤ 126) := by omega
    have h5 : ¬ ib y = 10 := by omega
    cases x <;> simp [h1, h2, h3, h4, h5]
   ·have h4 : ib y ≤ 126 := by omega
    cases x <;> simp [h1, h2, h3, h4]
theorem s_l01Printable_ok {s : List UInt8} (h : s.length ≤ 9223372036854775807) : s_l01Printable s false = some (allPl s) := by
 rw [s_l01Printable_ok' h]
 congr 1
 unfold allPl
 congr 1
 funext b
 simp [isPr]
theorem s_l02Holds_ok {s : List UInt8} (h : s.length ≤ 9223372036854775807) (c : Int) : s_l02Holds s c = some (hasB c s) := by
 rw [s_l02Holds_eq]
 exact any_loop h (p := fun b => ib b == c) (J := s_l02Holds_L2 s c) (fun i => by rw [s_l02Holds_L2_eq])
theorem index_one (c : UInt8) : ∀ s : List UInt8, decide (0 ≤ Lib.index s [c]) = hasB (ib c) s
 | [] => by simp [Lib.index, hasB]
 | b :: l => by
  have ih := index_one c l
  have hge := Lib.index_ge l [c]
  unfold Lib.index
  have hp : [c].isPrefixOf (b :: l) = (ib b == ib c) := by
   rw [Bool.eq_iff_iff]
   simp only [List.isPrefixOf, Bool.and_true, beq_iff_eq, ib_inj]
   exact eq_comm
  have hh : hasB (ib c) (b :: l) = (ib b == ib c || hasB (ib c) l) := rfl
  rw [hp, hh, ← ih]
  cases (ib b == ib c)
  ·simp only [Bool.false_eq_true, if_false, Bool.false_or]
   split
   ·rename_i h; rw [beq_iff_eq] at h; rw [h]
   ·rename_i h
    have h : ¬ Lib.index l [c] = -1 := by simpa using h
    rw [Bool.eq_iff_iff, decide_eq_true_eq, decide_eq_true_eq]; omega
  ·simp
theorem containsS_one {s : List UInt8} (h : s.length < 4294967281) (c : UInt8) : containsS s [c] = some (hasB (ib c) s) := by
 unfold containsS
 rw [if_pos h, ← index_one]
 rfl
def canQ (s : List UInt8) : Bool := decide (s.length ≤ 200) && allPl s && !(hasB 39 s && hasB 34 s)
def quote (s : List UInt8) : List UInt8 := if canQ s = true then (if hasB 39 s = true then 34 :: s ++ [34] else 39 :: s ++ [39]) else []
theorem c39 (s : List UInt8) (h : s.length ≤ 200) : containsS s [39] = some (hasB 39 s) := containsS_one (by omega) 39
theorem c34 (s : List UInt8) (h : s.length ≤ 200) : containsS s [34] = some (hasB 34 s) := containsS_one (by omega) 34
theorem i_CanQuote_ok (s : List UInt8) : i_CanQuote s = some (canQ s) := by
 rw [i_CanQuote_eq]
 by_cases h : s.length ≤ 200
 ·have h1 : decide (len s ≤ 200) = true := by simp only [len_eq, decide_eq_true_eq]; omega
  rw [if_pos h1, i_isPlainText_ok (by omega), c39 s h, c34 s h]
  simp only [Option.bind_some, canQ, h, decide_true, Bool.true_and]
  cases allPl s <;> cases hasB 39 s <;> simp
 ·have h1 : ¬ decide (len s ≤ 200) = true := by simp only [len_eq, decide_eq_true_eq]; omega
  rw [if_neg h1]
  simp [canQ, h]
theorem s_CanQuote_ok (s : List UInt8) : s_CanQuote s = some (canQ s) := by
 rw [s_CanQuote_eq]
 by_cases h : s.length ≤ 200
 ·have h1 : decide (len s ≤ 200) = true := by simp only [len_eq, decide_eq_true_eq]; omega
  rw [if_pos h1, s_l01Printable_ok (by omega), s_l02Holds_ok (by omega), s_l02Holds_ok (by omega)]
  simp only [Option.bind_some, canQ, h, decide_true, Bool.true_and]
  cases allPl s <;> cases hasB 39 s <;> simp
 ·have h1 : ¬ decide (len s ≤ 200) = true := by simp only [len_eq, decide_eq_true_eq]; omega
  rw [if_neg h1]
  simp [canQ, h]
theorem canQ_len {s : List UInt8} (h : canQ s = true) : s.length ≤ 200 := by
 unfold canQ at h
 simp only [Bool.and_eq_true_iff, decide_eq_true_eq] at h
 exact h.1.1
theorem quote_len (s : List UInt8) : (quote s).length ≤ 202 := by
 unfold quote
 split
 ·rename_i h
  have := canQ_len h
  split <;> simp <;> omega
 ·simp
theorem i_QuoteString_ok (s : List UInt8) : i_QuoteString s = some (quote s) := by
 rw [i_QuoteString_eq, i_CanQuote_ok]
 simp only [Option.bind_some, quote]
 cases h : canQ s
 ·rfl
 ·have hl := canQ_len h
  simp only [Bool.not_true, Bool.false_eq_true, if_false, if_true, c39 s hl, Option.bind_some]
  rw [app_of (by simp; omega), app_of (by simp; omega)]
  simp only [Option.bind_some]
  rw [app_of (by simp; omega), app_of (by simp; omega)]
  cases hasB 39 s <;> rfl
theorem s_QuoteString_ok (s : List UInt8) : s_QuoteString s = some (quote s) := by
 rw [s_QuoteString_eq, s_CanQuote_ok]
 simp only [Option.bind_some, quote]
 cases h : canQ s
 ·rfl
 ·have hl := canQ_len h
  simp only [Bool.not_true, Bool.false_eq_true, if_false, if_true, s_l02Holds_ok (show s.length ≤ 9223372036854775807 by omega), Option.bind_some]
  rw [app_of (by simp; omega), app_of (by simp; omega)]
  simp only [Option.bind_some]
  rw [app_of (by simp; omega), app_of (by simp; omega)]
  cases hasB 39 s <;> rfl
theorem nDigits_le : ∀ (k u : Nat), u < 10 ^ (k + 1) → Lib.nDigits u ≤ k + 1
 | 0, u, h => by rw [Lib.nDigits_small (by simpa using h)]; exact Nat.le_refl _
 | k + 1, u, h => by
  by_cases hu : u < 10
  ·rw [Lib.nDigits_small hu]; omega
  ·rw [Lib.nDigits_big hu]
   have := nDigits_le k (u / 10) (by rw [Nat.div_lt_iff_lt_mul (by decide)]; rw [Nat.pow_succ] at h; exact h)
   omega
theorem digit_byte {r : Int} (h0 : 0 ≤ r) (h1 : r < 10) : UInt8.ofNat (Int.toNat (IntKind.wrap .u8 (w64 (48 + r)))) = UInt8.ofNat (48 + r.toNat) := by
 rw [w64_of (by omega) (by omega)]
 have e2 : IntKind.u8.wrap (48 + r) = 48 + r := by unfold IntKind.wrap; simp [IntKind.bits, IntKind.signed]; omega
 rw [e2]
 congr 1
 omega
theorem rem_ten (u : Nat) : rem (u : Int) 10 = some ((u % 10 : Nat) : Int) := by
 unfold rem
 rw [if_neg (by decide), Int.tmod_eq_emod_of_nonneg (by omega)]
 congr 1
theorem quo_ten {u : Nat} (h : u < 9223372036854775808) : quo .i64 (u : Int) 10 = some ((u / 10 : Nat) : Int) := by
 unfold quo
 rw [if_neg (by decide), Int.tdiv_eq_ediv_of_nonneg (by omega)]
 congr 1
 have : IntKind.i64.wrap ((u : Int) / 10) = w64 ((u : Int) / 10) := rfl
 rw [this, w64_of (by omega) (by omega)]
 omega
theorem s_l02Int_L4_ok : ∀ (k u : Nat) (s : List UInt8), u < 10 ^ (k + 1) → u < 9223372036854775808 → s.length + k + 1 ≤ 1000 → s_l02Int_L4 u s = some (Lib.decDigits u ++ s) := by
 intro k
 induction k with
 | zero =>
  intro u s h h2 hl
  have hu : u < 10 := by simpa using h
  rw [s_l02Int_L4_eq, if_neg (by simp only [decide_eq_true_eq]; omega)]
  simp only [List.map_cons, List.map_nil, digit_byte (r := (u : Int)) (by omega) (by omega), Int.toNat_natCast]
  rw [app_of (by simp; omega)]
  rw [Lib.decDigits_one hu]
  rfl
 | succ k ih =>
  intro u s h h2 hl
  by_cases hu : u < 10
  ·rw [s_l02Int_L4_eq, if_neg (by simp only [decide_eq_true_eq]; omega)]
   simp only [List.map_cons, List.map_nil, digit_byte (r := (u : Int)) (by omega) (by omega), Int.toNat_natCast]
   rw [app_of (by simp; omega), Lib.decDigits_one hu]
   rfl
  ·rw [s_l02Int_L4_eq, if_pos (by simp only [decide_eq_true_eq]; omega), rem_ten, quo_ten h2]
   simp only [Option.bind_some, List.map_cons, List.map_nil, digit_byte (r := ((u % 10 : Nat) : Int)) (by omega) (by omega), Int.toNat_natCast]
   rw [app_of (by simp; omega)]
   simp only [Option.bind_some]
   rw [ih (u / 10) _ (by rw [Nat.div_lt_iff_lt_mul (by decide)]; rw [Nat.pow_succ] at h; exact h) (by omega) (by simp; omega)]
   have hd : Lib.decDigits u = Lib.decDigits (u / 10) ++ [UInt8.ofNat (48 + u % 10)] := by
    rw [Lib.decDigits, dif_neg hu]
   rw [hd]
   simp
theorem itoa_nat (u : Nat) : Lib.itoa (u : Int) = Lib.decDigits u := by
 unfold Lib.itoa
 rw [if_neg (by omega)]
 rfl
theorem s_l02Int_ok {n : Int} (h0 : 0 ≤ n) (h1 : n < 9223372036854775808) : s_l02Int n = some (Lib.itoa n) := by
 obtain ⟨u, rfl⟩ : ∃ u : Nat, n = u := ⟨n.toNat, by omega⟩
 rw [s_l02Int_eq, if_neg (by simp), s_l02Int_L4_ok 18 u [] (by omega) (by omega) (by decide), itoa_nat]
 simp
theorem i_decimal_ok {n : Int} (h0 : -9223372036854775808 ≤ n) (h1 : n ≤ 9223372036854775807) : i_decimal n = some (Lib.itoa n) := by
 rw [i_decimal_eq]
 unfold itoaS
 rw [if_pos ⟨rfl, h0, h1⟩]
 rfl
theorem itoa_len {n : Int} (h0 : 0 ≤ n) (h1 : n ≤ 1000000000000) : (Lib.itoa n).length ≤ 13 := by
 obtain ⟨u, rfl⟩ : ∃ u : Nat, n = u := ⟨n.toNat, by omega⟩
 rw [itoa_nat, Lib.decDigits_length]
 exact nDigits_le 12 u (by omega)
end Go.Dv.U

namespace Go.Dv.U
open Go Go.Dv Go.Proofs
def SrcOk (c : List Int) (a B : Int) : Prop := (∀ y ∈ c, 0 ≤ y ∧ y ≤ 255) ∧ c.length ≤ 9223372036854775807 ∧ 0 ≤ a ∧ a ≤ B
def Dr {α : Type} (o : Option (α × ((List Int × Int × Int × Unit) × Unit))) (B : Int) (P : α → Prop) : Prop := ∃ v c a s, o = some (v, ((c, a, s, ()), ())) ∧ SrcOk c a B ∧ P v
theorem SrcOk.le {c : List Int} {a B B' : Int} (h : SrcOk c a B) (hb : B ≤ B') : SrcOk c a B' := ⟨h.1, h.2.1, h.2.2.1, by have := h.2.2.2; omega⟩
theorem Dr.le {α : Type} {o : Option (α × ((List Int × Int × Int × Unit) × Unit))} {B B' : Int} {P Q : α → Prop} (h : Dr o B P) (hb : B ≤ B') (hq : ∀ v, P v → Q v) : Dr o B' Q := by
 obtain ⟨v, c, a, s, h1, h2, h3⟩ := h
 exact ⟨v, c, a, s, h1, h2.le hb, hq v h3⟩
theorem Dr.bind {α β : Type} {o : Option (α × ((List Int × Int × Int × Unit) × Unit))} {B B' : Int} {P : α → Prop} {Q : β → Prop} {k : α × ((List Int × Int × Int × Unit) × Unit) → Option (β × ((List Int × Int × Int × Unit) × Unit))}
  (h : Dr o B P) (hk : ∀ v c a s, SrcOk c a B → P v → Dr (k (v, ((c, a, s, ()), ()))) B' Q) : Dr (o.bind k) B' Q := by
 obtain ⟨v, c, a, s, rfl, h2, h3⟩ := h
 exact hk v c a s h2 h3
theorem Dr.some {α : Type} {v : α} {c : List Int} {a s B : Int} {P : α → Prop} (h : SrcOk c a B) (hp : P v) : Dr (Option.some (v, ((c, a, s, ()), ()))) B P := ⟨v, c, a, s, rfl, h, hp⟩
theorem and255 (y : Int) : 0 ≤ w64 (bitsOp Go.BinOp.and Go.IntKind.u64 y 255) ∧ w64 (bitsOp Go.BinOp.and Go.IntKind.u64 y 255) ≤ 255 := by
 have h : (BitVec.ofInt IntKind.u64.bits y &&& BitVec.ofInt IntKind.u64.bits 255).toNat ≤ 255 := by
  rw [BitVec.toNat_and]
  exact Nat.le_trans Nat.and_le_right (by decide)
 have e : bitsOp Go.BinOp.and Go.IntKind.u64 y 255 = ((BitVec.ofInt IntKind.u64.bits y &&& BitVec.ofInt IntKind.u64.bits 255).toNat : Int) := by
  show IntKind.u64.wrap _ = _
  generalize (BitVec.ofInt IntKind.u64.bits y &&& BitVec.ofInt IntKind.u64.bits 255).toNat = m at h
  unfold IntKind.wrap
  simp [IntKind.bits, IntKind.signed]
  omega
 rw [e, w64_of (by omega) (by omega)]
 omega
theorem s_l00Src_next_ok {c : List Int} {a s B : Int} (h : SrcOk c a B) (hB : B ≤ 4611686018427387904) : Dr (s_l00Src_next c a s) (B + 1) (fun v => 0 ≤ v ∧ v ≤ 255) := by
 obtain ⟨h1, h2, h3, h4⟩ := h
 have hs : SrcOk c (w64 (a + 1)) (B + 1) := ⟨h1, h2, by rw [w64_of (by omega) (by omega)]; omega, by rw [w64_of (by omega) (by omega)]; omega⟩
 rw [s_l00Src_next_eq]
 have hsh : ∀ x : Int, shr Go.IntKind.u64 x 40 = some (x.fdiv (2 ^ (min (Int.toNat 40) Go.IntKind.u64.bits))) := fun x => rfl
 simp only [hsh, Option.bind_some]
 by_cases hlt : a < c.length
 ·obtain ⟨n, rfl⟩ : ∃ n : Nat, a = n := ⟨a.toNat, by omega⟩
  have hn : n < c.length := by omega
  rw [if_pos (by simpa [len_eq] using hlt), idx_nat, List.getElem?_eq_getElem hn]
  have hy := h1 _ (List.getElem_mem hn)
  simp only [Option.bind_some]
  split
  ·exact Dr.some hs (by rw [w64_of (by omega) (by omega)]; exact hy)
  ·exact Dr.some hs (and255 _)
 ·rw [if_neg (by simpa [len_eq] using hlt)]
  split
  ·exact Dr.some hs (by omega)
  ·exact Dr.some hs (and255 _)
theorem rem_of {x n : Int} (hx : 0 ≤ x) (hn : 1 < n) : ∃ y, rem x n = some y ∧ 0 ≤ y ∧ y < n := by
 unfold rem
 rw [if_neg (by omega)]
 refine ⟨_, rfl, ?_, ?_⟩
 ·rw [Int.tmod_eq_emod_of_nonneg hx]; exact Int.emod_nonneg _ (by omega)
 ·rw [Int.tmod_eq_emod_of_nonneg hx]; exact Int.emod_lt_of_pos _ (by omega)
theorem s_l00Src_pick_ok (n : Int) {c : List Int} {a s B : Int} (h : SrcOk c a B) (hB : B ≤ 4611686018427387000) : Dr (s_l00Src_pick n c a s) (B + 2) (fun v => 0 ≤ v ∧ (1 < n → v < n) ∧ (n ≤ 1 → v = 0)) := by
 rw [s_l00Src_pick_eq]
 by_cases h1 : n ≤ 1
 ·rw [if_pos (by simpa using h1)]
  exact Dr.some (h.le (by omega)) ⟨by omega, fun h => by omega, fun _ => rfl⟩
 rw [if_neg (by simpa using h1)]
 refine (s_l00Src_next_ok h (by omega)).bind fun v c2 a2 s2 h2 hv => ?_
 simp only
 by_cases h3 : n > 200
 ·rw [if_pos (by simpa using h3)]
  refine (s_l00Src_next_ok h2 (by omega)).bind fun v2 c3 a3 s3 h4 hv2 => ?_
  simp only
  rw [w64_of (n := v * 256) (by omega) (by omega), w64_of (by omega) (by omega)]
  obtain ⟨y, hy, y0, y1⟩ := rem_of (x := v * 256 + v2) (n := n) (by omega) (by omega)
  rw [hy]
  exact Dr.some (h4.le (by omega)) ⟨y0, fun _ => y1, fun h => by omega⟩
 ·rw [if_neg (by simpa using h3)]
  obtain ⟨y, hy, y0, y1⟩ := rem_of (x := v) (n := n) (by omega) (by omega)
  rw [hy]
  exact Dr.some (h2.le (by omega)) ⟨y0, fun _ => y1, fun h => by omega⟩
theorem s_l00Src_one_ok (n : Int) {c : List Int} {a s B : Int} (h : SrcOk c a B) (hB : B ≤ 4611686018427387000) : Dr (s_l00Src_one n c a s) (B + 2) (fun _ => True) := by
 rw [s_l00Src_one_eq]
 exact (s_l00Src_pick_ok n h hB).bind fun v c2 a2 s2 h2 hv => Dr.some h2 trivial
theorem pick_idx {α : Type} {xs : List α} {v : Int} (hv : 0 ≤ v ∧ (1 < (len xs) → v < len xs) ∧ (len xs ≤ 1 → v = 0)) (hx : xs ≠ []) : ∃ y, idx xs v = some y ∧ y ∈ xs := by
 have hp : 0 < xs.length := List.length_pos_iff.2 hx
 rw [len_eq] at hv
 have hlt : v.toNat < xs.length := by
  by_cases h : (1 : Int) < xs.length
  ·have := hv.2.1 h; omega
  ·have := hv.2.2 (by omega); omega
 exact ⟨xs[v.toNat], by rw [idx_of hv.1, List.getElem?_eq_getElem hlt], List.getElem_mem hlt⟩
theorem s_l00Src_text_ok (xs : List (List UInt8)) (hx : xs ≠ []) {c : List Int} {a s B : Int} (h : SrcOk c a B) (hB : B ≤ 4611686018427387000) : Dr (s_l00Src_text xs c a s) (B + 2) (fun v => v ∈ xs) := by
 rw [s_l00Src_text_eq]
 refine (s_l00Src_pick_ok _ h hB).bind fun v c2 a2 s2 h2 hv => ?_
 obtain ⟨y, hy, hm⟩ := pick_idx hv hx
 simp only [hy, Option.bind_some]
 exact Dr.some h2 hm
theorem s_l00Src_among_ok (xs : List Int) (hx : xs ≠ []) {c : List Int} {a s B : Int} (h : SrcOk c a B) (hB : B ≤ 4611686018427387000) : Dr (s_l00Src_among xs c a s) (B + 2) (fun v => v ∈ xs) := by
 rw [s_l00Src_among_eq]
 refine (s_l00Src_pick_ok _ h hB).bind fun v c2 a2 s2 h2 hv => ?_
 obtain ⟨y, hy, hm⟩ := pick_idx hv hx
 simp only [hy, Option.bind_some]
 exact Dr.some h2 hm
end Go.Dv.U

namespace Go.Dv.U
open Go Go.Dv Go.Proofs
theorem i_first2_ok (a b : Int) : i_first [a, b] = some (if a ≠ 0 then a else b) := by
 rw [i_first_eq]
 have e2 : len [a, b] = 2 := rfl
 have w1 : w64 (0 + 1) = 1 := by decide
 have w2 : w64 (1 + 1) = 2 := by decide
 rw [e2, i_first_L2_eq, if_pos (by decide), idx_zero]
 simp only [List.getElem?_cons_zero, Option.bind_some]
 by_cases ha : a = 0
 ·subst ha
  rw [if_neg (by simp), w1, i_first_L2_eq, if_pos (by decide), idx_one]
  simp only [List.getElem?_cons_succ, List.getElem?_cons_zero, Option.bind_some]
  by_cases hb : b = 0
  ·subst hb
   rw [if_neg (by simp), w2, i_first_L2_eq, if_neg (by decide)]
   simp
  ·rw [if_pos (by simpa using hb)]; simp
 ·rw [if_pos (by simpa using ha), if_pos ha]
theorem i_unless_ok (b : Bool) (n : Int) : i_unless b n = some (if b = true then 0 else n) := by
 rw [i_unless_eq, ite_some]
end Go.Dv.U

namespace Go.Dv.U
open Go Go.Dv Go.Proofs
def runOf (p : Int → Bool) : List UInt8 → Nat
 | [] => 0
 | b :: r => if p (ib b) = true then runOf p r + 1 else 0
theorem runOf_le (p : Int → Bool) : ∀ s, runOf p s ≤ s.length
 | [] => Nat.le_refl _
 | b :: r => by
  have := runOf_le p r
  simp only [runOf, List.length_cons]
  split <;> omega
theorem runOf_all (p : Int → Bool) : ∀ s : List UInt8, (s.take (runOf p s)).all (fun b => p (ib b)) = true
 | [] => rfl
 | b :: r => by
  simp only [runOf]
  split
  ·rename_i h
   rw [List.take_succ_cons, List.all_cons, runOf_all p r, h]; rfl
  ·rfl
theorem runOf_nm : ∀ s, runOf isNmB s = nmRun s
 | [] => rfl
 | b :: r => by
  simp only [runOf, nmRun, runOf_nm r]
def isOpr (b : Int) : Bool := b == 43 || b == 45 || b == 42 || b == 47 || b == 124 || b == 46 || b == 36 || b == 64 || b == 61
def markOf (b : Int) : Int := if b = 40 then 5 else if b = 41 then 6 else if b = 60 then 7 else if b = 62 then 8 else if b = 44 then 9 else if b = 58 then 10 else 0
def tokAt : List UInt8 → Option (Int × Int × List UInt8 × Nat)
 | [] => none
 | b :: r =>
  if isLet (ib b) = true then (if runOf isNmB (b :: r) ≤ 12 then some (1, 0, (b :: r).take (runOf isNmB (b :: r)), runOf isNmB (b :: r)) else none)
  else if isDig (ib b) = true then (if runOf isDig (b :: r) ≤ 13 ∧ numD ((b :: r).take (runOf isDig (b :: r))) 0 ≤ 1000000000000 then some (2, ((numD ((b :: r).take (runOf isDig (b :: r))) 0 : Nat) : Int), [], runOf isDig (b :: r)) else none)
  else if ib b = 39 ∨ ib b = 34 then (if runOf (fun c => c != ib b) r < r.length ∧ runOf (fun c => c != ib b) r ≤ 200 then some (3, 0, r.take (runOf (fun c => c != ib b) r), runOf (fun c => c != ib b) r + 2) else none)
  else if isOpr (ib b) = true then some (4, 0, [b], 1)
  else if markOf (ib b) ≠ 0 then some (markOf (ib b), 0, [], 1) else none
theorem tokAt_cons (b : UInt8) (r : List UInt8) : tokAt (b :: r) =
  if isLet (ib b) = true then (if runOf isNmB (b :: r) ≤ 12 then some (1, 0, (b :: r).take (runOf isNmB (b :: r)), runOf isNmB (b :: r)) else none)
  else if isDig (ib b) = true then (if runOf isDig (b :: r) ≤ 13 ∧ numD ((b :: r).take (runOf isDig (b :: r))) 0 ≤ 1000000000000 then some (2, ((numD ((b :: r).take (runOf isDig (b :: r))) 0 : Nat) : Int), [], runOf isDig (b :: r)) else none)
  else if ib b = 39 ∨ ib b = 34 then (if runOf (fun c => c != ib b) r < r.length ∧ runOf (fun c => c != ib b) r ≤ 200 then some (3, 0, r.take (runOf (fun c => c != ib b) r), runOf (fun c => c != ib b) r + 2) else none)
  else if isOpr (ib b) = true then some (4, 0, [b], 1)
  else if markOf (ib b) ≠ 0 then some (markOf (ib b), 0, [], 1) else none := rfl
theorem tokAt_len {s : List UInt8} {k n : Int} {t : List UInt8} {m : Nat} (h : tokAt s = some (k, n, t, m)) : 1 ≤ m ∧ m ≤ s.length := by
 cases s with
 | nil => cases h
 | cons b r =>
  rw [tokAt_cons] at h
  have l1 := runOf_le isNmB (b :: r)
  have l2 := runOf_le isDig (b :: r)
  have l3 := runOf_le (fun c => c != ib b) r
  simp only [List.length_cons] at l1 l2 ⊢
  split at h
  ·rename_i hl
   have : 1 ≤ runOf isNmB (b :: r) := by
    have : isNmB (ib b) = true := by unfold isNmB; rw [hl]; rfl
    simp only [runOf, this, if_true]; omega
   split at h
   ·cases h; omega
   ·cases h
  split at h
  ·rename_i hl
   have : 1 ≤ runOf isDig (b :: r) := by simp only [runOf, hl, if_true]; omega
   split at h
   ·cases h; omega
   ·cases h
  split at h
  ·split at h
   ·rename_i hc; cases h; omega
   ·cases h
  split at h
  ·cases h; omega
  split at h
  ·cases h; omega
  ·cases h
def nextBl (s : List UInt8) : Bool := match s with | [] => true | b :: _ => ib b == 32
def scanL : Nat → List UInt8 → Bool → List TToken → Nat → List TToken × Int × Int
 | _, [], _, out, _ => (out, 0, 0)
 | 0, _ :: _, _, out, _ => (out, 0, 0)
 | n + 1, b :: r, bl, out, at_ => if ib b = 32 then scanL n r true out (at_ + 1) else match tokAt (b :: r) with
  | none => ([], at_, 2)
  | some (k, m, t, w) => if 120 ≤ out.length then ([], at_, 6) else scanL n ((b :: r).drop w) false (out ++ [⟨k, m, t, bl, nextBl ((b :: r).drop w)⟩]) (at_ + w)
theorem span_of {x : List UInt8} (hx : x.length ≤ 1000000) (p : Int → Bool) {J : Int → Option Int} (at_ : Nat) (hJ : ∀ i : Int, J i = if decide (i < len x) = true then (idx x i).bind fun y => if p (ib y) = true then J (w64 (i + 1)) else some (w64 (i - at_)) else some (w64 (i - at_))) :
  ∀ (l : List UInt8) (j : Nat), x.drop j = l → at_ ≤ j → j ≤ x.length → J (j : Int) = some ((j - at_ + runOf p l : Nat) : Int) := by
 intro l
 induction l with
 | nil =>
  intro j hd ha hj
  have : x.length ≤ j := by
   have := congrArg List.length hd
   simp at this; omega
  rw [hJ, if_neg (by simp [len_eq]; omega), w64_of (by omega) (by omega)]
  simp [runOf]; omega
 | cons b l ih =>
  intro j hd ha hj
  have hlt : j < x.length := by
   have := congrArg List.length hd
   simp at this; omega
  rw [List.drop_eq_getElem_cons hlt] at hd
  simp only [List.cons.injEq] at hd
  rw [hJ, if_pos (by simp [len_eq, hlt]), idx_nat, List.getElem?_eq_getElem hlt, hd.1]
  simp only [Option.bind_some, runOf]
  cases hp : p (ib b)
  ·rw [if_neg (by simp), w64_of (by omega) (by omega)]
   simp; omega
  ·rw [if_pos rfl, w64_of (by omega) (by omega), show (j : Int) + 1 = ((j + 1 : Nat) : Int) by omega, ih (j + 1) hd.2 (by omega) (by omega)]
   simp; omega
section
variable {x : List UInt8} (hx : x.length ≤ 4000)

include hx
theorem span_nm {j : Nat} (hj : j ≤ x.length) : i_span__i_isNameByte x (j : Int) = some (runOf isNmB (x.drop j) : Int) := by
 rw [i_span__i_isNameByte_eq]
 have := span_of (x := x) (by omega) isNmB (J := i_span_L2__i_isNameByte x (j : Int)) j (fun i => by rw [i_span_L2__i_isNameByte_eq]; simp only [i_isNameByte_ok, Option.bind_some]) (x.drop j) j rfl (Nat.le_refl _) hj
 rw [this]; simp
theorem span_dg {j : Nat} (hj : j ≤ x.length) : i_span__i_isDigit x (j : Int) = some (runOf isDig (x.drop j) : Int) := by
 rw [i_span__i_isDigit_eq]
 have := span_of (x := x) (by omega) isDig (J := i_span_L2__i_isDigit x (j : Int)) j (fun i => by rw [i_span_L2__i_isDigit_eq]; simp only [i_isDigit_ok, Option.bind_some]) (x.drop j) j rfl (Nat.le_refl _) hj
 rw [this]; simp
theorem span_qu (q : Int) {j : Nat} (hj : j ≤ x.length) : i_span__i_scanToken_c1 x (j : Int) q = some (runOf (fun c => c != q) (x.drop j) : Int) := by
 rw [i_span__i_scanToken_c1_eq]
 have := span_of (x := x) (by omega) (fun c => c != q) (J := i_span_L2__i_scanToken_c1 x (j : Int) q) j (fun i => by rw [i_span_L2__i_scanToken_c1_eq]; simp only [i_scanToken_c1_eq, Option.bind_some]) (x.drop j) j rfl (Nat.le_refl _) hj
 rw [this]; simp
theorem span_bl {j : Nat} (hj : j ≤ x.length) : i_span__i_ScanTokens_c1 x (j : Int) = some (runOf (fun c => c == 32) (x.drop j) : Int) := by
 rw [i_span__i_ScanTokens_c1_eq]
 have := span_of (x := x) (by omega) (fun c => c == 32) (J := i_span_L2__i_ScanTokens_c1 x (j : Int)) j (fun i => by rw [i_span_L2__i_ScanTokens_c1_eq]; simp only [i_ScanTokens_c1_eq, Option.bind_some]) (x.drop j) j rfl (Nat.le_refl _) hj
 rw [this]; simp
end
theorem cut_at {x : List UInt8} {j m : Nat} (h : j + m ≤ x.length) : cut x (j : Int) (Option.getD (some ((j + m : Nat) : Int)) (len x)) = some ((x.drop j).take m) := by
 have := cut_of (xs := x) (a := j) (b := j + m) (by omega) h
 rw [Option.getD_some, this, List.drop_take]
 congr 2; omega
theorem opr_index (b : UInt8) : indexByteS [43, 45, 42, 47, 124, 46, 36, 64, 61] (ib b) = some (Lib.indexByte [43, 45, 42, 47, 124, 46, 36, 64, 61] b) := by
 unfold indexByteS
 have : (ib b).toNat.toUInt8 = b := by simp [ib]
 rw [this]
theorem mark_index (b : UInt8) : indexByteS [40, 41, 60, 62, 44, 58] (ib b) = some (Lib.indexByte [40, 41, 60, 62, 44, 58] b) := by
 unfold indexByteS
 have : (ib b).toNat.toUInt8 = b := by simp [ib]
 rw [this]
theorem all_bytes {P : UInt8 → Prop} (h : ∀ n : Fin 256, P (UInt8.ofNat n)) (b : UInt8) : P b := by
 have := h ⟨b.toNat, b.toNat_lt⟩
 simpa using this
theorem opr_ok : ∀ b : UInt8, decide (Lib.indexByte [43, 45, 42, 47, 124, 46, 36, 64, 61] b ≥ 0) = isOpr (ib b) := all_bytes (by decide +kernel)
theorem mark_ok : ∀ b : UInt8, (Lib.indexByte [40, 41, 60, 62, 44, 58] b = -1 ∧ markOf (ib b) = 0) ∨ (0 ≤ Lib.indexByte [40, 41, 60, 62, 44, 58] b ∧ markOf (ib b) = 5 + Lib.indexByte [40, 41, 60, 62, 44, 58] b ∧ Lib.indexByte [40, 41, 60, 62, 44, 58] b ≤ 5) := all_bytes (by decide +kernel)
theorem opr_lt : ∀ b : UInt8, isOpr (ib b) = true → chr (ib b) = some [b] := all_bytes (by decide +kernel)
theorem i_scanToken_ok {x : List UInt8} (hx : x.length ≤ 4000) {j : Nat} (hj : j < x.length) : ∃ (tk : TToken) (n : Int) (ok : Bool), i_scanToken x (j : Int) = some (tk, n, ok) ∧
    (match tokAt (x.drop j) with | none => ok = false | some (k, m, t, w) => ok = true ∧ tk.fKind = k ∧ tk.fNum = m ∧ tk.fText = t ∧ n = (w : Int)) := by
  obtain ⟨b, r, hd⟩ : ∃ b r, x.drop j = b :: r := ⟨_, _, List.drop_eq_getElem_cons hj⟩
  have hget : idx x (j : Int) = some b := by
    rw [idx_nat, List.getElem?_eq_getElem hj]
    rw [List.drop_eq_getElem_cons hj] at hd
    simp only [List.cons.injEq] at hd
    rw [hd.1]
  have hd1 : x.drop (j + 1) = r := by
    rw [List.drop_eq_getElem_cons hj] at hd
    simp only [List.cons.injEq] at hd
    exact hd.2
  have hrl : (b :: r).length = x.length - j := by rw [← hd, List.length_drop]
  simp only [List.length_cons] at hrl
  rw [i_scanToken_eq, hget, hd, tokAt_cons]
  simp only [Option.bind_some, i_isLetter_ok, i_isDigit_ok]
  by_cases h1 : isLet (ib b) = true
  · rw [if_pos h1, if_pos h1, span_nm hx (by omega), hd]
    have hle := runOf_le isNmB (b :: r)
    simp only [List.length_cons] at hle
    generalize hn : runOf isNmB (b :: r) = n at hle
    simp only [Option.bind_some]
    rw [w64_of (by omega) (by omega), show (j : Int) + (n : Int) = ((j + n : Nat) : Int) by omega, cut_at (by omega), hd]
    simp only [Option.bind_some]
    refine ⟨_, _, _, rfl, ?_⟩
    by_cases h12 : n ≤ 12
    · rw [if_pos h12]
      exact ⟨by simp; omega, rfl, rfl, rfl, rfl⟩
    · rw [if_neg h12]
      simp; omega
  rw [if_neg h1, if_neg h1]
  by_cases h2 : isDig (ib b) = true
  · rw [if_pos h2, if_pos h2, span_dg hx (by omega), hd]
    have hle := runOf_le isDig (b :: r)
    have hall := runOf_all isDig (b :: r)
    have hpos : 1 ≤ runOf isDig (b :: r) := by simp only [runOf, h2, if_true]; omega
    simp only [List.length_cons] at hle
    generalize hn : runOf isDig (b :: r) = n at hle hall hpos
    simp only [Option.bind_some]
    rw [w64_of (by omega) (by omega), show (j : Int) + (n : Int) = ((j + n : Nat) : Int) by omega, cut_at (by omega), hd]
    simp only [Option.bind_some]
    have htl : ((b :: r).take n).length = n := by rw [List.length_take]; simp; omega
    have hdg : ((b :: r).take n).all digB = true := by
      have : (fun c : UInt8 => isDig (ib c)) = digB := by
        funext c
        unfold digB isDig
        rw [ib_eq, Bool.eq_iff_iff]
        simp
        omega
      rw [← this]; exact hall
    unfold readIntS
    by_cases h13 : 13 < n
    · rw [if_pos (by rw [htl]; exact h13)]
      refine ⟨_, _, _, rfl, ?_⟩
      rw [if_neg (by omega)]
    · rw [if_neg (by rw [htl]; exact h13), if_pos ⟨by intro e; rw [e] at htl; simp at htl; omega, hdg⟩]
      refine ⟨_, _, _, rfl, ?_⟩
      by_cases hb : numD ((b :: r).take n) 0 ≤ 1000000000000
      · rw [if_pos ⟨by omega, hb⟩]
        exact ⟨by simpa using hb, rfl, rfl, rfl, rfl⟩
      · rw [if_neg (by omega)]
        simpa using hb
  rw [if_neg h2, if_neg h2]
  have quo : ib b = 39 ∨ ib b = 34 → ∀ z : Option (TToken × Int × Bool), z = ((i_span__i_scanToken_c1 x (w64 ((j : Int) + 1)) (ib b)).bind fun r194 => ((cut x (w64 ((j : Int) + 1)) (Option.getD (Option.some (w64 (w64 ((j : Int) + 1) + r194))) (len x))) : Option (List UInt8)).bind fun y193 =>
      if decide (w64 (w64 ((j : Int) + 1) + r194) < len x) = true then some (TToken.mk (Int.ofNat 3) (Int.ofNat 0) y193 false false, w64 (r194 + 2), decide (r194 ≤ 200)) else some (TToken.mk (Int.ofNat 3) (Int.ofNat 0) y193 false false, w64 (r194 + 2), false)) →
      ∃ (tk : TToken) (n : Int) (ok : Bool), z = some (tk, n, ok) ∧ (match (if runOf (fun c => c != ib b) r < r.length ∧ runOf (fun c => c != ib b) r ≤ 200 then some ((3 : Int), (0 : Int), r.take (runOf (fun c => c != ib b) r), runOf (fun c => c != ib b) r + 2) else none) with | none => ok = false | some (k, m, t, w) => ok = true ∧ tk.fKind = k ∧ tk.fNum = m ∧ tk.fText = t ∧ n = (w : Int)) := by
    intro _ z hz
    have hle := runOf_le (fun c => c != ib b) r
    rw [w64_of (by omega) (by omega), show (j : Int) + 1 = ((j + 1 : Nat) : Int) by omega, span_qu hx (ib b) (by omega), hd1] at hz
    generalize hn : runOf (fun c => c != ib b) r = n at hle hz
    simp only [Option.bind_some] at hz
    rw [w64_of (by omega) (by omega), show ((j + 1 : Nat) : Int) + (n : Int) = ((j + 1 + n : Nat) : Int) by omega, cut_at (by omega), hd1] at hz
    simp only [Option.bind_some] at hz
    rw [w64_of (by omega) (by omega), len_eq] at hz
    by_cases hq : n < r.length
    · rw [if_pos (by simp; omega)] at hz
      refine ⟨_, _, _, hz, ?_⟩
      by_cases h200 : n ≤ 200
      · rw [if_pos ⟨hq, h200⟩]
        exact ⟨by simp; omega, rfl, rfl, rfl, by simp⟩
      · rw [if_neg (by omega)]
        simp; omega
    · rw [if_neg (by simp; omega)] at hz
      refine ⟨_, _, _, hz, ?_⟩
      rw [if_neg (by omega)]
  by_cases h39 : ib b = 39
  · rw [if_pos (by simpa using h39), if_pos (.inl h39)]
    exact quo (.inl h39) _ rfl
  rw [if_neg (by simpa using h39)]
  by_cases h34 : ib b = 34
  · rw [if_pos (by simpa using h34), if_pos (.inr h34)]
    exact quo (.inr h34) _ rfl
  rw [if_neg (by simpa using h34), if_neg (by omega), opr_index]
  simp only [Option.bind_some]
  by_cases h4 : isOpr (ib b) = true
  · rw [if_pos (by rw [opr_ok]; exact h4), if_pos h4, opr_lt b h4]
    simp only [Option.bind_some]
    exact ⟨_, _, _, rfl, rfl, rfl, rfl, rfl, rfl⟩
  · rw [if_neg (by rw [opr_ok]; exact h4), if_neg h4, mark_index]
    simp only [Option.bind_some]
    refine ⟨_, _, _, rfl, ?_⟩
    rcases mark_ok b with ⟨e1, e2⟩ | ⟨e1, e2, e3⟩
    · rw [if_neg (by simpa using e2)]
      simp [e1]
    · rw [if_pos (by omega)]
      refine ⟨by simpa using e1, ?_, rfl, rfl, rfl⟩
      show w64 _ = _
      rw [w64_of (by omega) (by omega), e2]
end Go.Dv.U

namespace Go.Dv.U
open Go Go.Dv Go.Proofs
theorem runOf_zero {p : Int → Bool} {b : UInt8} {r : List UInt8} (h : p (ib b) = false) : runOf p (b :: r) = 0 := by simp [runOf, h]
theorem runOf_succ {p : Int → Bool} {b : UInt8} {r : List UInt8} (h : p (ib b) = true) : runOf p (b :: r) = runOf p r + 1 := by simp [runOf, h]
theorem scanL_skip : ∀ (s : List UInt8) (n : Nat) (bl : Bool) (out : List TToken) (at_ : Nat), s.length ≤ n → scanL n s bl out at_ = scanL (n - runOf (fun c => c == 32) s) (s.drop (runOf (fun c => c == 32) s)) (if runOf (fun c => c == 32) s = 0 then bl else true) out (at_ + runOf (fun c => c == 32) s) := by
 intro s
 induction s with
 | nil => intro n bl out at_ _; simp [runOf]
 | cons b r ih =>
  intro n bl out at_ h
  by_cases hb : ib b = 32
  ·have hr : (fun c : Int => c == 32) (ib b) = true := by simpa using hb
   rw [runOf_succ hr]
   cases n with
   | zero => simp at h
   | succ n =>
    simp only [scanL, hb, if_true]
    rw [ih n true out (at_ + 1) (by simpa using h)]
    simp only [List.drop_succ_cons, Nat.add_eq_zero_iff, Nat.one_ne_zero, and_false, if_false, ite_self]
    congr 1
    ·omega
    ·omega
  ·have hr : (fun c : Int => c == 32) (ib b) = false := by simpa using hb
   rw [runOf_zero hr]
   simp
theorem drop_run {p : Int → Bool} : ∀ s : List UInt8, ∀ b r, s.drop (runOf p s) = b :: r → p (ib b) = false
 | [], b, r, h => by simp [runOf] at h
 | c :: s, b, r, h => by
  cases hc : p (ib c)
  ·rw [runOf_zero hc] at h
   simp only [List.drop_zero, List.cons.injEq] at h
   rw [← h.1]; exact hc
  ·rw [runOf_succ hc] at h
   exact drop_run s b r h
theorem i_L5_ok {x : List UInt8} (hx : x.length ≤ 4000) : ∀ (N n j : Nat) (out : List TToken), n ≤ N → j ≤ x.length → x.length - j ≤ n → out.length ≤ 120 → i_ScanTokens_L5 x (j : Int) out = some (scanL n (x.drop j) (len out == 0) out j) := by
 intro N
 induction N with
 | zero =>
  intro n j out hn hj hl ho
  have : x.drop j = [] := List.drop_eq_nil_of_le (by omega)
  rw [i_ScanTokens_L5_eq, if_neg (by simp [len_eq]; omega), this]
  cases n <;> rfl
 | succ N ih =>
  intro n j out hn hj hl ho
  by_cases hlt : j < x.length
  ·rw [i_ScanTokens_L5_eq, if_pos (by simpa [len_eq] using hlt), span_bl hx hj]
   simp only [Option.bind_some]
   have hle := runOf_le (fun c => c == 32) (x.drop j)
   rw [List.length_drop] at hle
   rw [scanL_skip (x.drop j) n (len out == 0) out j (by rw [List.length_drop]; omega)]
   have hdr := drop_run (p := fun c => c == 32) (x.drop j)
   generalize runOf (fun c => c == 32) (x.drop j) = q at hle hdr ⊢
   rw [List.drop_drop] at hdr ⊢
   rw [w64_of (by omega) (by omega), show (j : Int) + (q : Int) = ((j + q : Nat) : Int) by omega]
   by_cases hend : j + q = x.length
   ·rw [if_pos (by simp [len_eq, hend])]
    have : x.drop (j + q) = [] := List.drop_eq_nil_of_le (by omega)
    rw [this]
    cases (n - q) <;> rfl
   ·rw [if_neg (by simp [len_eq]; omega)]
    have hlt2 : j + q < x.length := by omega
    obtain ⟨b, r, hd⟩ : ∃ b r, x.drop (j + q) = b :: r := ⟨_, _, List.drop_eq_getElem_cons hlt2⟩
    have hb : ¬ ib b = 32 := by simpa using hdr b r hd
    obtain ⟨m, hm⟩ : ∃ m, n - q = m + 1 := ⟨n - q - 1, by omega⟩
    rw [hm, hd]
    simp only [scanL, hb, if_false]
    obtain ⟨tk, w, ok, hs, hmt⟩ := i_scanToken_ok hx hlt2
    rw [hs]
    rw [hd] at hmt
    simp only [Option.bind_some, i_unless_ok, i_first2_ok]
    cases ht : tokAt (b :: r) with
    | none =>
     rw [ht] at hmt
     simp only at hmt
     subst hmt
     simp
    | some z =>
     obtain ⟨k, mm, t, w'⟩ := z
     rw [ht] at hmt
     simp only at hmt
     obtain ⟨rfl, rfl, rfl, rfl, rfl⟩ := hmt
     have hw := tokAt_len ht
     rw [← hd, List.length_drop] at hw
     simp only [if_true, ne_eq, not_true_eq_false, if_false]
     by_cases h120 : 120 ≤ out.length
     ·have e : decide (len out < 120) = false := by simp [len_eq]; omega
      rw [e, if_pos h120]
      simp
     ·have e : decide (len out < 120) = true := by simp [len_eq]; omega
      rw [e, if_neg h120]
      simp only [if_true]
      rw [if_neg (by simp), w64_of (n := ((j + q : Nat) : Int) + (w' : Int)) (by omega) (by omega), show ((j + q : Nat) : Int) + (w' : Int) = ((j + q + w' : Nat) : Int) by omega]
      have hrest : (b :: r).drop w' = x.drop (j + q + w') := by rw [← hd, List.drop_drop]
      rw [hrest]
      have go : ∀ (bf af : Bool), af = nextBl (x.drop (j + q + w')) → bf = (if q = 0 then (len out == 0) else true) → i_ScanTokens_L16 x ((j + q + w' : Nat) : Int) out tk.fKind tk.fNum tk.fText bf af = some (scanL m (x.drop (j + q + w')) false (out ++ [⟨tk.fKind, tk.fNum, tk.fText, if q = 0 then (len out == 0) else true, nextBl (x.drop (j + q + w'))⟩]) (j + q + w')) := by
       intro bf af h1 h2
       rw [i_ScanTokens_L16_eq, app_of (by simp; omega)]
       simp only [Option.bind_some]
       rw [ih m (j + q + w') _ (by omega) (by omega) (by omega) (by simp; omega), h1, h2]
       have : (len (out ++ [(⟨tk.fKind, tk.fNum, tk.fText, if q = 0 then (len out == 0) else true, nextBl (x.drop (j + q + w'))⟩ : TToken)]) == 0) = false := by
        simp [len_eq]; omega
       rw [this]
      by_cases hq : q = 0
      ·rw [if_neg (by simp [hq])]
       by_cases he : j + q + w' = x.length
       ·have hn2 : x.drop (j + q + w') = [] := List.drop_eq_nil_of_le (by omega)
        rw [if_pos (by simp [len_eq, he])]
        exact go _ _ (by rw [hn2]; rfl) (by rw [if_pos hq])
       ·rw [if_neg (by simp [len_eq]; omega), idx_nat, List.getElem?_eq_getElem (by omega)]
        simp only [Option.bind_some]
        exact go _ _ (by rw [List.drop_eq_getElem_cons (by omega)]; rfl) (by rw [if_pos hq])
      ·rw [if_pos (by simp; omega)]
       by_cases he : j + q + w' = x.length
       ·have hn2 : x.drop (j + q + w') = [] := List.drop_eq_nil_of_le (by omega)
        rw [if_pos (by simp [len_eq, he])]
        exact go _ _ (by rw [hn2]; rfl) (by rw [if_neg hq])
       ·rw [if_neg (by simp [len_eq]; omega), idx_nat, List.getElem?_eq_getElem (by omega)]
        simp only [Option.bind_some]
        exact go _ _ (by rw [List.drop_eq_getElem_cons (by omega)]; rfl) (by rw [if_neg hq])
  ·have : x.drop j = [] := List.drop_eq_nil_of_le (by omega)
   rw [i_ScanTokens_L5_eq, if_neg (by simp [len_eq]; omega), this]
   cases n <;> rfl
def scanT (x : List UInt8) : List TToken × Int × Int := if x.length ≤ 4000 ∧ allPl x = true then scanL x.length x true [] 0 else ([], 0, 1)
theorem i_ScanTokens_ok {x : List UInt8} (h : x.length ≤ 9223372036854775807) : i_ScanTokens x = some (scanT x) := by
 rw [i_ScanTokens_eq]
 unfold scanT
 by_cases hl : x.length ≤ 4000
 ·rw [if_neg (by simp [len_eq]; omega), i_isPlainText_ok h]
  simp only [Option.bind_some]
  cases hp : allPl x
  ·simp
  ·have := i_L5_ok hl x.length x.length 0 [] (Nat.le_refl _) (by omega) (by omega) (by simp)
   simp only [Int.natCast_zero, List.drop_zero] at this
   simp only [Bool.not_true, Bool.false_eq_true, if_false, hl, and_self, if_true]
   rw [this]
   rfl
 ·rw [if_pos (by simp [len_eq]; omega), if_neg (by omega)]
end Go.Dv.U

namespace Go.Dv.U
open Go Go.Dv Go.Proofs
theorem s_l02Operator_ok (c : Int) : s_l02Operator c = some (isOpr c) := by
 rw [s_l02Operator_eq, s_l02Operator_L11_eq, s_l02Operator_L12_eq]
 unfold isOpr
 simp only [ite_some]
 congr 1
 cases c == 43 <;> cases c == 45 <;> cases c == 42 <;> cases c == 47 <;> cases c == 124 <;> cases c == 46 <;> cases c == 36 <;> cases c == 64 <;> cases c == 61 <;> rfl
def zTok : TToken := ⟨0, 0, [], false, false⟩
theorem L27_ok (j : Nat) (hj : j ≤ 4000) (c : Int) : s_l02One_L27 (j : Int) c [40, 41, 60, 62, 44, 58] 0 0 0 [] false false = some (if markOf c ≠ 0 then ((⟨markOf c, 0, [], false, false⟩ : TToken), ((j + 1 : Nat) : Int)) else (zTok, -1)) := by
 have hw : w64 ((j : Int) + 1) = ((j + 1 : Nat) : Int) := by rw [w64_of (by omega) (by omega)]; omega
 have step : ∀ (k : Int) (y : UInt8), idx [40, 41, 60, 62, 44, 58] k = some y → 0 ≤ k → k < 6 → s_l02One_L27 (j : Int) c [40, 41, 60, 62, 44, 58] k 0 0 [] false false = if ib y = c then some ((⟨w64 (5 + k), 0, [], false, false⟩ : TToken), ((j + 1 : Nat) : Int)) else s_l02One_L27 (j : Int) c [40, 41, 60, 62, 44, 58] (w64 (k + 1)) 0 0 [] false false := by
  intro k y h h0 h6
  rw [s_l02One_L27_eq, if_pos (by simp [len_eq]; omega), h]
  simp only [Option.bind_some, beq_iff_eq, hw]
  rfl
 have w1 : w64 (0 + 1) = 1 := by decide
 have w2 : w64 (1 + 1) = 2 := by decide
 have w3 : w64 (2 + 1) = 3 := by decide
 have w4 : w64 (3 + 1) = 4 := by decide
 have w5 : w64 (4 + 1) = 5 := by decide
 have w6 : w64 (5 + 1) = 6 := by decide
 have last : s_l02One_L27 (j : Int) c [40, 41, 60, 62, 44, 58] 6 0 0 [] false false = some (zTok, -1) := by
  rw [s_l02One_L27_eq, if_neg (by simp [len_eq])]; rfl
 rw [step 0 40 rfl (by decide) (by decide), w1, step 1 41 rfl (by decide) (by decide), w2, step 2 60 rfl (by decide) (by decide), w3, step 3 62 rfl (by decide) (by decide), w4, step 4 44 rfl (by decide) (by decide), w5, step 5 58 rfl (by decide) (by decide), w6, last]
 have i1 : ib 40 = 40 := by decide
 have i2 : ib 41 = 41 := by decide
 have i3 : ib 60 = 60 := by decide
 have i4 : ib 62 = 62 := by decide
 have i5 : ib 44 = 44 := by decide
 have i6 : ib 58 = 58 := by decide
 have v0 : w64 (5 + 0) = 5 := by decide
 have v1 : w64 (5 + 1) = 6 := by decide
 have v2 : w64 (5 + 2) = 7 := by decide
 have v3 : w64 (5 + 3) = 8 := by decide
 have v4 : w64 (5 + 4) = 9 := by decide
 have v5 : w64 (5 + 5) = 10 := by decide
 simp only [i1, i2, i3, i4, i5, i6, v0, v1, v2, v3, v4, v5]
 unfold markOf
 by_cases h1 : c = 40
 ·subst h1; simp
 by_cases h2 : c = 41
 ·subst h2; simp
 by_cases h3 : c = 60
 ·subst h3; simp
 by_cases h4 : c = 62
 ·subst h4; simp
 by_cases h5 : c = 44
 ·subst h5; simp
 by_cases h6 : c = 58
 ·subst h6; simp
 have f : ∀ n : Int, c ≠ n → ¬ n = c := fun n h e => h e.symm
 simp [h1, h2, h3, h4, h5, h6, f _ h1, f _ h2, f _ h3, f _ h4, f _ h5, f _ h6]
section
variable {x : List UInt8} (hx : x.length ≤ 4000)

include hx
theorem L10_ok {j : Nat} : ∀ (l : List UInt8) (e acc : Nat), x.drop e = l → j ≤ e → e ≤ x.length → e - j ≤ 14 → acc < 10 ^ (e - j) →
  s_l02One_L10 x (j : Int) (acc : Int) (e : Int) 0 0 [] false false = some (if (e - j) + runOf isDig l ≤ 13 ∧ numD (l.take (runOf isDig l)) acc ≤ 1000000000000 then ((⟨2, (numD (l.take (runOf isDig l)) acc : Nat), [], false, false⟩ : TToken), ((e + runOf isDig l : Nat) : Int)) else (zTok, -1)) := by
 have L13 : ∀ (e acc : Nat), j ≤ e → e ≤ x.length → s_l02One_L13 (j : Int) (acc : Int) (e : Int) 0 0 [] false false = some (if e - j ≤ 13 ∧ acc ≤ 1000000000000 then ((⟨2, (acc : Nat), [], false, false⟩ : TToken), (e : Int)) else (zTok, -1)) := by
  intro e acc h1 h2
  rw [s_l02One_L13_eq, w64_of (by omega) (by omega)]
  by_cases h13 : e - j ≤ 13
  ·rw [if_neg (by simp; omega)]
   by_cases hb : acc ≤ 1000000000000
   ·rw [if_neg (by simp; omega), if_pos ⟨h13, hb⟩]
    rfl
   ·rw [if_pos (by simp; omega), if_neg (by omega)]; rfl
  ·rw [if_pos (by simp; omega), if_neg (by omega)]; rfl
 intro l
 induction l with
 | nil =>
  intro e acc hd h1 h2 h3 h4
  have : x.length ≤ e := by
   have := congrArg List.length hd
   simp at this; omega
  rw [s_l02One_L10_eq, if_neg (by simp [len_eq]; omega), L13 e acc h1 h2]
  simp [runOf, numD]
 | cons b l ih =>
  intro e acc hd h1 h2 h3 h4
  have hlt : e < x.length := by
   have := congrArg List.length hd
   simp at this; omega
  rw [List.drop_eq_getElem_cons hlt] at hd
  simp only [List.cons.injEq] at hd
  rw [s_l02One_L10_eq, if_pos (by simp [len_eq, hlt]), idx_nat, List.getElem?_eq_getElem hlt, hd.1]
  simp only [Option.bind_some, s_l02Digit_ok]
  cases hg : isDig (ib b)
  ·rw [if_neg (by simp), L13 e acc h1 h2, runOf_zero hg]
   simp [numD]
  ·rw [if_pos rfl, runOf_succ hg, w64_of (by omega) (by omega)]
   by_cases h14 : e - j < 14
   ·have hb := ib_eq b
    unfold isDig at hg
    simp only [Bool.and_eq_true_iff, decide_eq_true_eq] at hg
    have hp : 10 ^ (e - j) ≤ 10 ^ 13 := Nat.pow_le_pow_right (by decide) (by omega)
    have hp2 : 10 ^ (e - j + 1) = 10 ^ (e - j) * 10 := Nat.pow_succ _ _
    rw [if_pos (by simp; omega), s_l02One_L11_eq, idx_nat, List.getElem?_eq_getElem hlt, hd.1]
    simp only [Option.bind_some]
    have e1 : Go.IntKind.wrap Go.IntKind.u8 (ib b - 48) = ib b - 48 := by unfold IntKind.wrap; simp [IntKind.bits, IntKind.signed]; omega
    rw [e1, w64_of (n := ib b - 48) (by omega) (by omega), w64_of (n := 10 * (acc : Int)) (by omega) (by omega), w64_of (n := 10 * (acc : Int) + (ib b - 48)) (by omega) (by omega), w64_of (n := (e : Int) + 1) (by omega) (by omega)]
    rw [show 10 * (acc : Int) + (ib b - 48) = ((acc * 10 + (b.toNat - 48) : Nat) : Int) by omega, show (e : Int) + 1 = ((e + 1 : Nat) : Int) by omega]
    rw [ih (e + 1) (acc * 10 + (b.toNat - 48)) hd.2 (by omega) (by omega) (by omega) (by rw [show e + 1 - j = e - j + 1 by omega]; omega)]
    have en : numD ((b :: l).take (runOf isDig l + 1)) acc = numD (l.take (runOf isDig l)) (acc * 10 + (b.toNat - 48)) := by
     rw [List.take_succ_cons]; rfl
    rw [en, show e + 1 - j + runOf isDig l = e - j + (runOf isDig l + 1) by omega, show e + 1 + runOf isDig l = e + (runOf isDig l + 1) by omega]
   ·rw [if_neg (by simp; omega), L13 e acc h1 h2, if_neg (by omega), if_neg (by omega)]
theorem L18_ok {j : Nat} (q : Int) : ∀ (l : List UInt8) (e : Nat), x.drop e = l → j + 1 ≤ e → e ≤ x.length →
  s_l02One_L18 x (j : Int) q (e : Int) 0 0 [] false false = some (if runOf (fun c => c != q) l < l.length ∧ e + runOf (fun c => c != q) l - j - 1 ≤ 200 then ((⟨3, 0, (x.drop (j + 1)).take (e + runOf (fun c => c != q) l - j - 1), false, false⟩ : TToken), ((e + runOf (fun c => c != q) l + 1 : Nat) : Int)) else (zTok, -1)) := by
 intro l
 induction l with
 | nil =>
  intro e hd h1 h2
  have : e = x.length := by
   have := congrArg List.length hd
   simp at this; omega
  rw [s_l02One_L18_eq, if_neg (by simp [len_eq]; omega), if_pos (by simp [len_eq, this]), s_l02One_L21_eq]
  rfl
 | cons b l ih =>
  intro e hd h1 h2
  have hlt : e < x.length := by
   have := congrArg List.length hd
   simp at this; omega
  rw [List.drop_eq_getElem_cons hlt] at hd
  simp only [List.cons.injEq] at hd
  rw [s_l02One_L18_eq, if_pos (by simp [len_eq, hlt]), idx_nat, List.getElem?_eq_getElem hlt, hd.1]
  simp only [Option.bind_some]
  by_cases hb : ib b = q
  ·have hr : (fun c : Int => c != q) (ib b) = false := by simpa using hb
   rw [if_neg (by simpa using hb), if_neg (by simp [len_eq]; omega), runOf_zero hr]
   rw [w64_of (n := (e : Int) - (j : Int)) (by omega) (by omega), w64_of (by omega) (by omega)]
   simp only [Nat.add_zero]
   by_cases h200 : e - j - 1 ≤ 200
   ·rw [if_neg (by simp; omega), if_pos ⟨by simp, h200⟩, s_l02One_L22_eq, w64_of (n := (j : Int) + 1) (by omega) (by omega), w64_of (by omega) (by omega)]
    have := cut_at (x := x) (j := j + 1) (m := e - j - 1) (by omega)
    rw [show j + 1 + (e - j - 1) = e by omega] at this
    rw [show (j : Int) + 1 = ((j + 1 : Nat) : Int) by omega, this]
    rfl
   ·rw [if_pos (by simp; omega), if_neg (by omega), s_l02One_L21_eq]
    rfl
  ·have hr : (fun c : Int => c != q) (ib b) = true := by simpa using hb
   rw [if_pos (by simpa using hb), w64_of (by omega) (by omega), show (e : Int) + 1 = ((e + 1 : Nat) : Int) by omega, ih (e + 1) hd.2 (by omega) (by omega), runOf_succ hr]
   have e1 : e + 1 + runOf (fun c => c != q) l = e + (runOf (fun c => c != q) l + 1) := by omega
   rw [e1]
   simp only [List.length_cons, Nat.add_lt_add_iff_right]
theorem s_l02One_ok {j : Nat} (hj : j < x.length) : ∃ (tk : TToken) (e : Int), s_l02One x (j : Int) = some (tk, e) ∧
  (match tokAt (x.drop j) with | none => e = -1 | some (k, m, t, w) => tk.fKind = k ∧ tk.fNum = m ∧ tk.fText = t ∧ e = ((j + w : Nat) : Int)) := by
 obtain ⟨b, r, hd⟩ : ∃ b r, x.drop j = b :: r := ⟨_, _, List.drop_eq_getElem_cons hj⟩
 have hget : idx x (j : Int) = some b := by
  rw [idx_nat, List.getElem?_eq_getElem hj]
  rw [List.drop_eq_getElem_cons hj] at hd
  simp only [List.cons.injEq] at hd
  rw [hd.1]
 have hd1 : x.drop (j + 1) = r := by
  rw [List.drop_eq_getElem_cons hj] at hd
  simp only [List.cons.injEq] at hd
  exact hd.2
 have hrl : (b :: r).length = x.length - j := by rw [← hd, List.length_drop]
 simp only [List.length_cons] at hrl
 have hone : w64 ((j : Int) + 1) = ((j + 1 : Nat) : Int) := by rw [w64_of (by omega) (by omega)]; omega
 rw [s_l02One_eq, hget, hd, tokAt_cons]
 simp only [Option.bind_some, s_l02Letter_ok, s_l02Digit_ok]
 by_cases h1 : isLet (ib b) = true
 ·have hle := runOf_le isNmB (b :: r)
  simp only [List.length_cons] at hle
  rw [if_pos h1, if_pos h1, s_l02NameEnd_ok (by omega) (by omega), hd]
  simp only [h1, if_true, Option.bind_some, ← runOf_nm]
  generalize runOf isNmB (b :: r) = n at hle
  rw [w64_of (by omega) (by omega)]
  by_cases h12 : n ≤ 12
  ·rw [if_neg (by simp; omega), if_pos h12, cut_at (by omega), hd]
   exact ⟨_, _, rfl, rfl, rfl, rfl, rfl⟩
  ·rw [if_pos (by simp; omega), if_neg h12]
   exact ⟨_, _, rfl, rfl⟩
 rw [if_neg h1, if_neg h1]
 by_cases h2 : isDig (ib b) = true
 ·rw [if_pos h2, if_pos h2]
  have := L10_ok hx (j := j) (b :: r) j 0 hd (Nat.le_refl _) (by omega) (by omega) (by simp)
  simp only [Int.natCast_zero, Nat.sub_self, Nat.zero_add] at this
  rw [this]
  split
  ·exact ⟨_, _, rfl, rfl, rfl, rfl, rfl⟩
  ·exact ⟨_, _, rfl, rfl⟩
 rw [if_neg h2, if_neg h2]
 have quo : ∃ (tk : TToken) (e : Int), s_l02One_L18 x (j : Int) (ib b) ((j + 1 : Nat) : Int) 0 0 [] false false = some (tk, e) ∧ (match (if runOf (fun c => c != ib b) r < r.length ∧ runOf (fun c => c != ib b) r ≤ 200 then some ((3 : Int), (0 : Int), r.take (runOf (fun c => c != ib b) r), runOf (fun c => c != ib b) r + 2) else none) with | none => e = -1 | some (k, m, t, w) => tk.fKind = k ∧ tk.fNum = m ∧ tk.fText = t ∧ e = ((j + w : Nat) : Int)) := by
  rw [L18_ok hx (ib b) r (j + 1) hd1 (Nat.le_refl _) (by omega), hd1]
  rw [show j + 1 + runOf (fun c => c != ib b) r - j - 1 = runOf (fun c => c != ib b) r by omega]
  split
  ·exact ⟨_, _, rfl, rfl, rfl, rfl, by omega⟩
  ·exact ⟨_, _, rfl, rfl⟩
 by_cases h39 : ib b = 39
 ·rw [if_pos (by simpa using h39), if_pos (.inl h39), hone]
  exact quo
 rw [if_neg (by simpa using h39)]
 by_cases h34 : ib b = 34
 ·rw [if_pos (by simpa using h34), if_pos (.inr h34), hone]
  exact quo
 rw [if_neg (by simpa using h34), if_neg (by omega), s_l02Operator_ok]
 simp only [Option.bind_some]
 by_cases h4 : isOpr (ib b) = true
 ·rw [if_pos h4, if_pos h4, hone]
  have := cut_at (x := x) (j := j) (m := 1) (by omega)
  rw [this, hd]
  exact ⟨_, _, rfl, rfl, rfl, rfl, rfl⟩
 ·rw [if_neg h4, if_neg h4, L27_ok j (by omega) (ib b)]
  split
  ·exact ⟨_, _, rfl, rfl, rfl, rfl, rfl⟩
  ·exact ⟨_, _, rfl, rfl⟩
theorem s_L4_ok : ∀ (N n j : Nat) (bl : Bool) (out : List TToken), n ≤ N → j ≤ x.length → x.length - j ≤ n → out.length ≤ 120 →
    (∀ tk, out[out.length - 1]? = some tk → tk.fAfter = true ∨ (bl = false ∧ nextBl (x.drop j) = false)) → s_l02Scan_L4 x (j : Int) bl out = some (scanL n (x.drop j) bl out j) := by
  have fin : ∀ (j : Nat) (bl : Bool) (out : List TToken) (n : Nat), x.length ≤ j → j ≤ x.length → out.length ≤ 120 → (∀ tk, out[out.length - 1]? = some tk → tk.fAfter = true ∨ (bl = false ∧ nextBl (x.drop j) = false)) → s_l02Scan_L4 x (j : Int) bl out = some (scanL n (x.drop j) bl out j) := by
    intro j bl out n h1 h2 ho hi
    have hd : x.drop j = [] := List.drop_eq_nil_of_le h1
    have hs : scanL n (x.drop j) bl out j = (out, 0, 0) := by rw [hd]; cases n <;> rfl
    rw [hs, s_l02Scan_L4_eq, if_neg (by simp [len_eq]; omega)]
    by_cases h0 : out.length = 0
    · rw [if_neg (by simp [len_eq, h0])]
    · rw [if_pos (by simp [len_eq]; omega), len_eq, w64_of (by omega) (by omega), show (out.length : Int) - 1 = ((out.length - 1 : Nat) : Int) by omega, idx_nat, Int.toNat_natCast]
      have hlt : out.length - 1 < out.length := by omega
      rw [List.getElem?_eq_getElem hlt]
      simp only [Option.bind_some]
      have ha : (out[out.length - 1]).fAfter = true := by
        rcases hi _ (List.getElem?_eq_getElem hlt) with h | ⟨_, h⟩
        · exact h
        · rw [hd] at h; cases h
      have : upd out (out.length - 1) ⟨out[out.length - 1].fKind, out[out.length - 1].fNum, out[out.length - 1].fText, out[out.length - 1].fBefore, true⟩ = out := by
        rw [upd_eq, ← ha]
        exact List.set_getElem_self hlt
      rw [this]
  intro N
  induction N with
  | zero =>
    intro n j bl out hn hj hl ho hi
    exact fin j bl out n (by omega) hj ho hi
  | succ N ih =>
    intro n j bl out hn hj hl ho hi
    by_cases hlt : j < x.length
    · obtain ⟨b, r, hd⟩ : ∃ b r, x.drop j = b :: r := ⟨_, _, List.drop_eq_getElem_cons hlt⟩
      have hget : idx x (j : Int) = some b := by
        rw [idx_nat, List.getElem?_eq_getElem hlt]
        rw [List.drop_eq_getElem_cons hlt] at hd
        simp only [List.cons.injEq] at hd
        rw [hd.1]
      have hd1 : x.drop (j + 1) = r := by
        rw [List.drop_eq_getElem_cons hlt] at hd
        simp only [List.cons.injEq] at hd
        exact hd.2
      obtain ⟨m, rfl⟩ : ∃ m, n = m + 1 := ⟨n - 1, by omega⟩
      rw [s_l02Scan_L4_eq, if_pos (by simpa [len_eq] using hlt), hget, hd]
      simp only [Option.bind_some, scanL]
      by_cases hb : ib b = 32
      · rw [if_pos (by simpa using hb), if_pos hb, w64_of (by omega) (by omega), show (j : Int) + 1 = ((j + 1 : Nat) : Int) by omega, ih m (j + 1) true out (by omega) (by omega) (by omega) ho (fun tk h => by
          rcases hi tk h with h | ⟨_, h⟩
          · exact .inl h
          · rw [hd] at h
            simp [nextBl, hb] at h), hd1]
      · rw [if_neg (by simpa using hb), if_neg hb]
        obtain ⟨tk, e, hs, hmt⟩ := s_l02One_ok hx hlt
        rw [hs]
        rw [hd] at hmt
        simp only [Option.bind_some]
        cases ht : tokAt (b :: r) with
        | none =>
          rw [ht] at hmt
          simp only at hmt
          subst hmt
          rw [if_pos (by simp)]
        | some z =>
          obtain ⟨k, mm, t, w⟩ := z
          rw [ht] at hmt
          simp only at hmt
          obtain ⟨rfl, rfl, rfl, rfl⟩ := hmt
          have hw := tokAt_len ht
          rw [← hd, List.length_drop] at hw
          rw [if_neg (by simp; omega)]
          simp only
          by_cases h120 : out.length = 120
          · rw [if_pos (show (len out == 120) = true by simp [len_eq, h120]), if_pos (show 120 ≤ out.length by omega)]
          · rw [if_neg (show ¬ (len out == 120) = true by simp [len_eq]; omega), if_neg (show ¬ 120 ≤ out.length by omega)]
            have hrest : (b :: r).drop w = x.drop (j + w) := by rw [← hd, List.drop_drop]
            rw [hrest]
            have go : ∀ af : Bool, af = nextBl (x.drop (j + w)) → ((app out [(⟨tk.fKind, tk.fNum, tk.fText, bl, af⟩ : TToken)]).bind fun y => s_l02Scan_L4 x ((j + w : Nat) : Int) false y) = some (scanL m (x.drop (j + w)) false (out ++ [⟨tk.fKind, tk.fNum, tk.fText, bl, nextBl (x.drop (j + w))⟩]) (j + w)) := by
              intro af h
              rw [app_of (by simp; omega)]
              simp only [Option.bind_some]
              rw [h]
              exact ih m (j + w) false _ (by omega) (by omega) (by omega) (by simp; omega) (fun tk' hk => by
                simp only [List.length_append, List.length_cons, List.length_nil, Nat.zero_add, Nat.add_sub_cancel] at hk
                rw [List.getElem?_append_right (Nat.le_refl _)] at hk
                simp only [Nat.sub_self, List.getElem?_cons_zero, Option.some.injEq] at hk
                subst hk
                cases hnb : nextBl (x.drop (j + w))
                · exact .inr ⟨rfl, rfl⟩
                · exact .inl rfl)
            by_cases he : j + w = x.length
            · have hn2 : x.drop (j + w) = [] := List.drop_eq_nil_of_le (by omega)
              rw [if_pos (show (((j + w : Nat) : Int) == len x) = true by simp [len_eq, he])]
              exact go true (by rw [hn2]; rfl)
            · rw [if_neg (show ¬ (((j + w : Nat) : Int) == len x) = true by simp [len_eq]; omega), idx_nat, List.getElem?_eq_getElem (by omega)]
              simp only [Option.bind_some]
              exact go _ (by rw [List.drop_eq_getElem_cons (by omega)]; rfl)
    · exact fin j bl out n (by omega) hj ho hi
end
theorem s_ScanTokens_ok {x : List UInt8} (h : x.length ≤ 9223372036854775807) : s_ScanTokens x = some (scanT x) := by
 rw [s_ScanTokens_eq]
 unfold scanT
 by_cases hl : x.length ≤ 4000
 ·rw [if_neg (by simp [len_eq]; omega), s_l01Printable_ok h]
  simp only [Option.bind_some]
  cases hp : allPl x
  ·simp
  ·have := s_L4_ok hl x.length x.length 0 true [] (Nat.le_refl _) (by omega) (by omega) (by simp) (fun tk h => by simp at h)
   simp only [Int.natCast_zero, List.drop_zero] at this
   simp only [Bool.not_true, Bool.false_eq_true, if_false, hl, and_self, if_true, s_l02Scan_eq]
   rw [this]
   rfl
 ·rw [if_pos (by simp [len_eq]; omega), if_neg (by omega)]
end Go.Dv.U

namespace Go.Dv.U
open Go Go.Dv Go.Proofs
mutual
def TExpr.n : TExpr → Nat
 | ⟨_, _, _, ks⟩ => 1 + TExpr.ns ks
def TExpr.ns : List TExpr → Nat
 | [] => 0
 | y :: r => TExpr.n y + TExpr.ns r
end
theorem TExpr.ns_eq : ∀ l, TExpr.ns l = sumOf TExpr.n l
 | [] => rfl
 | y :: r => by simp only [TExpr.ns, sumOf, TExpr.ns_eq r]
theorem TExpr.n_eq (x : TExpr) : x.n = 1 + sumOf TExpr.n x.fKids := by
 rw [← TExpr.ns_eq]; cases x; rfl
mutual
def TExpr.all (p : TExpr → Bool) : TExpr → Bool
 | ⟨a, b, c, ks⟩ => p ⟨a, b, c, ks⟩ && TExpr.alls p ks
def TExpr.alls (p : TExpr → Bool) : List TExpr → Bool
 | [] => true
 | y :: r => TExpr.all p y && TExpr.alls p r
end
theorem TExpr.alls_eq (p : TExpr → Bool) : ∀ l, TExpr.alls p l = l.all (TExpr.all p)
 | [] => rfl
 | y :: r => by simp only [TExpr.alls, List.all_cons, TExpr.alls_eq p r]
theorem TExpr.all_eq (p : TExpr → Bool) (x : TExpr) : x.all p = (p x && x.fKids.all (TExpr.all p)) := by
 rw [← TExpr.alls_eq]; cases x; rfl
def eNode (x : TExpr) : Bool :=
 if x.fKind = 1 then x.fKids.length == 0 && x.fNum == 0 && canQ x.fText
 else if x.fKind = 2 then x.fKids.length == 0 && x.fText == [] && (decide (0 ≤ x.fNum) && decide (x.fNum ≤ 1000000000000))
 else if x.fKind = 3 ∨ x.fKind = 16 ∨ x.fKind = 17 ∨ x.fKind = 18 then x.fKids.length == 0 && x.fNum == 0 && isName x.fText
 else if x.fKind = 4 then decide (x.fKids.length ≤ 6) && x.fNum == 0 && isName x.fText
 else x.fNum == 0 && x.fText == [] && (if x.fKind = 12 ∨ x.fKind = 13 then (match x.fKids with | [_, y] => y.fKind == 3 | _ => false)
  else if x.fKind = 14 ∨ x.fKind = 15 then x.fKids.length == 1
  else if 5 ≤ x.fKind ∧ x.fKind ≤ 11 then x.fKids.length == 2 else false)
def TExpr.good (x : TExpr) : Bool := x.all eNode
def TExpr.valid (x : TExpr) : Bool := x.good && decide (x.n ≤ 60)
theorem TExpr.good_eq (x : TExpr) : x.good = (eNode x && x.fKids.all TExpr.good) := TExpr.all_eq _ _
theorem i_isNumber_ok (n : Int) : i_isNumber n = some (decide (0 ≤ n) && decide (n ≤ 1000000000000)) := by
 rw [i_isNumber_eq, i_within_ok]; rfl
theorem i_isNamed_ok (k : Int) : i_isNamed k = some (decide (16 ≤ k) && decide (k ≤ 18)) := by
 rw [i_isNamed_eq, i_within_ok]; rfl
theorem i_isBinary_ok (k : Int) : i_isBinary k = some (decide (6 ≤ k) && decide (k ≤ 13)) := by
 rw [i_isBinary_eq, i_within_ok]; rfl
theorem ek_cases (k : Int) : (k = 1 ∨ k = 2 ∨ k = 3 ∨ k = 4 ∨ k = 5 ∨ k = 6 ∨ k = 7 ∨ k = 8 ∨ k = 9 ∨ k = 10 ∨ k = 11 ∨ k = 12 ∨ k = 13 ∨ k = 14 ∨ k = 15 ∨ k = 16 ∨ k = 17 ∨ k = 18) ∨ (∀ j : Int, 1 ≤ j → j ≤ 18 → ¬ k = j) := by
 by_cases h : 1 ≤ k ∧ k ≤ 18
 ·left; omega
 ·right; intro j h1 h2 e; omega
theorem i_Expr_hasFields_ok (x : TExpr) : i_Expr_hasFields x = some (eNode x) := by
  obtain ⟨k, n, t, ks⟩ := x
  rw [i_Expr_hasFields_eq]
  simp only [i_CanQuote_ok, i_isNumber_ok, i_isNamed_ok, i_isBinary_ok, i_IsName_ok, i_Expr_hasFields_L11_eq, i_Expr_hasFields_L12_eq, i_Expr_hasFields_L18_eq, i_Expr_hasFields_L19_eq, Option.bind_some, len_eq, idx_one, eNode]
  rcases ek_cases k with hk | hk
  · rcases hk with rfl | rfl | rfl | rfl | rfl | rfl | rfl | rfl | rfl | rfl | rfl | rfl | rfl | rfl | rfl | rfl | rfl | rfl <;> rcases ks with _ | ⟨a, _ | ⟨b, _ | ⟨c, r⟩⟩⟩ <;> simp <;> first | grind | (by_cases hn : n = 0 <;> by_cases hm : isName t = true <;> by_cases hr : r.length ≤ 3 <;> simp [hn, hm, hr] <;> omega)
  · have hr : (decide (16 ≤ k) && decide (k ≤ 18)) = false := by
      by_cases h1 : 16 ≤ k
      · have := hk 16 (by omega) (by omega); have := hk 17 (by omega) (by omega); have := hk 18 (by omega) (by omega)
        have h2 : ¬ k ≤ 18 := by omega
        simp [h2]
      · simp [h1]
    have hr2 : (decide (6 ≤ k) && decide (k ≤ 13)) = false := by
      by_cases h1 : 6 ≤ k
      · have h2 : ¬ k ≤ 13 := fun h2 => hk k (by omega) (by omega) rfl
        simp [h2]
      · simp [h1]
    have hr3 : ¬ (5 ≤ k ∧ k ≤ 11) := fun h => hk k (by omega) (by omega) rfl
    simp only [hk, hr, hr2, hr3, beq_iff_eq, Int.reduceLE, or_self, if_false, Bool.false_eq_true, not_false_eq_true, Bool.and_false, ite_self]
theorem s_l03Shape_ok (x : TExpr) : s_l03Shape x.fKind x.fNum x.fText x.fKids = some (eNode x) := by
 obtain ⟨k, n, t, ks⟩ := x
 rw [s_l03Shape_eq]
 simp only [s_CanQuote_ok, s_l00In_ok, s_IsName_ok, s_l03Shape_L13_eq, s_l03Shape_L14_eq, s_l03Shape_L26_eq, s_l03Shape_L27_eq, s_l03Shape_L31_eq, s_l03Shape_L32_eq, Option.bind_some, len_eq, idx_one, eNode]
 rcases ek_cases k with hk | hk
 ·rcases hk with rfl | rfl | rfl | rfl | rfl | rfl | rfl | rfl | rfl | rfl | rfl | rfl | rfl | rfl | rfl | rfl | rfl | rfl <;> rcases ks with _ | ⟨a, _ | ⟨b, _ | ⟨c, r⟩⟩⟩ <;> simp <;> first | grind | (by_cases hn : n = 0 <;> by_cases hm : isName t = true <;> by_cases hr : r.length ≤ 3 <;> simp [hn, hm, hr] <;> omega)
 ·have hr3 : ¬ (5 ≤ k ∧ k ≤ 11) := fun h => hk k (by omega) (by omega) rfl
  simp only [hk, hr3, beq_iff_eq, Int.reduceLE, or_self, if_false, Bool.false_eq_true, not_false_eq_true, Bool.and_false, ite_self]
theorem TExpr.n_le_m : ∀ x : TExpr, x.n ≤ x.m + 1 := by
 intro x
 induction x using TExpr.ind with
 | h x ih =>
  rw [x.n_eq, x.m_eq]
  have : ∀ l : List TExpr, (∀ y ∈ l, y.n ≤ y.m + 1) → sumOf TExpr.n l ≤ l.length + sumOf TExpr.m l := by
   intro l
   induction l with
   | nil => intro _; simp [sumOf]
   | cons y r ihr =>
    intro h
    have h1 := h y (by simp)
    have h2 := ihr fun z hz => h z (by simp [hz])
    simp only [sumOf, List.length_cons]; omega
  have := this x.fKids ih
  omega
theorem i_countNodes_ok : ∀ x : TExpr, x.m ≤ 1048576 → ∀ c : Int, 0 ≤ c → c ≤ 60 → i_countNodes x c = some (if x.good = true ∧ c + x.n ≤ 60 then c + x.n else 61) := by
 intro x
 induction x using TExpr.ind with
 | h x ih =>
  intro hm c h0 h1
  have hmq := x.m_eq
  have hn := x.n_eq
  have loop : ∀ c : Int, 0 ≤ c → c ≤ 60 → i_countNodes_L5 c x.fKids (len x.fKids) ((0 : Nat) : Int) = some (if x.fKids.all TExpr.good = true ∧ c + sumOf TExpr.n x.fKids ≤ 60 then c + sumOf TExpr.n x.fKids else 61) := by
   refine loop_ind (xs := x.fKids) (by omega) (P := fun i l => ∀ c : Int, 0 ≤ c → c ≤ 60 → i_countNodes_L5 c x.fKids (len x.fKids) i = some (if l.all TExpr.good = true ∧ c + sumOf TExpr.n l ≤ 60 then c + sumOf TExpr.n l else 61)) ?_ ?_
   ·intro c h0 h1
    rw [i_countNodes_L5_eq]
    simp [len_eq, sumOf, h1]
   ·intro i y l _ hlt hy hi hw ih2 c h0 h1
    rw [i_countNodes_L5_eq, hi, hw, if_pos (by simp [len_eq, hlt])]
    have hmy := TExpr.m_kid hy
    simp only [Option.bind_some, TExpr.re_eq, ih y hy (by omega) c h0 h1]
    have e : sumOf TExpr.n (y :: l) = y.n + sumOf TExpr.n l := rfl
    rw [e, List.all_cons]
    by_cases hc : y.good = true ∧ c + y.n ≤ 60
    ·rw [if_pos hc, if_neg (by simp; omega), ih2 _ (by omega) hc.2]
     congr 1
     by_cases hd : l.all TExpr.good = true ∧ c + y.n + sumOf TExpr.n l ≤ 60
     ·rw [if_pos hd, if_pos ⟨Bool.and_eq_true_iff.2 ⟨hc.1, hd.1⟩, by omega⟩]; omega
     ·rw [if_neg hd, if_neg fun h => hd ⟨(Bool.and_eq_true_iff.1 h.1).2, by omega⟩]
    ·rw [if_neg hc, if_pos (by simp), if_neg fun h => hc ⟨(Bool.and_eq_true_iff.1 h.1).1, by omega⟩]
  have hg := x.good_eq
  rw [i_countNodes_eq, w64_of (by omega) (by omega)]
  by_cases c1 : c + 1 > 60
  ·rw [if_pos (by simpa using c1), if_neg (by omega)]
  rw [if_neg (by simpa using c1), TExpr.re_eq, i_Expr_hasFields_ok]
  have := loop (c + 1) (by omega) (by omega)
  simp only [Int.natCast_zero] at this
  rw [this, hg]
  simp only [Option.bind_some]
  cases ha : eNode x
  ·simp
  ·simp only [Bool.not_true, Bool.false_eq_true, if_false, Bool.true_and]
   congr 1
   by_cases hd : x.fKids.all TExpr.good = true ∧ c + 1 + sumOf TExpr.n x.fKids ≤ 60
   ·rw [if_pos hd, if_pos ⟨hd.1, by omega⟩]; omega
   ·rw [if_neg hd, if_neg fun h => hd ⟨h.1, by omega⟩]
theorem i_ValidExpr_ok {x : TExpr} (hm : x.m ≤ 1048576) : i_ValidExpr x = some x.valid := by
 rw [i_ValidExpr_eq, TExpr.re_eq, i_countNodes_ok x hm 0 (by omega) (by omega)]
 simp only [Option.bind_some, TExpr.valid]
 congr 1
 by_cases h : x.good = true ∧ (0 : Int) + x.n ≤ 60
 ·rw [if_pos h, h.1]; simp; omega
 ·rw [if_neg h]
  cases hg : x.good
  ·simp
  ·simp only [hg, true_and] at h; simp; omega
theorem s_l03Size_ok : ∀ x : TExpr, x.m ≤ 1048576 → ∃ v : Int, s_l03Size x.fKind x.fNum x.fText x.fKids = some v ∧ 1 ≤ v ∧ v ≤ x.n ∧ (v ≤ 60 → v = x.n) := by
 intro x
 induction x using TExpr.ind with
 | h x ih =>
  intro hm
  have hmq := x.m_eq
  have hn := x.n_eq
  have hnm := x.n_le_m
  have loop : ∀ acc : Int, 1 ≤ acc → acc + sumOf TExpr.n x.fKids ≤ 1048577 → ∃ v : Int, s_l03Size_L3 x.fKind x.fNum x.fText x.fKids acc ((0 : Nat) : Int) = some v ∧ acc ≤ v ∧ v ≤ acc + sumOf TExpr.n x.fKids ∧ (v ≤ 60 → v = acc + sumOf TExpr.n x.fKids) := by
   refine loop_ind (xs := x.fKids) (by omega) (P := fun i l => ∀ acc : Int, 1 ≤ acc → acc + sumOf TExpr.n l ≤ 1048577 → ∃ v : Int, s_l03Size_L3 x.fKind x.fNum x.fText x.fKids acc i = some v ∧ acc ≤ v ∧ v ≤ acc + sumOf TExpr.n l ∧ (v ≤ 60 → v = acc + sumOf TExpr.n l)) ?_ ?_
   ·intro acc h1 h2
    refine ⟨acc, ?_, Int.le_refl _, by simp [sumOf], by simp [sumOf]⟩
    rw [s_l03Size_L3_eq]
    simp [len_eq]
   ·intro i y l _ hlt hy hi hw ih2 acc h1 h2
    have hmy := TExpr.m_kid hy
    have hyn := y.n_eq
    have e : sumOf TExpr.n (y :: l) = y.n + sumOf TExpr.n l := rfl
    rw [e] at h2 ⊢
    by_cases hc : acc ≤ 60
    ·obtain ⟨v, hv, v1, v2, v3⟩ := ih y hy (by omega)
     obtain ⟨u, hu, u1, u2, u3⟩ := ih2 (acc + v) (by omega) (by omega)
     refine ⟨u, ?_, by omega, by omega, by omega⟩
     rw [s_l03Size_L3_eq, hi, hw, if_pos (by simp [len_eq, hlt]), if_pos (by simpa using hc)]
     simp only [Option.bind_some, hv]
     rw [w64_of (by omega) (by omega)]
     exact hu
    ·refine ⟨acc, ?_, Int.le_refl _, by omega, by omega⟩
     rw [s_l03Size_L3_eq, if_pos (by simp [len_eq, hlt]), if_neg (by simpa using hc)]
  obtain ⟨v, hv, v1, v2, v3⟩ := loop 1 (Int.le_refl _) (by omega)
  refine ⟨v, ?_, v1, by omega, by omega⟩
  rw [s_l03Size_eq]
  exact hv
theorem s_l03Nodes_ok : ∀ x : TExpr, x.m ≤ 1048576 → s_l03Nodes x.fKind x.fNum x.fText x.fKids = some x.good := by
 intro x
 induction x using TExpr.ind with
 | h x ih =>
  intro hm
  have hmq := x.m_eq
  rw [s_l03Nodes_eq, s_l03Shape_ok, x.good_eq]
  have := all_loop (xs := x.fKids) (by omega) (F := fun y => s_l03Nodes y.fKind y.fNum y.fText y.fKids) (p := TExpr.good) (J := s_l03Nodes_L4 x.fKind x.fNum x.fText x.fKids) (fun i => by rw [s_l03Nodes_L4_eq]) (fun y hy => ih y hy (by have := TExpr.m_kid hy; omega))
  rw [this]
  simp only [Option.bind_some]
  cases eNode x <;> simp
theorem s_l03Ok_ok {x : TExpr} (hm : x.m ≤ 1048576) : s_l03Ok x.fKind x.fNum x.fText x.fKids = some x.valid := by
 rw [s_l03Ok_eq]
 obtain ⟨v, hv, v1, v2, v3⟩ := s_l03Size_ok x hm
 rw [hv, s_l03Nodes_ok x hm]
 simp only [Option.bind_some, TExpr.valid]
 by_cases h : v ≤ 60
 ·have := v3 h
  rw [if_pos (by simpa using h)]
  have h2 : x.n ≤ 60 := by omega
  simp [h2]
 ·rw [if_neg (by simpa using h)]
  have h2 : ¬ x.n ≤ 60 := by omega
  simp [h2]
def eLevel (k : Int) : Int := if k = 6 then 1 else if k = 7 then 2 else if k = 8 ∨ k = 9 then 3 else if k = 10 ∨ k = 11 then 4 else if k = 12 ∨ k = 13 then 5 else if 14 ≤ k ∧ k ≤ 18 then 6 else 7
def eSym (k : Int) : List UInt8 := if k = 6 then [124] else if k = 8 then [43] else if k = 9 then [45] else if k = 10 then [42] else if k = 11 then [47] else if k = 12 then [46] else if k = 13 then [36] else if k = 14 then [45] else if k = 15 then [36] else if k = 16 then [46] else if k = 17 then [42] else if k = 18 then [64] else []
theorem eLevel_rng (k : Int) : 1 ≤ eLevel k ∧ eLevel k ≤ 7 := by unfold eLevel; grind (splits := 60)
theorem eSym_len (k : Int) : (eSym k).length ≤ 1 := by unfold eSym; grind (splits := 60)
theorem i_level_ok (k : Int) : i_level k = some (eLevel k) := by
 rw [i_level_eq, i_level_L11_eq, i_level_L12_eq, i_level_L20_eq, i_level_L21_eq]; unfold eLevel; grind (splits := 60)
theorem s_l03Level_ok (k n : Int) (t : List UInt8) (ks : List TExpr) : s_l03Level k n t ks = some (eLevel k) := by
 rw [s_l03Level_eq, s_l03Level_L11_eq, s_l03Level_L12_eq, s_l03Level_L20_eq, s_l03Level_L21_eq]; unfold eLevel; grind (splits := 60)
theorem i_symbol_ok {k : Int} (h0 : 0 ≤ k) (h1 : k ≤ 18) : i_symbol k = some (eSym k) := by
 rw [i_symbol_eq, idx_of h0]
 have : k = 0 ∨ k = 1 ∨ k = 2 ∨ k = 3 ∨ k = 4 ∨ k = 5 ∨ k = 6 ∨ k = 7 ∨ k = 8 ∨ k = 9 ∨ k = 10 ∨ k = 11 ∨ k = 12 ∨ k = 13 ∨ k = 14 ∨ k = 15 ∨ k = 16 ∨ k = 17 ∨ k = 18 := by omega
 rcases this with rfl | rfl | rfl | rfl | rfl | rfl | rfl | rfl | rfl | rfl | rfl | rfl | rfl | rfl | rfl | rfl | rfl | rfl | rfl <;> rfl
theorem s_l03Sign_ok {k : Int} (h0 : 6 ≤ k) (h1 : k ≤ 13) : s_l03Sign k = some (if k = 7 then [32] else 32 :: eSym k ++ [32]) := by
 rw [s_l03Sign_eq]
 have : k = 6 ∨ k = 7 ∨ k = 8 ∨ k = 9 ∨ k = 10 ∨ k = 11 ∨ k = 12 ∨ k = 13 := by omega
 rcases this with rfl | rfl | rfl | rfl | rfl | rfl | rfl | rfl <;> rfl
def opdT (l : Int) (p : Int × List UInt8) : List UInt8 := if p.1 < l then 40 :: (p.2 ++ [41]) else p.2
theorem opdT_len (l : Int) (p : Int × List UInt8) : (opdT l p).length ≤ p.2.length + 2 := by
 unfold opdT; split <;> simp
def eBody (k n : Int) (t : List UInt8) (ps : List (Int × List UInt8)) : List UInt8 :=
 if k = 1 then quote t else if k = 2 then Lib.itoa n else if k = 3 then t
 else if k = 4 then t ++ [40] ++ Lib.join (ps.map (·.2)) [44] ++ [41]
 else if k = 16 ∨ k = 17 ∨ k = 18 then eSym k ++ t
 else match ps with
  | [a] => eSym k ++ opdT 6 a
  | [a, b] => if k = 5 then opdT 7 a ++ [60] ++ b.2 ++ [62] else if k = 7 then opdT 2 a ++ [32] ++ opdT 3 b else opdT (eLevel k) a ++ [32] ++ eSym k ++ [32] ++ opdT (eLevel k + 1) b
  | _ => []
mutual
def TExpr.text : TExpr → List UInt8
 | ⟨k, n, t, ks⟩ => eBody k n t (TExpr.ptexts ks)
def TExpr.ptexts : List TExpr → List (Int × List UInt8)
 | [] => []
 | y :: r => (eLevel y.fKind, TExpr.text y) :: TExpr.ptexts r
end
theorem TExpr.ptexts_eq : ∀ l, TExpr.ptexts l = l.map fun y => (eLevel y.fKind, TExpr.text y)
 | [] => rfl
 | y :: r => by simp only [TExpr.ptexts, List.map_cons, TExpr.ptexts_eq r]
theorem TExpr.text_eq (x : TExpr) : x.text = eBody x.fKind x.fNum x.fText (x.fKids.map fun y => (eLevel y.fKind, TExpr.text y)) := by
 rw [← TExpr.ptexts_eq]; cases x; rfl
theorem isName_len {s : List UInt8} (h : isName s = true) : s.length ≤ 12 := by
 cases s with
 | nil => simp
 | cons b r =>
  simp only [isName, Bool.and_eq_true_iff, decide_eq_true_eq] at h
  exact h.1.1
theorem lens_sum (l : List TExpr) (C : Nat) (h : ∀ y ∈ l, y.text.length ≤ C * y.n) : Lib.lens (l.map TExpr.text) ≤ C * sumOf TExpr.n l := by
 induction l with
 | nil => simp [Lib.lens, sumOf]
 | cons y r ih =>
  have h1 := h y (by simp)
  have h2 := ih fun z hz => h z (by simp [hz])
  have : Lib.lens ((y :: r).map TExpr.text) = y.text.length + Lib.lens (r.map TExpr.text) := by simp [Lib.lens]
  rw [this]
  simp only [sumOf, Nat.mul_add]; omega
theorem join_len_le (xs : List (List UInt8)) : (Lib.join xs [44]).length ≤ xs.length + Lib.lens xs := by
 cases xs with
 | nil => simp [Lib.join_nil]
 | cons x r => rw [Lib.join_length]; simp
theorem eNode_cases {x : TExpr} (h : eNode x = true) : (x.fKind = 1 ∧ x.fKids = [] ∧ canQ x.fText = true) ∨ (x.fKind = 2 ∧ x.fKids = [] ∧ 0 ≤ x.fNum ∧ x.fNum ≤ 1000000000000) ∨
  ((x.fKind = 3 ∨ x.fKind = 16 ∨ x.fKind = 17 ∨ x.fKind = 18) ∧ x.fKids = [] ∧ isName x.fText = true) ∨ (x.fKind = 4 ∧ x.fKids.length ≤ 6 ∧ isName x.fText = true) ∨
  ((x.fKind = 14 ∨ x.fKind = 15) ∧ ∃ a, x.fKids = [a]) ∨ ((5 ≤ x.fKind ∧ x.fKind ≤ 13) ∧ ∃ a b, x.fKids = [a, b]) := by
 obtain ⟨k, n, t, ks⟩ := x
 unfold eNode at h
 rcases ks with _ | ⟨a, _ | ⟨b, _ | ⟨c, r⟩⟩⟩ <;> grind (splits := 60)
theorem TExpr.text_len : ∀ x : TExpr, x.good = true → x.text.length ≤ 250 * x.n := by
 intro x
 induction x using TExpr.ind with
 | h x ih =>
  intro hg
  have hn := x.n_eq
  rw [x.good_eq, Bool.and_eq_true_iff] at hg
  obtain ⟨hnode, hk⟩ := hg
  rw [List.all_eq_true] at hk
  have ih := fun y hy => ih y hy (hk y hy)
  rw [x.text_eq, hn]
  have hs := eSym_len x.fKind
  have l1 : ∀ l a, (opdT l a).length ≤ a.2.length + 2 := opdT_len
  rcases eNode_cases hnode with ⟨h1, h2, h3⟩ | ⟨h1, h2, h3, h4⟩ | ⟨h1, h2, h3⟩ | ⟨h1, h2, h3⟩ | ⟨h1, a, h2⟩ | ⟨h1, a, b, h2⟩
  ·have := quote_len x.fText
   simp only [eBody, h1, if_true]; omega
  ·have := itoa_len h3 h4
   simp only [eBody, h1, if_true]; simp; omega
  ·have := isName_len h3
   unfold eBody
   rcases h1 with h1 | h1 | h1 | h1 <;> rw [h1] at hs ⊢ <;> simp <;> omega
  ·have := isName_len h3
   have hj := join_len_le (x.fKids.map TExpr.text)
   have hl := lens_sum x.fKids 250 ih
   rw [List.length_map] at hj
   have e : ((x.fKids.map fun y => (eLevel y.fKind, TExpr.text y)).map (·.2)) = x.fKids.map TExpr.text := by rw [List.map_map]; rfl
   simp only [eBody, h1, e]
   simp only [List.length_append, List.length_cons, List.length_nil, show ¬ ((4 : Int) = 1) by decide, show ¬ ((4 : Int) = 2) by decide, show ¬ ((4 : Int) = 3) by decide, if_false, if_true]
   omega
  ·have ha := ih a (by simp [h2])
   have hl := l1 6 (eLevel a.fKind, a.text)
   rw [h2]
   simp only [List.map_cons, List.map_nil, sumOf]
   unfold eBody
   rcases h1 with h1 | h1 <;> rw [h1] at hs ⊢ <;> simp <;> simp at hl <;> omega
  ·have ha := ih a (by simp [h2])
   have hb := ih b (by simp [h2])
   have p1 := fun l => l1 l (eLevel a.fKind, a.text)
   have p2 := fun l => l1 l (eLevel b.fKind, b.text)
   have q1 := p1 7
   have q2 := p1 2
   have q3 := p2 3
   have q4 := p1 (eLevel x.fKind)
   have q5 := p2 (eLevel x.fKind + 1)
   rw [h2]
   simp only [List.map_cons, List.map_nil, sumOf]
   unfold eBody
   rw [if_neg (by omega), if_neg (by omega), if_neg (by omega), if_neg (by omega), if_neg (by omega)]
   simp only at q1 q2 q3 q4 q5 ⊢
   split
   ·simp only [List.length_append, List.length_cons, List.length_nil]; omega
   ·split
    ·simp only [List.length_append, List.length_cons, List.length_nil]; omega
    ·simp only [List.length_append, List.length_cons, List.length_nil]; omega
theorem i_operand_of {y : TExpr} (l : Int) (h : i_Expr_text y = some y.text) (hl : y.text.length ≤ 1000000000) : i_operand y l = some (opdT l (eLevel y.fKind, y.text)) := by
 rw [i_operand_eq, i_level_ok, TExpr.re_eq, h]
 simp only [Option.bind_some, opdT]
 rw [app_of (by simp; omega)]
 simp only [Option.bind_some]
 rw [app_of (by simp; omega)]
 by_cases hc : eLevel y.fKind < l
 ·rw [if_pos (by simpa using hc), if_pos hc]; simp
 ·rw [if_neg (by simpa using hc), if_neg hc]
theorem s_l03At_of {y : TExpr} (l : Int) (h : s_l03Print y.fKind y.fNum y.fText y.fKids = some y.text) (hl : y.text.length ≤ 1000000000) : s_l03At y.fKind y.fNum y.fText y.fKids l = some (opdT l (eLevel y.fKind, y.text)) := by
 rw [s_l03At_eq, s_l03Level_ok, h]
 simp only [Option.bind_some, opdT]
 rw [app_of (by simp; omega)]
 simp only [Option.bind_some]
 rw [app_of (by simp; omega)]
 by_cases hc : eLevel y.fKind < l
 ·rw [if_pos (by simpa using hc), if_pos hc]; simp
 ·rw [if_neg (by simpa using hc), if_neg hc]
theorem i_Expr_text_ok : ∀ x : TExpr, x.good = true → x.n ≤ 1000000 → i_Expr_text x = some x.text := by
 intro x
 induction x using TExpr.ind with
 | h x ih =>
  intro hg hn60
  have hlen := x.text_len hg
  have hn := x.n_eq
  have hg' := hg
  rw [x.good_eq, Bool.and_eq_true_iff] at hg
  obtain ⟨hnode, hk⟩ := hg
  rw [List.all_eq_true] at hk
  have kid : ∀ y ∈ x.fKids, i_Expr_text y = some y.text ∧ y.text.length ≤ 250000000 := fun y hy => by
   have h1 := sumOf_mem (m := TExpr.n) hy
   have h2 := y.text_len (hk y hy)
   exact ⟨ih y hy (hk y hy) (by omega), by omega⟩
  rw [i_Expr_text_eq, i_level_ok]
  simp only [Option.bind_some, i_isNamed_ok]
  have hs := eSym_len x.fKind
  rw [x.text_eq]
  rcases eNode_cases hnode with ⟨h1, h2, h3⟩ | ⟨h1, h2, h3, h4⟩ | ⟨h1, h2, h3⟩ | ⟨h1, h2, h3⟩ | ⟨h1, a, h2⟩ | ⟨h1, a, b, h2⟩
  ·simp [h1, eBody, i_QuoteString_ok]
  ·simp [h1, eBody, i_decimal_ok (show -9223372036854775808 ≤ x.fNum by omega) (show x.fNum ≤ 9223372036854775807 by omega)]
  ·have := isName_len h3
   rcases h1 with h1 | h1 | h1 | h1
   ·simp [h1, eBody]
   all_goals
    rw [h1] at hs ⊢
    simp [eBody, i_symbol_ok]
    rw [app_of (by omega)]
  ·have hnl := isName_len h3
   have fin : ∀ acc : List (List UInt8), acc.length ≤ 6 → Lib.lens acc ≤ 250000000 → i_Expr_text_L11 x.fKids (len x.fKids) (len x.fKids) x.fKind x.fNum x.fText x.fKids acc = some (x.fText ++ [40] ++ Lib.join acc [44] ++ [41]) := by
    intro acc h1 h2
    have hj := join_len_le acc
    rw [i_Expr_text_L11_eq, if_neg (by simp)]
    rw [app_of (by simp; omega)]
    unfold joinS
    rw [if_pos (by unfold big; omega)]
    simp only [Option.bind_some]
    rw [app_of (by simp; omega)]
    simp only [Option.bind_some]
    rw [app_of (by simp; omega)]
    rfl
   have loop : ∀ acc : List (List UInt8), acc.length + x.fKids.length ≤ 6 → Lib.lens acc + Lib.lens (x.fKids.map TExpr.text) ≤ 250000000 → i_Expr_text_L11 x.fKids (len x.fKids) ((0 : Nat) : Int) x.fKind x.fNum x.fText x.fKids acc = some (x.fText ++ [40] ++ Lib.join (acc ++ x.fKids.map TExpr.text) [44] ++ [41]) := by
    refine loop_ind (xs := x.fKids) (by omega) (P := fun i l => ∀ acc : List (List UInt8), acc.length + l.length ≤ 6 → Lib.lens acc + Lib.lens (l.map TExpr.text) ≤ 250000000 → i_Expr_text_L11 x.fKids (len x.fKids) i x.fKind x.fNum x.fText x.fKids acc = some (x.fText ++ [40] ++ Lib.join (acc ++ l.map TExpr.text) [44] ++ [41])) ?_ ?_
    ·intro acc h1 h2
     have := fin acc (by simpa using h1) (by omega)
     rw [len_eq] at this ⊢
     simpa using this
    ·intro i y l _ hlt hy hi hw ih2 acc h1 h2
     rw [i_Expr_text_L11_eq, hi, hw, if_pos (by simp [len_eq, hlt])]
     simp only [Option.bind_some, TExpr.re_eq, (kid y hy).1]
     simp only [List.length_cons] at h1
     rw [app_of (by simp; omega)]
     simp only [Option.bind_some]
     have e1 : Lib.lens (acc ++ [y.text]) = Lib.lens acc + y.text.length := by simp [Lib.lens]
     have e2 : Lib.lens ((y :: l).map TExpr.text) = y.text.length + Lib.lens (l.map TExpr.text) := by simp [Lib.lens]
     rw [e2] at h2
     rw [ih2 (acc ++ [y.text]) (by simp; omega) (by rw [e1]; omega)]
     simp
   have hl := lens_sum x.fKids 250 (fun y hy => y.text_len (hk y hy))
   have := loop [] (by simpa using h2) (by simp [Lib.lens] at hl ⊢; omega)
   have e : ((x.fKids.map fun y => (eLevel y.fKind, TExpr.text y)).map (·.2)) = x.fKids.map TExpr.text := by rw [List.map_map]; rfl
   simp only [Int.natCast_zero, List.nil_append] at this
   rw [h1] at this ⊢
   simp only [eBody, e]
   simpa using this
  ·obtain ⟨ka, la⟩ := kid a (by simp [h2])
   have hl := opdT_len 6 (eLevel a.fKind, a.text)
   simp only at hl
   rw [h2]
   simp only [idx_zero, List.getElem?_cons_zero, Option.bind_some, TExpr.re_eq]
   rw [i_operand_of 6 ka (by omega)]
   rcases h1 with h1 | h1
   all_goals
    rw [h1] at hs ⊢
    simp [eBody, i_symbol_ok, show eLevel 14 = 6 by decide, show eLevel 15 = 6 by decide]
    rw [app_of (by omega)]
  ·obtain ⟨ka, la⟩ := kid a (by simp [h2])
   obtain ⟨kb, lb⟩ := kid b (by simp [h2])
   have p1 := fun l => opdT_len l (eLevel a.fKind, a.text)
   have p2 := fun l => opdT_len l (eLevel b.fKind, b.text)
   simp only at p1 p2
   have hr := eLevel_rng x.fKind
   rw [h2]
   simp only [idx_zero, idx_one, List.getElem?_cons_zero, List.getElem?_cons_succ, Option.bind_some, TExpr.re_eq]
   rw [w64_of (by omega) (by omega)]
   simp only [fun l => i_operand_of l ka (by omega), fun l => i_operand_of l kb (by omega), kb, Option.bind_some]
   have q1 := p1 7
   have q2 := p1 2
   have q3 := p2 3
   have q4 := p1 (eLevel x.fKind)
   have q5 := p2 (eLevel x.fKind + 1)
   have hsy := i_symbol_ok (k := x.fKind) (by omega) (by omega)
   have n1 : ¬ x.fKind = 1 := by omega
   have n2 : ¬ x.fKind = 2 := by omega
   have n3 : ¬ x.fKind = 3 := by omega
   have n4 : ¬ x.fKind = 4 := by omega
   have n5 : ¬ (x.fKind = 16 ∨ x.fKind = 17 ∨ x.fKind = 18) := by omega
   have n6 : (decide (16 ≤ x.fKind) && decide (x.fKind ≤ 18)) = false := by simp; omega
   simp only [List.map_cons, List.map_nil, eBody, n1, n2, n3, n4, n5, n6, if_false, beq_iff_eq, hsy, Option.bind_some, Bool.false_eq_true]
   by_cases c5 : x.fKind = 5
   ·rw [if_pos c5, if_pos c5]
    rw [app_of (by simp; omega)]
    simp only [Option.bind_some]
    rw [app_of (by simp; omega)]
    simp only [Option.bind_some]
    rw [app_of (by simp; omega)]
    rfl
   ·have l6 : ¬ eLevel x.fKind = 6 := by unfold eLevel; grind (splits := 60)
    rw [if_neg c5, if_neg c5, if_neg l6]
    by_cases c7 : x.fKind = 7
    ·have l7 : eLevel x.fKind = 2 := by unfold eLevel; simp [c7]
     rw [if_pos c7, if_pos c7]
     rw [l7] at q4 q5 ⊢
     rw [app_of (by simp; omega)]
     simp only [Option.bind_some]
     rw [app_of (by simp; omega)]
     rfl
    ·rw [if_neg c7, if_neg c7]
     rw [app_of (by simp; omega)]
     simp only [Option.bind_some]
     rw [app_of (by simp; omega)]
     simp only [Option.bind_some]
     rw [app_of (by simp; omega)]
     simp only [Option.bind_some]
     rw [app_of (by simp; omega)]
     rfl
theorem s_l03Print_ok : ∀ x : TExpr, x.good = true → x.n ≤ 1000000 → s_l03Print x.fKind x.fNum x.fText x.fKids = some x.text := by
 intro x
 induction x using TExpr.ind with
 | h x ih =>
  intro hg hn60
  have hlen := x.text_len hg
  have hn := x.n_eq
  have hg' := hg
  rw [x.good_eq, Bool.and_eq_true_iff] at hg
  obtain ⟨hnode, hk⟩ := hg
  rw [List.all_eq_true] at hk
  have kid : ∀ y ∈ x.fKids, s_l03Print y.fKind y.fNum y.fText y.fKids = some y.text ∧ y.text.length ≤ 250000000 := fun y hy => by
   have h1 := sumOf_mem (m := TExpr.n) hy
   have h2 := y.text_len (hk y hy)
   exact ⟨ih y hy (hk y hy) (by omega), by omega⟩
  rw [s_l03Print_eq]
  have hs := eSym_len x.fKind
  rw [x.text_eq]
  rcases eNode_cases hnode with ⟨h1, h2, h3⟩ | ⟨h1, h2, h3, h4⟩ | ⟨h1, h2, h3⟩ | ⟨h1, h2, h3⟩ | ⟨h1, a, h2⟩ | ⟨h1, a, b, h2⟩
  ·simp [h1, eBody, s_QuoteString_ok]
  ·simp [h1, eBody, s_l02Int_ok (show 0 ≤ x.fNum by omega) (show x.fNum < 9223372036854775808 by omega)]
  ·have := isName_len h3
   rcases h1 with h1 | h1 | h1 | h1
   ·simp [h1, eBody]
   all_goals
    rw [h1] at hs ⊢
    simp [eBody, eSym]
    rw [app_of (by simp; omega)]
    simp
  ·have hnl := isName_len h3
   have loop : ∀ acc : List UInt8, acc.length ≤ 1000 → (((0 : Nat) : Int) = 0 → True) → s_l03Print_L23 x.fKind x.fNum x.fText x.fKids acc ((0 : Nat) : Int) = some (acc ++ Lib.join (x.fKids.map TExpr.text) [44] ++ [41]) := by
    have key : ∀ acc : List UInt8, acc.length + Lib.lens (x.fKids.map TExpr.text) + x.fKids.length ≤ 1000000000 → s_l03Print_L23 x.fKind x.fNum x.fText x.fKids acc ((0 : Nat) : Int) = some (acc ++ (if (0 : Nat) = 0 then Lib.join (x.fKids.map TExpr.text) [44] else Lib.joinTail [44] (x.fKids.map TExpr.text)) ++ [41]) := by
     refine loop_ind (xs := x.fKids) (by omega) (P := fun i l => ∀ acc : List UInt8, acc.length + Lib.lens (l.map TExpr.text) + l.length ≤ 1000000000 → s_l03Print_L23 x.fKind x.fNum x.fText x.fKids acc i = some (acc ++ (if i = 0 then Lib.join (l.map TExpr.text) [44] else Lib.joinTail [44] (l.map TExpr.text)) ++ [41])) ?_ ?_
     ·intro acc h1
      rw [s_l03Print_L23_eq, if_neg (by simp [len_eq])]
      simp only [List.length_nil, Lib.lens, List.map_nil, List.sum_nil] at h1
      rw [app_of (by simp; omega)]
      have : Lib.joinTail [44] [] = [] := rfl
      simp [Lib.join_nil, this]
     ·intro i y l _ hlt hy hi hw ih2 acc h1
      have e2 : Lib.lens ((y :: l).map TExpr.text) = y.text.length + Lib.lens (l.map TExpr.text) := by simp [Lib.lens]
      rw [e2, List.length_cons] at h1
      rw [s_l03Print_L23_eq, hi, hw, if_pos (by simp [len_eq, hlt])]
      simp only [Option.bind_some, (kid y hy).1]
      by_cases h0 : i = 0
      ·subst h0
       rw [if_neg (by simp), app_of (by omega)]
       simp only [Option.bind_some]
       rw [ih2 _ (by simp; omega)]
       simp only [Nat.zero_add, Nat.one_ne_zero, if_false, if_true, List.map_cons, Lib.join_cons, List.append_assoc]
      ·rw [if_pos (by simp; omega), app_of (by simp; omega)]
       simp only [Option.bind_some]
       rw [app_of (by simp; omega)]
       simp only [Option.bind_some]
       rw [ih2 _ (by simp; omega)]
       have : Lib.joinTail [44] (y.text :: l.map TExpr.text) = [44] ++ y.text ++ Lib.joinTail [44] (l.map TExpr.text) := rfl
       simp only [h0, Nat.add_eq_zero_iff, Nat.one_ne_zero, and_false, if_false, List.map_cons, this, List.append_assoc]
    intro acc h1 _
    have hl := lens_sum x.fKids 250 (fun y hy => y.text_len (hk y hy))
    have := key acc (by omega)
    simpa using this
   have e : ((x.fKids.map fun y => (eLevel y.fKind, TExpr.text y)).map (·.2)) = x.fKids.map TExpr.text := by rw [List.map_map]; rfl
   have := loop (x.fText ++ [40]) (by simp; omega) (fun _ => trivial)
   simp only [Int.natCast_zero] at this
   rw [h1] at this ⊢
   simp only [eBody, e]
   simp
   rw [app_of (by simp; omega)]
   simpa using this
  ·obtain ⟨ka, la⟩ := kid a (by simp [h2])
   have hl := opdT_len 6 (eLevel a.fKind, a.text)
   simp only at hl
   rw [h2]
   simp only [idx_zero, List.getElem?_cons_zero, Option.bind_some]
   rw [s_l03At_of 6 ka (by omega)]
   rcases h1 with h1 | h1
   all_goals
    rw [h1] at hs ⊢
    simp [eBody, eSym]
    rw [app_of (by simp; omega)]
    simp
  ·obtain ⟨ka, la⟩ := kid a (by simp [h2])
   obtain ⟨kb, lb⟩ := kid b (by simp [h2])
   have p1 := fun l => opdT_len l (eLevel a.fKind, a.text)
   have p2 := fun l => opdT_len l (eLevel b.fKind, b.text)
   simp only at p1 p2
   have hr := eLevel_rng x.fKind
   rw [h2]
   simp only [idx_zero, idx_one, List.getElem?_cons_zero, List.getElem?_cons_succ, Option.bind_some, s_l03Level_ok]
   rw [w64_of (by omega) (by omega)]
   simp only [fun l => s_l03At_of l ka (by omega), fun l => s_l03At_of l kb (by omega), kb, Option.bind_some]
   have q1 := p1 7
   have q2 := p1 2
   have q3 := p2 3
   have q4 := p1 (eLevel x.fKind)
   have q5 := p2 (eLevel x.fKind + 1)
   have n1 : ¬ x.fKind = 1 := by omega
   have n2 : ¬ x.fKind = 2 := by omega
   have n3 : ¬ x.fKind = 3 := by omega
   have n4 : ¬ x.fKind = 4 := by omega
   have n5 : ¬ (x.fKind = 16 ∨ x.fKind = 17 ∨ x.fKind = 18) := by omega
   have m1 : ¬ x.fKind = 16 := by omega
   have m2 : ¬ x.fKind = 17 := by omega
   have m3 : ¬ x.fKind = 18 := by omega
   have m4 : ¬ x.fKind = 14 := by omega
   have m5 : ¬ x.fKind = 15 := by omega
   simp only [List.map_cons, List.map_nil, eBody, n1, n2, n3, n4, n5, m1, m2, m3, m4, m5, if_false, beq_iff_eq]
   by_cases c5 : x.fKind = 5
   ·rw [if_pos c5, if_pos c5]
    rw [app_of (by simp; omega)]
    simp only [Option.bind_some]
    rw [app_of (by simp; omega)]
    simp only [Option.bind_some]
    rw [app_of (by simp; omega)]
    rfl
   ·rw [if_neg c5, if_neg c5, s_l03Sign_ok (by omega) (by omega)]
    by_cases c7 : x.fKind = 7
    ·have l7 : eLevel x.fKind = 2 := by unfold eLevel; simp [c7]
     rw [if_pos c7, if_pos c7]
     rw [l7] at q4 q5 ⊢
     simp only [Option.bind_some]
     rw [app_of (by simp; omega)]
     simp only [Option.bind_some]
     rw [app_of (by simp; omega)]
     rfl
    ·rw [if_neg c7, if_neg c7]
     simp only [Option.bind_some]
     rw [app_of (by simp; omega)]
     simp only [Option.bind_some]
     rw [app_of (by simp; omega)]
     simp
end Go.Dv.U

namespace Go.Dv.U
open Go Go.Dv Go.Proofs
def nmB (s : List UInt8) : Bool := s == [] || isName s
def gOk (g : TGoto) : Bool := (g.fAlways == [] || (g.fSuccess == [] && g.fFailure == [])) && (nmB g.fAlways && nmB g.fSuccess && nmB g.fFailure)
def gZero (g : TGoto) : Bool := g.fAlways == [] && g.fSuccess == [] && g.fFailure == []
def zE (e : TExpr) : Bool := e.fKind == 0 && e.fNum == 0 && e.fText == [] && decide (e.fKids.length = 0)
def partB (b : Bool) (e : TExpr) : Bool := if b = true then e.valid else zE e
def sForm (s : TStatement) : Bool := nmB s.fLabel && gOk s.fGoto && (s.fHasSubject || (!s.fHasPattern && !s.fHasReplace)) && (partB s.fHasSubject s.fSubject && partB s.fHasPattern s.fPattern && partB s.fHasReplace s.fReplace) && !(s.fLabel == [] && !s.fHasSubject && gZero s.fGoto)
def wrapG (c : UInt8) (s : List UInt8) : List UInt8 := if s = [] then [] else [c, 40] ++ s ++ [41]
def gText (g : TGoto) : List UInt8 := if g.fAlways ≠ [] then [58, 40] ++ g.fAlways ++ [41] else if wrapG 83 g.fSuccess ++ wrapG 70 g.fFailure = [] then [] else 58 :: (wrapG 83 g.fSuccess ++ wrapG 70 g.fFailure)
def sTail (s : TStatement) : List UInt8 := (if s.fHasReplace = true then [32, 61, 32] ++ s.fReplace.text else []) ++ (if gText s.fGoto = [] then [] else [32] ++ gText s.fGoto)
def sRest (s : TStatement) : List UInt8 := (if s.fHasSubject = true then [32] ++ opdT 6 (eLevel s.fSubject.fKind, s.fSubject.text) else []) ++ (if s.fHasPattern = true then [32] ++ s.fPattern.text else []) ++ sTail s
def sText (s : TStatement) : List UInt8 := s.fLabel ++ sRest s
def sValid (s : TStatement) : Bool := sForm s && (decide ((sText s).length ≤ 4000) && (scanT (sRest s)).2.2 == 0)
theorem nmB_len {s : List UInt8} (h : nmB s = true) : s.length ≤ 12 := by
 unfold nmB at h
 rw [Bool.or_eq_true_iff] at h
 rcases h with h | h
 ·have : s = [] := by simpa using h
  rw [this]; simp
 ·exact isName_len h
theorem nmB_eq (s : List UInt8) : nmB s = if s = [] then true else isName s := by
 unfold nmB
 by_cases h : s = []
 ·simp [h]
 ·have : (s == []) = false := by simpa using h
  simp [h]
theorem s_l04Name_ok (s : List UInt8) : s_l04Name s = some (nmB s) := by
 rw [s_l04Name_eq, s_IsName_ok, nmB_eq]
 simp only [Option.bind_some, beq_iff_eq]
 split <;> rfl
theorem s_ValidGoto_ok (g : TGoto) : s_ValidGoto g = some (gOk g) := by
 rw [s_ValidGoto_eq, s_ValidGoto_L2_eq, s_ValidGoto_L3_eq]
 simp only [s_l04Name_ok, Option.bind_some, ite_some]
 congr 1
 unfold gOk
 cases g.fAlways == [] <;> cases g.fSuccess == [] <;> cases g.fFailure == [] <;> cases nmB g.fAlways <;> cases nmB g.fSuccess <;> cases nmB g.fFailure <;> rfl
theorem i_IsLabel_ok (s : List UInt8) : i_IsLabel s = some (isName s) := by
 rw [i_IsLabel_eq, i_IsName_ok]; rfl
theorem i_ValidGoto_ok (g : TGoto) : i_ValidGoto g = some (gOk g) := by
 have hlab : i_Goto_labels g = some ([g.fAlways, g.fSuccess, g.fFailure].filter fun s => !(s == [])) := by
  rw [i_Goto_labels_eq]
  generalize g.fAlways = A
  generalize g.fSuccess = B
  generalize g.fFailure = D
  have t3 : len [A, B, D] = 3 := rfl
  have w1 : w64 (0 + 1) = 1 := by decide
  have w2 : w64 (1 + 1) = 2 := by decide
  have w3 : w64 (2 + 1) = 3 := by decide
  have step : ∀ (i : Int) (acc : List (List UInt8)) (y : List UInt8), idx [A, B, D] i = some y → ([A, B, D] : List (List UInt8))[i.toNat]? = some y → i < 3 → acc.length ≤ 10 → i_Goto_labels_L3 3 i acc [A, B, D] = i_Goto_labels_L3 3 (w64 (i + 1)) (acc ++ [y].filter fun s => !(s == [])) [A, B, D] := by
   intro i acc y h1 h2 h3 h4
   rw [i_Goto_labels_L3_eq, if_pos (by simpa using h3), h1, h2]
   simp only [Option.bind_some]
   by_cases hy : y = []
   ·rw [if_neg (by simp [hy])]; simp [hy]
   ·have : (y == []) = false := by simpa using hy
    have hf : ([y].filter fun s => !(s == [])) = [y] := by
     rw [List.filter_cons, if_pos (by rw [this]; rfl)]
     rfl
    rw [if_pos (by simp [hy]), app_of (by simp; omega), hf]
    rfl
  have fl : ∀ y : List UInt8, ([y].filter fun s => !(s == [])).length ≤ 1 := fun y => by
   have := List.length_filter_le (fun s : List UInt8 => !(s == [])) [y]
   simpa using this
  have f1 := fl A
  have f2 := fl B
  rw [t3, step 0 [] A rfl rfl (by decide) (by simp), w1, step 1 _ B rfl rfl (by decide) (by simp at f1 ⊢; omega), w2, step 2 _ D rfl rfl (by decide) (by simp at f1 f2 ⊢; omega), w3, i_Goto_labels_L3_eq, if_neg (by decide)]
  congr 1
  rw [show [A, B, D] = [A] ++ [B] ++ [D] from rfl, List.filter_append, List.filter_append]
  simp
 have hall : ∀ l : List (List UInt8), l.length ≤ 10 → i_areAll_string__i_IsLabel l = some (l.all isName) := by
  intro l hl
  rw [i_areAll_string__i_IsLabel_eq]
  exact all_loop (xs := l) (by omega) (F := i_IsLabel) (p := isName) (J := i_areAll_string_L2__i_IsLabel l (len l)) (fun i => by rw [i_areAll_string_L2__i_IsLabel_eq]) (fun y _ => i_IsLabel_ok y)
 rw [i_ValidGoto_eq]
 try simp only [TGoto.re_eq]
 rw [hlab]
 simp only [Option.bind_some]
 rw [hall _ (by
  have := List.length_filter_le (fun s : List UInt8 => !(s == [])) [g.fAlways, g.fSuccess, g.fFailure]
  simp at this ⊢; omega)]
 simp only [Option.bind_some, ite_some]
 congr 1
 unfold gOk nmB
 have hf : ∀ s : List UInt8, (s == []) = true ∨ (s == []) = false := fun s => by cases s == [] <;> simp
 rcases hf g.fAlways with h1 | h1 <;> rcases hf g.fSuccess with h2 | h2 <;> rcases hf g.fFailure with h3 | h3 <;> simp only [List.filter_cons, List.filter_nil, h1, h2, h3, Bool.not_true, Bool.not_false, Bool.false_eq_true, if_false, if_true, List.all_nil, List.all_cons, Bool.and_true, Bool.true_or, Bool.false_or, Bool.true_and, Bool.and_self, Bool.and_false, Bool.false_and, ite_self] <;> (try split) <;> simp_all
theorem i_isPart_ok (b : Bool) {e : TExpr} (hm : e.m ≤ 1048576) : i_isPart b e = some (partB b e) := by
 rw [i_isPart_eq]
 unfold partB
 cases b
 ·simp only [Bool.false_eq_true, if_false]
  have z0 : (Int.ofNat 0) = 0 := rfl
  simp only [TExpr.re_eq, z0]
  rw [i_SameExpr_eq]
  unfold zE
  have hk : slices_EqualFunc___i_Expr___i_Expr_i_Expr_i_Expr___i_SameExpr e.fKids [] = some (decide (e.fKids.length = 0)) := by
   rw [slices_EqualFunc___i_Expr___i_Expr_i_Expr_i_Expr___i_SameExpr_eq]
   by_cases h : e.fKids.length = 0
   ·rw [if_neg (by simp [len_eq, h]), slices_EqualFunc___i_Expr___i_Expr_i_Expr_i_Expr__L4__i_SameExpr_eq, if_neg (by simp [len_eq, h])]
    simp [h]
   ·rw [if_pos (by simp [len_eq]; intro e; exact h (by rw [e]; rfl))]
    simp [h]
  rw [hk]
  simp only [Option.bind_some, ite_some]
  cases e.fKind == 0 <;> cases e.fNum == 0 <;> cases e.fText == [] <;> simp
 ·simp only [if_true, TExpr.re_eq, i_ValidExpr_ok hm, Option.bind_some]
theorem s_l04Part_ok (b : Bool) {e : TExpr} (hm : e.m ≤ 1048576) : s_l04Part b e = some (partB b e) := by
 rw [s_l04Part_eq]
 unfold partB
 cases b
 ·simp only [Bool.false_eq_true, if_false]
  have z0 : (Int.ofNat 0) = 0 := rfl
  simp only [TExpr.re_eq, z0]
  rw [s_SameExpr_eq, s_l03Same_eq, s_l03Same_L2_eq]
  unfold zE
  by_cases h1 : e.fKind = 0
  ·rw [if_neg (by simp [h1])]
   by_cases h2 : e.fNum = 0
   ·rw [if_neg (by simp [h2])]
    by_cases h3 : e.fText = []
    ·rw [if_neg (by simp [h3])]
     by_cases h4 : e.fKids.length = 0
     ·rw [if_neg (by simp [len_eq, h4]), s_l03Same_L3_eq, s_l03Same_L4_eq, if_neg (by simp [len_eq, h4])]
      simp [h1, h2, h3, h4]
     ·rw [if_pos (by simp [len_eq]; intro e; exact h4 (by rw [e]; rfl))]
      simp [h4]
    ·rw [if_pos (by simp [h3])]
     simp [h3]
   ·rw [if_pos (by simp [h2])]
    simp [h2]
  ·rw [if_pos (by simp [h1])]
   simp [h1]
 ·simp only [if_true, TExpr.re_eq, s_ValidExpr_eq, s_l03Ok_ok hm, Option.bind_some]
theorem s_l04Form_ok {s : TStatement} (h1 : s.fSubject.m ≤ 1048576) (h2 : s.fPattern.m ≤ 1048576) (h3 : s.fReplace.m ≤ 1048576) : s_l04Form s = some (sForm s) := by
 rw [s_l04Form_eq, s_l04Form_L2_eq, s_l04Form_L3_eq, s_l04Form_L4_eq, s_l04Form_L5_eq]
 simp only [TExpr.re_eq, TGoto.re_eq, s_l04Name_ok, s_ValidGoto_ok, s_l04Part_ok _ h1, s_l04Part_ok _ h2, s_l04Part_ok _ h3, Option.bind_some, ite_some]
 congr 1
 unfold sForm gZero
 cases nmB s.fLabel <;> cases gOk s.fGoto <;> cases partB s.fHasSubject s.fSubject <;> cases partB s.fHasPattern s.fPattern <;> cases partB s.fHasReplace s.fReplace <;> cases s.fHasSubject <;> cases s.fHasPattern <;> cases s.fHasReplace <;> cases (s.fLabel == []) <;> cases s.fGoto.fAlways == [] <;> cases s.fGoto.fSuccess == [] <;> cases s.fGoto.fFailure == [] <;> rfl
theorem gOk_len {g : TGoto} (h : gOk g = true) : g.fAlways.length ≤ 12 ∧ g.fSuccess.length ≤ 12 ∧ g.fFailure.length ≤ 12 := by
 unfold gOk at h
 simp only [Bool.and_eq_true_iff] at h
 exact ⟨nmB_len h.2.1.1, nmB_len h.2.1.2, nmB_len h.2.2⟩
theorem wrapG_of {c : UInt8} {s : List UInt8} (h : s ≠ []) : wrapG c s = [c, 40] ++ s ++ [41] := by unfold wrapG; rw [if_neg h]
theorem wrapG_nil (c : UInt8) : wrapG c [] = [] := rfl
theorem wrapG_len (c : UInt8) (s : List UInt8) : (wrapG c s).length ≤ s.length + 3 := by unfold wrapG; split <;> simp
theorem i_Goto_text_ok {g : TGoto} (h : gOk g = true) : i_Goto_text g = some (gText g) := by
 obtain ⟨l1, l2, l3⟩ := gOk_len h
 have L8 : ∀ o : List UInt8, o.length ≤ 100 → i_Goto_text_L8 o = some (if o = [] then [] else 58 :: o) := by
  intro o ho
  rw [i_Goto_text_L8_eq]
  by_cases h : o = []
  ·rw [if_pos (by simp [h]), if_pos h]
  ·rw [if_neg (by simpa using h), if_neg h, app_of (by simp; omega)]
   rfl
 rw [i_Goto_text_eq]
 have w1 := wrapG_len 83 g.fSuccess
 have w2 := wrapG_len 70 g.fFailure
 by_cases hA : g.fAlways = []
 ·have hG : gText g = if wrapG 83 g.fSuccess ++ wrapG 70 g.fFailure = [] then [] else 58 :: (wrapG 83 g.fSuccess ++ wrapG 70 g.fFailure) := by unfold gText; rw [if_neg (fun h => h hA)]
  rw [if_neg (by simp [hA]), hG]
  by_cases hS : g.fSuccess = []
  ·rw [if_neg (by simp [hS]), hS, wrapG_nil, List.nil_append]
   by_cases hF : g.fFailure = []
   ·rw [if_neg (by simp [hF]), hF, wrapG_nil, L8 [] (by simp)]
   ·rw [if_pos (by simp [hF]), app_of (by simp; omega)]
    simp only [Option.bind_some]
    rw [app_of (by simp; omega)]
    simp only [Option.bind_some]
    rw [app_of (by simp; omega)]
    simp only [Option.bind_some]
    rw [L8 _ (by simp; omega), wrapG_of hF]
    simp
  ·rw [if_pos (by simp [hS]), app_of (by simp; omega)]
   simp only [Option.bind_some]
   rw [app_of (by simp; omega)]
   simp only [Option.bind_some]
   rw [app_of (by simp; omega)]
   simp only [Option.bind_some]
   by_cases hF : g.fFailure = []
   ·rw [if_neg (by simp [hF]), hF, wrapG_nil, L8 _ (by simp; omega), wrapG_of hS]
    simp
   ·rw [if_pos (by simp [hF]), app_of (by simp; omega)]
    simp only [Option.bind_some]
    rw [app_of (by simp; omega)]
    simp only [Option.bind_some]
    rw [app_of (by simp; omega)]
    simp only [Option.bind_some]
    rw [L8 _ (by simp; omega), wrapG_of hF, wrapG_of hS]
    simp
 ·have hG : gText g = [58, 40] ++ g.fAlways ++ [41] := by unfold gText; rw [if_pos hA]
  rw [if_pos (by simp [hA]), hG, app_of (by simp; omega)]
  simp only [Option.bind_some]
  rw [app_of (by simp; omega)]
  rfl
theorem s_GotoText_ok {g : TGoto} (h : gOk g = true) : s_GotoText g = some (gText g) := by
 obtain ⟨l1, l2, l3⟩ := gOk_len h
 rw [s_GotoText_eq]
 try simp only [TGoto.re_eq]
 rw [s_ValidGoto_ok, h]
 simp only [Option.bind_some, Bool.not_true, Bool.false_eq_true, if_false]
 have L8 : ∀ (o A B D : List UInt8), o.length ≤ 100 → D.length ≤ 12 → s_GotoText_L8 o A B D = some (o ++ wrapG 70 D) := by
  intro o A B D ho hD
  rw [s_GotoText_L8_eq]
  by_cases h : D = []
  ·rw [if_neg (by simp [h]), h, wrapG_nil]; simp
  ·rw [if_pos (by simp [h]), app_of (by simp; omega)]
   simp only [Option.bind_some]
   rw [app_of (by simp; omega)]
   simp only [Option.bind_some]
   rw [app_of (by simp; omega), wrapG_of h]
   simp
 by_cases hA : g.fAlways = []
 ·have hG : gText g = if wrapG 83 g.fSuccess ++ wrapG 70 g.fFailure = [] then [] else 58 :: (wrapG 83 g.fSuccess ++ wrapG 70 g.fFailure) := by unfold gText; rw [if_neg (fun h => h hA)]
  rw [hG]
  by_cases hS : g.fSuccess = []
  ·by_cases hF : g.fFailure = []
   ·rw [if_pos (by simp [hA, hS, hF]), hS, hF]
    rfl
   ·rw [if_neg (by simp [hF]), if_neg (by simp [hA]), if_neg (by simp [hS]), L8 _ _ _ _ (by simp) l3, hS, wrapG_nil, wrapG_of hF]
    simp
  ·rw [if_neg (by simp [hS]), if_neg (by simp [hA]), if_pos (by simp [hS]), app_of (by simp; omega)]
   simp only [Option.bind_some]
   rw [app_of (by simp; omega)]
   simp only [Option.bind_some]
   rw [app_of (by simp; omega)]
   simp only [Option.bind_some]
   rw [L8 _ _ _ _ (by simp; omega) l3, wrapG_of hS]
   simp
 ·have hG : gText g = [58, 40] ++ g.fAlways ++ [41] := by unfold gText; rw [if_pos hA]
  rw [if_neg (by simp [hA]), if_pos (by simp [hA]), hG, app_of (by simp; omega)]
  simp only [Option.bind_some]
  rw [app_of (by simp; omega)]
  rfl
theorem gText_len {g : TGoto} (h : gOk g = true) : (gText g).length ≤ 100 := by
 obtain ⟨l1, l2, l3⟩ := gOk_len h
 have w1 := wrapG_len 83 g.fSuccess
 have w2 := wrapG_len 70 g.fFailure
 unfold gText
 repeat' split
 all_goals simp <;> omega
theorem gText_nil (g : TGoto) : gText g = [] ↔ gZero g = true := by
 unfold gText gZero wrapG
 by_cases hA : g.fAlways = [] <;> by_cases hS : g.fSuccess = [] <;> by_cases hF : g.fFailure = [] <;> simp [hA, hS, hF]
theorem part_text {b : Bool} {e : TExpr} (h : partB b e = true) (hb : b = true) : i_Expr_text e = some e.text ∧ s_l03Print e.fKind e.fNum e.fText e.fKids = some e.text ∧ e.text.length ≤ 15000 := by
 unfold partB at h
 rw [if_pos hb] at h
 unfold TExpr.valid at h
 rw [Bool.and_eq_true_iff, decide_eq_true_eq] at h
 have := e.text_len h.1
 exact ⟨i_Expr_text_ok e h.1 (by omega), s_l03Print_ok e h.1 (by omega), by omega⟩
theorem sForm_parts {s : TStatement} (h : sForm s = true) : nmB s.fLabel = true ∧ gOk s.fGoto = true ∧ partB s.fHasSubject s.fSubject = true ∧ partB s.fHasPattern s.fPattern = true ∧ partB s.fHasReplace s.fReplace = true := by
 unfold sForm at h
 simp only [Bool.and_eq_true_iff] at h
 obtain ⟨⟨⟨⟨h1, h2⟩, h3⟩, ⟨h4, h5⟩, h6⟩, h7⟩ := h
 exact ⟨h1, h2, h4, h5, h6⟩
theorem i_Statement_text_ok {s : TStatement} (h : sForm s = true) : i_Statement_text s = some (sText s) := by
 obtain ⟨hl, hg, hs, hp, hr⟩ := sForm_parts h
 have ll := nmB_len hl
 have lg := gText_len hg
 have hgt : i_Goto_text (TGoto.mk s.fGoto.fAlways s.fGoto.fSuccess s.fGoto.fFailure) = some (gText s.fGoto) := i_Goto_text_ok hg
 have L6 : ∀ acc : List UInt8, acc.length ≤ 100000 → i_Statement_text_L6 acc s.fLabel s.fHasSubject s.fSubject.fKind s.fSubject.fNum s.fSubject.fText s.fSubject.fKids s.fHasPattern s.fPattern.fKind s.fPattern.fNum s.fPattern.fText s.fPattern.fKids s.fHasReplace s.fReplace.fKind s.fReplace.fNum s.fReplace.fText s.fReplace.fKids s.fGoto.fAlways s.fGoto.fSuccess s.fGoto.fFailure = some (acc ++ sTail s) := by
  intro acc ha
  rw [i_Statement_text_L6_eq]
  simp only [i_Statement_text_L11_eq, hgt, Option.bind_some]
  unfold sTail
  have er : TExpr.mk s.fReplace.fKind s.fReplace.fNum s.fReplace.fText s.fReplace.fKids = s.fReplace := by cases s.fReplace; rfl
  rw [er]
  have fin : ∀ o : List UInt8, o.length ≤ 200000 → (if (!gText s.fGoto == []) = true then (app [32] (gText s.fGoto)).bind fun y194 => (app o y194).bind fun y193 => some y193 else some o) = some (o ++ (if gText s.fGoto = [] then [] else [32] ++ gText s.fGoto)) := by
   intro o ho
   by_cases hz : gText s.fGoto = []
   ·rw [if_neg (by simp [hz]), if_pos hz]; simp
   ·rw [if_pos (by simp [hz]), if_neg hz, app_of (by simp; omega)]
    simp only [Option.bind_some]
    rw [app_of (by simp; omega)]
    rfl
  cases hR : s.fHasReplace
  ·simp only [Bool.false_eq_true, if_false, List.nil_append]
   exact fin acc (by omega)
  ·obtain ⟨t1, _, t3⟩ := part_text hr hR
   simp only [if_true, t1, Option.bind_some]
   rw [app_of (by simp; omega)]
   simp only [Option.bind_some]
   rw [app_of (by simp; omega)]
   simp only [Option.bind_some]
   rw [fin _ (by simp; omega)]
   simp
 rw [i_Statement_text_eq]
 try simp only [TExpr.re_eq, TGoto.re_eq]
 unfold sText sRest
 cases hS : s.fHasSubject
 ·cases hP : s.fHasPattern
  ·rw [hS, hP] at L6
   simp only [Bool.false_eq_true, if_false, List.nil_append]
   exact L6 s.fLabel (by omega)
  ·obtain ⟨t1, _, t3⟩ := part_text hp hP
   rw [hS, hP] at L6
   simp only [Bool.false_eq_true, if_false, if_true, List.nil_append, t1, Option.bind_some]
   rw [app_of (by simp; omega)]
   simp only [Option.bind_some]
   rw [app_of (by simp; omega)]
   simp only [Option.bind_some]
   rw [L6 _ (by simp; omega)]
   simp
 ·obtain ⟨u1, _, u3⟩ := part_text hs hS
  have lo := opdT_len 6 (eLevel s.fSubject.fKind, s.fSubject.text)
  simp only at lo
  have uo := i_operand_of 6 u1 (by omega)
  cases hP : s.fHasPattern
  ·rw [hS, hP] at L6
   simp only [Bool.false_eq_true, if_false, if_true, uo, Option.bind_some]
   rw [app_of (by simp; omega)]
   simp only [Option.bind_some]
   rw [app_of (by simp; omega)]
   simp only [Option.bind_some]
   rw [L6 _ (by simp; omega)]
   simp
  ·obtain ⟨t1, _, t3⟩ := part_text hp hP
   rw [hS, hP] at L6
   simp only [if_true, uo, t1, Option.bind_some]
   rw [app_of (xs := [32]) (ys := opdT 6 (eLevel s.fSubject.fKind, s.fSubject.text)) (by simp; omega)]
   simp only [Option.bind_some]
   rw [app_of (xs := s.fLabel) (by simp; omega)]
   simp only [Option.bind_some]
   rw [app_of (xs := [32]) (by simp; omega)]
   simp only [Option.bind_some]
   rw [app_of (by simp; omega)]
   simp only [Option.bind_some]
   rw [L6 _ (by simp; omega)]
   simp
theorem s_l04Print_ok {s : TStatement} (h : sForm s = true) : s_l04Print s = some (sText s) := by
  obtain ⟨hl, hg, hs, hp, hr⟩ := sForm_parts h
  have ll := nmB_len hl
  have lg := gText_len hg
  have hgt : s_GotoText (TGoto.mk s.fGoto.fAlways s.fGoto.fSuccess s.fGoto.fFailure) = some (gText s.fGoto) := s_GotoText_ok hg
  have hz2 : (s.fGoto.fAlways == [] && (s.fGoto.fSuccess == [] && (s.fGoto.fFailure == [] && true))) = gZero s.fGoto := by
    unfold gZero; simp only [Bool.and_true, Bool.and_assoc]
  have L6 : ∀ acc : List UInt8, acc.length ≤ 100000 → s_l04Print_L6 acc s.fLabel s.fHasSubject s.fSubject.fKind s.fSubject.fNum s.fSubject.fText s.fSubject.fKids s.fHasPattern s.fPattern.fKind s.fPattern.fNum s.fPattern.fText s.fPattern.fKids s.fHasReplace s.fReplace.fKind s.fReplace.fNum s.fReplace.fText s.fReplace.fKids s.fGoto.fAlways s.fGoto.fSuccess s.fGoto.fFailure = some (acc ++ sTail s) := by
    intro acc ha
    rw [s_l04Print_L6_eq]
    simp only [s_l04Print_L10_eq, hgt, hz2, Option.bind_some]
    unfold sTail
    have fin : ∀ o : List UInt8, o.length ≤ 200000 → (if (!gZero s.fGoto) = true then (app [32] (gText s.fGoto)).bind fun y194 => (app o y194).bind fun y193 => some y193 else some o) = some (o ++ (if gText s.fGoto = [] then [] else [32] ++ gText s.fGoto)) := by
      intro o ho
      by_cases hz : gText s.fGoto = []
      · rw [if_neg (by rw [(gText_nil _).1 hz]; simp), if_pos hz]; simp
      · have hzf : gZero s.fGoto = false := by
          cases hq : gZero s.fGoto
          · rfl
          · exact absurd ((gText_nil _).2 hq) hz
        rw [if_pos (by rw [hzf]; rfl), if_neg hz, app_of (by simp; omega)]
        simp only [Option.bind_some]
        rw [app_of (by simp; omega)]
        rfl
    cases hR : s.fHasReplace
    · simp only [Bool.false_eq_true, if_false, List.nil_append]
      exact fin acc (by omega)
    · obtain ⟨_, t1, t3⟩ := part_text hr hR
      simp only [if_true, t1, Option.bind_some]
      rw [app_of (by simp; omega)]
      simp only [Option.bind_some]
      rw [app_of (by simp; omega)]
      simp only [Option.bind_some]
      rw [fin _ (by simp; omega)]
      simp
  rw [s_l04Print_eq]
  try simp only [TExpr.re_eq, TGoto.re_eq]
  unfold sText sRest
  cases hS : s.fHasSubject
  · cases hP : s.fHasPattern
    · rw [hS, hP] at L6
      simp only [Bool.false_eq_true, if_false, List.nil_append]
      exact L6 s.fLabel (by omega)
    · obtain ⟨_, t1, t3⟩ := part_text hp hP
      rw [hS, hP] at L6
      simp only [Bool.false_eq_true, if_false, if_true, List.nil_append, t1, Option.bind_some]
      rw [app_of (by simp; omega)]
      simp only [Option.bind_some]
      rw [app_of (by simp; omega)]
      simp only [Option.bind_some]
      rw [L6 _ (by simp; omega)]
      simp
  · obtain ⟨_, u1, u3⟩ := part_text hs hS
    have lo := opdT_len 6 (eLevel s.fSubject.fKind, s.fSubject.text)
    simp only at lo
    have uo := s_l03At_of 6 u1 (by omega)
    cases hP : s.fHasPattern
    · rw [hS, hP] at L6
      simp only [Bool.false_eq_true, if_false, if_true, uo, Option.bind_some]
      rw [app_of (by simp; omega)]
      simp only [Option.bind_some]
      rw [app_of (by simp; omega)]
      simp only [Option.bind_some]
      rw [L6 _ (by simp; omega)]
      simp
    · obtain ⟨_, t1, t3⟩ := part_text hp hP
      rw [hS, hP] at L6
      simp only [if_true, uo, t1, Option.bind_some]
      rw [app_of (xs := [32]) (ys := opdT 6 (eLevel s.fSubject.fKind, s.fSubject.text)) (by simp; omega)]
      simp only [Option.bind_some]
      rw [app_of (xs := s.fLabel) (by simp; omega)]
      simp only [Option.bind_some]
      rw [app_of (xs := [32]) (by simp; omega)]
      simp only [Option.bind_some]
      rw [app_of (by simp; omega)]
      simp only [Option.bind_some]
      rw [L6 _ (by simp; omega)]
      simp
theorem sText_len {s : TStatement} (h : sForm s = true) : (sText s).length ≤ 100000 := by
 obtain ⟨hl, hg, hs, hp, hr⟩ := sForm_parts h
 have ll := nmB_len hl
 have lg := gText_len hg
 have lo := opdT_len 6 (eLevel s.fSubject.fKind, s.fSubject.text)
 simp only at lo
 unfold sText sRest sTail
 have a1 : (if s.fHasSubject = true then [32] ++ opdT 6 (eLevel s.fSubject.fKind, s.fSubject.text) else []).length ≤ 15003 := by
  split
  ·rename_i hS
   obtain ⟨_, _, u3⟩ := part_text hs hS
   simp; omega
  ·simp
 have a2 : (if s.fHasPattern = true then [32] ++ s.fPattern.text else []).length ≤ 15003 := by
  split
  ·rename_i hS
   obtain ⟨_, _, u3⟩ := part_text hp hS
   simp; omega
  ·simp
 have a3 : (if s.fHasReplace = true then [32, 61, 32] ++ s.fReplace.text else []).length ≤ 15003 := by
  split
  ·rename_i hS
   obtain ⟨_, _, u3⟩ := part_text hr hS
   simp; omega
  ·simp
 have a4 : (if gText s.fGoto = [] then [] else [32] ++ gText s.fGoto).length ≤ 101 := by
  split
  ·simp
  ·simp; omega
 simp only [List.length_append]
 omega
theorem trim_ok {p r : List UInt8} (h : (p ++ r).length ≤ 1000000) : strings_TrimPrefix (p ++ r) p = some r := by
 have hh : internal_stringslite_HasPrefix (p ++ r) p = some true := by
  rw [internal_stringslite_HasPrefix_eq, if_pos (by simp [len_eq]; omega)]
  have := cut_of (xs := p ++ r) (a := 0) (b := p.length) (by omega) (by simp)
  rw [Option.getD_some, len_eq, show (0 : Int) = ((0 : Nat) : Int) from rfl, this]
  simp
 rw [strings_TrimPrefix_eq, internal_stringslite_TrimPrefix_eq, hh]
 simp only [Option.bind_some, if_true]
 have := cut_of (xs := p ++ r) (a := p.length) (b := (p ++ r).length) (by simp) (Nat.le_refl _)
 rw [Option.getD_none, len_eq, len_eq, this, List.take_length, List.drop_left]
 rfl
theorem s_ValidStatement_ok {s : TStatement} (h1 : s.fSubject.m ≤ 1048576) (h2 : s.fPattern.m ≤ 1048576) (h3 : s.fReplace.m ≤ 1048576) : s_ValidStatement s = some (sValid s) := by
 have es : TStatement.mk s.fLabel s.fHasSubject s.fSubject s.fHasPattern s.fPattern s.fHasReplace s.fReplace s.fGoto = s := rfl
 rw [s_ValidStatement_eq]
 try simp only [TStatement.re_eq, TExpr.re_eq, TGoto.re_eq]
 rw [es, s_l04Form_ok h1 h2 h3]
 simp only [Option.bind_some]
 unfold sValid
 cases hf : sForm s
 ·simp
 ·have hl := sText_len hf
  rw [s_l04Print_ok hf]
  simp only [Option.bind_some, Bool.not_true, Bool.false_eq_true, if_false, Bool.true_and]
  by_cases h4 : (sText s).length ≤ 4000
  ·rw [if_neg (by simp [len_eq]; omega)]
   have hc : cut (sText s) (len s.fLabel) (Option.getD none (len (sText s))) = some (sRest s) := by
    have := cut_of (xs := sText s) (a := s.fLabel.length) (b := (sText s).length) (by unfold sText; simp) (Nat.le_refl _)
    rw [Option.getD_none, len_eq, len_eq, this, List.take_length]
    unfold sText
    rw [List.drop_left]
   have hr : (sRest s).length ≤ (sText s).length := by unfold sText; simp
   rw [hc]
   simp only [Option.bind_some]
   rw [s_ScanTokens_ok (by omega)]
   simp only [Option.bind_some, h4, decide_true, Bool.true_and]
  ·rw [if_pos (by simp [len_eq]; omega)]
   simp [h4]
theorem i_ValidStatement_ok {s : TStatement} (h1 : s.fSubject.m ≤ 1048576) (h2 : s.fPattern.m ≤ 1048576) (h3 : s.fReplace.m ≤ 1048576) : i_ValidStatement s = some (sValid s) := by
 have es : TStatement.mk s.fLabel s.fHasSubject s.fSubject s.fHasPattern s.fPattern s.fHasReplace s.fReplace s.fGoto = s := rfl
 have ea : TExpr.mk s.fSubject.fKind s.fSubject.fNum s.fSubject.fText s.fSubject.fKids = s.fSubject := by cases s.fSubject; rfl
 have eb : TExpr.mk s.fPattern.fKind s.fPattern.fNum s.fPattern.fText s.fPattern.fKids = s.fPattern := by cases s.fPattern; rfl
 have ec : TExpr.mk s.fReplace.fKind s.fReplace.fNum s.fReplace.fText s.fReplace.fKids = s.fReplace := by cases s.fReplace; rfl
 have eg : TGoto.mk s.fGoto.fAlways s.fGoto.fSuccess s.fGoto.fFailure = s.fGoto := rfl
 have L7 : sForm s = true → i_ValidStatement_L7 s.fLabel s.fHasSubject s.fSubject.fKind s.fSubject.fNum s.fSubject.fText s.fSubject.fKids s.fHasPattern s.fPattern.fKind s.fPattern.fNum s.fPattern.fText s.fPattern.fKids s.fHasReplace s.fReplace.fKind s.fReplace.fNum s.fReplace.fText s.fReplace.fKids s.fGoto.fAlways s.fGoto.fSuccess s.fGoto.fFailure = some (sValid s) := by
  intro hf
  have hl := sText_len hf
  have hr : (sRest s).length ≤ (sText s).length := by unfold sText; simp
  rw [i_ValidStatement_L7_eq, ea, eb, ec, eg, es, i_Statement_text_ok hf]
  simp only [Option.bind_some]
  have ht : strings_TrimPrefix (sText s) s.fLabel = some (sRest s) := trim_ok (by unfold sText at hl; omega)
  rw [ht]
  simp only [Option.bind_some]
  rw [i_ScanTokens_ok (by omega)]
  simp only [Option.bind_some]
  unfold sValid
  rw [hf]
  by_cases h4 : (sText s).length ≤ 4000
  ·rw [if_pos (by simp [len_eq]; omega)]
   simp [h4]
  ·rw [if_neg (by simp [len_eq]; omega)]
   simp [h4]
 have bad : sForm s = false → sValid s = false := fun h => by unfold sValid; rw [h]; rfl
 have hz2 : (s.fGoto.fAlways == [] && (s.fGoto.fSuccess == [] && (s.fGoto.fFailure == [] && true))) = gZero s.fGoto := by
  unfold gZero; simp only [Bool.and_true, Bool.and_assoc]
 have hform : sForm s = (nmB s.fLabel && gOk s.fGoto && (s.fHasSubject || (!s.fHasPattern && !s.fHasReplace)) && (partB s.fHasSubject s.fSubject && partB s.fHasPattern s.fPattern && partB s.fHasReplace s.fReplace) && !(s.fLabel == [] && !s.fHasSubject && gZero s.fGoto)) := rfl
 have hnm : nmB s.fLabel = (s.fLabel == [] || isName s.fLabel) := rfl
 rw [i_ValidStatement_eq]
 try simp only [TStatement.re_eq, TExpr.re_eq, TGoto.re_eq]
 rw [i_IsLabel_ok, i_ValidGoto_ok]
 simp only [i_ValidStatement_L2_eq, i_ValidStatement_L3_eq, i_ValidStatement_L4_eq, i_ValidStatement_L5_eq, i_ValidStatement_L6_eq, ea, eb, ec, i_isPart_ok _ h1, i_isPart_ok _ h2, i_isPart_ok _ h3, Option.bind_some, hz2]
 generalize i_ValidStatement_L7 s.fLabel s.fHasSubject s.fSubject.fKind s.fSubject.fNum s.fSubject.fText s.fSubject.fKids s.fHasPattern s.fPattern.fKind s.fPattern.fNum s.fPattern.fText s.fPattern.fKids s.fHasReplace s.fReplace.fKind s.fReplace.fNum s.fReplace.fText s.fReplace.fKids s.fGoto.fAlways s.fGoto.fSuccess s.fGoto.fFailure = Z at L7
 cases hF : sForm s
 ·rw [bad hF]
  rw [hform, hnm] at hF
  revert hF
  cases (s.fLabel == []) <;> cases isName s.fLabel <;> cases gOk s.fGoto <;> cases partB s.fHasSubject s.fSubject <;> cases partB s.fHasPattern s.fPattern <;> cases partB s.fHasReplace s.fReplace <;> cases s.fHasSubject <;> cases s.fHasPattern <;> cases s.fHasReplace <;> cases gZero s.fGoto <;> intro hF <;> first | rfl | (cases hF)
 ·have hZ := L7 hF
  rw [← hZ]
  rw [hform, hnm] at hF
  revert hF
  cases (s.fLabel == []) <;> cases isName s.fLabel <;> cases gOk s.fGoto <;> cases partB s.fHasSubject s.fSubject <;> cases partB s.fHasPattern s.fPattern <;> cases partB s.fHasReplace s.fReplace <;> cases s.fHasSubject <;> cases s.fHasPattern <;> cases s.fHasReplace <;> cases gZero s.fGoto <;> intro hF <;> first | rfl | (cases hF)
theorem sValid_form {s : TStatement} (h : sValid s = true) : sForm s = true := by
 unfold sValid at h
 exact (Bool.and_eq_true_iff.1 h).1
end Go.Dv.U

namespace Go.Dv.U
open Go Go.Dv Go.Proofs
def rsvB (l : List UInt8) : Bool := l == [82, 69, 84, 85, 82, 78] || l == [70, 82, 69, 84, 85, 82, 78]
def ixP (xs : List TStatement) (l : List UInt8) : Int := ixF (fun s : TStatement => s.fLabel == l) xs 0
def labP (xs : List TStatement) (s : TStatement) (i : Nat) : Bool := s.fLabel == [] || (!(rsvB s.fLabel) && ixP xs s.fLabel == (i : Int))
def pText (xs : List TStatement) : List UInt8 := xs.flatMap fun s => sText s ++ [10]
def pChk (xs : List TStatement) : Bool := xs.all sValid && gate (labP xs) xs 0
def pValid (p : TProgram) : Bool := decide (p.fStatements.length ≤ 80) && pChk p.fStatements && decide ((pText p.fStatements).length ≤ 4000)
theorem sMk (s : TStatement) : TStatement.mk s.fLabel s.fHasSubject s.fSubject s.fHasPattern s.fPattern s.fHasReplace s.fReplace s.fGoto = s := rfl
theorem sM {y : TStatement} (hy : y.m ≤ 1048576) : y.fSubject.m ≤ 1048576 ∧ y.fPattern.m ≤ 1048576 ∧ y.fReplace.m ≤ 1048576 := by
 have he := y.m_eq
 omega
theorem s_l05Reserved_ok (l : List UInt8) : s_l05Reserved l = some (rsvB l) := by
 rw [s_l05Reserved_eq]; unfold rsvB
 cases l == [82, 69, 84, 85, 82, 78] <;> simp
theorem i_isReserved_ok (l : List UInt8) : i_isReserved l = some (rsvB l) := by
 rw [i_isReserved_eq]; unfold rsvB
 cases l == [82, 69, 84, 85, 82, 78] <;> simp
theorem s_l05Index_ok {p : TProgram} (hp : p.fStatements.length ≤ 80) {l : List UInt8} (hl : (l == []) = false) : s_l05Index p l = some (ixP p.fStatements l) := by
 rw [s_l05Index_eq]
 refine ix_loop (xs := p.fStatements) (by omega) (J := fun i => s_l05Index_L2 l i p.fStatements) ?_ ?_
 ·intro i y hlt hy hi hw
  show s_l05Index_L2 l (i : Int) p.fStatements = _
  rw [s_l05Index_L2_eq, if_pos (by simpa [len_eq] using hlt), if_pos (by simp [hl]), hi]
  simp only [Option.bind_some, hw]
 ·show s_l05Index_L2 l _ p.fStatements = _
  rw [s_l05Index_L2_eq, if_neg (by simp [len_eq])]
theorem s_l05Index_nil {p : TProgram} (hp : p.fStatements.length ≤ 80) : s_l05Index p [] = some (-1) := by
 rw [s_l05Index_eq]
 have := ix_loop (xs := p.fStatements) (by omega) (p := fun _ => false) (J := fun i => s_l05Index_L2 [] i p.fStatements) (by
  intro i y hlt hy hi hw
  show s_l05Index_L2 [] (i : Int) p.fStatements = _
  rw [s_l05Index_L2_eq, if_pos (by simpa [len_eq] using hlt), if_neg (by simp), hw]
  simp) (by
  show s_l05Index_L2 [] _ p.fStatements = _
  rw [s_l05Index_L2_eq, if_neg (by simp [len_eq])])
 refine Eq.trans this ?_
 have : ∀ (l : List TStatement) (i : Nat), ixF (fun _ => false) l i = -1 := by
  intro l
  induction l with
  | nil => intro i; rfl
  | cons a r ih => intro i; simp [ixF, ih]
 rw [this]
theorem i_labelIndex_ok {p : TProgram} (hp : p.fStatements.length ≤ 80) (l : List UInt8) : i_Program_labelIndex p l = some (ixP p.fStatements l) := by
 rw [i_Program_labelIndex_eq, slices_IndexFunc___i_Statement_i_Statement___i_Program_labelIndex_c1_eq]
 have := ix_loop (xs := p.fStatements) (by omega) (p := fun s : TStatement => s.fLabel == l) (J := fun i => slices_IndexFunc___i_Statement_i_Statement__L2__i_Program_labelIndex_c1 p.fStatements l (len p.fStatements) i) (by
  intro i y hlt hy hi hw
  show slices_IndexFunc___i_Statement_i_Statement__L2__i_Program_labelIndex_c1 p.fStatements l (len p.fStatements) (i : Int) = _
  rw [slices_IndexFunc___i_Statement_i_Statement__L2__i_Program_labelIndex_c1_eq, if_pos (by simpa [len_eq] using hlt), hi]
  simp only [Option.bind_some, i_Program_labelIndex_c1_eq, hw]) (by
  show slices_IndexFunc___i_Statement_i_Statement__L2__i_Program_labelIndex_c1 p.fStatements l (len p.fStatements) _ = _
  rw [slices_IndexFunc___i_Statement_i_Statement__L2__i_Program_labelIndex_c1_eq, if_neg (by simp [len_eq])])
 try simp only at this
 rw [this]; rfl
theorem flat_len {α β : Type} {f : α → List β} {B : Nat} : ∀ {l : List α}, (∀ y ∈ l, (f y).length ≤ B) → (l.flatMap f).length ≤ l.length * B
 | [], _ => by simp
 | y :: r, h => by
  have h1 := h y (by simp)
  have h2 := flat_len (l := r) fun z hz => h z (by simp [hz])
  simp only [List.flatMap_cons, List.length_append, List.length_cons, Nat.add_mul]
  omega
theorem pText_len {xs : List TStatement} (hp : xs.length ≤ 80) (hv : ∀ y ∈ xs, sForm y = true) : (pText xs).length ≤ 8000080 := by
 have := flat_len (f := fun s : TStatement => sText s ++ [10]) (B := 100001) (l := xs) fun y hy => by
  have := sText_len (hv y hy)
  simp; omega
 have h2 : xs.length * 100001 ≤ 80 * 100001 := Nat.mul_le_mul_right _ hp
 unfold pText
 omega
theorem s_l05Text_ok {p : TProgram} (hp : p.fStatements.length ≤ 80) (hv : ∀ y ∈ p.fStatements, sForm y = true) : s_l05Text p = some (pText p.fStatements) := by
 rw [s_l05Text_eq]
 have hl := pText_len hp hv
 have := cat_loop (xs := p.fStatements) (by omega) (f := fun s : TStatement => sText s ++ [10]) (B := 8000080) (J := fun i a => s_l05Text_L3 a i p.fStatements) (by
  intro i y a hlt hy hi hw hb
  show s_l05Text_L3 a (i : Int) p.fStatements = _
  simp only [List.length_append, List.length_cons, List.length_nil] at hb
  rw [s_l05Text_L3_eq, if_pos (by simpa [len_eq] using hlt), hi]
  simp only [Option.bind_some]
  try simp only [TStatement.re_eq, TExpr.re_eq, TGoto.re_eq]
  rw [sMk, s_l04Print_ok (hv y hy)]
  simp only [Option.bind_some]
  rw [app_of (by simp; omega)]
  simp only [Option.bind_some]
  rw [app_of (by simp; omega)]
  simp only [Option.bind_some, hw]) hl
 try simp only at this
 rw [this, s_l05Text_L3_eq, if_neg (by simp [len_eq])]
 rfl
theorem i_text_v1_ok {p : TProgram} (hv : ∀ y ∈ p.fStatements, sForm y = true) (xs : List TStatement) (hxs : xs = p.fStatements) :
  ∀ (i : Nat) (y : TStatement) (a : List UInt8), i < xs.length → y ∈ xs → idx xs (i : Int) = some y → w64 ((i : Int) + 1) = ((i + 1 : Nat) : Int) → a.length + (sText y ++ [10]).length ≤ 8000080 →
   (i_Program_text_L3_v1 xs (len xs) (i : Int) (a.map ib) = i_Program_text_L3_v1 xs (len xs) ((i + 1 : Nat) : Int) ((a ++ (sText y ++ [10])).map ib)) ∧ (i_Program_text_L3 xs (len xs) (i : Int) (a.map ib) = i_Program_text_L3_v1 xs (len xs) ((i + 1 : Nat) : Int) ((a ++ (sText y ++ [10])).map ib)) := by
 intro i y a hlt hy hi hw hb
 subst hxs
 simp only [List.length_append, List.length_cons, List.length_nil] at hb
 have hc : decide ((i : Int) < len p.fStatements) = true := by simpa [len_eq] using hlt
 constructor
 ·rw [i_Program_text_L3_v1_eq, if_pos hc, hi]
  simp only [Option.bind_some]
  try simp only [TStatement.re_eq, TExpr.re_eq, TGoto.re_eq]
  rw [sMk, i_Statement_text_ok (hv y hy)]
  simp only [Option.bind_some]
  rw [app_of (by simp; omega)]
  simp only [Option.bind_some]
  rw [app_of (by simp; omega)]
  simp only [Option.bind_some, hw, List.map_append]
 ·rw [i_Program_text_L3_eq, if_pos hc, hi]
  simp only [Option.bind_some]
  try simp only [TStatement.re_eq, TExpr.re_eq, TGoto.re_eq]
  rw [sMk, i_Statement_text_ok (hv y hy)]
  simp only [Option.bind_some]
  rw [app_of (by simp; omega)]
  simp only [Option.bind_some]
  rw [app_of (by simp; omega)]
  simp only [Option.bind_some, hw, List.map_append]
theorem i_Program_text_ok {p : TProgram} (hp : p.fStatements.length ≤ 80) (hv : ∀ y ∈ p.fStatements, sForm y = true) : i_Program_text p = some (pText p.fStatements) := by
 rw [i_Program_text_eq]
 have hl := pText_len hp hv
 have st := i_text_v1_ok hv p.fStatements rfl
 have key := cat_loop (xs := p.fStatements) (by omega) (f := fun s : TStatement => sText s ++ [10]) (B := 8000080) (J := fun i a => i_Program_text_L3_v1 p.fStatements (len p.fStatements) i (a.map ib)) (fun i y a h1 h2 h3 h4 h5 => (st i y a h1 h2 h3 h4 h5).1) hl
 simp only [List.map_nil] at key
 have fin : i_Program_text_L3_v1 p.fStatements (len p.fStatements) (p.fStatements.length : Int) ((p.fStatements.flatMap fun s => sText s ++ [10]).map ib) = some (pText p.fStatements) := by
  rw [i_Program_text_L3_v1_eq, if_neg (by simp [len_eq]), bytesOf_ib]
  rfl
 have same : i_Program_text_L3 p.fStatements (len p.fStatements) 0 [] = i_Program_text_L3_v1 p.fStatements (len p.fStatements) 0 [] := by
  rw [i_Program_text_L3_eq, i_Program_text_L3_v1_eq]
 rw [same, key, fin]
theorem s_ValidProgram_ok {p : TProgram} (hm : p.m ≤ 1048576) : s_ValidProgram p = some (pValid p) := by
  have hq := p.m_eq
  rw [s_ValidProgram_eq]
  unfold pValid
  by_cases hp : p.fStatements.length ≤ 80
  · rw [if_neg (by simp [len_eq]; omega)]
    have hkey := gate_loop (xs := p.fStatements) (by omega) (c := fun y i => sValid y && labP p.fStatements y i) (J := fun i => s_ValidProgram_L4 i p.fStatements) (by
      intro i y hlt hy hi hw
      show s_ValidProgram_L4 (i : Int) p.fStatements = _
      have hym : y.m ≤ 1048576 := by have := sumOf_mem (m := TStatement.m) hy; omega
      obtain ⟨h1, h2, h3⟩ := sM hym
      rw [s_ValidProgram_L4_eq, if_pos (by simpa [len_eq] using hlt), hi]
      simp only [Option.bind_some, s_ValidProgram_L8_eq, s_ValidProgram_L5_eq, hw]
      try simp only [TStatement.re_eq, TExpr.re_eq, TGoto.re_eq]
      rw [sMk, s_ValidStatement_ok h1 h2 h3]
      simp only [Option.bind_some, s_l05Reserved_ok]
      cases hsv : sValid y
      · simp
      · unfold labP
        cases hlab : (y.fLabel == [])
        · rw [s_l05Index_ok (p := TProgram.mk p.fStatements) hp hlab]
          cases rsvB y.fLabel <;> by_cases hix : ixP p.fStatements y.fLabel = (i : Int) <;> simp [hix]
        · have : y.fLabel = [] := by simpa using hlab
          have hr : rsvB y.fLabel = false := by rw [this]; rfl
          simp [hr])
    try simp only at hkey
    rw [hkey, gate_all]
    show (if pChk p.fStatements = true then _ else _) = _
    cases hc : pChk p.fStatements
    · simp
    · have hv : ∀ y ∈ p.fStatements, sForm y = true := fun y hy => by
        unfold pChk at hc
        rw [Bool.and_eq_true] at hc
        exact sValid_form (List.all_eq_true.mp hc.1 y hy)
      have ht := s_l05Text_ok (p := TProgram.mk p.fStatements) hp hv
      simp only [if_true]
      rw [s_ValidProgram_L4_eq, if_neg (by simp [len_eq]), ht]
      simp [len_eq, hp]
      try omega
  · rw [if_pos (by simp [len_eq]; omega)]
    simp [hp]
theorem i_ValidProgram_ok {p : TProgram} (hm : p.m ≤ 1048576) : i_ValidProgram p = some (pValid p) := by
 have hq := p.m_eq
 rw [i_ValidProgram_eq]
 unfold pValid
 by_cases hp : p.fStatements.length ≤ 80
 ·rw [if_neg (by simp [len_eq]; omega)]
  have hall : i_areAll_impl_Statement__i_ValidStatement p.fStatements = some (p.fStatements.all sValid) := by
   rw [i_areAll_impl_Statement__i_ValidStatement_eq]
   refine all_loop (xs := p.fStatements) (by omega) (F := i_ValidStatement) (p := sValid) (J := i_areAll_impl_Statement_L2__i_ValidStatement p.fStatements (len p.fStatements)) (fun i => by rw [i_areAll_impl_Statement_L2__i_ValidStatement_eq]; try simp only [TStatement.re_eq, TExpr.re_eq, TGoto.re_eq, sMk]) (fun y hy => ?_)
   have hym : y.m ≤ 1048576 := by have := sumOf_mem (m := TStatement.m) hy; omega
   obtain ⟨h1, h2, h3⟩ := sM hym
   exact i_ValidStatement_ok h1 h2 h3
  rw [hall]
  simp only [Option.bind_some]
  unfold pChk
  cases hv : p.fStatements.all sValid
  ·simp
  have hkey := gate_loop (xs := p.fStatements) (by omega) (c := labP p.fStatements) (J := fun i => i_ValidProgram_L4 p.fStatements (len p.fStatements) i p.fStatements) (by
   intro i y hlt hy hi hw
   show i_ValidProgram_L4 p.fStatements (len p.fStatements) (i : Int) p.fStatements = _
   rw [i_ValidProgram_L4_eq, if_pos (by simpa [len_eq] using hlt), hi]
   simp only [Option.bind_some, i_ValidProgram_L7_eq, i_ValidProgram_L8_eq, hw, i_isReserved_ok]
   unfold labP
   cases hlab : (y.fLabel == [])
   ·rw [i_labelIndex_ok (p := TProgram.mk p.fStatements) hp]
    cases rsvB y.fLabel <;> by_cases hix : ixP p.fStatements y.fLabel = (i : Int) <;> simp [hix]
   ·simp)
  try simp only at hkey
  simp only [Bool.not_true, Bool.false_eq_true, if_false, Bool.true_and]
  rw [hkey]
  cases hc : gate (labP p.fStatements) p.fStatements 0
  ·simp
  ·have hvf : ∀ y ∈ p.fStatements, sForm y = true := fun y hy => sValid_form (List.all_eq_true.mp hv y hy)
   have ht := i_Program_text_ok (p := TProgram.mk p.fStatements) hp hvf
   simp only [if_true]
   rw [i_ValidProgram_L4_eq, if_neg (by simp [len_eq]), ht]
   simp [len_eq, hp]
   try omega
 ·rw [if_pos (by simp [len_eq]; omega)]
  simp [hp]
theorem pValid_parts {p : TProgram} (h : pValid p = true) : p.fStatements.length ≤ 80 ∧ ∀ y ∈ p.fStatements, sForm y = true := by
 unfold pValid pChk at h
 simp only [Bool.and_eq_true, decide_eq_true_eq] at h
 exact ⟨h.1.1, fun y hy => sValid_form (List.all_eq_true.mp h.1.2.1 y hy)⟩
theorem i_LabelIndex_ok {p : TProgram} (hm : p.m ≤ 1048576) (l : List UInt8) : i_LabelIndex p l = some (if pValid p = true then (if l = [] then -1 else ixP p.fStatements l) else -1) := by
 rw [i_LabelIndex_eq, i_ValidProgram_ok hm]
 simp only [Option.bind_some]
 cases h : pValid p
 ·simp
 ·obtain ⟨h1, h2⟩ := pValid_parts h
  by_cases hl : l = []
  ·simp [hl]
  ·rw [i_labelIndex_ok h1]; simp [hl]
end Go.Dv.U

namespace Go.Dv.U
open Go Go.Dv Go.Proofs
def labs (g : TGoto) : List (List UInt8) := [g.fAlways, g.fSuccess, g.fFailure].filter fun s => !(s == [])
theorem i_labels_ok (g : TGoto) : i_Goto_labels g = some (labs g) := by
 unfold labs
 rw [i_Goto_labels_eq]
 generalize g.fAlways = A
 generalize g.fSuccess = B
 generalize g.fFailure = D
 have t3 : len [A, B, D] = 3 := rfl
 have w1 : w64 (0 + 1) = 1 := by decide
 have w2 : w64 (1 + 1) = 2 := by decide
 have w3 : w64 (2 + 1) = 3 := by decide
 have step : ∀ (i : Int) (acc : List (List UInt8)) (y : List UInt8), idx [A, B, D] i = some y → ([A, B, D] : List (List UInt8))[i.toNat]? = some y → i < 3 → acc.length ≤ 10 → i_Goto_labels_L3 3 i acc [A, B, D] = i_Goto_labels_L3 3 (w64 (i + 1)) (acc ++ [y].filter fun s => !(s == [])) [A, B, D] := by
  intro i acc y h1 h2 h3 h4
  rw [i_Goto_labels_L3_eq, if_pos (by simpa using h3), h1, h2]
  simp only [Option.bind_some]
  by_cases hy : y = []
  ·rw [if_neg (by simp [hy])]; simp [hy]
  ·have : (y == []) = false := by simpa using hy
   have hf : ([y].filter fun s => !(s == [])) = [y] := by
    rw [List.filter_cons, if_pos (by rw [this]; rfl)]
    rfl
   rw [if_pos (by simp [hy]), app_of (by simp; omega), hf]
   rfl
 have fl : ∀ y : List UInt8, ([y].filter fun s => !(s == [])).length ≤ 1 := fun y => by
  have := List.length_filter_le (fun s : List UInt8 => !(s == [])) [y]
  simpa using this
 have f1 := fl A
 have f2 := fl B
 rw [t3, step 0 [] A rfl rfl (by decide) (by simp), w1, step 1 _ B rfl rfl (by decide) (by simp at f1 ⊢; omega), w2, step 2 _ D rfl rfl (by decide) (by simp at f1 f2 ⊢; omega), w3, i_Goto_labels_L3_eq, if_neg (by decide)]
 congr 1
 rw [show [A, B, D] = [A] ++ [B] ++ [D] from rfl, List.filter_append, List.filter_append]
 simp
theorem labs_len (g : TGoto) : (labs g).length ≤ 3 := by
 have := List.length_filter_le (fun s : List UInt8 => !(s == [])) [g.fAlways, g.fSuccess, g.fFailure]
 exact this
def labL (xs : List TStatement) : List (List UInt8) := xs.flatMap fun s => if s.fLabel = [] then [] else [s.fLabel]
theorem labL_len (xs : List TStatement) : (labL xs).length ≤ xs.length := by
 have := flat_len (f := fun s : TStatement => if s.fLabel = [] then [] else [s.fLabel]) (B := 1) (l := xs) (fun y _ => by split <;> simp)
 simpa [labL] using this
def mOk (xs : List TStatement) (l : List UInt8) : Bool := !(l == [69, 78, 68]) && !(rsvB l) && decide (ixP xs l < 0)
def missF (xs : List TStatement) (s : TStatement) : List (List UInt8) := (labs s.fGoto).filter (mOk xs)
theorem missF_len (xs : List TStatement) (s : TStatement) : (missF xs s).length ≤ 3 := Nat.le_trans (List.length_filter_le _ _) (labs_len _)
theorem missL_len (xs l : List TStatement) : (l.flatMap (missF xs)).length ≤ l.length * 3 := flat_len fun y _ => missF_len xs y
end Go.Dv.U

namespace Go.Dv.U
open Go Go.Dv Go.Proofs
theorem textS_ok (xs : List (List UInt8)) (hx : xs ≠ []) (hl : ∀ t ∈ xs, t.length ≤ 20) {c : List Int} {a s B : Int} (h : SrcOk c a B) (hB : B ≤ 4611686018427387000) : Dr (s_l00Src_text xs c a s) (B + 2) (fun v => v.length ≤ 20) :=
 (s_l00Src_text_ok xs hx h hB).le (Int.le_refl _) fun v hv => hl v hv
theorem em_mk (k n : Int) (t : List UInt8) (ks : List TExpr) : (TExpr.mk k n t ks).m = t.length + (ks.length + sumOf TExpr.m ks) := TExpr.m_eq _
theorem emEta (e : TExpr) : TExpr.mk e.fKind e.fNum e.fText e.fKids = e := by cases e; rfl
theorem s_l03Draw_L5_ok {c : List Int} {a s B : Int} (h : SrcOk c a B) (hB : B ≤ 4611686018427380000) (x3 x4 : Int) (x5 : List UInt8) (x6 : List TExpr) : Dr (s_l03Draw_L5 c a s x3 x4 x5 x6) (B + 10) (fun e => e.m ≤ 20) := by
 rw [s_l03Draw_L5_eq]
 refine (textS_ok _ (by simp) (by decide) h (by omega)).bind fun v c a s h hv => ?_
 exact Dr.some (h.le (by omega)) (by rw [em_mk]; simp [sumOf]; omega)
theorem s_l03Draw_L6_ok {c : List Int} {a s B : Int} (x0 : Int) (h : SrcOk c a B) (hB : B ≤ 4611686018427380000) (x3 x4 : Int) (x5 : List UInt8) (x6 : List TExpr) : Dr (s_l03Draw_L6 x0 c a s x3 x4 x5 x6) (B + 10) (fun e => e.m ≤ 20) := by
 rw [s_l03Draw_L6_eq]
 split
 ·refine (s_l00Src_among_ok _ (by simp) h (by omega)).bind fun v c a s h hv => ?_
  exact Dr.some (h.le (by omega)) (by rw [em_mk]; simp [sumOf])
 split
 ·refine (s_l00Src_among_ok _ (by simp) h (by omega)).bind fun v c a s h hv => ?_
  exact Dr.some (h.le (by omega)) (by rw [em_mk]; simp [sumOf])
 split
 ·refine (s_l00Src_pick_ok _ h (by omega)).bind fun v c a s h hv => ?_
  simp only
  refine (textS_ok _ (by simp) (by decide) h (by omega)).bind fun v c a s h hv => ?_
  exact Dr.some (h.le (by omega)) (by rw [em_mk]; simp [sumOf]; omega)
 ·refine (textS_ok _ (by simp) (by decide) h (by omega)).bind fun v c a s h hv => ?_
  exact Dr.some (h.le (by omega)) (by rw [em_mk]; simp [sumOf]; omega)
theorem sum_snoc (l : List TExpr) (e : TExpr) : sumOf TExpr.m (l ++ [e]) = sumOf TExpr.m l + e.m := by
 induction l with
 | nil => simp [sumOf]
 | cons y r ih => simp only [List.cons_append, sumOf, ih]; omega
theorem s_l03Draw_L22_ok (n : Nat) (p : Nat) (hp : 1 ≤ p) (hp2 : p ≤ 1000) (ih : ∀ {c : List Int} {a s B : Int}, SrcOk c a B → B + 100 * p ≤ 4611686018427000000 → Dr (s_l03Draw (n : Int) c a s) (B + 100 * p) (fun e => e.m ≤ 40 * p)) (hn : n ≤ 100) (x5 x6 : Int) (x7 : List UInt8) (x8 : List TExpr) (x9 x10 : Int) (x11 : List UInt8) (h11 : x11.length ≤ 20) :
  ∀ (k : Nat) {c : List Int} {a s B : Int} (acc : List TExpr), SrcOk c a B → B + 100 * p * k ≤ 4611686018427000000 → acc.length + k ≤ 2 → sumOf TExpr.m acc + 40 * p * k ≤ 80 * p → Dr (s_l03Draw_L22 ((n + 1 : Nat) : Int) (k : Int) c a s x5 x6 x7 x8 x9 x10 x11 acc) (B + 100 * p * k) (fun e => e.m ≤ 80 * p + 22) := by
 intro k
 induction k with
 | zero =>
  intro c a s B acc h hB hl hm
  rw [s_l03Draw_L22_eq, if_neg (by simp)]
  exact Dr.some (h.le (by simp)) (by rw [em_mk]; omega)
 | succ k ihk =>
  intro c a s B acc h hB hl hm
  have e1 : 100 * (p : Int) * ((k + 1 : Nat) : Int) = 100 * p * k + 100 * p := by
   rw [show ((k + 1 : Nat) : Int) = (k : Int) + 1 by omega, Int.mul_add, Int.mul_one]
  have e2 : 40 * p * (k + 1) = 40 * p * k + 40 * p := by rw [Nat.mul_add, Nat.mul_one]
  have e3 : 0 ≤ 100 * (p : Int) * (k : Int) := Int.mul_nonneg (by omega) (by omega)
  rw [e1] at hB ⊢
  rw [e2] at hm
  rw [s_l03Draw_L22_eq, if_pos (by simp only [decide_eq_true_eq]; omega)]
  have w1 : w64 (((n + 1 : Nat) : Int) - 1) = (n : Int) := by rw [w64_of (by omega) (by omega)]; omega
  have w2 : w64 (((k + 1 : Nat) : Int) - 1) = (k : Int) := by rw [w64_of (by omega) (by omega)]; omega
  rw [w1, w2]
  refine (ih h (by omega)).bind fun v c a s h hv => ?_
  simp only
  rw [app_of (by simp; omega)]
  simp only [Option.bind_some]
  refine (ihk (acc ++ [v]) h (by omega) (by simp; omega) (by rw [sum_snoc]; omega)).le (by omega) fun _ h => h
theorem s_l03Draw_ok : ∀ (n p : Nat), n ≤ 3 → p = 4 ^ n → ∀ {c : List Int} {a s B : Int}, SrcOk c a B → B + 100 * p ≤ 4611686018427000000 → Dr (s_l03Draw (n : Int) c a s) (B + 100 * p) (fun e => e.m ≤ 40 * p) := by
 intro n
 induction n with
 | zero =>
  intro p _ hp c a s B h hB
  have hp1 : p = 1 := by simpa using hp
  subst hp1
  rw [s_l03Draw_eq, if_pos (by simp)]
  refine (s_l00Src_pick_ok _ h (by omega)).bind fun v c a s h hv => ?_
  simp only
  split
  ·exact (s_l03Draw_L5_ok h (by omega) _ _ _ _).le (by omega) fun e he => by omega
  split
  ·exact (s_l03Draw_L5_ok h (by omega) _ _ _ _).le (by omega) fun e he => by omega
  ·exact (s_l03Draw_L6_ok _ h (by omega) _ _ _ _).le (by omega) fun e he => by omega
 | succ n ihn =>
  intro P hn hP c a s B h hB
  have hP2 : P = 4 * 4 ^ n := by rw [hP, Nat.pow_succ]; omega
  have hpos : 1 ≤ 4 ^ n := by
   rcases Nat.eq_zero_or_pos (4 ^ n) with e | e
   ·simp at e
   ·exact e
  have hle : 4 ^ n ≤ 16 := Nat.pow_le_pow_right (n := 4) (by omega) (show n ≤ 2 by omega)
  have ih := @ihn (4 ^ n) (by omega) rfl
  generalize 4 ^ n = p at hP2 hpos hle ih
  have w1 : w64 (((n + 1 : Nat) : Int) - 1) = (n : Int) := by rw [w64_of (by omega) (by omega)]; omega
  rw [s_l03Draw_eq, if_neg (by simp; omega), w1]
  refine (s_l00Src_one_ok _ h (by omega)).bind fun v c a s h _ => ?_
  simp only
  split
  ·refine (s_l00Src_pick_ok _ h (by omega)).bind fun v c a s h hv => ?_
   simp only
   split
   ·exact (s_l03Draw_L5_ok h (by omega) _ _ _ _).le (by omega) fun e he => by omega
   split
   ·exact (s_l03Draw_L5_ok h (by omega) _ _ _ _).le (by omega) fun e he => by omega
   ·exact (s_l03Draw_L6_ok _ h (by omega) _ _ _ _).le (by omega) fun e he => by omega
  ·refine (ih h (by omega)).bind fun A c a s h hA => ?_
   simp only
   refine (s_l00Src_pick_ok _ h (by omega)).bind fun v c a s h hv => ?_
   simp only [emEta]
   split
   ·refine (s_l00Src_pick_ok _ h (by omega)).bind fun v c a s h hv => ?_
    simp only [emEta, TExpr.re_eq]
    exact Dr.some (h.le (by omega)) (by rw [em_mk]; simp [sumOf]; omega)
   split
   ·refine (s_l00Src_pick_ok _ h (by omega)).bind fun v c a s h hv => ?_
    simp only
    refine (textS_ok _ (by simp) (by decide) h (by omega)).bind fun v c a s h hv => ?_
    simp only [s_l03Pair_eq, Option.bind_some, emEta, TExpr.re_eq]
    exact Dr.some (h.le (by omega)) (by rw [em_mk]; simp [sumOf, em_mk]; omega)
   split
   ·refine (textS_ok _ (by simp) (by decide) h (by omega)).bind fun t c a s h ht => ?_
    simp only
    refine (s_l00Src_pick_ok _ h (by omega)).bind fun v c a s h hv => ?_
    simp only
    obtain ⟨k, rfl⟩ : ∃ k : Nat, v = k := ⟨v.toNat, by omega⟩
    have hk : k ≤ 2 := by have := hv.2.1 (by decide); omega
    have e1 : 100 * (p : Int) * (k : Int) ≤ 200 * p := by
     have : 100 * (p : Int) * (k : Int) ≤ 100 * p * 2 := Int.mul_le_mul_of_nonneg_left (by omega) (by omega)
     omega
    have e2 : 40 * p * k ≤ 80 * p := by
     have : 40 * p * k ≤ 40 * p * 2 := Nat.mul_le_mul_left _ hk
     omega
    refine (s_l03Draw_L22_ok n p hpos (by omega) ih (by omega) _ _ _ _ _ _ _ ht k [] h (by omega) (by simp; omega) (by simpa [sumOf] using e2)).le (by omega) fun e he => by omega
   split
   ·refine (ih h (by omega)).bind fun D c a s h hD => ?_
    simp only [s_l03Pair_eq, Option.bind_some, emEta, TExpr.re_eq]
    exact Dr.some (h.le (by omega)) (by rw [em_mk]; simp [sumOf]; omega)
   ·refine (s_l00Src_pick_ok _ h (by omega)).bind fun v c a s h hv => ?_
    simp only
    refine (ih h (by omega)).bind fun D c a s h hD => ?_
    simp only [s_l03Pair_eq, Option.bind_some, emEta, TExpr.re_eq]
    exact Dr.some (h.le (by omega)) (by rw [em_mk]; simp [sumOf]; omega)
theorem draw2_ok {c : List Int} {a s B : Int} (h : SrcOk c a B) (hB : B ≤ 4611686018426990000) : Dr (s_l03Draw 2 c a s) (B + 6400) (fun e => e.fText.length + (e.fKids.length + sumOf TExpr.m e.fKids) ≤ 2560) :=
 (s_l03Draw_ok 2 16 (by omega) rfl h (by omega)).le (by omega) fun e he => by rw [← TExpr.m_eq]; omega
theorem draw3_ok {c : List Int} {a s B : Int} (h : SrcOk c a B) (hB : B ≤ 4611686018426990000) : Dr (s_l03Draw 3 c a s) (B + 6400) (fun e => e.fText.length + (e.fKids.length + sumOf TExpr.m e.fKids) ≤ 2560) :=
 (s_l03Draw_ok 3 64 (by omega) rfl h (by omega)).le (by omega) fun e he => by rw [← TExpr.m_eq]; omega
theorem label_ok {c : List Int} {a s B : Int} (h : SrcOk c a B) (hB : B ≤ 4611686018427300000) : Dr (s_l04DrawLabel c a s) (B + 2) (fun v => v.length ≤ 20) := by
 rw [s_l04DrawLabel_eq]
 refine (textS_ok _ (by simp) (by decide) h (by omega)).bind fun v c a s h hv => ?_
 exact Dr.some h hv
theorem goto_ok {c : List Int} {a s B : Int} (h : SrcOk c a B) (hB : B ≤ 4611686018427200000) : Dr (s_l04DrawGoto c a s) (B + 20) (fun g => g.fAlways.length ≤ 20 ∧ g.fSuccess.length ≤ 20 ∧ g.fFailure.length ≤ 20) := by
 rw [s_l04DrawGoto_eq]
 refine (s_l00Src_pick_ok _ h (by omega)).bind fun v c a s h hv => ?_
 simp only
 split
 ·refine (label_ok h (by omega)).bind fun v c a s h hv => ?_
  exact Dr.some (h.le (by omega)) ⟨hv, by simp, by simp⟩
 split
 ·refine (label_ok h (by omega)).bind fun v c a s h hv => ?_
  exact Dr.some (h.le (by omega)) ⟨by simp, hv, by simp⟩
 split
 ·refine (label_ok h (by omega)).bind fun v c a s h hv => ?_
  exact Dr.some (h.le (by omega)) ⟨by simp, by simp, hv⟩
 split
 ·refine (label_ok h (by omega)).bind fun v c a s h hv => ?_
  simp only
  refine (label_ok h (by omega)).bind fun u c a s h hu => ?_
  exact Dr.some (h.le (by omega)) ⟨by simp, hv, hu⟩
 split
 ·refine (s_l00Src_one_ok _ h (by omega)).bind fun v c a s h _ => ?_
  simp only
  split
  ·refine (label_ok h (by omega)).bind fun v c a s h hv => ?_
   simp only
   refine (label_ok h (by omega)).bind fun u c a s h hu => ?_
   exact Dr.some (h.le (by omega)) ⟨hv, by simp, hu⟩
  ·exact Dr.some (h.le (by omega)) ⟨by simp, by simp, by simp⟩
 ·exact Dr.some (h.le (by omega)) ⟨by simp, by simp, by simp⟩
end Go.Dv.U

namespace Go.Dv.U
open Go Go.Dv Go.Proofs
set_option maxHeartbeats 8000000 in
theorem s_l04Draw_ok {c : List Int} {a s B : Int} (h : SrcOk c a B) (hB : B ≤ 4611686018426900000) : Dr (s_l04Draw c a s) (B + 30000) (fun x => x.m ≤ 9000) := by
 rw [s_l04Draw_eq]
 refine (goto_ok h (by omega)).bind fun g c a s h hg => ?_
 dsimp only
 obtain ⟨hg1, hg2, hg3⟩ := hg
 repeat' first
  | (rw [s_l04Draw_L24_eq]; exact Dr.some (h.le (by omega)) (by simp only [TStatement.m_eq, em_mk, TGoto.m_eq, sumOf, List.length_nil]; omega))
  | (rw [s_l04Draw_L24_v1_eq]; exact Dr.some (h.le (by omega)) (by simp only [TStatement.m_eq, em_mk, TGoto.m_eq, sumOf, List.length_nil]; omega))
  | (rw [s_l04Draw_L24_v2_eq]; exact Dr.some (h.le (by omega)) (by simp only [TStatement.m_eq, em_mk, TGoto.m_eq, sumOf, List.length_nil]; omega))
  | (rw [s_l04Draw_L24_v3_eq]; exact Dr.some (h.le (by omega)) (by simp only [TStatement.m_eq, em_mk, TGoto.m_eq, sumOf, List.length_nil]; omega))
  | (rw [s_l04Draw_L24_v4_eq]; exact Dr.some (h.le (by omega)) (by simp only [TStatement.m_eq, em_mk, TGoto.m_eq, sumOf, List.length_nil]; omega))
  | rw [s_l04Draw_L13_eq]
  | rw [s_l04Draw_L13_v1_eq]
  | rw [s_l04Draw_L13_v2_eq]
  | rw [s_l04Draw_L13_v3_eq]
  | rw [s_l04Draw_L13_v4_eq]
  | rw [s_l04Draw_L10_eq]
  | rw [s_l04Draw_L10_v1_eq]
  | (refine (s_l00Src_one_ok _ h (by omega)).bind fun v c a s h _ => ?_; dsimp only)
  | (refine (s_l00Src_pick_ok _ h (by omega)).bind fun v c a s h _ => ?_; dsimp only)
  | (refine (label_ok h (by omega)).bind fun v c a s h hv => ?_; dsimp only)
  | (refine (textS_ok _ (by simp) (by decide) h (by omega)).bind fun v c a s h hv => ?_; dsimp only)
  | (refine (draw2_ok h (by omega)).bind fun v c a s h hv => ?_; dsimp only)
  | (refine (draw3_ok h (by omega)).bind fun v c a s h hv => ?_; dsimp only)
  | split
def stsOk (xs : List TStatement) (n : Nat) : Prop := xs.length ≤ n ∧ sumOf TStatement.m xs ≤ 10000 * xs.length
theorem sum_snocS (l : List TStatement) (e : TStatement) : sumOf TStatement.m (l ++ [e]) = sumOf TStatement.m l + e.m := by
 induction l with
 | nil => simp [sumOf]
 | cons y r ih => simp only [List.cons_append, sumOf, ih]; omega
theorem stsOk.snoc {xs : List TStatement} {n : Nat} (h : stsOk xs n) {e : TStatement} (he : e.m ≤ 10000) : stsOk (xs ++ [e]) (n + 1) := by
 refine ⟨by simp only [List.length_append, List.length_singleton]; have := h.1; omega, ?_⟩
 rw [sum_snocS]
 have := h.2
 simp only [List.length_append, List.length_singleton]; omega
theorem stsOk.le {xs : List TStatement} {n m : Nat} (h : stsOk xs n) (hm : n ≤ m) : stsOk xs m := ⟨by have := h.1; omega, h.2⟩
theorem stsOk.prog {xs : List TStatement} (h : stsOk xs 90) : (TProgram.mk xs).m ≤ 1000000 := by
 rw [TProgram.m_eq]
 have h1 := h.1
 have h2 := h.2
 show xs.length + sumOf TStatement.m xs ≤ _
 omega
theorem s_l05Draw_L11_ok (x3 : List TStatement) : ∀ (d : Nat) {c : List Int} {a s B : Int} (xs : List TStatement), SrcOk c a B → B + 2 * d ≤ 4611686018427000000 → stsOk xs 85 → 83 ≤ xs.length + d → 1 ≤ d → Dr (s_l05Draw_L11 c a s x3 xs) (B + 2 * d) (fun p => p.m ≤ 1000000) := by
 intro d
 induction d with
 | zero => intro c a s B xs h hB hx hd h1; omega
 | succ d ih =>
  intro c a s B xs h hB hx hd h1
  rw [s_l05Draw_L11_eq]
  refine (s_l00Src_pick_ok _ h (by omega)).bind fun v c a s h hv => ?_
  dsimp only
  have hv4 := hv.2.1 (by decide)
  have hv0 := hv.1
  have hx1 := hx.1
  rw [w64_of (n := 79 + v) (by omega) (by omega)]
  split
  ·rename_i hc
   simp only [len_eq, decide_eq_true_eq] at hc
   rw [app_of (by simp; omega)]
   simp only [Option.bind_some]
   by_cases hd0 : d = 0
   ·subst hd0; omega
   ·refine (ih _ h (by omega) ((hx.snoc (e := TStatement.mk [] true (TExpr.mk (Int.ofNat 3) (Int.ofNat 0) [65] []) false (TExpr.mk (Int.ofNat 0) (Int.ofNat 0) [] []) false (TExpr.mk (Int.ofNat 0) (Int.ofNat 0) [] []) (TGoto.mk [] [] [])) (by simp [TStatement.m_eq, em_mk, TGoto.m_eq, sumOf])) |> fun q => ⟨by simp; omega, q.2⟩) (by simp; omega) (by omega)).le (by omega) fun _ q => q
  ·exact Dr.some (h.le (by omega)) (stsOk.prog (hx.le (by omega)))
theorem s_index_tot {p : TProgram} (hp : p.fStatements.length ≤ 80) (l : List UInt8) : ∃ v, s_l05Index p l = some v := by
 by_cases hl : (l == []) = true
 ·have : l = [] := by simpa using hl
  rw [this]; exact ⟨_, s_l05Index_nil hp⟩
 ·exact ⟨_, s_l05Index_ok hp (by simpa using hl)⟩
theorem s_l05Draw_L3_ok (x4 : List TStatement) : ∀ (k : Nat) {c : List Int} {a s B : Int} (xs : List TStatement), SrcOk c a B → B + 40000 * (k + 1) ≤ 4611686018426800000 → k + xs.length ≤ 20 → stsOk xs 20 → Dr (s_l05Draw_L3 ((k : Int) - 1) c a s x4 xs) (B + 40000 * (k + 1)) (fun p => p.m ≤ 1000000) := by
 intro k
 induction k with
 | zero =>
  intro c a s B xs h hB hl hx
  rw [s_l05Draw_L3_eq, if_neg (by simp)]
  refine (s_l00Src_one_ok _ h (by omega)).bind fun v c a s h _ => ?_
  dsimp only
  split
  ·exact (s_l05Draw_L11_ok x4 100 xs h (by omega) (hx.le (by omega)) (by omega) (by omega)).le (by omega) fun _ q => q
  ·exact Dr.some (h.le (by omega)) (stsOk.prog (hx.le (by omega)))
 | succ k ih =>
  intro c a s B xs h hB hl hx
  have hx1 := hx.1
  have hkk : ((k + 1 : Nat) : Int) - 1 = (k : Int) := by omega
  have hL4 : ∀ {c : List Int} {a s : Int} (ys : List TStatement), SrcOk c a (B + 40000) → ys.length ≤ xs.length + 1 → stsOk ys 20 → Dr (s_l05Draw_L4 ((k + 1 : Nat) - 1 : Int) c a s x4 ys) (B + 40000 * ((k + 1 : Nat) + 1)) (fun p => p.m ≤ 1000000) := by
   intro c a s ys h1 h2 h3
   rw [s_l05Draw_L4_eq, hkk, w64_of (by omega) (by omega)]
   exact (ih ys h1 (by omega) (by omega) h3).le (by omega) fun _ q => q
  have hL8 : ∀ {c : List Int} {a s : Int} (S : TStatement) (l : List UInt8), SrcOk c a (B + 39000) → S.m ≤ 9000 → l.length ≤ S.fLabel.length → Dr (s_l05Draw_L8 ((k + 1 : Nat) - 1 : Int) c a s x4 xs l S.fHasSubject S.fSubject.fKind S.fSubject.fNum S.fSubject.fText S.fSubject.fKids S.fHasPattern S.fPattern.fKind S.fPattern.fNum S.fPattern.fText S.fPattern.fKids S.fHasReplace S.fReplace.fKind S.fReplace.fNum S.fReplace.fText S.fReplace.fKids S.fGoto.fAlways S.fGoto.fSuccess S.fGoto.fFailure) (B + 40000 * ((k + 1 : Nat) + 1)) (fun p => p.m ≤ 1000000) := by
   intro c a s S l h1 hS hl
   have hSq := S.m_eq
   have hTm : (TStatement.mk l S.fHasSubject S.fSubject S.fHasPattern S.fPattern S.fHasReplace S.fReplace S.fGoto).m ≤ 9000 := by
    rw [TStatement.m_eq]; show l.length + S.fSubject.m + S.fPattern.m + S.fReplace.m + S.fGoto.m ≤ 9000; omega
   rw [s_l05Draw_L8_eq]
   refine (s_l00Src_one_ok _ h1 (by omega)).bind fun v c a s h1 _ => ?_
   dsimp only
   simp only [emEta]
   have happ : app xs [TStatement.mk l S.fHasSubject S.fSubject S.fHasPattern S.fPattern S.fHasReplace S.fReplace (TGoto.mk S.fGoto.fAlways S.fGoto.fSuccess S.fGoto.fFailure)] = some (xs ++ [TStatement.mk l S.fHasSubject S.fSubject S.fHasPattern S.fPattern S.fHasReplace S.fReplace S.fGoto]) := app_of (by simp; omega)
   have hsn : stsOk (xs ++ [TStatement.mk l S.fHasSubject S.fSubject S.fHasPattern S.fPattern S.fHasReplace S.fReplace S.fGoto]) 20 := by
    have := hx.snoc (e := TStatement.mk l S.fHasSubject S.fSubject S.fHasPattern S.fPattern S.fHasReplace S.fReplace S.fGoto) (by omega)
    exact ⟨by simp; omega, this.2⟩
   split
   ·rw [happ]
    simp only [Option.bind_some]
    exact hL4 _ (h1.le (by omega)) (by simp) hsn
   ·have hvs := s_ValidStatement_ok (s := TStatement.mk l S.fHasSubject S.fSubject S.fHasPattern S.fPattern S.fHasReplace S.fReplace (TGoto.mk S.fGoto.fAlways S.fGoto.fSuccess S.fGoto.fFailure)) (by show S.fSubject.m ≤ _; omega) (by show S.fPattern.m ≤ _; omega) (by show S.fReplace.m ≤ _; omega)
    rw [hvs]
    simp only [Option.bind_some]
    split
    ·rw [happ]
     simp only [Option.bind_some]
     exact hL4 _ (h1.le (by omega)) (by simp) hsn
    ·exact hL4 _ (h1.le (by omega)) (by omega) hx
  rw [s_l05Draw_L3_eq, if_pos (by simp only [decide_eq_true_eq]; omega)]
  refine (s_l04Draw_ok h (by omega)).bind fun S c a s h hS => ?_
  dsimp only
  refine (s_l00Src_one_ok _ h (by omega)).bind fun v c a s h _ => ?_
  dsimp only
  split
  ·obtain ⟨v, hv⟩ := s_index_tot (p := TProgram.mk xs) (show xs.length ≤ 80 by omega) S.fLabel
   rw [hv]
   simp only [Option.bind_some, s_l05Reserved_ok]
   split
   ·rw [s_l05Draw_L7_eq]; exact hL8 S [] (h.le (by omega)) hS (by simp)
   ·split
    ·rw [s_l05Draw_L7_eq]; exact hL8 S [] (h.le (by omega)) hS (by simp)
    ·exact hL8 S S.fLabel (h.le (by omega)) hS (Nat.le_refl _)
  ·exact hL8 S S.fLabel (h.le (by omega)) hS (Nat.le_refl _)
theorem s_l05Draw_ok {c : List Int} {a s B : Int} (h : SrcOk c a B) (hB : B ≤ 4611686018400000000) : Dr (s_l05Draw c a s) (B + 1000000) (fun p => p.m ≤ 1000000) := by
 rw [s_l05Draw_eq]
 refine (s_l00Src_pick_ok _ h (by omega)).bind fun v c a s h hv => ?_
 dsimp only
 have hv6 := hv.2.1 (by decide)
 obtain ⟨k, hk⟩ : ∃ k : Nat, v = (k : Int) - 1 := ⟨v.toNat + 1, by have := hv.1; omega⟩
 subst hk
 exact (s_l05Draw_L3_ok [] k [] h (by omega) (by simp; omega) ⟨by simp, by simp [sumOf]⟩).le (by omega) fun _ q => q
end Go.Dv.U

namespace Go.Dv.U
open Go Go.Dv Go.Proofs
theorem i_LabelsOfF_ok {p : TProgram} (hm : p.m ≤ 1048576) : i_LabelsOf_v1 p = some (if pValid p = true then labL p.fStatements else []) := by
 rw [i_LabelsOf_v1_eq, i_ValidProgram_ok hm]
 simp only [Option.bind_some]
 by_cases h : pValid p = true
 ·obtain ⟨h1, _⟩ := pValid_parts h
  simp only [h, Bool.not_true, Bool.false_eq_true, if_false, if_true]
  have hl := labL_len p.fStatements
  have := cat_loop (xs := p.fStatements) (by omega) (f := fun s => if s.fLabel = [] then [] else [s.fLabel]) (J := fun i a => i_LabelsOf_L5_v1 p.fStatements (len p.fStatements) i a) (B := 68719476736) (by
   intro i y a hlt hy hi hw hb
   show i_LabelsOf_L5_v1 _ _ _ _ = i_LabelsOf_L5_v1 _ _ _ _
   rw [i_LabelsOf_L5_v1_eq]
   have hc : decide ((i : Int) < len p.fStatements) = true := by simp [len_eq, hlt]
   rw [if_pos hc, hi]
   simp only [Option.bind_some, hw]
   by_cases hy0 : y.fLabel = []
   ·simp [hy0]
   ·have e : (y.fLabel == []) = false := by simpa using hy0
    simp only [e, Bool.not_false, if_true, hy0, if_false] at hb ⊢
    rw [app_of hb]
    rfl) (by show (labL p.fStatements).length ≤ _; omega)
  rw [show i_LabelsOf_L5_v1 p.fStatements (len p.fStatements) 0 [] = _ from this, i_LabelsOf_L5_v1_eq]
  simp [len_eq, labL]
 ·simp [h]
theorem i_MissingLabelsF_ok {p : TProgram} (hm : p.m ≤ 1048576) : i_MissingLabels_v1 p = some (if pValid p = true then insAll (p.fStatements.flatMap (missF p.fStatements)) [] else []) := by
 rw [i_MissingLabels_v1_eq, i_ValidProgram_ok hm]
 simp only [Option.bind_some]
 by_cases h : pValid p = true
 ·obtain ⟨h1, _⟩ := pValid_parts h
  simp only [h, Bool.not_true, Bool.false_eq_true, if_false, if_true]
  have hl := missL_len p.fStatements p.fStatements
  have inner : ∀ (j : Int) (r : List (List UInt8)) (a : List (List UInt8)), r.length ≤ 3 → a.length ≤ 1000 → i_MissingLabels_L8_v1 p.fStatements (len p.fStatements) j r (len r) 0 p.fStatements a = i_MissingLabels_L5_v1 p.fStatements (len p.fStatements) (w64 (j + 1)) p.fStatements (a ++ r.filter (mOk p.fStatements)) := by
   intro j r a hr ha
   refine loop_ind (xs := r) (by omega) (P := fun i l => ∀ a : List (List UInt8), a.length + l.length ≤ 2000 → i_MissingLabels_L8_v1 p.fStatements (len p.fStatements) j r (len r) (i : Int) p.fStatements a = i_MissingLabels_L5_v1 p.fStatements (len p.fStatements) (w64 (j + 1)) p.fStatements (a ++ l.filter (mOk p.fStatements))) ?_ ?_ a (by omega)
   ·intro a _
    rw [i_MissingLabels_L8_v1_eq]
    simp [len_eq]
   ·intro i y l _ hlt hy hi hw ih a ha
    simp only [List.length_cons] at ha
    rw [i_MissingLabels_L8_v1_eq]
    have hc : decide ((i : Int) < len r) = true := by simp [len_eq, hlt]
    rw [if_pos hc, hi]
    simp only [Option.bind_some, i_labelIndex_ok (p := TProgram.mk p.fStatements) h1, i_isReserved_ok, i_MissingLabels_L11_v1_eq, i_MissingLabels_L12_v1_eq, hw]
    have happ := app_of (xs := a) (ys := [y]) (by simp; omega)
    rw [happ]
    simp only [Option.bind_some, List.filter_cons]
    have ih1 := ih a (by omega)
    have ih2 := ih (a ++ [y]) (by simp; omega)
    rw [ih1, ih2]
    by_cases c1 : ixP p.fStatements y < 0 <;> by_cases c2 : y = [69, 78, 68] <;> by_cases c3 : rsvB y = true <;> simp [mOk, c1, c2, c3] <;> simp_all
  have := cat_loop (xs := p.fStatements) (by omega) (f := missF p.fStatements) (J := fun i a => i_MissingLabels_L5_v1 p.fStatements (len p.fStatements) i p.fStatements a) (B := 600) (by
   intro i y a hlt hy hi hw hb
   show i_MissingLabels_L5_v1 _ _ _ _ _ = i_MissingLabels_L5_v1 _ _ _ _ _
   rw [i_MissingLabels_L5_v1_eq]
   have hc : decide ((i : Int) < len p.fStatements) = true := by simp [len_eq, hlt]
   rw [if_pos hc, hi]
   simp only [Option.bind_some]
   try simp only [TGoto.re_eq]
   rw [i_labels_ok]
   simp only [Option.bind_some]
   rw [inner _ _ _ (labs_len _) (by omega), hw]
   rfl) (by omega)
  rw [show i_MissingLabels_L5_v1 p.fStatements (len p.fStatements) 0 p.fStatements [] = _ from this, i_MissingLabels_L5_v1_eq]
  have hc : decide ((p.fStatements.length : Int) < len p.fStatements) = false := by simp [len_eq]
  rw [if_neg (by rw [hc]; simp)]
  unfold sortS big
  rw [if_pos (by omega), insAll_sort]
  rfl
 ·simp [h]
theorem ixF_neg {α : Type} (p : α → Bool) : ∀ (l : List α) (i : Nat), ixF p l i < 0 → ixF p l i = -1
 | [], _, _ => rfl
 | y :: r, i, h => by
  by_cases hp : p y = true
  ·rw [ixF, if_pos hp] at h; omega
  ·rw [ixF, if_neg hp] at h ⊢; exact ixF_neg p r (i + 1) h
theorem miss_ix {xs : List TStatement} {l : List UInt8} (h : l ∈ insAll (xs.flatMap (missF xs)) []) : ixP xs l = -1 := by
 have := ((insAll_sorted (xs.flatMap (missF xs)) (a := []) List.Pairwise.nil).2.1 l).1 h
 rcases this with h1 | h1
 ·obtain ⟨s, _, hs⟩ := List.mem_flatMap.1 h1
  have := (List.mem_filter.1 hs).2
  unfold mOk at this
  simp only [Bool.and_eq_true, decide_eq_true_eq] at this
  exact ixF_neg _ _ _ this.2
 ·cases h1
theorem l_L17_ok {p : TProgram} (hm : p.m ≤ 1048576) (hv : pValid p = true) (L : List (List UInt8)) {M : List (List UInt8)} (hM : M.length ≤ 1000) (h1 : ∀ l ∈ M, ixP p.fStatements l = -1) (h2 : M.Pairwise (fun x y => x < y)) :
  l_FnLabels_L17_v1 L (len L) M 0 p.fStatements = some true := by
 refine loop_ind (xs := M) (by omega) (P := fun i l => l_FnLabels_L17_v1 L (len L) M (i : Int) p.fStatements = some true) ?_ ?_
 ·rw [l_FnLabels_L17_v1_eq, if_neg (by simp [len_eq])]; simp
 ·intro i y l hd hlt hy hi hw ih
  have hix : i_LabelIndex (TProgram.mk p.fStatements) y = some (-1) := by
   rw [i_LabelIndex_ok (p := TProgram.mk p.fStatements) hm y]
   have := h1 y hy
   simp only [show pValid (TProgram.mk p.fStatements) = true from hv, if_true, this]
   split <;> rfl
  rw [l_FnLabels_L17_v1_eq, if_pos (by simp [len_eq, hlt]), hi]
  simp only [Option.bind_some, hix, bne_self_eq_false, Bool.false_eq_true, if_false, l_FnLabels_L18_v1_eq, hw, ih]
  by_cases h0 : i = 0
  ·rw [if_neg (by simp; omega)]
  ·rw [if_pos (by simp; omega)]
   have w1 : w64 ((i : Int) - 1) = ((i - 1 : Nat) : Int) := by rw [w64_of (by omega) (by omega)]; omega
   have hlt2 : i - 1 < M.length := by omega
   have hyi : M[i] = y := by rw [idx_nat, List.getElem?_eq_getElem hlt] at hi; simpa using hi
   have hord : M[i - 1] < y := by rw [← hyi]; exact List.pairwise_iff_getElem.1 h2 (i - 1) i hlt2 hlt (by omega)
   rw [w1, idx_nat, List.getElem?_eq_getElem hlt2]
   simp only [Option.bind_some]
   rw [bl_eq, if_neg (by simp [hord])]
theorem l_L9_ok {p : TProgram} (hm : p.m ≤ 1048576) (hv : pValid p = true) : l_FnLabels_L9_v1 (labL p.fStatements) 0 0 p.fStatements = some true := by
 obtain ⟨hp, _⟩ := pValid_parts hv
 have hlab := labL_len p.fStatements
 have hg : gate (labP p.fStatements) p.fStatements 0 = true := by
  unfold pValid pChk at hv; simp only [Bool.and_eq_true] at hv; exact hv.1.2.2
 have key := loop_ind (xs := p.fStatements) (by omega) (P := fun i l => ∀ pre : List (List UInt8), labL p.fStatements = pre ++ labL l → gate (labP p.fStatements) l i = true → l_FnLabels_L9_v1 (labL p.fStatements) (pre.length : Int) (i : Int) p.fStatements = some true) (by
  intro pre hpre _
  rw [l_FnLabels_L9_v1_eq, if_neg (by simp [len_eq]), i_MissingLabelsF_ok (p := TProgram.mk p.fStatements) hm]
  simp only [Option.bind_some, show pValid (TProgram.mk p.fStatements) = true from hv, if_true]
  have hpl : (pre.length : Int) = len (labL p.fStatements) := by rw [hpre, len_eq]; simp [labL]
  have hs := insAll_sorted (p.fStatements.flatMap (missF p.fStatements)) (a := []) List.Pairwise.nil
  rw [hpl]
  refine l_L17_ok hm hv _ ?_ (fun l hl => miss_ix hl) hs.1
  have h3 := hs.2.2
  have h4 := missL_len p.fStatements p.fStatements
  simp only [List.length_nil] at h3
  omega) (by
  intro i y l hd hlt hy hi hw ih pre hpre hgt
  simp only [gate, Bool.and_eq_true] at hgt
  obtain ⟨hl1, hl2⟩ := hgt
  rw [l_FnLabels_L9_v1_eq, if_pos (by simp [len_eq, hlt]), hi]
  simp only [Option.bind_some]
  by_cases hy0 : y.fLabel = []
  ·have e0 : (y.fLabel == []) = true := by rw [hy0]; rfl
   rw [e0, if_neg (by simp), hw]
   exact ih pre (by rw [hpre]; simp [labL, hy0]) hl2
  ·have e0 : (y.fLabel == []) = false := by simpa using hy0
   have hcons : labL p.fStatements = pre ++ y.fLabel :: labL l := by rw [hpre]; simp [labL, hy0]
   have hlen : pre.length < (labL p.fStatements).length := by rw [hcons]; simp
   have hget : idx (labL p.fStatements) (pre.length : Int) = some y.fLabel := by
    rw [idx_nat, hcons, List.getElem?_append_right (Nat.le_refl _)]; simp
   have hixp : ixP p.fStatements y.fLabel = (i : Int) := by
    unfold labP at hl1
    rw [e0] at hl1
    simp only [Bool.false_or, Bool.and_eq_true, beq_iff_eq] at hl1
    exact hl1.2
   have hix : i_LabelIndex (TProgram.mk p.fStatements) y.fLabel = some (i : Int) := by
    rw [i_LabelIndex_ok (p := TProgram.mk p.fStatements) hm y.fLabel]
    simp only [show pValid (TProgram.mk p.fStatements) = true from hv, if_true, hy0, if_false, hixp]
   have hw2 : w64 ((pre.length : Int) + 1) = ((pre ++ [y.fLabel]).length : Int) := by rw [w64_of (by omega) (by omega)]; simp
   rw [e0, if_pos (by simp), if_neg (by simp only [len_eq, decide_eq_true_eq]; omega), hget]
   simp only [Option.bind_some, beq_self_eq_true, Bool.not_true, Bool.false_eq_true, if_false, hix, bne_self_eq_false, l_FnLabels_L14_v1_eq, hw, hw2]
   exact ih (pre ++ [y.fLabel]) (by rw [hcons]; simp) hl2)
 exact key [] (by simp) hg
theorem s_DrawLabelsOf_ok {x : List Int} (hx : BytesOk x) : ∃ p, s_DrawLabelsOf x = some p ∧ p.m ≤ 1000000 := by
 rw [s_DrawLabelsOf_eq]
 obtain ⟨p, c, a, s, e, _, hp⟩ := s_l05Draw_ok (c := x) (a := 0) (s := 0) (B := 0) ⟨hx.2, hx.1, by omega, by omega⟩ (by omega)
 exact ⟨p, by rw [e]; rfl, hp⟩
theorem l_FnLabels_ok {x : List Int} (hx : BytesOk x) : l_FnLabels x = some true := by
 rw [l_FnLabels_eq, l_c2Long_eq]
 simp only [Option.bind_some]
 split
 ·rfl
 obtain ⟨p, e, hp⟩ := s_DrawLabelsOf_ok hx
 have hm : p.m ≤ 1048576 := by omega
 rw [e]
 simp only [Option.bind_some]
 rw [s_ValidProgram_ok hm, i_LabelsOfF_ok hm]
 simp only [Option.bind_some]
 by_cases hv : pValid p = true
 ·simp only [hv, Bool.not_true, Bool.false_eq_true, if_false, if_true]
  exact l_L9_ok hm hv
 ·simp [hv, len_eq]
end Go.Dv.U
