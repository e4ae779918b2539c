/- Plain laws about these equations. -/
import Derived.Test.YtohlmmpchllelaaGreatDoorFnExprRoundEqa
set_option linter.all false
set_option linter.unusedVariables false
set_option linter.unusedSimpArgs false
namespace Go.Dv.U
open Go Go.Dv Go.Proofs
theorem TExpr.ind {P : TExpr → Prop} (h : ∀ x, (∀ y ∈ x.fKids, P y) → P x) : ∀ x, P x := by
 intro x
 exact TExpr.rec (motive_1 := P) (motive_2 := fun l => ∀ y ∈ l, P y) (fun a0 a1 a2 a3 ih => h ⟨a0, a1, a2, a3⟩ ih) (fun y hy => by cases hy)
  (fun a l ha hl y hy => by
   cases hy with
   | head => exact ha
   | tail _ hy => exact hl y hy) x
mutual
def TExpr.m : TExpr → Nat
 | ⟨_, _, a2, a3⟩ => a2.length + (a3.length + TExpr.ms a3)
def TExpr.ms : List TExpr → Nat
 | [] => 0
 | y :: r => TExpr.m y + TExpr.ms r
end
theorem TExpr.ms_eq : ∀ l, TExpr.ms l = sumOf TExpr.m l
 | [] => rfl
 | y :: r => by simp only [TExpr.ms, sumOf, TExpr.ms_eq r]
theorem TExpr.m_eq (x : TExpr) : x.m = x.fText.length + (x.fKids.length + sumOf TExpr.m x.fKids) := by
 rw [← TExpr.ms_eq]; cases x; rfl
theorem TExpr.m_kid {x y : TExpr} (h : y ∈ x.fKids) : y.m + x.fKids.length ≤ x.m := by
 have := sumOf_mem (m := TExpr.m) h
 rw [TExpr.m_eq x]; omega
def TToken.m (x : TToken) : Nat := x.fText.length
theorem TToken.m_eq (x : TToken) : x.m = x.fText.length := rfl
end Go.Dv.U

namespace Go.Dv.U
open Go Go.Dv Go.Proofs
theorem i_within_ok (a b c : Int) : i_within a b c = some (decide (b ≤ a) && decide (a ≤ c)) := by
 rw [i_within_eq]; grind
theorem s_l00In_ok (a b c : Int) : s_l00In a b c = some (decide (b ≤ a) && decide (a ≤ c)) := by
 rw [s_l00In_eq]; grind
end Go.Dv.U

namespace Go.Dv.U
open Go Go.Dv Go.Proofs
def isLet (b : Int) : Bool := (decide (65 ≤ b) && decide (b ≤ 90)) || (decide (97 ≤ b) && decide (b ≤ 122))
def isDig (b : Int) : Bool := decide (48 ≤ b) && decide (b ≤ 57)
def isNmB (b : Int) : Bool := isLet b || isDig b || b == 95
theorem i_isLetter_ok (b : Int) : i_isLetter b = some (isLet b) := by
 rw [i_isLetter_eq]; unfold isLet; grind
theorem s_l02Letter_ok (b : Int) : s_l02Letter b = some (isLet b) := by
 rw [s_l02Letter_eq]; unfold isLet; grind
theorem i_isDigit_ok (b : Int) : i_isDigit b = some (isDig b) := by
 rw [i_isDigit_eq]; unfold isDig; grind
theorem s_l02Digit_ok (b : Int) : s_l02Digit b = some (isDig b) := by
 rw [s_l02Digit_eq]; unfold isDig; grind
theorem i_isNameByte_ok (b : Int) : i_isNameByte b = some (isNmB b) := by
 rw [i_isNameByte_eq, i_isLetter_ok, i_isDigit_ok]; unfold isNmB
 simp only [Option.bind_some]; grind
def isName (s : List UInt8) : Bool := match s with
 | [] => false
 | b :: _ => decide (s.length ≤ 12) && isLet (ib b) && s.all fun c => isNmB (ib c)
theorem i_areAllNm_ok {s : List UInt8} (h : s.length ≤ 9223372036854775807) : i_areAll_byte__i_isNameByte (s.map ib) = some (s.all fun c => isNmB (ib c)) := by
 rw [i_areAll_byte__i_isNameByte_eq]
 have := all_loop (xs := s.map ib) (by simpa using h) (F := i_isNameByte) (p := isNmB) (J := i_areAll_byte_L2__i_isNameByte (s.map ib) (len (s.map ib))) (fun i => by rw [i_areAll_byte_L2__i_isNameByte_eq]) (fun y _ => i_isNameByte_ok y)
 rw [this, List.all_map]
 rfl
theorem i_IsName_ok {s : List UInt8} : i_IsName s = some (isName s) := by
 rw [i_IsName_eq]
 cases s with
 | nil => simp [isName, len_eq]
 | cons b r =>
  by_cases h : (b :: r).length ≤ 12
  ·have h1 : decide (len (b :: r) ≥ 1) = true := by simp only [len_eq, List.length_cons, decide_eq_true_eq]; omega
   have h2 : decide (len (b :: r) ≤ 12) = true := by simp only [len_eq, decide_eq_true_eq]; omega
   rw [if_pos h1, if_pos h2, idx_zero]
   simp only [List.getElem?_cons_zero, Option.bind_some, i_isLetter_ok]
   have := i_areAllNm_ok (s := b :: r) (by omega)
   simp only [List.map_cons] at this ⊢
   rw [this]
   simp only [isName, h, decide_true, Bool.true_and, Option.bind_some]
   cases isLet (ib b) <;> simp
  ·have h2 : ¬ decide (len (b :: r) ≤ 12) = true := by simp only [len_eq, decide_eq_true_eq]; omega
   rw [if_neg h2]
   simp only [isName, h, decide_false, Bool.false_and]
   split <;> rfl
def nmRun : List UInt8 → Nat
 | [] => 0
 | b :: r => if isNmB (ib b) then nmRun r + 1 else 0
theorem nmRun_all : ∀ s, nmRun s = s.length ↔ (s.all fun c => isNmB (ib c)) = true
 | [] => by simp [nmRun]
 | b :: r => by
  have := nmRun_all r
  simp only [nmRun, List.length_cons, List.all_cons, Bool.and_eq_true]
  cases isNmB (ib b)
  ·simp
  ·simp [this]
theorem s_l02NameEnd_L3_ok {s : List UInt8} (h : s.length ≤ 9223372036854775807) : ∀ (n i : Nat), i + n = s.length → s_l02NameEnd_L3 s i = some ((i + nmRun (s.drop i) : Nat) : Int) := by
 intro n
 induction n with
 | zero =>
  intro i hi
  have : i = s.length := by omega
  subst this
  rw [s_l02NameEnd_L3_eq, s_l02NameEnd_L5_eq, List.drop_length]
  simp [len_eq, nmRun]
 | succ n ih =>
  intro i hi
  have hlt : i < s.length := by omega
  have hc : decide ((i : Int) < len s) = true := by simp [len_eq, hlt]
  rw [s_l02NameEnd_L3_eq, if_pos hc, idx_nat, List.getElem?_eq_getElem hlt, List.drop_eq_getElem_cons hlt]
  simp only [Option.bind_some, s_l02Letter_ok, s_l02Digit_ok, s_l02NameEnd_L4_eq, s_l02NameEnd_L5_eq, nmRun]
  have hw : w64 ((i : Int) + 1) = ((i + 1 : Nat) : Int) := by rw [w64_of (by omega) (by omega)]; omega
  rw [hw, ih (i + 1) (by omega)]
  unfold isNmB
  cases isLet (ib s[i]) <;> cases isDig (ib s[i]) <;> cases hb : (ib s[i] == 95) <;> simp <;> omega
theorem s_l02NameEnd_ok {s : List UInt8} (h : s.length ≤ 9223372036854775807) {i : Nat} (hi : i ≤ s.length) :
  s_l02NameEnd s i = some (match s.drop i with
   | [] => (i : Int)
   | b :: r => if isLet (ib b) then ((i + nmRun (b :: r) : Nat) : Int) else i) := by
 rw [s_l02NameEnd_eq]
 by_cases hlt : i < s.length
 ·have hc : ¬ decide ((i : Int) ≥ len s) = true := by simp only [len_eq, decide_eq_true_eq]; omega
  rw [if_neg hc, idx_nat, List.getElem?_eq_getElem hlt, List.drop_eq_getElem_cons hlt]
  simp only [Option.bind_some, s_l02Letter_ok]
  rw [s_l02NameEnd_L3_ok h (s.length - i) i (by omega), List.drop_eq_getElem_cons hlt]
  cases isLet (ib s[i]) <;> simp
 ·have : i = s.length := by omega
  subst this
  rw [List.drop_length]
  simp [len_eq]
theorem s_IsName_ok {s : List UInt8} : s_IsName s = some (isName s) := by
 rw [s_IsName_eq]
 cases s with
 | nil => simp [isName]
 | cons b r =>
  have h0 : (!(b :: r) == []) = true := rfl
  rw [if_pos h0]
  by_cases h : (b :: r).length ≤ 12
  ·have h2 : decide (len (b :: r) ≤ 12) = true := by simp only [len_eq, decide_eq_true_eq]; omega
   have := s_l02NameEnd_ok (s := b :: r) (by omega) (Nat.zero_le _)
   simp only [Int.natCast_zero, List.drop_zero, Nat.zero_add] at this
   rw [if_pos h2, this]
   simp only [isName, h, decide_true, Bool.true_and, Option.bind_some, len_eq]
   congr 1
   rw [Bool.eq_iff_iff, Bool.and_eq_true, ← nmRun_all]
   cases hL : isLet (ib b)
   ·simp; omega
   ·simp; omega
  ·have h2 : ¬ decide (len (b :: r) ≤ 12) = true := by simp only [len_eq, decide_eq_true_eq]; omega
   rw [if_neg h2]
   simp only [isName, h, decide_false, Bool.false_and]
end Go.Dv.U

namespace Go.Dv.U
open Go Go.Dv Go.Proofs
def isPl (b : UInt8) : Bool := decide (32 ≤ ib b) && decide (ib b ≤ 126)
def allPl (s : List UInt8) : Bool := s.all isPl
def hasB (c : Int) (s : List UInt8) : Bool := s.any fun b => ib b == c
theorem i_isPlain_ok (b : Int) : i_isPlain b = some (decide (32 ≤ b) && decide (b ≤ 126)) := by
 rw [i_isPlain_eq]; grind
theorem i_isPlainText_ok {s : List UInt8} (h : s.length ≤ 9223372036854775807) : i_isPlainText s = some (allPl s) := by
 rw [i_isPlainText_eq, i_areAll_byte__i_isPlain_eq]
 have := all_loop (xs := s.map ib) (by simpa using h) (F := i_isPlain) (p := fun b => decide (32 ≤ b) && decide (b ≤ 126)) (J := i_areAll_byte_L2__i_isPlain (s.map ib) (len (s.map ib))) (fun i => by rw [i_areAll_byte_L2__i_isPlain_eq]) (fun y _ => i_isPlain_ok y)
 rw [this, List.all_map]
 rfl
def isPr (x : Bool) (b : UInt8) : Bool := isPl b || (x && ib b == 10)
theorem s_l01Printable_ok' {s : List UInt8} (h : s.length ≤ 9223372036854775807) (x : Bool) : s_l01Printable s x = some (s.all (isPr x)) := by
 rw [s_l01Printable_eq]
 refine loop_ind (xs := s) h (P := fun i l => s_l01Printable_L2 s x i = some (l.all (isPr x))) ?_ ?_
 ·rw [s_l01Printable_L2_eq]; simp [len_eq]
 ·intro i y l _ hlt hy hi hw ih
  rw [s_l01Printable_L2_eq, hi, if_pos (by simp [len_eq, hlt])]
  simp only [Option.bind_some, s_l01Printable_L5_eq, s_l01Printable_L3_eq, hw, ih, List.all_cons, isPr, isPl]
  by_cases h1 : ib y < 32
  ·have h3 : ¬ (32 ≤ ib y) := by omega
   cases x <;> by_cases h2 : ib y = 10 <;> simp [h1, h2, h3]
  ·have h3 : 32 ≤ ib y := by omega
   by_cases h2 : ib y > 126
   ·have h4 : ¬ (ib y ≤ 126) := by omega
    have h5 : ¬ ib y = 10 := by omega
    cases x <;> simp [h1, h2, h3, h4, h5]
   ·have h4 : ib y ≤ 126 := by omega
    cases x <;> simp [h1, h2, h3, h4]
theorem s_l01Printable_ok {s : List UInt8} (h : s.length ≤ 9223372036854775807) : s_l01Printable s false = some (allPl s) := by
 rw [s_l01Printable_ok' h]
 congr 1
 unfold allPl
 congr 1
 funext b
 simp [isPr]
theorem s_l02Holds_ok {s : List UInt8} (h : s.length ≤ 9223372036854775807) (c : Int) : s_l02Holds s c = some (hasB c s) := by
 rw [s_l02Holds_eq]
 exact any_loop h (p := fun b => ib b == c) (J := s_l02Holds_L2 s c) (fun i => by rw [s_l02Holds_L2_eq])
theorem index_one (c : UInt8) : ∀ s : List UInt8, decide (0 ≤ Lib.index s [c]) = hasB (ib c) s
 | [] => by simp [Lib.index, hasB]
 | b :: l => by
  have ih := index_one c l
  have hge := Lib.index_ge l [c]
  unfold Lib.index
  have hp : [c].isPrefixOf (b :: l) = (ib b == ib c) := by
   rw [Bool.eq_iff_iff]
   simp only [List.isPrefixOf, Bool.and_true, beq_iff_eq, ib_inj]
   exact eq_comm
  have hh : hasB (ib c) (b :: l) = (ib b == ib c || hasB (ib c) l) := rfl
  rw [hp, hh, ← ih]
  cases (ib b == ib c)
  ·simp only [Bool.false_eq_true, if_false, Bool.false_or]
   split
   ·rename_i h; rw [beq_iff_eq] at h; rw [h]
   ·rename_i h
    have h : ¬ Lib.index l [c] = -1 := by simpa using h
    rw [Bool.eq_iff_iff, decide_eq_true_eq, decide_eq_true_eq]; omega
  ·simp
theorem containsS_one {s : List UInt8} (h : s.length < 4294967281) (c : UInt8) : containsS s [c] = some (hasB (ib c) s) := by
 unfold containsS
 rw [if_pos h, ← index_one]
 rfl
def canQ (s : List UInt8) : Bool := decide (s.length ≤ 200) && allPl s && !(hasB 39 s && hasB 34 s)
def quote (s : List UInt8) : List UInt8 := if canQ s = true then (if hasB 39 s = true then 34 :: s ++ [34] else 39 :: s ++ [39]) else []
theorem c39 (s : List UInt8) (h : s.length ≤ 200) : containsS s [39] = some (hasB 39 s) := containsS_one (by omega) 39
theorem c34 (s : List UInt8) (h : s.length ≤ 200) : containsS s [34] = some (hasB 34 s) := containsS_one (by omega) 34
theorem i_CanQuote_ok (s : List UInt8) : i_CanQuote s = some (canQ s) := by
 rw [i_CanQuote_eq]
 by_cases h : s.length ≤ 200
 ·have h1 : decide (len s ≤ 200) = true := by simp only [len_eq, decide_eq_true_eq]; omega
  rw [if_pos h1, i_isPlainText_ok (by omega), c39 s h, c34 s h]
  simp only [Option.bind_some, canQ, h, decide_true, Bool.true_and]
  cases allPl s <;> cases hasB 39 s <;> simp
 ·have h1 : ¬ decide (len s ≤ 200) = true := by simp only [len_eq, decide_eq_true_eq]; omega
  rw [if_neg h1]
  simp [canQ, h]
theorem s_CanQuote_ok (s : List UInt8) : s_CanQuote s = some (canQ s) := by
 rw [s_CanQuote_eq]
 by_cases h : s.length ≤ 200
 ·have h1 : decide (len s ≤ 200) = true := by simp only [len_eq, decide_eq_true_eq]; omega
  rw [if_pos h1, s_l01Printable_ok (by omega), s_l02Holds_ok (by omega), s_l02Holds_ok (by omega)]
  simp only [Option.bind_some, canQ, h, decide_true, Bool.true_and]
  cases allPl s <;> cases hasB 39 s <;> simp
 ·have h1 : ¬ decide (len s ≤ 200) = true := by simp only [len_eq, decide_eq_true_eq]; omega
  rw [if_neg h1]
  simp [canQ, h]
theorem canQ_len {s : List UInt8} (h : canQ s = true) : s.length ≤ 200 := by
 unfold canQ at h
 simp only [Bool.and_eq_true_iff, decide_eq_true_eq] at h
 exact h.1.1
theorem quote_len (s : List UInt8) : (quote s).length ≤ 202 := by
 unfold quote
 split
 ·rename_i h
  have := canQ_len h
  split <;> simp <;> omega
 ·simp
theorem i_QuoteString_ok (s : List UInt8) : i_QuoteString s = some (quote s) := by
 rw [i_QuoteString_eq, i_CanQuote_ok]
 simp only [Option.bind_some, quote]
 cases h : canQ s
 ·rfl
 ·have hl := canQ_len h
  simp only [Bool.not_true, Bool.false_eq_true, if_false, if_true, c39 s hl, Option.bind_some]
  rw [app_of (by simp; omega), app_of (by simp; omega)]
  simp only [Option.bind_some]
  rw [app_of (by simp; omega), app_of (by simp; omega)]
  cases hasB 39 s <;> rfl
theorem nDigits_le : ∀ (k u : Nat), u < 10 ^ (k + 1) → Lib.nDigits u ≤ k + 1
 | 0, u, h => by rw [Lib.nDigits_small (by simpa using h)]; exact Nat.le_refl _
 | k + 1, u, h => by
  by_cases hu : u < 10
  ·rw [Lib.nDigits_small hu]; omega
  ·rw [Lib.nDigits_big hu]
   have := nDigits_le k (u / 10) (by rw [Nat.div_lt_iff_lt_mul (by decide)]; rw [Nat.pow_succ] at h; exact h)
   omega
theorem itoa_nat (u : Nat) : Lib.itoa (u : Int) = Lib.decDigits u := by
 unfold Lib.itoa
 rw [if_neg (by omega)]
 rfl
theorem i_decimal_ok {n : Int} (h0 : -9223372036854775808 ≤ n) (h1 : n ≤ 9223372036854775807) : i_decimal n = some (Lib.itoa n) := by
 rw [i_decimal_eq]
 unfold itoaS
 rw [if_pos ⟨rfl, h0, h1⟩]
 rfl
theorem itoa_len {n : Int} (h0 : 0 ≤ n) (h1 : n ≤ 1000000000000) : (Lib.itoa n).length ≤ 13 := by
 obtain ⟨u, rfl⟩ : ∃ u : Nat, n = u := ⟨n.toNat, by omega⟩
 rw [itoa_nat, Lib.decDigits_length]
 exact nDigits_le 12 u (by omega)
end Go.Dv.U

namespace Go.Dv.U
open Go Go.Dv Go.Proofs
def SrcOk (c : List Int) (a B : Int) : Prop := (∀ y ∈ c, 0 ≤ y ∧ y ≤ 255) ∧ c.length ≤ 9223372036854775807 ∧ 0 ≤ a ∧ a ≤ B
def Dr {α : Type} (o : Option (α × ((List Int × Int × Int × Unit) × Unit))) (B : Int) (P : α → Prop) : Prop := ∃ v c a s, o = some (v, ((c, a, s, ()), ())) ∧ SrcOk c a B ∧ P v
theorem SrcOk.le {c : List Int} {a B B' : Int} (h : SrcOk c a B) (hb : B ≤ B') : SrcOk c a B' := ⟨h.1, h.2.1, h.2.2.1, by have := h.2.2.2; omega⟩
theorem Dr.le {α : Type} {o : Option (α × ((List Int × Int × Int × Unit) × Unit))} {B B' : Int} {P Q : α → Prop} (h : Dr o B P) (hb : B ≤ B') (hq : ∀ v, P v → Q v) : Dr o B' Q := by
 obtain ⟨v, c, a, s, h1, h2, h3⟩ := h
 exact ⟨v, c, a, s, h1, h2.le hb, hq v h3⟩
theorem Dr.bind {α β : Type} {o : Option (α × ((List Int × Int × Int × Unit) × Unit))} {B B' : Int} {P : α → Prop} {Q : β → Prop} {k : α × ((List Int × Int × Int × Unit) × Unit) → Option (β × ((List Int × Int × Int × Unit) × Unit))}
  (h : Dr o B P) (hk : ∀ v c a s, SrcOk c a B → P v → Dr (k (v, ((c, a, s, ()), ()))) B' Q) : Dr (o.bind k) B' Q := by
 obtain ⟨v, c, a, s, rfl, h2, h3⟩ := h
 exact hk v c a s h2 h3
theorem Dr.some {α : Type} {v : α} {c : List Int} {a s B : Int} {P : α → Prop} (h : SrcOk c a B) (hp : P v) : Dr (Option.some (v, ((c, a, s, ()), ()))) B P := ⟨v, c, a, s, rfl, h, hp⟩
theorem and255 (y : Int) : 0 ≤ w64 (bitsOp Go.BinOp.and Go.IntKind.u64 y 255) ∧ w64 (bitsOp Go.BinOp.and Go.IntKind.u64 y 255) ≤ 255 := by
 have h : (BitVec.ofInt IntKind.u64.bits y &&& BitVec.ofInt IntKind.u64.bits 255).toNat ≤ 255 := by
  rw [BitVec.toNat_and]
  exact Nat.le_trans Nat.and_le_right (by decide)
 have e : bitsOp Go.BinOp.and Go.IntKind.u64 y 255 = ((BitVec.ofInt IntKind.u64.bits y &&& BitVec.ofInt IntKind.u64.bits 255).toNat : Int) := by
  show IntKind.u64.wrap _ = _
  generalize (BitVec.ofInt IntKind.u64.bits y &&& BitVec.ofInt IntKind.u64.bits 255).toNat = m at h
  unfold IntKind.wrap
  simp [IntKind.bits, IntKind.signed]
  omega
 rw [e, w64_of (by omega) (by omega)]
 omega
theorem s_l00Src_next_ok {c : List Int} {a s B : Int} (h : SrcOk c a B) (hB : B ≤ 4611686018427387904) : Dr (s_l00Src_next c a s) (B + 1) (fun v => 0 ≤ v ∧ v ≤ 255) := by
 obtain ⟨h1, h2, h3, h4⟩ := h
 have hs : SrcOk c (w64 (a + 1)) (B + 1) := ⟨h1, h2, by rw [w64_of (by omega) (by omega)]; omega, by rw [w64_of (by omega) (by omega)]; omega⟩
 rw [s_l00Src_next_eq]
 have hsh : ∀ x : Int, shr Go.IntKind.u64 x 40 = some (x.fdiv (2 ^ (min (Int.toNat 40) Go.IntKind.u64.bits))) := fun x => rfl
 simp only [hsh, Option.bind_some]
 by_cases hlt : a < c.length
 ·obtain ⟨n, rfl⟩ : ∃ n : Nat, a = n := ⟨a.toNat, by omega⟩
  have hn : n < c.length := by omega
  rw [if_pos (by simpa [len_eq] using hlt), idx_nat, List.getElem?_eq_getElem hn]
  have hy := h1 _ (List.getElem_mem hn)
  simp only [Option.bind_some]
  split
  ·exact Dr.some hs (by rw [w64_of (by omega) (by omega)]; exact hy)
  ·exact Dr.some hs (and255 _)
 ·rw [if_neg (by simpa [len_eq] using hlt)]
  split
  ·exact Dr.some hs (by omega)
  ·exact Dr.some hs (and255 _)
theorem rem_of {x n : Int} (hx : 0 ≤ x) (hn : 1 < n) : ∃ y, rem x n = some y ∧ 0 ≤ y ∧ y < n := by
 unfold rem
 rw [if_neg (by omega)]
 refine ⟨_, rfl, ?_, ?_⟩
 ·rw [Int.tmod_eq_emod_of_nonneg hx]; exact Int.emod_nonneg _ (by omega)
 ·rw [Int.tmod_eq_emod_of_nonneg hx]; exact Int.emod_lt_of_pos _ (by omega)
theorem s_l00Src_pick_ok (n : Int) {c : List Int} {a s B : Int} (h : SrcOk c a B) (hB : B ≤ 4611686018427387000) : Dr (s_l00Src_pick n c a s) (B + 2) (fun v => 0 ≤ v ∧ (1 < n → v < n) ∧ (n ≤ 1 → v = 0)) := by
 rw [s_l00Src_pick_eq]
 by_cases h1 : n ≤ 1
 ·rw [if_pos (by simpa using h1)]
  exact Dr.some (h.le (by omega)) ⟨by omega, fun h => by omega, fun _ => rfl⟩
 rw [if_neg (by simpa using h1)]
 refine (s_l00Src_next_ok h (by omega)).bind fun v c2 a2 s2 h2 hv => ?_
 simp only
 by_cases h3 : n > 200
 ·rw [if_pos (by simpa using h3)]
  refine (s_l00Src_next_ok h2 (by omega)).bind fun v2 c3 a3 s3 h4 hv2 => ?_
  simp only
  rw [w64_of (n := v * 256) (by omega) (by omega), w64_of (by omega) (by omega)]
  obtain ⟨y, hy, y0, y1⟩ := rem_of (x := v * 256 + v2) (n := n) (by omega) (by omega)
  rw [hy]
  exact Dr.some (h4.le (by omega)) ⟨y0, fun _ => y1, fun h => by omega⟩
 ·rw [if_neg (by simpa using h3)]
  obtain ⟨y, hy, y0, y1⟩ := rem_of (x := v) (n := n) (by omega) (by omega)
  rw [hy]
  exact Dr.some (h2.le (by omega)) ⟨y0, fun _ => y1, fun h => by omega⟩
theorem s_l00Src_one_ok (n : Int) {c : List Int} {a s B : Int} (h : SrcOk c a B) (hB : B ≤ 4611686018427387000) : Dr (s_l00Src_one n c a s) (B + 2) (fun _ => True) := by
 rw [s_l00Src_one_eq]
 exact (s_l00Src_pick_ok n h hB).bind fun v c2 a2 s2 h2 hv => Dr.some h2 trivial
theorem pick_idx {α : Type} {xs : List α} {v : Int} (hv : 0 ≤ v ∧ (1 < (len xs) → v < len xs) ∧ (len xs ≤ 1 → v = 0)) (hx : xs ≠ []) : ∃ y, idx xs v = some y ∧ y ∈ xs := by
 have hp : 0 < xs.length := List.length_pos_iff.2 hx
 rw [len_eq] at hv
 have hlt : v.toNat < xs.length := by
  by_cases h : (1 : Int) < xs.length
  ·have := hv.2.1 h; omega
  ·have := hv.2.2 (by omega); omega
 exact ⟨xs[v.toNat], by rw [idx_of hv.1, List.getElem?_eq_getElem hlt], List.getElem_mem hlt⟩
theorem s_l00Src_text_ok (xs : List (List UInt8)) (hx : xs ≠ []) {c : List Int} {a s B : Int} (h : SrcOk c a B) (hB : B ≤ 4611686018427387000) : Dr (s_l00Src_text xs c a s) (B + 2) (fun v => v ∈ xs) := by
 rw [s_l00Src_text_eq]
 refine (s_l00Src_pick_ok _ h hB).bind fun v c2 a2 s2 h2 hv => ?_
 obtain ⟨y, hy, hm⟩ := pick_idx hv hx
 simp only [hy, Option.bind_some]
 exact Dr.some h2 hm
theorem s_l00Src_among_ok (xs : List Int) (hx : xs ≠ []) {c : List Int} {a s B : Int} (h : SrcOk c a B) (hB : B ≤ 4611686018427387000) : Dr (s_l00Src_among xs c a s) (B + 2) (fun v => v ∈ xs) := by
 rw [s_l00Src_among_eq]
 refine (s_l00Src_pick_ok _ h hB).bind fun v c2 a2 s2 h2 hv => ?_
 obtain ⟨y, hy, hm⟩ := pick_idx hv hx
 simp only [hy, Option.bind_some]
 exact Dr.some h2 hm
end Go.Dv.U

namespace Go.Dv.U
open Go Go.Dv Go.Proofs
theorem i_first2_ok (a b : Int) : i_first [a, b] = some (if a ≠ 0 then a else b) := by
 rw [i_first_eq]
 have e2 : len [a, b] = 2 := rfl
 have w1 : w64 (0 + 1) = 1 := by decide
 have w2 : w64 (1 + 1) = 2 := by decide
 rw [e2, i_first_L2_eq, if_pos (by decide), idx_zero]
 simp only [List.getElem?_cons_zero, Option.bind_some]
 by_cases ha : a = 0
 ·subst ha
  rw [if_neg (by simp), w1, i_first_L2_eq, if_pos (by decide), idx_one]
  simp only [List.getElem?_cons_succ, List.getElem?_cons_zero, Option.bind_some]
  by_cases hb : b = 0
  ·subst hb
   rw [if_neg (by simp), w2, i_first_L2_eq, if_neg (by decide)]
   simp
  ·rw [if_pos (by simpa using hb)]; simp
 ·rw [if_pos (by simpa using ha), if_pos ha]
theorem i_unless_ok (b : Bool) (n : Int) : i_unless b n = some (if b = true then 0 else n) := by
 rw [i_unless_eq, ite_some]
end Go.Dv.U

namespace Go.Dv.U
open Go Go.Dv Go.Proofs
def runOf (p : Int → Bool) : List UInt8 → Nat
 | [] => 0
 | b :: r => if p (ib b) = true then runOf p r + 1 else 0
theorem runOf_le (p : Int → Bool) : ∀ s, runOf p s ≤ s.length
 | [] => Nat.le_refl _
 | b :: r => by
  have := runOf_le p r
  simp only [runOf, List.length_cons]
  split <;> omega
theorem runOf_all (p : Int → Bool) : ∀ s : List UInt8, (s.take (runOf p s)).all (fun b => p (ib b)) = true
 | [] => rfl
 | b :: r => by
  simp only [runOf]
  split
  ·rename_i h
   rw [List.take_succ_cons, List.all_cons, runOf_all p r, h]; rfl
  ·rfl
theorem runOf_nm : ∀ s, runOf isNmB s = nmRun s
 | [] => rfl
 | b :: r => by
  simp only [runOf, nmRun, runOf_nm r]
def isOpr (b : Int) : Bool := b == 43 || b == 45 || b == 42 || b == 47 || b == 124 || b == 46 || b == 36 || b == 64 || b == 61
def markOf (b : Int) : Int := if b = 40 then 5 else if b = 41 then 6 else if b = 60 then 7 else if b = 62 then 8 else if b = 44 then 9 else if b = 58 then 10 else 0
def tokAt : List UInt8 → Option (Int × Int × List UInt8 × Nat)
 | [] => none
 | b :: r =>
  if isLet (ib b) = true then (if runOf isNmB (b :: r) ≤ 12 then some (1, 0, (b :: r).take (runOf isNmB (b :: r)), runOf isNmB (b :: r)) else none)
  else if isDig (ib b) = true then (if runOf isDig (b :: r) ≤ 13 ∧ numD ((b :: r).take (runOf isDig (b :: r))) 0 ≤ 1000000000000 then some (2, ((numD ((b :: r).take (runOf isDig (b :: r))) 0 : Nat) : Int), [], runOf isDig (b :: r)) else none)
  else if ib b = 39 ∨ ib b = 34 then (if runOf (fun c => c != ib b) r < r.length ∧ runOf (fun c => c != ib b) r ≤ 200 then some (3, 0, r.take (runOf (fun c => c != ib b) r), runOf (fun c => c != ib b) r + 2) else none)
  else if isOpr (ib b) = true then some (4, 0, [b], 1)
  else if markOf (ib b) ≠ 0 then some (markOf (ib b), 0, [], 1) else none
theorem tokAt_cons (b : UInt8) (r : List UInt8) : tokAt (b :: r) =
  if isLet (ib b) = true then (if runOf isNmB (b :: r) ≤ 12 then some (1, 0, (b :: r).take (runOf isNmB (b :: r)), runOf isNmB (b :: r)) else none)
  else if isDig (ib b) = true then (if runOf isDig (b :: r) ≤ 13 ∧ numD ((b :: r).take (runOf isDig (b :: r))) 0 ≤ 1000000000000 then some (2, ((numD ((b :: r).take (runOf isDig (b :: r))) 0 : Nat) : Int), [], runOf isDig (b :: r)) else none)
  else if ib b = 39 ∨ ib b = 34 then (if runOf (fun c => c != ib b) r < r.length ∧ runOf (fun c => c != ib b) r ≤ 200 then some (3, 0, r.take (runOf (fun c => c != ib b) r), runOf (fun c => c != ib b) r + 2) else none)
  else if isOpr (ib b) = true then some (4, 0, [b], 1)
  else if markOf (ib b) ≠ 0 then some (markOf (ib b), 0, [], 1) else none := rfl
theorem tokAt_len {s : List UInt8} {k n : Int} {t : List UInt8} {m : Nat} (h : tokAt s = some (k, n, t, m)) : 1 ≤ m ∧ m ≤ s.length := by
 cases s with
 | nil => cases h
 | cons b r =>
  rw [tokAt_cons] at h
  have l1 := runOf_le isNmB (b :: r)
  have l2 := runOf_le isDig (b :: r)
  have l3 := runOf_le (fun c => c != ib b) r
  simp only [List.length_cons] at l1 l2 ⊢
  split at h
  ·rename_i hl
   have : 1 ≤ runOf isNmB (b :: r) := by
    have : isNmB (ib b) = true := by unfold isNmB; rw [hl]; rfl
    simp only [runOf, this, if_true]; omega
   split at h
   ·cases h; omega
   ·cases h
  split at h
  ·rename_i hl
   have : 1 ≤ runOf isDig (b :: r) := by simp only [runOf, hl, if_true]; omega
   split at h
   ·cases h; omega
   ·cases h
  split at h
  ·split at h
   ·rename_i hc; cases h; omega
   ·cases h
  split at h
  ·cases h; omega
  split at h
  ·cases h; omega
  ·cases h
def nextBl (s : List UInt8) : Bool := match s with | [] => true | b :: _ => ib b == 32
def scanL : Nat → List UInt8 → Bool → List TToken → Nat → List TToken × Int × Int
 | _, [], _, out, _ => (out, 0, 0)
 | 0, _ :: _, _, out, _ => (out, 0, 0)
 | n + 1, b :: r, bl, out, at_ => if ib b = 32 then scanL n r true out (at_ + 1) else match tokAt (b :: r) with
  | none => ([], at_, 2)
  | some (k, m, t, w) => if 120 ≤ out.length then ([], at_, 6) else scanL n ((b :: r).drop w) false (out ++ [⟨k, m, t, bl, nextBl ((b :: r).drop w)⟩]) (at_ + w)
theorem span_of {x : List UInt8} (hx : x.length ≤ 1000000) (p : Int → Bool) {J : Int → Option Int} (at_ : Nat) (hJ : ∀ i : Int, J i = if decide (i < len x) = true then (idx x i).bind fun y => if p (ib y) = true then J (w64 (i + 1)) else some (w64 (i - at_)) else some (w64 (i - at_))) :
  ∀ (l : List UInt8) (j : Nat), x.drop j = l → at_ ≤ j → j ≤ x.length → J (j : Int) = some ((j - at_ + runOf p l : Nat) : Int) := by
 intro l
 induction l with
 | nil =>
  intro j hd ha hj
  have : x.length ≤ j := by
   have := congrArg List.length hd
   simp at this; omega
  rw [hJ, if_neg (by simp [len_eq]; omega), w64_of (by omega) (by omega)]
  simp [runOf]; omega
 | cons b l ih =>
  intro j hd ha hj
  have hlt : j < x.length := by
   have := congrArg List.length hd
   simp at this; omega
  rw [List.drop_eq_getElem_cons hlt] at hd
  simp only [List.cons.injEq] at hd
  rw [hJ, if_pos (by simp [len_eq, hlt]), idx_nat, List.getElem?_eq_getElem hlt, hd.1]
  simp only [Option.bind_some, runOf]
  cases hp : p (ib b)
  ·rw [if_neg (by simp), w64_of (by omega) (by omega)]
   simp; omega
  ·rw [if_pos rfl, w64_of (by omega) (by omega), show (j : Int) + 1 = ((j + 1 : Nat) : Int) by omega, ih (j + 1) hd.2 (by omega) (by omega)]
   simp; omega
section
variable {x : List UInt8} (hx : x.length ≤ 4000)

include hx
theorem span_nm {j : Nat} (hj : j ≤ x.length) : i_span__i_isNameByte x (j : Int) = some (runOf isNmB (x.drop j) : Int) := by
 rw [i_span__i_isNameByte_eq]
 have := span_of (x := x) (by omega) isNmB (J := i_span_L2__i_isNameByte x (j : Int)) j (fun i => by rw [i_span_L2__i_isNameByte_eq]; simp only [i_isNameByte_ok, Option.bind_some]) (x.drop j) j rfl (Nat.le_refl _) hj
 rw [this]; simp
theorem span_dg {j : Nat} (hj : j ≤ x.length) : i_span__i_isDigit x (j : Int) = some (runOf isDig (x.drop j) : Int) := by
 rw [i_span__i_isDigit_eq]
 have := span_of (x := x) (by omega) isDig (J := i_span_L2__i_isDigit x (j : Int)) j (fun i => by rw [i_span_L2__i_isDigit_eq]; simp only [i_isDigit_ok, Option.bind_some]) (x.drop j) j rfl (Nat.le_refl _) hj
 rw [this]; simp
theorem span_qu (q : Int) {j : Nat} (hj : j ≤ x.length) : i_span__i_scanToken_c1 x (j : Int) q = some (runOf (fun c => c != q) (x.drop j) : Int) := by
 rw [i_span__i_scanToken_c1_eq]
 have := span_of (x := x) (by omega) (fun c => c != q) (J := i_span_L2__i_scanToken_c1 x (j : Int) q) j (fun i => by rw [i_span_L2__i_scanToken_c1_eq]; simp only [i_scanToken_c1_eq, Option.bind_some]) (x.drop j) j rfl (Nat.le_refl _) hj
 rw [this]; simp
theorem span_bl {j : Nat} (hj : j ≤ x.length) : i_span__i_ScanTokens_c1 x (j : Int) = some (runOf (fun c => c == 32) (x.drop j) : Int) := by
 rw [i_span__i_ScanTokens_c1_eq]
 have := span_of (x := x) (by omega) (fun c => c == 32) (J := i_span_L2__i_ScanTokens_c1 x (j : Int)) j (fun i => by rw [i_span_L2__i_ScanTokens_c1_eq]; simp only [i_ScanTokens_c1_eq, Option.bind_some]) (x.drop j) j rfl (Nat.le_refl _) hj
 rw [this]; simp
end
theorem cut_at {x : List UInt8} {j m : Nat} (h : j + m ≤ x.length) : cut x (j : Int) (Option.getD (some ((j + m : Nat) : Int)) (len x)) = some ((x.drop j).take m) := by
 have := cut_of (xs := x) (a := j) (b := j + m) (by omega) h
 rw [Option.getD_some, this, List.drop_take]
 congr 2; omega
theorem opr_index (b : UInt8) : indexByteS [43, 45, 42, 47, 124, 46, 36, 64, 61] (ib b) = some (Lib.indexByte [43, 45, 42, 47, 124, 46, 36, 64, 61] b) := by
 unfold indexByteS
 have : (ib b).toNat.toUInt8 = b := by simp [ib]
 rw [this]
theorem mark_index (b : UInt8) : indexByteS [40, 41, 60, 62, 44, 58] (ib b) = some (Lib.indexByte [40, 41, 60, 62, 44, 58] b) := by
 unfold indexByteS
 have : (ib b).toNat.toUInt8 = b := by simp [ib]
 rw [this]
theorem all_bytes {P : UInt8 → Prop} (h : ∀ n : Fin 256, P (UInt8.ofNat n)) (b : UInt8) : P b := by
 have := h ⟨b.toNat, b.toNat_lt⟩
 simpa using this
theorem opr_ok : ∀ b : UInt8, decide (Lib.indexByte [43, 45, 42, 47, 124, 46, 36, 64, 61] b ≥ 0) = isOpr (ib b) := all_bytes (by decide +kernel)
theorem mark_ok : ∀ b : UInt8, (Lib.indexByte [40, 41, 60, 62, 44, 58] b = -1 ∧ markOf (ib b) = 0) ∨ (0 ≤ Lib.indexByte [40, 41, 60, 62, 44, 58] b ∧ markOf (ib b) = 5 + Lib.indexByte [40, 41, 60, 62, 44, 58] b ∧ Lib.indexByte [40, 41, 60, 62, 44, 58] b ≤ 5) := all_bytes (by decide +kernel)
theorem opr_lt : ∀ b : UInt8, isOpr (ib b) = true → chr (ib b) = some [b] := all_bytes (by decide +kernel)
theorem i_scanToken_ok {x : List UInt8} (hx : x.length ≤ 4000) {j : Nat} (hj : j < x.length) : ∃ (tk : TToken) (n : Int) (ok : Bool), i_scanToken x (j : Int) = some (tk, n, ok) ∧
    (match tokAt (x.drop j) with | none => ok = false | some (k, m, t, w) => ok = true ∧ tk.fKind = k ∧ tk.fNum = m ∧ tk.fText = t ∧ n = (w : Int)) := by
  obtain ⟨b, r, hd⟩ : ∃ b r, x.drop j = b :: r := ⟨_, _, List.drop_eq_getElem_cons hj⟩
  have hget : idx x (j : Int) = some b := by
    rw [idx_nat, List.getElem?_eq_getElem hj]
    rw [List.drop_eq_getElem_cons hj] at hd
    simp only [List.cons.injEq] at hd
    rw [hd.1]
  have hd1 : x.drop (j + 1) = r := by
    rw [List.drop_eq_getElem_cons hj] at hd
    simp only [List.cons.injEq] at hd
    exact hd.2
  have hrl : (b :: r).length = x.length - j := by rw [← hd, List.length_drop]
  simp only [List.length_cons] at hrl
  rw [i_scanToken_eq, hget, hd, tokAt_cons]
  simp only [Option.bind_some, i_isLetter_ok, i_isDigit_ok]
  by_cases h1 : isLet (ib b) = true
  · rw [if_pos h1, if_pos h1, span_nm hx (by omega), hd]
    have hle := runOf_le isNmB (b :: r)
    simp only [List.length_cons] at hle
    generalize hn : runOf isNmB (b :: r) = n at hle
    simp only [Option.bind_some]
    rw [w64_of (by omega) (by omega), show (j : Int) + (n : Int) = ((j + n : Nat) : Int) by omega, cut_at (by omega), hd]
    simp only [Option.bind_some]
    refine ⟨_, _, _, rfl, ?_⟩
    by_cases h12 : n ≤ 12
    · rw [if_pos h12]
      exact ⟨by simp; omega, rfl, rfl, rfl, rfl⟩
    · rw [if_neg h12]
      simp; omega
  rw [if_neg h1, if_neg h1]
  by_cases h2 : isDig (ib b) = true
  · rw [if_pos h2, if_pos h2, span_dg hx (by omega), hd]
    have hle := runOf_le isDig (b :: r)
    have hall := runOf_all isDig (b :: r)
    have hpos : 1 ≤ runOf isDig (b :: r) := by simp only [runOf, h2, if_true]; omega
    simp only [List.length_cons] at hle
    generalize hn : runOf isDig (b :: r) = n at hle hall hpos
    simp only [Option.bind_some]
    rw [w64_of (by omega) (by omega), show (j : Int) + (n : Int) = ((j + n : Nat) : Int) by omega, cut_at (by omega), hd]
    simp only [Option.bind_some]
    have htl : ((b :: r).take n).length = n := by rw [List.length_take]; simp; omega
    have hdg : ((b :: r).take n).all digB = true := by
      have : (fun c : UInt8 => isDig (ib c)) = digB := by
        funext c
        unfold digB isDig
        rw [ib_eq, Bool.eq_iff_iff]
        simp
        omega
      rw [← this]; exact hall
    unfold readIntS
    by_cases h13 : 13 < n
    · rw [if_pos (by rw [htl]; exact h13)]
      refine ⟨_, _, _, rfl, ?_⟩
      rw [if_neg (by omega)]
    · rw [if_neg (by rw [htl]; exact h13), if_pos ⟨by intro e; rw [e] at htl; simp at htl; omega, hdg⟩]
      refine ⟨_, _, _, rfl, ?_⟩
      by_cases hb : numD ((b :: r).take n) 0 ≤ 1000000000000
      · rw [if_pos ⟨by omega, hb⟩]
        exact ⟨by simpa using hb, rfl, rfl, rfl, rfl⟩
      · rw [if_neg (by omega)]
        simpa using hb
  rw [if_neg h2, if_neg h2]
  have quo : ib b = 39 ∨ ib b = 34 → ∀ z : Option (TToken × Int × Bool), z = ((i_span__i_scanToken_c1 x (w64 ((j : Int) + 1)) (ib b)).bind fun r194 => ((cut x (w64 ((j : Int) + 1)) (Option.getD (Option.some (w64 (w64 ((j : Int) + 1) + r194))) (len x))) : Option (List UInt8)).bind fun y193 =>
      if decide (w64 (w64 ((j : Int) + 1) + r194) < len x) = true then some (TToken.mk (Int.ofNat 3) (Int.ofNat 0) y193 false false, w64 (r194 + 2), decide (r194 ≤ 200)) else some (TToken.mk (Int.ofNat 3) (Int.ofNat 0) y193 false false, w64 (r194 + 2), false)) →
      ∃ (tk : TToken) (n : Int) (ok : Bool), z = some (tk, n, ok) ∧ (match (if runOf (fun c => c != ib b) r < r.length ∧ runOf (fun c => c != ib b) r ≤ 200 then some ((3 : Int), (0 : Int), r.take (runOf (fun c => c != ib b) r), runOf (fun c => c != ib b) r + 2) else none) with | none => ok = false | some (k, m, t, w) => ok = true ∧ tk.fKind = k ∧ tk.fNum = m ∧ tk.fText = t ∧ n = (w : Int)) := by
    intro _ z hz
    have hle := runOf_le (fun c => c != ib b) r
    rw [w64_of (by omega) (by omega), show (j : Int) + 1 = ((j + 1 : Nat) : Int) by omega, span_qu hx (ib b) (by omega), hd1] at hz
    generalize hn : runOf (fun c => c != ib b) r = n at hle hz
    simp only [Option.bind_some] at hz
    rw [w64_of (by omega) (by omega), show ((j + 1 : Nat) : Int) + (n : Int) = ((j + 1 + n : Nat) : Int) by omega, cut_at (by omega), hd1] at hz
    simp only [Option.bind_some] at hz
    rw [w64_of (by omega) (by omega), len_eq] at hz
    by_cases hq : n < r.length
    · rw [if_pos (by simp; omega)] at hz
      refine ⟨_, _, _, hz, ?_⟩
      by_cases h200 : n ≤ 200
      · rw [if_pos ⟨hq, h200⟩]
        exact ⟨by simp; omega, rfl, rfl, rfl, by simp⟩
      · rw [if_neg (by omega)]
        simp; omega
    · rw [if_neg (by simp; omega)] at hz
      refine ⟨_, _, _, hz, ?_⟩
      rw [if_neg (by omega)]
  by_cases h39 : ib b = 39
  · rw [if_pos (by simpa using h39), if_pos (.inl h39)]
    exact quo (.inl h39) _ rfl
  rw [if_neg (by simpa using h39)]
  by_cases h34 : ib b = 34
  · rw [if_pos (by simpa using h34), if_pos (.inr h34)]
    exact quo (.inr h34) _ rfl
  rw [if_neg (by simpa using h34), if_neg (by omega), opr_index]
  simp only [Option.bind_some]
  by_cases h4 : isOpr (ib b) = true
  · rw [if_pos (by rw [opr_ok]; exact h4), if_pos h4, opr_lt b h4]
    simp only [Option.bind_some]
    exact ⟨_, _, _, rfl, rfl, rfl, rfl, rfl, rfl⟩
  · rw [if_neg (by rw [opr_ok]; exact h4), if_neg h4, mark_index]
    simp only [Option.bind_some]
    refine ⟨_, _, _, rfl, ?_⟩
    rcases mark_ok b with ⟨e1, e2⟩ | ⟨e1, e2, e3⟩
    · rw [if_neg (by simpa using e2)]
      simp [e1]
    · rw [if_pos (by omega)]
      refine ⟨by simpa using e1, ?_, rfl, rfl, rfl⟩
      show w64 _ = _
      rw [w64_of (by omega) (by omega), e2]
end Go.Dv.U

namespace Go.Dv.U
open Go Go.Dv Go.Proofs
theorem runOf_zero {p : Int → Bool} {b : UInt8} {r : List UInt8} (h : p (ib b) = false) : runOf p (b :: r) = 0 := by simp [runOf, h]
theorem runOf_succ {p : Int → Bool} {b : UInt8} {r : List UInt8} (h : p (ib b) = true) : runOf p (b :: r) = runOf p r + 1 := by simp [runOf, h]
theorem scanL_skip : ∀ (s : List UInt8) (n : Nat) (bl : Bool) (out : List TToken) (at_ : Nat), s.length ≤ n → scanL n s bl out at_ = scanL (n - runOf (fun c => c == 32) s) (s.drop (runOf (fun c => c == 32) s)) (if runOf (fun c => c == 32) s = 0 then bl else true) out (at_ + runOf (fun c => c == 32) s) := by
 intro s
 induction s with
 | nil => intro n bl out at_ _; simp [runOf]
 | cons b r ih =>
  intro n bl out at_ h
  by_cases hb : ib b = 32
  ·have hr : (fun c : Int => c == 32) (ib b) = true := by simpa using hb
   rw [runOf_succ hr]
   cases n with
   | zero => simp at h
   | succ n =>
    simp only [scanL, hb, if_true]
    rw [ih n true out (at_ + 1) (by simpa using h)]
    simp only [List.drop_succ_cons, Nat.add_eq_zero_iff, Nat.one_ne_zero, and_false, if_false, ite_self]
    congr 1
    ·omega
    ·omega
  ·have hr : (fun c : Int => c == 32) (ib b) = false := by simpa using hb
   rw [runOf_zero hr]
   simp
theorem drop_run {p : Int → Bool} : ∀ s : List UInt8, ∀ b r, s.drop (runOf p s) = b :: r → p (ib b) = false
 | [], b, r, h => by simp [runOf] at h
 | c :: s, b, r, h => by
  cases hc : p (ib c)
  ·rw [runOf_zero hc] at h
   simp only [List.drop_zero, List.cons.injEq] at h
   rw [← h.1]; exact hc
  ·rw [runOf_succ hc] at h
   exact drop_run s b r h
theorem i_L5_ok {x : List UInt8} (hx : x.length ≤ 4000) : ∀ (N n j : Nat) (out : List TToken), n ≤ N → j ≤ x.length → x.length - j ≤ n → out.length ≤ 120 → i_ScanTokens_L5 x (j : Int) out = some (scanL n (x.drop j) (len out == 0) out j) := by
 intro N
 induction N with
 | zero =>
  intro n j out hn hj hl ho
  have : x.drop j = [] := List.drop_eq_nil_of_le (by omega)
  rw [i_ScanTokens_L5_eq, if_neg (by simp [len_eq]; omega), this]
  cases n <;> rfl
 | succ N ih =>
  intro n j out hn hj hl ho
  by_cases hlt : j < x.length
  ·rw [i_ScanTokens_L5_eq, if_pos (by simpa [len_eq] using hlt), span_bl hx hj]
   simp only [Option.bind_some]
   have hle := runOf_le (fun c => c == 32) (x.drop j)
   rw [List.length_drop] at hle
   rw [scanL_skip (x.drop j) n (len out == 0) out j (by rw [List.length_drop]; omega)]
   have hdr := drop_run (p := fun c => c == 32) (x.drop j)
   generalize runOf (fun c => c == 32) (x.drop j) = q at hle hdr ⊢
   rw [List.drop_drop] at hdr ⊢
   rw [w64_of (by omega) (by omega), show (j : Int) + (q : Int) = ((j + q : Nat) : Int) by omega]
   by_cases hend : j + q = x.length
   ·rw [if_pos (by simp [len_eq, hend])]
    have : x.drop (j + q) = [] := List.drop_eq_nil_of_le (by omega)
    rw [this]
    cases (n - q) <;> rfl
   ·rw [if_neg (by simp [len_eq]; omega)]
    have hlt2 : j + q < x.length := by omega
    obtain ⟨b, r, hd⟩ : ∃ b r, x.drop (j + q) = b :: r := ⟨_, _, List.drop_eq_getElem_cons hlt2⟩
    have hb : ¬ ib b = 32 := by simpa using hdr b r hd
    obtain ⟨m, hm⟩ : ∃ m, n - q = m + 1 := ⟨n - q - 1, by omega⟩
    rw [hm, hd]
    simp only [scanL, hb, if_false]
    obtain ⟨tk, w, ok, hs, hmt⟩ := i_scanToken_ok hx hlt2
    rw [hs]
    rw [hd] at hmt
    simp only [Option.bind_some, i_unless_ok, i_first2_ok]
    cases ht : tokAt (b :: r) with
    | none =>
     rw [ht] at hmt
     simp only at hmt
     subst hmt
     simp
    | some z =>
     obtain ⟨k, mm, t, w'⟩ := z
     rw [ht] at hmt
     simp only at hmt
     obtain ⟨rfl, rfl, rfl, rfl, rfl⟩ := hmt
     have hw := tokAt_len ht
     rw [← hd, List.length_drop] at hw
     simp only [if_true, ne_eq, not_true_eq_false, if_false]
     by_cases h120 : 120 ≤ out.length
     ·have e : decide (len out < 120) = false := by simp [len_eq]; omega
      rw [e, if_pos h120]
      simp
     ·have e : decide (len out < 120) = true := by simp [len_eq]; omega
      rw [e, if_neg h120]
      simp only [if_true]
      rw [if_neg (by simp), w64_of (n := ((j + q : Nat) : Int) + (w' : Int)) (by omega) (by omega), show ((j + q : Nat) : Int) + (w' : Int) = ((j + q + w' : Nat) : Int) by omega]
      have hrest : (b :: r).drop w' = x.drop (j + q + w') := by rw [← hd, List.drop_drop]
      rw [hrest]
      have go : ∀ (bf af : Bool), af = nextBl (x.drop (j + q + w')) → bf = (if q = 0 then (len out == 0) else true) → i_ScanTokens_L16 x ((j + q + w' : Nat) : Int) out tk.fKind tk.fNum tk.fText bf af = some (scanL m (x.drop (j + q + w')) false (out ++ [⟨tk.fKind, tk.fNum, tk.fText, if q = 0 then (len out == 0) else true, nextBl (x.drop (j + q + w'))⟩]) (j + q + w')) := by
       intro bf af h1 h2
       rw [i_ScanTokens_L16_eq, app_of (by simp; omega)]
       simp only [Option.bind_some]
       rw [ih m (j + q + w') _ (by omega) (by omega) (by omega) (by simp; omega), h1, h2]
       have : (len (out ++ [(⟨tk.fKind, tk.fNum, tk.fText, if q = 0 then (len out == 0) else true, nextBl (x.drop (j + q + w'))⟩ : TToken)]) == 0) = false := by
        simp [len_eq]; omega
       rw [this]
      by_cases hq : q = 0
      ·rw [if_neg (by simp [hq])]
       by_cases he : j + q + w' = x.length
       ·have hn2 : x.drop (j + q + w') = [] := List.drop_eq_nil_of_le (by omega)
        rw [if_pos (by simp [len_eq, he])]
        exact go _ _ (by rw [hn2]; rfl) (by rw [if_pos hq])
       ·rw [if_neg (by simp [len_eq]; omega), idx_nat, List.getElem?_eq_getElem (by omega)]
        simp only [Option.bind_some]
        exact go _ _ (by rw [List.drop_eq_getElem_cons (by omega)]; rfl) (by rw [if_pos hq])
      ·rw [if_pos (by simp; omega)]
       by_cases he : j + q + w' = x.length
       ·have hn2 : x.drop (j + q + w') = [] := List.drop_eq_nil_of_le (by omega)
        rw [if_pos (by simp [len_eq, he])]
        exact go _ _ (by rw [hn2]; rfl) (by rw [if_neg hq])
       ·rw [if_neg (by simp [len_eq]; omega), idx_nat, List.getElem?_eq_getElem (by omega)]
        simp only [Option.bind_some]
        exact go _ _ (by rw [List.drop_eq_getElem_cons (by omega)]; rfl) (by rw [if_neg hq])
  ·have : x.drop j = [] := List.drop_eq_nil_of_le (by omega)
   rw [i_ScanTokens_L5_eq, if_neg (by simp [len_eq]; omega), this]
   cases n <;> rfl
def scanT (x : List UInt8) : List TToken × Int × Int := if x.length ≤ 4000 ∧ allPl x = true then scanL x.length x true [] 0 else ([], 0, 1)
theorem i_ScanTokens_ok {x : List UInt8} (h : x.length ≤ 9223372036854775807) : i_ScanTokens x = some (scanT x) := by
 rw [i_ScanTokens_eq]
 unfold scanT
 by_cases hl : x.length ≤ 4000
 ·rw [if_neg (by simp [len_eq]; omega), i_isPlainText_ok h]
  simp only [Option.bind_some]
  cases hp : allPl x
  ·simp
  ·have := i_L5_ok hl x.length x.length 0 [] (Nat.le_refl _) (by omega) (by omega) (by simp)
   simp only [Int.natCast_zero, List.drop_zero] at this
   simp only [Bool.not_true, Bool.false_eq_true, if_false, hl, and_self, if_true]
   rw [this]
   rfl
 ·rw [if_pos (by simp [len_eq]; omega), if_neg (by omega)]
end Go.Dv.U

namespace Go.Dv.U
open Go Go.Dv Go.Proofs
theorem s_l02Operator_ok (c : Int) : s_l02Operator c = some (isOpr c) := by
 rw [s_l02Operator_eq, s_l02Operator_L11_eq, s_l02Operator_L12_eq]
 unfold isOpr
 simp only [ite_some]
 congr 1
 cases c == 43 <;> cases c == 45 <;> cases c == 42 <;> cases c == 47 <;> cases c == 124 <;> cases c == 46 <;> cases c == 36 <;> cases c == 64 <;> cases c == 61 <;> rfl
def zTok : TToken := ⟨0, 0, [], false, false⟩
theorem L27_ok (j : Nat) (hj : j ≤ 4000) (c : Int) : s_l02One_L27 (j : Int) c [40, 41, 60, 62, 44, 58] 0 0 0 [] false false = some (if markOf c ≠ 0 then ((⟨markOf c, 0, [], false, false⟩ : TToken), ((j + 1 : Nat) : Int)) else (zTok, -1)) := by
 have hw : w64 ((j : Int) + 1) = ((j + 1 : Nat) : Int) := by rw [w64_of (by omega) (by omega)]; omega
 have step : ∀ (k : Int) (y : UInt8), idx [40, 41, 60, 62, 44, 58] k = some y → 0 ≤ k → k < 6 → s_l02One_L27 (j : Int) c [40, 41, 60, 62, 44, 58] k 0 0 [] false false = if ib y = c then some ((⟨w64 (5 + k), 0, [], false, false⟩ : TToken), ((j + 1 : Nat) : Int)) else s_l02One_L27 (j : Int) c [40, 41, 60, 62, 44, 58] (w64 (k + 1)) 0 0 [] false false := by
  intro k y h h0 h6
  rw [s_l02One_L27_eq, if_pos (by simp [len_eq]; omega), h]
  simp only [Option.bind_some, beq_iff_eq, hw]
  rfl
 have w1 : w64 (0 + 1) = 1 := by decide
 have w2 : w64 (1 + 1) = 2 := by decide
 have w3 : w64 (2 + 1) = 3 := by decide
 have w4 : w64 (3 + 1) = 4 := by decide
 have w5 : w64 (4 + 1) = 5 := by decide
 have w6 : w64 (5 + 1) = 6 := by decide
 have last : s_l02One_L27 (j : Int) c [40, 41, 60, 62, 44, 58] 6 0 0 [] false false = some (zTok, -1) := by
  rw [s_l02One_L27_eq, if_neg (by simp [len_eq])]; rfl
 rw [step 0 40 rfl (by decide) (by decide), w1, step 1 41 rfl (by decide) (by decide), w2, step 2 60 rfl (by decide) (by decide), w3, step 3 62 rfl (by decide) (by decide), w4, step 4 44 rfl (by decide) (by decide), w5, step 5 58 rfl (by decide) (by decide), w6, last]
 have i1 : ib 40 = 40 := by decide
 have i2 : ib 41 = 41 := by decide
 have i3 : ib 60 = 60 := by decide
 have i4 : ib 62 = 62 := by decide
 have i5 : ib 44 = 44 := by decide
 have i6 : ib 58 = 58 := by decide
 have v0 : w64 (5 + 0) = 5 := by decide
 have v1 : w64 (5 + 1) = 6 := by decide
 have v2 : w64 (5 + 2) = 7 := by decide
 have v3 : w64 (5 + 3) = 8 := by decide
 have v4 : w64 (5 + 4) = 9 := by decide
 have v5 : w64 (5 + 5) = 10 := by decide
 simp only [i1, i2, i3, i4, i5, i6, v0, v1, v2, v3, v4, v5]
 unfold markOf
 by_cases h1 : c = 40
 ·subst h1; simp
 by_cases h2 : c = 41
 ·subst h2; simp
 by_cases h3 : c = 60
 ·subst h3; simp
 by_cases h4 : c = 62
 ·subst h4; simp
 by_cases h5 : c = 44
 ·subst h5; simp
 by_cases h6 : c = 58
 ·subst h6; simp
 have f : ∀ n : Int, c ≠ n → ¬ n = c := fun n h e => h e.symm
 simp [h1, h2, h3, h4, h5, h6, f _ h1, f _ h2, f _ h3, f _ h4, f _ h5, f _ h6]
section
variable {x : List UInt8} (hx : x.length ≤ 4000)

include hx
theorem L10_ok {j : Nat} : ∀ (l : List UInt8) (e acc : Nat), x.drop e = l → j ≤ e → e ≤ x.length → e - j ≤ 14 → acc < 10 ^ (e - j) →
  s_l02One_L10 x (j : Int) (acc : Int) (e : Int) 0 0 [] false false = some (if (e - j) + runOf isDig l ≤ 13 ∧ numD (l.take (runOf isDig l)) acc ≤ 1000000000000 then ((⟨2, (numD (l.take (runOf isDig l)) acc : Nat), [], false, false⟩ : TToken), ((e + runOf isDig l : Nat) : Int)) else (zTok, -1)) := by
 have L13 : ∀ (e acc : Nat), j ≤ e → e ≤ x.length → s_l02One_L13 (j : Int) (acc : Int) (e : Int) 0 0 [] false false = some (if e - j ≤ 13 ∧ acc ≤ 1000000000000 then ((⟨2, (acc : Nat), [], false, false⟩ : TToken), (e : Int)) else (zTok, -1)) := by
  intro e acc h1 h2
  rw [s_l02One_L13_eq, w64_of (by omega) (by omega)]
  by_cases h13 : e - j ≤ 13
  ·rw [if_neg (by simp; omega)]
   by_cases hb : acc ≤ 1000000000000
   ·rw [if_neg (by simp; omega), if_pos ⟨h13, hb⟩]
    rfl
   ·rw [if_pos (by simp; omega), if_neg (by omega)]; rfl
  ·rw [if_pos (by simp; omega), if_neg (by omega)]; rfl
 intro l
 induction l with
 | nil =>
  intro e acc hd h1 h2 h3 h4
  have : x.length ≤ e := by
   have := congrArg List.length hd
   simp at this; omega
  rw [s_l02One_L10_eq, if_neg (by simp [len_eq]; omega), L13 e acc h1 h2]
  simp [runOf, numD]
 | cons b l ih =>
  intro e acc hd h1 h2 h3 h4
  have hlt : e < x.length := by
   have := congrArg List.length hd
   simp at this; omega
  rw [List.drop_eq_getElem_cons hlt] at hd
  simp only [List.cons.injEq] at hd
  rw [s_l02One_L10_eq, if_pos (by simp [len_eq, hlt]), idx_nat, List.getElem?_eq_getElem hlt, hd.1]
  simp only [Option.bind_some, s_l02Digit_ok]
  cases hg : isDig (ib b)
  ·rw [if_neg (by simp), L13 e acc h1 h2, runOf_zero hg]
   simp [numD]
  ·rw [if_pos rfl, runOf_succ hg, w64_of (by omega) (by omega)]
   by_cases h14 : e - j < 14
   ·have hb := ib_eq b
    unfold isDig at hg
    simp only [Bool.and_eq_true_iff, decide_eq_true_eq] at hg
    have hp : 10 ^ (e - j) ≤ 10 ^ 13 := Nat.pow_le_pow_right (by decide) (by omega)
    have hp2 : 10 ^ (e - j + 1) = 10 ^ (e - j) * 10 := Nat.pow_succ _ _
    rw [if_pos (by simp; omega), s_l02One_L11_eq, idx_nat, List.getElem?_eq_getElem hlt, hd.1]
    simp only [Option.bind_some]
    have e1 : Go.IntKind.wrap Go.IntKind.u8 (ib b - 48) = ib b - 48 := by unfold IntKind.wrap; simp [IntKind.bits, IntKind.signed]; omega
    rw [e1, w64_of (n := ib b - 48) (by omega) (by omega), w64_of (n := 10 * (acc : Int)) (by omega) (by omega), w64_of (n := 10 * (acc : Int) + (ib b - 48)) (by omega) (by omega), w64_of (n := (e : Int) + 1) (by omega) (by omega)]
    rw [show 10 * (acc : Int) + (ib b - 48) = ((acc * 10 + (b.toNat - 48) : Nat) : Int) by omega, show (e : Int) + 1 = ((e + 1 : Nat) : Int) by omega]
    rw [ih (e + 1) (acc * 10 + (b.toNat - 48)) hd.2 (by omega) (by omega) (by omega) (by rw [show e + 1 - j = e - j + 1 by omega]; omega)]
    have en : numD ((b :: l).take (runOf isDig l + 1)) acc = numD (l.take (runOf isDig l)) (acc * 10 + (b.toNat - 48)) := by
     rw [List.take_succ_cons]; rfl
    rw [en, show e + 1 - j + runOf isDig l = e - j + (runOf isDig l + 1) by omega, show e + 1 + runOf isDig l = e + (runOf isDig l + 1) by omega]
   ·rw [if_neg (by simp; omega), L13 e acc h1 h2, if_neg (by omega), if_neg (by omega)]
theorem L18_ok {j : Nat} (q : Int) : ∀ (l : List UInt8) (e : Nat), x.drop e = l → j + 1 ≤ e → e ≤ x.length →
  s_l02One_L18 x (j : Int) q (e : Int) 0 0 [] false false = some (if runOf (fun c => c != q) l < l.length ∧ e + runOf (fun c => c != q) l - j - 1 ≤ 200 then ((⟨3, 0, (x.drop (j + 1)).take (e + runOf (fun c => c != q) l - j - 1), false, false⟩ : TToken), ((e + runOf (fun c => c != q) l + 1 : Nat) : Int)) else (zTok, -1)) := by
 intro l
 induction l with
 | nil =>
  intro e hd h1 h2
  have : e = x.length := by
   have := congrArg List.length hd
   simp at this; omega
  rw [s_l02One_L18_eq, if_neg (by simp [len_eq]; omega), if_pos (by simp [len_eq, this]), s_l02One_L21_eq]
  rfl
 | cons b l ih =>
  intro e hd h1 h2
  have hlt : e < x.length := by
   have := congrArg List.length hd
   simp at this; omega
  rw [List.drop_eq_getElem_cons hlt] at hd
  simp only [List.cons.injEq] at hd
  rw [s_l02One_L18_eq, if_pos (by simp [len_eq, hlt]), idx_nat, List.getElem?_eq_getElem hlt, hd.1]
  simp only [Option.bind_some]
  by_cases hb : ib b = q
  ·have hr : (fun c : Int => c != q) (ib b) = false := by simpa using hb
   rw [if_neg (by simpa using hb), if_neg (by simp [len_eq]; omega), runOf_zero hr]
   rw [w64_of (n := (e : Int) - (j : Int)) (by omega) (by omega), w64_of (by omega) (by omega)]
   simp only [Nat.add_zero]
   by_cases h200 : e - j - 1 ≤ 200
   ·rw [if_neg (by simp; omega), if_pos ⟨by simp, h200⟩, s_l02One_L22_eq, w64_of (n := (j : Int) + 1) (by omega) (by omega), w64_of (by omega) (by omega)]
    have := cut_at (x := x) (j := j + 1) (m := e - j - 1) (by omega)
    rw [show j + 1 + (e - j - 1) = e by omega] at this
    rw [show (j : Int) + 1 = ((j + 1 : Nat) : Int) by omega, this]
    rfl
   ·rw [if_pos (by simp; omega), if_neg (by omega), s_l02One_L21_eq]
    rfl
  ·have hr : (fun c : Int => c != q) (ib b) = true := by simpa using hb
   rw [if_pos (by simpa using hb), w64_of (by omega) (by omega), show (e : Int) + 1 = ((e + 1 : Nat) : Int) by omega, ih (e + 1) hd.2 (by omega) (by omega), runOf_succ hr]
   have e1 : e + 1 + runOf (fun c => c != q) l = e + (runOf (fun c => c != q) l + 1) := by omega
   rw [e1]
   simp only [List.length_cons, Nat.add_lt_add_iff_right]
theorem s_l02One_ok {j : Nat} (hj : j < x.length) : ∃ (tk : TToken) (e : Int), s_l02One x (j : Int) = some (tk, e) ∧
  (match tokAt (x.drop j) with | none => e = -1 | some (k, m, t, w) => tk.fKind = k ∧ tk.fNum = m ∧ tk.fText = t ∧ e = ((j + w : Nat) : Int)) := by
 obtain ⟨b, r, hd⟩ : ∃ b r, x.drop j = b :: r := ⟨_, _, List.drop_eq_getElem_cons hj⟩
 have hget : idx x (j : Int) = some b := by
  rw [idx_nat, List.getElem?_eq_getElem hj]
  rw [List.drop_eq_getElem_cons hj] at hd
  simp only [List.cons.injEq] at hd
  rw [hd.1]
 have hd1 : x.drop (j + 1) = r := by
  rw [List.drop_eq_getElem_cons hj] at hd
  simp only [List.cons.injEq] at hd
  exact hd.2
 have hrl : (b :: r).length = x.length - j := by rw [← hd, List.length_drop]
 simp only [List.length_cons] at hrl
 have hone : w64 ((j : Int) + 1) = ((j + 1 : Nat) : Int) := by rw [w64_of (by omega) (by omega)]; omega
 rw [s_l02One_eq, hget, hd, tokAt_cons]
 simp only [Option.bind_some, s_l02Letter_ok, s_l02Digit_ok]
 by_cases h1 : isLet (ib b) = true
 ·have hle := runOf_le isNmB (b :: r)
  simp only [List.length_cons] at hle
  rw [if_pos h1, if_pos h1, s_l02NameEnd_ok (by omega) (by omega), hd]
  simp only [h1, if_true, Option.bind_some, ← runOf_nm]
  generalize runOf isNmB (b :: r) = n at hle
  rw [w64_of (by omega) (by omega)]
  by_cases h12 : n ≤ 12
  ·rw [if_neg (by simp; omega), if_pos h12, cut_at (by omega), hd]
   exact ⟨_, _, rfl, rfl, rfl, rfl, rfl⟩
  ·rw [if_pos (by simp; omega), if_neg h12]
   exact ⟨_, _, rfl, rfl⟩
 rw [if_neg h1, if_neg h1]
 by_cases h2 : isDig (ib b) = true
 ·rw [if_pos h2, if_pos h2]
  have := L10_ok hx (j := j) (b :: r) j 0 hd (Nat.le_refl _) (by omega) (by omega) (by simp)
  simp only [Int.natCast_zero, Nat.sub_self, Nat.zero_add] at this
  rw [this]
  split
  ·exact ⟨_, _, rfl, rfl, rfl, rfl, rfl⟩
  ·exact ⟨_, _, rfl, rfl⟩
 rw [if_neg h2, if_neg h2]
 have quo : ∃ (tk : TToken) (e : Int), s_l02One_L18 x (j : Int) (ib b) ((j + 1 : Nat) : Int) 0 0 [] false false = some (tk, e) ∧ (match (if runOf (fun c => c != ib b) r < r.length ∧ runOf (fun c => c != ib b) r ≤ 200 then some ((3 : Int), (0 : Int), r.take (runOf (fun c => c != ib b) r), runOf (fun c => c != ib b) r + 2) else none) with | none => e = -1 | some (k, m, t, w) => tk.fKind = k ∧ tk.fNum = m ∧ tk.fText = t ∧ e = ((j + w : Nat) : Int)) := by
  rw [L18_ok hx (ib b) r (j + 1) hd1 (Nat.le_refl _) (by omega), hd1]
  rw [show j + 1 + runOf (fun c => c != ib b) r - j - 1 = runOf (fun c => c != ib b) r by omega]
  split
  ·exact ⟨_, _, rfl, rfl, rfl, rfl, by omega⟩
  ·exact ⟨_, _, rfl, rfl⟩
 by_cases h39 : ib b = 39
 ·rw [if_pos (by simpa using h39), if_pos (.inl h39), hone]
  exact quo
 rw [if_neg (by simpa using h39)]
 by_cases h34 : ib b = 34
 ·rw [if_pos (by simpa using h34), if_pos (.inr h34), hone]
  exact quo
 rw [if_neg (by simpa using h34), if_neg (by omega), s_l02Operator_ok]
 simp only [Option.bind_some]
 by_cases h4 : isOpr (ib b) = true
 ·rw [if_pos h4, if_pos h4, hone]
  have := cut_at (x := x) (j := j) (m := 1) (by omega)
  rw [this, hd]
  exact ⟨_, _, rfl, rfl, rfl, rfl, rfl⟩
 ·rw [if_neg h4, if_neg h4, L27_ok j (by omega) (ib b)]
  split
  ·exact ⟨_, _, rfl, rfl, rfl, rfl, rfl⟩
  ·exact ⟨_, _, rfl, rfl⟩
theorem s_L4_ok : ∀ (N n j : Nat) (bl : Bool) (out : List TToken), n ≤ N → j ≤ x.length → x.length - j ≤ n → out.length ≤ 120 →
    (∀ tk, out[out.length - 1]? = some tk → tk.fAfter = true ∨ (bl = false ∧ nextBl (x.drop j) = false)) → s_l02Scan_L4 x (j : Int) bl out = some (scanL n (x.drop j) bl out j) := by
  have fin : ∀ (j : Nat) (bl : Bool) (out : List TToken) (n : Nat), x.length ≤ j → j ≤ x.length → out.length ≤ 120 → (∀ tk, out[out.length - 1]? = some tk → tk.fAfter = true ∨ (bl = false ∧ nextBl (x.drop j) = false)) → s_l02Scan_L4 x (j : Int) bl out = some (scanL n (x.drop j) bl out j) := by
    intro j bl out n h1 h2 ho hi
    have hd : x.drop j = [] := List.drop_eq_nil_of_le h1
    have hs : scanL n (x.drop j) bl out j = (out, 0, 0) := by rw [hd]; cases n <;> rfl
    rw [hs, s_l02Scan_L4_eq, if_neg (by simp [len_eq]; omega)]
    by_cases h0 : out.length = 0
    · rw [if_neg (by simp [len_eq, h0])]
    · rw [if_pos (by simp [len_eq]; omega), len_eq, w64_of (by omega) (by omega), show (out.length : Int) - 1 = ((out.length - 1 : Nat) : Int) by omega, idx_nat, Int.toNat_natCast]
      have hlt : out.length - 1 < out.length := by omega
      rw [List.getElem?_eq_getElem hlt]
      simp only [Option.bind_some]
      have ha : (out[out.length - 1]).fAfter = true := by
        rcases hi _ (List.getElem?_eq_getElem hlt) with h | ⟨_, h⟩
        · exact h
        · rw [hd] at h; cases h
      have : upd out (out.length - 1) ⟨out[out.length - 1].fKind, out[out.length - 1].fNum, out[out.length - 1].fText, out[out.length - 1].fBefore, true⟩ = out := by
        rw [upd_eq, ← ha]
        exact List.set_getElem_self hlt
      rw [this]
  intro N
  induction N with
  | zero =>
    intro n j bl out hn hj hl ho hi
    exact fin j bl out n (by omega) hj ho hi
  | succ N ih =>
    intro n j bl out hn hj hl ho hi
    by_cases hlt : j < x.length
    · obtain ⟨b, r, hd⟩ : ∃ b r, x.drop j = b :: r := ⟨_, _, List.drop_eq_getElem_cons hlt⟩
      have hget : idx x (j : Int) = some b := by
        rw [idx_nat, List.getElem?_eq_getElem hlt]
        rw [List.drop_eq_getElem_cons hlt] at hd
        simp only [List.cons.injEq] at hd
        rw [hd.1]
      have hd1 : x.drop (j + 1) = r := by
        rw [List.drop_eq_getElem_cons hlt] at hd
        simp only [List.cons.injEq] at hd
        exact hd.2
      obtain ⟨m, rfl⟩ : ∃ m, n = m + 1 := ⟨n - 1, by omega⟩
      rw [s_l02Scan_L4_eq, if_pos (by simpa [len_eq] using hlt), hget, hd]
      simp only [Option.bind_some, scanL]
      by_cases hb : ib b = 32
      · rw [if_pos (by simpa using hb), if_pos hb, w64_of (by omega) (by omega), show (j : Int) + 1 = ((j + 1 : Nat) : Int) by omega, ih m (j + 1) true out (by omega) (by omega) (by omega) ho (fun tk h => by
          rcases hi tk h with h | ⟨_, h⟩
          · exact .inl h
          · rw [hd] at h
            simp [nextBl, hb] at h), hd1]
      · rw [if_neg (by simpa using hb), if_neg hb]
        obtain ⟨tk, e, hs, hmt⟩ := s_l02One_ok hx hlt
        rw [hs]
        rw [hd] at hmt
        simp only [Option.bind_some]
        cases ht : tokAt (b :: r) with
        | none =>
          rw [ht] at hmt
          simp only at hmt
          subst hmt
          rw [if_pos (by simp)]
        | some z =>
          obtain ⟨k, mm, t, w⟩ := z
          rw [ht] at hmt
          simp only at hmt
          obtain ⟨rfl, rfl, rfl, rfl⟩ := hmt
          have hw := tokAt_len ht
          rw [← hd, List.length_drop] at hw
          rw [if_neg (by simp; omega)]
          simp only
          by_cases h120 : out.length = 120
          · rw [if_pos (show (len out == 120) = true by simp [len_eq, h120]), if_pos (show 120 ≤ out.length by omega)]
          · rw [if_neg (show ¬ (len out == 120) = true by simp [len_eq]; omega), if_neg (show ¬ 120 ≤ out.length by omega)]
            have hrest : (b :: r).drop w = x.drop (j + w) := by rw [← hd, List.drop_drop]
            rw [hrest]
            have go : ∀ af : Bool, af = nextBl (x.drop (j + w)) → ((app out [(⟨tk.fKind, tk.fNum, tk.fText, bl, af⟩ : TToken)]).bind fun y => s_l02Scan_L4 x ((j + w : Nat) : Int) false y) = some (scanL m (x.drop (j + w)) false (out ++ [⟨tk.fKind, tk.fNum, tk.fText, bl, nextBl (x.drop (j + w))⟩]) (j + w)) := by
              intro af h
              rw [app_of (by simp; omega)]
              simp only [Option.bind_some]
              rw [h]
              exact ih m (j + w) false _ (by omega) (by omega) (by omega) (by simp; omega) (fun tk' hk => by
                simp only [List.length_append, List.length_cons, List.length_nil, Nat.zero_add, Nat.add_sub_cancel] at hk
                rw [List.getElem?_append_right (Nat.le_refl _)] at hk
                simp only [Nat.sub_self, List.getElem?_cons_zero, Option.some.injEq] at hk
                subst hk
                cases hnb : nextBl (x.drop (j + w))
                · exact .inr ⟨rfl, rfl⟩
                · exact .inl rfl)
            by_cases he : j + w = x.length
            · have hn2 : x.drop (j + w) = [] := List.drop_eq_nil_of_le (by omega)
              rw [if_pos (show (((j + w : Nat) : Int) == len x) = true by simp [len_eq, he])]
              exact go true (by rw [hn2]; rfl)
            · rw [if_neg (show ¬ (((j + w : Nat) : Int) == len x) = true by simp [len_eq]; omega), idx_nat, List.getElem?_eq_getElem (by omega)]
              simp only [Option.bind_some]
              exact go _ (by rw [List.drop_eq_getElem_cons (by omega)]; rfl)
    · exact fin j bl out n (by omega) hj ho hi
end
theorem s_ScanTokens_ok {x : List UInt8} (h : x.length ≤ 9223372036854775807) : s_ScanTokens x = some (scanT x) := by
 rw [s_ScanTokens_eq]
 unfold scanT
 by_cases hl : x.length ≤ 4000
 ·rw [if_neg (by simp [len_eq]; omega), s_l01Printable_ok h]
  simp only [Option.bind_some]
  cases hp : allPl x
  ·simp
  ·have := s_L4_ok hl x.length x.length 0 true [] (Nat.le_refl _) (by omega) (by omega) (by simp) (fun tk h => by simp at h)
   simp only [Int.natCast_zero, List.drop_zero] at this
   simp only [Bool.not_true, Bool.false_eq_true, if_false, hl, and_self, if_true, s_l02Scan_eq]
   rw [this]
   rfl
 ·rw [if_pos (by simp [len_eq]; omega), if_neg (by omega)]
end Go.Dv.U

namespace Go.Dv.U
open Go Go.Dv Go.Proofs
theorem dec_dig : ∀ u : Nat, (Lib.decDigits u).all (fun b => isDig (ib b)) = true ∧ numD (Lib.decDigits u) 0 = u ∧ Lib.decDigits u ≠ [] := by
 intro u
 induction u using Nat.strongRecOn with
 | _ u ih =>
  have hd : ∀ d : Nat, d < 10 → isDig (ib (UInt8.ofNat (48 + d))) = true ∧ (UInt8.ofNat (48 + d)).toNat - 48 = d := by
   intro d hd
   have h : (UInt8.ofNat (48 + d)).toNat = 48 + d := by simp; omega
   refine ⟨?_, by omega⟩
   simp only [isDig, ib_eq, h, Bool.and_eq_true, decide_eq_true_eq]; omega
  rw [Lib.decDigits]
  by_cases h : u < 10
  ·rw [dif_pos h]
   obtain ⟨h1, h2⟩ := hd u h
   refine ⟨by simp only [List.all_cons, List.all_nil, h1, Bool.and_true], ?_, by simp⟩
   simp only [numD, List.foldl_cons, List.foldl_nil]; omega
  ·rw [dif_neg h]
   obtain ⟨i1, i2, i3⟩ := ih (u / 10) (by omega)
   obtain ⟨h1, h2⟩ := hd (u % 10) (by omega)
   refine ⟨by rw [List.all_append, i1]; simp only [List.all_cons, List.all_nil, h1, Bool.and_true], ?_, by simp⟩
   unfold numD at i2 ⊢
   rw [List.foldl_append, i2]
   simp only [List.foldl_cons, List.foldl_nil]; omega
theorem dec_len {u : Nat} (h : u ≤ 1000000000000) : (Lib.decDigits u).length ≤ 13 := by
 rw [Lib.decDigits_length]
 exact nDigits_le 12 u (by omega)
theorem runOf_stop {p : Int → Bool} : ∀ (a r : List UInt8), a.all (fun b => p (ib b)) = true → (∀ b t, r = b :: t → p (ib b) = false) → runOf p (a ++ r) = a.length
 | [], r, _, h => by
  cases r with
  | nil => rfl
  | cons b t => exact runOf_zero (h b t rfl)
 | x :: a, r, ha, h => by
  rw [List.all_cons, Bool.and_eq_true] at ha
  rw [List.cons_append, runOf_succ ha.1, runOf_stop a r ha.2 h, List.length_cons]
theorem take_app {α : Type} (a r : List α) : (a ++ r).take a.length = a := by simp
theorem drop_app {α : Type} (a r : List α) : (a ++ r).drop a.length = r := by simp
def tText (t : TToken) : List UInt8 := if t.fKind = 1 ∨ t.fKind = 4 then t.fText else if t.fKind = 2 then Lib.decDigits t.fNum.toNat else if t.fKind = 3 then quote t.fText else if t.fKind = 5 then [40] else if t.fKind = 6 then [41] else if t.fKind = 7 then [60] else if t.fKind = 8 then [62] else if t.fKind = 9 then [44] else [58]
inductive Sc : Bool → List UInt8 → List TToken → Prop
 | nil (bl : Bool) : Sc bl [] []
 | bl (bl : Bool) {r : List UInt8} {L : List TToken} (h : Sc true r L) : Sc bl (32 :: r) L
 | tok (bl : Bool) {s : List UInt8} {k m : Int} {t : List UInt8} {w : Nat} {L : List TToken} (hb : ∀ b r, s = b :: r → ¬ ib b = 32) (ht : tokAt s = some (k, m, t, w)) (h : Sc false (s.drop w) L) : Sc bl s (⟨k, m, t, bl, nextBl (s.drop w)⟩ :: L)
theorem ib32 {b : UInt8} (h : ib b = 32) : b = 32 := ib_inj.1 (h.trans (by decide))
theorem scanL_sc : ∀ (n : Nat) (s : List UInt8) (bl : Bool) (out : List TToken) (at_ : Nat) (R : List TToken) (e : Int), s.length ≤ n → scanL n s bl out at_ = (R, e, 0) → ∃ L, Sc bl s L ∧ R = out ++ L
 | n, [], bl, out, at_, R, e, _, h => by
  have : scanL n [] bl out at_ = (out, 0, 0) := by cases n <;> rfl
  rw [this] at h
  cases h
  exact ⟨[], .nil bl, by simp⟩
 | 0, b :: r, bl, out, at_, R, e, hn, h => by simp at hn
 | n + 1, b :: r, bl, out, at_, R, e, hn, h => by
  rw [scanL] at h
  split at h
  ·rename_i hb
   obtain rfl := ib32 hb
   obtain ⟨L, h1, h2⟩ := scanL_sc n r true out (at_ + 1) R e (by simpa using hn) h
   exact ⟨L, .bl bl h1, h2⟩
  ·rename_i hb
   split at h
   ·cases h
   ·rename_i k m t w ht
    split at h
    ·cases h
    ·have hl := tokAt_len ht
     obtain ⟨L, h1, h2⟩ := scanL_sc n _ false _ _ R e (by rw [List.length_drop]; simp only [List.length_cons] at hn hl ⊢; omega) h
     exact ⟨_, .tok bl (fun b' r' e => by cases e; exact hb) ht h1, by rw [h2]; simp⟩
theorem sc_scanL {bl : Bool} {s : List UInt8} {L : List TToken} (h : Sc bl s L) : ∀ (n : Nat) (out : List TToken) (at_ : Nat), s.length ≤ n → out.length + L.length ≤ 120 → scanL n s bl out at_ = (out ++ L, 0, 0) := by
 induction h with
 | nil bl => intro n out at_ _ _; cases n <;> simp [scanL]
 | bl bl h ih =>
  intro n out at_ hn hl
  cases n with
  | zero => simp at hn
  | succ n =>
   have : ib 32 = 32 := by decide
   rw [scanL, if_pos this]
   exact ih n out (at_ + 1) (by simpa using hn) hl
 | @tok bl s k m t w L hb ht h ih =>
  intro n out at_ hn hl
  have hlen := tokAt_len ht
  cases s with
  | nil => cases ht
  | cons b r =>
   cases n with
   | zero => simp at hn
   | succ n =>
    simp only [List.length_cons] at hl hn hlen
    rw [scanL, if_neg (hb b r rfl), ht]
    simp only
    rw [if_neg (by omega), ih n _ _ (by rw [List.length_drop]; simp only [List.length_cons]; omega) (by simp; omega)]
    simp
def hdD (s : List UInt8) : Bool × Bool × Bool := match s with | [] => (false, false, true) | b :: _ => (isNmB (ib b), isDig (ib b), ib b == 32)
theorem qb_not {b : UInt8} (h : ib b = 39 ∨ ib b = 34) : isNmB (ib b) = false ∧ isDig (ib b) = false ∧ (ib b == 32) = false ∧ isLet (ib b) = false := by
 rcases h with h | h <;> rw [h] <;> decide
theorem hasB_mem {c : Int} {s : List UInt8} (h : hasB c s = false) : ∀ b ∈ s, ib b ≠ c := by
 intro b hb e
 have : hasB c s = true := List.any_eq_true.2 ⟨b, hb, by simpa using e⟩
 rw [h] at this; cases this
theorem tok_print {s : List UInt8} {k m : Int} {t : List UInt8} {w : Nat} (hp : allPl s = true) (ht : tokAt s = some (k, m, t, w)) (bf af : Bool) :
    (1 ≤ k ∧ k ≤ 10) ∧ ((k = 1 ∧ m = 0 ∧ isName t = true) ∨ (k = 2 ∧ t = [] ∧ 0 ≤ m ∧ m ≤ 1000000000000) ∨ (k = 3 ∧ m = 0 ∧ canQ t = true) ∨ (k = 4 ∧ m = 0 ∧ ∃ b, t = [b] ∧ isOpr (ib b) = true) ∨ (5 ≤ k ∧ m = 0 ∧ t = [])) ∧
    (tText ⟨k, m, t, bf, af⟩).length ≤ w ∧ hdD (tText ⟨k, m, t, bf, af⟩) = hdD s ∧ allPl (tText ⟨k, m, t, bf, af⟩) = true ∧
    ∀ r : List UInt8, (∀ b q, r = b :: q → isNmB (ib b) = true → ∃ b' q', s.drop w = b' :: q' ∧ isNmB (ib b') = true ∧ (isDig (ib b) = true → isDig (ib b') = true)) → tokAt (tText ⟨k, m, t, bf, af⟩ ++ r) = some (k, m, t, (tText ⟨k, m, t, bf, af⟩).length) := by
  cases s with
  | nil => cases ht
  | cons b r0 =>
    have hbp : isPl b = true := by simp only [allPl, List.all_cons, Bool.and_eq_true] at hp; exact hp.1
    have hrp : allPl r0 = true := by simp only [allPl, List.all_cons, Bool.and_eq_true] at hp; exact hp.2
    have tkp : ∀ (l : List UInt8) (n : Nat), allPl l = true → allPl (l.take n) = true := fun l n h => List.all_eq_true.2 fun x hx => List.all_eq_true.1 h x (List.mem_of_mem_take hx)
    rw [tokAt_cons] at ht
    split at ht
    · -- a name
      rename_i hl
      split at ht
      · rename_i hlen
        cases ht
        have hle := runOf_le isNmB (b :: r0)
        have hnb : isNmB (ib b) = true := by unfold isNmB; rw [hl]; rfl
        obtain ⟨n, hn⟩ : ∃ n, runOf isNmB (b :: r0) = n + 1 := ⟨runOf isNmB r0, runOf_succ hnb⟩
        have htk : (b :: r0).take (runOf isNmB (b :: r0)) = b :: r0.take n := by rw [hn]; rfl
        have hall := runOf_all isNmB (b :: r0)
        have htl : ((b :: r0).take (runOf isNmB (b :: r0))).length = runOf isNmB (b :: r0) := by rw [List.length_take]; omega
        have htx : tText ⟨1, 0, (b :: r0).take (runOf isNmB (b :: r0)), bf, af⟩ = (b :: r0).take (runOf isNmB (b :: r0)) := by simp [tText]
        rw [htx]
        refine ⟨by omega, .inl ⟨rfl, rfl, ?_⟩, by omega, by rw [htk]; rfl, tkp _ _ hp, fun r hr => ?_⟩
        · rw [htk] at hall htl ⊢
          unfold isName
          simp only [hl, Bool.true_and, Bool.and_eq_true, decide_eq_true_eq]
          simp only [List.all_cons, Bool.and_eq_true] at hall
          simp only [List.length_cons] at htl ⊢
          first
          | exact ⟨hall.2, by omega⟩
          | exact ⟨by omega, hall.2⟩
          | (simp [hall.1, hall.2]; omega)
        · have hrun : runOf isNmB ((b :: r0).take (runOf isNmB (b :: r0)) ++ r) = ((b :: r0).take (runOf isNmB (b :: r0))).length := runOf_stop _ _ hall fun b' q' e => by
            cases hb' : isNmB (ib b') with
            | false => rfl
            | true =>
              obtain ⟨b2, q2, e2, h2, _⟩ := hr b' q' e hb'
              have := drop_run (p := isNmB) (b :: r0) b2 q2 e2
              rw [h2] at this; cases this
          have e1 : (b :: r0).take (runOf isNmB (b :: r0)) ++ r = b :: (r0.take n ++ r) := by rw [htk]; rfl
          rw [e1] at hrun ⊢
          rw [tokAt_cons, if_pos hl, hrun, ← e1, take_app, if_pos (by omega)]
      · cases ht
    rename_i hl
    split at ht
    · -- a number
      rename_i hd
      split at ht
      · rename_i hc
        cases ht
        obtain ⟨hc1, hc2⟩ := hc
        have hle := runOf_le isDig (b :: r0)
        have h1 : 1 ≤ runOf isDig (b :: r0) := by rw [runOf_succ hd]; omega
        generalize hu : numD ((b :: r0).take (runOf isDig (b :: r0))) 0 = u at hc2
        have htl : ((b :: r0).take (runOf isDig (b :: r0))).length = runOf isDig (b :: r0) := by rw [List.length_take]; omega
        have hall := runOf_all isDig (b :: r0)
        have hub : u < 10 ^ runOf isDig (b :: r0) := by
          have := numD_lt ((b :: r0).take (runOf isDig (b :: r0))) 0 0 (by
            rw [List.all_eq_true] at hall ⊢
            intro x hx
            have := hall x hx
            simp only [isDig, ib_eq, Bool.and_eq_true, decide_eq_true_eq] at this
            simp only [digB, Bool.and_eq_true, decide_eq_true_eq]; omega) (by simp)
          rw [hu, htl] at this
          simpa using this
        obtain ⟨d1, d2, d3⟩ := dec_dig u
        have hdl : (Lib.decDigits u).length ≤ runOf isDig (b :: r0) := by
          obtain ⟨j, hj⟩ : ∃ j, runOf isDig (b :: r0) = j + 1 := ⟨runOf isDig (b :: r0) - 1, by omega⟩
          rw [Lib.decDigits_length, hj]
          exact nDigits_le j u (by rw [← hj]; exact hub)
        have htx : tText ⟨2, (u : Int), [], bf, af⟩ = Lib.decDigits u := by simp [tText]
        rw [htx]
        have dnm : ∀ c : UInt8, isDig (ib c) = true → isNmB (ib c) = true ∧ isLet (ib c) = false ∧ (ib c == 32) = false ∧ isPl c = true := by
          intro c hc
          simp only [isDig, Bool.and_eq_true, decide_eq_true_eq] at hc
          refine ⟨by simp only [isNmB, isDig, hc.1, hc.2, decide_true, Bool.and_true, Bool.or_true, Bool.true_or], ?_, ?_, ?_⟩
          · simp only [isLet, Bool.or_eq_false_iff, Bool.and_eq_false_iff, decide_eq_false_iff_not]; omega
          · rw [beq_eq_false_iff_ne]; omega
          · simp only [isPl, Bool.and_eq_true, decide_eq_true_eq]; omega
        refine ⟨by omega, .inr (.inl ⟨rfl, rfl, by omega, by omega⟩), hdl, ?_, ?_, fun r hr => ?_⟩
        · cases hdd : Lib.decDigits u with
          | nil => exact absurd hdd d3
          | cons c q =>
            rw [hdd, List.all_cons, Bool.and_eq_true] at d1
            obtain ⟨a1, _, a3, _⟩ := dnm c d1.1
            obtain ⟨b1, _, b3, _⟩ := dnm b hd
            simp only [hdD, a1, a3, b1, b3, hd, d1.1]
        · rw [List.all_eq_true] at d1
          exact List.all_eq_true.2 fun x hx => (dnm x (d1 x hx)).2.2.2
        · have hrun : runOf isDig (Lib.decDigits u ++ r) = (Lib.decDigits u).length := runOf_stop _ _ d1 fun b' q' e => by
            cases hb' : isDig (ib b') with
            | false => rfl
            | true =>
              obtain ⟨b2, q2, e2, _, h3⟩ := hr b' q' e (dnm b' hb').1
              have := drop_run (p := isDig) (b :: r0) b2 q2 e2
              rw [h3 hb'] at this; cases this
          cases hdd : Lib.decDigits u with
          | nil => exact absurd hdd d3
          | cons c q =>
            have hc := d1
            rw [hdd, List.all_cons, Bool.and_eq_true] at hc
            obtain ⟨_, a2, _, _⟩ := dnm c hc.1
            have e1 : c :: q ++ r = c :: (q ++ r) := rfl
            rw [hdd] at hrun
            rw [e1] at hrun ⊢
            rw [tokAt_cons, if_neg (by rw [a2]; simp), if_pos hc.1, hrun, ← e1, take_app, ← hdd, d2, if_pos ⟨by omega, hc2⟩]
      · cases ht
    rename_i hd
    split at ht
    · -- a string
      rename_i hq
      split at ht
      · rename_i hc
        cases ht
        obtain ⟨hc1, hc2⟩ := hc
        generalize hn : runOf (fun c => c != ib b) r0 = n at hc1 hc2
        have htl : (r0.take n).length = n := by rw [List.length_take]; omega
        have hno : hasB (ib b) (r0.take n) = false := by
          have := runOf_all (fun c => c != ib b) r0
          rw [hn] at this
          rw [← Bool.not_eq_true]
          intro h
          obtain ⟨x, hx, he⟩ := List.any_eq_true.1 h
          have := List.all_eq_true.1 this x hx
          simp only [bne_iff_ne, ne_eq] at this
          exact this (by simpa using he)
        have hcan : canQ (r0.take n) = true := by
          have hp2 := tkp r0 n hrp
          have hb2 : (hasB 39 (r0.take n) && hasB 34 (r0.take n)) = false := by
            rcases hq with h | h
            · rw [h] at hno; rw [hno]; rfl
            · rw [h] at hno; rw [hno, Bool.and_false]
          unfold canQ
          rw [hp2, hb2, htl]; simp; omega
        -- the quote that is printed
        obtain ⟨q, hqq, hqt, hqn⟩ : ∃ q : UInt8, (ib q = 39 ∨ ib q = 34) ∧ quote (r0.take n) = q :: r0.take n ++ [q] ∧ hasB (ib q) (r0.take n) = false := by
          unfold quote
          rw [if_pos hcan]
          by_cases h39 : hasB 39 (r0.take n) = true
          · rw [if_pos h39]
            refine ⟨34, .inr (by decide), rfl, ?_⟩
            rcases hq with h | h
            · rw [h, h39] at hno; cases hno
            · rw [h] at hno; exact hno
          · rw [if_neg h39]
            exact ⟨39, .inl (by decide), rfl, by rw [show ib 39 = 39 by decide]; simpa using h39⟩
        have htx : tText ⟨3, 0, r0.take n, bf, af⟩ = q :: r0.take n ++ [q] := by rw [← hqt]; simp [tText]
        rw [htx]
        obtain ⟨q1, q2, q3, q4⟩ := qb_not hqq
        obtain ⟨b1, b2, b3, b4⟩ := qb_not hq
        have hqp : isPl q = true := by rcases hqq with h | h <;> simp [isPl, h]
        refine ⟨by omega, .inr (.inr (.inl ⟨rfl, rfl, hcan⟩)), by simp; omega, ?_, ?_, fun r _ => ?_⟩
        · show hdD (q :: (r0.take n ++ [q])) = hdD (b :: r0)
          simp only [hdD, q1, q2, q3, b1, b2, b3]
        · have := tkp r0 n hrp
          simp only [allPl] at this ⊢
          simp [this, hqp]
        · have hrun : runOf (fun c => c != ib q) (r0.take n ++ q :: r) = (r0.take n).length := runOf_stop _ _ (by
              rw [List.all_eq_true]; intro x hx; simpa using hasB_mem hqn x hx) fun b' q' e => by cases e; simp
          have e1 : q :: r0.take n ++ [q] ++ r = q :: (r0.take n ++ q :: r) := by simp
          rw [e1, tokAt_cons, if_neg (by rw [q4]; simp), if_neg (by rw [q2]; simp), if_pos hqq, hrun, take_app, htl, if_pos ⟨by simp; omega, hc2⟩]
          simp [htl]
      · cases ht
    rename_i hq
    split at ht
    · -- an operator
      rename_i ho
      cases ht
      have htx : tText ⟨4, 0, [b], bf, af⟩ = [b] := by simp [tText]
      rw [htx]
      refine ⟨by omega, .inr (.inr (.inr (.inl ⟨rfl, rfl, b, rfl, ho⟩))), by simp, rfl, by simp [allPl, hbp], fun r _ => ?_⟩
      show tokAt (b :: r) = _
      rw [tokAt_cons, if_neg hl, if_neg hd, if_neg hq, if_pos ho]
      rfl
    rename_i ho
    split at ht
    · -- a mark
      rename_i hm
      cases ht
      have hk : (1 ≤ markOf (ib b) ∧ markOf (ib b) ≤ 10) ∧ 5 ≤ markOf (ib b) ∧ tText ⟨markOf (ib b), 0, [], bf, af⟩ = [b] := by
        have e : ∀ c : UInt8, ib b = ib c → b = c := fun c h => ib_inj.1 h
        unfold markOf at hm ⊢
        by_cases h1 : ib b = 40
        · obtain rfl := e 40 (h1.trans (by decide)); rw [if_pos h1]; exact ⟨by omega, by omega, rfl⟩
        rw [if_neg h1] at hm ⊢
        by_cases h2 : ib b = 41
        · obtain rfl := e 41 (h2.trans (by decide)); rw [if_pos h2]; exact ⟨by omega, by omega, rfl⟩
        rw [if_neg h2] at hm ⊢
        by_cases h3 : ib b = 60
        · obtain rfl := e 60 (h3.trans (by decide)); rw [if_pos h3]; exact ⟨by omega, by omega, rfl⟩
        rw [if_neg h3] at hm ⊢
        by_cases h4 : ib b = 62
        · obtain rfl := e 62 (h4.trans (by decide)); rw [if_pos h4]; exact ⟨by omega, by omega, rfl⟩
        rw [if_neg h4] at hm ⊢
        by_cases h5 : ib b = 44
        · obtain rfl := e 44 (h5.trans (by decide)); rw [if_pos h5]; exact ⟨by omega, by omega, rfl⟩
        rw [if_neg h5] at hm ⊢
        by_cases h6 : ib b = 58
        · obtain rfl := e 58 (h6.trans (by decide)); rw [if_pos h6]; exact ⟨by omega, by omega, rfl⟩
        rw [if_neg h6] at hm
        exact absurd rfl hm
      rw [hk.2.2]
      refine ⟨hk.1, .inr (.inr (.inr (.inr ⟨hk.2.1, rfl, rfl⟩))), by simp, rfl, by simp [allPl, hbp], fun r _ => ?_⟩
      show tokAt (b :: r) = _
      rw [tokAt_cons, if_neg hl, if_neg hd, if_neg hq, if_neg ho, if_pos hm]
      rfl
    · cases ht
def sepT (a : Bool) : List TToken → List UInt8
 | [] => []
 | u :: _ => if (u.fBefore || a) = true then [32] else []
def prT : List TToken → List UInt8
 | [] => []
 | t :: r => tText t ++ (sepT t.fAfter r ++ prT r)
theorem nextBl_hd : ∀ s, nextBl s = (hdD s).2.2
 | [] => rfl
 | _ :: _ => rfl
theorem hdD_app {a r : List UInt8} (h : a ≠ []) : hdD (a ++ r) = hdD a := by
 cases a with
 | nil => exact absurd rfl h
 | cons => rfl
def tOk (t : TToken) : Prop := (1 ≤ t.fKind ∧ t.fKind ≤ 10) ∧ ((t.fKind = 1 ∧ t.fNum = 0 ∧ isName t.fText = true) ∨ (t.fKind = 2 ∧ t.fText = [] ∧ 0 ≤ t.fNum ∧ t.fNum ≤ 1000000000000) ∨ (t.fKind = 3 ∧ t.fNum = 0 ∧ canQ t.fText = true) ∨ (t.fKind = 4 ∧ t.fNum = 0 ∧ ∃ b, t.fText = [b] ∧ isOpr (ib b) = true) ∨ (5 ≤ t.fKind ∧ t.fNum = 0 ∧ t.fText = []))
structure ScP (bl : Bool) (s : List UInt8) (L : List TToken) : Prop where
 sc : ∀ u r, L = u :: r → Sc u.fBefore (prT L) L
 len : (prT L).length ≤ s.length
 len1 : L ≠ [] → nextBl s = true → (prT L).length + 1 ≤ s.length
 pl : allPl (prT L) = true
 ok : ∀ t ∈ L, tOk t
 none : L = [] → nextBl s = true
 bf : ∀ u r, L = u :: r → u.fBefore = (bl || nextBl s)
 hd : L ≠ [] → nextBl s = false → hdD (prT L) = hdD s
theorem sc_pr {bl : Bool} {s : List UInt8} {L : List TToken} (h : Sc bl s L) : allPl s = true → ScP bl s L := by
 induction h with
 | nil bl => intro _; exact ⟨fun u r h => (by cases h), by simp [prT], fun h => absurd rfl h, rfl, fun t h => (by cases h), fun _ => rfl, fun u r h => (by cases h), fun h => absurd rfl h⟩
 | bl bl h ih =>
  intro hp
  have hp' := hp
  simp only [allPl, List.all_cons, Bool.and_eq_true] at hp'
  have ih := ih hp'.2
  have h32 : ∀ r, nextBl (32 :: r) = true := fun _ => (by decide : (ib 32 == 32) = true)
  refine ⟨ih.sc, by have := ih.len; simp only [List.length_cons]; omega, fun _ _ => by have := ih.len; simp only [List.length_cons]; omega, ih.pl, ih.ok, fun _ => h32 _, fun u r e => ?_, fun _ hf => ?_⟩
  ·rw [ih.bf u r e, h32]; simp
  ·rw [h32] at hf; cases hf
 | @tok bl s k m t w L hb ht h ih =>
  intro hp
  have hlen := tokAt_len ht
  have hps : allPl (s.drop w) = true := List.all_eq_true.2 fun x hx => List.all_eq_true.1 hp x (List.mem_of_mem_drop hx)
  have ih := ih hps
  obtain ⟨g1, g2, g3, g4, g5, g6⟩ := tok_print hp ht bl (nextBl (s.drop w))
  have hnb : nextBl s = false := by
   cases s with
   | nil => cases ht
   | cons b r => simpa [nextBl] using hb b r rfl
  have hne : tText ⟨k, m, t, bl, nextBl (s.drop w)⟩ ≠ [] := by
   intro e
   rw [e] at g4
   rw [nextBl_hd, ← g4] at hnb
   cases hnb
  -- the rest
  obtain ⟨rest, hrest⟩ : ∃ rest, rest = sepT (nextBl (s.drop w)) L ++ prT L := ⟨_, rfl⟩
  have hpr : prT (⟨k, m, t, bl, nextBl (s.drop w)⟩ :: L) = tText ⟨k, m, t, bl, nextBl (s.drop w)⟩ ++ rest := by rw [hrest]; rfl
  have hcase : (L = [] ∧ rest = [] ∧ nextBl (s.drop w) = true) ∨ (∃ u r, L = u :: r ∧ ((nextBl (s.drop w) = true ∧ rest = 32 :: prT L ∧ u.fBefore = true) ∨ (nextBl (s.drop w) = false ∧ rest = prT L ∧ u.fBefore = false))) := by
   cases hL : L with
   | nil => subst hL; exact .inl ⟨rfl, hrest, ih.none rfl⟩
   | cons u r =>
    right
    refine ⟨u, r, rfl, ?_⟩
    have hbf := ih.bf u r hL
    rw [hL] at hrest
    rw [Bool.false_or] at hbf
    cases hn : nextBl (s.drop w) with
    | true => rw [hn] at hbf; left; exact ⟨rfl, by rw [hrest]; simp only [sepT, hbf, Bool.true_or, if_true]; rfl, hbf⟩
    | false => rw [hn] at hbf; right; exact ⟨rfl, by rw [hrest]; simp only [sepT, hbf, hn, Bool.or_self, Bool.false_eq_true, if_false]; rfl, hbf⟩
  have hnext : nextBl rest = nextBl (s.drop w) := by
   rcases hcase with ⟨_, h2, h3⟩ | ⟨u, r, hL, ⟨h1, h2, _⟩ | ⟨h1, h2, _⟩⟩
   ·rw [h2, h3]; rfl
   ·rw [h2, h1]; exact (by decide : (ib 32 == 32) = true)
   ·rw [h2, nextBl_hd, ih.hd (by rw [hL]; simp) h1, ← nextBl_hd]
  have htk := g6 rest fun b q e hn => by
   rcases hcase with ⟨_, h2, _⟩ | ⟨u, r, hL, ⟨h1, h2, _⟩ | ⟨h1, h2, _⟩⟩
   ·rw [h2] at e; cases e
   ·rw [h2] at e; cases e; exact absurd hn (by decide)
   ·have hh := ih.hd (by rw [hL]; simp) h1
    rw [← h2, e] at hh
    cases hs : s.drop w with
    | nil => rw [hs] at h1; cases h1
    | cons b' q' =>
     rw [hs] at hh
     simp only [hdD, Prod.mk.injEq] at hh
     exact ⟨b', q', rfl, by rw [← hh.1]; exact hn, fun hd => by rw [← hh.2.1]; exact hd⟩
  have hsr : Sc false rest L := by
   rcases hcase with ⟨h1, h2, _⟩ | ⟨u, r, hL, ⟨h1, h2, h3⟩ | ⟨h1, h2, h3⟩⟩
   ·rw [h1, h2]; exact .nil false
   ·have := ih.sc u r hL; rw [h3] at this; rw [h2]; exact .bl false this
   ·have := ih.sc u r hL; rw [h3] at this; rw [h2]; exact this
  have hrl : rest.length ≤ (s.drop w).length := by
   rcases hcase with ⟨_, h2, _⟩ | ⟨u, r, hL, ⟨h1, h2, _⟩ | ⟨h1, h2, _⟩⟩
   ·rw [h2]; simp
   ·have := ih.len1 (by rw [hL]; simp) h1; rw [h2]; simpa using this
   ·have := ih.len; rw [h2]; exact this
  have hrp : allPl rest = true := by
   rcases hcase with ⟨_, h2, _⟩ | ⟨u, r, hL, ⟨h1, h2, _⟩ | ⟨h1, h2, _⟩⟩
   ·rw [h2]; rfl
   ·rw [h2]
    simp only [allPl, List.all_cons, Bool.and_eq_true]
    exact ⟨by decide, ih.pl⟩
   ·rw [h2]; exact ih.pl
  have hdr : (tText ⟨k, m, t, bl, nextBl (s.drop w)⟩ ++ rest).drop (tText ⟨k, m, t, bl, nextBl (s.drop w)⟩).length = rest := drop_app _ _
  have hsc : Sc bl (tText ⟨k, m, t, bl, nextBl (s.drop w)⟩ ++ rest) (⟨k, m, t, bl, nextBl (s.drop w)⟩ :: L) := by
   have := Sc.tok bl (s := tText ⟨k, m, t, bl, nextBl (s.drop w)⟩ ++ rest) (L := L) (fun b r e => by
    have hh : hdD (tText ⟨k, m, t, bl, nextBl (s.drop w)⟩ ++ rest) = hdD s := (hdD_app hne).trans g4
    rw [e] at hh
    have h2 := nextBl_hd s
    rw [hnb, ← hh] at h2
    simpa [hdD] using h2.symm) htk (by rw [hdr]; exact hsr)
   rw [hdr, hnext] at this
   exact this
  refine ⟨fun u r e => ?_, ?_, fun _ hn => ?_, ?_, fun t' ht' => ?_, fun e => (by cases e), fun u r e => ?_, fun _ _ => ?_⟩
  ·cases e; rw [hpr]; exact hsc
  ·rw [hpr, List.length_append]
   have := hrl
   rw [List.length_drop] at this
   omega
  ·rw [hnb] at hn; cases hn
  ·rw [hpr]
   simp only [allPl, List.all_append, Bool.and_eq_true] at g5 hrp ⊢
   exact ⟨g5, hrp⟩
  ·rcases List.mem_cons.1 ht' with e | e
   ·subst e; exact ⟨g1, g2⟩
   ·exact ih.ok t' e
  ·cases e; rw [hnb]; simp
  ·rw [hpr, hdD_app hne]; exact g4
theorem scanL_cnt : ∀ (n : Nat) (s : List UInt8) (bl : Bool) (out : List TToken) (at_ : Nat) (R : List TToken) (e : Int), out.length ≤ 120 → scanL n s bl out at_ = (R, e, 0) → R.length ≤ 120
 | n, [], bl, out, at_, R, e, ho, h => by
  have : scanL n [] bl out at_ = (out, 0, 0) := by cases n <;> rfl
  rw [this] at h
  cases h
  exact ho
 | 0, b :: r, bl, out, at_, R, e, ho, h => by
  rw [scanL] at h
  cases h
  exact ho
 | n + 1, b :: r, bl, out, at_, R, e, ho, h => by
  rw [scanL] at h
  split at h
  ·exact scanL_cnt n r true out _ R e ho h
  ·split at h
   ·cases h
   ·split at h
    ·cases h
    ·exact scanL_cnt n _ false _ _ R e (by simp; omega) h
theorem scan_print {x : List UInt8} {L : List TToken} {e : Int} (h : scanT x = (L, e, 0)) : scanT (prT L) = (L, 0, 0) ∧ (∀ t ∈ L, tOk t) ∧ L.length ≤ 120 ∧ (prT L).length ≤ 4000 := by
 unfold scanT at h
 split at h
 ·rename_i hx
  obtain ⟨L', h1, h2⟩ := scanL_sc _ _ _ _ _ _ _ (Nat.le_refl _) h
  have hc := scanL_cnt _ _ _ _ _ _ _ (by simp) h
  rw [List.nil_append] at h2
  subst h2
  have hp := sc_pr h1 hx.2
  have hl := hp.len
  refine ⟨?_, hp.ok, hc, by omega⟩
  unfold scanT
  rw [if_pos ⟨by omega, hp.pl⟩]
  cases hL : L with
  | nil => rfl
  | cons u r =>
   have hs := hp.sc u r hL
   rw [hp.bf u r hL] at hs
   simp only [Bool.true_or] at hs
   rw [← hL]
   have := sc_scanL hs (prT L).length [] 0 (Nat.le_refl _) (by simpa using hc)
   simpa using this
 ·cases h
end Go.Dv.U

namespace Go.Dv.U
open Go Go.Dv Go.Proofs
theorem valid_ok {t : TToken} (h : tOk t) : i_ValidToken t = some true := by
  obtain ⟨⟨k1, k2⟩, h⟩ := h
  rw [i_ValidToken_eq]
  simp only [i_IsName_ok, i_isNumber_eq, i_within_ok, i_CanQuote_ok, Option.bind_some]
  rcases h with ⟨a, b, c⟩ | ⟨a, b, c, d⟩ | ⟨a, b, c⟩ | ⟨a, b, x, c, d⟩ | ⟨a, b, c⟩
  · simp [a, b, c]
  · simp [a, b, c, d]
  · simp [a, b, c]
  · have hop : i_IsOperator t.fText = some true := by
      rw [i_IsOperator_eq, c]
      have e : (len [x] == (1 : Int)) = true := rfl
      rw [if_pos e, containsS_one (by decide) x]
      simp only [Option.bind_some, Option.some.injEq]
      have all : ∀ x : UInt8, isOpr (ib x) = true → hasB (ib x) [43, 45, 42, 47, 124, 46, 36, 64, 61] = true := all_bytes (by decide +kernel)
      exact all x d
    simp [a, b, hop]
  · have e1 : ¬ t.fKind = 1 := by omega
    have e2 : ¬ t.fKind = 2 := by omega
    have e3 : ¬ t.fKind = 3 := by omega
    have e4 : ¬ t.fKind = 4 := by omega
    simp [e1, e2, e3, e4, b, c, a, k2]
end Go.Dv.U

namespace Go.Dv.U
open Go Go.Dv Go.Proofs
mutual
def TExpr.n : TExpr → Nat
 | ⟨_, _, _, ks⟩ => 1 + TExpr.ns ks
def TExpr.ns : List TExpr → Nat
 | [] => 0
 | y :: r => TExpr.n y + TExpr.ns r
end
theorem TExpr.ns_eq : ∀ l, TExpr.ns l = sumOf TExpr.n l
 | [] => rfl
 | y :: r => by simp only [TExpr.ns, sumOf, TExpr.ns_eq r]
theorem TExpr.n_eq (x : TExpr) : x.n = 1 + sumOf TExpr.n x.fKids := by
 rw [← TExpr.ns_eq]; cases x; rfl
mutual
def TExpr.all (p : TExpr → Bool) : TExpr → Bool
 | ⟨a, b, c, ks⟩ => p ⟨a, b, c, ks⟩ && TExpr.alls p ks
def TExpr.alls (p : TExpr → Bool) : List TExpr → Bool
 | [] => true
 | y :: r => TExpr.all p y && TExpr.alls p r
end
theorem TExpr.alls_eq (p : TExpr → Bool) : ∀ l, TExpr.alls p l = l.all (TExpr.all p)
 | [] => rfl
 | y :: r => by simp only [TExpr.alls, List.all_cons, TExpr.alls_eq p r]
theorem TExpr.all_eq (p : TExpr → Bool) (x : TExpr) : x.all p = (p x && x.fKids.all (TExpr.all p)) := by
 rw [← TExpr.alls_eq]; cases x; rfl
def eNode (x : TExpr) : Bool :=
 if x.fKind = 1 then x.fKids.length == 0 && x.fNum == 0 && canQ x.fText
 else if x.fKind = 2 then x.fKids.length == 0 && x.fText == [] && (decide (0 ≤ x.fNum) && decide (x.fNum ≤ 1000000000000))
 else if x.fKind = 3 ∨ x.fKind = 16 ∨ x.fKind = 17 ∨ x.fKind = 18 then x.fKids.length == 0 && x.fNum == 0 && isName x.fText
 else if x.fKind = 4 then decide (x.fKids.length ≤ 6) && x.fNum == 0 && isName x.fText
 else x.fNum == 0 && x.fText == [] && (if x.fKind = 12 ∨ x.fKind = 13 then (match x.fKids with | [_, y] => y.fKind == 3 | _ => false)
  else if x.fKind = 14 ∨ x.fKind = 15 then x.fKids.length == 1
  else if 5 ≤ x.fKind ∧ x.fKind ≤ 11 then x.fKids.length == 2 else false)
def TExpr.good (x : TExpr) : Bool := x.all eNode
def TExpr.valid (x : TExpr) : Bool := x.good && decide (x.n ≤ 60)
theorem TExpr.good_eq (x : TExpr) : x.good = (eNode x && x.fKids.all TExpr.good) := TExpr.all_eq _ _
theorem i_isNumber_ok (n : Int) : i_isNumber n = some (decide (0 ≤ n) && decide (n ≤ 1000000000000)) := by
 rw [i_isNumber_eq, i_within_ok]; rfl
theorem i_isNamed_ok (k : Int) : i_isNamed k = some (decide (16 ≤ k) && decide (k ≤ 18)) := by
 rw [i_isNamed_eq, i_within_ok]; rfl
theorem i_isBinary_ok (k : Int) : i_isBinary k = some (decide (6 ≤ k) && decide (k ≤ 13)) := by
 rw [i_isBinary_eq, i_within_ok]; rfl
theorem ek_cases (k : Int) : (k = 1 ∨ k = 2 ∨ k = 3 ∨ k = 4 ∨ k = 5 ∨ k = 6 ∨ k = 7 ∨ k = 8 ∨ k = 9 ∨ k = 10 ∨ k = 11 ∨ k = 12 ∨ k = 13 ∨ k = 14 ∨ k = 15 ∨ k = 16 ∨ k = 17 ∨ k = 18) ∨ (∀ j : Int, 1 ≤ j → j ≤ 18 → ¬ k = j) := by
 by_cases h : 1 ≤ k ∧ k ≤ 18
 ·left; omega
 ·right; intro j h1 h2 e; omega
theorem i_Expr_hasFields_ok (x : TExpr) : i_Expr_hasFields x = some (eNode x) := by
  obtain ⟨k, n, t, ks⟩ := x
  rw [i_Expr_hasFields_eq]
  simp only [i_CanQuote_ok, i_isNumber_ok, i_isNamed_ok, i_isBinary_ok, i_IsName_ok, i_Expr_hasFields_L11_eq, i_Expr_hasFields_L12_eq, i_Expr_hasFields_L18_eq, i_Expr_hasFields_L19_eq, Option.bind_some, len_eq, idx_one, eNode]
  rcases ek_cases k with hk | hk
  · rcases hk with rfl | rfl | rfl | rfl | rfl | rfl | rfl | rfl | rfl | rfl | rfl | rfl | rfl | rfl | rfl | rfl | rfl | rfl <;> rcases ks with _ | ⟨a, _ | ⟨b, _ | ⟨c, r⟩⟩⟩ <;> simp <;> first | grind | (by_cases hn : n = 0 <;> by_cases hm : isName t = true <;> by_cases hr : r.length ≤ 3 <;> simp [hn, hm, hr] <;> omega)
  · have hr : (decide (16 ≤ k) && decide (k ≤ 18)) = false := by
      by_cases h1 : 16 ≤ k
      · have := hk 16 (by omega) (by omega); have := hk 17 (by omega) (by omega); have := hk 18 (by omega) (by omega)
        have h2 : ¬ k ≤ 18 := by omega
        simp [h2]
      · simp [h1]
    have hr2 : (decide (6 ≤ k) && decide (k ≤ 13)) = false := by
      by_cases h1 : 6 ≤ k
      · have h2 : ¬ k ≤ 13 := fun h2 => hk k (by omega) (by omega) rfl
        simp [h2]
      · simp [h1]
    have hr3 : ¬ (5 ≤ k ∧ k ≤ 11) := fun h => hk k (by omega) (by omega) rfl
    simp only [hk, hr, hr2, hr3, beq_iff_eq, Int.reduceLE, or_self, if_false, Bool.false_eq_true, not_false_eq_true, Bool.and_false, ite_self]
theorem s_l03Shape_ok (x : TExpr) : s_l03Shape x.fKind x.fNum x.fText x.fKids = some (eNode x) := by
 obtain ⟨k, n, t, ks⟩ := x
 rw [s_l03Shape_eq]
 simp only [s_CanQuote_ok, s_l00In_ok, s_IsName_ok, s_l03Shape_L13_eq, s_l03Shape_L14_eq, s_l03Shape_L26_eq, s_l03Shape_L27_eq, s_l03Shape_L31_eq, s_l03Shape_L32_eq, Option.bind_some, len_eq, idx_one, eNode]
 rcases ek_cases k with hk | hk
 ·rcases hk with rfl | rfl | rfl | rfl | rfl | rfl | rfl | rfl | rfl | rfl | rfl | rfl | rfl | rfl | rfl | rfl | rfl | rfl <;> rcases ks with _ | ⟨a, _ | ⟨b, _ | ⟨c, r⟩⟩⟩ <;> simp <;> first | grind | (by_cases hn : n = 0 <;> by_cases hm : isName t = true <;> by_cases hr : r.length ≤ 3 <;> simp [hn, hm, hr] <;> omega)
 ·have hr3 : ¬ (5 ≤ k ∧ k ≤ 11) := fun h => hk k (by omega) (by omega) rfl
  simp only [hk, hr3, beq_iff_eq, Int.reduceLE, or_self, if_false, Bool.false_eq_true, not_false_eq_true, Bool.and_false, ite_self]
theorem TExpr.n_le_m : ∀ x : TExpr, x.n ≤ x.m + 1 := by
 intro x
 induction x using TExpr.ind with
 | h x ih =>
  rw [x.n_eq, x.m_eq]
  have : ∀ l : List TExpr, (∀ y ∈ l, y.n ≤ y.m + 1) → sumOf TExpr.n l ≤ l.length + sumOf TExpr.m l := by
   intro l
   induction l with
   | nil => intro _; simp [sumOf]
   | cons y r ihr =>
    intro h
    have h1 := h y (by simp)
    have h2 := ihr fun z hz => h z (by simp [hz])
    simp only [sumOf, List.length_cons]; omega
  have := this x.fKids ih
  omega
theorem i_countNodes_ok : ∀ x : TExpr, x.m ≤ 1048576 → ∀ c : Int, 0 ≤ c → c ≤ 60 → i_countNodes x c = some (if x.good = true ∧ c + x.n ≤ 60 then c + x.n else 61) := by
 intro x
 induction x using TExpr.ind with
 | h x ih =>
  intro hm c h0 h1
  have hmq := x.m_eq
  have hn := x.n_eq
  have loop : ∀ c : Int, 0 ≤ c → c ≤ 60 → i_countNodes_L5 c x.fKids (len x.fKids) ((0 : Nat) : Int) = some (if x.fKids.all TExpr.good = true ∧ c + sumOf TExpr.n x.fKids ≤ 60 then c + sumOf TExpr.n x.fKids else 61) := by
   refine loop_ind (xs := x.fKids) (by omega) (P := fun i l => ∀ c : Int, 0 ≤ c → c ≤ 60 → i_countNodes_L5 c x.fKids (len x.fKids) i = some (if l.all TExpr.good = true ∧ c + sumOf TExpr.n l ≤ 60 then c + sumOf TExpr.n l else 61)) ?_ ?_
   ·intro c h0 h1
    rw [i_countNodes_L5_eq]
    simp [len_eq, sumOf, h1]
   ·intro i y l _ hlt hy hi hw ih2 c h0 h1
    rw [i_countNodes_L5_eq, hi, hw, if_pos (by simp [len_eq, hlt])]
    have hmy := TExpr.m_kid hy
    simp only [Option.bind_some, TExpr.re_eq, ih y hy (by omega) c h0 h1]
    have e : sumOf TExpr.n (y :: l) = y.n + sumOf TExpr.n l := rfl
    rw [e, List.all_cons]
    by_cases hc : y.good = true ∧ c + y.n ≤ 60
    ·rw [if_pos hc, if_neg (by simp; omega), ih2 _ (by omega) hc.2]
     congr 1
     by_cases hd : l.all TExpr.good = true ∧ c + y.n + sumOf TExpr.n l ≤ 60
     ·rw [if_pos hd, if_pos ⟨Bool.and_eq_true_iff.2 ⟨hc.1, hd.1⟩, by omega⟩]; omega
     ·rw [if_neg hd, if_neg fun h => hd ⟨(Bool.and_eq_true_iff.1 h.1).2, by omega⟩]
    ·rw [if_neg hc, if_pos (by simp), if_neg fun h => hc ⟨(Bool.and_eq_true_iff.1 h.1).1, by omega⟩]
  have hg := x.good_eq
  rw [i_countNodes_eq, w64_of (by omega) (by omega)]
  by_cases c1 : c + 1 > 60
  ·rw [if_pos (by simpa using c1), if_neg (by omega)]
  rw [if_neg (by simpa using c1), TExpr.re_eq, i_Expr_hasFields_ok]
  have := loop (c + 1) (by omega) (by omega)
  simp only [Int.natCast_zero] at this
  rw [this, hg]
  simp only [Option.bind_some]
  cases ha : eNode x
  ·simp
  ·simp only [Bool.not_true, Bool.false_eq_true, if_false, Bool.true_and]
   congr 1
   by_cases hd : x.fKids.all TExpr.good = true ∧ c + 1 + sumOf TExpr.n x.fKids ≤ 60
   ·rw [if_pos hd, if_pos ⟨hd.1, by omega⟩]; omega
   ·rw [if_neg hd, if_neg fun h => hd ⟨h.1, by omega⟩]
theorem i_ValidExpr_ok {x : TExpr} (hm : x.m ≤ 1048576) : i_ValidExpr x = some x.valid := by
 rw [i_ValidExpr_eq, TExpr.re_eq, i_countNodes_ok x hm 0 (by omega) (by omega)]
 simp only [Option.bind_some, TExpr.valid]
 congr 1
 by_cases h : x.good = true ∧ (0 : Int) + x.n ≤ 60
 ·rw [if_pos h, h.1]; simp; omega
 ·rw [if_neg h]
  cases hg : x.good
  ·simp
  ·simp only [hg, true_and] at h; simp; omega
theorem s_l03Size_ok : ∀ x : TExpr, x.m ≤ 1048576 → ∃ v : Int, s_l03Size x.fKind x.fNum x.fText x.fKids = some v ∧ 1 ≤ v ∧ v ≤ x.n ∧ (v ≤ 60 → v = x.n) := by
 intro x
 induction x using TExpr.ind with
 | h x ih =>
  intro hm
  have hmq := x.m_eq
  have hn := x.n_eq
  have hnm := x.n_le_m
  have loop : ∀ acc : Int, 1 ≤ acc → acc + sumOf TExpr.n x.fKids ≤ 1048577 → ∃ v : Int, s_l03Size_L3 x.fKind x.fNum x.fText x.fKids acc ((0 : Nat) : Int) = some v ∧ acc ≤ v ∧ v ≤ acc + sumOf TExpr.n x.fKids ∧ (v ≤ 60 → v = acc + sumOf TExpr.n x.fKids) := by
   refine loop_ind (xs := x.fKids) (by omega) (P := fun i l => ∀ acc : Int, 1 ≤ acc → acc + sumOf TExpr.n l ≤ 1048577 → ∃ v : Int, s_l03Size_L3 x.fKind x.fNum x.fText x.fKids acc i = some v ∧ acc ≤ v ∧ v ≤ acc + sumOf TExpr.n l ∧ (v ≤ 60 → v = acc + sumOf TExpr.n l)) ?_ ?_
   ·intro acc h1 h2
    refine ⟨acc, ?_, Int.le_refl _, by simp [sumOf], by simp [sumOf]⟩
    rw [s_l03Size_L3_eq]
    simp [len_eq]
   ·intro i y l _ hlt hy hi hw ih2 acc h1 h2
    have hmy := TExpr.m_kid hy
    have hyn := y.n_eq
    have e : sumOf TExpr.n (y :: l) = y.n + sumOf TExpr.n l := rfl
    rw [e] at h2 ⊢
    by_cases hc : acc ≤ 60
    ·obtain ⟨v, hv, v1, v2, v3⟩ := ih y hy (by omega)
     obtain ⟨u, hu, u1, u2, u3⟩ := ih2 (acc + v) (by omega) (by omega)
     refine ⟨u, ?_, by omega, by omega, by omega⟩
     rw [s_l03Size_L3_eq, hi, hw, if_pos (by simp [len_eq, hlt]), if_pos (by simpa using hc)]
     simp only [Option.bind_some, hv]
     rw [w64_of (by omega) (by omega)]
     exact hu
    ·refine ⟨acc, ?_, Int.le_refl _, by omega, by omega⟩
     rw [s_l03Size_L3_eq, if_pos (by simp [len_eq, hlt]), if_neg (by simpa using hc)]
  obtain ⟨v, hv, v1, v2, v3⟩ := loop 1 (Int.le_refl _) (by omega)
  refine ⟨v, ?_, v1, by omega, by omega⟩
  rw [s_l03Size_eq]
  exact hv
theorem s_l03Nodes_ok : ∀ x : TExpr, x.m ≤ 1048576 → s_l03Nodes x.fKind x.fNum x.fText x.fKids = some x.good := by
 intro x
 induction x using TExpr.ind with
 | h x ih =>
  intro hm
  have hmq := x.m_eq
  rw [s_l03Nodes_eq, s_l03Shape_ok, x.good_eq]
  have := all_loop (xs := x.fKids) (by omega) (F := fun y => s_l03Nodes y.fKind y.fNum y.fText y.fKids) (p := TExpr.good) (J := s_l03Nodes_L4 x.fKind x.fNum x.fText x.fKids) (fun i => by rw [s_l03Nodes_L4_eq]) (fun y hy => ih y hy (by have := TExpr.m_kid hy; omega))
  rw [this]
  simp only [Option.bind_some]
  cases eNode x <;> simp
theorem s_l03Ok_ok {x : TExpr} (hm : x.m ≤ 1048576) : s_l03Ok x.fKind x.fNum x.fText x.fKids = some x.valid := by
 rw [s_l03Ok_eq]
 obtain ⟨v, hv, v1, v2, v3⟩ := s_l03Size_ok x hm
 rw [hv, s_l03Nodes_ok x hm]
 simp only [Option.bind_some, TExpr.valid]
 by_cases h : v ≤ 60
 ·have := v3 h
  rw [if_pos (by simpa using h)]
  have h2 : x.n ≤ 60 := by omega
  simp [h2]
 ·rw [if_neg (by simpa using h)]
  have h2 : ¬ x.n ≤ 60 := by omega
  simp [h2]
def eLevel (k : Int) : Int := if k = 6 then 1 else if k = 7 then 2 else if k = 8 ∨ k = 9 then 3 else if k = 10 ∨ k = 11 then 4 else if k = 12 ∨ k = 13 then 5 else if 14 ≤ k ∧ k ≤ 18 then 6 else 7
def eSym (k : Int) : List UInt8 := if k = 6 then [124] else if k = 8 then [43] else if k = 9 then [45] else if k = 10 then [42] else if k = 11 then [47] else if k = 12 then [46] else if k = 13 then [36] else if k = 14 then [45] else if k = 15 then [36] else if k = 16 then [46] else if k = 17 then [42] else if k = 18 then [64] else []
theorem eLevel_rng (k : Int) : 1 ≤ eLevel k ∧ eLevel k ≤ 7 := by unfold eLevel; grind (splits := 60)
theorem eSym_len (k : Int) : (eSym k).length ≤ 1 := by unfold eSym; grind (splits := 60)
theorem i_level_ok (k : Int) : i_level k = some (eLevel k) := by
 rw [i_level_eq, i_level_L11_eq, i_level_L12_eq, i_level_L20_eq, i_level_L21_eq]; unfold eLevel; grind (splits := 60)
theorem i_symbol_ok {k : Int} (h0 : 0 ≤ k) (h1 : k ≤ 18) : i_symbol k = some (eSym k) := by
 rw [i_symbol_eq, idx_of h0]
 have : k = 0 ∨ k = 1 ∨ k = 2 ∨ k = 3 ∨ k = 4 ∨ k = 5 ∨ k = 6 ∨ k = 7 ∨ k = 8 ∨ k = 9 ∨ k = 10 ∨ k = 11 ∨ k = 12 ∨ k = 13 ∨ k = 14 ∨ k = 15 ∨ k = 16 ∨ k = 17 ∨ k = 18 := by omega
 rcases this with rfl | rfl | rfl | rfl | rfl | rfl | rfl | rfl | rfl | rfl | rfl | rfl | rfl | rfl | rfl | rfl | rfl | rfl | rfl <;> rfl
def opdT (l : Int) (p : Int × List UInt8) : List UInt8 := if p.1 < l then 40 :: (p.2 ++ [41]) else p.2
theorem opdT_len (l : Int) (p : Int × List UInt8) : (opdT l p).length ≤ p.2.length + 2 := by
 unfold opdT; split <;> simp
def eBody (k n : Int) (t : List UInt8) (ps : List (Int × List UInt8)) : List UInt8 :=
 if k = 1 then quote t else if k = 2 then Lib.itoa n else if k = 3 then t
 else if k = 4 then t ++ [40] ++ Lib.join (ps.map (·.2)) [44] ++ [41]
 else if k = 16 ∨ k = 17 ∨ k = 18 then eSym k ++ t
 else match ps with
  | [a] => eSym k ++ opdT 6 a
  | [a, b] => if k = 5 then opdT 7 a ++ [60] ++ b.2 ++ [62] else if k = 7 then opdT 2 a ++ [32] ++ opdT 3 b else opdT (eLevel k) a ++ [32] ++ eSym k ++ [32] ++ opdT (eLevel k + 1) b
  | _ => []
mutual
def TExpr.text : TExpr → List UInt8
 | ⟨k, n, t, ks⟩ => eBody k n t (TExpr.ptexts ks)
def TExpr.ptexts : List TExpr → List (Int × List UInt8)
 | [] => []
 | y :: r => (eLevel y.fKind, TExpr.text y) :: TExpr.ptexts r
end
theorem TExpr.ptexts_eq : ∀ l, TExpr.ptexts l = l.map fun y => (eLevel y.fKind, TExpr.text y)
 | [] => rfl
 | y :: r => by simp only [TExpr.ptexts, List.map_cons, TExpr.ptexts_eq r]
theorem TExpr.text_eq (x : TExpr) : x.text = eBody x.fKind x.fNum x.fText (x.fKids.map fun y => (eLevel y.fKind, TExpr.text y)) := by
 rw [← TExpr.ptexts_eq]; cases x; rfl
theorem isName_len {s : List UInt8} (h : isName s = true) : s.length ≤ 12 := by
 cases s with
 | nil => simp
 | cons b r =>
  simp only [isName, Bool.and_eq_true_iff, decide_eq_true_eq] at h
  exact h.1.1
theorem lens_sum (l : List TExpr) (C : Nat) (h : ∀ y ∈ l, y.text.length ≤ C * y.n) : Lib.lens (l.map TExpr.text) ≤ C * sumOf TExpr.n l := by
 induction l with
 | nil => simp [Lib.lens, sumOf]
 | cons y r ih =>
  have h1 := h y (by simp)
  have h2 := ih fun z hz => h z (by simp [hz])
  have : Lib.lens ((y :: r).map TExpr.text) = y.text.length + Lib.lens (r.map TExpr.text) := by simp [Lib.lens]
  rw [this]
  simp only [sumOf, Nat.mul_add]; omega
theorem join_len_le (xs : List (List UInt8)) : (Lib.join xs [44]).length ≤ xs.length + Lib.lens xs := by
 cases xs with
 | nil => simp [Lib.join_nil]
 | cons x r => rw [Lib.join_length]; simp
theorem eNode_cases {x : TExpr} (h : eNode x = true) : (x.fKind = 1 ∧ x.fKids = [] ∧ canQ x.fText = true) ∨ (x.fKind = 2 ∧ x.fKids = [] ∧ 0 ≤ x.fNum ∧ x.fNum ≤ 1000000000000) ∨
  ((x.fKind = 3 ∨ x.fKind = 16 ∨ x.fKind = 17 ∨ x.fKind = 18) ∧ x.fKids = [] ∧ isName x.fText = true) ∨ (x.fKind = 4 ∧ x.fKids.length ≤ 6 ∧ isName x.fText = true) ∨
  ((x.fKind = 14 ∨ x.fKind = 15) ∧ ∃ a, x.fKids = [a]) ∨ ((5 ≤ x.fKind ∧ x.fKind ≤ 13) ∧ ∃ a b, x.fKids = [a, b]) := by
 obtain ⟨k, n, t, ks⟩ := x
 unfold eNode at h
 rcases ks with _ | ⟨a, _ | ⟨b, _ | ⟨c, r⟩⟩⟩ <;> grind (splits := 60)
theorem TExpr.text_len : ∀ x : TExpr, x.good = true → x.text.length ≤ 250 * x.n := by
 intro x
 induction x using TExpr.ind with
 | h x ih =>
  intro hg
  have hn := x.n_eq
  rw [x.good_eq, Bool.and_eq_true_iff] at hg
  obtain ⟨hnode, hk⟩ := hg
  rw [List.all_eq_true] at hk
  have ih := fun y hy => ih y hy (hk y hy)
  rw [x.text_eq, hn]
  have hs := eSym_len x.fKind
  have l1 : ∀ l a, (opdT l a).length ≤ a.2.length + 2 := opdT_len
  rcases eNode_cases hnode with ⟨h1, h2, h3⟩ | ⟨h1, h2, h3, h4⟩ | ⟨h1, h2, h3⟩ | ⟨h1, h2, h3⟩ | ⟨h1, a, h2⟩ | ⟨h1, a, b, h2⟩
  ·have := quote_len x.fText
   simp only [eBody, h1, if_true]; omega
  ·have := itoa_len h3 h4
   simp only [eBody, h1, if_true]; simp; omega
  ·have := isName_len h3
   unfold eBody
   rcases h1 with h1 | h1 | h1 | h1 <;> rw [h1] at hs ⊢ <;> simp <;> omega
  ·have := isName_len h3
   have hj := join_len_le (x.fKids.map TExpr.text)
   have hl := lens_sum x.fKids 250 ih
   rw [List.length_map] at hj
   have e : ((x.fKids.map fun y => (eLevel y.fKind, TExpr.text y)).map (·.2)) = x.fKids.map TExpr.text := by rw [List.map_map]; rfl
   simp only [eBody, h1, e]
   simp only [List.length_append, List.length_cons, List.length_nil, show ¬ ((4 : Int) = 1) by decide, show ¬ ((4 : Int) = 2) by decide, show ¬ ((4 : Int) = 3) by decide, if_false, if_true]
   omega
  ·have ha := ih a (by simp [h2])
   have hl := l1 6 (eLevel a.fKind, a.text)
   rw [h2]
   simp only [List.map_cons, List.map_nil, sumOf]
   unfold eBody
   rcases h1 with h1 | h1 <;> rw [h1] at hs ⊢ <;> simp <;> simp at hl <;> omega
  ·have ha := ih a (by simp [h2])
   have hb := ih b (by simp [h2])
   have p1 := fun l => l1 l (eLevel a.fKind, a.text)
   have p2 := fun l => l1 l (eLevel b.fKind, b.text)
   have q1 := p1 7
   have q2 := p1 2
   have q3 := p2 3
   have q4 := p1 (eLevel x.fKind)
   have q5 := p2 (eLevel x.fKind + 1)
   rw [h2]
   simp only [List.map_cons, List.map_nil, sumOf]
   unfold eBody
   rw [if_neg (by omega), if_neg (by omega), if_neg (by omega), if_neg (by omega), if_neg (by omega)]
   simp only at q1 q2 q3 q4 q5 ⊢
   split
   ·simp only [List.length_append, List.length_cons, List.length_nil]; omega
   ·split
    ·simp only [List.length_append, List.length_cons, List.length_nil]; omega
    ·simp only [List.length_append, List.length_cons, List.length_nil]; omega
theorem i_operand_of {y : TExpr} (l : Int) (h : i_Expr_text y = some y.text) (hl : y.text.length ≤ 1000000000) : i_operand y l = some (opdT l (eLevel y.fKind, y.text)) := by
 rw [i_operand_eq, i_level_ok, TExpr.re_eq, h]
 simp only [Option.bind_some, opdT]
 rw [app_of (by simp; omega)]
 simp only [Option.bind_some]
 rw [app_of (by simp; omega)]
 by_cases hc : eLevel y.fKind < l
 ·rw [if_pos (by simpa using hc), if_pos hc]; simp
 ·rw [if_neg (by simpa using hc), if_neg hc]
theorem i_Expr_text_ok : ∀ x : TExpr, x.good = true → x.n ≤ 1000000 → i_Expr_text x = some x.text := by
 intro x
 induction x using TExpr.ind with
 | h x ih =>
  intro hg hn60
  have hlen := x.text_len hg
  have hn := x.n_eq
  have hg' := hg
  rw [x.good_eq, Bool.and_eq_true_iff] at hg
  obtain ⟨hnode, hk⟩ := hg
  rw [List.all_eq_true] at hk
  have kid : ∀ y ∈ x.fKids, i_Expr_text y = some y.text ∧ y.text.length ≤ 250000000 := fun y hy => by
   have h1 := sumOf_mem (m := TExpr.n) hy
   have h2 := y.text_len (hk y hy)
   exact ⟨ih y hy (hk y hy) (by omega), by omega⟩
  rw [i_Expr_text_eq, i_level_ok]
  simp only [Option.bind_some, i_isNamed_ok]
  have hs := eSym_len x.fKind
  rw [x.text_eq]
  rcases eNode_cases hnode with ⟨h1, h2, h3⟩ | ⟨h1, h2, h3, h4⟩ | ⟨h1, h2, h3⟩ | ⟨h1, h2, h3⟩ | ⟨h1, a, h2⟩ | ⟨h1, a, b, h2⟩
  ·simp [h1, eBody, i_QuoteString_ok]
  ·simp [h1, eBody, i_decimal_ok (show -9223372036854775808 ≤ x.fNum by omega) (show x.fNum ≤ 9223372036854775807 by omega)]
  ·have := isName_len h3
   rcases h1 with h1 | h1 | h1 | h1
   ·simp [h1, eBody]
   all_goals
    rw [h1] at hs ⊢
    simp [eBody, i_symbol_ok]
    rw [app_of (by omega)]
  ·have hnl := isName_len h3
   have fin : ∀ acc : List (List UInt8), acc.length ≤ 6 → Lib.lens acc ≤ 250000000 → i_Expr_text_L11 x.fKids (len x.fKids) (len x.fKids) x.fKind x.fNum x.fText x.fKids acc = some (x.fText ++ [40] ++ Lib.join acc [44] ++ [41]) := by
    intro acc h1 h2
    have hj := join_len_le acc
    rw [i_Expr_text_L11_eq, if_neg (by simp)]
    rw [app_of (by simp; omega)]
    unfold joinS
    rw [if_pos (by unfold big; omega)]
    simp only [Option.bind_some]
    rw [app_of (by simp; omega)]
    simp only [Option.bind_some]
    rw [app_of (by simp; omega)]
    rfl
   have loop : ∀ acc : List (List UInt8), acc.length + x.fKids.length ≤ 6 → Lib.lens acc + Lib.lens (x.fKids.map TExpr.text) ≤ 250000000 → i_Expr_text_L11 x.fKids (len x.fKids) ((0 : Nat) : Int) x.fKind x.fNum x.fText x.fKids acc = some (x.fText ++ [40] ++ Lib.join (acc ++ x.fKids.map TExpr.text) [44] ++ [41]) := by
    refine loop_ind (xs := x.fKids) (by omega) (P := fun i l => ∀ acc : List (List UInt8), acc.length + l.length ≤ 6 → Lib.lens acc + Lib.lens (l.map TExpr.text) ≤ 250000000 → i_Expr_text_L11 x.fKids (len x.fKids) i x.fKind x.fNum x.fText x.fKids acc = some (x.fText ++ [40] ++ Lib.join (acc ++ l.map TExpr.text) [44] ++ [41])) ?_ ?_
    ·intro acc h1 h2
     have := fin acc (by simpa using h1) (by omega)
     rw [len_eq] at this ⊢
     simpa using this
    ·intro i y l _ hlt hy hi hw ih2 acc h1 h2
     rw [i_Expr_text_L11_eq, hi, hw, if_pos (by simp [len_eq, hlt])]
     simp only [Option.bind_some, TExpr.re_eq, (kid y hy).1]
     simp only [List.length_cons] at h1
     rw [app_of (by simp; omega)]
     simp only [Option.bind_some]
     have e1 : Lib.lens (acc ++ [y.text]) = Lib.lens acc + y.text.length := by simp [Lib.lens]
     have e2 : Lib.lens ((y :: l).map TExpr.text) = y.text.length + Lib.lens (l.map TExpr.text) := by simp [Lib.lens]
     rw [e2] at h2
     rw [ih2 (acc ++ [y.text]) (by simp; omega) (by rw [e1]; omega)]
     simp
   have hl := lens_sum x.fKids 250 (fun y hy => y.text_len (hk y hy))
   have := loop [] (by simpa using h2) (by simp [Lib.lens] at hl ⊢; omega)
   have e : ((x.fKids.map fun y => (eLevel y.fKind, TExpr.text y)).map (·.2)) = x.fKids.map TExpr.text := by rw [List.map_map]; rfl
   simp only [Int.natCast_zero, List.nil_append] at this
   rw [h1] at this ⊢
   simp only [eBody, e]
   simpa using this
  ·obtain ⟨ka, la⟩ := kid a (by simp [h2])
   have hl := opdT_len 6 (eLevel a.fKind, a.text)
   simp only at hl
   rw [h2]
   simp only [idx_zero, List.getElem?_cons_zero, Option.bind_some, TExpr.re_eq]
   rw [i_operand_of 6 ka (by omega)]
   rcases h1 with h1 | h1
   all_goals
    rw [h1] at hs ⊢
    simp [eBody, i_symbol_ok, show eLevel 14 = 6 by decide, show eLevel 15 = 6 by decide]
    rw [app_of (by omega)]
  ·obtain ⟨ka, la⟩ := kid a (by simp [h2])
   obtain ⟨kb, lb⟩ := kid b (by simp [h2])
   have p1 := fun l => opdT_len l (eLevel a.fKind, a.text)
   have p2 := fun l => opdT_len l (eLevel b.fKind, b.text)
   simp only at p1 p2
   have hr := eLevel_rng x.fKind
   rw [h2]
   simp only [idx_zero, idx_one, List.getElem?_cons_zero, List.getElem?_cons_succ, Option.bind_some, TExpr.re_eq]
   rw [w64_of (by omega) (by omega)]
   simp only [fun l => i_operand_of l ka (by omega), fun l => i_operand_of l kb (by omega), kb, Option.bind_some]
   have q1 := p1 7
   have q2 := p1 2
   have q3 := p2 3
   have q4 := p1 (eLevel x.fKind)
   have q5 := p2 (eLevel x.fKind + 1)
   have hsy := i_symbol_ok (k := x.fKind) (by omega) (by omega)
   have n1 : ¬ x.fKind = 1 := by omega
   have n2 : ¬ x.fKind = 2 := by omega
   have n3 : ¬ x.fKind = 3 := by omega
   have n4 : ¬ x.fKind = 4 := by omega
   have n5 : ¬ (x.fKind = 16 ∨ x.fKind = 17 ∨ x.fKind = 18) := by omega
   have n6 : (decide (16 ≤ x.fKind) && decide (x.fKind ≤ 18)) = false := by simp; omega
   simp only [List.map_cons, List.map_nil, eBody, n1, n2, n3, n4, n5, n6, if_false, beq_iff_eq, hsy, Option.bind_some, Bool.false_eq_true]
   by_cases c5 : x.fKind = 5
   ·rw [if_pos c5, if_pos c5]
    rw [app_of (by simp; omega)]
    simp only [Option.bind_some]
    rw [app_of (by simp; omega)]
    simp only [Option.bind_some]
    rw [app_of (by simp; omega)]
    rfl
   ·have l6 : ¬ eLevel x.fKind = 6 := by unfold eLevel; grind (splits := 60)
    rw [if_neg c5, if_neg c5, if_neg l6]
    by_cases c7 : x.fKind = 7
    ·have l7 : eLevel x.fKind = 2 := by unfold eLevel; simp [c7]
     rw [if_pos c7, if_pos c7]
     rw [l7] at q4 q5 ⊢
     rw [app_of (by simp; omega)]
     simp only [Option.bind_some]
     rw [app_of (by simp; omega)]
     rfl
    ·rw [if_neg c7, if_neg c7]
     rw [app_of (by simp; omega)]
     simp only [Option.bind_some]
     rw [app_of (by simp; omega)]
     simp only [Option.bind_some]
     rw [app_of (by simp; omega)]
     simp only [Option.bind_some]
     rw [app_of (by simp; omega)]
     rfl
theorem i_PrintExpr_ok {x : TExpr} (hm : x.m ≤ 1048576) : i_PrintExpr x = some (if x.valid = true then x.text else []) := by
 rw [i_PrintExpr_eq, TExpr.re_eq, i_ValidExpr_ok hm]
 simp only [Option.bind_some]
 cases h : x.valid
 ·rfl
 ·unfold TExpr.valid at h
  rw [Bool.and_eq_true_iff, decide_eq_true_eq] at h
  rw [i_Expr_text_ok x h.1 (by omega)]
  rfl
end Go.Dv.U

namespace Go.Dv.U
open Go Go.Dv Go.Proofs
def isInf (t : TToken) : Bool := t.fKind == 4 && t.fBefore && t.fAfter
def isPre (s : List UInt8) : Bool := s == [45] || s == [42] || s == [36] || s == [46] || s == [64]
def bOpd (t : TToken) : Bool := t.fBefore && (t.fKind == 1 || t.fKind == 2 || t.fKind == 3 || t.fKind == 5 || (t.fKind == 4 && !t.fAfter && isPre t.fText))
def opK (n : Nat) (s : List UInt8) : Int := if n = 1 ∧ s = [124] then 6 else if n = 3 ∧ s = [43] then 8 else if n = 3 ∧ s = [45] then 9 else if n = 4 ∧ s = [42] then 10 else if n = 4 ∧ s = [47] then 11 else if n = 5 ∧ s = [46] then 12 else if n = 5 ∧ s = [36] then 13 else 0
def inf (n : Nat) : List TToken → Option (Int × List TToken)
 | [] => none
 | t :: r => if n = 2 then (if bOpd t = true then some (7, t :: r) else none) else if isInf t = true ∧ opK n t.fText ≠ 0 then some (opK n t.fText, r) else none
inductive Md | ex (n : Nat) | lp (n : Nat) (l : TExpr) | el | pr | ix (e : TExpr) | ar (acc : List TExpr)
def expect (k : Int) : List TToken → Option (List TToken)
 | [] => none
 | t :: r => if t.fKind = k then some r else none
def nameOf : List TToken → Option (List UInt8 × List TToken)
 | [] => none
 | t :: r => if t.fKind = 1 then some (t.fText, r) else none
def preK (s : List UInt8) : Int := if s = [46] then 16 else if s = [42] then 17 else 18
def pP : Nat → Md → List TToken → Option (TExpr × List TToken)
  | 0, _, _ => none
  | f + 1, .ex n, ts => if 6 ≤ n then pP f .el ts else (pP f (.ex (n + 1)) ts).bind fun p => pP f (.lp n p.1) p.2
  | f + 1, .lp n l, ts => match inf n ts with
    | none => some (l, ts)
    | some (k, r) => if n = 5 then (nameOf r).bind fun p => pP f (.lp n ⟨k, 0, [], [l, ⟨3, 0, p.1, []⟩]⟩) p.2
      else (pP f (.ex (n + 1)) r).bind fun p => pP f (.lp n ⟨k, 0, [], [l, p.1]⟩) p.2
  | _ + 1, .el, [] => none
  | f + 1, .el, t :: r => if t.fKind = 4 then (if t.fAfter = true then none else if t.fText = [45] then (pP f .el r).map fun p => (⟨14, 0, [], [p.1]⟩, p.2) else if t.fText = [36] then (pP f .el r).map fun p => (⟨15, 0, [], [p.1]⟩, p.2)
      else if isPre t.fText = true then (nameOf r).map fun p => (⟨preK t.fText, 0, p.1, []⟩, p.2) else none)
    else (pP f .pr (t :: r)).bind fun p => pP f (.ix p.1) p.2
  | _ + 1, .ix e, [] => some (e, [])
  | f + 1, .ix e, t :: r => if t.fKind = 7 ∧ t.fBefore = false then (pP f (.ex 1) r).bind fun p => (expect 8 p.2).bind fun r2 => pP f (.ix ⟨5, 0, [], [e, p.1]⟩) r2 else some (e, t :: r)
  | _ + 1, .pr, [] => none
  | f + 1, .pr, t :: r => if t.fKind = 3 then some (⟨1, 0, t.fText, []⟩, r) else if t.fKind = 2 then some (⟨2, t.fNum, [], []⟩, r)
    else if t.fKind = 1 then (match t.fAfter, expect 5 r with
      | false, some r2 => match expect 6 r2 with
        | some r3 => some (⟨4, 0, t.fText, []⟩, r3)
        | none => (pP f (.ar []) r2).map fun p => (⟨4, 0, t.fText, p.1.fKids⟩, p.2)
      | _, _ => some (⟨3, 0, t.fText, []⟩, r))
    else if t.fKind = 5 then (pP f (.ex 1) r).bind fun p => (expect 6 p.2).map fun r2 => (p.1, r2)
    else none
  | f + 1, .ar acc, ts => (pP f (.ex 1) ts).bind fun p => match expect 9 p.2 with
    | some r => pP f (.ar (acc ++ [p.1])) r
    | none => (expect 6 p.2).map fun r => (⟨0, 0, [], acc ++ [p.1]⟩, r)
def PR (md : Md) (ts : List TToken) (res : TExpr × List TToken) : Prop := ∃ f, ∀ g, f ≤ g → pP g md ts = some res
theorem PR.mk1 {md : Md} {ts : List TToken} {res : TExpr × List TToken} (h : ∀ f, pP (f + 1) md ts = some res) : PR md ts res :=
 ⟨1, fun g hg => by obtain ⟨f, rfl⟩ : ∃ f, g = f + 1 := ⟨g - 1, by omega⟩; exact h f⟩
theorem PR.mk2 {md m1 : Md} {ts t1 : List TToken} {res p : TExpr × List TToken} (h1 : PR m1 t1 p) (h : ∀ f, pP f m1 t1 = some p → pP (f + 1) md ts = some res) : PR md ts res := by
 obtain ⟨f1, h1⟩ := h1
 exact ⟨f1 + 1, fun g hg => by obtain ⟨f, rfl⟩ : ∃ f, g = f + 1 := ⟨g - 1, by omega⟩; exact h f (h1 f (by omega))⟩
theorem PR.mk3 {md m1 m2 : Md} {ts t1 t2 : List TToken} {res p q : TExpr × List TToken} (h1 : PR m1 t1 p) (h2 : PR m2 t2 q) (h : ∀ f, pP f m1 t1 = some p → pP f m2 t2 = some q → pP (f + 1) md ts = some res) : PR md ts res := by
 obtain ⟨f1, h1⟩ := h1
 obtain ⟨f2, h2⟩ := h2
 exact ⟨f1 + f2 + 1, fun g hg => by obtain ⟨f, rfl⟩ : ∃ f, g = f + 1 := ⟨g - 1, by omega⟩; exact h f (h1 f (by omega)) (h2 f (by omega))⟩
theorem PR.ex6 {ts : List TToken} {res : TExpr × List TToken} (h : PR .el ts res) : PR (.ex 6) ts res := PR.mk2 h fun f e => by rw [pP, if_pos (by decide), e]
theorem PR.exn {n : Nat} (hn : n ≤ 5) {ts r : List TToken} {l : TExpr} {res : TExpr × List TToken} (h1 : PR (.ex (n + 1)) ts (l, r)) (h2 : PR (.lp n l) r res) : PR (.ex n) ts res :=
 PR.mk3 h1 h2 fun f e1 e2 => by rw [pP, if_neg (by omega), e1]; exact e2
theorem PR.stop {n : Nat} {ts : List TToken} {l : TExpr} (h : inf n ts = none) : PR (.lp n l) ts (l, ts) := PR.mk1 fun f => by rw [pP, h]
theorem PR.go {n : Nat} (hn : n ≠ 5) {k : Int} {ts r r2 : List TToken} {l y : TExpr} {res : TExpr × List TToken} (h : inf n ts = some (k, r)) (h1 : PR (.ex (n + 1)) r (y, r2)) (h2 : PR (.lp n ⟨k, 0, [], [l, y]⟩) r2 res) : PR (.lp n l) ts res :=
 PR.mk3 h1 h2 fun f e1 e2 => by rw [pP, h]; simp only; rw [if_neg hn, e1]; exact e2
theorem PR.go5 {k : Int} {ts r r2 : List TToken} {l : TExpr} {nm : List UInt8} {res : TExpr × List TToken} (h : inf 5 ts = some (k, r)) (h1 : nameOf r = some (nm, r2)) (h2 : PR (.lp 5 ⟨k, 0, [], [l, ⟨3, 0, nm, []⟩]⟩) r2 res) : PR (.lp 5 l) ts res :=
 PR.mk2 h2 fun f e => by rw [pP, h]; simp only; rw [if_pos trivial, h1]; exact e
theorem PR.el {t : TToken} {r r2 : List TToken} {y : TExpr} {res : TExpr × List TToken} (hk : t.fKind ≠ 4) (h1 : PR .pr (t :: r) (y, r2)) (h2 : PR (.ix y) r2 res) : PR .el (t :: r) res :=
 PR.mk3 h1 h2 fun f e1 e2 => by rw [pP, if_neg hk, e1]; exact e2
def stopI (ts : List TToken) : Prop := ∀ t r, ts = t :: r → ¬ (t.fKind = 7 ∧ t.fBefore = false)
theorem PR.ixStop {ts : List TToken} {e : TExpr} (h : stopI ts) : PR (.ix e) ts (e, ts) := PR.mk1 fun f => by
 cases ts with
 | nil => rfl
 | cons t r => rw [pP, if_neg (h t r rfl)]
theorem PR.down {ts r : List TToken} {x : TExpr} {n : Nat} (hs : ∀ j, n ≤ j → j ≤ 5 → inf j r = none) : ∀ m, n ≤ m → m ≤ 6 → PR (.ex m) ts (x, r) → PR (.ex n) ts (x, r) := by
  intro m
  induction m with
  | zero => intro h _ h1; have e : n = 0 := by omega
            rw [e]; exact h1
  | succ m ih =>
    intro h h6 h1
    by_cases e : n = m + 1
    · subst e; exact h1
    · exact ih (by omega) (by omega) (PR.exn (by omega) h1 (PR.stop (hs m (by omega) (by omega))))
theorem sc_step {bl : Bool} {s : List UInt8} {L : List TToken} {k m : Int} {t : List UInt8} {w : Nat} (hb : ∀ b r, s = b :: r → ¬ ib b = 32) (ht : tokAt s = some (k, m, t, w)) (h : Sc bl s L) :
  ∃ L', L = ⟨k, m, t, bl, nextBl (s.drop w)⟩ :: L' ∧ Sc false (s.drop w) L' := by
 cases h with
 | nil => cases ht
 | bl _ h => exact absurd (by decide) (hb 32 _ rfl)
 | tok _ hb' ht' h =>
  rw [ht] at ht'
  cases ht'
  exact ⟨_, rfl, h⟩
theorem sc_blank {bl : Bool} {r : List UInt8} {L : List TToken} (h : Sc bl (32 :: r) L) : Sc true r L := by
 cases h with
 | bl _ h => exact h
 | tok _ hb' ht' h => exact absurd (by decide) (hb' 32 r rfl)
theorem let_facts {b : UInt8} (h : isLet (ib b) = true) : ¬ ib b = 32 ∧ isNmB (ib b) = true := by
 refine ⟨?_, by unfold isNmB; rw [h]; rfl⟩
 intro e; rw [e] at h; revert h; decide
theorem sc_name {bl : Bool} {t r : List UInt8} {L : List TToken} (hn : isName t = true) (hr : ∀ b q, r = b :: q → isNmB (ib b) = false) (h : Sc bl (t ++ r) L) :
  ∃ L', L = ⟨1, 0, t, bl, nextBl r⟩ :: L' ∧ Sc false r L' := by
 cases t with
 | nil => simp [isName] at hn
 | cons b q =>
  simp only [isName, Bool.and_eq_true, decide_eq_true_eq] at hn
  obtain ⟨⟨hlen, hlet⟩, hall⟩ := hn
  have hf := let_facts hlet
  have hrun : runOf isNmB (b :: q ++ r) = (b :: q).length := runOf_stop _ _ hall hr
  have ht : tokAt (b :: q ++ r) = some (1, 0, b :: q, (b :: q).length) := by
   show tokAt (b :: (q ++ r)) = _
   rw [tokAt_cons, if_pos hlet]
   rw [show runOf isNmB (b :: (q ++ r)) = (b :: q).length from hrun, if_pos hlen]
   rw [show b :: (q ++ r) = (b :: q) ++ r from rfl, take_app]
  obtain ⟨L', e, h2⟩ := sc_step (fun b' r' e => by cases e; exact hf.1) ht h
  rw [drop_app] at e h2
  exact ⟨L', e, h2⟩
theorem sc_num {bl : Bool} {n : Int} {r : List UInt8} {L : List TToken} (h0 : 0 ≤ n) (h1 : n ≤ 1000000000000) (hr : ∀ b q, r = b :: q → isDig (ib b) = false) (h : Sc bl (Lib.itoa n ++ r) L) :
  ∃ L', L = ⟨2, n, [], bl, nextBl r⟩ :: L' ∧ Sc false r L' := by
 obtain ⟨u, rfl⟩ : ∃ u : Nat, n = u := ⟨n.toNat, by omega⟩
 rw [itoa_nat] at h
 obtain ⟨d1, d2, d3⟩ := dec_dig u
 have hl := dec_len (u := u) (by omega)
 have hrun : runOf isDig (Lib.decDigits u ++ r) = (Lib.decDigits u).length := runOf_stop _ _ d1 hr
 cases hd : Lib.decDigits u with
 | nil => exact absurd hd d3
 | cons b q =>
  have d4 := d1
  rw [hd, List.all_cons, Bool.and_eq_true] at d4
  have hb := d4.1
  have hne : ¬ ib b = 32 ∧ isLet (ib b) = false := by
   simp only [isDig, Bool.and_eq_true, decide_eq_true_eq] at hb
   refine ⟨by omega, ?_⟩
   simp only [isLet, Bool.or_eq_false_iff, Bool.and_eq_false_iff, decide_eq_false_iff_not]; omega
  have ht : tokAt (Lib.decDigits u ++ r) = some (2, (u : Int), [], (Lib.decDigits u).length) := by
   rw [hd] at hrun ⊢
   show tokAt (b :: (q ++ r)) = _
   rw [tokAt_cons, if_neg (by rw [hne.2]; decide), if_pos hb]
   rw [show runOf isDig (b :: (q ++ r)) = (b :: q).length from hrun, show b :: (q ++ r) = (b :: q) ++ r from rfl, take_app, ← hd, d2, if_pos ⟨hl, by omega⟩]
  obtain ⟨L', e, h2⟩ := sc_step (fun b' r' e => by rw [hd] at e; cases e; exact hne.1) ht h
  rw [drop_app] at e h2
  exact ⟨L', e, h2⟩
theorem sc_quote {bl : Bool} {t r : List UInt8} {L : List TToken} (hq : canQ t = true) (h : Sc bl (quote t ++ r) L) : ∃ L', L = ⟨3, 0, t, bl, nextBl r⟩ :: L' ∧ Sc false r L' := by
 have key : ∀ c : UInt8, (ib c = 39 ∨ ib c = 34) → hasB (ib c) t = false → Sc bl ((c :: t ++ [c]) ++ r) L → ∃ L', L = ⟨3, 0, t, bl, nextBl r⟩ :: L' ∧ Sc false r L' := by
  intro c hc hn h
  have hl : t.length ≤ 200 := by simp only [canQ, Bool.and_eq_true, decide_eq_true_eq] at hq; exact hq.1.1
  obtain ⟨_, q2, q3, q4⟩ := qb_not hc
  have hall : t.all (fun b => (fun x => x != ib c) (ib b)) = true := by
   rw [List.all_eq_true]; intro b hb; simpa using hasB_mem hn b hb
  have hrun : runOf (fun x => x != ib c) (t ++ ([c] ++ r)) = t.length := runOf_stop _ _ hall fun b q e => by cases e; simp
  have ht : tokAt ((c :: t ++ [c]) ++ r) = some (3, 0, t, t.length + 2) := by
   rw [show (c :: t ++ [c]) ++ r = c :: (t ++ ([c] ++ r)) by simp, tokAt_cons, if_neg (by rw [q4]; decide), if_neg (by rw [q2]; decide), if_pos hc, hrun, if_pos ⟨by simp, hl⟩, take_app]
  obtain ⟨L', e, h2⟩ := sc_step (fun b' r' e => by cases e; simpa using q3) ht h
  have e3 : ((c :: t ++ [c]) ++ r).drop (t.length + 2) = r := by
   rw [show t.length + 2 = (c :: t ++ [c]).length by simp, drop_app]
  rw [e3] at e h2
  exact ⟨L', e, h2⟩
 unfold quote at h
 rw [if_pos hq] at h
 by_cases h39 : hasB 39 t = true
 ·rw [if_pos h39] at h
  refine key 34 (.inr (by decide)) ?_ h
  simp only [canQ, Bool.and_eq_true, Bool.not_eq_true', h39, Bool.true_and] at hq
  exact hq.2
 ·rw [if_neg h39] at h
  exact key 39 (.inl (by decide)) (by rw [show ib 39 = 39 from by decide]; simpa using h39) h
theorem sc_opr {bl : Bool} {b : UInt8} {r : List UInt8} {L : List TToken} (hb : isOpr (ib b) = true) (h : Sc bl (b :: r) L) : ∃ L', L = ⟨4, 0, [b], bl, nextBl r⟩ :: L' ∧ Sc false r L' := by
 have f : ∀ b : UInt8, isOpr (ib b) = true → isLet (ib b) = false ∧ isDig (ib b) = false ∧ ¬ (ib b = 39 ∨ ib b = 34) ∧ ¬ ib b = 32 := all_bytes (by decide +kernel)
 obtain ⟨f1, f2, f3, f4⟩ := f b hb
 have ht : tokAt (b :: r) = some (4, 0, [b], 1) := by
  rw [tokAt_cons, if_neg (by rw [f1]; decide), if_neg (by rw [f2]; decide), if_neg f3, if_pos hb]
 exact sc_step (fun b' r' e => by cases e; exact f4) ht h
theorem sc_mark {bl : Bool} {b : UInt8} {r : List UInt8} {L : List TToken} (hb : markOf (ib b) ≠ 0) (h : Sc bl (b :: r) L) : ∃ L', L = ⟨markOf (ib b), 0, [], bl, nextBl r⟩ :: L' ∧ Sc false r L' := by
 have f : ∀ b : UInt8, markOf (ib b) ≠ 0 → isLet (ib b) = false ∧ isDig (ib b) = false ∧ ¬ (ib b = 39 ∨ ib b = 34) ∧ ¬ ib b = 32 ∧ isOpr (ib b) = false := all_bytes (by decide +kernel)
 obtain ⟨f1, f2, f3, f4, f5⟩ := f b hb
 have ht : tokAt (b :: r) = some (markOf (ib b), 0, [], 1) := by
  rw [tokAt_cons, if_neg (by rw [f1]; decide), if_neg (by rw [f2]; decide), if_neg f3, if_neg (by rw [f5]; decide), if_pos hb]
 exact sc_step (fun b' r' e => by cases e; exact f4) ht h
def okR (r : List UInt8) : Prop := ∀ b q, r = b :: q → ib b = 32 ∨ ib b = 41 ∨ ib b = 44 ∨ ib b = 60 ∨ ib b = 62
theorem okR.nm {r : List UInt8} (h : okR r) : ∀ b q, r = b :: q → isNmB (ib b) = false := by
 intro b q e
 rcases h b q e with h | h | h | h | h <;> rw [h] <;> decide
theorem okR.dg {r : List UInt8} (h : okR r) : ∀ b q, r = b :: q → isDig (ib b) = false := by
 intro b q e
 rcases h b q e with h | h | h | h | h <;> rw [h] <;> decide
def hdO (bl : Bool) (L : List TToken) : Prop := ∃ t q, L = t :: q ∧ t.fBefore = bl ∧ ((t.fKind = 1 ∨ t.fKind = 2 ∨ t.fKind = 3 ∨ t.fKind = 5) ∨ (t.fKind = 4 ∧ t.fAfter = false ∧ isPre t.fText = true))
structure RT (m : Int) (x : TExpr) (bl : Bool) (L Lr : List TToken) : Prop where
 hd : hdO bl L
 e7 : m = 7 → ∀ res, PR (.ix x) Lr res → PR .el L res
 e6 : 6 ≤ m → stopI Lr → PR .el L (x, Lr)
 en : ∀ n : Nat, 1 ≤ n → n ≤ 5 → (n : Int) ≤ m → stopI Lr → (∀ j, n < j → j ≤ 5 → inf j Lr = none) → ∀ res, PR (.lp n x) Lr res → PR (.ex n) L res
theorem RT.of6 {m : Int} {x : TExpr} {bl : Bool} {L Lr : List TToken} (hd : hdO bl L) (h7 : m = 7 → ∀ res, PR (.ix x) Lr res → PR .el L res) (h6 : stopI Lr → PR .el L (x, Lr)) : RT m x bl L Lr :=
 ⟨hd, h7, fun _ => h6, fun n h1 h5 _ hs hj res hr => PR.exn h5 (PR.down (fun j a b => hj j (by omega) b) 6 (by omega) (by omega) (PR.ex6 (h6 hs))) hr⟩
theorem RT.of7 {x : TExpr} {bl : Bool} {L Lr : List TToken} (hd : hdO bl L) (h7 : ∀ res, PR (.ix x) Lr res → PR .el L res) : RT 7 x bl L Lr :=
 RT.of6 hd (fun _ => h7) fun hs => h7 _ (PR.ixStop hs)
theorem RT.fin {m : Int} {x : TExpr} {bl : Bool} {L Lr : List TToken} (h : RT m x bl L Lr) {n : Nat} (h1 : 1 ≤ n) (h6 : n ≤ 6) (hn : (n : Int) ≤ m) (hs : stopI Lr) (hj : ∀ j, n ≤ j → j ≤ 5 → inf j Lr = none) : PR (.ex n) L (x, Lr) := by
 by_cases e : n = 6
 ·subst e; exact PR.ex6 (h.e6 (by omega) hs)
 ·exact h.en n h1 (by omega) hn hs (fun j a b => hj j (by omega) b) _ (PR.stop (hj n (Nat.le_refl _) (by omega)))
theorem inf_mark {t : TToken} {r : List TToken} (h : t.fKind = 6 ∨ t.fKind = 8 ∨ t.fKind = 9 ∨ t.fKind = 7) (j : Nat) : inf j (t :: r) = none := by
 have h1 : bOpd t = false := by
  unfold bOpd
  rcases h with h | h | h | h <;> rw [h] <;> cases t.fBefore <;> rfl
 have h2 : isInf t = false := by
  unfold isInf
  rcases h with h | h | h | h <;> rw [h] <;> rfl
 simp only [inf, h1, h2]; simp
theorem stopI_of {t : TToken} {r : List TToken} (h : t.fKind ≠ 7) : stopI (t :: r) := by
 intro t' r' e; cases e; exact fun h2 => h h2.1
theorem RT.paren {m : Int} {x : TExpr} {bl b2 a1 : Bool} {L Lr : List TToken} {c : TToken} (hm : 1 ≤ m) (hc : c.fKind = 6) (h : RT m x b2 L (c :: Lr)) : RT 7 x bl (⟨5, 0, [], bl, a1⟩ :: L) Lr := by
 refine RT.of7 ⟨_, _, rfl, rfl, .inl (by simp)⟩ fun res hr => ?_
 refine PR.el (by simp) ?_ hr
 refine PR.mk2 (h.fin (n := 1) (by omega) (by omega) hm (stopI_of (by rw [hc]; decide)) fun j _ _ => inf_mark (.inl hc) j) fun f e => ?_
 rw [pP]
 simp only [show ¬ (5 : Int) = 3 from by decide, show ¬ (5 : Int) = 2 from by decide, show ¬ (5 : Int) = 1 from by decide, if_false, if_true]
 rw [e]
 simp [expect, hc]
def RTo (x : TExpr) : Prop := ∀ (bl : Bool) (r : List UInt8) (L : List TToken), okR r → Sc bl (x.text ++ r) L → ∃ Lr, Sc false r Lr ∧ RT (eLevel x.fKind) x bl L Lr
theorem okR_close (r : List UInt8) : okR (41 :: r) := by intro b q e; cases e; right; left; decide
theorem okR_blank (r : List UInt8) : okR (32 :: r) := by intro b q e; cases e; left; decide
theorem okR_comma (r : List UInt8) : okR (44 :: r) := by intro b q e; cases e; right; right; left; decide
theorem okR_left (r : List UInt8) : okR (60 :: r) := by intro b q e; cases e; right; right; right; left; decide
theorem okR_right (r : List UInt8) : okR (62 :: r) := by intro b q e; cases e; right; right; right; right; decide
theorem opd_rt {x : TExpr} (hx : RTo x) (l : Int) {bl : Bool} {r : List UInt8} {L : List TToken} (hr : okR r) (h : Sc bl (opdT l (eLevel x.fKind, x.text) ++ r) L) : ∃ Lr, Sc false r Lr ∧ RT (if eLevel x.fKind < l then 7 else eLevel x.fKind) x bl L Lr := by
 unfold opdT at h
 simp only at h
 by_cases hl : eLevel x.fKind < l
 ·rw [if_pos hl] at h ⊢
  have e : 40 :: (x.text ++ [41]) ++ r = 40 :: (x.text ++ 41 :: r) := by simp
  rw [e] at h
  obtain ⟨L1, rfl, h1⟩ := sc_mark (b := 40) (by decide) h
  obtain ⟨L2, h2, h3⟩ := hx false _ L1 (okR_close r) h1
  obtain ⟨Lr, rfl, h4⟩ := sc_mark (b := 41) (by decide) h2
  have em : markOf (ib 40) = 5 := by decide
  rw [em]
  exact ⟨Lr, h4, RT.paren (by have := eLevel_rng x.fKind; omega) (show markOf (ib 41) = 6 from by decide) h3⟩
 ·rw [if_neg hl] at h ⊢
  exact hx bl r L hr h
theorem eNode_full {x : TExpr} (h : eNode x = true) : (∃ t, x = ⟨1, 0, t, []⟩ ∧ canQ t = true) ∨ (∃ n, x = ⟨2, n, [], []⟩ ∧ 0 ≤ n ∧ n ≤ 1000000000000) ∨ (∃ t, x = ⟨3, 0, t, []⟩ ∧ isName t = true) ∨ (∃ k t, x = ⟨k, 0, t, []⟩ ∧ (k = 16 ∨ k = 17 ∨ k = 18) ∧ isName t = true) ∨
  (∃ t ks, x = ⟨4, 0, t, ks⟩ ∧ ks.length ≤ 6 ∧ isName t = true) ∨ (∃ k a, x = ⟨k, 0, [], [a]⟩ ∧ (k = 14 ∨ k = 15)) ∨ (∃ a b, x = ⟨5, 0, [], [a, b]⟩) ∨ (∃ k a b, x = ⟨k, 0, [], [a, b]⟩ ∧ 6 ≤ k ∧ k ≤ 11) ∨ (∃ k a b, x = ⟨k, 0, [], [a, b]⟩ ∧ (k = 12 ∨ k = 13) ∧ b.fKind = 3) := by
 obtain ⟨k, n, t, ks⟩ := x
 unfold eNode at h
 simp only at h
 have nil : ∀ {l : List TExpr}, (l.length == 0) = true → l = [] := fun h => List.eq_nil_of_length_eq_zero (by simpa using h)
 split at h
 ·rename_i e; subst e
  simp only [Bool.and_eq_true] at h
  obtain ⟨⟨h1, h2⟩, h3⟩ := h
  have := nil h1; subst this
  have : n = 0 := by simpa using h2
  subst this
  exact .inl ⟨t, rfl, h3⟩
 split at h
 ·rename_i e; subst e
  simp only [Bool.and_eq_true, decide_eq_true_eq] at h
  obtain ⟨⟨h1, h2⟩, h3⟩ := h
  have := nil h1; subst this
  have : t = [] := by simpa using h2
  subst this
  exact .inr (.inl ⟨n, rfl, h3⟩)
 split at h
 ·rename_i e
  simp only [Bool.and_eq_true] at h
  obtain ⟨⟨h1, h2⟩, h3⟩ := h
  have := nil h1; subst this
  have : n = 0 := by simpa using h2
  subst this
  rcases e with rfl | e
  ·exact .inr (.inr (.inl ⟨t, rfl, h3⟩))
  ·exact .inr (.inr (.inr (.inl ⟨k, t, rfl, e, h3⟩)))
 split at h
 ·rename_i e; subst e
  simp only [Bool.and_eq_true, decide_eq_true_eq] at h
  obtain ⟨⟨h1, h2⟩, h3⟩ := h
  have : n = 0 := by simpa using h2
  subst this
  exact .inr (.inr (.inr (.inr (.inl ⟨t, ks, rfl, h1, h3⟩))))
 simp only [Bool.and_eq_true] at h
 obtain ⟨⟨h1, h2⟩, h3⟩ := h
 have : n = 0 := by simpa using h1
 subst this
 have : t = [] := by simpa using h2
 subst this
 split at h3
 ·rename_i e
  rcases ks with _ | ⟨a, _ | ⟨b, _ | ⟨c, r⟩⟩⟩
  ·cases h3
  ·cases h3
  ·exact .inr (.inr (.inr (.inr (.inr (.inr (.inr (.inr ⟨k, a, b, rfl, e, by simpa using h3⟩)))))))
  ·cases h3
 split at h3
 ·rename_i e
  rcases ks with _ | ⟨a, _ | ⟨b, r⟩⟩
  ·simp at h3
  ·exact .inr (.inr (.inr (.inr (.inr (.inl ⟨k, a, rfl, e⟩)))))
  ·simp at h3
 split at h3
 ·rename_i e
  rcases ks with _ | ⟨a, _ | ⟨b, _ | ⟨c, r⟩⟩⟩
  ·simp at h3
  ·simp at h3
  ·by_cases e5 : k = 5
   ·subst e5; exact .inr (.inr (.inr (.inr (.inr (.inr (.inl ⟨a, b, rfl⟩))))))
   ·exact .inr (.inr (.inr (.inr (.inr (.inr (.inr (.inl ⟨k, a, b, rfl, by omega, by omega⟩)))))))
  ·simp at h3
 ·cases h3
theorem inf_op {n : Nat} {s : UInt8} {r : List TToken} (h : opK n [s] ≠ 0) (h2 : n ≠ 2) : inf n (⟨4, 0, [s], true, true⟩ :: r) = some (opK n [s], r) := by
 simp only [inf]
 rw [if_neg h2, if_pos ⟨rfl, h⟩]
theorem opK_lvl {n : Nat} {s : List UInt8} {k : Int} (hk : s = eSym k) (h6 : 6 ≤ k) (h13 : k ≤ 13) (h7 : k ≠ 7) : opK n s = if (n : Int) = eLevel k then k else 0 := by
 subst hk
 have : k = 6 ∨ k = 8 ∨ k = 9 ∨ k = 10 ∨ k = 11 ∨ k = 12 ∨ k = 13 := by omega
 rcases this with rfl | rfl | rfl | rfl | rfl | rfl | rfl <;> simp [opK, eSym, eLevel] <;> omega
theorem inf_none {n : Nat} {s : UInt8} {a : Bool} {r : List TToken} (h : opK n [s] = 0) : inf n (⟨4, 0, [s], true, true⟩ :: r) = none := by
 simp only [inf, h, bOpd, isInf]; simp
end Go.Dv.U

namespace Go.Dv.U
open Go Go.Dv Go.Proofs
theorem sc_before {bl : Bool} {s : List UInt8} {L : List TToken} (h : Sc bl s L) : bl = true → ∀ t q, L = t :: q → t.fBefore = true := by
 induction h with
 | nil bl => intro _ t q e; cases e
 | bl bl h ih => intro _; exact ih rfl
 | tok bl hb ht h ih => intro e t q e2; cases e2; exact e
theorem not_blank {s : List UInt8} {L : List TToken} (h : Sc false s L) (hd : hdO false L) : nextBl s = false := by
 obtain ⟨t, q, rfl, hb, _⟩ := hd
 cases s with
 | nil => cases h with | tok _ _ ht _ => cases ht
 | cons b r =>
  show (ib b == 32) = false
  rw [beq_eq_false_iff_ne]
  intro e
  obtain rfl := ib32 e
  have := sc_before (sc_blank h) rfl t q rfl
  rw [hb] at this; cases this
theorem name_stop {r : List UInt8} {L : List TToken} (hr : okR r) (h : Sc false r L) : nextBl r = true ∨ expect 5 L = none := by
 cases r with
 | nil => exact .inl rfl
 | cons b q =>
  have key : markOf (ib b) ≠ 0 → markOf (ib b) ≠ 5 → expect 5 L = none := by
   intro h1 h2
   obtain ⟨L', rfl, _⟩ := sc_mark h1 h
   simp [expect, h2]
  rcases hr b q rfl with e | e | e | e | e
  ·exact .inl (by simp [nextBl, e])
  all_goals exact .inr (key (by rw [e]; decide) (by rw [e]; decide))
theorem RT.ofBin {m : Nat} {x : TExpr} {bl : Bool} {L Lr : List TToken} (h5 : m ≤ 5) (hd : hdO bl L)
  (H : stopI Lr → (∀ j, m < j → j ≤ 5 → inf j Lr = none) → ∀ res, PR (.lp m x) Lr res → PR (.ex m) L res) : RT (m : Int) x bl L Lr := by
 refine ⟨hd, fun h => by omega, fun h => by omega, fun n h1 _ hn hs hj res hr => ?_⟩
 have h2 := H hs fun j a b => hj j (by omega) b
 by_cases e : n = m
 ·subst e; exact h2 res hr
 ·have h3 := h2 (x, Lr) (PR.stop (hj m (by omega) h5))
  exact PR.exn (by omega) (PR.down (fun j a b => hj j (by omega) b) m (by omega) (by omega) h3) hr
theorem args_rt : ∀ (ks : List TExpr), (∀ y ∈ ks, RTo y) → ks ≠ [] → ∀ (bl : Bool) (r : List UInt8) (L : List TToken) (acc : List TExpr), Sc bl (Lib.join (ks.map TExpr.text) [44] ++ 41 :: r) L →
  ∃ Lr, Sc false r Lr ∧ expect 6 L = none ∧ PR (.ar acc) L (⟨0, 0, [], acc ++ ks⟩, Lr) := by
 have hd6 : ∀ {bl : Bool} {L : List TToken}, hdO bl L → expect 6 L = none := by
  rintro bl L ⟨t, q, rfl, _, h⟩
  have : t.fKind ≠ 6 := by omega
  simp [expect, this]
 intro ks
 induction ks with
 | nil => intro _ h; exact absurd rfl h
 | cons y ks ih =>
  intro hy _ bl r L acc h
  cases ks with
  | nil =>
   have e : Lib.join ([y].map TExpr.text) [44] = y.text := by simp [Lib.join]
   rw [e] at h
   obtain ⟨L1, h1, h2⟩ := hy y (by simp) bl _ L (okR_close r) h
   obtain ⟨Lr, rfl, h3⟩ := sc_mark (b := 41) (by decide) h1
   have em : markOf (ib 41) = 6 := by decide
   rw [em] at h2
   refine ⟨Lr, h3, hd6 h2.hd, ?_⟩
   refine PR.mk2 (h2.fin (n := 1) (by omega) (by omega) (eLevel_rng _).1 (stopI_of (by simp)) fun j _ _ => inf_mark (.inl rfl) j) fun f e => ?_
   rw [pP, e]
   simp [expect]
  | cons z ks =>
   have e : Lib.join ((y :: z :: ks).map TExpr.text) [44] ++ 41 :: r = y.text ++ 44 :: (Lib.join ((z :: ks).map TExpr.text) [44] ++ 41 :: r) := by simp [Lib.join]
   rw [e] at h
   obtain ⟨L1, h1, h2⟩ := hy y (by simp) bl _ L (okR_comma _) h
   obtain ⟨L2, rfl, h3⟩ := sc_mark (b := 44) (by decide) h1
   have em : markOf (ib 44) = 9 := by decide
   rw [em] at h2
   obtain ⟨Lr, h4, _, h5⟩ := ih (fun u hu => hy u (by simp only [List.mem_cons] at hu ⊢; exact .inr hu)) (by simp) false r L2 (acc ++ [y]) h3
   refine ⟨Lr, h4, hd6 h2.hd, ?_⟩
   refine PR.mk3 (h2.fin (n := 1) (by omega) (by omega) (eLevel_rng _).1 (stopI_of (by simp)) fun j _ _ => inf_mark (.inr (.inr (.inl rfl))) j) h5 fun f e1 e2 => ?_
   rw [pP, e1]
   simp only [Option.bind_some, expect, if_true]
   rw [e2]; simp
theorem eSym_one {k : Int} (h : k = 6 ∨ (8 ≤ k ∧ k ≤ 18)) : ∃ s : UInt8, eSym k = [s] ∧ isOpr (ib s) = true := by
 have : k = 6 ∨ k = 8 ∨ k = 9 ∨ k = 10 ∨ k = 11 ∨ k = 12 ∨ k = 13 ∨ k = 14 ∨ k = 15 ∨ k = 16 ∨ k = 17 ∨ k = 18 := by omega
 rcases this with rfl | rfl | rfl | rfl | rfl | rfl | rfl | rfl | rfl | rfl | rfl | rfl <;> exact ⟨_, rfl, by decide⟩
set_option maxHeartbeats 1000000 in
theorem main_rt : ∀ x : TExpr, x.good = true → RTo x := by
 intro x
 induction x using TExpr.ind with
 | h x ih =>
  intro hg
  rw [x.good_eq, Bool.and_eq_true, List.all_eq_true] at hg
  obtain ⟨hnode, hk⟩ := hg
  have ih := fun y hy => ih y hy (hk y hy)
  rcases eNode_full hnode with ⟨t, rfl, h1⟩ | ⟨n, rfl, h1, h2⟩ | ⟨t, rfl, h1⟩ | ⟨k, t, rfl, h0, h1⟩ | ⟨t, ks, rfl, h1, h2⟩ | ⟨k, a, rfl, h1⟩ | ⟨a, b, rfl⟩ | ⟨k, a, b, rfl, h1, h2⟩ | ⟨k, a, b, rfl, h1, h2⟩
  ·intro bl r L hr h
   have e : (⟨1, 0, t, []⟩ : TExpr).text = quote t := by simp [TExpr.text, eBody]
   rw [e] at h
   obtain ⟨L', rfl, h3⟩ := sc_quote h1 h
   exact ⟨L', h3, RT.of7 ⟨_, _, rfl, rfl, .inl (by simp)⟩ fun res hr => PR.el (by simp) (PR.mk1 fun f => by rw [pP]; simp) hr⟩
  ·intro bl r L hr h
   have e : (⟨2, n, [], []⟩ : TExpr).text = Lib.itoa n := by simp [TExpr.text, eBody]
   rw [e] at h
   obtain ⟨L', rfl, h3⟩ := sc_num h1 h2 hr.dg h
   exact ⟨L', h3, RT.of7 ⟨_, _, rfl, rfl, .inl (by simp)⟩ fun res hr => PR.el (by simp) (PR.mk1 fun f => by rw [pP]; simp) hr⟩
  ·intro bl r L hr h
   have e : (⟨3, 0, t, []⟩ : TExpr).text = t := by simp [TExpr.text, eBody]
   rw [e] at h
   obtain ⟨L', rfl, h3⟩ := sc_name h1 hr.nm h
   have hst := name_stop hr h3
   refine ⟨L', h3, RT.of7 ⟨_, _, rfl, rfl, .inl (by simp)⟩ fun res hr => PR.el (by simp) (PR.mk1 fun f => ?_) hr⟩
   rw [pP]
   rcases hst with e | e
   ·simp [e]
   ·cases nextBl r <;> simp [e]
  ·intro bl r L hr h
   obtain ⟨s, hs, ho⟩ := eSym_one (k := k) (by omega)
   have e : (⟨k, 0, t, []⟩ : TExpr).text ++ r = s :: (t ++ r) := by
    rcases h0 with rfl | rfl | rfl <;> simp [TExpr.text, eBody, hs]
   rw [e] at h
   obtain ⟨L1, rfl, h3⟩ := sc_opr ho h
   have hnb : nextBl (t ++ r) = false := by
    cases t with
    | nil => simp [isName] at h1
    | cons b q =>
     simp only [isName, Bool.and_eq_true] at h1
     have := (let_facts h1.1.2).1
     simpa [nextBl] using this
   obtain ⟨L', rfl, h4⟩ := sc_name h1 hr.nm h3
   have hpre : isPre [s] = true ∧ preK [s] = k ∧ ¬ [s] = [45] ∧ ¬ [s] = [36] := by
    rw [← hs]
    rcases h0 with rfl | rfl | rfl <;> decide
   have hl : eLevel k = 6 := by rcases h0 with rfl | rfl | rfl <;> decide
   refine ⟨L', h4, ?_⟩
   rw [show eLevel (TExpr.fKind ⟨k, 0, t, []⟩) = 6 from hl]
   refine RT.of6 ⟨_, _, rfl, rfl, .inr ⟨rfl, hnb, hpre.1⟩⟩ (fun h => by omega) fun _ => PR.mk1 fun f => ?_
   rw [pP]
   simp only [if_true]
   rw [show nextBl (t ++ r) = false from hnb]
   simp only [Bool.false_eq_true, if_false]
   rw [if_neg hpre.2.2.1, if_neg hpre.2.2.2, if_pos hpre.1]
   simp [nameOf, hpre.2.1]
  ·intro bl r L hr h
   have e : (⟨4, 0, t, ks⟩ : TExpr).text ++ r = t ++ 40 :: (Lib.join (ks.map TExpr.text) [44] ++ 41 :: r) := by
    rw [TExpr.text_eq]; simp [eBody, Function.comp_def]
   rw [e] at h
   obtain ⟨L1, rfl, h3⟩ := sc_name h2 (fun b q e => by cases e; decide) h
   obtain ⟨L2, rfl, h4⟩ := sc_mark (b := 40) (by decide) h3
   have em : markOf (ib 40) = 5 := by decide
   rw [em]
   have hnb : nextBl (40 :: (Lib.join (ks.map TExpr.text) [44] ++ 41 :: r)) = false := by simp [nextBl]; decide
   rw [hnb]
   by_cases hks : ks = []
   ·subst hks
    have e2 : Lib.join (([] : List TExpr).map TExpr.text) [44] ++ 41 :: r = 41 :: r := by simp [Lib.join]
    rw [e2] at h4
    obtain ⟨Lr, rfl, h5⟩ := sc_mark (b := 41) (by decide) h4
    have em : markOf (ib 41) = 6 := by decide
    rw [em]
    refine ⟨Lr, h5, RT.of7 ⟨_, _, rfl, rfl, .inl (by simp)⟩ fun res hr => PR.el (by simp) (PR.mk1 fun f => ?_) hr⟩
    rw [pP]; simp [expect]
   ·obtain ⟨Lr, h5, h6, h7⟩ := args_rt ks ih hks _ r L2 [] h4
    refine ⟨Lr, h5, RT.of7 ⟨_, _, rfl, rfl, .inl (by simp)⟩ fun res hr => PR.el (by simp) (PR.mk2 h7 fun f e => ?_) hr⟩
    rw [List.nil_append] at e
    rw [pP]
    have e5 : expect 5 (⟨5, 0, [], false, nextBl (Lib.join (ks.map TExpr.text) [44] ++ 41 :: r)⟩ :: L2) = some L2 := by simp [expect]
    simp [e5, h6, e]
  ·intro bl r L hr h
   obtain ⟨s, hs, ho⟩ := eSym_one (k := k) (by omega)
   have e : (⟨k, 0, [], [a]⟩ : TExpr).text ++ r = s :: (opdT 6 (eLevel a.fKind, a.text) ++ r) := by
    rw [TExpr.text_eq]; rcases h1 with rfl | rfl <;> simp [eBody, hs]
   rw [e] at h
   obtain ⟨L1, rfl, h3⟩ := sc_opr ho h
   obtain ⟨Lr, h4, h5⟩ := opd_rt (ih a (by simp)) 6 hr h3
   have hnb := not_blank h3 h5.hd
   rw [hnb]
   have hl : eLevel k = 6 := by rcases h1 with rfl | rfl <;> decide
   refine ⟨Lr, h4, ?_⟩
   rw [show eLevel (TExpr.fKind ⟨k, 0, [], [a]⟩) = 6 from hl]
   have hpre : isPre [s] = true := by rw [← hs]; rcases h1 with rfl | rfl <;> decide
   refine RT.of6 ⟨_, _, rfl, rfl, .inr ⟨rfl, rfl, hpre⟩⟩ (fun h => by omega) fun hst => PR.mk2 (h5.e6 (by split <;> omega) hst) fun f e9 => ?_
   rw [pP]
   simp only [if_true, Bool.false_eq_true, if_false]
   rw [← hs]
   rcases h1 with rfl | rfl
   ·rw [if_pos (by decide), e9]; rfl
   ·rw [if_neg (by decide), if_pos (by decide), e9]; rfl
  ·intro bl r L hr h
   have e : (⟨5, 0, [], [a, b]⟩ : TExpr).text ++ r = opdT 7 (eLevel a.fKind, a.text) ++ 60 :: (b.text ++ 62 :: r) := by
    rw [TExpr.text_eq]; simp [eBody]
   rw [e] at h
   obtain ⟨L1, h3, h4⟩ := opd_rt (ih a (by simp)) 7 (okR_left _) h
   obtain ⟨L2, rfl, h5⟩ := sc_mark (b := 60) (by decide) h3
   have em : markOf (ib 60) = 7 := by decide
   rw [em] at h4
   obtain ⟨L3, h6, h7⟩ := ih b (by simp) false _ L2 (okR_right r) h5
   obtain ⟨Lr, rfl, h8⟩ := sc_mark (b := 62) (by decide) h6
   have em : markOf (ib 62) = 8 := by decide
   rw [em] at h7
   refine ⟨Lr, h8, RT.of7 h4.hd fun res hres => h4.e7 ?_ res ?_⟩
   ·have := eLevel_rng a.fKind
    split <;> omega
   ·refine PR.mk3 (h7.fin (n := 1) (by omega) (by omega) (eLevel_rng _).1 (stopI_of (by simp)) fun j _ _ => inf_mark (.inr (.inl rfl)) j) hres fun f e1 e2 => ?_
    rw [pP, if_pos ⟨rfl, rfl⟩, e1]
    simp [expect, e2]
  ·intro bl r L hr h
   by_cases h7 : k = 7
   ·subst h7
    have e : (⟨7, 0, [], [a, b]⟩ : TExpr).text ++ r = opdT 2 (eLevel a.fKind, a.text) ++ 32 :: (opdT 3 (eLevel b.fKind, b.text) ++ r) := by
     rw [TExpr.text_eq]; simp [eBody]
    rw [e] at h
    obtain ⟨L1, h3, h4⟩ := opd_rt (ih a (by simp)) 2 (okR_blank _) h
    obtain ⟨Lr, h5, h6⟩ := opd_rt (ih b (by simp)) 3 hr (sc_blank h3)
    obtain ⟨t, q, rfl, hb, hkd⟩ := h6.hd
    have hO : bOpd t = true := by
     unfold bOpd
     rw [hb]
     rcases hkd with (h | h | h | h) | ⟨h, h', h''⟩
     ·rw [h]; rfl
     ·rw [h]; rfl
     ·rw [h]; rfl
     ·rw [h]; rfl
     ·rw [h, h', h'']; rfl
    have hI : isInf t = false := by
     unfold isInf
     rcases hkd with (h | h | h | h) | ⟨h, h', h''⟩
     ·rw [h]; rfl
     ·rw [h]; rfl
     ·rw [h]; rfl
     ·rw [h]; rfl
     ·rw [h, h']; simp
    refine ⟨Lr, h5, RT.ofBin (m := 2) (by decide) h4.hd fun hst hj res hres => ?_⟩
    refine h4.en 2 (by decide) (by decide) ?_ ?_ ?_ res ?_
    ·have := eLevel_rng a.fKind
     split <;> omega
    ·intro t' q' e'; cases e'; rw [hb]; simp
    ·intro j hj1 hj2
     simp only [inf, hI]
     rw [if_neg (by omega)]; simp
    ·refine PR.go (by decide) (k := 7) (r := t :: q) (by simp only [inf]; rw [if_pos trivial, if_pos hO]) (h6.fin (n := 3) (by decide) (by decide) ?_ hst fun j a b => hj j (by omega) b) hres
     have := eLevel_rng b.fKind
     split <;> omega
   ·obtain ⟨s, hs, ho⟩ := eSym_one (k := k) (by omega)
    obtain ⟨m, hm, m1, m4⟩ : ∃ m : Nat, eLevel k = m ∧ 1 ≤ m ∧ m ≤ 4 := by
     have : k = 6 ∨ k = 8 ∨ k = 9 ∨ k = 10 ∨ k = 11 := by omega
     rcases this with rfl | rfl | rfl | rfl | rfl
     ·exact ⟨1, by decide⟩
     ·exact ⟨3, by decide⟩
     ·exact ⟨3, by decide⟩
     ·exact ⟨4, by decide⟩
     ·exact ⟨4, by decide⟩
    have e : (⟨k, 0, [], [a, b]⟩ : TExpr).text ++ r = opdT m (eLevel a.fKind, a.text) ++ 32 :: s :: 32 :: (opdT (m + 1) (eLevel b.fKind, b.text) ++ r) := by
     rw [TExpr.text_eq]
     have : k = 6 ∨ k = 8 ∨ k = 9 ∨ k = 10 ∨ k = 11 := by omega
     rw [← hm]
     rcases this with rfl | rfl | rfl | rfl | rfl <;> simp [eBody, hs]
    rw [e] at h
    obtain ⟨L1, h3, h4⟩ := opd_rt (ih a (by simp)) m (okR_blank _) h
    obtain ⟨L2, rfl, h5⟩ := sc_opr ho (sc_blank h3)
    obtain ⟨Lr, h6, h8⟩ := opd_rt (ih b (by simp)) (m + 1) hr (sc_blank h5)
    have hbl : nextBl (32 :: (opdT (m + 1) (eLevel b.fKind, b.text) ++ r)) = true := by simp [nextBl]; decide
    rw [hbl] at h4
    have hop := fun j => opK_lvl (n := j) (k := k) hs.symm (by omega) (by omega) h7
    refine ⟨Lr, h6, ?_⟩
    rw [show eLevel (TExpr.fKind ⟨k, 0, [], [a, b]⟩) = (m : Int) from hm]
    refine RT.ofBin (by omega) h4.hd fun hst hj res hres => ?_
    have hk0 : opK m [s] = k := by rw [hop, if_pos hm.symm]
    have m2 : m ≠ 2 := by
     intro e; subst e
     have : k = 6 ∨ k = 8 ∨ k = 9 ∨ k = 10 ∨ k = 11 := by omega
     rcases this with rfl | rfl | rfl | rfl | rfl <;> revert hm <;> decide
    refine h4.en m m1 (by omega) ?_ (stopI_of (by simp)) ?_ res ?_
    ·have := eLevel_rng a.fKind
     split <;> omega
    ·intro j hj1 hj2
     exact inf_none (a := true) (by rw [hop, if_neg (by omega)])
    ·refine PR.go (by omega) (k := k) (r := L2) (by rw [inf_op (by omega) m2, hk0]) (h8.fin (n := m + 1) (by omega) (by omega) ?_ hst fun j a b => hj j (by omega) b) hres
     have := eLevel_rng b.fKind
     split <;> omega
  ·intro bl r L hr h
   obtain ⟨s, hs, ho⟩ := eSym_one (k := k) (by omega)
   have hm : eLevel k = 5 := by rcases h1 with rfl | rfl <;> decide
   obtain ⟨t, rfl, hn⟩ : ∃ t, b = ⟨3, 0, t, []⟩ ∧ isName t = true := by
    have hb := hk b (by simp)
    rw [b.good_eq, Bool.and_eq_true] at hb
    rcases eNode_full hb.1 with ⟨t, rfl, _⟩ | ⟨n, rfl, _, _⟩ | ⟨t, rfl, h1⟩ | ⟨k, t, rfl, h0, _⟩ | ⟨t, ks, rfl, _, _⟩ | ⟨k, a, rfl, h0⟩ | ⟨a, b, rfl⟩ | ⟨k, a, b, rfl, h0, _⟩ | ⟨k, a, b, rfl, h0, _⟩
    ·simp at h2
    ·simp at h2
    ·exact ⟨t, rfl, h1⟩
    all_goals (simp only at h2; omega)
   have e : (⟨k, 0, [], [a, ⟨3, 0, t, []⟩]⟩ : TExpr).text ++ r = opdT 5 (eLevel a.fKind, a.text) ++ 32 :: s :: 32 :: (t ++ r) := by
    rw [TExpr.text_eq]
    have e3 : (⟨3, 0, t, []⟩ : TExpr).text = t := by simp [TExpr.text, eBody]
    have e7 : eLevel 3 = 7 := by decide
    rcases h1 with rfl | rfl <;> simp [eBody, hs, e3, e7, hm, opdT]
   rw [e] at h
   obtain ⟨L1, h3, h4⟩ := opd_rt (ih a (by simp)) 5 (okR_blank _) h
   obtain ⟨L2, rfl, h5⟩ := sc_opr ho (sc_blank h3)
   obtain ⟨Lr, rfl, h6⟩ := sc_name hn hr.nm (sc_blank h5)
   have hbl : nextBl (32 :: (t ++ r)) = true := by simp [nextBl]; decide
   rw [hbl] at h4
   have hop := fun j => opK_lvl (n := j) (k := k) hs.symm (by omega) (by omega) (by omega)
   refine ⟨Lr, h6, ?_⟩
   rw [show eLevel (TExpr.fKind ⟨k, 0, [], [a, ⟨3, 0, t, []⟩]⟩) = ((5 : Nat) : Int) from hm]
   refine RT.ofBin (by omega) h4.hd fun hst hj res hres => ?_
   have hk0 : opK 5 [s] = k := by rw [hop]; exact if_pos hm.symm
   refine h4.en 5 (by omega) (by omega) ?_ (stopI_of (by simp)) ?_ res ?_
   ·have := eLevel_rng a.fKind
    split <;> omega
   ·intro j hj1 hj2; omega
   ·exact PR.go5 (k := k) (r := ⟨1, 0, t, true, nextBl r⟩ :: Lr) (by rw [inf_op (by omega) (by decide), hk0]) (by simp [nameOf]) hres
end Go.Dv.U

namespace Go.Dv.U
open Go Go.Dv Go.Proofs
def Md.w : Md → Nat
 | .lp _ _ => 0
 | .ix _ => 0
 | _ => 1
theorem inf_len {n : Nat} {ts r : List TToken} {k : Int} (h : inf n ts = some (k, r)) : r.length ≤ ts.length := by
 cases ts with
 | nil => cases h
 | cons t q =>
  simp only [inf] at h
  split at h
  ·split at h
   ·cases h; exact Nat.le_refl _
   ·cases h
  ·split at h
   ·cases h; simp
   ·cases h
theorem expect_len {k : Int} {ts r : List TToken} (h : expect k ts = some r) : ts.length = r.length + 1 := by
 cases ts with
 | nil => cases h
 | cons t q =>
  simp only [expect] at h
  split at h
  ·cases h; rfl
  ·cases h
theorem nameOf_len {ts r : List TToken} {s : List UInt8} (h : nameOf ts = some (s, r)) : ts.length = r.length + 1 := by
 cases ts with
 | nil => cases h
 | cons t q =>
  simp only [nameOf] at h
  split at h
  ·cases h; rfl
  ·cases h
theorem pP_len : ∀ (f : Nat) (md : Md) (ts : List TToken) (e : TExpr) (r : List TToken), pP f md ts = some (e, r) → r.length + md.w ≤ ts.length := by
 intro f
 induction f with
 | zero => intro md ts e r h; cases h
 | succ f ih =>
  intro md ts e r h
  have bnd : ∀ {α : Type} {o : Option α} {g : α → Option (TExpr × List TToken)}, o.bind g = some (e, r) → ∃ a, o = some a ∧ g a = some (e, r) := fun h => Option.bind_eq_some_iff.1 h
  cases md with
  | ex n =>
   rw [pP] at h
   split at h
   ·exact ih .el ts e r h
   ·obtain ⟨⟨l, q⟩, h1, h2⟩ := bnd h
    have := ih _ _ _ _ h1
    have := ih _ _ _ _ h2
    simp only [Md.w] at *; omega
  | lp n l =>
   rw [pP] at h
   split at h
   ·cases h; exact Nat.le_refl _
   ·rename_i k q hi
    have hl := inf_len hi
    split at h
    ·obtain ⟨⟨s, q2⟩, h1, h2⟩ := bnd h
     have := nameOf_len h1
     have := ih _ _ _ _ h2
     simp only [Md.w] at *; omega
    ·obtain ⟨⟨y, q2⟩, h1, h2⟩ := bnd h
     have := ih _ _ _ _ h1
     have := ih _ _ _ _ h2
     simp only [Md.w] at *; omega
  | el =>
   cases ts with
   | nil => cases h
   | cons t q =>
    rw [pP] at h
    split at h
    ·split at h
     ·cases h
     split at h
     ·obtain ⟨⟨y, q2⟩, h1, h2⟩ := Option.map_eq_some_iff.1 h
      have := ih _ _ _ _ h1
      cases h2
      simp only [Md.w, List.length_cons] at *; omega
     split at h
     ·obtain ⟨⟨y, q2⟩, h1, h2⟩ := Option.map_eq_some_iff.1 h
      have := ih _ _ _ _ h1
      cases h2
      simp only [Md.w, List.length_cons] at *; omega
     split at h
     ·obtain ⟨⟨y, q2⟩, h1, h2⟩ := Option.map_eq_some_iff.1 h
      have := nameOf_len h1
      cases h2
      simp only [Md.w, List.length_cons] at *; omega
     ·cases h
    ·obtain ⟨⟨y, q2⟩, h1, h2⟩ := bnd h
     have := ih _ _ _ _ h1
     have := ih _ _ _ _ h2
     simp only [Md.w, List.length_cons] at *; omega
  | pr =>
   cases ts with
   | nil => cases h
   | cons t q =>
    rw [pP] at h
    split at h
    ·cases h; simp [Md.w]
    split at h
    ·cases h; simp [Md.w]
    split at h
    ·split at h
     ·rename_i r2 _ h5
      have l5 := expect_len h5
      split at h
      ·rename_i r3 h6
       have l6 := expect_len h6
       cases h
       simp only [Md.w, List.length_cons] at *; omega
      ·obtain ⟨⟨y, q2⟩, h1, h2⟩ := Option.map_eq_some_iff.1 h
       have := ih _ _ _ _ h1
       cases h2
       simp only [Md.w, List.length_cons] at *; omega
     ·cases h; simp [Md.w]
    split at h
    ·obtain ⟨⟨y, q2⟩, h1, h2⟩ := bnd h
     obtain ⟨q3, h3, h4⟩ := Option.map_eq_some_iff.1 h2
     have := ih _ _ _ _ h1
     have := expect_len h3
     cases h4
     simp only [Md.w, List.length_cons] at *; omega
    ·cases h
  | ix x =>
   cases ts with
   | nil => cases h; exact Nat.le_refl _
   | cons t q =>
    rw [pP] at h
    split at h
    ·obtain ⟨⟨y, q2⟩, h1, h2⟩ := bnd h
     obtain ⟨q3, h3, h4⟩ := bnd h2
     have := ih _ _ _ _ h1
     have := expect_len h3
     have := ih _ _ _ _ h4
     simp only [Md.w, List.length_cons] at *; omega
    ·cases h; exact Nat.le_refl _
  | ar acc =>
   rw [pP] at h
   obtain ⟨⟨y, q2⟩, h1, h2⟩ := bnd h
   have := ih _ _ _ _ h1
   split at h2
   ·rename_i q3 h3
    have := expect_len h3
    have := ih _ _ _ _ h2
    simp only [Md.w] at *; omega
   ·obtain ⟨q3, h3, h4⟩ := Option.map_eq_some_iff.1 h2
    have := expect_len h3
    cases h4
    simp only [Md.w] at *; omega
def Md.rk : Md → Nat
 | .ex n => 10 - min n 6
 | .lp _ _ => 12
 | .el => 3
 | .pr => 2
 | .ix _ => 1
 | .ar _ => 12
def Md.need (md : Md) (ts : List TToken) : Nat := 16 * ts.length + md.rk
end Go.Dv.U

namespace Go.Dv.U
open Go Go.Dv Go.Proofs
def bx (T : List TToken) (a : Nat) : (List TToken × Int × Unit) × Unit := ((T, (a : Int), ()), ())
def eNil : TExpr := ⟨0, 0, [], []⟩
theorem dropC {T : List TToken} {a : Nat} (h : a ≤ T.length) : (a = T.length ∧ T.drop a = []) ∨ ∃ t, a < T.length ∧ idx T (a : Int) = some t ∧ T.drop a = t :: T.drop (a + 1) ∧ t ∈ T := by
 by_cases e : a = T.length
 ·exact .inl ⟨e, by rw [e, List.drop_length]⟩
 ·have hlt : a < T.length := by omega
  exact .inr ⟨T[a], hlt, by rw [idx_nat, List.getElem?_eq_getElem hlt], List.drop_eq_getElem_cons hlt, List.getElem_mem hlt⟩
theorem w64s {T : List TToken} {a : Nat} (hT : T.length ≤ 1000) (h : a < T.length) : w64 ((a : Int) + 1) = ((a + 1 : Nat) : Int) := by rw [w64_of (by omega) (by omega)]; omega
theorem has_ok {T : List TToken} {a : Nat} (h : a ≤ T.length) (k : Int) : i_parser_has T a k = some (expect k (T.drop a)).isSome := by
 rw [i_parser_has_eq]
 rcases dropC h with ⟨rfl, e⟩ | ⟨t, hlt, hi, e, _⟩
 ·rw [if_neg (by simp [len_eq]), e]; rfl
 ·rw [if_pos (by simp [len_eq]; omega), hi, e]
  simp only [Option.bind_some, expect]
  by_cases hk : t.fKind = k <;> simp [hk]
theorem take_ok {T : List TToken} {a : Nat} (hT : T.length ≤ 1000) (h : a ≤ T.length) (k : Int) :
  (expect k (T.drop a) = some (T.drop (a + 1)) ∧ a < T.length ∧ i_parser_take k T a = some (true, bx T (a + 1))) ∨ (expect k (T.drop a) = none ∧ i_parser_take k T a = some (false, bx T a)) := by
 rw [i_parser_take_eq, has_ok h]
 rcases dropC h with ⟨rfl, e⟩ | ⟨t, hlt, hi, e, _⟩
 ·rw [e]; exact .inr ⟨rfl, rfl⟩
 ·rw [e]
  by_cases hk : t.fKind = k
  ·refine .inl ⟨by simp [expect, hk], hlt, ?_⟩
   simp [expect, hk, w64s hT hlt, bx]
  ·exact .inr ⟨by simp [expect, hk], by simp [expect, hk, bx]⟩
theorem name_ok {T : List TToken} {a : Nat} (hT : T.length ≤ 1000) (h : a ≤ T.length) :
    (∃ s, nameOf (T.drop a) = some (s, T.drop (a + 1)) ∧ a < T.length ∧ i_parser_name T a = some ((s, true), bx T (a + 1))) ∨ (nameOf (T.drop a) = none ∧ i_parser_name T a = some (([], false), bx T a)) := by
  rw [i_parser_name_eq]
  rcases take_ok hT h 1 with ⟨e1, hlt, e3⟩ | ⟨e1, e3⟩
  · rcases dropC h with ⟨e, _⟩ | ⟨t, _, hi, e, _⟩
    · omega
    rw [e] at e1
    have hk : t.fKind = 1 := by
      simp only [expect] at e1
      split at e1
      · assumption
      · cases e1
    refine .inl ⟨t.fText, by rw [e]; simp [nameOf, hk], hlt, ?_⟩
    rw [e3]
    have w : w64 (((a + 1 : Nat) : Int) - 1) = (a : Int) := by rw [w64_of (by omega) (by omega)]; omega
    simp only [Option.bind_some, bx, Bool.not_true, Bool.false_eq_true, if_false, w, hi]
  · have hn : nameOf (T.drop a) = none := by
      rcases dropC h with ⟨_, e⟩ | ⟨t, _, _, e, _⟩
      · rw [e]; rfl
      · rw [e] at e1 ⊢
        simp only [expect] at e1
        split at e1
        · cases e1
        · rename_i hk; simp [nameOf, hk]
    exact .inr ⟨hn, by rw [e3]; simp [bx]⟩
theorem op_one {t : TToken} (ht : tOk t) (h : t.fKind = 4) : ∃ b, t.fText = [b] := by
 rcases ht.2 with h1 | h1 | h1 | h1 | h1
 ·omega
 ·omega
 ·omega
 ·exact ⟨_, h1.2.2.choose_spec.1⟩
 ·omega
theorem begins_ok {T : List TToken} {a : Nat} {t : TToken} (hi : idx T (a : Int) = some t) (ht : tOk t) : i_parser_beginsOperand T a = some (bOpd t) := by
 rw [i_parser_beginsOperand_eq, hi]
 simp only [Option.bind_some, i_parser_beginsOperand_L7_eq, i_parser_beginsOperand_L8_eq]
 unfold bOpd
 by_cases k1 : t.fKind = 1
 ·simp [k1]
 by_cases k2 : t.fKind = 2
 ·simp [k2]
 by_cases k3 : t.fKind = 3
 ·simp [k3]
 by_cases k5 : t.fKind = 5
 ·simp [k5]
 by_cases k4 : t.fKind = 4
 ·obtain ⟨b, hb⟩ := op_one ht k4
  have f : ∀ b : UInt8, hasB (ib b) [45, 42, 36, 46, 64] = isPre [b] := all_bytes (by decide +kernel)
  rw [hb, containsS_one (by decide), f]
  cases hB : t.fBefore <;> cases hA : t.fAfter <;> simp [k4]
 ·simp [k1, k2, k3, k4, k5]
theorem valid_true {t : TToken} (ht : tOk t) : i_IsInfix t = some (isInf t) := by
 rw [i_IsInfix_eq, valid_ok ht]
 simp only [Option.bind_some, if_true, isInf]
 cases t.fBefore <;> by_cases h : t.fKind = 4 <;> simp [h]
theorem infL_ok {T : List TToken} {a : Nat} (hT : T.length ≤ 1000) (hlt : a < T.length) {t : TToken} (ht : tOk t) {n : Nat} (h5 : n ≤ 5) (hn : n ≠ 2) :
  ∀ (m j : Nat), j + m = 14 → 6 ≤ j → i_parser_infix_L7 n j T a t.fKind t.fNum t.fText t.fBefore t.fAfter =
   if isInf t = true then (match ((List.range 14).drop j).find? fun (k : Nat) => k != 7 && eLevel k == (n : Int) && (t.fText == eSym k) with | some k => some (((k : Int), true), bx T (a + 1)) | none => some ((0, false), bx T a)) else some ((0, false), bx T a) := by
 intro m
 induction m with
 | zero =>
  intro j hj h6
  have : j = 14 := by omega
  subst this
  rw [i_parser_infix_L7_eq, if_neg (by simp)]
  have : ((List.range 14).drop 14) = [] := rfl
  rw [this]
  split <;> rfl
 | succ m ih =>
  intro j hj h6
  have hj13 : j ≤ 13 := by omega
  have w : w64 ((j : Int) + 1) = ((j + 1 : Nat) : Int) := by rw [w64_of (by omega) (by omega)]; omega
  have hd : (List.range 14).drop j = j :: (List.range 14).drop (j + 1) := by
   rw [List.drop_eq_getElem_cons (by simp; omega)]; simp
  have ih' := ih (j + 1) (by omega) (by omega)
  rw [i_parser_infix_L7_eq, if_pos (by simp; omega)]
  have hl8 : i_parser_infix_L8 n j T a t.fKind t.fNum t.fText t.fBefore t.fAfter = i_parser_infix_L7 n ((j + 1 : Nat) : Int) T a t.fKind t.fNum t.fText t.fBefore t.fAfter := by
   rw [i_parser_infix_L8_eq, w]
  rw [hl8, ih', hd, List.find?_cons, i_level_ok]
  have he : TToken.mk t.fKind t.fNum t.fText t.fBefore t.fAfter = t := by cases t; rfl
  rw [he, valid_true ht, i_symbol_ok (by omega) (by omega)]
  simp only [Option.bind_some, i_parser_infix_L10_eq, w64s hT hlt]
  have hz : (((j : Int) != 7) = (j != 7)) := by
   rw [Bool.eq_iff_iff]; simp; omega
  rw [hz]
  cases isInf t with
  | false =>
   simp only [Bool.false_eq_true, if_false]
   split <;> (try split) <;> rfl
  | true =>
   simp only [if_true]
   cases (j != 7) with
   | false => simp
   | true =>
    simp only [if_true, Bool.true_and]
    cases he2 : (eLevel (j : Int) == (n : Int)) with
    | false => simp
    | true =>
     simp only [if_true, Bool.true_and]
     cases (t.fText == eSym (j : Int)) with
     | false => simp
     | true => simp [bx]
theorem find_opK {n : Nat} (h1 : 1 ≤ n) (h5 : n ≤ 5) (hn : n ≠ 2) (s : List UInt8) : (((List.range 14).drop 6).find? fun (k : Nat) => k != 7 && eLevel k == (n : Int) && (s == eSym k)).map (fun k : Nat => (k : Int)) = if opK n s = 0 then none else some (opK n s) := by
 have e : (List.range 14).drop 6 = [6, 7, 8, 9, 10, 11, 12, 13] := rfl
 rw [e]
 have : n = 1 ∨ n = 3 ∨ n = 4 ∨ n = 5 := by omega
 rcases this with rfl | rfl | rfl | rfl
 ·cases h : (s == [124]) <;> simp [eLevel, eSym, opK, List.find?, h] <;> simp_all
 ·cases h : (s == [43]) <;> cases h2 : (s == [45]) <;> simp [eLevel, eSym, opK, List.find?, h, h2] <;> simp_all
 ·cases h : (s == [42]) <;> cases h2 : (s == [47]) <;> simp [eLevel, eSym, opK, List.find?, h, h2] <;> simp_all
 ·cases h : (s == [46]) <;> cases h2 : (s == [36]) <;> simp [eLevel, eSym, opK, List.find?, h, h2] <;> simp_all
theorem infix_ok {T : List TToken} {a : Nat} (hT : T.length ≤ 1000) (hok : ∀ t ∈ T, tOk t) (h : a ≤ T.length) {n : Nat} (h1 : 1 ≤ n) (h5 : n ≤ 5) :
  (∃ k a', inf n (T.drop a) = some (k, T.drop a') ∧ a' ≤ T.length ∧ i_parser_infix n T a = some ((k, true), bx T a')) ∨ (inf n (T.drop a) = none ∧ ∃ k, i_parser_infix n T a = some ((k, false), bx T a)) := by
 rw [i_parser_infix_eq]
 rcases dropC h with ⟨e0, e⟩ | ⟨t, hlt, hi, e, hm⟩
 ·rw [e, if_pos (by simp [len_eq, e0])]
  exact .inr ⟨rfl, 0, rfl⟩
 ·have ht := hok t hm
  rw [if_neg (by simp [len_eq]; omega), hi]
  simp only [Option.bind_some]
  by_cases h2 : n = 2
  ·subst h2
   rw [if_pos (by decide), begins_ok hi ht]
   cases hb : bOpd t with
   | true => exact .inl ⟨7, a, by rw [e]; simp [inf, hb], h, rfl⟩
   | false => exact .inr ⟨by rw [e]; simp [inf, hb], 7, rfl⟩
  ·rw [if_neg (by simp; omega)]
   have hL := infL_ok hT hlt ht h5 h2 8 6 rfl (by omega)
   have hL : i_parser_infix_L7 n 6 T a t.fKind t.fNum t.fText t.fBefore t.fAfter = _ := hL
   rw [hL]
   have hf := find_opK h1 h5 h2 t.fText
   cases hI : isInf t with
   | false => exact .inr ⟨by rw [e]; simp [inf, h2, hI], 0, by simp⟩
   | true =>
    rw [if_pos rfl]
    by_cases hz : opK n t.fText = 0
    ·rw [if_pos hz, Option.map_eq_none_iff] at hf
     rw [hf]
     exact .inr ⟨by rw [e]; simp [inf, h2, hI, hz], 0, rfl⟩
    ·rw [if_neg hz, Option.map_eq_some_iff] at hf
     obtain ⟨k, hk, hk2⟩ := hf
     rw [hk]
     exact .inl ⟨opK n t.fText, a + 1, by rw [e]; simp [inf, h2, hI, hz], by omega, by rw [← hk2]⟩
end Go.Dv.U

namespace Go.Dv.U
open Go Go.Dv Go.Proofs
theorem xm_mk (k n : Int) (t : List UInt8) (ks : List TExpr) : (TExpr.mk k n t ks).m = t.length + (ks.length + sumOf TExpr.m ks) := TExpr.m_eq _
theorem xm_snoc (l : List TExpr) (e : TExpr) : sumOf TExpr.m (l ++ [e]) = sumOf TExpr.m l + e.m := by
 induction l with
 | nil => simp [sumOf]
 | cons y r ih => simp only [List.cons_append, sumOf, ih]; omega
def Md.m0 : Md → Nat
 | .lp _ l => l.m + 10
 | .ix e => e.m + 10
 | .ar acc => acc.length + sumOf TExpr.m acc
 | _ => 0
def Md.mR : Md → TExpr → Nat
 | .ar _, x => x.m
 | _, x => x.m + 10
theorem inf_mem {n : Nat} {ts r : List TToken} {k : Int} (h : inf n ts = some (k, r)) : ∀ t ∈ r, t ∈ ts := by
 cases ts with
 | nil => cases h
 | cons t q =>
  simp only [inf] at h
  split at h
  ·split at h
   ·cases h; exact fun t h => h
   ·cases h
  ·split at h
   ·cases h; exact fun t h => List.mem_cons_of_mem _ h
   ·cases h
theorem expect_mem {k : Int} {ts r : List TToken} (h : expect k ts = some r) : ∀ t ∈ r, t ∈ ts := by
 cases ts with
 | nil => cases h
 | cons t q =>
  simp only [expect] at h
  split at h
  ·cases h; exact fun t h => List.mem_cons_of_mem _ h
  ·cases h
theorem nameOf_mem {ts r : List TToken} {s : List UInt8} (h : nameOf ts = some (s, r)) : (∀ t ∈ r, t ∈ ts) ∧ ∃ t ∈ ts, s = t.fText := by
 cases ts with
 | nil => cases h
 | cons t q =>
  simp only [nameOf] at h
  split at h
  ·cases h; exact ⟨fun t h => List.mem_cons_of_mem _ h, t, by simp, rfl⟩
  ·cases h
theorem pP_sz : ∀ (f : Nat) (md : Md) (ts : List TToken) (x : TExpr) (r : List TToken), pP f md ts = some (x, r) → (∀ t ∈ ts, t.fText.length ≤ 200) → (∀ t ∈ r, t ∈ ts) ∧ md.mR x + 600 * r.length ≤ md.m0 + 600 * ts.length := by
 intro f
 induction f with
 | zero => intro md ts x r h; cases h
 | succ f ih =>
  intro md ts x r h ht
  have bnd : ∀ {α : Type} {o : Option α} {g : α → Option (TExpr × List TToken)}, o.bind g = some (x, r) → ∃ a, o = some a ∧ g a = some (x, r) := fun h => Option.bind_eq_some_iff.1 h
  cases md with
  | ex n =>
   rw [pP] at h
   split at h
   ·exact ih .el ts x r h ht
   ·obtain ⟨⟨l, q⟩, h1, h2⟩ := bnd h
    obtain ⟨a1, a2⟩ := ih _ _ _ _ h1 ht
    obtain ⟨b1, b2⟩ := ih _ _ _ _ h2 fun t hq => ht t (a1 t hq)
    simp only [Md.mR, Md.m0] at *
    exact ⟨fun t hq => a1 t (b1 t hq), by omega⟩
  | lp n l =>
   rw [pP] at h
   split at h
   ·cases h; simp only [Md.mR, Md.m0]; exact ⟨fun t h => h, Nat.le_refl _⟩
   ·rename_i k q hi
    have hl := inf_len hi
    have hm := inf_mem hi
    split at h
    ·obtain ⟨⟨s, q2⟩, h1, h2⟩ := bnd h
     have hl2 := nameOf_len h1
     obtain ⟨hm2, t0, ht0, rfl⟩ := nameOf_mem h1
     have := ht t0 (hm t0 ht0)
     obtain ⟨b1, b2⟩ := ih _ _ _ _ h2 fun t hq => ht t (hm t (hm2 t hq))
     simp only [Md.mR, Md.m0, xm_mk, sumOf, List.length_cons, List.length_nil] at *
     exact ⟨fun t hq => hm t (hm2 t (b1 t hq)), by omega⟩
    ·obtain ⟨⟨y, q2⟩, h1, h2⟩ := bnd h
     obtain ⟨a1, a2⟩ := ih _ _ _ _ h1 fun t hq => ht t (hm t hq)
     obtain ⟨b1, b2⟩ := ih _ _ _ _ h2 fun t hq => ht t (hm t (a1 t hq))
     simp only [Md.mR, Md.m0, xm_mk, sumOf, List.length_cons, List.length_nil] at *
     exact ⟨fun t hq => hm t (a1 t (b1 t hq)), by omega⟩
  | el =>
   cases ts with
   | nil => cases h
   | cons t q =>
    have htq : ∀ t ∈ q, t.fText.length ≤ 200 := fun u hu => ht u (by simp [hu])
    rw [pP] at h
    split at h
    ·split at h
     ·cases h
     split at h
     ·obtain ⟨⟨y, q2⟩, h1, h2⟩ := Option.map_eq_some_iff.1 h
      obtain ⟨a1, a2⟩ := ih _ _ _ _ h1 htq
      cases h2
      simp only [Md.mR, Md.m0, xm_mk, sumOf, List.length_cons, List.length_nil] at *
      exact ⟨fun t hq => by simp [a1 t hq], by omega⟩
     split at h
     ·obtain ⟨⟨y, q2⟩, h1, h2⟩ := Option.map_eq_some_iff.1 h
      obtain ⟨a1, a2⟩ := ih _ _ _ _ h1 htq
      cases h2
      simp only [Md.mR, Md.m0, xm_mk, sumOf, List.length_cons, List.length_nil] at *
      exact ⟨fun t hq => by simp [a1 t hq], by omega⟩
     split at h
     ·obtain ⟨⟨y, q2⟩, h1, h2⟩ := Option.map_eq_some_iff.1 h
      have hl2 := nameOf_len h1
      obtain ⟨hm2, t0, ht0, rfl⟩ := nameOf_mem h1
      have := htq t0 ht0
      cases h2
      simp only [Md.mR, Md.m0, xm_mk, sumOf, List.length_cons, List.length_nil] at *
      exact ⟨fun t hq => by simp [hm2 t hq], by omega⟩
     ·cases h
    ·obtain ⟨⟨y, q2⟩, h1, h2⟩ := bnd h
     obtain ⟨a1, a2⟩ := ih _ _ _ _ h1 ht
     obtain ⟨b1, b2⟩ := ih _ _ _ _ h2 fun t hq => ht t (a1 t hq)
     simp only [Md.mR, Md.m0] at *
     exact ⟨fun t hq => a1 t (b1 t hq), by omega⟩
  | pr =>
   cases ts with
   | nil => cases h
   | cons t q =>
    have htq : ∀ t ∈ q, t.fText.length ≤ 200 := fun u hu => ht u (by simp [hu])
    have ht0 := ht t (by simp)
    have tl : ∀ u ∈ q, u ∈ t :: q := fun u hu => List.mem_cons_of_mem _ hu
    rw [pP] at h
    split at h
    ·cases h
     simp only [Md.mR, Md.m0, xm_mk, sumOf, List.length_cons, List.length_nil] at *
     exact ⟨tl, by omega⟩
    split at h
    ·cases h
     simp only [Md.mR, Md.m0, xm_mk, sumOf, List.length_cons, List.length_nil] at *
     exact ⟨tl, by omega⟩
    split at h
    ·split at h
     ·rename_i r2 _ h5
      have l5 := expect_len h5
      have m5 := expect_mem h5
      split at h
      ·rename_i r3 h6
       have l6 := expect_len h6
       have m6 := expect_mem h6
       cases h
       simp only [Md.mR, Md.m0, xm_mk, sumOf, List.length_cons, List.length_nil] at *
       exact ⟨fun u hu => tl u (m5 u (m6 u hu)), by omega⟩
      ·obtain ⟨⟨y, q2⟩, h1, h2⟩ := Option.map_eq_some_iff.1 h
       obtain ⟨a1, a2⟩ := ih _ _ _ _ h1 fun u hu => htq u (m5 u hu)
       cases h2
       have e := xm_mk y.fKind y.fNum y.fText y.fKids
       rw [TExpr.eta] at e
       simp only [Md.mR, Md.m0, xm_mk, sumOf, List.length_cons, List.length_nil] at *
       exact ⟨fun u hu => tl u (m5 u (a1 u hu)), by omega⟩
     ·cases h
      simp only [Md.mR, Md.m0, xm_mk, sumOf, List.length_cons, List.length_nil] at *
      exact ⟨tl, by omega⟩
    split at h
    ·obtain ⟨⟨y, q2⟩, h1, h2⟩ := bnd h
     obtain ⟨q3, h3, h4⟩ := Option.map_eq_some_iff.1 h2
     obtain ⟨a1, a2⟩ := ih _ _ _ _ h1 htq
     have l3 := expect_len h3
     have m3 := expect_mem h3
     cases h4
     simp only [Md.mR, Md.m0, List.length_cons] at *
     exact ⟨fun u hu => tl u (a1 u (m3 u hu)), by omega⟩
    ·cases h
  | ix e =>
   cases ts with
   | nil => cases h; simp only [Md.mR, Md.m0]; exact ⟨fun t h => h, Nat.le_refl _⟩
   | cons t q =>
    have htq : ∀ t ∈ q, t.fText.length ≤ 200 := fun u hu => ht u (by simp [hu])
    have tl : ∀ u ∈ q, u ∈ t :: q := fun u hu => List.mem_cons_of_mem _ hu
    rw [pP] at h
    split at h
    ·obtain ⟨⟨y, q2⟩, h1, h2⟩ := bnd h
     obtain ⟨q3, h3, h4⟩ := bnd h2
     obtain ⟨a1, a2⟩ := ih _ _ _ _ h1 htq
     have l3 := expect_len h3
     have m3 := expect_mem h3
     obtain ⟨b1, b2⟩ := ih _ _ _ _ h4 fun u hu => htq u (a1 u (m3 u hu))
     simp only [Md.mR, Md.m0, xm_mk, sumOf, List.length_cons, List.length_nil] at *
     exact ⟨fun u hu => tl u (a1 u (m3 u (b1 u hu))), by omega⟩
    ·cases h; simp only [Md.mR, Md.m0]; exact ⟨fun t h => h, Nat.le_refl _⟩
  | ar acc =>
   rw [pP] at h
   obtain ⟨⟨y, q2⟩, h1, h2⟩ := bnd h
   obtain ⟨a1, a2⟩ := ih _ _ _ _ h1 ht
   split at h2
   ·rename_i q3 h3
    have l3 := expect_len h3
    have m3 := expect_mem h3
    obtain ⟨b1, b2⟩ := ih _ _ _ _ h2 fun u hu => ht u (a1 u (m3 u hu))
    simp only [Md.mR, Md.m0, xm_snoc, List.length_append, List.length_singleton] at *
    exact ⟨fun u hu => a1 u (m3 u (b1 u hu)), by omega⟩
   ·obtain ⟨q3, h3, h4⟩ := Option.map_eq_some_iff.1 h2
    have l3 := expect_len h3
    have m3 := expect_mem h3
    cases h4
    simp only [Md.mR, Md.m0, xm_mk, xm_snoc, List.length_append, List.length_singleton, List.length_nil] at *
    exact ⟨fun u hu => a1 u (m3 u hu), by omega⟩
theorem tOk_len {t : TToken} (h : tOk t) : t.fText.length ≤ 200 := by
 rcases h.2 with h1 | h1 | h1 | h1 | h1
 ·have := h1.2.2
  cases ht : t.fText with
  | nil => simp
  | cons b q =>
   rw [ht] at this
   simp only [isName, Bool.and_eq_true, decide_eq_true_eq] at this
   omega
 ·rw [h1.2.1]; simp
 ·have := h1.2.2
  simp only [canQ, Bool.and_eq_true, decide_eq_true_eq] at this
  exact this.1.1
 ·obtain ⟨b, hb, _⟩ := h1.2.2
  rw [hb]; simp
 ·rw [h1.2.2]; simp
end Go.Dv.U

namespace Go.Dv.U
open Go Go.Dv Go.Proofs
def Ans {α : Type} (o : Option ((α × Bool) × ((List TToken × Int × Unit) × Unit))) (T : List TToken) (g : TExpr → α) (res : Option (TExpr × List TToken)) : Prop :=
 (∃ x a', res = some (x, T.drop a') ∧ a' ≤ T.length ∧ o = some ((g x, true), bx T a')) ∨ (res = none ∧ ∃ (e : α) (b : Int), o = some ((e, false), ((T, b, ()), ())))
def idE (x : TExpr) : TExpr := x
theorem L6_same (x0 : Int) (x1 : List TToken) (x2 x3 x4 : Int) (x5 : List UInt8) (x6 : List TExpr) (x7 x8 : Int) (x9 : List UInt8) (x10 : List TExpr) : i_parser_expr_L6 x0 x1 x2 x3 x4 x5 x6 x7 x8 x9 x10 = i_parser_expr_L6_v1 x0 x1 x2 x3 x4 x5 x6 x7 x8 x9 x10 := by
 rw [i_parser_expr_L6_eq, i_parser_expr_L6_v1_eq]
theorem eL7_same (x0 : Bool) (x1 : List TToken) (x2 x3 x4 : Int) (x5 : List UInt8) (x6 : List TExpr) (x7 x8 : Int) (x9 : List UInt8) (x10 : List TExpr) : i_parser_element_L7 x0 x1 x2 x3 x4 x5 x6 x7 x8 x9 x10 = i_parser_element_L7_v1 x0 x1 x2 x3 x4 x5 x6 x7 x8 x9 x10 := by
 rw [i_parser_element_L7_eq, i_parser_element_L7_v1_eq]
 simp only [i_parser_element_L8_eq, i_parser_element_L8_v1_eq, i_parser_element_L13_eq, i_parser_element_L13_v1_eq]
theorem unary_ok (s : List UInt8) (T : List TToken) (a : Nat) (hT : T.length ≤ 1000) (hlt : a < T.length) : i_parser_unary s T a =
  if s = [45] ∨ s = [36] then (i_parser_element T ((a + 1 : Nat) : Int)).bind fun r => some ((⟨if s = [45] then 14 else 15, 0, [], [r.1.1]⟩, r.1.2), r.2)
  else if isPre s = true then (i_parser_name T ((a + 1 : Nat) : Int)).bind fun r => some ((⟨preK s, 0, r.1.1, []⟩, r.1.2), r.2) else some ((eNil, false), bx T a) := by
 have s14 : eSym 14 = [45] := rfl
 have s15 : eSym 15 = [36] := rfl
 have s16 : eSym 16 = [46] := rfl
 have s17 : eSym 17 = [42] := rfl
 have s18 : eSym 18 = [64] := rfl
 have w14 : w64 (14 + 1) = 15 := w64_of (by omega) (by omega)
 have w15 : w64 (15 + 1) = 16 := w64_of (by omega) (by omega)
 have w16 : w64 (16 + 1) = 17 := w64_of (by omega) (by omega)
 have w17 : w64 (17 + 1) = 18 := w64_of (by omega) (by omega)
 have w18 : w64 (18 + 1) = 19 := w64_of (by omega) (by omega)
 have hp : ∀ (r : (TExpr × Bool) × ((List TToken × Int × Unit) × Unit)), (((Prod.fst (Prod.fst (Prod.snd r))), (Prod.fst (Prod.snd (Prod.fst (Prod.snd r)))), ()), ()) = r.2 := fun r => rfl
 rw [i_parser_unary_eq, i_parser_unary_L2_eq, if_pos (by decide), i_symbol_ok (by decide) (by decide), i_isNamed_ok]
 simp only [Option.bind_some, s14, w14]
 by_cases h1 : s = [45]
 ·subst h1
  simp [w64s hT hlt, TExpr.eta]
 rw [if_pos (by simpa using fun e => h1 e.symm), i_parser_unary_L2_eq, if_pos (by decide), i_symbol_ok (by decide) (by decide), i_isNamed_ok]
 simp only [Option.bind_some, s15, w15]
 by_cases h2 : s = [36]
 ·subst h2
  simp [w64s hT hlt, TExpr.eta]
 rw [if_pos (by simpa using fun e => h2 e.symm), i_parser_unary_L2_eq, if_pos (by decide), i_symbol_ok (by decide) (by decide), i_isNamed_ok]
 simp only [Option.bind_some, s16, w16]
 by_cases h3 : s = [46]
 ·subst h3
  simp [w64s hT hlt, isPre, preK]
 rw [if_pos (by simpa using fun e => h3 e.symm), i_parser_unary_L2_eq, if_pos (by decide), i_symbol_ok (by decide) (by decide), i_isNamed_ok]
 simp only [Option.bind_some, s17, w17]
 by_cases h4 : s = [42]
 ·subst h4
  simp [w64s hT hlt, isPre, preK]
 rw [if_pos (by simpa using fun e => h4 e.symm), i_parser_unary_L2_eq, if_pos (by decide), i_symbol_ok (by decide) (by decide), i_isNamed_ok]
 simp only [Option.bind_some, s18, w18]
 by_cases h5 : s = [64]
 ·subst h5
  simp [w64s hT hlt, isPre, preK]
 rw [if_pos (by simpa using fun e => h5 e.symm), i_parser_unary_L2_eq, if_neg (by decide)]
 simp [h1, h2, h3, h4, h5, isPre, eNil, bx]
def Stp (T : List TToken) (f : Nat) : Md → Nat → Prop
 | .ex n, a => 1 ≤ n → n ≤ 6 → Ans (i_parser_expr n T a) T idE (pP f (.ex n) (T.drop a))
 | .lp n l, a => 1 ≤ n → n ≤ 5 → ∀ x3 x4 x5 x6, Ans (i_parser_expr_L6_v1 n T a x3 x4 x5 x6 l.fKind l.fNum l.fText l.fKids) T idE (pP f (.lp n l) (T.drop a))
 | .el, a => Ans (i_parser_element T a) T idE (pP f .el (T.drop a))
 | .pr, a => Ans (i_parser_primary T a) T idE (pP f .pr (T.drop a))
 | .ix e, a => ∀ x3 x4 x5 x6, Ans (i_parser_element_L7_v1 true T a x3 x4 x5 x6 e.fKind e.fNum e.fText e.fKids) T idE (pP f (.ix e) (T.drop a))
 | .ar acc, a => acc.length ≤ a → Ans (i_parser_args_L4 T a acc) T TExpr.fKids (pP f (.ar acc) (T.drop a))
theorem dropLen (T : List TToken) {a : Nat} (h : a ≤ T.length) : (T.drop a).length + a = T.length := by rw [List.length_drop]; omega
theorem walk {T : List TToken} (hT : T.length ≤ 1000) (hok : ∀ t ∈ T, tOk t) : ∀ (f : Nat) (md : Md) (a : Nat), a ≤ T.length → md.need (T.drop a) ≤ f → Stp T f md a := by
 intro f
 induction f with
 | zero =>
  intro md a _ h
  exfalso
  have : 0 < md.rk := by cases md <;> simp only [Md.rk] <;> omega
  unfold Md.need at h; omega
 | succ f ih =>
  intro md a ha hf
  have hda := dropLen T ha
  have hlen : ∀ (md : Md) (b : Nat) (x : TExpr) (a' : Nat), b ≤ T.length → a' ≤ T.length → pP f md (T.drop b) = some (x, T.drop a') → b + md.w ≤ a' := fun md b x a' hb ha' h => by
   have h1 := pP_len f md _ _ _ h
   have h2 := dropLen T hb
   have h3 := dropLen T ha'
   omega
  simp only [Md.need] at hf
  cases md with
  | ex n =>
   intro h1 h6
   rw [i_parser_expr_eq, pP]
   by_cases e6 : n = 6
   ·subst e6
    rw [if_pos (by decide), if_pos (by omega)]
    rcases ih .el a ha (by simp only [Md.need, Md.rk] at hf ⊢; omega) with ⟨x, a', e1, h2, e2⟩ | ⟨e1, e, b, e2⟩
    ·rw [e1, e2]
     exact .inl ⟨x, a', rfl, h2, by simp only [Option.bind_some, idE, TExpr.eta, bx]⟩
    ·rw [e1, e2]
     exact .inr ⟨rfl, e, b, by simp only [Option.bind_some, TExpr.eta]⟩
   ·have w : w64 ((n : Int) + 1) = ((n + 1 : Nat) : Int) := by rw [w64_of (by omega) (by omega)]; omega
    rw [if_neg (by simp; omega), if_neg (by omega), w]
    rcases ih (.ex (n + 1)) a ha (by simp only [Md.need, Md.rk] at hf ⊢; omega) (by omega) (by omega) with ⟨x, a', e1, h2, e2⟩ | ⟨e1, e, b, e2⟩
    ·have hl := hlen _ _ _ _ ha h2 e1
     have hda' := dropLen T h2
     rw [e1, e2]
     simp only [Option.bind_some, idE, bx, Bool.not_true, Bool.false_eq_true, if_false, L6_same]
     exact ih (.lp n x) a' h2 (by simp only [Md.need, Md.rk, Md.w] at hf hl ⊢; omega) h1 (by omega) _ _ _ _
    ·rw [e1, e2]
     exact .inr ⟨rfl, eNil, b, by simp [eNil]⟩
  | lp n l =>
   intro h1 h5 x3 x4 x5 x6
   rw [i_parser_expr_L6_v1_eq, pP]
   rcases infix_ok hT hok ha h1 h5 with ⟨k, a', e1, h2, e2⟩ | ⟨e1, k, e2⟩
   ·rw [e1, e2]
    have hil := inf_len e1
    have hda' := dropLen T h2
    simp only [Option.bind_some, bx, Bool.not_true, Bool.false_eq_true, if_false]
    by_cases e5 : n = 5
    ·subst e5
     rw [if_pos (by decide), if_pos rfl]
     rcases name_ok hT h2 with ⟨s, e3, hlt, e4⟩ | ⟨e3, e4⟩
     ·rw [e3, e4]
      simp only [Option.bind_some, bx, Bool.not_true, Bool.false_eq_true, if_false, TExpr.eta]
      have hda2 := dropLen T (a := a' + 1) (by omega)
      exact ih (.lp 5 ⟨k, 0, [], [l, ⟨3, 0, s, []⟩]⟩) (a' + 1) (by omega) (by simp only [Md.need, Md.rk] at hf ⊢; omega) h1 h5 _ _ _ _
     ·rw [e3, e4]
      exact .inr ⟨rfl, eNil, a', by simp [bx, eNil]⟩
    ·have w : w64 ((n : Int) + 1) = ((n + 1 : Nat) : Int) := by rw [w64_of (by omega) (by omega)]; omega
     rw [if_neg (by simp; omega), if_neg e5, w]
     rcases ih (.ex (n + 1)) a' h2 (by simp only [Md.need, Md.rk] at hf ⊢; omega) (by omega) (by omega) with ⟨x, a2, e3, h3, e4⟩ | ⟨e3, e, b, e4⟩
     ·have hl := hlen _ _ _ _ h2 h3 e3
      have hda2 := dropLen T h3
      rw [e3, e4]
      simp only [Option.bind_some, idE, bx, Bool.not_true, Bool.false_eq_true, if_false, TExpr.eta]
      exact ih (.lp n ⟨k, 0, [], [l, x]⟩) a2 h3 (by simp only [Md.need, Md.rk, Md.w] at hf hl ⊢; omega) h1 h5 _ _ _ _
     ·rw [e3, e4]
      exact .inr ⟨rfl, eNil, b, by simp [eNil]⟩
   ·rw [e1, e2]
    exact .inl ⟨l, a, rfl, ha, by simp [bx, idE, TExpr.eta]⟩
  | el =>
   show Ans (i_parser_element T a) T idE (pP (f + 1) .el (T.drop a))
   rw [i_parser_element_eq, has_ok ha]
   have rest : Ans ((i_parser_primary T a).bind fun r198 => i_parser_element_L7 (Prod.snd (Prod.fst r198)) (Prod.fst (Prod.fst (Prod.snd r198))) (Prod.fst (Prod.snd (Prod.fst (Prod.snd r198)))) 0 0 [] ([]) (TExpr.fKind (Prod.fst (Prod.fst r198))) (TExpr.fNum (Prod.fst (Prod.fst r198))) (TExpr.fText (Prod.fst (Prod.fst r198))) (TExpr.fKids (Prod.fst (Prod.fst r198)))) T idE ((pP f .pr (T.drop a)).bind fun p => pP f (.ix p.1) p.2) := by
    rcases ih .pr a ha (by simp only [Md.need, Md.rk] at hf ⊢; omega) with ⟨x, a', e1, h2, e2⟩ | ⟨e1, e, b, e2⟩
    ·have hl := hlen _ _ _ _ ha h2 e1
     have hda' := dropLen T h2
     rw [e1, e2]
     simp only [Option.bind_some, idE, bx, eL7_same]
     exact ih (.ix x) a' h2 (by simp only [Md.need, Md.rk, Md.w] at hf hl ⊢; omega) _ _ _ _
    ·rw [e1, e2]
     refine .inr ⟨rfl, e, b, ?_⟩
     simp only [Option.bind_some]
     rw [i_parser_element_L7_eq, if_neg (by decide), i_parser_element_L13_eq, TExpr.eta]
   rcases dropC ha with ⟨e0, e⟩ | ⟨t, hlt, hi, e, hm⟩
   ·rw [e] at rest ⊢
    simp only [expect, Option.isSome_none, Option.bind_some, Bool.false_eq_true, if_false]
    have : pP f .pr [] = none := by cases f <;> rfl
    rw [this] at rest
    exact rest
   ·rw [e] at rest ⊢
    rw [pP]
    by_cases h4 : t.fKind = 4
    ·rw [if_pos h4]
     simp only [expect, h4, if_true, Option.isSome_some, Option.bind_some, hi]
     cases hA : t.fAfter with
     | true => exact .inr ⟨by simp, eNil, a, by simp [eNil]⟩
     | false =>
      simp only [Bool.false_eq_true, if_false]
      rw [unary_ok _ _ _ hT hlt]
      have hda1 := dropLen T (a := a + 1) (by omega)
      have hel := ih .el (a + 1) (by omega) (by simp only [Md.need, Md.rk] at hf ⊢; omega)
      have elc : ∀ (k : Int), Ans ((i_parser_element T ((a + 1 : Nat) : Int)).bind fun r => some (((⟨k, 0, [], [r.1.1]⟩ : TExpr), r.1.2), r.2)) T idE ((pP f .el (T.drop (a + 1))).map fun p => (⟨k, 0, [], [p.1]⟩, p.2)) := by
       intro k
       rcases hel with ⟨x, a', e1, h2, e2⟩ | ⟨e1, e, b, e2⟩
       ·rw [e1, e2]; exact .inl ⟨_, a', rfl, h2, rfl⟩
       ·rw [e1, e2]; exact .inr ⟨rfl, _, b, rfl⟩
      have fin : ∀ {o : Option ((TExpr × Bool) × ((List TToken × Int × Unit) × Unit))} {res : Option (TExpr × List TToken)}, Ans o T idE res → Ans (o.bind fun r196 => some (((TExpr.mk (TExpr.fKind (Prod.fst (Prod.fst r196))) (TExpr.fNum (Prod.fst (Prod.fst r196))) (TExpr.fText (Prod.fst (Prod.fst r196))) (TExpr.fKids (Prod.fst (Prod.fst r196)))), (Prod.snd (Prod.fst r196))), (((Prod.fst (Prod.fst (Prod.snd r196))), (Prod.fst (Prod.snd (Prod.fst (Prod.snd r196)))), ()), ()))) T idE res := by
       intro o res h
       rcases h with ⟨x, a', e1, h2, e2⟩ | ⟨e1, e, b, e2⟩
       ·rw [e2]; exact .inl ⟨x, a', e1, h2, by simp only [Option.bind_some, TExpr.eta, bx, idE]⟩
       ·rw [e2]; exact .inr ⟨e1, e, b, by simp only [Option.bind_some, TExpr.eta]⟩
      by_cases q1 : t.fText = [45]
      ·simp only [q1, true_or, if_true]
       exact fin (elc 14)
      ·by_cases q2 : t.fText = [36]
       ·have q3 : ¬ ([36] : List UInt8) = [45] := by decide
        simp only [q2, q3, or_true, if_true, if_false]
        exact fin (elc 15)
       ·rw [if_neg (by simp [q1, q2]), if_neg q1, if_neg q2]
        cases hp : isPre t.fText with
        | false => exact .inr ⟨by simp, eNil, a, by simp [eNil, bx]⟩
        | true =>
         simp only [if_true]
         refine fin ?_
         rcases name_ok hT (a := a + 1) (by omega) with ⟨s, e3, hlt2, e4⟩ | ⟨e3, e4⟩
         ·rw [e3, e4]; exact .inl ⟨_, a + 1 + 1, rfl, by omega, rfl⟩
         ·rw [e3, e4]; exact .inr ⟨rfl, _, _, rfl⟩
    ·rw [if_neg h4]
     simp only [expect, h4, if_false, Option.isSome_none, Option.bind_some, Bool.false_eq_true]
     exact rest
  | pr =>
   show Ans (i_parser_primary T a) T idE (pP (f + 1) .pr (T.drop a))
   rw [i_parser_primary_eq]
   rcases dropC ha with ⟨e0, e⟩ | ⟨t, hlt, hi, e, hm⟩
   ·rw [e, if_pos (by simp [len_eq, e0])]
    exact .inr ⟨rfl, eNil, a, by simp [eNil]⟩
   ·rw [e, if_neg (by simp [len_eq]; omega), hi, pP]
    have hda1 := dropLen T (a := a + 1) (by omega)
    simp only [Option.bind_some, w64s hT hlt]
    by_cases k3 : t.fKind = 3
    ·rw [if_pos (by simp [k3]), if_pos k3]
     exact .inl ⟨_, a + 1, rfl, by omega, rfl⟩
    rw [if_neg (by simpa using k3), if_neg k3]
    by_cases k2 : t.fKind = 2
    ·rw [if_pos (by simp [k2]), if_pos k2]
     exact .inl ⟨_, a + 1, rfl, by omega, rfl⟩
    rw [if_neg (by simpa using k2), if_neg k2]
    by_cases k1 : t.fKind = 1
    ·rw [if_pos (by simp [k1]), if_pos k1]
     cases hA : t.fAfter with
     | true =>
      simp only [Bool.not_true, Bool.false_eq_true, if_false]
      exact .inl ⟨_, a + 1, rfl, by omega, rfl⟩
     | false =>
      simp only [Bool.not_false, if_true]
      rcases take_ok hT (a := a + 1) (by omega) 5 with ⟨e1, hlt2, e2⟩ | ⟨e1, e2⟩
      ·rw [e1, e2]
       simp only [Option.bind_some, if_true, bx]
       rw [i_parser_args_eq]
       have hda2 := dropLen T (a := a + 1 + 1) (by omega)
       rcases take_ok hT (a := a + 1 + 1) (by omega) 6 with ⟨e3, hlt3, e4⟩ | ⟨e3, e4⟩
       ·rw [e3, e4]
        exact .inl ⟨_, a + 1 + 1 + 1, rfl, by omega, rfl⟩
       ·rw [e3, e4]
        simp only [Option.bind_some, Bool.false_eq_true, if_false, bx]
        rcases ih (.ar []) (a + 1 + 1) (by omega) (by simp only [Md.need, Md.rk] at hf ⊢; omega) (by simp) with ⟨x, a', e5, h5, e6⟩ | ⟨e5, ks, b, e6⟩
        ·rw [e5, e6]
         exact .inl ⟨_, a', rfl, h5, rfl⟩
        ·rw [e5, e6]
         exact .inr ⟨rfl, _, b, rfl⟩
      ·rw [e1, e2]
       simp only [Option.bind_some, Bool.false_eq_true, if_false]
       exact .inl ⟨_, a + 1, rfl, by omega, rfl⟩
    rw [if_neg (by simpa using k1), if_neg k1]
    by_cases k5 : t.fKind = 5
    ·rw [if_pos (by simp [k5]), if_pos k5]
     rcases ih (.ex 1) (a + 1) (by omega) (by simp only [Md.need, Md.rk] at hf ⊢; omega) (by omega) (by omega) with ⟨x, a', e1, h2, e2⟩ | ⟨e1, e, b, e2⟩
     ·have e2 : i_parser_expr 1 T ((a + 1 : Nat) : Int) = _ := e2
      rw [e1, e2]
      simp only [Option.bind_some, if_true, bx, idE, TExpr.eta]
      rcases take_ok hT (a := a') h2 6 with ⟨e3, hlt3, e4⟩ | ⟨e3, e4⟩
      ·rw [e3, e4]
       exact .inl ⟨_, a' + 1, rfl, by omega, rfl⟩
      ·rw [e3, e4]
       exact .inr ⟨rfl, _, _, rfl⟩
     ·have e2 : i_parser_expr 1 T ((a + 1 : Nat) : Int) = _ := e2
      rw [e1, e2]
      exact .inr ⟨rfl, e, b, by simp [TExpr.eta]⟩
    ·rw [if_neg (by simpa using k5), if_neg k5]
     exact .inr ⟨rfl, eNil, a, by simp [eNil]⟩
  | ix x0 =>
   intro x3 x4 x5 x6
   rw [i_parser_element_L7_v1_eq, if_pos rfl, has_ok ha]
   simp only [Option.bind_some, i_parser_element_L13_v1_eq, TExpr.eta]
   rcases dropC ha with ⟨e0, e⟩ | ⟨t, hlt, hi, e, hm⟩
   ·rw [e]
    exact .inl ⟨x0, a, by rw [e]; rfl, ha, by simp [expect, idE, bx]⟩
   ·rw [e, pP]
    have hstop : Ans (some ((x0, true), ((T, (a : Int), ()), ()))) T idE (some (x0, t :: T.drop (a + 1))) := .inl ⟨x0, a, by rw [e], ha, rfl⟩
    by_cases h7 : t.fKind = 7
    ·have hE : expect 7 (t :: T.drop (a + 1)) = some (T.drop (a + 1)) := by simp [expect, h7]
     rw [hE]
     simp only [h7, Option.isSome_some, if_true, hi, Option.bind_some]
     cases hB : t.fBefore with
     | true =>
      simp only [Bool.not_true, Bool.false_eq_true, if_false, and_false]
      exact hstop
     | false =>
      simp only [Bool.not_false, if_true, and_self]
      have hda1 := dropLen T (a := a + 1) (by omega)
      rw [i_parser_element_L8_v1_eq, w64s hT hlt]
      rcases ih (.ex 1) (a + 1) (by omega) (by simp only [Md.need, Md.rk] at hf ⊢; omega) (by omega) (by omega) with ⟨x, a', e1, h2, e2⟩ | ⟨e1, e, b, e2⟩
      ·have e2 : i_parser_expr 1 T ((a + 1 : Nat) : Int) = _ := e2
       have hl := hlen _ _ _ _ (by omega) h2 e1
       rw [e1, e2]
       simp only [Option.bind_some, bx, idE, TExpr.eta, Bool.not_true, Bool.false_eq_true, if_false]
       rcases take_ok hT (a := a') h2 8 with ⟨e3, hlt3, e4⟩ | ⟨e3, e4⟩
       ·rw [e3, e4]
        simp only [Option.bind_some, bx, Bool.not_true, Bool.false_eq_true, if_false]
        have hda2 := dropLen T (a := a' + 1) (by omega)
        exact ih (.ix ⟨5, 0, [], [x0, x]⟩) (a' + 1) (by omega) (by simp only [Md.need, Md.rk, Md.w] at hf hl ⊢; omega) _ _ _ _
       ·rw [e3, e4]
        exact .inr ⟨rfl, eNil, a', by simp [bx, eNil]⟩
      ·have e2 : i_parser_expr 1 T ((a + 1 : Nat) : Int) = _ := e2
       rw [e1, e2]
       exact .inr ⟨rfl, eNil, b, by simp [eNil]⟩
    ·have hE : expect 7 (t :: T.drop (a + 1)) = none := by simp [expect, h7]
     rw [hE]
     simp only [h7, if_false, false_and, Option.isSome_none, Bool.false_eq_true]
     exact hstop
  | ar acc =>
   intro hacc
   rw [i_parser_args_L4_eq, pP]
   rcases ih (.ex 1) a ha (by simp only [Md.need, Md.rk] at hf ⊢; omega) (by omega) (by omega) with ⟨x, a', e1, h2, e2⟩ | ⟨e1, e, b, e2⟩
   ·have e2 : i_parser_expr 1 T (a : Int) = _ := e2
    have hl := hlen _ _ _ _ ha h2 e1
    have hda' := dropLen T h2
    rw [e1, e2]
    simp only [Option.bind_some, bx, idE, TExpr.eta, Bool.not_true, Bool.false_eq_true, if_false]
    rw [app_of (by simp; omega)]
    simp only [Option.bind_some]
    rcases take_ok hT (a := a') h2 9 with ⟨e3, hlt3, e4⟩ | ⟨e3, e4⟩
    ·rw [e3, e4]
     simp only [Option.bind_some, bx, Bool.not_true, Bool.false_eq_true, if_false]
     have hda2 := dropLen T (a := a' + 1) (by omega)
     exact ih (.ar (acc ++ [x])) (a' + 1) (by omega) (by simp only [Md.need, Md.rk, Md.w] at hf hl ⊢; omega) (by simp only [Md.w, List.length_append, List.length_singleton] at hl ⊢; omega)
    ·rw [e3, e4]
     simp only [Option.bind_some, bx, Bool.not_false, if_true]
     rcases take_ok hT (a := a') h2 6 with ⟨e5, hlt5, e6⟩ | ⟨e5, e6⟩
     ·rw [e5, e6]
      exact .inl ⟨_, a' + 1, rfl, by omega, rfl⟩
     ·rw [e5, e6]
      exact .inr ⟨rfl, _, _, rfl⟩
   ·have e2 : i_parser_expr 1 T (a : Int) = _ := e2
    rw [e1, e2]
    exact .inr ⟨rfl, [], b, by simp⟩
end Go.Dv.U

namespace Go.Dv.U
open Go Go.Dv Go.Proofs
def pNeed (n : Nat) (ts : List TToken) : Nat := (Md.ex n).need ts
def pPart (n : Nat) (ts : List TToken) : Int × TExpr × List TToken := match pP (pNeed n ts) (.ex n) ts with
 | none => (2, eNil, ts)
 | some (x, r) => if x.valid = true then (0, x, r) else (6, eNil, ts)
theorem areAll_tok {T : List TToken} (hT : T.length ≤ 1000) (hok : ∀ t ∈ T, tOk t) : i_areAll_impl_Token__i_ValidToken T = some true := by
 rw [i_areAll_impl_Token__i_ValidToken_eq]
 refine loop_ind (xs := T) (by omega) (P := fun i _ => i_areAll_impl_Token_L2__i_ValidToken T (len T) (i : Int) = some true) ?_ ?_
 ·rw [i_areAll_impl_Token_L2__i_ValidToken_eq, if_neg (by simp [len_eq])]
 ·intro i y l _ hlt hy hi hw ih
  rw [i_areAll_impl_Token_L2__i_ValidToken_eq, if_pos (by simp [len_eq]; omega), hi]
  simp only [Option.bind_some]
  have e : TToken.mk y.fKind y.fNum y.fText y.fBefore y.fAfter = y := by cases y; rfl
  simp only [e, valid_ok (hok y hy), Option.bind_some, Bool.not_true, Bool.false_eq_true, if_false, hw]
  exact ih
theorem parseAt_ok {T : List TToken} (hT : T.length ≤ 120) (hok : ∀ t ∈ T, tOk t) {a : Nat} (ha : a ≤ T.length) {n : Nat} (h1 : 1 ≤ n) (h6 : n ≤ 6) :
  (∃ x a', pPart n (T.drop a) = (0, x, T.drop a') ∧ a' ≤ T.length ∧ x.valid = true ∧ i_parseAt T a n = some (x, ((a' : Nat) : Int), 0)) ∨ (∃ c b, c ≠ 0 ∧ pPart n (T.drop a) = (c, eNil, T.drop a) ∧ i_parseAt T a n = some (eNil, b, c)) := by
 rw [i_parseAt_eq, if_neg (by simp [len_eq]; omega), areAll_tok (by omega) hok]
 simp only [Option.bind_some, Bool.not_true, Bool.false_eq_true, if_false]
 rw [i_within_ok]
 have hw : (decide (0 ≤ (a : Int)) && decide ((a : Int) ≤ len T)) = true := by simp [len_eq]; omega
 rw [hw]
 simp only [Option.bind_some, Bool.not_true, Bool.false_eq_true, if_false]
 rw [i_parseAt_L3_eq]
 unfold pPart
 rcases walk (by omega) hok (pNeed n (T.drop a)) (.ex n) a ha (Nat.le_refl _) h1 h6 with ⟨x, a', e1, h2, e2⟩ | ⟨e1, e, b, e2⟩
 ·rw [e1, e2]
  simp only [Option.bind_some, bx, idE, TExpr.eta, Bool.not_true, Bool.false_eq_true, if_false]
  have hsz := (pP_sz _ _ _ _ _ e1 fun t ht => tOk_len (hok t (List.mem_of_mem_drop ht))).2
  have hdl := dropLen T ha
  simp only [Md.mR, Md.m0] at hsz
  rw [i_ValidExpr_ok (by omega)]
  simp only [Option.bind_some]
  cases hv : x.valid with
  | true => exact .inl ⟨x, a', by simp, h2, hv, by simp⟩
  | false => exact .inr ⟨6, a, by decide, by simp, by simp [eNil]⟩
 ·rw [e1, e2]
  exact .inr ⟨2, b, by decide, rfl, by simp [eNil]⟩
end Go.Dv.U

namespace Go.Dv.U
open Go Go.Dv Go.Proofs
def toE (r : (Int × Int × List UInt8 × List TExpr × Unit) × Unit) : TExpr := ⟨r.1.1, r.1.2.1, r.1.2.2.1, r.1.2.2.2.1⟩
theorem toE_mk (k n : Int) (t : List UInt8) (ks : List TExpr) : toE ((k, n, t, ks, ()), ()) = ⟨k, n, t, ks⟩ := rfl
theorem textSe_ok (xs : List (List UInt8)) (hx : xs ≠ []) (hl : ∀ t ∈ xs, t.length ≤ 20) {c : List Int} {a s B : Int} (h : SrcOk c a B) (hB : B ≤ 4611686018427387000) : Dr (s_l00Src_text xs c a s) (B + 2) (fun v => v.length ≤ 20) :=
 (s_l00Src_text_ok xs hx h hB).le (Int.le_refl _) fun v hv => hl v hv
theorem xe_mk (k n : Int) (t : List UInt8) (ks : List TExpr) : (TExpr.mk k n t ks).m = t.length + (ks.length + sumOf TExpr.m ks) := TExpr.m_eq _
theorem s_l03Draw_L5_v1_ok {c : List Int} {a s B : Int} (h : SrcOk c a B) (hB : B ≤ 4611686018427300000) (x3 x4 : Int) (x5 : List UInt8) (x6 : List TExpr) : Dr (s_l03Draw_L5_v1 c a s x3 x4 x5 x6) (B + 10) (fun e => (toE e).m ≤ 20) := by
 rw [s_l03Draw_L5_v1_eq]
 refine (textSe_ok _ (by simp) (by decide) h (by omega)).bind fun v c a s h hv => ?_
 exact Dr.some (h.le (by omega)) (by rw [toE_mk, xe_mk]; simp [sumOf]; omega)
theorem s_l03Draw_L6_v1_ok {c : List Int} {a s B : Int} (x0 : Int) (h : SrcOk c a B) (hB : B ≤ 4611686018427300000) (x3 x4 : Int) (x5 : List UInt8) (x6 : List TExpr) : Dr (s_l03Draw_L6_v1 x0 c a s x3 x4 x5 x6) (B + 10) (fun e => (toE e).m ≤ 20) := by
 rw [s_l03Draw_L6_v1_eq]
 split
 ·refine (s_l00Src_among_ok _ (by simp) h (by omega)).bind fun v c a s h hv => ?_
  exact Dr.some (h.le (by omega)) (by rw [toE_mk, xe_mk]; simp [sumOf])
 split
 ·refine (s_l00Src_among_ok _ (by simp) h (by omega)).bind fun v c a s h hv => ?_
  exact Dr.some (h.le (by omega)) (by rw [toE_mk, xe_mk]; simp [sumOf])
 split
 ·refine (s_l00Src_pick_ok _ h (by omega)).bind fun v c a s h hv => ?_
  simp only
  refine (textSe_ok _ (by simp) (by decide) h (by omega)).bind fun v c a s h hv => ?_
  exact Dr.some (h.le (by omega)) (by rw [toE_mk, xe_mk]; simp [sumOf]; omega)
 ·refine (textSe_ok _ (by simp) (by decide) h (by omega)).bind fun v c a s h hv => ?_
  exact Dr.some (h.le (by omega)) (by rw [toE_mk, xe_mk]; simp [sumOf]; omega)
theorem sum_snoce (l : List TExpr) (e : TExpr) : sumOf TExpr.m (l ++ [e]) = sumOf TExpr.m l + e.m := by
 induction l with
 | nil => simp [sumOf]
 | cons y r ih => simp only [List.cons_append, sumOf, ih]; omega
theorem s_l03Draw_L22_v1_ok (n : Nat) (p : Nat) (hp : 1 ≤ p) (hp2 : p ≤ 1000) (ih : ∀ {c : List Int} {a s B : Int}, SrcOk c a B → B + 100 * p ≤ 4611686018427000000 → Dr (s_l03Draw_v1 (n : Int) c a s) (B + 100 * p) (fun e => (toE e).m ≤ 40 * p)) (hn : n ≤ 100) (x5 x6 : Int) (x7 : List UInt8) (x8 : List TExpr) (x9 x10 : Int) (x11 : List UInt8) (h11 : x11.length ≤ 20) :
  ∀ (k : Nat) {c : List Int} {a s B : Int} (acc : List TExpr), SrcOk c a B → B + 100 * p * k ≤ 4611686018427000000 → acc.length + k ≤ 2 → sumOf TExpr.m acc + 40 * p * k ≤ 80 * p → Dr (s_l03Draw_L22_v1 ((n + 1 : Nat) : Int) (k : Int) c a s x5 x6 x7 x8 x9 x10 x11 acc) (B + 100 * p * k) (fun e => (toE e).m ≤ 80 * p + 22) := by
 intro k
 induction k with
 | zero =>
  intro c a s B acc h hB hl hm
  rw [s_l03Draw_L22_v1_eq, if_neg (by simp)]
  exact Dr.some (h.le (by simp)) (by rw [toE_mk, xe_mk]; omega)
 | succ k ihk =>
  intro c a s B acc h hB hl hm
  have e1 : 100 * (p : Int) * ((k + 1 : Nat) : Int) = 100 * p * k + 100 * p := by
   rw [show ((k + 1 : Nat) : Int) = (k : Int) + 1 by omega, Int.mul_add, Int.mul_one]
  have e2 : 40 * p * (k + 1) = 40 * p * k + 40 * p := by rw [Nat.mul_add, Nat.mul_one]
  have e3 : 0 ≤ 100 * (p : Int) * (k : Int) := Int.mul_nonneg (by omega) (by omega)
  rw [e1] at hB ⊢
  rw [e2] at hm
  rw [s_l03Draw_L22_v1_eq, if_pos (by simp only [decide_eq_true_eq]; omega)]
  have w1 : w64 (((n + 1 : Nat) : Int) - 1) = (n : Int) := by rw [w64_of (by omega) (by omega)]; omega
  have w2 : w64 (((k + 1 : Nat) : Int) - 1) = (k : Int) := by rw [w64_of (by omega) (by omega)]; omega
  rw [w1, w2]
  refine (ih h (by omega)).bind fun v c a s h hv => ?_
  have hv : (TExpr.mk v.1.1 v.1.2.1 v.1.2.2.1 v.1.2.2.2.1).m ≤ 40 * p := hv
  simp only
  rw [app_of (by simp; omega)]
  simp only [Option.bind_some]
  refine (ihk (acc ++ [TExpr.mk v.1.1 v.1.2.1 v.1.2.2.1 v.1.2.2.2.1]) h (by omega) (by simp; omega) (by rw [sum_snoce]; omega)).le (by omega) fun _ h => h
theorem s_l03Draw_v1_ok : ∀ (n p : Nat), n ≤ 3 → p = 4 ^ n → ∀ {c : List Int} {a s B : Int}, SrcOk c a B → B + 100 * p ≤ 4611686018427000000 → Dr (s_l03Draw_v1 (n : Int) c a s) (B + 100 * p) (fun e => (toE e).m ≤ 40 * p) := by
 intro n
 induction n with
 | zero =>
  intro p _ hp c a s B h hB
  have hp1 : p = 1 := by simpa using hp
  subst hp1
  rw [s_l03Draw_v1_eq, if_pos (by simp)]
  refine (s_l00Src_pick_ok _ h (by omega)).bind fun v c a s h hv => ?_
  simp only
  split
  ·exact (s_l03Draw_L5_v1_ok h (by omega) _ _ _ _).le (by omega) fun e he => by omega
  split
  ·exact (s_l03Draw_L5_v1_ok h (by omega) _ _ _ _).le (by omega) fun e he => by omega
  ·exact (s_l03Draw_L6_v1_ok _ h (by omega) _ _ _ _).le (by omega) fun e he => by omega
 | succ n ihn =>
  intro P hn hP c a s B h hB
  have hP2 : P = 4 * 4 ^ n := by rw [hP, Nat.pow_succ]; omega
  have hpos : 1 ≤ 4 ^ n := by
   rcases Nat.eq_zero_or_pos (4 ^ n) with e | e
   ·simp at e
   ·exact e
  have hle : 4 ^ n ≤ 16 := Nat.pow_le_pow_right (n := 4) (by omega) (show n ≤ 2 by omega)
  have ih := @ihn (4 ^ n) (by omega) rfl
  generalize 4 ^ n = p at hP2 hpos hle ih
  have w1 : w64 (((n + 1 : Nat) : Int) - 1) = (n : Int) := by rw [w64_of (by omega) (by omega)]; omega
  rw [s_l03Draw_v1_eq, if_neg (by simp; omega), w1]
  refine (s_l00Src_one_ok _ h (by omega)).bind fun v c a s h _ => ?_
  simp only
  split
  ·refine (s_l00Src_pick_ok _ h (by omega)).bind fun v c a s h hv => ?_
   simp only
   split
   ·exact (s_l03Draw_L5_v1_ok h (by omega) _ _ _ _).le (by omega) fun e he => by omega
   split
   ·exact (s_l03Draw_L5_v1_ok h (by omega) _ _ _ _).le (by omega) fun e he => by omega
   ·exact (s_l03Draw_L6_v1_ok _ h (by omega) _ _ _ _).le (by omega) fun e he => by omega
  ·refine (ih h (by omega)).bind fun A c a s h hA => ?_
   have hA : (TExpr.mk A.1.1 A.1.2.1 A.1.2.2.1 A.1.2.2.2.1).m ≤ 40 * p := hA
   simp only
   refine (s_l00Src_pick_ok _ h (by omega)).bind fun v c a s h hv => ?_
   simp only
   split
   ·refine (s_l00Src_pick_ok _ h (by omega)).bind fun v c a s h hv => ?_
    simp only
    exact Dr.some (h.le (by omega)) (by rw [toE_mk, xe_mk]; simp [sumOf]; omega)
   split
   ·refine (s_l00Src_pick_ok _ h (by omega)).bind fun v c a s h hv => ?_
    simp only
    refine (textSe_ok _ (by simp) (by decide) h (by omega)).bind fun v c a s h hv => ?_
    simp only [s_l03Pair_v1_eq, Option.bind_some]
    exact Dr.some (h.le (by omega)) (by rw [toE_mk, xe_mk]; simp [sumOf, xe_mk] at hA ⊢; omega)
   split
   ·refine (textSe_ok _ (by simp) (by decide) h (by omega)).bind fun t c a s h ht => ?_
    simp only
    refine (s_l00Src_pick_ok _ h (by omega)).bind fun v c a s h hv => ?_
    simp only
    obtain ⟨k, rfl⟩ : ∃ k : Nat, v = k := ⟨v.toNat, by omega⟩
    have hk : k ≤ 2 := by have := hv.2.1 (by decide); omega
    have e1 : 100 * (p : Int) * (k : Int) ≤ 200 * p := by
     have : 100 * (p : Int) * (k : Int) ≤ 100 * p * 2 := Int.mul_le_mul_of_nonneg_left (by omega) (by omega)
     omega
    have e2 : 40 * p * k ≤ 80 * p := by
     have : 40 * p * k ≤ 40 * p * 2 := Nat.mul_le_mul_left _ hk
     omega
    refine (s_l03Draw_L22_v1_ok n p hpos (by omega) ih (by omega) _ _ _ _ _ _ _ ht k [] h (by omega) (by simp; omega) (by simpa [sumOf] using e2)).le (by omega) fun e he => by omega
   split
   ·refine (ih h (by omega)).bind fun D c a s h hD => ?_
    have hD : (TExpr.mk D.1.1 D.1.2.1 D.1.2.2.1 D.1.2.2.2.1).m ≤ 40 * p := hD
    simp only [s_l03Pair_v1_eq, Option.bind_some]
    exact Dr.some (h.le (by omega)) (by rw [toE_mk, xe_mk]; simp [sumOf]; omega)
   ·refine (s_l00Src_pick_ok _ h (by omega)).bind fun v c a s h hv => ?_
    simp only
    refine (ih h (by omega)).bind fun D c a s h hD => ?_
    have hD : (TExpr.mk D.1.1 D.1.2.1 D.1.2.2.1 D.1.2.2.2.1).m ≤ 40 * p := hD
    simp only [s_l03Pair_v1_eq, Option.bind_some]
    exact Dr.some (h.le (by omega)) (by rw [toE_mk, xe_mk]; simp [sumOf]; omega)
theorem s_l03Bent_L13_v1_ok : ∀ (j k : Nat), k + j = 6 → ∀ {c : List Int} {a s B : Int} (x4 x5 : Int) (x6 : List UInt8) (x7 : List TExpr) (e : TExpr), SrcOk c a B → e.m + 2 ≤ 4000 * 2 ^ k → Dr (s_l03Bent_L13_v1 (k : Int) c a s x4 x5 x6 x7 e.fKind e.fNum e.fText e.fKids) B (fun e => e.m ≤ 256000) := by
 intro j
 induction j with
 | zero =>
  intro k hk c a s B x4 x5 x6 x7 e h he
  have : k = 6 := by omega
  subst this
  rw [s_l03Bent_L13_v1_eq, if_neg (by decide), s_l03Bent_L16_v1_eq, TExpr.eta]
  exact Dr.some h (by omega)
 | succ j ih =>
  intro k hk c a s B x4 x5 x6 x7 e h he
  have w : w64 ((k : Int) + 1) = ((k + 1 : Nat) : Int) := by rw [w64_of (by omega) (by omega)]; omega
  rw [s_l03Bent_L13_v1_eq, if_pos (by simp; omega), s_l03Pair_v1_eq, w]
  simp only [Option.bind_some, TExpr.eta]
  refine ih (k + 1) (by omega) x4 x5 x6 x7 ⟨7, 0, [], [e, e]⟩ h ?_
  rw [xe_mk, Nat.pow_succ]
  simp [sumOf]
  omega
theorem toE_m (r : (Int × Int × List UInt8 × List TExpr × Unit) × Unit) : (toE r).m = r.1.2.2.1.length + (r.1.2.2.2.1.length + sumOf TExpr.m r.1.2.2.2.1) := by unfold toE; rw [xe_mk]
theorem s_l03Bent_ok {c : List Int} {a s B : Int} (h : SrcOk c a B) (hB : B ≤ 4611686018420000000) : Dr (s_l03Bent c a s) (B + 7000) (fun e => e.m ≤ 256000) := by
 rw [s_l03Bent_eq]
 refine (s_l03Draw_v1_ok 3 64 (by omega) rfl h (by omega)).bind fun A c a s h hA => ?_
 rw [toE_m] at hA
 simp only
 refine (s_l00Src_pick_ok _ h (by omega)).bind fun v c a s h hv => ?_
 simp only
 split
 ·refine (s_l00Src_pick_ok _ h (by omega)).bind fun v c a s h hv => ?_
  simp only [s_l03Bent_L16_v1_eq]
  exact Dr.some (h.le (by omega)) (by rw [xe_mk]; omega)
 split
 ·refine (textSe_ok _ (by simp) (by decide) h (by omega)).bind fun v c a s h hv => ?_
  simp only [s_l03Bent_L16_v1_eq]
  exact Dr.some (h.le (by omega)) (by rw [xe_mk]; omega)
 split
 ·refine (s_l00Src_among_ok _ (by simp) h (by omega)).bind fun v c a s h hv => ?_
  simp only [s_l03Bent_L16_v1_eq]
  exact Dr.some (h.le (by omega)) (by rw [xe_mk]; omega)
 split
 ·rw [app_of (by simp; omega)]
  simp only [Option.bind_some, s_l03Bent_L16_v1_eq]
  exact Dr.some (h.le (by omega)) (by rw [xe_mk, sum_snoce, xe_mk]; simp [sumOf]; omega)
 split
 ·exact (s_l03Bent_L13_v1_ok 6 0 rfl 0 0 [] [] (toE A) h (by rw [toE_m]; omega)).le (by omega) fun _ h => h
 ·simp only [s_l03Bent_L16_v1_eq]
  exact Dr.some (h.le (by omega)) (by rw [xe_mk]; omega)
end Go.Dv.U

namespace Go.Dv.U
open Go Go.Dv Go.Proofs
theorem bxE_inj {T : List TToken} {a b : Nat} (h : bx T a = bx T b) : a = b := by
 unfold bx at h
 have := congrArg (fun p : (List TToken × Int × Unit) × Unit => p.1.2.1) h
 simp only at this; omega
theorem PR_needE {ts : List TToken} (hT : ts.length ≤ 1000) (hok : ∀ t ∈ ts, tOk t) {n : Nat} (h1 : 1 ≤ n) (h6 : n ≤ 6) {x : TExpr} {r : List TToken} (h : PR (.ex n) ts (x, r)) : pP (pNeed n ts) (.ex n) ts = some (x, r) := by
 obtain ⟨f, hf⟩ := h
 have w1 := walk hT hok (pNeed n ts) (.ex n) 0 (Nat.zero_le _) (Nat.le_refl _) h1 h6
 have w2 := walk hT hok (max f (pNeed n ts)) (.ex n) 0 (Nat.zero_le _) (Nat.le_max_right _ _) h1 h6
 rw [List.drop_zero] at w1 w2
 rw [hf _ (Nat.le_max_left _ _)] at w2
 rcases w2 with ⟨x2, a2, e1, _, e2⟩ | ⟨e1, _⟩
 ·rcases w1 with ⟨x1, a1, e3, _, e4⟩ | ⟨e3, e, b, e4⟩
  ·rw [e2] at e4
   simp only [Option.some.injEq, Prod.mk.injEq, idE, and_true] at e4
   obtain ⟨rfl, e5⟩ := e4
   have := bxE_inj e5
   subst this
   rw [e3, e1]
  ·rw [e2] at e4
   simp at e4
 ·cases e1
theorem pPart_ofE {ts : List TToken} (hT : ts.length ≤ 1000) (hok : ∀ t ∈ ts, tOk t) {n : Nat} (h1 : 1 ≤ n) (h6 : n ≤ 6) {x : TExpr} {r : List TToken} (h : PR (.ex n) ts (x, r)) (hv : x.valid = true) : pPart n ts = (0, x, r) := by
 unfold pPart
 rw [PR_needE hT hok h1 h6 h]
 simp [hv]
theorem scanE_sc {x : List UInt8} (h : (scanT x).2.2 = 0) : allPl x = true ∧ x.length ≤ 4000 ∧ Sc true x (scanT x).1 := by
 unfold scanT at h ⊢
 by_cases hc : x.length ≤ 4000 ∧ allPl x = true
 ·rw [if_pos hc] at h ⊢
  obtain ⟨L, h1, h2⟩ := scanL_sc x.length x true [] 0 (scanL x.length x true [] 0).1 (scanL x.length x true [] 0).2.1 (Nat.le_refl _) (by rw [← h])
  rw [h2]
  exact ⟨hc.2, hc.1, h1⟩
 ·rw [if_neg hc] at h; cases h
theorem scanE_ok {x : List UInt8} (h : (scanT x).2.2 = 0) : Sc true x (scanT x).1 ∧ (∀ t ∈ (scanT x).1, tOk t) ∧ (scanT x).1.length ≤ 120 := by
 obtain ⟨_, _, h1⟩ := scanE_sc h
 obtain ⟨_, h2, h3, _⟩ := scan_print (x := x) (L := (scanT x).1) (e := (scanT x).2.1) (by rw [← h])
 exact ⟨h1, h2, h3⟩
theorem sc_nilE {bl : Bool} {L : List TToken} (h : Sc bl [] L) : L = [] := by
 cases h with
 | nil => rfl
 | tok _ _ ht _ => cases ht
theorem sameE_ok : ∀ (N : Nat) (e : TExpr), e.m < N → N ≤ 1100000 → s_l03Same e.fKind e.fNum e.fText e.fKids e.fKind e.fNum e.fText e.fKids = some true := by
 intro N
 induction N with
 | zero => intro e h; omega
 | succ N ih =>
  intro e h hN
  have hm := e.m_eq
  rw [s_l03Same_eq, if_neg (by simp), if_neg (by simp), if_neg (by simp), if_neg (by simp), s_l03Same_L3_eq]
  refine loop_ind (xs := e.fKids) (by omega) (P := fun i _ => s_l03Same_L4 e.fKind e.fNum e.fText e.fKids e.fKind e.fNum e.fText e.fKids (i : Int) = some true) ?_ ?_
  ·rw [s_l03Same_L4_eq, if_neg (by simp [len_eq])]
  ·intro i y l _ hlt hy hi hw ih2
   have := sumOf_mem (m := TExpr.m) hy
   have hpos : 0 < e.fKids.length := List.length_pos_of_mem hy
   rw [s_l03Same_L4_eq, if_pos (by simp [len_eq]; omega), hi]
   simp only [Option.bind_some]
   rw [ih y (by omega) (by omega)]
   simp only [Option.bind_some, Bool.not_true, Bool.false_eq_true, if_false, hw]
   exact ih2
theorem exprOf_rt {x : TExpr} (hv : x.valid = true) : i_ExprOf x.text = some (if (scanT x.text).2.2 = 0 then (x, true) else (eNil, false)) := by
 have hv' := hv
 unfold TExpr.valid at hv'
 rw [Bool.and_eq_true_iff, decide_eq_true_eq] at hv'
 have hlen := x.text_len hv'.1
 rw [i_ExprOf_eq, i_ScanTokens_ok (by omega)]
 simp only [Option.bind_some]
 by_cases hk : (scanT x.text).2.2 = 0
 ·obtain ⟨k1, k2, k3⟩ := scanE_ok hk
  rw [if_neg (by simpa using hk), if_pos hk]
  have hr := main_rt x hv'.1 true [] (scanT x.text).1 (fun b q e => by cases e) (by rw [List.append_nil]; exact k1)
  obtain ⟨Lr, h1, h2⟩ := hr
  have hLr := sc_nilE h1
  subst hLr
  have hl := eLevel_rng x.fKind
  have hpr : PR (.ex 1) (scanT x.text).1 (x, []) := h2.fin (n := 1) (by omega) (by omega) (by omega) (fun t r e => by cases e) (fun j _ _ => rfl)
  have hp := pPart_ofE (by omega) k2 (by omega) (by omega) hpr hv
  rw [i_ParseExpr_eq]
  rcases parseAt_ok k3 k2 (a := 0) (Nat.zero_le _) (n := 1) (by omega) (by omega) with ⟨y, a', e1, h3, _, e2⟩ | ⟨c, b, hc, e1, e2⟩
  ·rw [List.drop_zero, hp] at e1
   simp only [Prod.mk.injEq, true_and] at e1
   obtain ⟨rfl, e3⟩ := e1
   have hd := dropLen (scanT x.text).1 h3
   rw [← e3] at hd
   have ha : a' = (scanT x.text).1.length := by simpa using hd
   have e2 : i_parseAt (scanT x.text).1 0 1 = _ := e2
   rw [e2]
   simp only [Option.bind_some, TExpr.eta, bne_self_eq_false, Bool.false_eq_true, if_false, ha, len_eq]
  ·rw [List.drop_zero, hp] at e1
   simp only [Prod.mk.injEq] at e1
   exact absurd e1.1.symm hc
 ·rw [if_pos (by simpa using hk), if_neg hk]; rfl
theorem text_ne {x : TExpr} (hg : x.good = true) : x.text ≠ [] := by
 intro h
 have h1 := main_rt x hg true [] [] (fun b q e => by cases e) (by rw [h]; exact .nil _)
 obtain ⟨Lr, _, h2⟩ := h1
 obtain ⟨t, q, e, _⟩ := h2.hd
 cases e
theorem l_FnExprRound_ok {x : List Int} (hx : BytesOk x) : l_FnExprRound x = some true := by
 rw [l_FnExprRound_eq, l_c2Long_eq]
 simp only [Option.bind_some]
 split
 ·rfl
 ·obtain ⟨e, c, a, s, he, _, hm⟩ := s_l03Bent_ok (s := 0) (c := x) (a := 0) (B := 0) ⟨hx.2, hx.1, by omega, by omega⟩ (by omega)
  rw [s_DrawPrintExpr_eq, he]
  simp only [Option.bind_some, TExpr.eta, TExpr.re_eq]
  rw [i_PrintExpr_ok (by omega)]
  simp only [Option.bind_some]
  cases hv : e.valid with
  | false =>
   simp only [Bool.false_eq_true, if_false, beq_self_eq_true, if_true]
   rw [s_ValidExpr_eq, s_l03Ok_ok (by omega), hv]; rfl
  | true =>
   have hg : e.good = true := by unfold TExpr.valid at hv; rw [Bool.and_eq_true_iff] at hv; exact hv.1
   have hv' := hv
   unfold TExpr.valid at hv'
   rw [Bool.and_eq_true_iff, decide_eq_true_eq] at hv'
   have hlen := e.text_len hg
   have hne : (e.text == []) = false := by simpa using text_ne hg
   simp only [if_true, hne, Bool.false_eq_true, if_false]
   rw [exprOf_rt hv]
   simp only [Option.bind_some]
   by_cases hk : (scanT e.text).2.2 = 0
   ·simp only [hk, if_true, Bool.not_true, Bool.false_eq_true, if_false, TExpr.eta]
    rw [s_SameExpr_eq, sameE_ok 1048577 e (by omega) (by omega), i_PrintExpr_ok (by omega), if_pos hv]
    simp
   ·simp only [hk, if_false, Bool.not_false, if_true]
    rw [s_ScanTokens_ok (by omega)]
    simpa using hk
end Go.Dv.U
