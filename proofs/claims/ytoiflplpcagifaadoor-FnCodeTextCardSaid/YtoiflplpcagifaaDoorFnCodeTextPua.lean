/- Plain laws about these equations. -/
import Derived.Test.YtoiflplpcagifaaDoorFnCodeTextEqa
set_option linter.all false
set_option linter.unusedVariables false
set_option linter.unusedSimpArgs false
namespace Go.Dv.U
open Go Go.Dv Go.Proofs
theorem i_within_ok (a b c : Int) : i_within a b c = some (decide (b ≤ a) && decide (a ≤ c)) := by
 rw [i_within_eq]; grind
theorem s_l00In_ok (a b c : Int) : s_l00In a b c = some (decide (b ≤ a) && decide (a ≤ c)) := by
 rw [s_l00In_eq]; grind
end Go.Dv.U

namespace Go.Dv.U
open Go Go.Dv Go.Proofs
def isLet (b : Int) : Bool := (decide (65 ≤ b) && decide (b ≤ 90)) || (decide (97 ≤ b) && decide (b ≤ 122))
def isDig (b : Int) : Bool := decide (48 ≤ b) && decide (b ≤ 57)
def isNmB (b : Int) : Bool := isLet b || isDig b || b == 95
theorem i_isLetter_ok (b : Int) : i_isLetter b = some (isLet b) := by
 rw [i_isLetter_eq]; unfold isLet; grind
theorem s_l02Letter_ok (b : Int) : s_l02Letter b = some (isLet b) := by
 rw [s_l02Letter_eq]; unfold isLet; grind
theorem i_isDigit_ok (b : Int) : i_isDigit b = some (isDig b) := by
 rw [i_isDigit_eq]; unfold isDig; grind
theorem s_l02Digit_ok (b : Int) : s_l02Digit b = some (isDig b) := by
 rw [s_l02Digit_eq]; unfold isDig; grind
theorem i_isNameByte_ok (b : Int) : i_isNameByte b = some (isNmB b) := by
 rw [i_isNameByte_eq, i_isLetter_ok, i_isDigit_ok]; unfold isNmB
 simp only [Option.bind_some]; grind
def isName (s : List UInt8) : Bool := match s with
 | [] => false
 | b :: _ => decide (s.length ≤ 12) && isLet (ib b) && s.all fun c => isNmB (ib c)
theorem i_areAllNm_ok {s : List UInt8} (h : s.length ≤ 9223372036854775807) : i_areAll_byte__i_isNameByte (s.map ib) = some (s.all fun c => isNmB (ib c)) := by
 rw [i_areAll_byte__i_isNameByte_eq]
 have := all_loop (xs := s.map ib) (by simpa using h) (F := i_isNameByte) (p := isNmB) (J := i_areAll_byte_L2__i_isNameByte (s.map ib) (len (s.map ib))) (fun i => by rw [i_areAll_byte_L2__i_isNameByte_eq]) (fun y _ => i_isNameByte_ok y)
 rw [this, List.all_map]
 rfl
theorem i_IsName_ok {s : List UInt8} : i_IsName s = some (isName s) := by
 rw [i_IsName_eq]
 cases s with
 | nil => simp [isName, len_eq]
 | cons b r =>
  by_cases h : (b :: r).length ≤ 12
  ·have h1 : decide (len (b :: r) ≥ 1) = true := by simp only [len_eq, List.length_cons, decide_eq_true_eq]; omega
   have h2 : decide (len (b :: r) ≤ 12) = true := by simp only [len_eq, decide_eq_true_eq]; omega
   rw [if_pos h1, if_pos h2, idx_zero]
   simp only [List.getElem?_cons_zero, Option.bind_some, i_isLetter_ok]
   have := i_areAllNm_ok (s := b :: r) (by omega)
   simp only [List.map_cons] at this ⊢
   rw [this]
   simp only [isName, h, decide_true, Bool.true_and, Option.bind_some]
   cases isLet (ib b) <;> simp
  ·have h2 : ¬ decide (len (b :: r) ≤ 12) = true := by simp only [len_eq, decide_eq_true_eq]; omega
   rw [if_neg h2]
   simp only [isName, h, decide_false, Bool.false_and]
   split <;> rfl
def nmRun : List UInt8 → Nat
 | [] => 0
 | b :: r => if isNmB (ib b) then nmRun r + 1 else 0
theorem nmRun_all : ∀ s, nmRun s = s.length ↔ (s.all fun c => isNmB (ib c)) = true
 | [] => by simp [nmRun]
 | b :: r => by
  have := nmRun_all r
  simp only [nmRun, List.length_cons, List.all_cons, Bool.and_eq_true]
  cases isNmB (ib b)
  ·simp
  ·simp [this]
theorem s_l02NameEnd_L3_ok {s : List UInt8} (h : s.length ≤ 9223372036854775807) : ∀ (n i : Nat), i + n = s.length → s_l02NameEnd_L3 s i = some ((i + nmRun (s.drop i) : Nat) : Int) := by
 intro n
 induction n with
 | zero =>
  intro i hi
  have : i = s.length := by omega
  subst this
  rw [s_l02NameEnd_L3_eq, s_l02NameEnd_L5_eq, List.drop_length]
  simp [len_eq, nmRun]
 | succ n ih =>
  intro i hi
  have hlt : i < s.length := by omega
  have hc : decide ((i : Int) < len s) = true := by simp [len_eq, hlt]
  rw [s_l02NameEnd_L3_eq, if_pos hc, idx_nat, List.getElem?_eq_getElem hlt, List.drop_eq_getElem_cons hlt]
  simp only [Option.bind_some, s_l02Letter_ok, s_l02Digit_ok, s_l02NameEnd_L4_eq, s_l02NameEnd_L5_eq, nmRun]
  have hw : w64 ((i : Int) + 1) = ((i + 1 : Nat) : Int) := by rw [w64_of (by omega) (by omega)]; omega
  rw [hw, ih (i + 1) (by omega)]
  unfold isNmB
  cases isLet (ib s[i]) <;> cases isDig (ib s[i]) <;> cases hb : (ib s[i] == 95) <;> simp <;> omega
theorem s_l02NameEnd_ok {s : List UInt8} (h : s.length ≤ 9223372036854775807) {i : Nat} (hi : i ≤ s.length) :
  s_l02NameEnd s i = some (match s.drop i with
   | [] => (i : Int)
   | b :: r => if isLet (ib b) then ((i + nmRun (b :: r) : Nat) : Int) else i) := by
 rw [s_l02NameEnd_eq]
 by_cases hlt : i < s.length
 ·have hc : ¬ decide ((i : Int) ≥ len s) = true := by simp only [len_eq, decide_eq_true_eq]; omega
  rw [if_neg hc, idx_nat, List.getElem?_eq_getElem hlt, List.drop_eq_getElem_cons hlt]
  simp only [Option.bind_some, s_l02Letter_ok]
  rw [s_l02NameEnd_L3_ok h (s.length - i) i (by omega), List.drop_eq_getElem_cons hlt]
  cases isLet (ib s[i]) <;> simp
 ·have : i = s.length := by omega
  subst this
  rw [List.drop_length]
  simp [len_eq]
theorem s_IsName_ok {s : List UInt8} : s_IsName s = some (isName s) := by
 rw [s_IsName_eq]
 cases s with
 | nil => simp [isName]
 | cons b r =>
  have h0 : (!(b :: r) == []) = true := rfl
  rw [if_pos h0]
  by_cases h : (b :: r).length ≤ 12
  ·have h2 : decide (len (b :: r) ≤ 12) = true := by simp only [len_eq, decide_eq_true_eq]; omega
   have := s_l02NameEnd_ok (s := b :: r) (by omega) (Nat.zero_le _)
   simp only [Int.natCast_zero, List.drop_zero, Nat.zero_add] at this
   rw [if_pos h2, this]
   simp only [isName, h, decide_true, Bool.true_and, Option.bind_some, len_eq]
   congr 1
   rw [Bool.eq_iff_iff, Bool.and_eq_true, ← nmRun_all]
   cases hL : isLet (ib b)
   ·simp; omega
   ·simp; omega
  ·have h2 : ¬ decide (len (b :: r) ≤ 12) = true := by simp only [len_eq, decide_eq_true_eq]; omega
   rw [if_neg h2]
   simp only [isName, h, decide_false, Bool.false_and]
end Go.Dv.U

namespace Go.Dv.U
open Go Go.Dv Go.Proofs
def isPl (b : UInt8) : Bool := decide (32 ≤ ib b) && decide (ib b ≤ 126)
def allPl (s : List UInt8) : Bool := s.all isPl
def hasB (c : Int) (s : List UInt8) : Bool := s.any fun b => ib b == c
theorem i_isPlain_ok (b : Int) : i_isPlain b = some (decide (32 ≤ b) && decide (b ≤ 126)) := by
 rw [i_isPlain_eq]; grind
theorem i_isPlainText_ok {s : List UInt8} (h : s.length ≤ 9223372036854775807) : i_isPlainText s = some (allPl s) := by
 rw [i_isPlainText_eq, i_areAll_byte__i_isPlain_eq]
 have := all_loop (xs := s.map ib) (by simpa using h) (F := i_isPlain) (p := fun b => decide (32 ≤ b) && decide (b ≤ 126)) (J := i_areAll_byte_L2__i_isPlain (s.map ib) (len (s.map ib))) (fun i => by rw [i_areAll_byte_L2__i_isPlain_eq]) (fun y _ => i_isPlain_ok y)
 rw [this, List.all_map]
 rfl
def isPr (x : Bool) (b : UInt8) : Bool := isPl b || (x && ib b == 10)
theorem s_l01Printable_ok' {s : List UInt8} (h : s.length ≤ 9223372036854775807) (x : Bool) : s_l01Printable s x = some (s.all (isPr x)) := by
 rw [s_l01Printable_eq]
 refine loop_ind (xs := s) h (P := fun i l => s_l01Printable_L2 s x i = some (l.all (isPr x))) ?_ ?_
 ·rw [s_l01Printable_L2_eq]; simp [len_eq]
 ·intro i y l _ hlt hy hi hw ih
  rw [s_l01Printable_L2_eq, hi, if_pos (by simp [len_eq, hlt])]
  simp only [Option.bind_some, s_l01Printable_L5_eq, s_l01Printable_L3_eq, hw, ih, List.all_cons, isPr, isPl]
  by_cases h1 : ib y < 32
  ·have h3 : ¬ (32 ≤ ib y) := by omega
   cases x <;> by_cases h2 : ib y = 10 <;> simp [h1, h2, h3]
  ·have h3 : 32 ≤ ib y := by omega
   by_cases h2 : ib y > 126
   ·have h4 : ¬ (ib y ≤ 126) := by omega
    have h5 : ¬ ib y = 10 := by omega
    cases x <;> simp [h1, h2, h3, h4, h5]
   ·have h4 : ib y ≤ 126 := by omega
    cases x <;> simp [h1, h2, h3, h4]
theorem s_l01Printable_ok {s : List UInt8} (h : s.length ≤ 9223372036854775807) : s_l01Printable s false = some (allPl s) := by
 rw [s_l01Printable_ok' h]
 congr 1
 unfold allPl
 congr 1
 funext b
 simp [isPr]
theorem s_l02Holds_ok {s : List UInt8} (h : s.length ≤ 9223372036854775807) (c : Int) : s_l02Holds s c = some (hasB c s) := by
 rw [s_l02Holds_eq]
 exact any_loop h (p := fun b => ib b == c) (J := s_l02Holds_L2 s c) (fun i => by rw [s_l02Holds_L2_eq])
theorem index_one (c : UInt8) : ∀ s : List UInt8, decide (0 ≤ Lib.index s [c]) = hasB (ib c) s
 | [] => by simp [Lib.index, hasB]
 | b :: l => by
  have ih := index_one c l
  have hge := Lib.index_ge l [c]
  unfold Lib.index
  have hp : [c].isPrefixOf (b :: l) = (ib b == ib c) := by
   rw [Bool.eq_iff_iff]
   simp only [List.isPrefixOf, Bool.and_true, beq_iff_eq, ib_inj]
   exact eq_comm
  have hh : hasB (ib c) (b :: l) = (ib b == ib c || hasB (ib c) l) := rfl
  rw [hp, hh, ← ih]
  cases (ib b == ib c)
  ·simp only [Bool.false_eq_true, if_false, Bool.false_or]
   split
   ·rename_i h; rw [beq_iff_eq] at h; rw [h]
   ·rename_i h
    have h : ¬ Lib.index l [c] = -1 := by simpa using h
    rw [Bool.eq_iff_iff, decide_eq_true_eq, decide_eq_true_eq]; omega
  ·simp
theorem containsS_one {s : List UInt8} (h : s.length < 4294967281) (c : UInt8) : containsS s [c] = some (hasB (ib c) s) := by
 unfold containsS
 rw [if_pos h, ← index_one]
 rfl
def canQ (s : List UInt8) : Bool := decide (s.length ≤ 200) && allPl s && !(hasB 39 s && hasB 34 s)
def quote (s : List UInt8) : List UInt8 := if canQ s = true then (if hasB 39 s = true then 34 :: s ++ [34] else 39 :: s ++ [39]) else []
theorem c39 (s : List UInt8) (h : s.length ≤ 200) : containsS s [39] = some (hasB 39 s) := containsS_one (by omega) 39
theorem c34 (s : List UInt8) (h : s.length ≤ 200) : containsS s [34] = some (hasB 34 s) := containsS_one (by omega) 34
theorem i_CanQuote_ok (s : List UInt8) : i_CanQuote s = some (canQ s) := by
 rw [i_CanQuote_eq]
 by_cases h : s.length ≤ 200
 ·have h1 : decide (len s ≤ 200) = true := by simp only [len_eq, decide_eq_true_eq]; omega
  rw [if_pos h1, i_isPlainText_ok (by omega), c39 s h, c34 s h]
  simp only [Option.bind_some, canQ, h, decide_true, Bool.true_and]
  cases allPl s <;> cases hasB 39 s <;> simp
 ·have h1 : ¬ decide (len s ≤ 200) = true := by simp only [len_eq, decide_eq_true_eq]; omega
  rw [if_neg h1]
  simp [canQ, h]
theorem s_CanQuote_ok (s : List UInt8) : s_CanQuote s = some (canQ s) := by
 rw [s_CanQuote_eq]
 by_cases h : s.length ≤ 200
 ·have h1 : decide (len s ≤ 200) = true := by simp only [len_eq, decide_eq_true_eq]; omega
  rw [if_pos h1, s_l01Printable_ok (by omega), s_l02Holds_ok (by omega), s_l02Holds_ok (by omega)]
  simp only [Option.bind_some, canQ, h, decide_true, Bool.true_and]
  cases allPl s <;> cases hasB 39 s <;> simp
 ·have h1 : ¬ decide (len s ≤ 200) = true := by simp only [len_eq, decide_eq_true_eq]; omega
  rw [if_neg h1]
  simp [canQ, h]
theorem canQ_len {s : List UInt8} (h : canQ s = true) : s.length ≤ 200 := by
 unfold canQ at h
 simp only [Bool.and_eq_true_iff, decide_eq_true_eq] at h
 exact h.1.1
theorem quote_len (s : List UInt8) : (quote s).length ≤ 202 := by
 unfold quote
 split
 ·rename_i h
  have := canQ_len h
  split <;> simp <;> omega
 ·simp
theorem i_QuoteString_ok (s : List UInt8) : i_QuoteString s = some (quote s) := by
 rw [i_QuoteString_eq, i_CanQuote_ok]
 simp only [Option.bind_some, quote]
 cases h : canQ s
 ·rfl
 ·have hl := canQ_len h
  simp only [Bool.not_true, Bool.false_eq_true, if_false, if_true, c39 s hl, Option.bind_some]
  rw [app_of (by simp; omega), app_of (by simp; omega)]
  simp only [Option.bind_some]
  rw [app_of (by simp; omega), app_of (by simp; omega)]
  cases hasB 39 s <;> rfl
theorem s_QuoteString_ok (s : List UInt8) : s_QuoteString s = some (quote s) := by
 rw [s_QuoteString_eq, s_CanQuote_ok]
 simp only [Option.bind_some, quote]
 cases h : canQ s
 ·rfl
 ·have hl := canQ_len h
  simp only [Bool.not_true, Bool.false_eq_true, if_false, if_true, s_l02Holds_ok (show s.length ≤ 9223372036854775807 by omega), Option.bind_some]
  rw [app_of (by simp; omega), app_of (by simp; omega)]
  simp only [Option.bind_some]
  rw [app_of (by simp; omega), app_of (by simp; omega)]
  cases hasB 39 s <;> rfl
theorem nDigits_le : ∀ (k u : Nat), u < 10 ^ (k + 1) → Lib.nDigits u ≤ k + 1
 | 0, u, h => by rw [Lib.nDigits_small (by simpa using h)]; exact Nat.le_refl _
 | k + 1, u, h => by
  by_cases hu : u < 10
  ·rw [Lib.nDigits_small hu]; omega
  ·rw [Lib.nDigits_big hu]
   have := nDigits_le k (u / 10) (by rw [Nat.div_lt_iff_lt_mul (by decide)]; rw [Nat.pow_succ] at h; exact h)
   omega
theorem digit_byte {r : Int} (h0 : 0 ≤ r) (h1 : r < 10) : UInt8.ofNat (Int.toNat (IntKind.wrap .u8 (w64 (48 + r)))) = UInt8.ofNat (48 + r.toNat) := by
 rw [w64_of (by omega) (by omega)]
 have e2 : IntKind.u8.wrap (48 + r) = 48 + r := by unfold IntKind.wrap; simp [IntKind.bits, IntKind.signed]; omega
 rw [e2]
 congr 1
 omega
theorem rem_ten (u : Nat) : rem (u : Int) 10 = some ((u % 10 : Nat) : Int) := by
 unfold rem
 rw [if_neg (by decide), Int.tmod_eq_emod_of_nonneg (by omega)]
 congr 1
theorem quo_ten {u : Nat} (h : u < 9223372036854775808) : quo .i64 (u : Int) 10 = some ((u / 10 : Nat) : Int) := by
 unfold quo
 rw [if_neg (by decide), Int.tdiv_eq_ediv_of_nonneg (by omega)]
 congr 1
 have : IntKind.i64.wrap ((u : Int) / 10) = w64 ((u : Int) / 10) := rfl
 rw [this, w64_of (by omega) (by omega)]
 omega
theorem itoa_nat (u : Nat) : Lib.itoa (u : Int) = Lib.decDigits u := by
 unfold Lib.itoa
 rw [if_neg (by omega)]
 rfl
theorem i_decimal_ok {n : Int} (h0 : -9223372036854775808 ≤ n) (h1 : n ≤ 9223372036854775807) : i_decimal n = some (Lib.itoa n) := by
 rw [i_decimal_eq]
 unfold itoaS
 rw [if_pos ⟨rfl, h0, h1⟩]
 rfl
theorem itoa_len {n : Int} (h0 : 0 ≤ n) (h1 : n ≤ 1000000000000) : (Lib.itoa n).length ≤ 13 := by
 obtain ⟨u, rfl⟩ : ∃ u : Nat, n = u := ⟨n.toNat, by omega⟩
 rw [itoa_nat, Lib.decDigits_length]
 exact nDigits_le 12 u (by omega)
end Go.Dv.U

namespace Go.Dv.U
open Go Go.Dv Go.Proofs
def SrcOk (c : List Int) (a B : Int) : Prop := (∀ y ∈ c, 0 ≤ y ∧ y ≤ 255) ∧ c.length ≤ 9223372036854775807 ∧ 0 ≤ a ∧ a ≤ B
def Dr {α : Type} (o : Option (α × ((List Int × Int × Int × Unit) × Unit))) (B : Int) (P : α → Prop) : Prop := ∃ v c a s, o = some (v, ((c, a, s, ()), ())) ∧ SrcOk c a B ∧ P v
theorem SrcOk.le {c : List Int} {a B B' : Int} (h : SrcOk c a B) (hb : B ≤ B') : SrcOk c a B' := ⟨h.1, h.2.1, h.2.2.1, by have := h.2.2.2; omega⟩
theorem Dr.le {α : Type} {o : Option (α × ((List Int × Int × Int × Unit) × Unit))} {B B' : Int} {P Q : α → Prop} (h : Dr o B P) (hb : B ≤ B') (hq : ∀ v, P v → Q v) : Dr o B' Q := by
 obtain ⟨v, c, a, s, h1, h2, h3⟩ := h
 exact ⟨v, c, a, s, h1, h2.le hb, hq v h3⟩
theorem Dr.bind {α β : Type} {o : Option (α × ((List Int × Int × Int × Unit) × Unit))} {B B' : Int} {P : α → Prop} {Q : β → Prop} {k : α × ((List Int × Int × Int × Unit) × Unit) → Option (β × ((List Int × Int × Int × Unit) × Unit))}
  (h : Dr o B P) (hk : ∀ v c a s, SrcOk c a B → P v → Dr (k (v, ((c, a, s, ()), ()))) B' Q) : Dr (o.bind k) B' Q := by
 obtain ⟨v, c, a, s, rfl, h2, h3⟩ := h
 exact hk v c a s h2 h3
theorem Dr.some {α : Type} {v : α} {c : List Int} {a s B : Int} {P : α → Prop} (h : SrcOk c a B) (hp : P v) : Dr (Option.some (v, ((c, a, s, ()), ()))) B P := ⟨v, c, a, s, rfl, h, hp⟩
theorem and255 (y : Int) : 0 ≤ w64 (bitsOp Go.BinOp.and Go.IntKind.u64 y 255) ∧ w64 (bitsOp Go.BinOp.and Go.IntKind.u64 y 255) ≤ 255 := by
 have h : (BitVec.ofInt IntKind.u64.bits y &&& BitVec.ofInt IntKind.u64.bits 255).toNat ≤ 255 := by
  rw [BitVec.toNat_and]
  exact Nat.le_trans Nat.and_le_right (by decide)
 have e : bitsOp Go.BinOp.and Go.IntKind.u64 y 255 = ((BitVec.ofInt IntKind.u64.bits y &&& BitVec.ofInt IntKind.u64.bits 255).toNat : Int) := by
  show IntKind.u64.wrap _ = _
  generalize (BitVec.ofInt IntKind.u64.bits y &&& BitVec.ofInt IntKind.u64.bits 255).toNat = m at h
  unfold IntKind.wrap
  simp [IntKind.bits, IntKind.signed]
  omega
 rw [e, w64_of (by omega) (by omega)]
 omega
theorem s_l00Src_next_ok {c : List Int} {a s B : Int} (h : SrcOk c a B) (hB : B ≤ 4611686018427387904) : Dr (s_l00Src_next c a s) (B + 1) (fun v => 0 ≤ v ∧ v ≤ 255) := by
 obtain ⟨h1, h2, h3, h4⟩ := h
 have hs : SrcOk c (w64 (a + 1)) (B + 1) := ⟨h1, h2, by rw [w64_of (by omega) (by omega)]; omega, by rw [w64_of (by omega) (by omega)]; omega⟩
 rw [s_l00Src_next_eq]
 have hsh : ∀ x : Int, shr Go.IntKind.u64 x 40 = some (x.fdiv (2 ^ (min (Int.toNat 40) Go.IntKind.u64.bits))) := fun x => rfl
 simp only [hsh, Option.bind_some]
 by_cases hlt : a < c.length
 ·obtain ⟨n, rfl⟩ : ∃ n : Nat, a = n := ⟨a.toNat, by omega⟩
  have hn : n < c.length := by omega
  rw [if_pos (by simpa [len_eq] using hlt), idx_nat, List.getElem?_eq_getElem hn]
  have hy := h1 _ (List.getElem_mem hn)
  simp only [Option.bind_some]
  split
  ·exact Dr.some hs (by rw [w64_of (by omega) (by omega)]; exact hy)
  ·exact Dr.some hs (and255 _)
 ·rw [if_neg (by simpa [len_eq] using hlt)]
  split
  ·exact Dr.some hs (by omega)
  ·exact Dr.some hs (and255 _)
theorem rem_of {x n : Int} (hx : 0 ≤ x) (hn : 1 < n) : ∃ y, rem x n = some y ∧ 0 ≤ y ∧ y < n := by
 unfold rem
 rw [if_neg (by omega)]
 refine ⟨_, rfl, ?_, ?_⟩
 ·rw [Int.tmod_eq_emod_of_nonneg hx]; exact Int.emod_nonneg _ (by omega)
 ·rw [Int.tmod_eq_emod_of_nonneg hx]; exact Int.emod_lt_of_pos _ (by omega)
theorem s_l00Src_pick_ok (n : Int) {c : List Int} {a s B : Int} (h : SrcOk c a B) (hB : B ≤ 4611686018427387000) : Dr (s_l00Src_pick n c a s) (B + 2) (fun v => 0 ≤ v ∧ (1 < n → v < n) ∧ (n ≤ 1 → v = 0)) := by
 rw [s_l00Src_pick_eq]
 by_cases h1 : n ≤ 1
 ·rw [if_pos (by simpa using h1)]
  exact Dr.some (h.le (by omega)) ⟨by omega, fun h => by omega, fun _ => rfl⟩
 rw [if_neg (by simpa using h1)]
 refine (s_l00Src_next_ok h (by omega)).bind fun v c2 a2 s2 h2 hv => ?_
 simp only
 by_cases h3 : n > 200
 ·rw [if_pos (by simpa using h3)]
  refine (s_l00Src_next_ok h2 (by omega)).bind fun v2 c3 a3 s3 h4 hv2 => ?_
  simp only
  rw [w64_of (n := v * 256) (by omega) (by omega), w64_of (by omega) (by omega)]
  obtain ⟨y, hy, y0, y1⟩ := rem_of (x := v * 256 + v2) (n := n) (by omega) (by omega)
  rw [hy]
  exact Dr.some (h4.le (by omega)) ⟨y0, fun _ => y1, fun h => by omega⟩
 ·rw [if_neg (by simpa using h3)]
  obtain ⟨y, hy, y0, y1⟩ := rem_of (x := v) (n := n) (by omega) (by omega)
  rw [hy]
  exact Dr.some (h2.le (by omega)) ⟨y0, fun _ => y1, fun h => by omega⟩
theorem s_l00Src_one_ok (n : Int) {c : List Int} {a s B : Int} (h : SrcOk c a B) (hB : B ≤ 4611686018427387000) : Dr (s_l00Src_one n c a s) (B + 2) (fun _ => True) := by
 rw [s_l00Src_one_eq]
 exact (s_l00Src_pick_ok n h hB).bind fun v c2 a2 s2 h2 hv => Dr.some h2 trivial
theorem pick_idx {α : Type} {xs : List α} {v : Int} (hv : 0 ≤ v ∧ (1 < (len xs) → v < len xs) ∧ (len xs ≤ 1 → v = 0)) (hx : xs ≠ []) : ∃ y, idx xs v = some y ∧ y ∈ xs := by
 have hp : 0 < xs.length := List.length_pos_iff.2 hx
 rw [len_eq] at hv
 have hlt : v.toNat < xs.length := by
  by_cases h : (1 : Int) < xs.length
  ·have := hv.2.1 h; omega
  ·have := hv.2.2 (by omega); omega
 exact ⟨xs[v.toNat], by rw [idx_of hv.1, List.getElem?_eq_getElem hlt], List.getElem_mem hlt⟩
theorem s_l00Src_text_ok (xs : List (List UInt8)) (hx : xs ≠ []) {c : List Int} {a s B : Int} (h : SrcOk c a B) (hB : B ≤ 4611686018427387000) : Dr (s_l00Src_text xs c a s) (B + 2) (fun v => v ∈ xs) := by
 rw [s_l00Src_text_eq]
 refine (s_l00Src_pick_ok _ h hB).bind fun v c2 a2 s2 h2 hv => ?_
 obtain ⟨y, hy, hm⟩ := pick_idx hv hx
 simp only [hy, Option.bind_some]
 exact Dr.some h2 hm
theorem s_l00Src_among_ok (xs : List Int) (hx : xs ≠ []) {c : List Int} {a s B : Int} (h : SrcOk c a B) (hB : B ≤ 4611686018427387000) : Dr (s_l00Src_among xs c a s) (B + 2) (fun v => v ∈ xs) := by
 rw [s_l00Src_among_eq]
 refine (s_l00Src_pick_ok _ h hB).bind fun v c2 a2 s2 h2 hv => ?_
 obtain ⟨y, hy, hm⟩ := pick_idx hv hx
 simp only [hy, Option.bind_some]
 exact Dr.some h2 hm
theorem s_l00Src_word_L3_ok : ∀ (n : Nat) {c : List Int} {a s B : Int} (acc : List Int), SrcOk c a B → B + n ≤ 4611686018427387000 → n + acc.length ≤ 1000000 → Dr (s_l00Src_word_L3 (n : Int) c a s acc) (B + n) (fun v => v.length = n + acc.length) := by
 intro n
 induction n with
 | zero =>
  intro c a s B acc h hB hl
  rw [s_l00Src_word_L3_eq, if_neg (by simp)]
  exact Dr.some (h.le (by omega)) (by simp)
 | succ n ih =>
  intro c a s B acc h hB hl
  rw [s_l00Src_word_L3_eq, if_pos (by simp)]
  refine (s_l00Src_next_ok h (by omega)).bind fun v c2 a2 s2 h2 hv => ?_
  simp only
  rw [app_of (by simp; omega)]
  simp only [Option.bind_some]
  rw [w64_of (by omega) (by omega), show ((n + 1 : Nat) : Int) - 1 = (n : Int) by omega]
  refine (ih (acc ++ [Go.IntKind.wrap Go.IntKind.u8 v]) h2 (by omega) (by simp; omega)).le (by omega) fun w hw => ?_
  rw [hw]; simp; omega
theorem s_l00Src_word_ok (n : Int) (hn : n ≤ 100000) {c : List Int} {a s B : Int} (h : SrcOk c a B) (hB : B ≤ 4611686018427000000) : Dr (s_l00Src_word n c a s) (B + 100002) (fun v => v.length ≤ 100000) := by
 rw [s_l00Src_word_eq]
 refine (s_l00Src_pick_ok _ h (by omega)).bind fun v c2 a2 s2 h2 hv => ?_
 obtain ⟨m, rfl⟩ : ∃ m : Nat, v = m := ⟨v.toNat, by omega⟩
 have hm : m ≤ 100000 := by
  by_cases h1 : 1 < n
  ·have := hv.2.1 h1; omega
  ·have := hv.2.2 (by omega); omega
 exact (s_l00Src_word_L3_ok m [] h2 (by omega) (by simp; omega)).le (by omega) fun w hw => by rw [hw]; simp; omega
end Go.Dv.U

namespace Go.Dv.U
open Go Go.Dv Go.Proofs
theorem rem_neg_ten (u : Nat) : rem (-(u : Int)) 10 = some (-((u % 10 : Nat) : Int)) := by
 unfold rem
 rw [if_neg (by decide), Int.neg_tmod, Int.tmod_eq_emod_of_nonneg (by omega)]
 congr 1
theorem quo_neg_ten {u : Nat} (h : u ≤ 9223372036854775808) : quo .i64 (-(u : Int)) 10 = some (-((u / 10 : Nat) : Int)) := by
 unfold quo
 rw [if_neg (by decide), Int.neg_tdiv, Int.tdiv_eq_ediv_of_nonneg (by omega)]
 congr 1
 have : IntKind.i64.wrap (-((u : Int) / 10)) = w64 (-((u : Int) / 10)) := rfl
 rw [this, w64_of (by omega) (by omega)]
 omega
theorem decDigits_step {u : Nat} (hu : ¬ u < 10) : Lib.decDigits u = Lib.decDigits (u / 10) ++ [UInt8.ofNat (48 + u % 10)] := by
 rw [Lib.decDigits, dif_neg hu]
theorem digits_end (x0 : Int) (s : List UInt8) (hl : s.length ≤ 1000) : s_l06Digits_L5 x0 s 0 = some ((if x0 < 0 then [45] else []) ++ s) := by
 rw [s_l06Digits_L5_eq, if_neg (by decide)]
 by_cases h : x0 < 0
 ·rw [if_pos (by simpa using h), if_pos h, app_of (by simp; omega)]; rfl
 ·rw [if_neg (by simpa using h), if_neg h]; rfl
theorem s_l06Digits_L5_pos (x0 : Int) : ∀ (k u : Nat) (s : List UInt8), 0 < u → u < 10 ^ (k + 1) → u < 9223372036854775808 → s.length + k + 1 ≤ 1000 → s_l06Digits_L5 x0 s (u : Int) = some ((if x0 < 0 then [45] else []) ++ (Lib.decDigits u ++ s)) := by
 intro k
 induction k with
 | zero =>
  intro u s hp h h2 hl
  have hu : u < 10 := by simpa using h
  rw [s_l06Digits_L5_eq, if_pos (by simp; omega), rem_ten, quo_ten h2]
  simp only [Option.bind_some]
  rw [if_neg (by simp; omega)]
  simp only [List.map_cons, List.map_nil, digit_byte (r := ((u % 10 : Nat) : Int)) (by omega) (by omega), Int.toNat_natCast]
  rw [app_of (by simp; omega)]
  simp only [Option.bind_some]
  have e : u / 10 = 0 := by omega
  have e2 : u % 10 = u := by omega
  rw [e, e2, Int.natCast_zero, digits_end _ _ (by simp; omega), Lib.decDigits_one hu]
 | succ k ih =>
  intro u s hp h h2 hl
  by_cases hu : u < 10
  ·rw [s_l06Digits_L5_eq, if_pos (by simp; omega), rem_ten, quo_ten h2]
   simp only [Option.bind_some]
   rw [if_neg (by simp; omega)]
   simp only [List.map_cons, List.map_nil, digit_byte (r := ((u % 10 : Nat) : Int)) (by omega) (by omega), Int.toNat_natCast]
   rw [app_of (by simp; omega)]
   simp only [Option.bind_some]
   have e : u / 10 = 0 := by omega
   have e2 : u % 10 = u := by omega
   rw [e, e2, Int.natCast_zero, digits_end _ _ (by simp; omega), Lib.decDigits_one hu]
  ·rw [s_l06Digits_L5_eq, if_pos (by simp; omega), rem_ten, quo_ten h2]
   simp only [Option.bind_some]
   rw [if_neg (by simp; omega)]
   simp only [List.map_cons, List.map_nil, digit_byte (r := ((u % 10 : Nat) : Int)) (by omega) (by omega), Int.toNat_natCast]
   rw [app_of (by simp; omega)]
   simp only [Option.bind_some]
   rw [ih (u / 10) _ (by omega) (by rw [Nat.div_lt_iff_lt_mul (by decide)]; rw [Nat.pow_succ] at h; exact h) (by omega) (by simp; omega), decDigits_step hu]
   simp
theorem s_l06Digits_L5_neg (x0 : Int) : ∀ (k u : Nat) (s : List UInt8), 0 < u → u < 10 ^ (k + 1) → u ≤ 9223372036854775808 → s.length + k + 1 ≤ 1000 → s_l06Digits_L5 x0 s (-(u : Int)) = some ((if x0 < 0 then [45] else []) ++ (Lib.decDigits u ++ s)) := by
 have step : ∀ (u : Nat) (s : List UInt8), 0 < u → u ≤ 9223372036854775808 → s.length ≤ 1000 → s_l06Digits_L5 x0 s (-(u : Int)) = s_l06Digits_L5 x0 (UInt8.ofNat (48 + u % 10) :: s) (-((u / 10 : Nat) : Int)) := by
  intro u s hp h2 hl
  rw [s_l06Digits_L5_eq, if_pos (by simp; omega), rem_neg_ten, quo_neg_ten h2]
  simp only [Option.bind_some]
  by_cases h0 : u % 10 = 0
  ·rw [if_neg (by simp; omega), h0]
   have := digit_byte (r := -((0 : Nat) : Int)) (by omega) (by omega)
   simp only [List.map_cons, List.map_nil, this]
   rw [app_of (by simp; omega)]
   rfl
  ·rw [if_pos (by simp; omega), w64_of (n := 0 - -((u % 10 : Nat) : Int)) (by omega) (by omega)]
   have e : (0 - -((u % 10 : Nat) : Int)) = ((u % 10 : Nat) : Int) := by omega
   rw [e]
   simp only [List.map_cons, List.map_nil, digit_byte (r := ((u % 10 : Nat) : Int)) (by omega) (by omega), Int.toNat_natCast]
   rw [app_of (by simp; omega)]
   rfl
 intro k
 induction k with
 | zero =>
  intro u s hp h h2 hl
  have hu : u < 10 := by simpa using h
  have e : u / 10 = 0 := by omega
  have e2 : u % 10 = u := by omega
  rw [step u s hp h2 (by omega), e, e2]
  have := digits_end x0 (UInt8.ofNat (48 + u) :: s) (by simp; omega)
  simpa [Lib.decDigits_one hu] using this
 | succ k ih =>
  intro u s hp h h2 hl
  rw [step u s hp h2 (by omega)]
  by_cases hu : u < 10
  ·have e : u / 10 = 0 := by omega
   have e2 : u % 10 = u := by omega
   rw [e, e2]
   have := digits_end x0 (UInt8.ofNat (48 + u) :: s) (by simp; omega)
   simpa [Lib.decDigits_one hu] using this
  ·rw [ih (u / 10) _ (by omega) (by rw [Nat.div_lt_iff_lt_mul (by decide)]; rw [Nat.pow_succ] at h; exact h) (by omega) (by simp; omega), decDigits_step hu]
   simp
theorem s_l06Digits_ok {n : Int} (h0 : -9223372036854775808 ≤ n) (h1 : n ≤ 9223372036854775807) : s_l06Digits n = some (Lib.itoa n) := by
 rw [s_l06Digits_eq]
 by_cases hz : n = 0
 ·subst hz
  have := itoa_nat 0
  rw [Int.natCast_zero] at this
  rw [if_pos (by decide), this, Lib.decDigits_one (by decide)]
  rfl
 rw [if_neg (by simpa using hz)]
 by_cases hn : n < 0
 ·obtain ⟨u, hu⟩ : ∃ u : Nat, n = -(u : Int) := ⟨n.natAbs, by omega⟩
  have := s_l06Digits_L5_neg n 18 u [] (by omega) (by omega) (by omega) (by decide)
  rw [← hu, if_pos hn] at this
  rw [this]
  unfold Lib.itoa
  rw [if_pos hn]
  have e : n.natAbs = u := by omega
  simp [e]
 ·obtain ⟨u, hu⟩ : ∃ u : Nat, n = (u : Int) := ⟨n.toNat, by omega⟩
  have := s_l06Digits_L5_pos n 18 u [] (by omega) (by omega) (by omega) (by decide)
  rw [← hu, if_neg hn] at this
  rw [this, hu, itoa_nat]
  simp
end Go.Dv.U

namespace Go.Dv.U
open Go Go.Dv Go.Proofs
theorem occ_none {c : UInt8} {s t : List UInt8} (h : hasB (ib c) s = false) (j : Nat) : Lib.occAt s (c :: t) j = false := by
 cases ho : Lib.occAt s (c :: t) j with
 | false => rfl
 | true =>
  have h1 := Lib.occAt_head (c := c) (t := t) rfl ho
  have : hasB (ib c) s = true := by
   simp only [hasB, List.any_eq_true, beq_iff_eq]
   exact ⟨c, List.mem_of_getElem? h1, rfl⟩
  rw [h] at this; cases this
theorem index_cnone {c : UInt8} {s t : List UInt8} (h : hasB (ib c) s = false) : Lib.index s (c :: t) = -1 := Lib.index_none fun j _ => occ_none h j
theorem index_csome {c : UInt8} {a r t : List UInt8} (h : hasB (ib c) a = false) (ht : (c :: t).isPrefixOf r = true) : Lib.index (a ++ r) (c :: t) = (a.length : Int) := by
 refine Lib.index_first (by simp) ?_ ?_
 ·unfold Lib.occAt
  rw [List.drop_left]; exact ht
 ·intro j hj
  unfold Lib.occAt
  rw [List.drop_append_of_le_length (by omega), List.drop_eq_getElem_cons hj]
  simp only [List.cons_append, List.isPrefixOf, Bool.and_eq_false_iff]
  left
  rw [beq_eq_false_iff_ne]
  intro e
  have : hasB (ib c) a = true := by
   simp only [hasB, List.any_eq_true, beq_iff_eq]
   exact ⟨a[j], List.getElem_mem hj, by rw [← e]⟩
  rw [h] at this; cases this
theorem cut_one {c : UInt8} {a r : List UInt8} (h : hasB (ib c) a = false) : Lib.cut (a ++ c :: r) [c] = (a, r, true) := by
 have hi : Lib.index (a ++ c :: r) [c] = (a.length : Int) := index_csome h (by simp [List.isPrefixOf])
 unfold Lib.cut
 rw [hi, if_pos (by omega)]
 simp [List.drop_append]
theorem parseM_dig (M : Nat) : ∀ (l : List UInt8) (acc k : Nat), l.all digB = true → acc < 10 ^ k → l.length + k ≤ 18 → 1000000000000000000 ≤ M → Lib.parseUintM M acc l = .ok (numD l acc)
 | [], acc, k, _, _, _, _ => rfl
 | c :: r, acc, k, h, ha, hl, hM => by
  simp only [List.all_cons, Bool.and_eq_true_iff] at h
  have hd := h.1
  unfold digB at hd
  simp only [Bool.and_eq_true_iff, decide_eq_true_eq] at hd
  simp only [List.length_cons] at hl
  have hp : 10 ^ (k + 1) ≤ 10 ^ 18 := Nat.pow_le_pow_right (by decide) (by omega)
  have hs : 10 ^ (k + 1) = 10 ^ k * 10 := Nat.pow_succ _ _
  unfold Lib.parseUintM
  rw [if_pos hd, if_neg (by omega), if_neg (by omega), parseM_dig M r _ (k + 1) h.2 (by omega) (by omega) hM]
  rfl
theorem decd_byte {r : Nat} (h : r < 10) : (UInt8.ofNat (48 + r)).toNat = 48 + r := by simp; omega
theorem decd_ok : ∀ (k u : Nat), u < 10 ^ (k + 1) → (Lib.decDigits u).all digB = true ∧ numD (Lib.decDigits u) 0 = u ∧ Lib.decDigits u ≠ [] := by
 have one : ∀ u : Nat, u < 10 → (Lib.decDigits u).all digB = true ∧ numD (Lib.decDigits u) 0 = u ∧ Lib.decDigits u ≠ [] := by
  intro u hu
  rw [Lib.decDigits_one hu]
  have := decd_byte hu
  refine ⟨by simp [digB, this]; omega, ?_, by simp⟩
  simp only [numD, List.foldl_cons, List.foldl_nil, this]; omega
 intro k
 induction k with
 | zero => intro u h; exact one u (by simpa using h)
 | succ k ih =>
  intro u h
  by_cases hu : u < 10
  ·exact one u hu
  ·obtain ⟨h1, h2, h3⟩ := ih (u / 10) (by rw [Nat.div_lt_iff_lt_mul (by decide)]; rw [Nat.pow_succ] at h; exact h)
   have := decd_byte (r := u % 10) (by omega)
   rw [decDigits_step hu]
   refine ⟨?_, ?_, by simp⟩
   ·rw [List.all_append, h1]
    simp [digB, this]; omega
   ·have : numD (Lib.decDigits (u / 10) ++ [UInt8.ofNat (48 + u % 10)]) 0 = numD (Lib.decDigits (u / 10)) 0 * 10 + ((UInt8.ofNat (48 + u % 10)).toNat - 48) := by simp [numD]
    rw [this, h2]; omega
theorem parseIntS_itoa {n : Int} (h0 : -1000000000000 ≤ n) (h1 : n ≤ 1000000000000) : parseIntS (Lib.itoa n) = some n := by
 have hu : ∀ u : Nat, u ≤ 1000000000000 → (Lib.decDigits u).length ≤ 13 ∧ Lib.parseUintB 64 (Lib.decDigits u) = .ok u := by
  intro u h
  obtain ⟨a, b, c⟩ := decd_ok 12 u (by omega)
  have hl : (Lib.decDigits u).length ≤ 13 := by rw [Lib.decDigits_length]; exact nDigits_le 12 u (by omega)
  refine ⟨hl, ?_⟩
  unfold Lib.parseUintB
  rw [if_neg c, parseM_dig _ _ 0 0 a (by decide) (by omega) (by decide), b]
 have hb : big = 68719476736 := rfl
 unfold parseIntS
 by_cases hn : n < 0
 ·have e : Lib.itoa n = 45 :: Lib.decDigits n.natAbs := by unfold Lib.itoa; rw [if_pos hn]
  obtain ⟨hl, hp⟩ := hu n.natAbs (by omega)
  rw [e, if_pos (by simp; omega)]
  unfold Lib.parseIntB
  simp only [show ((45 : UInt8).toNat = 43 ∨ (45 : UInt8).toNat = 45) from by decide, if_true, hp]
  rw [if_neg (by rintro ⟨h, _⟩; exact h (by decide)), if_neg (by rintro ⟨_, h⟩; omega), if_pos (by decide)]
  simp only [Option.some.injEq]; omega
 ·have e : Lib.itoa n = Lib.decDigits n.toNat := by unfold Lib.itoa; rw [if_neg hn]
  obtain ⟨hl, hp⟩ := hu n.toNat (by omega)
  obtain ⟨ha, _, hc⟩ := decd_ok 12 n.toNat (by omega)
  rw [e, if_pos (by omega)]
  cases hd : Lib.decDigits n.toNat with
  | nil => exact absurd hd hc
  | cons b r =>
   rw [hd] at hp ha
   simp only [List.all_cons, Bool.and_eq_true_iff] at ha
   have h2 := ha.1
   unfold digB at h2
   simp only [Bool.and_eq_true_iff, decide_eq_true_eq] at h2
   unfold Lib.parseIntB
   simp only [show ¬ (b.toNat = 43 ∨ b.toNat = 45) from by omega, if_false, hp]
   rw [if_neg (by rintro ⟨_, h⟩; omega), if_neg (by rintro ⟨h, _⟩; omega), if_neg (by omega)]
   simp only [Option.some.injEq]; omega
end Go.Dv.U

namespace Go.Dv.U
open Go Go.Dv Go.Proofs
theorem i_inside_ok {s : List UInt8} (h : s.length ≤ 1000000000) : ∃ t, i_inside s = some t ∧ t.length ≤ s.length ∧ ∀ (a b : UInt8) (m : List UInt8), s = a :: (m ++ [b]) → t = m := by
 rw [i_inside_eq, len_eq]
 by_cases h2 : (s.length : Int) < 2
 ·rw [if_pos (by simpa using h2)]
  refine ⟨[], rfl, Nat.zero_le _, fun a b m e => ?_⟩
  rw [e] at h2; simp at h2; omega
 ·rw [if_neg (by simpa using h2), w64_of (by omega) (by omega)]
  have e : (s.length : Int) - 1 = ((s.length - 1 : Nat) : Int) := by omega
  simp only [Option.getD_some]
  rw [e, show (1 : Int) = ((1 : Nat) : Int) from rfl, cut_of (by omega) (by omega)]
  refine ⟨_, rfl, by simp; omega, fun a b m e => ?_⟩
  subst e
  simp [List.take_append]
theorem parseIntE_some {s : List UInt8} (h : s.length ≤ 1000000000) : ∃ n, parseIntE s = some n := by
 have hb : big = 68719476736 := rfl
 unfold parseIntE parseIntS
 rw [if_pos (by omega)]
 exact ⟨_, rfl⟩
theorem parseIntE_itoa {n : Int} (h0 : -1000000000000 ≤ n) (h1 : n ≤ 1000000000000) : ∃ b, parseIntE (Lib.itoa n) = some (n, b) := by
 unfold parseIntE
 rw [parseIntS_itoa h0 h1]
 exact ⟨_, rfl⟩
end Go.Dv.U

namespace Go.Dv.U
open Go Go.Dv Go.Proofs
theorem s_l06Text_ok {c : List Int} {a s B : Int} (h : SrcOk c a B) (hB : B ≤ 4611686018420000000) : Dr (s_l06Text c a s) (B + 200000) (fun v => v.length ≤ 100000) := by
 rw [s_l06Text_eq]
 refine (s_l00Src_one_ok 3 h (by omega)).bind fun v c2 a2 s2 h2 _ => ?_
 simp only
 split
 ·refine (s_l00Src_text_ok _ (by simp) h2 (by omega)).bind fun v c3 a3 s3 h3 hv => ?_
  refine Dr.some (h3.le (by omega)) ?_
  have : ∀ t ∈ ([[], [97], [97, 98], [49, 50], [45, 55], [34], [97, 34, 98], [105, 116, 39, 115], [32, 32, 120, 32], [10], [48, 48], [104, 101, 108, 108, 111, 32, 119, 111, 114, 108, 100]] : List (List UInt8)), t.length ≤ 100000 := by decide
  exact this _ hv
 ·refine (s_l00Src_word_ok 12 (by decide) h2 (by omega)).bind fun v c3 a3 s3 h3 hv => ?_
  exact Dr.some (h3.le (by omega)) hv
theorem s_l06Name_ok {c : List Int} {a s B : Int} (h : SrcOk c a B) (hB : B ≤ 4611686018420000000) : Dr (s_l06Name c a s) (B + 200000) (fun v => v.length ≤ 100000) := by
 rw [s_l06Name_eq]
 refine (s_l00Src_text_ok _ (by simp) h (by omega)).bind fun v c3 a3 s3 h3 hv => ?_
 refine Dr.some (h3.le (by omega)) ?_
 have : ∀ t ∈ ([[65], [66], [88], [79, 85, 84], [110, 49], [70, 111, 111, 95, 50], [65, 66, 67, 68, 69, 70, 71, 72, 73, 74, 75, 76], [90, 57]] : List (List UInt8)), t.length ≤ 100000 := by decide
 exact this _ hv
theorem Dr.get {α : Type} {o : Option (α × ((List Int × Int × Int × Unit) × Unit))} {B : Int} {P : α → Prop} (h : Dr o B P) : ∃ v c a s, o = Option.some (v, ((c, a, s, ()), ())) ∧ SrcOk c a B ∧ P v := h
end Go.Dv.U

namespace Go.Dv.U
open Go Go.Dv Go.Proofs
def insForms : List TInstrForm := [TInstrForm.mk [115, 116, 101, 112] true 0 79 false 0 0, TInstrForm.mk [115, 116, 114, 105, 110, 103] false 0 0 true 0 1, TInstrForm.mk [105, 110, 116, 101, 103, 101, 114] true 0 1000000000000 false 0 1, TInstrForm.mk [108, 111, 97, 100] false 0 0 true 0 1, TInstrForm.mk [110, 97, 109, 101, 111, 102] false 0 0 true 0 1, TInstrForm.mk [100, 101, 102, 101, 114] false 0 0 true 0 1, TInstrForm.mk [99, 117, 114, 115, 111, 114] false 0 0 true 0 1, TInstrForm.mk [98, 105, 110, 97, 114, 121] true 6 11 false 2 1, TInstrForm.mk [110, 101, 103, 97, 116, 101] false 0 0 false 1 1, TInstrForm.mk [105, 110, 100, 105, 114, 101, 99, 116] false 0 0 false 1 1, TInstrForm.mk [98, 105, 110, 100] true 21 22 true 1 1, TInstrForm.mk [101, 108, 101, 109, 101, 110, 116] false 0 0 false 2 1, TInstrForm.mk [99, 97, 108, 108] true 0 6 true 0 1, TInstrForm.mk [112, 111, 112] false 0 0 false 1 0, TInstrForm.mk [116, 111, 110, 97, 109, 101] false 0 0 false 1 1, TInstrForm.mk [99, 104, 101, 99, 107, 102, 105, 101, 108, 100] false 0 0 true 0 0, TInstrForm.mk [115, 116, 111, 114, 101] false 0 0 true 1 0, TInstrForm.mk [115, 116, 111, 114, 101, 110, 97, 109, 101] false 0 0 false 2 0, TInstrForm.mk [115, 116, 111, 114, 101, 101, 108, 101, 109, 101, 110, 116] false 0 0 false 3 0, TInstrForm.mk [115, 116, 111, 114, 101, 102, 105, 101, 108, 100] false 0 0 true 2 0, TInstrForm.mk [112, 101, 101, 107, 110, 97, 109, 101] false 0 0 false 1 2, TInstrForm.mk [112, 101, 101, 107, 101, 108, 101, 109, 101, 110, 116] false 0 0 false 2 3, TInstrForm.mk [112, 101, 101, 107, 102, 105, 101, 108, 100] false 0 0 true 1 2, TInstrForm.mk [109, 97, 116, 99, 104] false 0 0 false 2 0, TInstrForm.mk [107, 101, 101, 112] false 0 0 false 2 3, TInstrForm.mk [114, 101, 112, 108, 97, 99, 101] false 0 0 false 4 1, TInstrForm.mk [106, 117, 109, 112] true 0 79 false 0 0, TInstrForm.mk [101, 110, 100] false 0 0 false 0 0, TInstrForm.mk [114, 101, 116, 117, 114, 110] false 0 0 false 0 0, TInstrForm.mk [102, 114, 101, 116, 117, 114, 110] false 0 0 false 0 0, TInstrForm.mk [102, 97, 117, 108, 116] true 1 11 false 0 0]
theorem i_instrForms_ok : i_instrForms = some insForms := i_instrForms_eq
def formOf (k : Int) : TInstrForm := (insForms[(k - 1).toNat]?).getD ⟨[], false, 0, 0, false, 0, 0⟩
theorem ops31 {k : Int} (h0 : 1 ≤ k) (h1 : k ≤ 31) : k = 1 ∨ k = 2 ∨ k = 3 ∨ k = 4 ∨ k = 5 ∨ k = 6 ∨ k = 7 ∨ k = 8 ∨ k = 9 ∨ k = 10 ∨ k = 11 ∨ k = 12 ∨ k = 13 ∨ k = 14 ∨ k = 15 ∨ k = 16 ∨ k = 17 ∨ k = 18 ∨ k = 19 ∨ k = 20 ∨ k = 21 ∨ k = 22 ∨ k = 23 ∨ k = 24 ∨ k = 25 ∨ k = 26 ∨ k = 27 ∨ k = 28 ∨ k = 29 ∨ k = 30 ∨ k = 31 := by omega
theorem i_Instr_form_ok (i : TInstr) (h0 : 1 ≤ i.fOp) (h1 : i.fOp ≤ 31) : i_Instr_form i = some (formOf i.fOp) := by
 rw [i_Instr_form_eq, i_instrForms_ok]
 simp only [Option.bind_some]
 rw [w64_of (by omega) (by omega), idx_of (by omega)]
 unfold formOf
 have hl : (i.fOp - 1).toNat < insForms.length := by have : insForms.length = 31 := rfl; omega
 rw [List.getElem?_eq_getElem hl]
 rfl
theorem if_and (b c : Bool) : (if b = true then some c else some false) = some (b && c) := by cases b <;> rfl
def insTxt (k : Int) (t : List UInt8) : Bool := if k = 2 then canQ t else if (formOf k).fHasText = true then isName t else t == []
def vIns (i : TInstr) : Bool := decide (1 ≤ i.fOp) && decide (i.fOp ≤ 31) && insTxt i.fOp i.fText && (decide ((formOf i.fOp).fLow ≤ i.fA) && decide (i.fA ≤ (formOf i.fOp).fHigh))
theorem i_ValidInstr_ok (i : TInstr) : i_ValidInstr i = some (vIns i) := by
 rw [i_ValidInstr_eq, i_within_ok]
 simp only [Option.bind_some]
 unfold vIns
 by_cases h : 1 ≤ i.fOp ∧ i.fOp ≤ 31
 ·obtain ⟨h0, h1⟩ := h
  rw [decide_eq_true h0, decide_eq_true h1, i_Instr_form_ok i h0 h1, i_CanQuote_ok, i_IsName_ok]
  simp only [Bool.and_true, Bool.not_true, Bool.false_eq_true, if_false, Option.bind_some, Bool.true_and, i_ValidInstr_L8_eq, i_within_ok, beq_iff_eq]
  unfold insTxt
  by_cases h2 : i.fOp = 2
  ·rw [if_pos h2, if_pos h2]
   exact if_and _ _
  ·rw [if_neg h2, if_neg h2]
   cases (formOf i.fOp).fHasText
   ·simp only [Bool.false_eq_true, if_false]
    by_cases ht : i.fText = []
    ·rw [if_pos ht, ht]; rfl
    ·have : (i.fText == []) = false := by simpa using ht
     rw [if_neg ht, this]; rfl
   ·simp only [if_true]
    exact if_and _ _
 ·have : (decide (1 ≤ i.fOp) && decide (i.fOp ≤ 31)) = false := by simpa using h
  rw [this]
  rfl
theorem s_l24Fields_ok {k : Int} (h0 : 1 ≤ k) (h1 : k ≤ 31) : s_l24Fields k = some ((formOf k).fHasNumber, (formOf k).fHasText) := by
 rcases ops31 h0 h1 with rfl | rfl | rfl | rfl | rfl | rfl | rfl | rfl | rfl | rfl | rfl | rfl | rfl | rfl | rfl | rfl | rfl | rfl | rfl | rfl | rfl | rfl | rfl | rfl | rfl | rfl | rfl | rfl | rfl | rfl | rfl <;> simp only [s_l24Fields_eq, s_l24Fields_L7_eq, s_l24Fields_L8_eq, s_l24Fields_L17_eq, s_l24Fields_L18_eq, beq_iff_eq] <;> rfl
theorem s_ValidInstr_ok (i : TInstr) : s_ValidInstr i = some (vIns i) := by
 obtain ⟨k, A, t⟩ := i
 rw [s_ValidInstr_eq, s_l00In_ok]
 simp only [Option.bind_some]
 unfold vIns
 simp only
 by_cases h : 1 ≤ k ∧ k ≤ 31
 ·obtain ⟨h0, h1⟩ := h
  rw [decide_eq_true h0, decide_eq_true h1, s_l24Fields_ok h0 h1]
  simp only [Bool.and_true, Bool.not_true, Bool.false_eq_true, if_false, Option.bind_some, Bool.true_and, s_ValidInstr_L5_eq, s_ValidInstr_L6_eq, s_l00In_ok, s_CanQuote_ok, s_IsName_ok, bne_iff_ne, beq_iff_eq, insTxt]
  have eA : ∀ A : Int, (decide (0 ≤ A) && decide (A ≤ 0)) = decide (A = 0) := fun A => by rw [Bool.eq_iff_iff]; simp; omega
  rcases ops31 h0 h1 with rfl | rfl | rfl | rfl | rfl | rfl | rfl | rfl | rfl | rfl | rfl | rfl | rfl | rfl | rfl | rfl | rfl | rfl | rfl | rfl | rfl | rfl | rfl | rfl | rfl | rfl | rfl | rfl | rfl | rfl | rfl
  ·rw [show formOf 1 = ⟨[115, 116, 101, 112], true, 0, 79, false, 0, 0⟩ from rfl]
   by_cases hA : A = 0 <;> by_cases ht : t = [] <;> cases hn : isName t <;> cases hq : canQ t <;> simp [hA, ht, hn, hq] <;> (intros; omega)
  ·rw [show formOf 2 = ⟨[115, 116, 114, 105, 110, 103], false, 0, 0, true, 0, 1⟩ from rfl]
   by_cases hA : A = 0 <;> by_cases ht : t = [] <;> cases hn : isName t <;> cases hq : canQ t <;> simp [hA, ht, hn, hq] <;> (intros; omega)
  ·rw [show formOf 3 = ⟨[105, 110, 116, 101, 103, 101, 114], true, 0, 1000000000000, false, 0, 1⟩ from rfl]
   by_cases hA : A = 0 <;> by_cases ht : t = [] <;> cases hn : isName t <;> cases hq : canQ t <;> simp [hA, ht, hn, hq] <;> (intros; omega)
  ·rw [show formOf 4 = ⟨[108, 111, 97, 100], false, 0, 0, true, 0, 1⟩ from rfl]
   by_cases hA : A = 0 <;> by_cases ht : t = [] <;> cases hn : isName t <;> cases hq : canQ t <;> simp [hA, ht, hn, hq] <;> (intros; omega)
  ·rw [show formOf 5 = ⟨[110, 97, 109, 101, 111, 102], false, 0, 0, true, 0, 1⟩ from rfl]
   by_cases hA : A = 0 <;> by_cases ht : t = [] <;> cases hn : isName t <;> cases hq : canQ t <;> simp [hA, ht, hn, hq] <;> (intros; omega)
  ·rw [show formOf 6 = ⟨[100, 101, 102, 101, 114], false, 0, 0, true, 0, 1⟩ from rfl]
   by_cases hA : A = 0 <;> by_cases ht : t = [] <;> cases hn : isName t <;> cases hq : canQ t <;> simp [hA, ht, hn, hq] <;> (intros; omega)
  ·rw [show formOf 7 = ⟨[99, 117, 114, 115, 111, 114], false, 0, 0, true, 0, 1⟩ from rfl]
   by_cases hA : A = 0 <;> by_cases ht : t = [] <;> cases hn : isName t <;> cases hq : canQ t <;> simp [hA, ht, hn, hq] <;> (intros; omega)
  ·rw [show formOf 8 = ⟨[98, 105, 110, 97, 114, 121], true, 6, 11, false, 2, 1⟩ from rfl]
   by_cases hA : A = 0 <;> by_cases ht : t = [] <;> cases hn : isName t <;> cases hq : canQ t <;> simp [hA, ht, hn, hq] <;> (intros; omega)
  ·rw [show formOf 9 = ⟨[110, 101, 103, 97, 116, 101], false, 0, 0, false, 1, 1⟩ from rfl]
   by_cases hA : A = 0 <;> by_cases ht : t = [] <;> cases hn : isName t <;> cases hq : canQ t <;> simp [hA, ht, hn, hq] <;> (intros; omega)
  ·rw [show formOf 10 = ⟨[105, 110, 100, 105, 114, 101, 99, 116], false, 0, 0, false, 1, 1⟩ from rfl]
   by_cases hA : A = 0 <;> by_cases ht : t = [] <;> cases hn : isName t <;> cases hq : canQ t <;> simp [hA, ht, hn, hq] <;> (intros; omega)
  ·rw [show formOf 11 = ⟨[98, 105, 110, 100], true, 21, 22, true, 1, 1⟩ from rfl]
   simp only
   generalize isName t = b
   generalize (decide ((21 : Int) ≤ A) && decide (A ≤ 22)) = c
   cases b <;> cases c <;> simp
  ·rw [show formOf 12 = ⟨[101, 108, 101, 109, 101, 110, 116], false, 0, 0, false, 2, 1⟩ from rfl]
   by_cases hA : A = 0 <;> by_cases ht : t = [] <;> cases hn : isName t <;> cases hq : canQ t <;> simp [hA, ht, hn, hq] <;> (intros; omega)
  ·rw [show formOf 13 = ⟨[99, 97, 108, 108], true, 0, 6, true, 0, 1⟩ from rfl]
   simp only
   generalize isName t = b
   generalize (decide ((0 : Int) ≤ A) && decide (A ≤ 6)) = c
   cases b <;> cases c <;> simp
  ·rw [show formOf 14 = ⟨[112, 111, 112], false, 0, 0, false, 1, 0⟩ from rfl]
   by_cases hA : A = 0 <;> by_cases ht : t = [] <;> cases hn : isName t <;> cases hq : canQ t <;> simp [hA, ht, hn, hq] <;> (intros; omega)
  ·rw [show formOf 15 = ⟨[116, 111, 110, 97, 109, 101], false, 0, 0, false, 1, 1⟩ from rfl]
   by_cases hA : A = 0 <;> by_cases ht : t = [] <;> cases hn : isName t <;> cases hq : canQ t <;> simp [hA, ht, hn, hq] <;> (intros; omega)
  ·rw [show formOf 16 = ⟨[99, 104, 101, 99, 107, 102, 105, 101, 108, 100], false, 0, 0, true, 0, 0⟩ from rfl]
   by_cases hA : A = 0 <;> by_cases ht : t = [] <;> cases hn : isName t <;> cases hq : canQ t <;> simp [hA, ht, hn, hq] <;> (intros; omega)
  ·rw [show formOf 17 = ⟨[115, 116, 111, 114, 101], false, 0, 0, true, 1, 0⟩ from rfl]
   by_cases hA : A = 0 <;> by_cases ht : t = [] <;> cases hn : isName t <;> cases hq : canQ t <;> simp [hA, ht, hn, hq] <;> (intros; omega)
  ·rw [show formOf 18 = ⟨[115, 116, 111, 114, 101, 110, 97, 109, 101], false, 0, 0, false, 2, 0⟩ from rfl]
   by_cases hA : A = 0 <;> by_cases ht : t = [] <;> cases hn : isName t <;> cases hq : canQ t <;> simp [hA, ht, hn, hq] <;> (intros; omega)
  ·rw [show formOf 19 = ⟨[115, 116, 111, 114, 101, 101, 108, 101, 109, 101, 110, 116], false, 0, 0, false, 3, 0⟩ from rfl]
   by_cases hA : A = 0 <;> by_cases ht : t = [] <;> cases hn : isName t <;> cases hq : canQ t <;> simp [hA, ht, hn, hq] <;> (intros; omega)
  ·rw [show formOf 20 = ⟨[115, 116, 111, 114, 101, 102, 105, 101, 108, 100], false, 0, 0, true, 2, 0⟩ from rfl]
   by_cases hA : A = 0 <;> by_cases ht : t = [] <;> cases hn : isName t <;> cases hq : canQ t <;> simp [hA, ht, hn, hq] <;> (intros; omega)
  ·rw [show formOf 21 = ⟨[112, 101, 101, 107, 110, 97, 109, 101], false, 0, 0, false, 1, 2⟩ from rfl]
   by_cases hA : A = 0 <;> by_cases ht : t = [] <;> cases hn : isName t <;> cases hq : canQ t <;> simp [hA, ht, hn, hq] <;> (intros; omega)
  ·rw [show formOf 22 = ⟨[112, 101, 101, 107, 101, 108, 101, 109, 101, 110, 116], false, 0, 0, false, 2, 3⟩ from rfl]
   by_cases hA : A = 0 <;> by_cases ht : t = [] <;> cases hn : isName t <;> cases hq : canQ t <;> simp [hA, ht, hn, hq] <;> (intros; omega)
  ·rw [show formOf 23 = ⟨[112, 101, 101, 107, 102, 105, 101, 108, 100], false, 0, 0, true, 1, 2⟩ from rfl]
   by_cases hA : A = 0 <;> by_cases ht : t = [] <;> cases hn : isName t <;> cases hq : canQ t <;> simp [hA, ht, hn, hq] <;> (intros; omega)
  ·rw [show formOf 24 = ⟨[109, 97, 116, 99, 104], false, 0, 0, false, 2, 0⟩ from rfl]
   by_cases hA : A = 0 <;> by_cases ht : t = [] <;> cases hn : isName t <;> cases hq : canQ t <;> simp [hA, ht, hn, hq] <;> (intros; omega)
  ·rw [show formOf 25 = ⟨[107, 101, 101, 112], false, 0, 0, false, 2, 3⟩ from rfl]
   by_cases hA : A = 0 <;> by_cases ht : t = [] <;> cases hn : isName t <;> cases hq : canQ t <;> simp [hA, ht, hn, hq] <;> (intros; omega)
  ·rw [show formOf 26 = ⟨[114, 101, 112, 108, 97, 99, 101], false, 0, 0, false, 4, 1⟩ from rfl]
   by_cases hA : A = 0 <;> by_cases ht : t = [] <;> cases hn : isName t <;> cases hq : canQ t <;> simp [hA, ht, hn, hq] <;> (intros; omega)
  ·rw [show formOf 27 = ⟨[106, 117, 109, 112], true, 0, 79, false, 0, 0⟩ from rfl]
   by_cases hA : A = 0 <;> by_cases ht : t = [] <;> cases hn : isName t <;> cases hq : canQ t <;> simp [hA, ht, hn, hq] <;> (intros; omega)
  ·rw [show formOf 28 = ⟨[101, 110, 100], false, 0, 0, false, 0, 0⟩ from rfl]
   by_cases hA : A = 0 <;> by_cases ht : t = [] <;> cases hn : isName t <;> cases hq : canQ t <;> simp [hA, ht, hn, hq] <;> (intros; omega)
  ·rw [show formOf 29 = ⟨[114, 101, 116, 117, 114, 110], false, 0, 0, false, 0, 0⟩ from rfl]
   by_cases hA : A = 0 <;> by_cases ht : t = [] <;> cases hn : isName t <;> cases hq : canQ t <;> simp [hA, ht, hn, hq] <;> (intros; omega)
  ·rw [show formOf 30 = ⟨[102, 114, 101, 116, 117, 114, 110], false, 0, 0, false, 0, 0⟩ from rfl]
   by_cases hA : A = 0 <;> by_cases ht : t = [] <;> cases hn : isName t <;> cases hq : canQ t <;> simp [hA, ht, hn, hq] <;> (intros; omega)
  ·rw [show formOf 31 = ⟨[102, 97, 117, 108, 116], true, 1, 11, false, 0, 0⟩ from rfl]
   by_cases hA : A = 0 <;> by_cases ht : t = [] <;> cases hn : isName t <;> cases hq : canQ t <;> simp [hA, ht, hn, hq] <;> (intros; omega)
 ·have : (decide (1 ≤ k) && decide (k ≤ 31)) = false := by simpa using h
  rw [this]
  rfl
end Go.Dv.U

namespace Go.Dv.U
open Go Go.Dv Go.Proofs
def iText (i : TInstr) : List UInt8 :=
 (formOf i.fOp).fWord ++ ((if (formOf i.fOp).fHasNumber = true then 32 :: Lib.itoa i.fA else []) ++ (if i.fOp = 2 then 32 :: quote i.fText else if (formOf i.fOp).fHasText = true then 32 :: i.fText else []))
theorem forms_ok : (insForms.all fun f => decide (f.fWord.length ≤ 20) && !hasB 32 f.fWord && decide (0 ≤ f.fLow) && decide (f.fHigh ≤ 1000000000000)) = true := by decide
theorem forms_idx : ((List.range 31).all fun n => (insForms.findIdx fun f => f.fWord == (formOf ((n : Int) + 1)).fWord) == n) = true := by decide
theorem formOf_mem {k : Int} (h0 : 1 ≤ k) (h1 : k ≤ 31) : formOf k ∈ insForms := by
 unfold formOf
 have hl : (k - 1).toNat < insForms.length := by have : insForms.length = 31 := rfl; omega
 rw [List.getElem?_eq_getElem hl]
 exact List.getElem_mem hl
theorem formOf_ok {k : Int} (h0 : 1 ≤ k) (h1 : k ≤ 31) : (formOf k).fWord.length ≤ 20 ∧ hasB 32 (formOf k).fWord = false ∧ 0 ≤ (formOf k).fLow ∧ (formOf k).fHigh ≤ 1000000000000 := by
 have := List.all_eq_true.1 forms_ok _ (formOf_mem h0 h1)
 simp only [Bool.and_eq_true, decide_eq_true_eq, Bool.not_eq_true'] at this
 exact ⟨this.1.1.1, this.1.1.2, this.1.2, this.2⟩
theorem vIns_ok {i : TInstr} (h : vIns i = true) : 1 ≤ i.fOp ∧ i.fOp ≤ 31 ∧ insTxt i.fOp i.fText = true ∧ (formOf i.fOp).fLow ≤ i.fA ∧ i.fA ≤ (formOf i.fOp).fHigh := by
 unfold vIns at h
 simp only [Bool.and_eq_true, decide_eq_true_eq] at h
 exact ⟨h.1.1.1, h.1.1.2, h.1.2, h.2.1, h.2.2⟩
theorem isName_len {s : List UInt8} (h : isName s = true) : s.length ≤ 12 := by
 cases s with
 | nil => simp
 | cons b r =>
  simp only [isName, Bool.and_eq_true_iff, decide_eq_true_eq] at h
  exact h.1.1
theorem insTxt_len {k : Int} {t : List UInt8} (h : insTxt k t = true) : t.length ≤ 200 := by
 unfold insTxt at h
 split at h
 ·exact canQ_len h
 ·split at h
  ·have := isName_len h; omega
  ·have : t = [] := by simpa using h
   subst this; simp
theorem iText_len {i : TInstr} (h : vIns i = true) : (iText i).length ≤ 400 := by
 obtain ⟨h0, h1, h2, h3, h4⟩ := vIns_ok h
 obtain ⟨f1, f2, f3, f4⟩ := formOf_ok h0 h1
 have hi := itoa_len (n := i.fA) (by omega) (by omega)
 have hq := quote_len i.fText
 have ht := insTxt_len h2
 unfold iText
 simp only [List.length_append]
 split <;> split <;> (try split) <;> simp <;> omega
theorem i_InstrText_ok (i : TInstr) : i_InstrText i = some (if vIns i = true then iText i else []) := by
 rw [i_InstrText_eq, i_ValidInstr_ok]
 simp only [Option.bind_some]
 cases h : vIns i with
 | false => simp
 | true =>
  obtain ⟨h0, h1, h2, h3, h4⟩ := vIns_ok h
  obtain ⟨f1, f2, f3, f4⟩ := formOf_ok h0 h1
  have hi := itoa_len (n := i.fA) (by omega) (by omega)
  have hq := quote_len i.fText
  have ht := insTxt_len h2
  simp only [Bool.not_true, Bool.false_eq_true, if_false, if_true]
  rw [i_Instr_form_ok i h0 h1, i_decimal_ok (by omega) (by omega), i_QuoteString_ok]
  simp only [Option.bind_some, i_InstrText_L11_eq, beq_iff_eq]
  rw [app_of (xs := [32]) (ys := Lib.itoa i.fA) (by simp; omega), app_of (xs := [32]) (ys := quote i.fText) (by simp; omega), app_of (xs := [32]) (ys := i.fText) (by simp; omega)]
  simp only [Option.bind_some]
  rw [app_of (xs := (formOf i.fOp).fWord) (ys := [32] ++ Lib.itoa i.fA) (by simp; omega), app_of (xs := (formOf i.fOp).fWord) (ys := [32] ++ quote i.fText) (by simp; omega), app_of (xs := (formOf i.fOp).fWord) (ys := [32] ++ i.fText) (by simp; omega)]
  simp only [Option.bind_some]
  rw [app_of (ys := [32] ++ quote i.fText) (by simp; omega), app_of (ys := [32] ++ i.fText) (by simp; omega)]
  unfold iText
  split <;> split <;> (try split) <;> simp
theorem s_InstrText_tot (i : TInstr) : ∃ t, s_InstrText i = some t ∧ t.length ≤ 1000 := by
 rw [s_InstrText_eq, s_ValidInstr_ok]
 simp only [Option.bind_some]
 cases h : vIns i with
 | false => exact ⟨[], by simp, by simp⟩
 | true =>
  obtain ⟨h0, h1, h2, h3, h4⟩ := vIns_ok h
  obtain ⟨f1, f2, f3, f4⟩ := formOf_ok h0 h1
  have hi := itoa_len (n := i.fA) (by omega) (by omega)
  have hq := quote_len i.fText
  have ht := insTxt_len h2
  simp only [Bool.not_true, Bool.false_eq_true, if_false]
  rw [s_l24Fields_ok h0 h1, s_l24Words_eq, s_l06Digits_ok (by omega) (by omega), s_QuoteString_ok]
  simp only [Option.bind_some, s_InstrText_L11_eq, beq_iff_eq]
  have hw : ∃ w, idx ([[], [115, 116, 101, 112], [115, 116, 114, 105, 110, 103], [105, 110, 116, 101, 103, 101, 114], [108, 111, 97, 100], [110, 97, 109, 101, 111, 102], [100, 101, 102, 101, 114], [99, 117, 114, 115, 111, 114], [98, 105, 110, 97, 114, 121], [110, 101, 103, 97, 116, 101], [105, 110, 100, 105, 114, 101, 99, 116], [98, 105, 110, 100], [101, 108, 101, 109, 101, 110, 116], [99, 97, 108, 108], [112, 111, 112], [116, 111, 110, 97, 109, 101], [99, 104, 101, 99, 107, 102, 105, 101, 108, 100], [115, 116, 111, 114, 101], [115, 116, 111, 114, 101, 110, 97, 109, 101], [115, 116, 111, 114, 101, 101, 108, 101, 109, 101, 110, 116], [115, 116, 111, 114, 101, 102, 105, 101, 108, 100], [112, 101, 101, 107, 110, 97, 109, 101], [112, 101, 101, 107, 101, 108, 101, 109, 101, 110, 116], [112, 101, 101, 107, 102, 105, 101, 108, 100], [109, 97, 116, 99, 104], [107, 101, 101, 112], [114, 101, 112, 108, 97, 99, 101], [106, 117, 109, 112], [101, 110, 100], [114, 101, 116, 117, 114, 110], [102, 114, 101, 116, 117, 114, 110], [102, 97, 117, 108, 116]] : List (List UInt8)) i.fOp = some w ∧ w.length ≤ 20 := by
   rw [idx_of (by omega)]
   have hall : ∀ (L : List (List UInt8)) (n : Nat), n < L.length → (L.all fun w => decide (w.length ≤ 20)) = true → ∃ w, L[n]? = some w ∧ w.length ≤ 20 := fun L n hn hL => ⟨L[n], List.getElem?_eq_getElem hn, by
    have := List.all_eq_true.1 hL _ (List.getElem_mem hn)
    simpa using this⟩
   exact hall _ _ (by simp; omega) (by decide)
  obtain ⟨w, hw, hwl⟩ := hw
  rw [hw]
  simp only [Option.bind_some]
  rw [app_of (xs := [32]) (ys := Lib.itoa i.fA) (by simp; omega), app_of (xs := w) (ys := [32]) (by simp; omega), app_of (xs := [32]) (ys := i.fText) (by simp; omega)]
  simp only [Option.bind_some]
  rw [app_of (xs := w) (ys := [32] ++ Lib.itoa i.fA) (by simp; omega), app_of (xs := w) (ys := [32] ++ i.fText) (by simp; omega), app_of (xs := w ++ [32]) (ys := quote i.fText) (by simp; omega)]
  simp only [Option.bind_some]
  rw [app_of (ys := [32]) (by simp; omega), app_of (ys := [32] ++ i.fText) (by simp; omega)]
  simp only [Option.bind_some]
  rw [app_of (ys := quote i.fText) (by simp; omega)]
  split <;> split <;> (try split) <;> exact ⟨_, rfl, by first | omega | (simp; omega)⟩
theorem idxFunc_ok (w : List UInt8) : ∀ (d n : Nat), 31 - n = d → n ≤ 31 → ∃ r, slices_IndexFunc___i_instrForm_i_instrForm__L2__i_ReadInstr_c1 insForms w 31 (n : Int) = some r ∧ (r = -1 ∨ (0 ≤ r ∧ r < 31)) ∧ ∀ m, n ≤ m → m < 31 → (insForms.findIdx fun f => f.fWord == w) = m → r = (m : Int) := by
 have hlen : insForms.length = 31 := rfl
 intro d
 induction d with
 | zero =>
  intro n hd hn
  have : n = 31 := by omega
  subst this
  rw [slices_IndexFunc___i_instrForm_i_instrForm__L2__i_ReadInstr_c1_eq, if_neg (by decide)]
  exact ⟨_, rfl, .inl rfl, fun m h1 h2 => by omega⟩
 | succ d ih =>
  intro n hd hn
  have hlt : n < insForms.length := by omega
  rw [slices_IndexFunc___i_instrForm_i_instrForm__L2__i_ReadInstr_c1_eq, if_pos (by simp; omega), idx_nat, List.getElem?_eq_getElem hlt]
  simp only [Option.bind_some, i_ReadInstr_c1_eq]
  by_cases hw : (insForms[n].fWord == w) = true
  ·rw [if_pos hw]
   refine ⟨_, rfl, .inr ⟨by omega, by omega⟩, fun m h1 h2 hm => ?_⟩
   have hle : (insForms.findIdx fun f => f.fWord == w) ≤ n := by
    rcases Nat.lt_or_ge n (insForms.findIdx fun f => f.fWord == w) with h | h
    ·have := List.not_of_lt_findIdx h
     rw [hw] at this; cases this
    ·exact h
   omega
  ·rw [if_neg hw, w64_of (by omega) (by omega), show ((n : Int) + 1) = ((n + 1 : Nat) : Int) by omega]
   obtain ⟨r, h1, h2, h3⟩ := ih (n + 1) (by omega) (by omega)
   refine ⟨r, h1, h2, fun m h4 h5 hm => ?_⟩
   by_cases e : m = n
   ·subst e
    have hl2 : (insForms.findIdx fun f => f.fWord == w) < insForms.length := by omega
    have this : (insForms[insForms.findIdx fun f => f.fWord == w].fWord == w) = true := List.findIdx_getElem (p := fun f : TInstrForm => f.fWord == w) (w := hl2)
    have e2 : insForms[insForms.findIdx fun f => f.fWord == w] = insForms[m] := by congr 1
    rw [e2] at this
    exact (hw this).elim
   ·exact h3 m (by omega) h5 hm
theorem i_readInteger_tot {s : List UInt8} : ∃ n b, i_readInteger s = some (n, b) ∧ ∀ m, 0 ≤ m → m ≤ 1000000000000 → s = Lib.itoa m → n = m := by
 rw [i_readInteger_eq]
 by_cases hl : s.length > 13
 ·rw [if_pos (by rw [len_eq]; simp; omega)]
  refine ⟨_, _, rfl, fun m h0 h1 e => ?_⟩
  have := itoa_len h0 h1
  rw [← e] at this; omega
 ·rw [if_neg (by rw [len_eq]; simp; omega)]
  obtain ⟨p, hp⟩ := parseIntE_some (s := s) (by omega)
  rw [hp]
  simp only [Option.bind_some, i_isNumber_eq, i_within_ok]
  have key : ∀ m, 0 ≤ m → m ≤ 1000000000000 → s = Lib.itoa m → p.1 = m := by
   intro m h0 h1 e
   obtain ⟨b, hb⟩ := parseIntE_itoa (n := m) (by omega) h1
   rw [e, hb] at hp
   cases hp; rfl
  split
  ·exact ⟨_, _, rfl, key⟩
  ·exact ⟨_, _, rfl, key⟩
def chkI (s : List UInt8) (j : TInstr) : TInstr × Bool := if vIns j = true ∧ iText j = s then (j, true) else (⟨0, 0, []⟩, false)
theorem i_ReadInstr_L14_ok (s : List UInt8) (x1 x2 : Int) (x3 : List UInt8) (a b : Int) (c : List UInt8) : i_ReadInstr_L14 s x1 x2 x3 a b c = some (chkI s ⟨a, b, c⟩) := by
 rw [i_ReadInstr_L14_eq, i_ValidInstr_ok, i_InstrText_ok]
 simp only [Option.bind_some]
 unfold chkI
 cases h : vIns ⟨a, b, c⟩ with
 | false => simp
 | true =>
  simp only [Bool.not_true, Bool.false_eq_true, if_false, if_true, true_and]
  by_cases ht : iText ⟨a, b, c⟩ = s
  ·rw [if_neg (by simpa using ht), if_pos ht]
  ·rw [if_pos (by simpa using ht), if_neg ht]; rfl
theorem cut_len (s t : List UInt8) : (Lib.cut s t).1.length ≤ s.length ∧ (Lib.cut s t).2.1.length ≤ s.length := by
 unfold Lib.cut
 split
 ·simp; omega
 ·simp
theorem itoa_no32 {n : Int} (h0 : 0 ≤ n) (h1 : n ≤ 1000000000000) : hasB (ib 32) (Lib.itoa n) = false := by
 have e : Lib.itoa n = Lib.decDigits n.toNat := by unfold Lib.itoa; rw [if_neg (by omega)]
 obtain ⟨ha, _, _⟩ := decd_ok 12 n.toNat (by omega)
 rw [e]
 unfold hasB
 rw [List.any_eq_false]
 intro b hb
 have := List.all_eq_true.1 ha b hb
 unfold digB at this
 simp only [Bool.and_eq_true, decide_eq_true_eq] at this
 have h32 : ib 32 = 32 := by decide
 rw [h32, ib_eq]
 simp
 omega
theorem cut_none {c : UInt8} {s : List UInt8} (h : hasB (ib c) s = false) : Lib.cut s [c] = (s, [], false) := by
 unfold Lib.cut
 rw [index_cnone h, if_neg (by decide)]
theorem i_ReadInstr_ok {s : List UInt8} (h : s.length ≤ 1000000) : ∃ j, i_ReadInstr s = some (chkI s j) ∧ ∀ i, vIns i = true → iText i = s → j = i := by
  rw [i_ReadInstr_eq]
  unfold scutS
  have hc := cut_len s [32]
  have hc2 := cut_len (Lib.cut s [32]).2.1 [32]
  rw [if_pos (by omega), i_instrForms_ok]
  simp only [Option.bind_some]
  rw [slices_IndexFunc___i_instrForm_i_instrForm___i_ReadInstr_c1_eq, show len insForms = 31 from rfl]
  obtain ⟨r, hr, hrr, hri⟩ := idxFunc_ok (Lib.cut s [32]).1 31 0 rfl (by omega)
  rw [Int.natCast_zero] at hr
  rw [hr]
  simp only [Option.bind_some]
  -- of a valid instruction
  have word : ∀ i, vIns i = true → iText i = s → (Lib.cut s [32]).1 = (formOf i.fOp).fWord ∧ r = i.fOp - 1 ∧ (32 :: (Lib.cut s [32]).2.1 = (if (formOf i.fOp).fHasNumber = true then 32 :: Lib.itoa i.fA else []) ++ (if i.fOp = 2 then 32 :: quote i.fText else if (formOf i.fOp).fHasText = true then 32 :: i.fText else []) ∨ ((formOf i.fOp).fHasNumber = false ∧ i.fOp ≠ 2 ∧ (formOf i.fOp).fHasText = false)) := by
    intro i hi e
    obtain ⟨h0, h1, h2, h3, h4⟩ := vIns_ok hi
    obtain ⟨f1, f2, f3, f4⟩ := formOf_ok h0 h1
    have f2' : hasB (ib 32) (formOf i.fOp).fWord = false := f2
    have hw : (Lib.cut s [32]).1 = (formOf i.fOp).fWord ∧ (32 :: (Lib.cut s [32]).2.1 = (if (formOf i.fOp).fHasNumber = true then 32 :: Lib.itoa i.fA else []) ++ (if i.fOp = 2 then 32 :: quote i.fText else if (formOf i.fOp).fHasText = true then 32 :: i.fText else []) ∨ ((formOf i.fOp).fHasNumber = false ∧ i.fOp ≠ 2 ∧ (formOf i.fOp).fHasText = false)) := by
      unfold iText at e
      generalize hR : (if (formOf i.fOp).fHasNumber = true then 32 :: Lib.itoa i.fA else []) ++ (if i.fOp = 2 then 32 :: quote i.fText else if (formOf i.fOp).fHasText = true then 32 :: i.fText else []) = R at e
      by_cases hne : (formOf i.fOp).fHasNumber = false ∧ i.fOp ≠ 2 ∧ (formOf i.fOp).fHasText = false
      · have : R = [] := by rw [← hR, hne.1, hne.2.2]; simp [hne.2.1]
        subst this
        rw [List.append_nil] at e
        rw [← e, cut_none f2']
        exact ⟨rfl, .inr hne⟩
      · have : ∃ q, R = 32 :: q := by
          rw [← hR]
          by_cases hn : (formOf i.fOp).fHasNumber = true
          · rw [if_pos hn]; exact ⟨_, rfl⟩
          · rw [if_neg hn]
            by_cases ho : i.fOp = 2
            · rw [if_pos ho]; exact ⟨_, rfl⟩
            · rw [if_neg ho]
              by_cases hx : (formOf i.fOp).fHasText = true
              · rw [if_pos hx]; exact ⟨_, rfl⟩
              · exact (hne ⟨by simpa using hn, ho, by simpa using hx⟩).elim
        obtain ⟨q, rfl⟩ := this
        rw [← e, cut_one f2']
        exact ⟨rfl, .inl rfl⟩
    refine ⟨hw.1, ?_, hw.2⟩
    have hx := List.all_eq_true.1 forms_idx (i.fOp - 1).toNat (by simp; omega)
    have hk : (((i.fOp - 1).toNat : Int) + 1) = i.fOp := by omega
    rw [hk] at hx
    have hx : (insForms.findIdx fun f => f.fWord == (formOf i.fOp).fWord) = (i.fOp - 1).toNat := by simpa using hx
    rw [hri (i.fOp - 1).toNat (Nat.zero_le _) (by omega) (by rw [hw.1]; exact hx)]
    omega
  rcases hrr with rfl | ⟨hr0, hr1⟩
  · rw [if_pos (by decide)]
    refine ⟨⟨0, 0, []⟩, rfl, fun i hi e => ?_⟩
    obtain ⟨h0, _⟩ := vIns_ok hi
    have := (word i hi e).2.1
    omega
  · rw [if_neg (by simp; omega), w64_of (by omega) (by omega), i_Instr_form_ok _ (by simp only; omega) (by simp only; omega)]
    simp only [Option.bind_some, i_ReadInstr_L14_ok, beq_iff_eq]
    have opOf : ∀ i, vIns i = true → iText i = s → i.fOp = r + 1 := fun i hi e => by have := (word i hi e).2.1; omega
    by_cases hn : (formOf (r + 1)).fHasNumber = true
    · rw [if_pos hn, if_pos (by omega)]
      simp only [Option.bind_some]
      obtain ⟨n, b, hn1, hn2⟩ := i_readInteger_tot (s := (Lib.cut (Lib.cut s [32]).2.1 [32]).1)
      obtain ⟨t, ht, _, hti⟩ := i_inside_ok (s := (Lib.cut (Lib.cut s [32]).2.1 [32]).2.1) (by omega)
      rw [hn1, ht]
      simp only [Option.bind_some]
      rw [i_Instr_form_ok _ (by simp only; omega) (by simp only; omega)]
      simp only [Option.bind_some]
      have num : ∀ i, vIns i = true → iText i = s → n = i.fA ∧ (i.fOp = 2 → False) ∧ ((formOf i.fOp).fHasText = true → (Lib.cut (Lib.cut s [32]).2.1 [32]).2.1 = i.fText) ∧ ((formOf i.fOp).fHasText = false → i.fText = []) := by
        intro i hi e
        have ho := opOf i hi e
        obtain ⟨h0, h1, h2, h3, h4⟩ := vIns_ok hi
        obtain ⟨f1, f2, f3, f4⟩ := formOf_ok h0 h1
        have hn' : (formOf i.fOp).fHasNumber = true := by rw [ho]; exact hn
        have h2f : i.fOp = 2 → False := fun h => by rw [h] at hn'; exact absurd hn' (by decide)
        have hw := (word i hi e).2.2
        have n32 := itoa_no32 (n := i.fA) (by omega) (by omega)
        have htx : (formOf i.fOp).fHasText = false → i.fText = [] := fun hx => by
          unfold insTxt at h2
          rw [if_neg (fun h => h2f h), hx] at h2
          simpa using h2
        rcases hw with hw | hw
        · rw [if_pos hn', if_neg (fun h => h2f h)] at hw
          simp only [List.cons_append, List.cons.injEq, true_and] at hw
          by_cases hx : (formOf i.fOp).fHasText = true
          · rw [if_pos hx] at hw
            rw [hw, cut_one n32] at hn2 ⊢
            exact ⟨hn2 _ (by omega) (by omega) rfl, h2f, fun _ => rfl, fun h => by rw [hx] at h; cases h⟩
          · rw [if_neg hx, List.append_nil] at hw
            rw [hw, cut_none n32] at hn2 ⊢
            exact ⟨hn2 _ (by omega) (by omega) rfl, h2f, fun h => (hx h).elim, htx⟩
        · rw [hw.1] at hn'; cases hn'
      have mk : ∀ i : TInstr, i = ⟨i.fOp, i.fA, i.fText⟩ := fun i => rfl
      split
      · rename_i h2
        exact ⟨_, rfl, fun i hi e => by
          have := (num i hi e).2.1 (by rw [opOf i hi e]; exact h2)
          exact this.elim⟩
      split
      · rename_i hx
        refine ⟨_, rfl, fun i hi e => ?_⟩
        obtain ⟨k1, k2, k3, k4⟩ := num i hi e
        have ho := opOf i hi e
        rw [mk i, k1, k3 (by rw [ho]; exact hx), ho]
      · rename_i hx
        refine ⟨_, rfl, fun i hi e => ?_⟩
        obtain ⟨k1, k2, k3, k4⟩ := num i hi e
        have ho := opOf i hi e
        rw [mk i, k1, k4 (by rw [ho]; simpa using hx), ho]
    · rw [if_neg hn]
      have hnf : (formOf (r + 1)).fHasNumber = false := by simpa using hn
      obtain ⟨t, ht, _, hti⟩ := i_inside_ok (s := (Lib.cut s [32]).2.1) (by omega)
      rw [ht]
      simp only [Option.bind_some]
      have zero : ∀ i, vIns i = true → iText i = s → i.fA = 0 := by
        intro i hi e
        have ho := opOf i hi e
        obtain ⟨h0, h1, h2, h3, h4⟩ := vIns_ok hi
        have hz : (insForms.all fun f => f.fHasNumber || (decide (f.fLow = 0) && decide (f.fHigh = 0))) = true := by decide
        have := List.all_eq_true.1 hz _ (formOf_mem h0 h1)
        rw [ho] at this h3 h4
        rw [hnf] at this
        simp only [Bool.false_or, Bool.and_eq_true, decide_eq_true_eq] at this
        omega
      have mk : ∀ i : TInstr, i = ⟨i.fOp, i.fA, i.fText⟩ := fun i => rfl
      by_cases h2 : r + 1 = 2
      · rw [if_pos h2]
        refine ⟨_, rfl, fun i hi e => ?_⟩
        have ho := opOf i hi e
        have hA := zero i hi e
        obtain ⟨h0, h1, hx, h3, h4⟩ := vIns_ok hi
        have hw := (word i hi e).2.2
        rcases hw with hw | hw
        · rw [ho, hnf, if_neg (by simp), if_pos h2] at hw
          simp only [List.nil_append, List.cons.injEq, true_and] at hw
          unfold insTxt at hx
          rw [ho, if_pos h2] at hx
          have hq : ∃ c : UInt8, quote i.fText = c :: (i.fText ++ [c]) := by
            unfold quote
            rw [if_pos hx]
            split
            · exact ⟨34, rfl⟩
            · exact ⟨39, rfl⟩
          obtain ⟨c, hq⟩ := hq
          have := hti c c i.fText (hw.trans hq)
          rw [mk i, hA, this, ho]
        · exact (hw.2.1 (by omega)).elim
      rw [if_neg h2]
      by_cases hx : (formOf (r + 1)).fHasText = true
      · rw [if_pos hx]
        refine ⟨_, rfl, fun i hi e => ?_⟩
        have ho := opOf i hi e
        have hA := zero i hi e
        have hw := (word i hi e).2.2
        rcases hw with hw | hw
        · rw [ho, hnf, if_neg (by simp), if_neg h2, if_pos hx] at hw
          simp only [List.nil_append, List.cons.injEq, true_and] at hw
          rw [mk i, hA, hw, ho]
        · rw [ho, hx] at hw; cases hw.2.2
      · rw [if_neg hx]
        refine ⟨_, rfl, fun i hi e => ?_⟩
        have ho := opOf i hi e
        have hA := zero i hi e
        obtain ⟨h0, h1, ht2, h3, h4⟩ := vIns_ok hi
        unfold insTxt at ht2
        rw [ho, if_neg h2, if_neg hx] at ht2
        have : i.fText = [] := by simpa using ht2
        rw [mk i, hA, this, ho]
end Go.Dv.U

namespace Go.Dv.U
open Go Go.Dv Go.Proofs
theorem s_l24Draw_L18_ok {c : List Int} {a s B : Int} (h : SrcOk c a B) (x3 x4 : Int) (x5 : List UInt8) (x6 x7 : Int) (x8 : List UInt8) : Dr (s_l24Draw_L18 c a s x3 x4 x5 x6 x7 x8) B (fun _ => True) := by
 rw [s_l24Draw_L18_eq]
 exact Dr.some h trivial
theorem s_l24Draw_L7_ok {c : List Int} {a s B : Int} (h : SrcOk c a B) (hB : B ≤ 4611686018400000000) (x3 x4 : Int) (x5 : List UInt8) (x6 x7 : Int) (x8 : List UInt8) : Dr (s_l24Draw_L7 c a s x3 x4 x5 x6 x7 x8) (B + 300000) (fun _ => True) := by
  rw [s_l24Draw_L7_eq]
  have tail : ∀ {c : List Int} {a s B : Int} (t : List UInt8), SrcOk c a B → B ≤ 4611686018410000000 → Dr ((s_l00Src_one 12 c a s).bind fun r198 => if Prod.fst r198 = true then (s_l00Src_pick 4 (Prod.fst (Prod.fst (Prod.snd r198))) (Prod.fst (Prod.snd (Prod.fst (Prod.snd r198)))) (Prod.fst (Prod.snd (Prod.snd (Prod.fst (Prod.snd r198)))))).bind fun r196 =>
      if (Prod.fst r196 == 0) = true then (s_l00Src_among ([-1, 80, 12, 1000000000001]) (Prod.fst (Prod.fst (Prod.snd r196))) (Prod.fst (Prod.snd (Prod.fst (Prod.snd r196)))) (Prod.fst (Prod.snd (Prod.snd (Prod.fst (Prod.snd r196)))))).bind fun r194 => s_l24Draw_L18 (Prod.fst (Prod.fst (Prod.snd r194))) (Prod.fst (Prod.snd (Prod.fst (Prod.snd r194)))) (Prod.fst (Prod.snd (Prod.snd (Prod.fst (Prod.snd r194))))) x3 x4 x5 x6 (Prod.fst r194) t
      else if (Prod.fst r196 == 1) = true then (s_l00Src_text ([[], [49], [65, 32, 66], [10]]) (Prod.fst (Prod.fst (Prod.snd r196))) (Prod.fst (Prod.snd (Prod.fst (Prod.snd r196)))) (Prod.fst (Prod.snd (Prod.snd (Prod.fst (Prod.snd r196)))))).bind fun r193 => s_l24Draw_L18 (Prod.fst (Prod.fst (Prod.snd r193))) (Prod.fst (Prod.snd (Prod.fst (Prod.snd r193)))) (Prod.fst (Prod.snd (Prod.snd (Prod.fst (Prod.snd r193))))) x3 x4 x5 x6 x7 (Prod.fst r193)
      else if (Prod.fst r196 == 2) = true then (s_l00Src_among ([0, 32, -1]) (Prod.fst (Prod.fst (Prod.snd r196))) (Prod.fst (Prod.snd (Prod.fst (Prod.snd r196)))) (Prod.fst (Prod.snd (Prod.snd (Prod.fst (Prod.snd r196)))))).bind fun r192 => s_l24Draw_L18 (Prod.fst (Prod.fst (Prod.snd r192))) (Prod.fst (Prod.snd (Prod.fst (Prod.snd r192)))) (Prod.fst (Prod.snd (Prod.snd (Prod.fst (Prod.snd r192))))) x3 x4 x5 (Prod.fst r192) x7 t
      else s_l24Draw_L18 (Prod.fst (Prod.fst (Prod.snd r196))) (Prod.fst (Prod.snd (Prod.fst (Prod.snd r196)))) (Prod.fst (Prod.snd (Prod.snd (Prod.fst (Prod.snd r196))))) x3 x4 x5 x6 (w64 (x7 + 1)) t
      else s_l24Draw_L18 (Prod.fst (Prod.fst (Prod.snd r198))) (Prod.fst (Prod.snd (Prod.fst (Prod.snd r198)))) (Prod.fst (Prod.snd (Prod.snd (Prod.fst (Prod.snd r198))))) x3 x4 x5 x6 x7 t) (B + 10) (fun _ => True) := by
    intro c a s B t h hB
    refine (s_l00Src_one_ok 12 h (by omega)).bind fun v c2 a2 s2 h2 _ => ?_
    simp only
    split
    · refine (s_l00Src_pick_ok 4 h2 (by omega)).bind fun v c3 a3 s3 h3 _ => ?_
      simp only
      split
      · refine (s_l00Src_among_ok _ (by simp) h3 (by omega)).bind fun v c4 a4 s4 h4 _ => ?_
        exact s_l24Draw_L18_ok (h4.le (by omega)) ..
      split
      · refine (s_l00Src_text_ok _ (by simp) h3 (by omega)).bind fun v c4 a4 s4 h4 _ => ?_
        exact s_l24Draw_L18_ok (h4.le (by omega)) ..
      split
      · refine (s_l00Src_among_ok _ (by simp) h3 (by omega)).bind fun v c4 a4 s4 h4 _ => ?_
        exact s_l24Draw_L18_ok (h4.le (by omega)) ..
      · exact s_l24Draw_L18_ok (h3.le (by omega)) ..
    · exact s_l24Draw_L18_ok (h2.le (by omega)) ..
  split
  · refine (s_l06Text_ok h (by omega)).bind fun v c2 a2 s2 h2 _ => ?_
    exact (tail v h2 (by omega)).le (by omega) fun _ h => h
  · exact (tail x8 h (by omega)).le (by omega) fun _ h => h
theorem s_l24Draw_ok {c : List Int} {a s B : Int} (h : SrcOk c a B) (hB : B ≤ 4611686018390000000) : Dr (s_l24Draw c a s) (B + 600000) (fun _ => True) := by
 rw [s_l24Draw_eq]
 refine (s_l00Src_pick_ok 31 h (by omega)).bind fun v c2 a2 s2 h2 hv => ?_
 simp only
 rw [w64_of (by have := hv.2.1 (by decide); omega) (by have := hv.2.1 (by decide); omega), s_l24Fields_ok (by omega) (by have := hv.2.1 (by decide); omega)]
 simp only [Option.bind_some]
 split
 ·refine (s_l00Src_among_ok _ (by simp) h2 (by omega)).bind fun v c3 a3 s3 h3 _ => ?_
  simp only
  split
  ·refine (s_l06Name_ok h3 (by omega)).bind fun v c4 a4 s4 h4 _ => ?_
   exact (s_l24Draw_L7_ok h4 (by omega) ..).le (by omega) fun _ h => h
  ·exact (s_l24Draw_L7_ok h3 (by omega) ..).le (by omega) fun _ h => h
 split
 ·refine (s_l06Name_ok h2 (by omega)).bind fun v c4 a4 s4 h4 _ => ?_
  exact (s_l24Draw_L7_ok h4 (by omega) ..).le (by omega) fun _ h => h
 ·exact (s_l24Draw_L7_ok h2 (by omega) ..).le (by omega) fun _ h => h
theorem cut_tot {s : List UInt8} {a b : Int} (h0 : 0 ≤ a) (h1 : a ≤ b) (h2 : b ≤ s.length) : ∃ t, cut s a b = some t ∧ t.length ≤ s.length := by
 obtain ⟨n, rfl⟩ : ∃ n : Nat, a = n := ⟨a.toNat, by omega⟩
 obtain ⟨m, rfl⟩ : ∃ m : Nat, b = m := ⟨b.toNat, by omega⟩
 exact ⟨_, cut_of (by omega) (by omega), by simp; omega⟩
theorem s_DrawReadInstr_ok {x : List Int} (h : BytesOk x) : ∃ t, s_DrawReadInstr x = some t ∧ t.length ≤ 10000 := by
 have h0 : SrcOk x 0 0 := ⟨h.2, h.1, by omega, by omega⟩
 rw [s_DrawReadInstr_eq]
 obtain ⟨v, c, a, s, e, h1, hv⟩ := s_l24Draw_ok h0 (by omega)
 rw [e]
 simp only [Option.bind_some]
 obtain ⟨t, ht, htl⟩ := s_InstrText_tot v
 rw [ht]
 simp only [Option.bind_some]
 obtain ⟨v2, c2, a2, s2, e2, h2, _⟩ := s_l00Src_one_ok 2 h1 (by omega)
 rw [e2]
 simp only [Option.bind_some]
 split
 ·exact ⟨_, rfl, by omega⟩
 split
 ·exact ⟨_, rfl, by omega⟩
 ·rename_i hne
  have hpos : 1 ≤ t.length := by
   cases t with
   | nil => simp at hne
   | cons => simp
  obtain ⟨at_, c3, a3, s3, e3, h3, hp⟩ := s_l00Src_pick_ok (len t) h2 (by omega)
  rw [e3]
  simp only [Option.bind_some]
  obtain ⟨q, c4, a4, s4, e4, h4, hq⟩ := s_l00Src_pick_ok 4 h3 (by omega)
  rw [e4]
  simp only [Option.bind_some]
  rw [len_eq] at hp ⊢
  have ha : 0 ≤ at_ ∧ at_ < t.length := by
   obtain ⟨p1, p2, p3⟩ := hp
   refine ⟨p1, ?_⟩
   by_cases h1 : (1 : Int) < t.length
   ·exact p2 h1
   ·have := p3 (by omega); omega
  rw [w64_of (by omega) (by omega)]
  simp only [Option.getD_some, Option.getD_none]
  obtain ⟨t1, k1, l1⟩ := cut_tot (s := t) (a := 0) (b := at_) (by omega) ha.1 (by omega)
  obtain ⟨t2, k2, l2⟩ := cut_tot (s := t) (a := at_ + 1) (b := t.length) (by omega) (by omega) (by omega)
  obtain ⟨t3, k3, l3⟩ := cut_tot (s := t) (a := at_) (b := t.length) (by omega) (by omega) (by omega)
  rw [k1, k2, k3]
  simp only [Option.bind_some]
  have tl : ∀ (xs : List (List UInt8)) (v : List UInt8), v ∈ xs → (xs.all fun t => decide (t.length ≤ 100)) = true → v.length ≤ 100 := fun xs v hv hx => by
   have := List.all_eq_true.1 hx v hv
   simpa using this
  split
  ·rw [app_of (by omega)]
   exact ⟨_, rfl, by simp; omega⟩
  split
  ·obtain ⟨u, c5, a5, s5, e5, h5, hu⟩ := s_l00Src_text_ok ([[32], [48], [39], [120]]) (by simp) h4 (by omega)
   rw [e5]
   simp only [Option.bind_some]
   have hul := tl _ _ hu (by decide)
   rw [app_of (by omega)]
   simp only [Option.bind_some]
   rw [app_of (by simp; omega)]
   exact ⟨_, rfl, by simp; omega⟩
  split
  ·obtain ⟨u, c5, a5, s5, e5, h5, hu⟩ := s_l00Src_text_ok ([[32], [32, 49], [32, 88]]) (by simp) h4 (by omega)
   rw [e5]
   simp only [Option.bind_some]
   have hul := tl _ _ hu (by decide)
   rw [app_of (by omega)]
   exact ⟨_, rfl, by simp; omega⟩
  ·generalize hL : ([[], [115, 116, 101, 112], [115, 116, 101, 112, 32, 48, 49], [115, 116, 114, 105, 110, 103, 32, 39, 39], [115, 116, 114, 105, 110, 103, 32, 39], [115, 116, 114, 105, 110, 103, 32, 34, 97, 34], [101, 110, 100, 32, 48], [99, 97, 108, 108, 32, 50], [99, 97, 108, 108, 32, 50, 32, 70], [98, 105, 110, 100, 32, 50, 49, 32, 88], [98, 105, 110, 100, 32, 50, 48, 32, 88]] : List (List UInt8)) = L
   obtain ⟨u, c5, a5, s5, e5, h5, hu⟩ := s_l00Src_text_ok L (by rw [← hL]; simp) h4 (by omega)
   rw [e5]
   simp only [Option.bind_some]
   have hul := tl _ _ hu (by rw [← hL]; decide)
   exact ⟨_, rfl, by omega⟩
theorem l_FnCodeText_L11_ok {y : List Int} (hy : BytesOk y) : l_FnCodeText_L11 y = some true := by
 rw [l_FnCodeText_L11_eq]
 obtain ⟨s, hs, hsl⟩ := s_DrawReadInstr_ok hy
 obtain ⟨j, hj, _⟩ := i_ReadInstr_ok (s := s) (by omega)
 rw [hs]
 simp only [Option.bind_some]
 rw [hj]
 simp only [Option.bind_some]
 unfold chkI
 split
 ·rename_i hc
  obtain ⟨h1, h2⟩ := hc
  simp only [Bool.not_true, Bool.false_eq_true, if_false]
  rw [i_InstrText_ok, s_ValidInstr_ok, h1]
  simp only [Option.bind_some, if_true, beq_iff_eq]
  rw [if_pos h2]
 ·simp
theorem l_FnCodeText_ok {x y : List Int} (hx : BytesOk x) (hy : BytesOk y) : l_FnCodeText x y = some true := by
 rw [l_FnCodeText_eq, l_c2Long_eq, l_c2Long_eq]
 simp only [Option.bind_some]
 split
 ·rfl
 split
 ·rfl
 have h0 : SrcOk x 0 0 := ⟨hx.2, hx.1, by omega, by omega⟩
 obtain ⟨v, c, a, s, e, h1, hv⟩ := s_l24Draw_ok h0 (by omega)
 rw [s_DrawInstrText_eq, e]
 simp only [Option.bind_some]
 rw [i_InstrText_ok, s_ValidInstr_ok]
 simp only [Option.bind_some]
 cases hval : vIns v with
 | true =>
  rw [if_pos rfl, if_pos rfl]
  have hl := iText_len hval
  obtain ⟨j, hj, hjv⟩ := i_ReadInstr_ok (s := iText v) (by omega)
  rw [hj]
  simp only [Option.bind_some]
  have e1 := hjv v hval rfl
  subst e1
  have e2 : chkI (iText j) j = (j, true) := by unfold chkI; rw [if_pos ⟨hval, rfl⟩]
  rw [e2, if_neg (by simp), if_neg (by simp)]
  exact l_FnCodeText_L11_ok hy
 | false =>
  rw [if_neg (by simp)]
  simp only [Bool.false_eq_true, if_false, beq_self_eq_true, Bool.not_true]
  exact l_FnCodeText_L11_ok hy
end Go.Dv.U
