/- Plain laws about these equations. -/
import Derived.Test.YtoiflplpcagifaaDoorFnExactReadValueEqa
set_option linter.all false
set_option linter.unusedVariables false
set_option linter.unusedSimpArgs false
namespace Go.Dv.U
open Go Go.Dv Go.Proofs
theorem i_within_ok (a b c : Int) : i_within a b c = some (decide (b ≤ a) && decide (a ≤ c)) := by
 rw [i_within_eq]; grind
theorem s_l00In_ok (a b c : Int) : s_l00In a b c = some (decide (b ≤ a) && decide (a ≤ c)) := by
 rw [s_l00In_eq]; grind
end Go.Dv.U

namespace Go.Dv.U
open Go Go.Dv Go.Proofs
def isLet (b : Int) : Bool := (decide (65 ≤ b) && decide (b ≤ 90)) || (decide (97 ≤ b) && decide (b ≤ 122))
def isDig (b : Int) : Bool := decide (48 ≤ b) && decide (b ≤ 57)
def isNmB (b : Int) : Bool := isLet b || isDig b || b == 95
theorem i_isLetter_ok (b : Int) : i_isLetter b = some (isLet b) := by
 rw [i_isLetter_eq]; unfold isLet; grind
theorem s_l02Letter_ok (b : Int) : s_l02Letter b = some (isLet b) := by
 rw [s_l02Letter_eq]; unfold isLet; grind
theorem i_isDigit_ok (b : Int) : i_isDigit b = some (isDig b) := by
 rw [i_isDigit_eq]; unfold isDig; grind
theorem s_l02Digit_ok (b : Int) : s_l02Digit b = some (isDig b) := by
 rw [s_l02Digit_eq]; unfold isDig; grind
theorem i_isNameByte_ok (b : Int) : i_isNameByte b = some (isNmB b) := by
 rw [i_isNameByte_eq, i_isLetter_ok, i_isDigit_ok]; unfold isNmB
 simp only [Option.bind_some]; grind
def isName (s : List UInt8) : Bool := match s with
 | [] => false
 | b :: _ => decide (s.length ≤ 12) && isLet (ib b) && s.all fun c => isNmB (ib c)
theorem i_areAllNm_ok {s : List UInt8} (h : s.length ≤ 9223372036854775807) : i_areAll_byte__i_isNameByte (s.map ib) = some (s.all fun c => isNmB (ib c)) := by
 rw [i_areAll_byte__i_isNameByte_eq]
 have := all_loop (xs := s.map ib) (by simpa using h) (F := i_isNameByte) (p := isNmB) (J := i_areAll_byte_L2__i_isNameByte (s.map ib) (len (s.map ib))) (fun i => by rw [i_areAll_byte_L2__i_isNameByte_eq]) (fun y _ => i_isNameByte_ok y)
 rw [this, List.all_map]
 rfl
theorem i_IsName_ok {s : List UInt8} : i_IsName s = some (isName s) := by
 rw [i_IsName_eq]
 cases s with
 | nil => simp [isName, len_eq]
 | cons b r =>
  by_cases h : (b :: r).length ≤ 12
  ·have h1 : decide (len (b :: r) ≥ 1) = true := by simp only [len_eq, List.length_cons, decide_eq_true_eq]; omega
   have h2 : decide (len (b :: r) ≤ 12) = true := by simp only [len_eq, decide_eq_true_eq]; omega
   rw [if_pos h1, if_pos h2, idx_zero]
   simp only [List.getElem?_cons_zero, Option.bind_some, i_isLetter_ok]
   have := i_areAllNm_ok (s := b :: r) (by omega)
   simp only [List.map_cons] at this ⊢
   rw [this]
   simp only [isName, h, decide_true, Bool.true_and, Option.bind_some]
   cases isLet (ib b) <;> simp
  ·have h2 : ¬ decide (len (b :: r) ≤ 12) = true := by simp only [len_eq, decide_eq_true_eq]; omega
   rw [if_neg h2]
   simp only [isName, h, decide_false, Bool.false_and]
   split <;> rfl
def nmRun : List UInt8 → Nat
 | [] => 0
 | b :: r => if isNmB (ib b) then nmRun r + 1 else 0
theorem nmRun_all : ∀ s, nmRun s = s.length ↔ (s.all fun c => isNmB (ib c)) = true
 | [] => by simp [nmRun]
 | b :: r => by
  have := nmRun_all r
  simp only [nmRun, List.length_cons, List.all_cons, Bool.and_eq_true]
  cases isNmB (ib b)
  ·simp
  ·simp [this]
theorem s_l02NameEnd_L3_ok {s : List UInt8} (h : s.length ≤ 9223372036854775807) : ∀ (n i : Nat), i + n = s.length → s_l02NameEnd_L3 s i = some ((i + nmRun (s.drop i) : Nat) : Int) := by
 intro n
 induction n with
 | zero =>
  intro i hi
  have : i = s.length := by omega
  subst this
  rw [s_l02NameEnd_L3_eq, s_l02NameEnd_L5_eq, List.drop_length]
  simp [len_eq, nmRun]
 | succ n ih =>
  intro i hi
  have hlt : i < s.length := by omega
  have hc : decide ((i : Int) < len s) = true := by simp [len_eq, hlt]
  rw [s_l02NameEnd_L3_eq, if_pos hc, idx_nat, List.getElem?_eq_getElem hlt, List.drop_eq_getElem_cons hlt]
  simp only [Option.bind_some, s_l02Letter_ok, s_l02Digit_ok, s_l02NameEnd_L4_eq, s_l02NameEnd_L5_eq, nmRun]
  have hw : w64 ((i : Int) + 1) = ((i + 1 : Nat) : Int) := by rw [w64_of (by omega) (by omega)]; omega
  rw [hw, ih (i + 1) (by omega)]
  unfold isNmB
  cases isLet (ib s[i]) <;> cases isDig (ib s[i]) <;> cases hb : (ib s[i] == 95) <;> simp <;> omega
theorem s_l02NameEnd_ok {s : List UInt8} (h : s.length ≤ 9223372036854775807) {i : Nat} (hi : i ≤ s.length) :
  s_l02NameEnd s i = some (match s.drop i with
   | [] => (i : Int)
   | b :: r => if isLet (ib b) then ((i + nmRun (b :: r) : Nat) : Int) else i) := by
 rw [s_l02NameEnd_eq]
 by_cases hlt : i < s.length
 ·have hc : ¬ decide ((i : Int) ≥ len s) = true := by simp only [len_eq, decide_eq_true_eq]; omega
  rw [if_neg hc, idx_nat, List.getElem?_eq_getElem hlt, List.drop_eq_getElem_cons hlt]
  simp only [Option.bind_some, s_l02Letter_ok]
  rw [s_l02NameEnd_L3_ok h (s.length - i) i (by omega), List.drop_eq_getElem_cons hlt]
  cases isLet (ib s[i]) <;> simp
 ·have : i = s.length := by omega
  subst this
  rw [List.drop_length]
  simp [len_eq]
theorem s_IsName_ok {s : List UInt8} : s_IsName s = some (isName s) := by
 rw [s_IsName_eq]
 cases s with
 | nil => simp [isName]
 | cons b r =>
  have h0 : (!(b :: r) == []) = true := rfl
  rw [if_pos h0]
  by_cases h : (b :: r).length ≤ 12
  ·have h2 : decide (len (b :: r) ≤ 12) = true := by simp only [len_eq, decide_eq_true_eq]; omega
   have := s_l02NameEnd_ok (s := b :: r) (by omega) (Nat.zero_le _)
   simp only [Int.natCast_zero, List.drop_zero, Nat.zero_add] at this
   rw [if_pos h2, this]
   simp only [isName, h, decide_true, Bool.true_and, Option.bind_some, len_eq]
   congr 1
   rw [Bool.eq_iff_iff, Bool.and_eq_true, ← nmRun_all]
   cases hL : isLet (ib b)
   ·simp; omega
   ·simp; omega
  ·have h2 : ¬ decide (len (b :: r) ≤ 12) = true := by simp only [len_eq, decide_eq_true_eq]; omega
   rw [if_neg h2]
   simp only [isName, h, decide_false, Bool.false_and]
end Go.Dv.U

namespace Go.Dv.U
open Go Go.Dv Go.Proofs
def hasB (c : Int) (s : List UInt8) : Bool := s.any fun b => ib b == c
theorem index_one (c : UInt8) : ∀ s : List UInt8, decide (0 ≤ Lib.index s [c]) = hasB (ib c) s
 | [] => by simp [Lib.index, hasB]
 | b :: l => by
  have ih := index_one c l
  have hge := Lib.index_ge l [c]
  unfold Lib.index
  have hp : [c].isPrefixOf (b :: l) = (ib b == ib c) := by
   rw [Bool.eq_iff_iff]
   simp only [List.isPrefixOf, Bool.and_true, beq_iff_eq, ib_inj]
   exact eq_comm
  have hh : hasB (ib c) (b :: l) = (ib b == ib c || hasB (ib c) l) := rfl
  rw [hp, hh, ← ih]
  cases (ib b == ib c)
  ·simp only [Bool.false_eq_true, if_false, Bool.false_or]
   split
   ·rename_i h; rw [beq_iff_eq] at h; rw [h]
   ·rename_i h
    have h : ¬ Lib.index l [c] = -1 := by simpa using h
    rw [Bool.eq_iff_iff, decide_eq_true_eq, decide_eq_true_eq]; omega
  ·simp
theorem nDigits_le : ∀ (k u : Nat), u < 10 ^ (k + 1) → Lib.nDigits u ≤ k + 1
 | 0, u, h => by rw [Lib.nDigits_small (by simpa using h)]; exact Nat.le_refl _
 | k + 1, u, h => by
  by_cases hu : u < 10
  ·rw [Lib.nDigits_small hu]; omega
  ·rw [Lib.nDigits_big hu]
   have := nDigits_le k (u / 10) (by rw [Nat.div_lt_iff_lt_mul (by decide)]; rw [Nat.pow_succ] at h; exact h)
   omega
theorem digit_byte {r : Int} (h0 : 0 ≤ r) (h1 : r < 10) : UInt8.ofNat (Int.toNat (IntKind.wrap .u8 (w64 (48 + r)))) = UInt8.ofNat (48 + r.toNat) := by
 rw [w64_of (by omega) (by omega)]
 have e2 : IntKind.u8.wrap (48 + r) = 48 + r := by unfold IntKind.wrap; simp [IntKind.bits, IntKind.signed]; omega
 rw [e2]
 congr 1
 omega
theorem rem_ten (u : Nat) : rem (u : Int) 10 = some ((u % 10 : Nat) : Int) := by
 unfold rem
 rw [if_neg (by decide), Int.tmod_eq_emod_of_nonneg (by omega)]
 congr 1
theorem quo_ten {u : Nat} (h : u < 9223372036854775808) : quo .i64 (u : Int) 10 = some ((u / 10 : Nat) : Int) := by
 unfold quo
 rw [if_neg (by decide), Int.tdiv_eq_ediv_of_nonneg (by omega)]
 congr 1
 have : IntKind.i64.wrap ((u : Int) / 10) = w64 ((u : Int) / 10) := rfl
 rw [this, w64_of (by omega) (by omega)]
 omega
theorem itoa_nat (u : Nat) : Lib.itoa (u : Int) = Lib.decDigits u := by
 unfold Lib.itoa
 rw [if_neg (by omega)]
 rfl
theorem i_decimal_ok {n : Int} (h0 : -9223372036854775808 ≤ n) (h1 : n ≤ 9223372036854775807) : i_decimal n = some (Lib.itoa n) := by
 rw [i_decimal_eq]
 unfold itoaS
 rw [if_pos ⟨rfl, h0, h1⟩]
 rfl
theorem itoa_len {n : Int} (h0 : 0 ≤ n) (h1 : n ≤ 1000000000000) : (Lib.itoa n).length ≤ 13 := by
 obtain ⟨u, rfl⟩ : ∃ u : Nat, n = u := ⟨n.toNat, by omega⟩
 rw [itoa_nat, Lib.decDigits_length]
 exact nDigits_le 12 u (by omega)
theorem itoa_len20 {n : Int} (h0 : -9223372036854775808 ≤ n) (h1 : n ≤ 9223372036854775807) : (Lib.itoa n).length ≤ 20 := by
 unfold Lib.itoa
 split
 ·rw [List.length_cons, Lib.decDigits_length]
  have := nDigits_le 18 n.natAbs (by omega)
  omega
 ·rw [Lib.decDigits_length]
  have := nDigits_le 18 n.toNat (by omega)
  omega
end Go.Dv.U

namespace Go.Dv.U
open Go Go.Dv Go.Proofs
def vVal (v : TValue) : Bool :=
 if v.fKind = 1 then v.fNum == 0 && v.fRef == 0 && decide (v.fText.length ≤ 200)
 else if v.fKind = 2 then v.fText == [] && v.fRef == 0 && decide (-1000000000000 ≤ v.fNum) && decide (v.fNum ≤ 1000000000000)
 else if v.fKind = 3 then v.fNum == 0 && v.fRef == 0 && decide (1 ≤ v.fText.length) && decide (v.fText.length ≤ 1200)
 else if v.fKind = 4 ∨ v.fKind = 5 ∨ v.fKind = 6 then v.fNum == 0 && v.fText == [] && decide (1 ≤ v.fRef) && decide (v.fRef ≤ 1000000)
 else if v.fKind = 7 ∨ v.fKind = 8 then v.fNum == 0 && v.fRef == 0 && isName v.fText
 else false
theorem s_l06Plain_ok (v : TValue) (a b c : Bool) : s_l06Plain v a b c = some ((a || v.fNum == 0) && (b || v.fText == []) && (c || v.fRef == 0)) := by
 rw [s_l06Plain_eq]
 cases a <;> cases b <;> cases c <;> simp only [Bool.false_eq_true, if_false, if_true, Bool.true_or, Bool.false_or, Bool.true_and, Bool.and_true] <;> grind
theorem s_ValidValue_ok (v : TValue) : s_ValidValue v = some (vVal v) := by
 rw [s_ValidValue_eq]
 simp only [s_ValidValue_L11_eq, s_ValidValue_L12_eq, s_l06Plain_ok, s_l00In_ok, s_IsName_ok, Option.bind_some, ite_some, len_eq]
 congr 1
 unfold vVal
 have e : ∀ n : Nat, decide ((1 : Int) ≤ (n : Int)) = decide (1 ≤ n) := fun n => by rw [Bool.eq_iff_iff]; simp only [decide_eq_true_eq]; omega
 have e2 : ∀ n : Nat, decide ((n : Int) ≤ (1200 : Int)) = decide (n ≤ 1200) := fun n => by rw [Bool.eq_iff_iff]; simp only [decide_eq_true_eq]; omega
 have e3 : ∀ n : Nat, decide ((n : Int) ≤ (200 : Int)) = decide (n ≤ 200) := fun n => by rw [Bool.eq_iff_iff]; simp only [decide_eq_true_eq]; omega
 simp only [e, e2, e3]
 grind
theorem i_isObjectId_ok (n : Int) : i_isObjectId n = some (decide (1 ≤ n) && decide (n ≤ 1000000)) := by
 rw [i_isObjectId_eq, i_within_ok]; rfl
theorem i_ValidValue_ok (v : TValue) : i_ValidValue v = some (vVal v) := by
 rw [i_ValidValue_eq]
 simp only [i_ValidValue_L11_eq, i_ValidValue_L12_eq, i_isObjectId_ok, i_within_ok, i_IsName_ok, Option.bind_some, ite_some, len_eq]
 congr 1
 unfold vVal
 have e : ∀ n : Nat, decide ((n : Int) ≥ (1 : Int)) = decide (1 ≤ n) := fun n => by rw [Bool.eq_iff_iff]; simp only [decide_eq_true_eq]; omega
 have e2 : ∀ n : Nat, decide ((n : Int) ≤ (1200 : Int)) = decide (n ≤ 1200) := fun n => by rw [Bool.eq_iff_iff]; simp only [decide_eq_true_eq]; omega
 have e3 : ∀ n : Nat, decide ((n : Int) ≤ (200 : Int)) = decide (n ≤ 200) := fun n => by rw [Bool.eq_iff_iff]; simp only [decide_eq_true_eq]; omega
 simp only [e, e2, e3]
 grind
end Go.Dv.U

namespace Go.Dv.U
open Go Go.Dv Go.Proofs
def dbl : List UInt8 → List UInt8
 | [] => []
 | b :: r => if ib b = 34 then b :: 34 :: dbl r else b :: dbl r
def qtext (s : List UInt8) : List UInt8 := 34 :: (dbl s ++ [34])
theorem dbl_len : ∀ s, (dbl s).length ≤ 2 * s.length
 | [] => by simp [dbl]
 | b :: r => by have := dbl_len r; simp only [dbl]; split <;> simp <;> omega
theorem qtext_len (s : List UInt8) : (qtext s).length ≤ 2 * s.length + 2 := by
 have := dbl_len s; simp [qtext]; omega
theorem dbl_app : ∀ (a b : List UInt8), dbl (a ++ b) = dbl a ++ dbl b
 | [], b => rfl
 | x :: a, b => by simp only [List.cons_append, dbl, dbl_app a b]; split <;> simp
theorem dbl_none : ∀ (s : List UInt8), hasB 34 s = false → dbl s = s
 | [], _ => rfl
 | b :: r, h => by
  simp only [hasB, List.any_cons, Bool.or_eq_false_iff] at h
  have h1 : ¬ ib b = 34 := by simpa using h.1
  rw [dbl, if_neg h1, dbl_none r h.2]
theorem split34 : ∀ (s : List UInt8), hasB 34 s = true → ∃ a r, s = a ++ 34 :: r ∧ hasB 34 a = false
  | [], h => by simp [hasB] at h
  | b :: s, h => by
    by_cases hb : ib b = 34
    · have : b = 34 := ib_inj.1 (hb.trans (by decide))
      subst this
      exact ⟨[], s, rfl, rfl⟩
    · have h2 : hasB 34 s = true := by
        simp only [hasB, List.any_cons, Bool.or_eq_true] at h
        rcases h with h | h
        · exact absurd (by simpa using h) hb
        · exact h
      obtain ⟨a, r, e, h3⟩ := split34 s h2
      refine ⟨b :: a, r, by rw [e]; rfl, ?_⟩
      simp only [hasB, List.any_cons, Bool.or_eq_false_iff]
      exact ⟨by simpa using hb, h3⟩
theorem index34_none {s : List UInt8} (h : hasB 34 s = false) : Lib.index s [34] = -1 := by
 have h1 := index_one 34 s
 have e : ib 34 = 34 := by decide
 rw [e, h] at h1
 have := Lib.index_ge s [34]
 simp only [decide_eq_false_iff_not] at h1
 omega
theorem index34_some {a r : List UInt8} (h : hasB 34 a = false) : Lib.index (a ++ 34 :: r) [34] = (a.length : Int) := by
 refine Lib.index_first (by simp) ?_ ?_
 ·simp [Lib.occAt]
 ·intro j hj
  simp only [Lib.occAt]
  rw [List.drop_append_of_le_length (by omega), List.drop_eq_getElem_cons hj]
  simp only [List.cons_append, List.isPrefixOf, Bool.and_true]
  rw [beq_eq_false_iff_ne]
  intro e
  have : hasB 34 a = true := by
   simp only [hasB, List.any_eq_true]
   exact ⟨a[j], List.getElem_mem hj, by rw [← e]; decide⟩
  rw [h] at this; cases this
theorem replaceK34 : ∀ (k : Nat) (s : List UInt8), Lib.count s [34] ≤ k → Lib.replaceK [34] [34, 34] k s = dbl s
 | 0, s, h => by
  cases hb : hasB 34 s with
  | false => rw [dbl_none s hb]; rfl
  | true =>
   obtain ⟨a, r, rfl, h3⟩ := split34 s hb
   have := Lib.count_hit (sub := [34]) (by simp) (index34_some (r := r) h3)
   omega
 | k + 1, s, h => by
  cases hb : hasB 34 s with
  | false => rw [dbl_none s hb, Lib.replaceK, index34_none hb]; rfl
  | true =>
   obtain ⟨a, r, rfl, h3⟩ := split34 s hb
   have hi := index34_some (r := r) h3
   have hc := Lib.count_hit (sub := [34]) (by simp) hi
   rw [Lib.replaceK_hit _ _ _ _ _ hi]
   have e1 : (a ++ 34 :: r).take a.length = a := by simp
   have e2 : (a ++ 34 :: r).drop (a.length + ([34] : List UInt8).length) = r := by simp [List.drop_append]
   rw [e2] at hc
   rw [e1, e2, replaceK34 k r (by omega), dbl_app, dbl_none a h3]
   have e3 : ib 34 = 34 := by decide
   simp [dbl, e3]
theorem replaceAll34 (s : List UInt8) : Lib.replaceAll s [34] [34, 34] = dbl s := by
 unfold Lib.replaceAll Lib.replace
 rw [if_neg (by decide)]
 exact replaceK34 _ s (by unfold Lib.replaceNum; rw [if_pos (by left; decide)]; exact Nat.le_refl _)
theorem i_QuoteText_ok {s : List UInt8} (h : s.length ≤ 1000000) : i_QuoteText s = some (qtext s) := by
 rw [i_QuoteText_eq]
 unfold replAllS
 rw [if_pos ⟨by omega, by decide, by decide⟩, replaceAll34]
 have := dbl_len s
 simp only [Option.bind_some]
 rw [app_of (by simp; omega)]
 simp only [Option.bind_some]
 rw [app_of (by simp; omega)]
 rfl
end Go.Dv.U

namespace Go.Dv.U
open Go Go.Dv Go.Proofs
def vWord (k : Int) : List UInt8 :=
 if k = 1 then [115, 116, 114, 105, 110, 103] else if k = 2 then [105, 110, 116, 101, 103, 101, 114] else if k = 3 then [112, 97, 116, 116, 101, 114, 110] else if k = 4 then [97, 114, 114, 97, 121] else if k = 5 then [116, 97, 98, 108, 101] else if k = 6 then [114, 101, 99, 111, 114, 100] else if k = 7 then [110, 97, 109, 101] else if k = 8 then [101, 120, 112, 114, 101, 115, 115, 105, 111, 110] else []
theorem vWord_len (k : Int) : (vWord k).length ≤ 10 := by
 unfold vWord; repeat' (first | decide | split)
def vText (v : TValue) : List UInt8 :=
 if v.fKind = 1 then qtext v.fText else if v.fKind = 2 then Lib.itoa v.fNum else if v.fKind = 3 then 60 :: v.fText ++ [62]
 else if v.fKind = 7 then 46 :: v.fText else if v.fKind = 8 then 42 :: v.fText else vWord v.fKind ++ [35] ++ Lib.itoa v.fRef
theorem vVal_rng {v : TValue} (h : vVal v = true) : 1 ≤ v.fKind ∧ v.fKind ≤ 8 ∧ v.fText.length ≤ 1200 ∧ (-1000000000000 ≤ v.fNum ∧ v.fNum ≤ 1000000000000) ∧ 0 ≤ v.fRef ∧ v.fRef ≤ 1000000 := by
 unfold vVal at h
 have hn : ∀ s : List UInt8, isName s = true → s.length ≤ 12 := by
  intro s h
  cases s with
  | nil => simp
  | cons b r =>
   simp only [isName, Bool.and_eq_true_iff, decide_eq_true_eq] at h
   exact h.1.1
 have := hn v.fText
 have e0 : v.fText = [] → v.fText.length = 0 := fun h => by rw [h]; rfl
 repeat' split at h
 all_goals simp only [Bool.and_eq_true_iff, beq_iff_eq, decide_eq_true_eq, Bool.false_eq_true] at h
 ·omega
 ·have := e0 h.1.1.1; omega
 ·omega
 ·have := e0 h.1.1.2; omega
 ·have := this h.2; omega
theorem typeNames_at {k : Int} (h0 : 1 ≤ k) (h1 : k ≤ 8) : idx ([[], [115, 116, 114, 105, 110, 103], [105, 110, 116, 101, 103, 101, 114], [112, 97, 116, 116, 101, 114, 110], [97, 114, 114, 97, 121], [116, 97, 98, 108, 101], [114, 101, 99, 111, 114, 100], [110, 97, 109, 101], [101, 120, 112, 114, 101, 115, 115, 105, 111, 110]] : List (List UInt8)) k = some (vWord k) := by
 rw [idx_of (by omega)]
 have : k = 1 ∨ k = 2 ∨ k = 3 ∨ k = 4 ∨ k = 5 ∨ k = 6 ∨ k = 7 ∨ k = 8 := by omega
 rcases this with rfl | rfl | rfl | rfl | rfl | rfl | rfl | rfl <;> rfl
theorem i_typeName_ok {k : Int} (h0 : 1 ≤ k) (h1 : k ≤ 8) : i_typeName k = some (vWord k) := by
 rw [i_typeName_eq, typeNames_at h0 h1]; rfl
theorem s_DataType_ok (v : TValue) : s_DataType v = some (if vVal v = true then vWord v.fKind else []) := by
 rw [s_DataType_eq, s_ValidValue_ok]
 simp only [Option.bind_some]
 cases h : vVal v
 ·simp
 ·obtain ⟨h0, h1, _⟩ := vVal_rng h
  simp only [Bool.not_true, Bool.false_eq_true, if_false, if_true]
  rw [w64_of (by omega) (by omega), idx_of (by omega)]
  have : v.fKind = 1 ∨ v.fKind = 2 ∨ v.fKind = 3 ∨ v.fKind = 4 ∨ v.fKind = 5 ∨ v.fKind = 6 ∨ v.fKind = 7 ∨ v.fKind = 8 := by omega
  rcases this with h | h | h | h | h | h | h | h <;> rw [h] <;> rfl
theorem rem_neg_ten (u : Nat) : rem (-(u : Int)) 10 = some (-((u % 10 : Nat) : Int)) := by
 unfold rem
 rw [if_neg (by decide), Int.neg_tmod, Int.tmod_eq_emod_of_nonneg (by omega)]
 congr 1
theorem quo_neg_ten {u : Nat} (h : u ≤ 9223372036854775808) : quo .i64 (-(u : Int)) 10 = some (-((u / 10 : Nat) : Int)) := by
 unfold quo
 rw [if_neg (by decide), Int.neg_tdiv, Int.tdiv_eq_ediv_of_nonneg (by omega)]
 congr 1
 have : IntKind.i64.wrap (-((u : Int) / 10)) = w64 (-((u : Int) / 10)) := rfl
 rw [this, w64_of (by omega) (by omega)]
 omega
theorem decDigits_step {u : Nat} (hu : ¬ u < 10) : Lib.decDigits u = Lib.decDigits (u / 10) ++ [UInt8.ofNat (48 + u % 10)] := by
 rw [Lib.decDigits, dif_neg hu]
theorem digits_end (x0 : Int) (s : List UInt8) (hl : s.length ≤ 1000) : s_l06Digits_L5 x0 s 0 = some ((if x0 < 0 then [45] else []) ++ s) := by
 rw [s_l06Digits_L5_eq, if_neg (by decide)]
 by_cases h : x0 < 0
 ·rw [if_pos (by simpa using h), if_pos h, app_of (by simp; omega)]; rfl
 ·rw [if_neg (by simpa using h), if_neg h]; rfl
theorem s_l06Digits_L5_pos (x0 : Int) : ∀ (k u : Nat) (s : List UInt8), 0 < u → u < 10 ^ (k + 1) → u < 9223372036854775808 → s.length + k + 1 ≤ 1000 → s_l06Digits_L5 x0 s (u : Int) = some ((if x0 < 0 then [45] else []) ++ (Lib.decDigits u ++ s)) := by
 intro k
 induction k with
 | zero =>
  intro u s hp h h2 hl
  have hu : u < 10 := by simpa using h
  rw [s_l06Digits_L5_eq, if_pos (by simp; omega), rem_ten, quo_ten h2]
  simp only [Option.bind_some]
  rw [if_neg (by simp; omega)]
  simp only [List.map_cons, List.map_nil, digit_byte (r := ((u % 10 : Nat) : Int)) (by omega) (by omega), Int.toNat_natCast]
  rw [app_of (by simp; omega)]
  simp only [Option.bind_some]
  have e : u / 10 = 0 := by omega
  have e2 : u % 10 = u := by omega
  rw [e, e2, Int.natCast_zero, digits_end _ _ (by simp; omega), Lib.decDigits_one hu]
 | succ k ih =>
  intro u s hp h h2 hl
  by_cases hu : u < 10
  ·rw [s_l06Digits_L5_eq, if_pos (by simp; omega), rem_ten, quo_ten h2]
   simp only [Option.bind_some]
   rw [if_neg (by simp; omega)]
   simp only [List.map_cons, List.map_nil, digit_byte (r := ((u % 10 : Nat) : Int)) (by omega) (by omega), Int.toNat_natCast]
   rw [app_of (by simp; omega)]
   simp only [Option.bind_some]
   have e : u / 10 = 0 := by omega
   have e2 : u % 10 = u := by omega
   rw [e, e2, Int.natCast_zero, digits_end _ _ (by simp; omega), Lib.decDigits_one hu]
  ·rw [s_l06Digits_L5_eq, if_pos (by simp; omega), rem_ten, quo_ten h2]
   simp only [Option.bind_some]
   rw [if_neg (by simp; omega)]
   simp only [List.map_cons, List.map_nil, digit_byte (r := ((u % 10 : Nat) : Int)) (by omega) (by omega), Int.toNat_natCast]
   rw [app_of (by simp; omega)]
   simp only [Option.bind_some]
   rw [ih (u / 10) _ (by omega) (by rw [Nat.div_lt_iff_lt_mul (by decide)]; rw [Nat.pow_succ] at h; exact h) (by omega) (by simp; omega), decDigits_step hu]
   simp
theorem s_l06Digits_L5_neg (x0 : Int) : ∀ (k u : Nat) (s : List UInt8), 0 < u → u < 10 ^ (k + 1) → u ≤ 9223372036854775808 → s.length + k + 1 ≤ 1000 → s_l06Digits_L5 x0 s (-(u : Int)) = some ((if x0 < 0 then [45] else []) ++ (Lib.decDigits u ++ s)) := by
 have step : ∀ (u : Nat) (s : List UInt8), 0 < u → u ≤ 9223372036854775808 → s.length ≤ 1000 → s_l06Digits_L5 x0 s (-(u : Int)) = s_l06Digits_L5 x0 (UInt8.ofNat (48 + u % 10) :: s) (-((u / 10 : Nat) : Int)) := by
  intro u s hp h2 hl
  rw [s_l06Digits_L5_eq, if_pos (by simp; omega), rem_neg_ten, quo_neg_ten h2]
  simp only [Option.bind_some]
  by_cases h0 : u % 10 = 0
  ·rw [if_neg (by simp; omega), h0]
   have := digit_byte (r := -((0 : Nat) : Int)) (by omega) (by omega)
   simp only [List.map_cons, List.map_nil, this]
   rw [app_of (by simp; omega)]
   rfl
  ·rw [if_pos (by simp; omega), w64_of (n := 0 - -((u % 10 : Nat) : Int)) (by omega) (by omega)]
   have e : (0 - -((u % 10 : Nat) : Int)) = ((u % 10 : Nat) : Int) := by omega
   rw [e]
   simp only [List.map_cons, List.map_nil, digit_byte (r := ((u % 10 : Nat) : Int)) (by omega) (by omega), Int.toNat_natCast]
   rw [app_of (by simp; omega)]
   rfl
 intro k
 induction k with
 | zero =>
  intro u s hp h h2 hl
  have hu : u < 10 := by simpa using h
  have e : u / 10 = 0 := by omega
  have e2 : u % 10 = u := by omega
  rw [step u s hp h2 (by omega), e, e2]
  have := digits_end x0 (UInt8.ofNat (48 + u) :: s) (by simp; omega)
  simpa [Lib.decDigits_one hu] using this
 | succ k ih =>
  intro u s hp h h2 hl
  rw [step u s hp h2 (by omega)]
  by_cases hu : u < 10
  ·have e : u / 10 = 0 := by omega
   have e2 : u % 10 = u := by omega
   rw [e, e2]
   have := digits_end x0 (UInt8.ofNat (48 + u) :: s) (by simp; omega)
   simpa [Lib.decDigits_one hu] using this
  ·rw [ih (u / 10) _ (by omega) (by rw [Nat.div_lt_iff_lt_mul (by decide)]; rw [Nat.pow_succ] at h; exact h) (by omega) (by simp; omega), decDigits_step hu]
   simp
theorem s_l06Digits_ok {n : Int} (h0 : -9223372036854775808 ≤ n) (h1 : n ≤ 9223372036854775807) : s_l06Digits n = some (Lib.itoa n) := by
 rw [s_l06Digits_eq]
 by_cases hz : n = 0
 ·subst hz
  have := itoa_nat 0
  rw [Int.natCast_zero] at this
  rw [if_pos (by decide), this, Lib.decDigits_one (by decide)]
  rfl
 rw [if_neg (by simpa using hz)]
 by_cases hn : n < 0
 ·obtain ⟨u, hu⟩ : ∃ u : Nat, n = -(u : Int) := ⟨n.natAbs, by omega⟩
  have := s_l06Digits_L5_neg n 18 u [] (by omega) (by omega) (by omega) (by decide)
  rw [← hu, if_pos hn] at this
  rw [this]
  unfold Lib.itoa
  rw [if_pos hn]
  have e : n.natAbs = u := by omega
  simp [e]
 ·obtain ⟨u, hu⟩ : ∃ u : Nat, n = (u : Int) := ⟨n.toNat, by omega⟩
  have := s_l06Digits_L5_pos n 18 u [] (by omega) (by omega) (by omega) (by decide)
  rw [← hu, if_neg hn] at this
  rw [this, hu, itoa_nat]
  simp
theorem s_QuoteText_ok {s : List UInt8} (h : s.length ≤ 1000000) : s_QuoteText s = some (qtext s) := by
 have key : ∀ acc : List UInt8, acc.length + 2 * s.length ≤ 10000000 → s_QuoteText_L3 s acc ((0 : Nat) : Int) = some (acc ++ dbl s ++ [34]) := by
  refine loop_ind (xs := s) (by omega) (P := fun i l => ∀ acc : List UInt8, acc.length + 2 * l.length ≤ 10000000 → s_QuoteText_L3 s acc i = some (acc ++ dbl l ++ [34])) ?_ ?_
  ·intro acc h1
   rw [s_QuoteText_L3_eq, if_neg (by simp [len_eq]), app_of (by simp at h1 ⊢; omega)]
   simp [dbl]
  ·intro i y l hd hlt hy hi hw ih acc h1
   simp only [List.length_cons] at h1
   have hc : cut s (i : Int) (Option.getD (some ((i + 1 : Nat) : Int)) (len s)) = some [y] := by
    have := cut_of (xs := s) (a := i) (b := i + 1) (by omega) (by omega)
    rw [Option.getD_some, this]
    congr 1
    rw [List.drop_take, hd]
    simp
   rw [s_QuoteText_L3_eq, hi, hw, if_pos (by simp [len_eq, hlt])]
   simp only [Option.bind_some]
   by_cases h34 : ib y = 34
   ·rw [if_pos (by simpa using h34), app_of (by simp; omega), hc]
    simp only [Option.bind_some]
    have hy34 : y = 34 := ib_inj.1 (h34.trans (by decide))
    rw [app_of (by simp; omega)]
    simp only [Option.bind_some]
    rw [ih _ (by simp; omega)]
    subst hy34; simp [dbl, h34]
   ·rw [if_neg (by simpa using h34), hc]
    simp only [Option.bind_some]
    rw [app_of (by simp; omega)]
    simp only [Option.bind_some]
    rw [ih _ (by simp; omega)]
    simp [dbl, h34]
 rw [s_QuoteText_eq]
 have := key [34] (by simp; omega)
 simpa [qtext] using this
theorem i_Value_text_ok {v : TValue} (h : vVal v = true) : i_Value_text v = some (vText v) := by
 obtain ⟨h0, h1, h2, h3, h4⟩ := vVal_rng h
 rw [i_Value_text_eq]
 unfold vText
 rw [i_QuoteText_ok (by omega), i_decimal_ok (by omega) (by omega), i_typeName_ok h0 h1, i_decimal_ok (by omega) (by omega)]
 have hw := vWord_len v.fKind
 have hi := itoa_len (n := v.fRef) (by omega) (by omega)
 simp only [Option.bind_some, beq_iff_eq]
 rw [app_of (xs := [60]) (by simp; omega), app_of (xs := [46]) (by simp; omega), app_of (xs := [42]) (by simp; omega), app_of (xs := vWord v.fKind) (by simp; omega)]
 simp only [Option.bind_some]
 rw [app_of (ys := [62]) (by simp; omega), app_of (ys := Lib.itoa v.fRef) (by simp; omega)]
 repeat' (first | rfl | split)
theorem s_ValueText_ok (v : TValue) : s_ValueText v = some (if vVal v = true then vText v else []) := by
 rw [s_ValueText_eq, s_ValidValue_ok]
 simp only [Option.bind_some]
 cases h : vVal v
 ·simp
 obtain ⟨h0, h1, h2, h3, h4⟩ := vVal_rng h
 unfold vText
 rw [s_QuoteText_ok (by omega), s_l06Digits_ok (by omega) (by omega), s_DataType_ok, s_l06Digits_ok (by omega) (by omega), h]
 have hw := vWord_len v.fKind
 have hi := itoa_len (n := v.fRef) (by omega) (by omega)
 simp only [Option.bind_some, beq_iff_eq, Bool.not_true, Bool.false_eq_true, if_false, if_true]
 rw [app_of (xs := [60]) (by simp; omega), app_of (xs := [46]) (by simp; omega), app_of (xs := [42]) (by simp; omega), app_of (xs := vWord v.fKind) (by simp; omega)]
 simp only [Option.bind_some]
 rw [app_of (ys := [62]) (by simp; omega), app_of (ys := Lib.itoa v.fRef) (by simp; omega)]
 repeat' (first | rfl | split)
theorem vText_len {v : TValue} (h : vVal v = true) : (vText v).length ≤ 2500 := by
 obtain ⟨h0, h1, h2, h3, h4⟩ := vVal_rng h
 have hw := vWord_len v.fKind
 have hi := itoa_len (n := v.fRef) (by omega) (by omega)
 have hq := qtext_len v.fText
 have hn := itoa_len20 (n := v.fNum) (by omega) (by omega)
 unfold vText
 repeat' split
 all_goals simp <;> omega
end Go.Dv.U

namespace Go.Dv.U
open Go Go.Dv Go.Proofs
theorem occ_none {c : UInt8} {s t : List UInt8} (h : hasB (ib c) s = false) (j : Nat) : Lib.occAt s (c :: t) j = false := by
 cases ho : Lib.occAt s (c :: t) j with
 | false => rfl
 | true =>
  have h1 := Lib.occAt_head (c := c) (t := t) rfl ho
  have : hasB (ib c) s = true := by
   simp only [hasB, List.any_eq_true, beq_iff_eq]
   exact ⟨c, List.mem_of_getElem? h1, rfl⟩
  rw [h] at this; cases this
theorem index_cnone {c : UInt8} {s t : List UInt8} (h : hasB (ib c) s = false) : Lib.index s (c :: t) = -1 := Lib.index_none fun j _ => occ_none h j
theorem index_csome {c : UInt8} {a r t : List UInt8} (h : hasB (ib c) a = false) (ht : (c :: t).isPrefixOf r = true) : Lib.index (a ++ r) (c :: t) = (a.length : Int) := by
 refine Lib.index_first (by simp) ?_ ?_
 ·unfold Lib.occAt
  rw [List.drop_left]; exact ht
 ·intro j hj
  unfold Lib.occAt
  rw [List.drop_append_of_le_length (by omega), List.drop_eq_getElem_cons hj]
  simp only [List.cons_append, List.isPrefixOf, Bool.and_eq_false_iff]
  left
  rw [beq_eq_false_iff_ne]
  intro e
  have : hasB (ib c) a = true := by
   simp only [hasB, List.any_eq_true, beq_iff_eq]
   exact ⟨a[j], List.getElem_mem hj, by rw [← e]⟩
  rw [h] at this; cases this
theorem replaceK_und : ∀ (k : Nat) (s : List UInt8), Lib.count (dbl s) [34, 34] ≤ k → Lib.replaceK [34, 34] [34] k (dbl s) = s := by
 have e34 : ib 34 = 34 := by decide
 have key : ∀ (s : List UInt8), hasB 34 s = true → ∃ a r, s = a ++ 34 :: r ∧ hasB 34 a = false ∧ Lib.index (dbl s) [34, 34] = (a.length : Int) ∧ (dbl s).take a.length = a ∧ (dbl s).drop (a.length + ([34, 34] : List UInt8).length) = dbl r := by
  intro s hb
  obtain ⟨a, r, rfl, h3⟩ := split34 s hb
  have hd : dbl (a ++ 34 :: r) = a ++ 34 :: 34 :: dbl r := by rw [dbl_app, dbl_none a h3]; simp [dbl, e34]
  refine ⟨a, r, rfl, h3, ?_, ?_, ?_⟩
  ·rw [hd]; exact index_csome (by rw [e34]; exact h3) (by simp [List.isPrefixOf])
  ·rw [hd]; simp
  ·rw [hd]; simp [List.drop_append]
 intro k
 induction k with
 | zero =>
  intro s h
  cases hb : hasB 34 s with
  | false => rw [dbl_none s hb]; rfl
  | true =>
   obtain ⟨a, r, _, _, hi, _, _⟩ := key s hb
   have := Lib.count_hit (sub := [34, 34]) (by simp) hi
   omega
 | succ k ih =>
  intro s h
  cases hb : hasB 34 s with
  | false => rw [dbl_none s hb, Lib.replaceK, index_cnone (by rw [e34]; exact hb)]; rfl
  | true =>
   obtain ⟨a, r, e, h3, hi, h4, h5⟩ := key s hb
   have hc := Lib.count_hit (sub := [34, 34]) (by simp) hi
   rw [h5] at hc
   rw [Lib.replaceK_hit _ _ _ _ _ hi, h4, h5, ih r (by omega), e]
   simp
theorem replaceAll_und (s : List UInt8) : Lib.replaceAll (dbl s) [34, 34] [34] = s := by
 unfold Lib.replaceAll Lib.replace
 rw [if_neg (by decide)]
 exact replaceK_und _ s (by unfold Lib.replaceNum; rw [if_pos (by left; decide)]; exact Nat.le_refl _)
theorem cut_one {c : UInt8} {a r : List UInt8} (h : hasB (ib c) a = false) : Lib.cut (a ++ c :: r) [c] = (a, r, true) := by
 have hi : Lib.index (a ++ c :: r) [c] = (a.length : Int) := index_csome h (by simp [List.isPrefixOf])
 unfold Lib.cut
 rw [hi, if_pos (by omega)]
 simp [List.drop_append]
theorem parseM_dig (M : Nat) : ∀ (l : List UInt8) (acc k : Nat), l.all digB = true → acc < 10 ^ k → l.length + k ≤ 18 → 1000000000000000000 ≤ M → Lib.parseUintM M acc l = .ok (numD l acc)
 | [], acc, k, _, _, _, _ => rfl
 | c :: r, acc, k, h, ha, hl, hM => by
  simp only [List.all_cons, Bool.and_eq_true_iff] at h
  have hd := h.1
  unfold digB at hd
  simp only [Bool.and_eq_true_iff, decide_eq_true_eq] at hd
  simp only [List.length_cons] at hl
  have hp : 10 ^ (k + 1) ≤ 10 ^ 18 := Nat.pow_le_pow_right (by decide) (by omega)
  have hs : 10 ^ (k + 1) = 10 ^ k * 10 := Nat.pow_succ _ _
  unfold Lib.parseUintM
  rw [if_pos hd, if_neg (by omega), if_neg (by omega), parseM_dig M r _ (k + 1) h.2 (by omega) (by omega) hM]
  rfl
theorem decd_byte {r : Nat} (h : r < 10) : (UInt8.ofNat (48 + r)).toNat = 48 + r := by simp; omega
theorem decd_ok : ∀ (k u : Nat), u < 10 ^ (k + 1) → (Lib.decDigits u).all digB = true ∧ numD (Lib.decDigits u) 0 = u ∧ Lib.decDigits u ≠ [] := by
 have one : ∀ u : Nat, u < 10 → (Lib.decDigits u).all digB = true ∧ numD (Lib.decDigits u) 0 = u ∧ Lib.decDigits u ≠ [] := by
  intro u hu
  rw [Lib.decDigits_one hu]
  have := decd_byte hu
  refine ⟨by simp [digB, this]; omega, ?_, by simp⟩
  simp only [numD, List.foldl_cons, List.foldl_nil, this]; omega
 intro k
 induction k with
 | zero => intro u h; exact one u (by simpa using h)
 | succ k ih =>
  intro u h
  by_cases hu : u < 10
  ·exact one u hu
  ·obtain ⟨h1, h2, h3⟩ := ih (u / 10) (by rw [Nat.div_lt_iff_lt_mul (by decide)]; rw [Nat.pow_succ] at h; exact h)
   have := decd_byte (r := u % 10) (by omega)
   rw [decDigits_step hu]
   refine ⟨?_, ?_, by simp⟩
   ·rw [List.all_append, h1]
    simp [digB, this]; omega
   ·have : numD (Lib.decDigits (u / 10) ++ [UInt8.ofNat (48 + u % 10)]) 0 = numD (Lib.decDigits (u / 10)) 0 * 10 + ((UInt8.ofNat (48 + u % 10)).toNat - 48) := by simp [numD]
    rw [this, h2]; omega
theorem parseIntS_itoa {n : Int} (h0 : -1000000000000 ≤ n) (h1 : n ≤ 1000000000000) : parseIntS (Lib.itoa n) = some n := by
 have hu : ∀ u : Nat, u ≤ 1000000000000 → (Lib.decDigits u).length ≤ 13 ∧ Lib.parseUintB 64 (Lib.decDigits u) = .ok u := by
  intro u h
  obtain ⟨a, b, c⟩ := decd_ok 12 u (by omega)
  have hl : (Lib.decDigits u).length ≤ 13 := by rw [Lib.decDigits_length]; exact nDigits_le 12 u (by omega)
  refine ⟨hl, ?_⟩
  unfold Lib.parseUintB
  rw [if_neg c, parseM_dig _ _ 0 0 a (by decide) (by omega) (by decide), b]
 have hb : big = 68719476736 := rfl
 unfold parseIntS
 by_cases hn : n < 0
 ·have e : Lib.itoa n = 45 :: Lib.decDigits n.natAbs := by unfold Lib.itoa; rw [if_pos hn]
  obtain ⟨hl, hp⟩ := hu n.natAbs (by omega)
  rw [e, if_pos (by simp; omega)]
  unfold Lib.parseIntB
  simp only [show ((45 : UInt8).toNat = 43 ∨ (45 : UInt8).toNat = 45) from by decide, if_true, hp]
  rw [if_neg (by rintro ⟨h, _⟩; exact h (by decide)), if_neg (by rintro ⟨_, h⟩; omega), if_pos (by decide)]
  simp only [Option.some.injEq]; omega
 ·have e : Lib.itoa n = Lib.decDigits n.toNat := by unfold Lib.itoa; rw [if_neg hn]
  obtain ⟨hl, hp⟩ := hu n.toNat (by omega)
  obtain ⟨ha, _, hc⟩ := decd_ok 12 n.toNat (by omega)
  rw [e, if_pos (by omega)]
  cases hd : Lib.decDigits n.toNat with
  | nil => exact absurd hd hc
  | cons b r =>
   rw [hd] at hp ha
   simp only [List.all_cons, Bool.and_eq_true_iff] at ha
   have h2 := ha.1
   unfold digB at h2
   simp only [Bool.and_eq_true_iff, decide_eq_true_eq] at h2
   unfold Lib.parseIntB
   simp only [show ¬ (b.toNat = 43 ∨ b.toNat = 45) from by omega, if_false, hp]
   rw [if_neg (by rintro ⟨_, h⟩; omega), if_neg (by rintro ⟨h, _⟩; omega), if_neg (by omega)]
   simp only [Option.some.injEq]; omega
end Go.Dv.U

namespace Go.Dv.U
open Go Go.Dv Go.Proofs
theorem w64_rng (n : Int) : -9223372036854775808 ≤ w64 n ∧ w64 n ≤ 9223372036854775807 := by
 unfold w64 IntKind.wrap
 simp [IntKind.bits, IntKind.signed]
 omega
theorem itoa_head {n : Int} (h0 : -1000000000000 ≤ n) (h1 : n ≤ 1000000000000) : ∃ b r, Lib.itoa n = b :: r ∧ ((ib b = 45 ∧ n < 0) ∨ (48 ≤ ib b ∧ ib b ≤ 57 ∧ 0 ≤ n)) := by
 by_cases hn : n < 0
 ·exact ⟨45, Lib.decDigits n.natAbs, by unfold Lib.itoa; rw [if_pos hn], .inl ⟨by decide, hn⟩⟩
 ·obtain ⟨ha, _, hc⟩ := decd_ok 12 n.toNat (by omega)
  have e : Lib.itoa n = Lib.decDigits n.toNat := by unfold Lib.itoa; rw [if_neg hn]
  cases hd : Lib.decDigits n.toNat with
  | nil => exact absurd hd hc
  | cons b r =>
   rw [hd] at ha
   simp only [List.all_cons, Bool.and_eq_true_iff] at ha
   have h2 := ha.1
   unfold digB at h2
   simp only [Bool.and_eq_true_iff, decide_eq_true_eq] at h2
   exact ⟨b, r, by rw [e, hd], .inr ⟨by rw [ib_eq]; omega, by rw [ib_eq]; omega, by omega⟩⟩
theorem vText_inv {v : TValue} (h : vVal v = true) : (v = ⟨1, 0, v.fText, 0⟩ ∧ vText v = 34 :: (dbl v.fText ++ [34]) ∧ v.fText.length ≤ 200) ∨ (v = ⟨2, v.fNum, [], 0⟩ ∧ vText v = Lib.itoa v.fNum ∧ -1000000000000 ≤ v.fNum ∧ v.fNum ≤ 1000000000000) ∨
  (v = ⟨3, 0, v.fText, 0⟩ ∧ vText v = 60 :: v.fText ++ [62] ∧ 1 ≤ v.fText.length ∧ v.fText.length ≤ 1200) ∨ (v = ⟨v.fKind, 0, [], v.fRef⟩ ∧ (v.fKind = 4 ∨ v.fKind = 5 ∨ v.fKind = 6) ∧ vText v = vWord v.fKind ++ 35 :: Lib.itoa v.fRef ∧ 1 ≤ v.fRef ∧ v.fRef ≤ 1000000) ∨
  (v = ⟨7, 0, v.fText, 0⟩ ∧ vText v = 46 :: v.fText ∧ v.fText.length ≤ 12) ∨ (v = ⟨8, 0, v.fText, 0⟩ ∧ vText v = 42 :: v.fText ∧ v.fText.length ≤ 12) := by
 obtain ⟨k, n, t, rf⟩ := v
 unfold vVal at h
 unfold vText
 simp only at h ⊢
 have hn : ∀ s : List UInt8, isName s = true → s.length ≤ 12 := by
  intro s h
  cases s with
  | nil => simp
  | cons b r =>
   simp only [isName, Bool.and_eq_true_iff, decide_eq_true_eq] at h
   exact h.1.1
 by_cases h1 : k = 1
 ·subst h1
  simp only [if_true, Bool.and_eq_true_iff, beq_iff_eq, decide_eq_true_eq] at h
  obtain ⟨⟨rfl, rfl⟩, h⟩ := h
  exact .inl ⟨rfl, by simp [qtext], h⟩
 by_cases h2 : k = 2
 ·subst h2
  simp only [show ¬ ((2 : Int) = 1) from by decide, if_false, if_true, Bool.and_eq_true_iff, beq_iff_eq, decide_eq_true_eq] at h ⊢
  obtain ⟨⟨⟨rfl, rfl⟩, h3⟩, h4⟩ := h
  exact .inr (.inl ⟨by trivial, by trivial, h3, h4⟩)
 by_cases h3 : k = 3
 ·subst h3
  simp only [show ¬ ((3 : Int) = 1) from by decide, show ¬ ((3 : Int) = 2) from by decide, if_false, if_true, Bool.and_eq_true_iff, beq_iff_eq, decide_eq_true_eq] at h ⊢
  obtain ⟨⟨⟨rfl, rfl⟩, h3⟩, h4⟩ := h
  exact .inr (.inr (.inl ⟨by trivial, by trivial, h3, h4⟩))
 by_cases h4 : k = 4 ∨ k = 5 ∨ k = 6
 ·rw [if_neg h1, if_neg h2, if_neg h3, if_pos h4] at h
  rw [if_neg h1, if_neg h2, if_neg h3, if_neg (by omega), if_neg (by omega)]
  simp only [Bool.and_eq_true_iff, beq_iff_eq, decide_eq_true_eq] at h
  obtain ⟨⟨⟨rfl, rfl⟩, h5⟩, h6⟩ := h
  exact .inr (.inr (.inr (.inl ⟨rfl, h4, by simp, h5, h6⟩)))
 rw [if_neg h1, if_neg h2, if_neg h3, if_neg h4] at h
 split at h
 ·rename_i h5
  simp only [Bool.and_eq_true_iff, beq_iff_eq] at h
  obtain ⟨⟨rfl, rfl⟩, h6⟩ := h
  rcases h5 with rfl | rfl
  ·exact .inr (.inr (.inr (.inr (.inl ⟨rfl, by simp, hn t h6⟩))))
  ·exact .inr (.inr (.inr (.inr (.inr ⟨rfl, by simp, hn t h6⟩))))
 ·cases h
theorem vText_head {v : TValue} (h : vVal v = true) {b : UInt8} {r : List UInt8} (hs : vText v = b :: r) :
  (ib b = 34 ∧ v = ⟨1, 0, v.fText, 0⟩ ∧ r = dbl v.fText ++ [34] ∧ v.fText.length ≤ 200) ∨ ((ib b = 45 ∨ (48 ≤ ib b ∧ ib b ≤ 57)) ∧ v = ⟨2, v.fNum, [], 0⟩ ∧ b :: r = Lib.itoa v.fNum ∧ -1000000000000 ≤ v.fNum ∧ v.fNum ≤ 1000000000000) ∨
  (ib b = 60 ∧ v = ⟨3, 0, v.fText, 0⟩ ∧ r = v.fText ++ [62] ∧ 1 ≤ v.fText.length ∧ v.fText.length ≤ 1200) ∨ (97 ≤ ib b ∧ v = ⟨v.fKind, 0, [], v.fRef⟩ ∧ (v.fKind = 4 ∨ v.fKind = 5 ∨ v.fKind = 6) ∧ b :: r = vWord v.fKind ++ 35 :: Lib.itoa v.fRef ∧ 1 ≤ v.fRef ∧ v.fRef ≤ 1000000) ∨
  (ib b = 46 ∧ v = ⟨7, 0, v.fText, 0⟩ ∧ r = v.fText ∧ v.fText.length ≤ 12) ∨ (ib b = 42 ∧ v = ⟨8, 0, v.fText, 0⟩ ∧ r = v.fText ∧ v.fText.length ≤ 12) := by
 rcases vText_inv h with ⟨h1, h2, h3⟩ | ⟨h1, h2, h3, h4⟩ | ⟨h1, h2, h3⟩ | ⟨h1, h2, h3, h4⟩ | ⟨h1, h2, h3⟩ | ⟨h1, h2, h3⟩
 ·rw [hs] at h2; cases h2; exact .inl ⟨by decide, h1, rfl, h3⟩
 ·obtain ⟨b', r', e, k⟩ := itoa_head h3 h4
  rw [hs] at h2
  rw [e] at h2
  cases h2
  exact .inr (.inl ⟨by omega, h1, e.symm, h3, h4⟩)
 ·rw [hs] at h2; cases h2; exact .inr (.inr (.inl ⟨by decide, h1, rfl, h3⟩))
 ·rw [hs] at h3
  refine .inr (.inr (.inr (.inl ⟨?_, h1, h2, h3, h4⟩)))
  rcases h2 with h2 | h2 | h2 <;> rw [h2] at h3 <;> cases h3 <;> decide
 ·rw [hs] at h2; cases h2; exact .inr (.inr (.inr (.inr (.inl ⟨by decide, h1, rfl, h3⟩))))
 ·rw [hs] at h2; cases h2; exact .inr (.inr (.inr (.inr (.inr ⟨by decide, h1, rfl, h3⟩))))
theorem vText_ne {v : TValue} (h : vVal v = true) : vText v ≠ [] := by
 rcases vText_inv h with ⟨_, h2, _⟩ | ⟨_, h2, h3, h4⟩ | ⟨_, h2, _⟩ | ⟨_, _, h2, _⟩ | ⟨_, h2, _⟩ | ⟨_, h2, _⟩ <;> rw [h2]
 ·simp
 ·obtain ⟨b', r', e, k⟩ := itoa_head h3 h4
  rw [e]; simp
 ·simp
 ·simp
 ·simp
 ·simp
theorem i_inside_ok {s : List UInt8} (h : s.length ≤ 1000000000) : ∃ t, i_inside s = some t ∧ t.length ≤ s.length ∧ ∀ (a b : UInt8) (m : List UInt8), s = a :: (m ++ [b]) → t = m := by
 rw [i_inside_eq, len_eq]
 by_cases h2 : (s.length : Int) < 2
 ·rw [if_pos (by simpa using h2)]
  refine ⟨[], rfl, Nat.zero_le _, fun a b m e => ?_⟩
  rw [e] at h2; simp at h2; omega
 ·rw [if_neg (by simpa using h2), w64_of (by omega) (by omega)]
  have e : (s.length : Int) - 1 = ((s.length - 1 : Nat) : Int) := by omega
  simp only [Option.getD_some]
  rw [e, show (1 : Int) = ((1 : Nat) : Int) from rfl, cut_of (by omega) (by omega)]
  refine ⟨_, rfl, by simp; omega, fun a b m e => ?_⟩
  subst e
  simp [List.take_append]
theorem parseIntE_some {s : List UInt8} (h : s.length ≤ 1000000000) : ∃ n, parseIntE s = some n := by
 have hb : big = 68719476736 := rfl
 unfold parseIntE parseIntS
 rw [if_pos (by omega)]
 exact ⟨_, rfl⟩
theorem parseIntE_itoa {n : Int} (h0 : -1000000000000 ≤ n) (h1 : n ≤ 1000000000000) : ∃ b, parseIntE (Lib.itoa n) = some (n, b) := by
 unfold parseIntE
 rw [parseIntS_itoa h0 h1]
 exact ⟨_, rfl⟩
theorem i_readReference_L4_ok (w : List UInt8) (n : Int) : i_readReference_L4 w n 4 0 0 [] 0 = some (if vWord 4 = w then ⟨4, 0, [], n⟩ else if vWord 5 = w then ⟨5, 0, [], n⟩ else if vWord 6 = w then ⟨6, 0, [], n⟩ else ⟨0, 0, [], 0⟩) := by
 rw [i_readReference_L4_eq, if_pos (by decide), i_typeName_ok (by decide) (by decide)]
 simp only [Option.bind_some, beq_iff_eq]
 by_cases h4 : vWord 4 = w
 ·rw [if_pos h4, if_pos h4]; rfl
 rw [if_neg h4, if_neg h4, w64_of (by decide) (by decide), i_readReference_L4_eq, if_pos (by decide), i_typeName_ok (by decide) (by decide)]
 simp only [Option.bind_some, beq_iff_eq]
 by_cases h5 : vWord 5 = w
 ·rw [if_pos h5, show (4 : Int) + 1 = 5 from rfl, if_pos h5]; rfl
 rw [if_neg h5, show (4 : Int) + 1 = 5 from rfl, if_neg h5, w64_of (by decide) (by decide), i_readReference_L4_eq, if_pos (by decide), i_typeName_ok (by decide) (by decide)]
 simp only [Option.bind_some, beq_iff_eq]
 by_cases h6 : vWord 6 = w
 ·rw [if_pos h6, show (5 : Int) + 1 = 6 from rfl, if_pos h6]; rfl
 rw [if_neg h6, show (5 : Int) + 1 = 6 from rfl, if_neg h6, w64_of (by decide) (by decide), i_readReference_L4_eq, if_neg (by decide)]
 rfl
theorem vWord_no35 {k : Int} (h : k = 4 ∨ k = 5 ∨ k = 6) : hasB (ib 35) (vWord k) = false := by rcases h with rfl | rfl | rfl <;> decide
theorem i_readReference_ok {s : List UInt8} (h : s.length ≤ 1000000000) : ∃ u, i_readReference s = some u ∧ ∀ (k n : Int), (k = 4 ∨ k = 5 ∨ k = 6) → 1 ≤ n → n ≤ 1000000 → s = vWord k ++ 35 :: Lib.itoa n → u = ⟨k, 0, [], n⟩ := by
 rw [i_readReference_eq]
 unfold scutS
 rw [if_pos (by omega)]
 simp only [Option.bind_some]
 have hl : (Lib.cut s [35]).2.1.length ≤ s.length := by
  unfold Lib.cut
  split
  ·simp
  ·simp
 obtain ⟨p, hp⟩ := parseIntE_some (s := (Lib.cut s [35]).2.1) (by omega)
 rw [hp]
 simp only [Option.bind_some]
 rw [i_readReference_L4_ok]
 refine ⟨_, rfl, fun k n hk h1 h2 e => ?_⟩
 subst e
 rw [cut_one (vWord_no35 hk)] at hp ⊢
 obtain ⟨b, hb⟩ := parseIntE_itoa (n := n) (by omega) (by omega)
 simp only at hp ⊢
 rw [hb] at hp
 cases hp
 rcases hk with rfl | rfl | rfl
 ·rw [if_pos rfl]
 ·rw [if_neg (by decide), if_pos rfl]
 ·rw [if_neg (by decide), if_neg (by decide), if_pos rfl]
theorem i_readText_ok {s : List UInt8} (h : s.length ≤ 1000000000) : ∃ u, i_readText s = some u ∧ ∀ v, vVal v = true → vText v = s → u = v := by
 rw [i_readText_eq]
 cases s with
 | nil => exact ⟨_, by rw [if_pos (by rfl)], fun v hv e => (vText_ne hv e).elim⟩
 | cons b r =>
  rw [if_neg (by simp)]
  have i0 : idx (b :: r) 0 = some b := by rw [idx_zero]; rfl
  have c1 : cut (b :: r) 1 (Option.getD none (len (b :: r))) = some r := by
   rw [Option.getD_none, len_eq, show (1 : Int) = ((1 : Nat) : Int) from rfl, cut_of (by simp) (Nat.le_refl _)]
   simp
  simp only [i0, c1, Option.bind_some, beq_iff_eq, i_textOf_eq, i_numberOf_eq, i_isDigit_ok]
  obtain ⟨t, ht, htl, hti⟩ := i_inside_ok (s := b :: r) h
  obtain ⟨p, hp⟩ := parseIntE_some h
  obtain ⟨q, hq, hqi⟩ := i_readReference_ok h
  rw [ht, hp, hq]
  simp only [Option.bind_some]
  by_cases h34 : ib b = 34
  ·rw [if_pos (by simpa using h34)]
   unfold replAllS
   rw [if_pos ⟨by simp at h htl ⊢; omega, by decide, by decide⟩]
   refine ⟨_, rfl, fun v hv e => ?_⟩
   rcases vText_head hv e with ⟨_, h1, h2, _⟩ | ⟨h1, _⟩ | ⟨h1, _⟩ | ⟨h1, _⟩ | ⟨h1, _⟩ | ⟨h1, _⟩
   ·have := hti b 34 (dbl v.fText) (by rw [h2])
    rw [this, replaceAll_und]
    exact h1.symm
   all_goals omega
  rw [if_neg (by simpa using h34)]
  by_cases h60 : ib b = 60
  ·rw [if_pos (by simpa using h60)]
   refine ⟨_, rfl, fun v hv e => ?_⟩
   rcases vText_head hv e with ⟨h1, _⟩ | ⟨h1, _⟩ | ⟨_, h1, h2, _⟩ | ⟨h1, _⟩ | ⟨h1, _⟩ | ⟨h1, _⟩
   ·omega
   ·omega
   ·have := hti b 62 v.fText (by rw [h2])
    rw [this]
    exact h1.symm
   all_goals omega
  rw [if_neg (by simpa using h60)]
  by_cases h46 : ib b = 46
  ·rw [if_pos (by simpa using h46)]
   refine ⟨_, rfl, fun v hv e => ?_⟩
   rcases vText_head hv e with ⟨h1, _⟩ | ⟨h1, _⟩ | ⟨h1, _⟩ | ⟨h1, _⟩ | ⟨_, h1, h2, _⟩ | ⟨h1, _⟩
   ·omega
   ·omega
   ·omega
   ·omega
   ·rw [h2]; exact h1.symm
   ·omega
  rw [if_neg (by simpa using h46)]
  by_cases h42 : ib b = 42
  ·rw [if_pos (by simpa using h42)]
   refine ⟨_, rfl, fun v hv e => ?_⟩
   rcases vText_head hv e with ⟨h1, _⟩ | ⟨h1, _⟩ | ⟨h1, _⟩ | ⟨h1, _⟩ | ⟨h1, _⟩ | ⟨_, h1, h2, _⟩
   ·omega
   ·omega
   ·omega
   ·omega
   ·omega
   ·rw [h2]; exact h1.symm
  rw [if_neg (by simpa using h42)]
  have num : ∀ v, vVal v = true → vText v = b :: r → (ib b = 45 ∨ (48 ≤ ib b ∧ ib b ≤ 57)) → (⟨2, p.1, [], 0⟩ : TValue) = v := by
   intro v hv e hbb
   rcases vText_head hv e with ⟨h1, _⟩ | ⟨_, h1, h2, h3, h4⟩ | ⟨h1, _⟩ | ⟨h1, _⟩ | ⟨h1, _⟩ | ⟨h1, _⟩
   ·omega
   ·obtain ⟨f, hf⟩ := parseIntE_itoa h3 h4
    rw [h2, hf] at hp
    cases hp
    exact h1.symm
   all_goals omega
  by_cases h45 : ib b = 45
  ·rw [if_pos (by simpa using h45)]
   exact ⟨_, rfl, fun v hv e => num v hv e (.inl h45)⟩
  rw [if_neg (by simpa using h45)]
  by_cases hd : isDig (ib b) = true
  ·rw [if_pos hd]
   unfold isDig at hd
   simp only [Bool.and_eq_true_iff, decide_eq_true_eq] at hd
   exact ⟨_, rfl, fun v hv e => num v hv e (.inr hd)⟩
  ·rw [if_neg hd]
   unfold isDig at hd
   simp only [Bool.and_eq_true_iff, decide_eq_true_eq] at hd
   refine ⟨_, rfl, fun v hv e => ?_⟩
   rcases vText_head hv e with ⟨h1, _⟩ | ⟨h1, _⟩ | ⟨h1, _⟩ | ⟨_, h1, h2, h3, h4⟩ | ⟨h1, _⟩ | ⟨h1, _⟩
   ·omega
   ·omega
   ·omega
   ·rw [hqi _ _ h2 h4.1 h4.2 h3]; exact h1.symm
   ·omega
   ·omega
def RdV (s : List UInt8) (x : TValue) (ok : Bool) : Prop := (ok = true ∧ vVal x = true ∧ vText x = s) ∨ (ok = false ∧ x = ⟨0, 0, [], 0⟩ ∧ ∀ v, vVal v = true → vText v ≠ s)
theorem i_ReadValue_ok {s : List UInt8} (h : s.length ≤ 1000000000) : ∃ x ok, i_ReadValue s = some (x, ok) ∧ RdV s x ok := by
 obtain ⟨u, hu, huv⟩ := i_readText_ok h
 rw [i_ReadValue_eq, hu]
 simp only [Option.bind_some]
 rw [i_ValidValue_ok]
 simp only [Option.bind_some]
 cases hv : vVal u with
 | false =>
  refine ⟨_, _, rfl, .inr ⟨rfl, rfl, fun v hv' e => ?_⟩⟩
  rw [huv v hv' e, hv'] at hv; cases hv
 | true =>
  simp only [Bool.not_true, Bool.false_eq_true, if_false]
  rw [i_Value_text_ok hv]
  simp only [Option.bind_some]
  by_cases ht : vText u = s
  ·rw [if_neg (by simpa using ht)]
   exact ⟨_, _, rfl, .inl ⟨rfl, hv, ht⟩⟩
  ·rw [if_pos (by simpa using ht)]
   exact ⟨_, _, rfl, .inr ⟨rfl, rfl, fun v hv' e => ht (by rw [huv v hv' e]; exact e)⟩⟩
end Go.Dv.U

namespace Go.Dv.U
open Go Go.Dv Go.Proofs
def unq : List UInt8 → List UInt8
 | [] => []
 | [_] => []
 | b :: c :: r => b :: (if ib b = 34 then unq r else unq (c :: r))
theorem unq_dbl : ∀ t, unq (dbl t ++ [34]) = t
 | [] => rfl
 | b :: r => by
  have ih := unq_dbl r
  rw [dbl]
  by_cases h : ib b = 34
  ·rw [if_pos h]
   show unq (b :: 34 :: (dbl r ++ [34])) = _
   rw [unq, if_pos h, ih]
  ·rw [if_neg h]
   cases hd : dbl r ++ [34] with
   | nil => simp at hd
   | cons c q =>
    rw [hd] at ih
    show unq (b :: (dbl r ++ [34])) = _
    rw [hd, unq, if_neg h, ih]
theorem s_l06Unquote_L3_ok {s : List UInt8} (h : s.length ≤ 1000000000) : ∀ (d i : Nat) (acc : List UInt8), s.length - i ≤ d → acc.length ≤ i → i ≤ s.length + 1 → s_l06Unquote_L3 s acc (i : Int) = some (acc ++ unq (s.drop i)) := by
  have one : ∀ (i : Nat) (acc : List UInt8), ¬ i + 1 < s.length → i ≤ 1000000001 → s_l06Unquote_L3 s acc (i : Int) = some (acc ++ unq (s.drop i)) := by
    intro i acc hi hi2
    rw [s_l06Unquote_L3_eq, w64_of (by omega) (by omega), if_neg (by rw [len_eq]; simp; omega)]
    have : unq (s.drop i) = [] := by
      have hl : (s.drop i).length ≤ 1 := by simp; omega
      match hq : s.drop i, hl with
      | [], _ => rfl
      | [_], _ => rfl
    rw [this, List.append_nil]
  intro d
  induction d using Nat.strongRecOn with
  | _ d ih =>
    intro i acc hd ha hil
    by_cases hi : i + 1 < s.length
    · have hq : ∃ b c r, s.drop i = b :: c :: r := by
        have hl : 2 ≤ (s.drop i).length := by simp; omega
        match hq : s.drop i, hl with
        | b :: c :: r, _ => exact ⟨b, c, r, rfl⟩
      obtain ⟨b, c, r, hq⟩ := hq
      have d1 : s.drop (i + 1) = c :: r := by rw [← List.drop_drop, hq]; rfl
      have d2 : s.drop (i + 2) = r := by rw [← List.drop_drop, hq]; rfl
      have gi : s[i]? = some b := by
        have := congrArg (·[0]?) hq
        simpa [List.getElem?_drop] using this
      have hc : cut s (i : Int) (Option.getD (some ((i : Int) + 1)) (len s)) = some [b] := by
        have := cut_of (xs := s) (a := i) (b := i + 1) (by omega) (by omega)
        rw [Option.getD_some, show ((i : Int) + 1) = ((i + 1 : Nat) : Int) by omega, this]
        congr 1
        rw [List.drop_take, hq]
        simp
      rw [s_l06Unquote_L3_eq, w64_of (n := (i : Int) + 1) (by omega) (by omega), if_pos (by rw [len_eq]; simp; omega), hc]
      simp only [Option.bind_some]
      rw [app_of (by simp; omega), idx_nat, gi]
      simp only [Option.bind_some, beq_iff_eq]
      rw [hq, unq]
      by_cases h34 : ib b = 34
      · rw [if_pos h34, if_pos h34, w64_of (by omega) (by omega), show ((i : Int) + 1 + 1) = ((i + 2 : Nat) : Int) by omega, ih (d - 2) (by omega) (i + 2) _ (by omega) (by simp; omega) (by omega), d2]
        simp
      · rw [if_neg h34, if_neg h34, show ((i : Int) + 1) = ((i + 1 : Nat) : Int) by omega, ih (d - 1) (by omega) (i + 1) _ (by omega) (by simp; omega) (by omega), d1]
        simp
    · exact one i acc hi (by omega)
theorem s_l06Unquote_ok {s : List UInt8} (h : s.length ≤ 1000000000) : ∃ t, s_l06Unquote s = some t ∧ ∀ (b : UInt8) (q : List UInt8), s = b :: (dbl q ++ [34]) → t = q := by
 rw [s_l06Unquote_eq]
 have := s_l06Unquote_L3_ok h s.length 1 [] (by omega) (Nat.zero_le _) (by omega)
 refine ⟨_, this, fun b q e => ?_⟩
 subst e
 exact unq_dbl q
theorem wrap_u8 {n : Int} (h0 : 0 ≤ n) (h1 : n < 256) : IntKind.wrap .u8 n = n := by
 unfold IntKind.wrap
 simp [IntKind.bits, IntKind.signed]
 omega
theorem s_l06Number_end (s : List UInt8) (x1 x2 i : Int) (h1 : -9223372036854775808 ≤ x1 ∧ x1 ≤ 9223372036854775807) (hi : ¬ i < (s.length : Int)) : s_l06Number_L8 s x1 x2 i = some (if x2 = 1 then (w64 (0 - x1), Lib.itoa (w64 (0 - x1)) == s) else (x1, Lib.itoa x1 == s)) := by
 rw [s_l06Number_L8_eq, if_neg (by rw [len_eq]; simpa using hi)]
 have hw := w64_rng (0 - x1)
 rw [s_l06Digits_ok hw.1 hw.2, s_l06Digits_ok h1.1 h1.2]
 simp only [Option.bind_some, beq_iff_eq, ite_some]
theorem s_l06Number_L8_tot {s : List UInt8} (h : s.length ≤ 1000000000) (x2 : Int) : ∀ (d i : Nat) (x1 : Int), s.length - i = d → i ≤ s.length → -9223372036854775808 ≤ x1 ∧ x1 ≤ 9223372036854775807 → ∃ n b, s_l06Number_L8 s x1 x2 (i : Int) = some (n, b) := by
 intro d
 induction d with
 | zero =>
  intro i x1 hd hi h1
  rw [s_l06Number_end s x1 x2 i h1 (by omega)]
  split <;> exact ⟨_, _, rfl⟩
 | succ d ih =>
  intro i x1 hd hi h1
  have hlt : i < s.length := by omega
  rw [s_l06Number_L8_eq, if_pos (by rw [len_eq]; simp; omega), idx_nat, List.getElem?_eq_getElem hlt]
  simp only [Option.bind_some]
  split
  ·exact ⟨_, _, rfl⟩
  split
  ·exact ⟨_, _, rfl⟩
  rw [w64_of (n := (i : Int) + 1) (by omega) (by omega), show ((i : Int) + 1) = ((i + 1 : Nat) : Int) by omega]
  exact ih (i + 1) _ (by omega) (by omega) (w64_rng _)
theorem s_l06Number_L8_dig {s : List UInt8} (h : s.length ≤ 1000000000) (x2 : Int) : ∀ (d i acc k : Nat), s.length - i = d → i ≤ s.length → (s.drop i).all digB = true → acc < 10 ^ k → d + k ≤ 18 → s_l06Number_L8 s (acc : Int) x2 (i : Int) = s_l06Number_L8 s ((numD (s.drop i) acc : Nat) : Int) x2 (s.length : Int) := by
 intro d
 induction d with
 | zero =>
  intro i acc k hd hi _ _ _
  have : i = s.length := by omega
  subst this
  rw [List.drop_length]; rfl
 | succ d ih =>
  intro i acc k hd hi hall hacc hk
  have hlt : i < s.length := by omega
  rw [List.drop_eq_getElem_cons hlt] at hall ⊢
  simp only [List.all_cons, Bool.and_eq_true_iff] at hall
  have hdg := hall.1
  unfold digB at hdg
  simp only [Bool.and_eq_true_iff, decide_eq_true_eq] at hdg
  have hp : 10 ^ (k + 1) ≤ 10 ^ 18 := Nat.pow_le_pow_right (by decide) (by omega)
  have hs : 10 ^ (k + 1) = 10 ^ k * 10 := Nat.pow_succ _ _
  rw [s_l06Number_L8_eq, if_pos (by rw [len_eq]; simp; omega), idx_nat, List.getElem?_eq_getElem hlt]
  simp only [Option.bind_some]
  have hb := ib_eq s[i]
  rw [if_neg (by rw [hb]; simp; omega), if_neg (by rw [hb]; simp; omega), wrap_u8 (by rw [hb]; omega) (by rw [hb]; omega), w64_of (n := ib s[i] - 48) (by rw [hb]; omega) (by rw [hb]; omega), w64_of (n := (acc : Int) * 10) (by omega) (by omega), w64_of (by rw [hb]; omega) (by rw [hb]; omega), w64_of (n := (i : Int) + 1) (by omega) (by omega)]
  have e : (acc : Int) * 10 + (ib s[i] - 48) = ((acc * 10 + (s[i].toNat - 48) : Nat) : Int) := by rw [hb]; omega
  rw [e, show ((i : Int) + 1) = ((i + 1 : Nat) : Int) by omega, ih (i + 1) _ (k + 1) (by omega) (by omega) hall.2 (by omega) (by omega)]
  rfl
theorem s_l06Number_ok {s : List UInt8} (h : s.length ≤ 1000000000) : ∃ n b, s_l06Number s = some (n, b) ∧ ∀ m, -1000000000000 ≤ m → m ≤ 1000000000000 → s = Lib.itoa m → n = m ∧ b = true := by
 have L5 : ∀ x2 : Int, (x2 = 0 ∨ (x2 = 1 ∧ s ≠ [])) → ∃ n b, s_l06Number_L5 s 0 x2 = some (n, b) := by
  intro x2 hx
  rw [s_l06Number_L5_eq]
  split
  ·exact ⟨_, _, rfl⟩
  split
  ·exact ⟨_, _, rfl⟩
  ·rename_i hne
   rcases hx with rfl | ⟨rfl, hs⟩
   ·exact s_l06Number_L8_tot h 0 _ 0 0 rfl (Nat.zero_le _) (by omega)
   ·exact s_l06Number_L8_tot h 1 _ 1 0 rfl (List.length_pos_iff.2 hs) (by omega)
 have hdl : ∀ u : Nat, u ≤ 1000000000000 → (Lib.decDigits u).length ≤ 13 := fun u hu => by rw [Lib.decDigits_length]; exact nDigits_le 12 u (by omega)
 rw [s_l06Number_eq]
 cases hs : s with
 | nil =>
  subst hs
  obtain ⟨n, b, hn⟩ := L5 0 (.inl rfl)
  refine ⟨n, b, by rw [if_neg (by simp)]; exact hn, fun m h1 h2 e => ?_⟩
  obtain ⟨b', r', e', _⟩ := itoa_head h1 h2
  rw [e'] at e; cases e
 | cons c r =>
  rw [← hs]
  rw [if_pos (by rw [hs]; simp)]
  have i0 : idx s 0 = some c := by rw [hs, idx_zero]; rfl
  rw [i0]
  simp only [Option.bind_some, beq_iff_eq]
  by_cases hc : ib c = 45
  ·rw [if_pos hc]
   obtain ⟨n, b, hn⟩ := L5 1 (.inr ⟨rfl, by rw [hs]; simp⟩)
   refine ⟨n, b, hn, fun m h1 h2 e => ?_⟩
   obtain ⟨b', r', e', hk⟩ := itoa_head h1 h2
   have hcb : c = b' := by rw [hs, e'] at e; exact (List.cons.inj e).1
   subst hcb
   have hm : m < 0 := by omega
   have ed : Lib.itoa m = 45 :: Lib.decDigits m.natAbs := by unfold Lib.itoa; rw [if_pos hm]
   obtain ⟨q1, q2, q3⟩ := decd_ok 12 m.natAbs (by omega)
   have ql := hdl m.natAbs (by omega)
   have hsd : s = 45 :: Lib.decDigits m.natAbs := e.trans ed
   rw [s_l06Number_L5_eq, if_neg (by rw [len_eq, hsd]; simp; omega), if_neg (by
    rw [len_eq, hsd]
    simp only [List.length_cons, beq_iff_eq]
    have := List.length_pos_iff.2 q3
    omega)] at hn
   have hdr : s.drop 1 = Lib.decDigits m.natAbs := by rw [hsd]; rfl
   have hlen : s.length = (Lib.decDigits m.natAbs).length + 1 := by rw [hsd]; rfl
   have := s_l06Number_L8_dig h 1 (s.length - 1) 1 0 0 rfl (by omega) (by rw [hdr]; exact q1) (by decide) (by omega)
   rw [hdr, q2] at this
   rw [show (0 : Int) = ((0 : Nat) : Int) from rfl, show (1 : Int) = ((1 : Nat) : Int) from rfl] at hn
   rw [show (1 : Int) = ((1 : Nat) : Int) from rfl] at this
   rw [this, s_l06Number_end _ _ _ _ (by omega) (by omega), if_pos (by decide), w64_of (by omega) (by omega)] at hn
   have em : (0 : Int) - (m.natAbs : Int) = m := by omega
   rw [em] at hn
   cases hn
   exact ⟨rfl, by rw [← e]; simp⟩
  ·rw [if_neg hc]
   obtain ⟨n, b, hn⟩ := L5 0 (.inl rfl)
   refine ⟨n, b, hn, fun m h1 h2 e => ?_⟩
   obtain ⟨b', r', e', hk⟩ := itoa_head h1 h2
   have hcb : c = b' := by rw [hs, e'] at e; exact (List.cons.inj e).1
   subst hcb
   have hm : 0 ≤ m := by omega
   have ed : Lib.itoa m = Lib.decDigits m.toNat := by unfold Lib.itoa; rw [if_neg (by omega)]
   obtain ⟨q1, q2, q3⟩ := decd_ok 12 m.toNat (by omega)
   have ql := hdl m.toNat (by omega)
   have hsd : s = Lib.decDigits m.toNat := e.trans ed
   rw [s_l06Number_L5_eq, if_neg (by rw [len_eq, hsd]; simp; omega), if_neg (by
    rw [len_eq, hsd]
    simp only [beq_iff_eq]
    have := List.length_pos_iff.2 q3
    omega)] at hn
   have hdr : s.drop 0 = Lib.decDigits m.toNat := by rw [hsd]; rfl
   have := s_l06Number_L8_dig h 0 s.length 0 0 0 rfl (by omega) (by rw [hdr]; exact q1) (by decide) (by rw [hsd]; omega)
   rw [hdr, q2] at this
   rw [show (0 : Int) = ((0 : Nat) : Int) from rfl] at hn
   rw [show (0 : Int) = ((0 : Nat) : Int) from rfl] at this
   rw [this, s_l06Number_end _ _ _ _ (by omega) (by omega), if_neg (by decide)] at hn
   have em : (m.toNat : Int) = m := by omega
   rw [em] at hn
   cases hn
   exact ⟨rfl, by rw [← e]; simp⟩
end Go.Dv.U

namespace Go.Dv.U
open Go Go.Dv Go.Proofs
def refKs : List (List UInt8) := [[97, 114, 114, 97, 121, 35], [116, 97, 98, 108, 101, 35], [114, 101, 99, 111, 114, 100, 35]]
theorem refKs_at {k : Nat} (hk : k < 3) : ∃ P, refKs[k]? = some P ∧ P = vWord (4 + (k : Int)) ++ [35] := by
 have : k = 0 ∨ k = 1 ∨ k = 2 := by omega
 rcases this with rfl | rfl | rfl <;> exact ⟨_, rfl, by decide⟩
theorem s_l06Reference_step {s : List UInt8} (h : s.length ≤ 1000000000) (x2 x3 : Int) (x4 : List UInt8) (x5 : Int) {k : Nat} (hk : k < 3) :
  (∃ n, s_l06Reference_L3 s (k : Int) x2 x3 x4 x5 refKs = some ⟨4 + (k : Int), 0, [], n⟩ ∧ (∃ t, s = vWord (4 + (k : Int)) ++ 35 :: t ∧ ∀ m, -1000000000000 ≤ m → m ≤ 1000000000000 → t = Lib.itoa m → n = m)) ∨
  (s_l06Reference_L3 s (k : Int) x2 x3 x4 x5 refKs = s_l06Reference_L3 s ((k + 1 : Nat) : Int) x2 x3 x4 x5 refKs ∧ ∀ m, -1000000000000 ≤ m → m ≤ 1000000000000 → s ≠ vWord (4 + (k : Int)) ++ 35 :: Lib.itoa m) := by
 obtain ⟨P, hP, hPe⟩ := refKs_at hk
 have hl4 : s_l06Reference_L4 s (k : Int) x2 x3 x4 x5 refKs = s_l06Reference_L3 s ((k + 1 : Nat) : Int) x2 x3 x4 x5 refKs := by
  rw [s_l06Reference_L4_eq, w64_of (by omega) (by omega)]; rfl
 rw [s_l06Reference_L3_eq, if_pos (by rw [len_eq]; simp [refKs]; omega), idx_nat, hP]
 simp only [Option.bind_some, Int.toNat_natCast, hP, beq_iff_eq]
 by_cases hlen : P.length < s.length
 ·rw [if_pos (by rw [len_eq, len_eq]; simp; omega)]
  have c1 : cut s 0 (Option.getD (some (len P)) (len s)) = some (s.take P.length) := by
   rw [Option.getD_some, len_eq, show (0 : Int) = ((0 : Nat) : Int) from rfl, cut_of (by omega) (by omega)]
   simp
  have c2 : cut s (len P) (Option.getD none (len s)) = some (s.drop P.length) := by
   rw [Option.getD_none, len_eq, len_eq, cut_of (by omega) (Nat.le_refl _)]
   simp
  rw [c1, c2]
  simp only [Option.bind_some]
  by_cases ht : s.take P.length = P
  ·rw [if_pos ht]
   obtain ⟨n, b, hn, hnv⟩ := s_l06Number_ok (s := s.drop P.length) (by simp; omega)
   rw [hn]
   simp only [Option.bind_some]
   have hsp : s = vWord (4 + (k : Int)) ++ 35 :: s.drop P.length := by
    have := (List.take_append_drop P.length s).symm
    rw [ht] at this
    rw [hPe] at this ⊢
    simpa using this
   cases b with
   | true =>
    left
    rw [if_pos rfl, w64_of (by omega) (by omega)]
    exact ⟨n, rfl, _, hsp, fun m h1 h2 e => (hnv m h1 h2 e).1⟩
   | false =>
    right
    rw [if_neg (by simp), hl4]
    refine ⟨rfl, fun m h1 h2 e => ?_⟩
    have : s.drop P.length = Lib.itoa m := by
     rw [e] at hsp
     have := List.append_cancel_left hsp
     rw [e]
     exact (List.cons.inj this).2.symm
    have := (hnv m h1 h2 this).2
    cases this
  ·rw [if_neg ht, hl4]
   right
   refine ⟨rfl, fun m h1 h2 e => ht ?_⟩
   rw [e, hPe]
   have : vWord (4 + (k : Int)) ++ 35 :: Lib.itoa m = (vWord (4 + (k : Int)) ++ [35]) ++ Lib.itoa m := by simp
   rw [this, List.take_left]
 ·rw [if_neg (by rw [len_eq, len_eq]; simp; omega), hl4]
  right
  refine ⟨rfl, fun m h1 h2 e => hlen ?_⟩
  obtain ⟨b', r', e', _⟩ := itoa_head h1 h2
  rw [e, hPe, e']
  simp
theorem s_l06Reference_ok {s : List UInt8} (h : s.length ≤ 1000000000) : ∃ u, s_l06Reference s = some u ∧ ∀ (k n : Int), (k = 4 ∨ k = 5 ∨ k = 6) → 1 ≤ n → n ≤ 1000000 → s = vWord k ++ 35 :: Lib.itoa n → u = ⟨k, 0, [], n⟩ := by
  have e0 : s_l06Reference s = s_l06Reference_L3 s ((0 : Nat) : Int) 0 0 [] 0 refKs := by rw [s_l06Reference_eq]; rfl
  rw [e0]
  have same : ∀ (k : Nat) (n : Int) (t : List UInt8), k < 3 → s = vWord (4 + (k : Int)) ++ 35 :: t → (∀ m, -1000000000000 ≤ m → m ≤ 1000000000000 → t = Lib.itoa m → n = m) →
      ∀ (k' n' : Int), (k' = 4 ∨ k' = 5 ∨ k' = 6) → 1 ≤ n' → n' ≤ 1000000 → s = vWord k' ++ 35 :: Lib.itoa n' → (⟨4 + (k : Int), 0, [], n⟩ : TValue) = ⟨k', 0, [], n'⟩ := by
    intro k n t hk hs hn k' n' hk' h1 h2 e
    have hkk : k' = 4 + (k : Int) := by
      rw [hs] at e
      have : k = 0 ∨ k = 1 ∨ k = 2 := by omega
      rcases this with rfl | rfl | rfl <;> rcases hk' with rfl | rfl | rfl <;> first | rfl | (exfalso; simp [vWord] at e)
    subst hkk
    have : t = Lib.itoa n' := by
      rw [hs] at e
      exact (List.cons.inj (List.append_cancel_left e)).2
    rw [hn n' (by omega) (by omega) this]
  rcases s_l06Reference_step h 0 0 [] 0 (k := 0) (by decide) with ⟨n, h1, t, h2, h3⟩ | ⟨h1, h2⟩
  · exact ⟨_, h1, same 0 n t (by decide) h2 h3⟩
  rw [h1]
  rcases s_l06Reference_step h 0 0 [] 0 (k := 1) (by decide) with ⟨n, h3, t, h4, h5⟩ | ⟨h3, h4⟩
  · exact ⟨_, h3, same 1 n t (by decide) h4 h5⟩
  rw [h3]
  rcases s_l06Reference_step h 0 0 [] 0 (k := 2) (by decide) with ⟨n, h5, t, h6, h7⟩ | ⟨h5, h6⟩
  · exact ⟨_, h5, same 2 n t (by decide) h6 h7⟩
  rw [h5, s_l06Reference_L3_eq, if_neg (by rw [len_eq]; simp [refKs])]
  refine ⟨_, rfl, fun k n hk h7 h8 e => ?_⟩
  exfalso
  rcases hk with rfl | rfl | rfl
  · exact h2 n (by omega) (by omega) e
  · exact h4 n (by omega) (by omega) e
  · exact h6 n (by omega) (by omega) e
theorem vText_len2 {v : TValue} (h : vVal v = true) : (vText v).length ≤ 2400 := by
 rcases vText_inv h with ⟨_, h2, h3⟩ | ⟨_, h2, h3, h4⟩ | ⟨_, h2, _, h3⟩ | ⟨_, hk, h2, h3, h4⟩ | ⟨_, h2, h3⟩ | ⟨_, h2, h3⟩ <;> rw [h2]
 ·have := dbl_len v.fText
  simp; omega
 ·have := itoa_len20 (n := v.fNum) (by omega) (by omega)
  omega
 ·simp; omega
 ·have := itoa_len20 (n := v.fRef) (by omega) (by omega)
  have := vWord_len v.fKind
  simp; omega
 ·simp; omega
 ·simp; omega
def chkV (s : List UInt8) (u : TValue) : TValue × Bool := if vVal u = true ∧ vText u = s then (u, true) else (⟨0, 0, [], 0⟩, false)
theorem s_ReadValue_L18_ok (s : List UInt8) (x1 x2 : Int) (x3 : List UInt8) (x4 a b : Int) (c : List UInt8) (d : Int) : s_ReadValue_L18 s x1 x2 x3 x4 a b c d = some (chkV s ⟨a, b, c, d⟩) := by
 rw [s_ReadValue_L18_eq, s_ValidValue_ok, s_ValueText_ok]
 simp only [Option.bind_some]
 unfold chkV
 cases hv : vVal ⟨a, b, c, d⟩ with
 | false => simp
 | true =>
  simp only [Bool.not_true, Bool.false_eq_true, if_false, if_true, true_and]
  by_cases ht : vText ⟨a, b, c, d⟩ = s
  ·rw [if_neg (by simpa using ht), if_pos ht]
  ·rw [if_pos (by simpa using ht), if_neg ht]; rfl
theorem rdv_chk {s : List UInt8} {u : TValue} (h : ∀ v, vVal v = true → vText v = s → u = v) : RdV s (chkV s u).1 (chkV s u).2 := by
 unfold chkV
 split
 ·rename_i hc; exact .inl ⟨rfl, hc.1, hc.2⟩
 ·rename_i hc
  refine .inr ⟨rfl, rfl, fun v hv e => hc ?_⟩
  rw [h v hv e]; exact ⟨hv, e⟩
theorem s_ReadValue_ok {s : List UInt8} (h : s.length ≤ 1000000000) : ∃ x ok, s_ReadValue s = some (x, ok) ∧ RdV s x ok := by
 rw [s_ReadValue_eq]
 have none' : (∀ v, vVal v = true → vText v ≠ s) → ∃ x ok, (some (TValue.mk (Int.ofNat 0) (Int.ofNat 0) [] (Int.ofNat 0), false) : Option (TValue × Bool)) = some (x, ok) ∧ RdV s x ok := fun hn => ⟨_, _, rfl, .inr ⟨rfl, rfl, hn⟩⟩
 cases s with
 | nil => rw [if_pos (by rfl)]; exact none' fun v hv e => vText_ne hv e
 | cons b r =>
  rw [if_neg (by rw [len_eq]; simp; omega)]
  by_cases hlong : (b :: r).length > 2400
  ·rw [if_pos (by rw [len_eq]; simp at hlong ⊢; omega)]
   exact none' fun v hv e => by have := vText_len2 hv; rw [e] at this; omega
  rw [if_neg (by rw [len_eq]; simp at hlong ⊢; omega)]
  have i0 : idx (b :: r) 0 = some b := by rw [idx_zero]; rfl
  have c1 : cut (b :: r) 1 (Option.getD none (len (b :: r))) = some r := by
   rw [Option.getD_none, len_eq, show (1 : Int) = ((1 : Nat) : Int) from rfl, cut_of (by simp) (Nat.le_refl _)]
   simp
  have chk : ∀ u : TValue, (∀ v, vVal v = true → vText v = b :: r → u = v) → ∃ x ok, some (chkV (b :: r) u) = some (x, ok) ∧ RdV (b :: r) x ok := fun u hu => ⟨_, _, rfl, rdv_chk hu⟩
  obtain ⟨t, ht, hti⟩ := s_l06Unquote_ok (s := b :: r) h
  obtain ⟨p, pb, hp, hpv⟩ := s_l06Number_ok (s := b :: r) h
  obtain ⟨q, hq, hqi⟩ := s_l06Reference_ok (s := b :: r) h
  simp only [i0, ht, Option.bind_some, beq_iff_eq, s_ReadValue_L18_ok]
  by_cases h34 : ib b = 34
  ·rw [if_pos h34]
   refine chk _ fun v hv e => ?_
   rcases vText_head hv e with ⟨_, h1, h2, _⟩ | ⟨h1, _⟩ | ⟨h1, _⟩ | ⟨h1, _⟩ | ⟨h1, _⟩ | ⟨h1, _⟩
   ·rw [hti b v.fText (by rw [h2])]
    exact h1.symm
   all_goals omega
  rw [if_neg h34]
  have L9 : ib b ≠ 60 ∨ r.length < 2 → ∃ x ok, s_ReadValue_L9 (b :: r) 0 0 [] 0 0 0 [] 0 = some (x, ok) ∧ RdV (b :: r) x ok := by
   intro h60
   rw [s_ReadValue_L9_eq]
   simp only [i0, c1, hp, hq, Option.bind_some, beq_iff_eq, s_ReadValue_L18_ok, s_l00In_ok]
   have no3 : ∀ v, vVal v = true → vText v = b :: r → ib b = 60 → False := by
    intro v hv e hb
    rcases vText_head hv e with ⟨h1, _⟩ | ⟨h1, _⟩ | ⟨_, h1, h2, h3, _⟩ | ⟨h1, _⟩ | ⟨h1, _⟩ | ⟨h1, _⟩
    ·omega
    ·omega
    ·rcases h60 with h60 | h60
     ·exact h60 hb
     ·rw [h2] at h60; simp at h60; omega
    all_goals omega
   by_cases h46 : ib b = 46
   ·rw [if_pos h46]
    refine chk _ fun v hv e => ?_
    rcases vText_head hv e with ⟨h1, _⟩ | ⟨h1, _⟩ | ⟨h1, _⟩ | ⟨h1, _⟩ | ⟨_, h1, h2, _⟩ | ⟨h1, _⟩
    ·omega
    ·omega
    ·omega
    ·omega
    ·rw [h2]; exact h1.symm
    ·omega
   rw [if_neg h46]
   by_cases h42 : ib b = 42
   ·rw [if_pos h42]
    refine chk _ fun v hv e => ?_
    rcases vText_head hv e with ⟨h1, _⟩ | ⟨h1, _⟩ | ⟨h1, _⟩ | ⟨h1, _⟩ | ⟨h1, _⟩ | ⟨_, h1, h2, _⟩
    ·omega
    ·omega
    ·omega
    ·omega
    ·omega
    ·rw [h2]; exact h1.symm
   rw [if_neg h42]
   have num : (ib b = 45 ∨ (48 ≤ ib b ∧ ib b ≤ 57)) → ∃ x ok, (if (!pb) = true then some (TValue.mk (Int.ofNat 0) (Int.ofNat 0) [] (Int.ofNat 0), false) else some (chkV (b :: r) ⟨2, p, [], 0⟩)) = some (x, ok) ∧ RdV (b :: r) x ok := by
    intro hbb
    have key : ∀ v, vVal v = true → vText v = b :: r → (⟨2, p, [], 0⟩ : TValue) = v ∧ pb = true := by
     intro v hv e
     rcases vText_head hv e with ⟨h1, _⟩ | ⟨_, h1, h2, h3, h4⟩ | ⟨h1, _⟩ | ⟨h1, _⟩ | ⟨h1, _⟩ | ⟨h1, _⟩
     ·omega
     ·obtain ⟨k1, k2⟩ := hpv _ h3 h4 h2
      rw [k1]; exact ⟨h1.symm, k2⟩
     all_goals omega
    cases pb with
    | false =>
     rw [if_pos (show (!false) = true from rfl)]
     exact none' fun v hv e => by have := (key v hv e).2; cases this
    | true =>
     rw [if_neg (by simp)]
     exact chk _ fun v hv e => (key v hv e).1
   by_cases h45 : ib b = 45
   ·rw [if_pos h45]; exact num (.inl h45)
   rw [if_neg h45]
   have hlt := ib_lt b
   have hnn := ib_nonneg b
   rw [w64_of (by omega) (by omega)]
   by_cases hd : 48 ≤ ib b ∧ ib b ≤ 57
   ·rw [if_pos (by simpa using hd)]; exact num (.inr hd)
   ·rw [if_neg (by simpa using hd)]
    refine chk _ fun v hv e => ?_
    rcases vText_head hv e with ⟨h1, _⟩ | ⟨h1, _⟩ | ⟨h1, _⟩ | ⟨_, h1, h2, h3, h4⟩ | ⟨h1, _⟩ | ⟨h1, _⟩
    ·omega
    ·omega
    ·exact (no3 v hv e h1).elim
    ·have := hqi _ _ h2 h4.1 h4.2 h3
     rw [this]; exact h1.symm
    ·omega
    ·omega
  by_cases h60 : ib b = 60
  ·rw [if_pos h60]
   by_cases h3 : (b :: r).length > 2
   ·rw [if_pos (by rw [len_eq]; simp at h3 ⊢; omega), s_ReadValue_L8_eq]
    have c2 : cut (b :: r) 1 (Option.getD (some (w64 (len (b :: r) - 1))) (len (b :: r))) = some (r.take (r.length - 1)) := by
     have hh : (b :: r).length ≤ 2400 := by omega
     rw [Option.getD_some, len_eq, w64_of (by omega) (by omega)]
     have e : (((b :: r).length : Nat) : Int) - 1 = (((b :: r).length - 1 : Nat) : Int) := by simp
     rw [e, show (1 : Int) = ((1 : Nat) : Int) from rfl, cut_of (by simp at h3 ⊢; omega) (by omega)]
     congr 1
     cases r with
     | nil => simp at h3
     | cons c r' => simp
    rw [c2]
    simp only [Option.bind_some, s_ReadValue_L18_ok]
    refine chk _ fun v hv e => ?_
    rcases vText_head hv e with ⟨h1, _⟩ | ⟨h1, _⟩ | ⟨_, h1, h2, _⟩ | ⟨h1, _⟩ | ⟨h1, _⟩ | ⟨h1, _⟩
    ·omega
    ·omega
    ·rw [h2]
     simp only [List.length_append, List.length_singleton, Nat.add_sub_cancel, List.take_left]
     exact h1.symm
    all_goals omega
   ·rw [if_neg (by rw [len_eq]; simp at h3 ⊢; omega)]
    exact L9 (.inr (by simp at h3; omega))
  ·rw [if_neg h60]
   exact L9 (.inl h60)
theorem rdv_same {s : List UInt8} {x y : TValue} {a b : Bool} (h : RdV s x a) (k : RdV s y b) (hu : ∀ v w, vVal v = true → vVal w = true → vText v = s → vText w = s → v = w) : x = y ∧ a = b := by
 rcases h with ⟨rfl, h1, h2⟩ | ⟨rfl, rfl, h1⟩ <;> rcases k with ⟨rfl, k1, k2⟩ | ⟨rfl, rfl, k1⟩
 ·exact ⟨hu _ _ h1 k1 h2 k2, rfl⟩
 ·exact (k1 _ h1 h2).elim
 ·exact (h1 _ k1 k2).elim
 ·exact ⟨rfl, rfl⟩
theorem vText_inj {v w : TValue} (h1 : vVal v = true) (h2 : vVal w = true) (e : vText v = vText w) : v = w := by
 have hl := vText_len h2
 obtain ⟨u, _, hu⟩ := i_readText_ok (s := vText w) (by omega)
 rw [← hu v h1 e, ← hu w h2 rfl]
theorem l_eqValue_refl (x : TValue) : l_eqValue x x = some true := by
 rw [l_eqValue_eq]
 simp
theorem l_FnExactReadValue_ok {s : List UInt8} : l_FnExactReadValue s = some true := by
 rw [l_FnExactReadValue_eq]
 by_cases hl : s.length > 1048576
 ·rw [if_pos (by rw [len_eq]; simp; omega)]
 rw [if_neg (by rw [len_eq]; simp; omega)]
 obtain ⟨x, a, hx, hxr⟩ := i_ReadValue_ok (s := s) (by omega)
 obtain ⟨y, b, hy, hyr⟩ := s_ReadValue_ok (s := s) (by omega)
 obtain ⟨rfl, rfl⟩ := rdv_same hxr hyr fun v w h1 h2 e1 e2 => vText_inj h1 h2 (e1.trans e2.symm)
 rw [hx, hy]
 simp only [Option.bind_some, l_eqValue_refl]
 simp
end Go.Dv.U
