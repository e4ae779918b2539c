/- Plain laws about these equations. -/
import Derived.Test.YtoiflplpcagifaaDoorFnExactReadFieldsEqa
set_option linter.all false
set_option linter.unusedVariables false
set_option linter.unusedSimpArgs false
namespace Go.Dv.U
open Go Go.Dv Go.Proofs
theorem i_within_ok (a b c : Int) : i_within a b c = some (decide (b ≤ a) && decide (a ≤ c)) := by
 rw [i_within_eq]; grind
theorem s_l00In_ok (a b c : Int) : s_l00In a b c = some (decide (b ≤ a) && decide (a ≤ c)) := by
 rw [s_l00In_eq]; grind
end Go.Dv.U

namespace Go.Dv.U
open Go Go.Dv Go.Proofs
def isDig (b : Int) : Bool := decide (48 ≤ b) && decide (b ≤ 57)
theorem i_isDigit_ok (b : Int) : i_isDigit b = some (isDig b) := by
 rw [i_isDigit_eq]; unfold isDig; grind
end Go.Dv.U

namespace Go.Dv.U
open Go Go.Dv Go.Proofs
def hasB (c : Int) (s : List UInt8) : Bool := s.any fun b => ib b == c
theorem index_one (c : UInt8) : ∀ s : List UInt8, decide (0 ≤ Lib.index s [c]) = hasB (ib c) s
 | [] => by simp [Lib.index, hasB]
 | b :: l => by
  have ih := index_one c l
  have hge := Lib.index_ge l [c]
  unfold Lib.index
  have hp : [c].isPrefixOf (b :: l) = (ib b == ib c) := by
   rw [Bool.eq_iff_iff]
   simp only [List.isPrefixOf, Bool.and_true, beq_iff_eq, ib_inj]
   exact eq_comm
  have hh : hasB (ib c) (b :: l) = (ib b == ib c || hasB (ib c) l) := rfl
  rw [hp, hh, ← ih]
  cases (ib b == ib c)
  ·simp only [Bool.false_eq_true, if_false, Bool.false_or]
   split
   ·rename_i h; rw [beq_iff_eq] at h; rw [h]
   ·rename_i h
    have h : ¬ Lib.index l [c] = -1 := by simpa using h
    rw [Bool.eq_iff_iff, decide_eq_true_eq, decide_eq_true_eq]; omega
  ·simp
theorem nDigits_le : ∀ (k u : Nat), u < 10 ^ (k + 1) → Lib.nDigits u ≤ k + 1
 | 0, u, h => by rw [Lib.nDigits_small (by simpa using h)]; exact Nat.le_refl _
 | k + 1, u, h => by
  by_cases hu : u < 10
  ·rw [Lib.nDigits_small hu]; omega
  ·rw [Lib.nDigits_big hu]
   have := nDigits_le k (u / 10) (by rw [Nat.div_lt_iff_lt_mul (by decide)]; rw [Nat.pow_succ] at h; exact h)
   omega
theorem digit_byte {r : Int} (h0 : 0 ≤ r) (h1 : r < 10) : UInt8.ofNat (Int.toNat (IntKind.wrap .u8 (w64 (48 + r)))) = UInt8.ofNat (48 + r.toNat) := by
 rw [w64_of (by omega) (by omega)]
 have e2 : IntKind.u8.wrap (48 + r) = 48 + r := by unfold IntKind.wrap; simp [IntKind.bits, IntKind.signed]; omega
 rw [e2]
 congr 1
 omega
theorem rem_ten (u : Nat) : rem (u : Int) 10 = some ((u % 10 : Nat) : Int) := by
 unfold rem
 rw [if_neg (by decide), Int.tmod_eq_emod_of_nonneg (by omega)]
 congr 1
theorem quo_ten {u : Nat} (h : u < 9223372036854775808) : quo .i64 (u : Int) 10 = some ((u / 10 : Nat) : Int) := by
 unfold quo
 rw [if_neg (by decide), Int.tdiv_eq_ediv_of_nonneg (by omega)]
 congr 1
 have : IntKind.i64.wrap ((u : Int) / 10) = w64 ((u : Int) / 10) := rfl
 rw [this, w64_of (by omega) (by omega)]
 omega
theorem itoa_nat (u : Nat) : Lib.itoa (u : Int) = Lib.decDigits u := by
 unfold Lib.itoa
 rw [if_neg (by omega)]
 rfl
theorem i_decimal_ok {n : Int} (h0 : -9223372036854775808 ≤ n) (h1 : n ≤ 9223372036854775807) : i_decimal n = some (Lib.itoa n) := by
 rw [i_decimal_eq]
 unfold itoaS
 rw [if_pos ⟨rfl, h0, h1⟩]
 rfl
theorem itoa_len20 {n : Int} (h0 : -9223372036854775808 ≤ n) (h1 : n ≤ 9223372036854775807) : (Lib.itoa n).length ≤ 20 := by
 unfold Lib.itoa
 split
 ·rw [List.length_cons, Lib.decDigits_length]
  have := nDigits_le 18 n.natAbs (by omega)
  omega
 ·rw [Lib.decDigits_length]
  have := nDigits_le 18 n.toNat (by omega)
  omega
end Go.Dv.U

namespace Go.Dv.U
open Go Go.Dv Go.Proofs
def SrcOk (c : List Int) (a B : Int) : Prop := (∀ y ∈ c, 0 ≤ y ∧ y ≤ 255) ∧ c.length ≤ 9223372036854775807 ∧ 0 ≤ a ∧ a ≤ B
def Dr {α : Type} (o : Option (α × ((List Int × Int × Int × Unit) × Unit))) (B : Int) (P : α → Prop) : Prop := ∃ v c a s, o = some (v, ((c, a, s, ()), ())) ∧ SrcOk c a B ∧ P v
theorem Dr.bind {α β : Type} {o : Option (α × ((List Int × Int × Int × Unit) × Unit))} {B B' : Int} {P : α → Prop} {Q : β → Prop} {k : α × ((List Int × Int × Int × Unit) × Unit) → Option (β × ((List Int × Int × Int × Unit) × Unit))}
  (h : Dr o B P) (hk : ∀ v c a s, SrcOk c a B → P v → Dr (k (v, ((c, a, s, ()), ()))) B' Q) : Dr (o.bind k) B' Q := by
 obtain ⟨v, c, a, s, rfl, h2, h3⟩ := h
 exact hk v c a s h2 h3
theorem Dr.some {α : Type} {v : α} {c : List Int} {a s B : Int} {P : α → Prop} (h : SrcOk c a B) (hp : P v) : Dr (Option.some (v, ((c, a, s, ()), ()))) B P := ⟨v, c, a, s, rfl, h, hp⟩
end Go.Dv.U

namespace Go.Dv.U
open Go Go.Dv Go.Proofs
def dbl : List UInt8 → List UInt8
 | [] => []
 | b :: r => if ib b = 34 then b :: 34 :: dbl r else b :: dbl r
def qtext (s : List UInt8) : List UInt8 := 34 :: (dbl s ++ [34])
theorem dbl_len : ∀ s, (dbl s).length ≤ 2 * s.length
 | [] => by simp [dbl]
 | b :: r => by have := dbl_len r; simp only [dbl]; split <;> simp <;> omega
theorem qtext_len (s : List UInt8) : (qtext s).length ≤ 2 * s.length + 2 := by
 have := dbl_len s; simp [qtext]; omega
theorem dbl_app : ∀ (a b : List UInt8), dbl (a ++ b) = dbl a ++ dbl b
 | [], b => rfl
 | x :: a, b => by simp only [List.cons_append, dbl, dbl_app a b]; split <;> simp
theorem dbl_none : ∀ (s : List UInt8), hasB 34 s = false → dbl s = s
 | [], _ => rfl
 | b :: r, h => by
  simp only [hasB, List.any_cons, Bool.or_eq_false_iff] at h
  have h1 : ¬ ib b = 34 := by simpa using h.1
  rw [dbl, if_neg h1, dbl_none r h.2]
theorem split34 : ∀ (s : List UInt8), hasB 34 s = true → ∃ a r, s = a ++ 34 :: r ∧ hasB 34 a = false
  | [], h => by simp [hasB] at h
  | b :: s, h => by
    by_cases hb : ib b = 34
    · have : b = 34 := ib_inj.1 (hb.trans (by decide))
      subst this
      exact ⟨[], s, rfl, rfl⟩
    · have h2 : hasB 34 s = true := by
        simp only [hasB, List.any_cons, Bool.or_eq_true] at h
        rcases h with h | h
        · exact absurd (by simpa using h) hb
        · exact h
      obtain ⟨a, r, e, h3⟩ := split34 s h2
      refine ⟨b :: a, r, by rw [e]; rfl, ?_⟩
      simp only [hasB, List.any_cons, Bool.or_eq_false_iff]
      exact ⟨by simpa using hb, h3⟩
theorem index34_none {s : List UInt8} (h : hasB 34 s = false) : Lib.index s [34] = -1 := by
 have h1 := index_one 34 s
 have e : ib 34 = 34 := by decide
 rw [e, h] at h1
 have := Lib.index_ge s [34]
 simp only [decide_eq_false_iff_not] at h1
 omega
theorem index34_some {a r : List UInt8} (h : hasB 34 a = false) : Lib.index (a ++ 34 :: r) [34] = (a.length : Int) := by
 refine Lib.index_first (by simp) ?_ ?_
 ·simp [Lib.occAt]
 ·intro j hj
  simp only [Lib.occAt]
  rw [List.drop_append_of_le_length (by omega), List.drop_eq_getElem_cons hj]
  simp only [List.cons_append, List.isPrefixOf, Bool.and_true]
  rw [beq_eq_false_iff_ne]
  intro e
  have : hasB 34 a = true := by
   simp only [hasB, List.any_eq_true]
   exact ⟨a[j], List.getElem_mem hj, by rw [← e]; decide⟩
  rw [h] at this; cases this
theorem replaceK34 : ∀ (k : Nat) (s : List UInt8), Lib.count s [34] ≤ k → Lib.replaceK [34] [34, 34] k s = dbl s
 | 0, s, h => by
  cases hb : hasB 34 s with
  | false => rw [dbl_none s hb]; rfl
  | true =>
   obtain ⟨a, r, rfl, h3⟩ := split34 s hb
   have := Lib.count_hit (sub := [34]) (by simp) (index34_some (r := r) h3)
   omega
 | k + 1, s, h => by
  cases hb : hasB 34 s with
  | false => rw [dbl_none s hb, Lib.replaceK, index34_none hb]; rfl
  | true =>
   obtain ⟨a, r, rfl, h3⟩ := split34 s hb
   have hi := index34_some (r := r) h3
   have hc := Lib.count_hit (sub := [34]) (by simp) hi
   rw [Lib.replaceK_hit _ _ _ _ _ hi]
   have e1 : (a ++ 34 :: r).take a.length = a := by simp
   have e2 : (a ++ 34 :: r).drop (a.length + ([34] : List UInt8).length) = r := by simp [List.drop_append]
   rw [e2] at hc
   rw [e1, e2, replaceK34 k r (by omega), dbl_app, dbl_none a h3]
   have e3 : ib 34 = 34 := by decide
   simp [dbl, e3]
theorem replaceAll34 (s : List UInt8) : Lib.replaceAll s [34] [34, 34] = dbl s := by
 unfold Lib.replaceAll Lib.replace
 rw [if_neg (by decide)]
 exact replaceK34 _ s (by unfold Lib.replaceNum; rw [if_pos (by left; decide)]; exact Nat.le_refl _)
end Go.Dv.U

namespace Go.Dv.U
open Go Go.Dv Go.Proofs
theorem rem_neg_ten (u : Nat) : rem (-(u : Int)) 10 = some (-((u % 10 : Nat) : Int)) := by
 unfold rem
 rw [if_neg (by decide), Int.neg_tmod, Int.tmod_eq_emod_of_nonneg (by omega)]
 congr 1
theorem quo_neg_ten {u : Nat} (h : u ≤ 9223372036854775808) : quo .i64 (-(u : Int)) 10 = some (-((u / 10 : Nat) : Int)) := by
 unfold quo
 rw [if_neg (by decide), Int.neg_tdiv, Int.tdiv_eq_ediv_of_nonneg (by omega)]
 congr 1
 have : IntKind.i64.wrap (-((u : Int) / 10)) = w64 (-((u : Int) / 10)) := rfl
 rw [this, w64_of (by omega) (by omega)]
 omega
theorem decDigits_step {u : Nat} (hu : ¬ u < 10) : Lib.decDigits u = Lib.decDigits (u / 10) ++ [UInt8.ofNat (48 + u % 10)] := by
 rw [Lib.decDigits, dif_neg hu]
theorem digits_end (x0 : Int) (s : List UInt8) (hl : s.length ≤ 1000) : s_l06Digits_L5 x0 s 0 = some ((if x0 < 0 then [45] else []) ++ s) := by
 rw [s_l06Digits_L5_eq, if_neg (by decide)]
 by_cases h : x0 < 0
 ·rw [if_pos (by simpa using h), if_pos h, app_of (by simp; omega)]; rfl
 ·rw [if_neg (by simpa using h), if_neg h]; rfl
theorem s_l06Digits_L5_pos (x0 : Int) : ∀ (k u : Nat) (s : List UInt8), 0 < u → u < 10 ^ (k + 1) → u < 9223372036854775808 → s.length + k + 1 ≤ 1000 → s_l06Digits_L5 x0 s (u : Int) = some ((if x0 < 0 then [45] else []) ++ (Lib.decDigits u ++ s)) := by
 intro k
 induction k with
 | zero =>
  intro u s hp h h2 hl
  have hu : u < 10 := by simpa using h
  rw [s_l06Digits_L5_eq, if_pos (by simp; omega), rem_ten, quo_ten h2]
  simp only [Option.bind_some]
  rw [if_neg (by simp; omega)]
  simp only [List.map_cons, List.map_nil, digit_byte (r := ((u % 10 : Nat) : Int)) (by omega) (by omega), Int.toNat_natCast]
  rw [app_of (by simp; omega)]
  simp only [Option.bind_some]
  have e : u / 10 = 0 := by omega
  have e2 : u % 10 = u := by omega
  rw [e, e2, Int.natCast_zero, digits_end _ _ (by simp; omega), Lib.decDigits_one hu]
 | succ k ih =>
  intro u s hp h h2 hl
  by_cases hu : u < 10
  ·rw [s_l06Digits_L5_eq, if_pos (by simp; omega), rem_ten, quo_ten h2]
   simp only [Option.bind_some]
   rw [if_neg (by simp; omega)]
   simp only [List.map_cons, List.map_nil, digit_byte (r := ((u % 10 : Nat) : Int)) (by omega) (by omega), Int.toNat_natCast]
   rw [app_of (by simp; omega)]
   simp only [Option.bind_some]
   have e : u / 10 = 0 := by omega
   have e2 : u % 10 = u := by omega
   rw [e, e2, Int.natCast_zero, digits_end _ _ (by simp; omega), Lib.decDigits_one hu]
  ·rw [s_l06Digits_L5_eq, if_pos (by simp; omega), rem_ten, quo_ten h2]
   simp only [Option.bind_some]
   rw [if_neg (by simp; omega)]
   simp only [List.map_cons, List.map_nil, digit_byte (r := ((u % 10 : Nat) : Int)) (by omega) (by omega), Int.toNat_natCast]
   rw [app_of (by simp; omega)]
   simp only [Option.bind_some]
   rw [ih (u / 10) _ (by omega) (by rw [Nat.div_lt_iff_lt_mul (by decide)]; rw [Nat.pow_succ] at h; exact h) (by omega) (by simp; omega), decDigits_step hu]
   simp
theorem s_l06Digits_L5_neg (x0 : Int) : ∀ (k u : Nat) (s : List UInt8), 0 < u → u < 10 ^ (k + 1) → u ≤ 9223372036854775808 → s.length + k + 1 ≤ 1000 → s_l06Digits_L5 x0 s (-(u : Int)) = some ((if x0 < 0 then [45] else []) ++ (Lib.decDigits u ++ s)) := by
 have step : ∀ (u : Nat) (s : List UInt8), 0 < u → u ≤ 9223372036854775808 → s.length ≤ 1000 → s_l06Digits_L5 x0 s (-(u : Int)) = s_l06Digits_L5 x0 (UInt8.ofNat (48 + u % 10) :: s) (-((u / 10 : Nat) : Int)) := by
  intro u s hp h2 hl
  rw [s_l06Digits_L5_eq, if_pos (by simp; omega), rem_neg_ten, quo_neg_ten h2]
  simp only [Option.bind_some]
  by_cases h0 : u % 10 = 0
  ·rw [if_neg (by simp; omega), h0]
   have := digit_byte (r := -((0 : Nat) : Int)) (by omega) (by omega)
   simp only [List.map_cons, List.map_nil, this]
   rw [app_of (by simp; omega)]
   rfl
  ·rw [if_pos (by simp; omega), w64_of (n := 0 - -((u % 10 : Nat) : Int)) (by omega) (by omega)]
   have e : (0 - -((u % 10 : Nat) : Int)) = ((u % 10 : Nat) : Int) := by omega
   rw [e]
   simp only [List.map_cons, List.map_nil, digit_byte (r := ((u % 10 : Nat) : Int)) (by omega) (by omega), Int.toNat_natCast]
   rw [app_of (by simp; omega)]
   rfl
 intro k
 induction k with
 | zero =>
  intro u s hp h h2 hl
  have hu : u < 10 := by simpa using h
  have e : u / 10 = 0 := by omega
  have e2 : u % 10 = u := by omega
  rw [step u s hp h2 (by omega), e, e2]
  have := digits_end x0 (UInt8.ofNat (48 + u) :: s) (by simp; omega)
  simpa [Lib.decDigits_one hu] using this
 | succ k ih =>
  intro u s hp h h2 hl
  rw [step u s hp h2 (by omega)]
  by_cases hu : u < 10
  ·have e : u / 10 = 0 := by omega
   have e2 : u % 10 = u := by omega
   rw [e, e2]
   have := digits_end x0 (UInt8.ofNat (48 + u) :: s) (by simp; omega)
   simpa [Lib.decDigits_one hu] using this
  ·rw [ih (u / 10) _ (by omega) (by rw [Nat.div_lt_iff_lt_mul (by decide)]; rw [Nat.pow_succ] at h; exact h) (by omega) (by simp; omega), decDigits_step hu]
   simp
theorem s_l06Digits_ok {n : Int} (h0 : -9223372036854775808 ≤ n) (h1 : n ≤ 9223372036854775807) : s_l06Digits n = some (Lib.itoa n) := by
 rw [s_l06Digits_eq]
 by_cases hz : n = 0
 ·subst hz
  have := itoa_nat 0
  rw [Int.natCast_zero] at this
  rw [if_pos (by decide), this, Lib.decDigits_one (by decide)]
  rfl
 rw [if_neg (by simpa using hz)]
 by_cases hn : n < 0
 ·obtain ⟨u, hu⟩ : ∃ u : Nat, n = -(u : Int) := ⟨n.natAbs, by omega⟩
  have := s_l06Digits_L5_neg n 18 u [] (by omega) (by omega) (by omega) (by decide)
  rw [← hu, if_pos hn] at this
  rw [this]
  unfold Lib.itoa
  rw [if_pos hn]
  have e : n.natAbs = u := by omega
  simp [e]
 ·obtain ⟨u, hu⟩ : ∃ u : Nat, n = (u : Int) := ⟨n.toNat, by omega⟩
  have := s_l06Digits_L5_pos n 18 u [] (by omega) (by omega) (by omega) (by decide)
  rw [← hu, if_neg hn] at this
  rw [this, hu, itoa_nat]
  simp
end Go.Dv.U

namespace Go.Dv.U
open Go Go.Dv Go.Proofs
theorem occ_none {c : UInt8} {s t : List UInt8} (h : hasB (ib c) s = false) (j : Nat) : Lib.occAt s (c :: t) j = false := by
 cases ho : Lib.occAt s (c :: t) j with
 | false => rfl
 | true =>
  have h1 := Lib.occAt_head (c := c) (t := t) rfl ho
  have : hasB (ib c) s = true := by
   simp only [hasB, List.any_eq_true, beq_iff_eq]
   exact ⟨c, List.mem_of_getElem? h1, rfl⟩
  rw [h] at this; cases this
theorem index_cnone {c : UInt8} {s t : List UInt8} (h : hasB (ib c) s = false) : Lib.index s (c :: t) = -1 := Lib.index_none fun j _ => occ_none h j
theorem index_csome {c : UInt8} {a r t : List UInt8} (h : hasB (ib c) a = false) (ht : (c :: t).isPrefixOf r = true) : Lib.index (a ++ r) (c :: t) = (a.length : Int) := by
 refine Lib.index_first (by simp) ?_ ?_
 ·unfold Lib.occAt
  rw [List.drop_left]; exact ht
 ·intro j hj
  unfold Lib.occAt
  rw [List.drop_append_of_le_length (by omega), List.drop_eq_getElem_cons hj]
  simp only [List.cons_append, List.isPrefixOf, Bool.and_eq_false_iff]
  left
  rw [beq_eq_false_iff_ne]
  intro e
  have : hasB (ib c) a = true := by
   simp only [hasB, List.any_eq_true, beq_iff_eq]
   exact ⟨a[j], List.getElem_mem hj, by rw [← e]⟩
  rw [h] at this; cases this
theorem cut_one {c : UInt8} {a r : List UInt8} (h : hasB (ib c) a = false) : Lib.cut (a ++ c :: r) [c] = (a, r, true) := by
 have hi : Lib.index (a ++ c :: r) [c] = (a.length : Int) := index_csome h (by simp [List.isPrefixOf])
 unfold Lib.cut
 rw [hi, if_pos (by omega)]
 simp [List.drop_append]
theorem cut_none {c : UInt8} {s : List UInt8} (h : hasB (ib c) s = false) : Lib.cut s [c] = (s, [], false) := by
 unfold Lib.cut
 rw [index_cnone h, if_neg (by decide)]
theorem parseM_dig (M : Nat) : ∀ (l : List UInt8) (acc k : Nat), l.all digB = true → acc < 10 ^ k → l.length + k ≤ 18 → 1000000000000000000 ≤ M → Lib.parseUintM M acc l = .ok (numD l acc)
 | [], acc, k, _, _, _, _ => rfl
 | c :: r, acc, k, h, ha, hl, hM => by
  simp only [List.all_cons, Bool.and_eq_true_iff] at h
  have hd := h.1
  unfold digB at hd
  simp only [Bool.and_eq_true_iff, decide_eq_true_eq] at hd
  simp only [List.length_cons] at hl
  have hp : 10 ^ (k + 1) ≤ 10 ^ 18 := Nat.pow_le_pow_right (by decide) (by omega)
  have hs : 10 ^ (k + 1) = 10 ^ k * 10 := Nat.pow_succ _ _
  unfold Lib.parseUintM
  rw [if_pos hd, if_neg (by omega), if_neg (by omega), parseM_dig M r _ (k + 1) h.2 (by omega) (by omega) hM]
  rfl
theorem decd_byte {r : Nat} (h : r < 10) : (UInt8.ofNat (48 + r)).toNat = 48 + r := by simp; omega
theorem decd_ok : ∀ (k u : Nat), u < 10 ^ (k + 1) → (Lib.decDigits u).all digB = true ∧ numD (Lib.decDigits u) 0 = u ∧ Lib.decDigits u ≠ [] := by
 have one : ∀ u : Nat, u < 10 → (Lib.decDigits u).all digB = true ∧ numD (Lib.decDigits u) 0 = u ∧ Lib.decDigits u ≠ [] := by
  intro u hu
  rw [Lib.decDigits_one hu]
  have := decd_byte hu
  refine ⟨by simp [digB, this]; omega, ?_, by simp⟩
  simp only [numD, List.foldl_cons, List.foldl_nil, this]; omega
 intro k
 induction k with
 | zero => intro u h; exact one u (by simpa using h)
 | succ k ih =>
  intro u h
  by_cases hu : u < 10
  ·exact one u hu
  ·obtain ⟨h1, h2, h3⟩ := ih (u / 10) (by rw [Nat.div_lt_iff_lt_mul (by decide)]; rw [Nat.pow_succ] at h; exact h)
   have := decd_byte (r := u % 10) (by omega)
   rw [decDigits_step hu]
   refine ⟨?_, ?_, by simp⟩
   ·rw [List.all_append, h1]
    simp [digB, this]; omega
   ·have : numD (Lib.decDigits (u / 10) ++ [UInt8.ofNat (48 + u % 10)]) 0 = numD (Lib.decDigits (u / 10)) 0 * 10 + ((UInt8.ofNat (48 + u % 10)).toNat - 48) := by simp [numD]
    rw [this, h2]; omega
end Go.Dv.U

namespace Go.Dv.U
open Go Go.Dv Go.Proofs
theorem w64_rng (n : Int) : -9223372036854775808 ≤ w64 n ∧ w64 n ≤ 9223372036854775807 := by
 unfold w64 IntKind.wrap
 simp [IntKind.bits, IntKind.signed]
 omega
theorem parseIntE_some {s : List UInt8} (h : s.length ≤ 1000000000) : ∃ n, parseIntE s = some n := by
 have hb : big = 68719476736 := rfl
 unfold parseIntE parseIntS
 rw [if_pos (by omega)]
 exact ⟨_, rfl⟩
end Go.Dv.U

namespace Go.Dv.U
open Go Go.Dv Go.Proofs
theorem wrap_u8 {n : Int} (h0 : 0 ≤ n) (h1 : n < 256) : IntKind.wrap .u8 n = n := by
 unfold IntKind.wrap
 simp [IntKind.bits, IntKind.signed]
 omega
end Go.Dv.U

namespace Go.Dv
open Go
theorem bytesOf_ib (s : List UInt8) : bytesOf (s.map ib) = some s := by
 unfold bytesOf
 have h : ((s.map ib).all fun n => decide (0 ≤ n) && decide (n < 256)) = true := by
  simp only [List.all_map, List.all_eq_true]
  intro x _
  simp [ib_lt x, ib_nonneg x]
 rw [if_pos h, List.map_map]
 congr 1
 conv => rhs; rw [← List.map_id s]
 apply List.map_congr_left
 intro x _
 simp only [Function.comp, id, ib, Int.ofNat_eq_natCast, Int.toNat_natCast]
 exact UInt8.ofNat_toNat
end Go.Dv

namespace Go.Dv.U
open Go Go.Dv Go.Proofs
theorem mk_rem_ten (u : Nat) : rem (u : Int) 10 = some ((u % 10 : Nat) : Int) := by
 unfold rem
 rw [if_neg (by decide)]
 congr 1
theorem mk_quo_ten {u : Nat} (h : u < 9223372036854775808) : quo .i64 (u : Int) 10 = some ((u / 10 : Nat) : Int) := by
 unfold quo
 rw [if_neg (by decide)]
 congr 1
 rw [show ((u : Int).tdiv 10) = ((u / 10 : Nat) : Int) from rfl, IntKind.wrap_i64]
 omega
theorem l_markText_L4_ok : ∀ (f n : Nat) (a : List UInt8), n < 9223372036854775808 → n < 10 ^ f → a.length + f ≤ 100 → ∃ t, l_markText_L4 (n : Int) a = some t
 | 0, n, a, _, h, ha => by
  have : n = 0 := by simpa using h
  subst this
  rw [l_markText_L4_eq]
  refine ⟨[109] ++ a, ?_⟩
  have := app_of (xs := ([109] : List UInt8)) (ys := a) (by simp; omega)
  simp [this]
 | f + 1, n, a, h0, h, ha => by
  rw [l_markText_L4_eq]
  by_cases hn : n = 0
  ·subst hn
   refine ⟨[109] ++ a, ?_⟩
   have := app_of (xs := ([109] : List UInt8)) (ys := a) (by simp; omega)
   simp [this]
  ·have hc : decide ((n : Int) > 0) = true := by simp; omega
   rw [if_pos hc, mk_rem_ten]
   simp only [Option.bind_some, mk_quo_ten h0]
   rw [app_of (by simp; omega)]
   simp only [Option.bind_some]
   exact l_markText_L4_ok f (n / 10) _ (by omega) (by rw [Nat.pow_succ] at h; omega) (by simp; omega)
noncomputable def mkT (k : Int) : List UInt8 := (l_markText k).getD []
theorem l_markText_ok {k : Int} (h0 : 0 ≤ k) (h : k < 9223372036854775808) : l_markText k = some (mkT k) := by
 have : ∃ t, l_markText k = some t := by
  rw [l_markText_eq]
  by_cases c : k ≤ 0
  ·exact ⟨_, by rw [if_pos (by simpa using c)]⟩
  ·rw [if_neg (by simpa using c)]
   have := l_markText_L4_ok 19 k.toNat [] (by omega) (by simp; omega) (by simp)
   rwa [show ((k.toNat : Nat) : Int) = k by omega] at this
 obtain ⟨t, e⟩ := this
 rw [mkT, e]; rfl
end Go.Dv.U

namespace Go.Dv
open Go
def marksL {α : Type} (μ : Int → α) (c : Nat) : Int → Nat → List α
 | _, 0 => []
 | k, n + 1 => μ k :: marksL μ c (k + c) n
theorem marksL_len {α : Type} (μ : Int → α) (c : Nat) : ∀ (n : Nat) (k : Int), (marksL μ c k n).length = n
 | 0, _ => rfl
 | n + 1, k => by simp [marksL, marksL_len μ c n]
theorem markL_loop {α : Type} {μ : Int → α} {c : Nat} {J : Int → Int → List α → Option (Int × List α × Unit)}
    (he : ∀ k (xs : List α), J k (xs.length : Int) xs = some (k, xs, ()))
    (hs : ∀ (k : Int) (i : Nat) (xs : List α) (h : i < xs.length), 0 ≤ k → k + c < 4611686018427387904 → xs.length < 4611686018427387904 → J k (i : Int) xs = J (k + c) ((i + 1 : Nat) : Int) (xs.set i (μ k))) :
    ∀ (xs : List α) (k : Int), 0 ≤ k → k + (c * xs.length : Nat) < 4611686018427387904 → xs.length < 4611686018427387904 → J k 0 xs = some (k + (c * xs.length : Nat), marksL μ c k xs.length, ()) := by
  have key : ∀ (n i : Nat) (xs : List α) (k : Int), i + n = xs.length → 0 ≤ k → k + (c * n : Nat) < 4611686018427387904 → xs.length < 4611686018427387904 →
      J k (i : Int) xs = some (k + (c * n : Nat), xs.take i ++ marksL μ c k n, ()) := by
    intro n
    induction n with
    | zero =>
      intro i xs k hi h0 h1 h2
      have : i = xs.length := by omega
      subst this
      rw [he]
      simp [marksL]
    | succ n ih =>
      intro i xs k hi h0 h1 h2
      have hlt : i < xs.length := by omega
      have hm : c * (n + 1) = c + c * n := by rw [Nat.mul_succ]; omega
      rw [hm] at h1 ⊢
      rw [hs k i xs hlt h0 (by omega) h2, ih (i + 1) (xs.set i (μ k)) (k + c) (by simp; omega) (by omega) (by omega) (by simpa using h2)]
      congr 1
      rw [show k + (c : Int) + ((c * n : Nat) : Int) = k + ((c + c * n : Nat) : Int) by omega]
      congr 2
      simp only [marksL]
      rw [List.take_set, List.take_succ_eq_append_getElem hlt, List.set_append_right _ _ (by simp; omega)]
      simp [Nat.min_eq_left (by omega : i ≤ xs.length)]
  intro xs k h0 h1 h2
  have := key xs.length 0 xs k (by omega) h0 h1 h2
  simpa using this
theorem heldL_loop {α : Type} {μ : Int → α} {c n : Nat} {k : Int} {J : Int → Int → Option Int} (hn : n < 4611686018427387904) (h0 : 0 ≤ k) (h1 : k + (c * n : Nat) < 4611686018427387904)
  (he : ∀ k, J k (n : Int) = some k)
  (hs : ∀ (k' : Int) (i : Nat), i < n → 0 ≤ k' → k' + c < 4611686018427387904 → idx (marksL μ c k n) (i : Int) = some (μ k') → J k' (i : Int) = J (k' + c) ((i + 1 : Nat) : Int)) :
  J k 0 = some (k + (c * n : Nat)) := by
 have key := loop_ind (xs := marksL μ c k n) (by rw [marksL_len]; omega) (P := fun i l => ∀ k' : Int, 0 ≤ k' → k' + (c * l.length : Nat) < 4611686018427387904 → l = marksL μ c k' l.length → J k' (i : Int) = some (k' + (c * l.length : Nat))) (by
  intro k' _ _ _
  rw [marksL_len, he]
  simp) (by
  intro i y l _ hlt hy hi hw ih k' g0 g1 e
  simp only [List.length_cons, marksL, List.cons.injEq] at e g1
  have hm : c * (l.length + 1) = c + c * l.length := by rw [Nat.mul_succ]; omega
  rw [marksL_len] at hlt
  rw [hm] at g1
  rw [hs k' i hlt g0 (by omega) (by rw [hi, e.1]), ih (k' + c) (by omega) (by omega) e.2]
  congr 1
  simp only [List.length_cons, hm]; omega) k h0 (by rw [marksL_len]; exact h1) (by rw [marksL_len])
 rw [marksL_len] at key
 exact key
end Go.Dv

namespace Go.Dv.U
open Go Go.Dv Go.Proofs
def litR : List UInt8 → Option (List UInt8 × List UInt8)
 | [] => none
 | [b] => if ib b = 34 then some ([], []) else none
 | b :: c :: r => if ib b = 34 then (if ib c = 34 then (litR r).map fun p => (34 :: p.1, p.2) else some ([], c :: r)) else (litR (c :: r)).map fun p => (b :: p.1, p.2)
def no34 : List UInt8 → Prop
 | [] => True
 | c :: _ => ib c ≠ 34
theorem litR_dbl : ∀ (t r : List UInt8), no34 r → litR (dbl t ++ 34 :: r) = some (t, r)
 | [], r, h => by
  cases r with
  | nil => rfl
  | cons c r => show litR (34 :: c :: r) = _; rw [litR, if_pos (by decide), if_neg h]
 | b :: t, r, h => by
  have ih := litR_dbl t r h
  rw [dbl]
  by_cases hb : ib b = 34
  ·rw [if_pos hb]
   show litR (b :: 34 :: (dbl t ++ 34 :: r)) = _
   rw [litR, if_pos hb, if_pos (by decide), ih]
   have : b = 34 := ib_inj.1 (hb.trans (by decide))
   subst this; rfl
  ·rw [if_neg hb]
   show litR (b :: (dbl t ++ 34 :: r)) = _
   cases hd : dbl t ++ 34 :: r with
   | nil => simp at hd
   | cons c q =>
    rw [hd] at ih
    rw [litR, if_neg hb, ih]; rfl
theorem litR_inv : ∀ (n : Nat) (l t r : List UInt8), l.length ≤ n → litR l = some (t, r) → l = dbl t ++ 34 :: r ∧ no34 r
 | 0, [], t, r, _, h => by cases h
 | n + 1, [], t, r, _, h => by cases h
 | n + 1, [b], t, r, _, h => by
  rw [litR] at h
  split at h
  ·rename_i hb
   cases h
   have : b = 34 := ib_inj.1 (hb.trans (by decide))
   subst this
   exact ⟨rfl, trivial⟩
  ·cases h
 | n + 1, b :: c :: q, t, r, hl, h => by
  rw [litR] at h
  simp only [List.length_cons] at hl
  split at h
  ·rename_i hb
   have eb : b = 34 := ib_inj.1 (hb.trans (by decide))
   subst eb
   split at h
   ·rename_i hc
    have ec : c = 34 := ib_inj.1 (hc.trans (by decide))
    subst ec
    obtain ⟨p, hp, e⟩ := Option.map_eq_some_iff.1 h
    obtain ⟨t', r'⟩ := p
    cases e
    obtain ⟨h1, h2⟩ := litR_inv n q t' _ (by omega) hp
    rw [h1]
    exact ⟨by simp only [dbl]; rw [if_pos (by decide)]; rfl, h2⟩
   ·rename_i hc
    cases h
    exact ⟨rfl, hc⟩
  ·rename_i hb
   obtain ⟨p, hp, e⟩ := Option.map_eq_some_iff.1 h
   obtain ⟨t', r'⟩ := p
   cases e
   obtain ⟨h1, h2⟩ := litR_inv n (c :: q) t' _ (by simp; omega) hp
   rw [h1]
   exact ⟨by simp only [dbl]; rw [if_neg hb]; rfl, h2⟩
theorem litR_none : ∀ l, hasB 34 l = false → litR l = none
 | [], _ => rfl
 | [b], h => by
  simp only [hasB, List.any_cons, List.any_nil, Bool.or_false] at h
  rw [litR, if_neg (by simpa using h)]
 | b :: c :: r, h => by
  have h2 : hasB 34 (c :: r) = false := by
   simp only [hasB, List.any_cons, Bool.or_eq_false_iff] at h ⊢; exact h.2
  simp only [hasB, List.any_cons, Bool.or_eq_false_iff] at h
  rw [litR, if_neg (by simpa using h.1), litR_none (c :: r) h2]; rfl
theorem litR_app : ∀ (a x : List UInt8), hasB 34 a = false → x ≠ [] → litR (a ++ x) = (litR x).map fun p => (a ++ p.1, p.2)
 | [], x, _, _ => by simp
 | b :: a, x, h, hx => by
  have h2 : hasB 34 a = false := by
   simp only [hasB, List.any_cons, Bool.or_eq_false_iff] at h ⊢; exact h.2
  simp only [hasB, List.any_cons, Bool.or_eq_false_iff] at h
  have ih := litR_app a x h2 hx
  show litR (b :: (a ++ x)) = _
  cases hd : a ++ x with
  | nil => exact (hx (List.append_eq_nil_iff.1 hd).2).elim
  | cons c q =>
   rw [hd] at ih
   rw [litR, if_neg (by simpa using h.1), ih]
   cases litR x <;> rfl
theorem litR_len {l t r : List UInt8} (h : litR l = some (t, r)) : t.length + r.length + 1 ≤ l.length := by
 obtain ⟨h1, _⟩ := litR_inv l.length l t r (Nat.le_refl _) h
 rw [h1]
 have : ∀ t : List UInt8, t.length ≤ (dbl t).length := by
  intro t
  induction t with
  | nil => simp [dbl]
  | cons b t ih => simp only [dbl]; split <;> simp <;> omega
 have := this t
 simp; omega
theorem hasPre1 (s : List UInt8) (c : UInt8) (h : s.length ≤ 1000000000) : internal_stringslite_HasPrefix s [c] = some (match s with | [] => false | b :: _ => b == c) := by
 rw [internal_stringslite_HasPrefix_eq]
 cases s with
 | nil => rfl
 | cons b r =>
  have e : decide (len (b :: r) ≥ len [c]) = true := by simp [len_eq]; omega
  have := cut_of (xs := b :: r) (a := 0) (b := 1) (by omega) (by simp)
  simp only [Int.natCast_zero, Int.natCast_one] at this
  rw [if_pos e]
  simp only [Option.getD_some, show len [c] = (1 : Int) from rfl, this, Option.bind_some]
  congr 1
  simp
theorem i_has_ok (c : UInt8) (x : List UInt8) (n : Int) (h : x.length ≤ 1000000000) : i_patternReader_has [c] x n = some (match x with | [] => (false, (([], n, ()), ())) | b :: r => if b = c then (true, ((r, n, ()), ())) else (false, ((b :: r, n, ()), ()))) := by
 rw [i_patternReader_has_eq, strings_CutPrefix_eq, internal_stringslite_CutPrefix_eq, hasPre1 x c h]
 cases x with
 | nil => rfl
 | cons b r =>
  simp only [Option.bind_some]
  by_cases hb : b = c
  ·subst hb
   have hc : cut (b :: r) (len [b]) (Option.getD none (len (b :: r))) = some r := by
    rw [Option.getD_none, len_eq, len_eq, cut_of (by simp) (Nat.le_refl _)]
    simp
   rw [hc]
   simp
  ·have : (b == c) = false := by simpa using hb
   rw [this, if_neg hb]
   rfl
theorem i_literal_L4_ok (n : Int) : ∀ (k : Nat) (x acc : List UInt8), x.length ≤ k → x.length + acc.length ≤ 1000000000 →
  (∃ t r, litR x = some (t, r) ∧ i_patternReader_literal_L4_v1 x n (acc.map ib) = some ((acc ++ t, true), ((r, n, ()), ()))) ∨
  (litR x = none ∧ ∃ r, r.length ≤ x.length ∧ i_patternReader_literal_L4_v1 x n (acc.map ib) = some (([], false), ((r, n, ()), ()))) := by
 intro k
 induction k with
 | zero =>
  intro x acc hk hl
  have : x = [] := List.eq_nil_of_length_eq_zero (by omega)
  subst this
  refine .inr ⟨rfl, [], Nat.le_refl _, ?_⟩
  rw [i_patternReader_literal_L4_v1_eq]
  unfold scutS
  rw [if_pos (by decide), show Lib.cut [] [34] = ([], [], false) from cut_none (c := 34) rfl]
  rfl
 | succ k ih =>
  intro x acc hk hl
  have e34 : ib 34 = 34 := by decide
  rw [i_patternReader_literal_L4_v1_eq]
  unfold scutS
  rw [if_pos (by omega)]
  simp only [Option.bind_some]
  cases hb : hasB 34 x with
  | false =>
   rw [cut_none (c := 34) (by rw [e34]; exact hb)]
   exact .inr ⟨litR_none x hb, x, Nat.le_refl _, rfl⟩
  | true =>
   obtain ⟨a, r, rfl, ha⟩ := split34 x hb
   simp only [List.length_append, List.length_cons] at hk hl
   rw [cut_one (c := 34) (by rw [e34]; exact ha)]
   simp only [Bool.not_true, Bool.false_eq_true, if_false]
   rw [app_of (by simp; omega)]
   simp only [Option.bind_some]
   rw [i_has_ok 34 r n (by omega)]
   have hmap : acc.map ib ++ a.map ib = (acc ++ a).map ib := by simp
   have hmap' : (acc.map ib ++ List.map (fun b => ib b) a) = (acc ++ a).map ib := by simp
   rw [hmap']
   have done : no34 r → (∃ t r', litR (a ++ 34 :: r) = some (t, r') ∧ (bytesOf ((acc ++ a).map ib)).bind (fun y195 => some ((y195, true), ((r, n, ()), ()))) = some ((acc ++ t, true), ((r', n, ()), ()))) := by
    intro hr
    refine ⟨a, r, ?_, ?_⟩
    ·rw [litR_app a _ ha (by simp)]
     have := litR_dbl [] r hr
     rw [show dbl [] ++ 34 :: r = 34 :: r from rfl] at this
     rw [this]; simp
    ·rw [bytesOf_ib]; rfl
   cases r with
   | nil =>
    simp only [Option.bind_some, Bool.not_false, if_true]
    obtain ⟨t, r', h1, h2⟩ := done trivial
    exact .inl ⟨t, r', h1, h2⟩
   | cons c q =>
    simp only [Option.bind_some]
    by_cases hc : c = 34
    ·subst hc
     simp only [if_true, Bool.not_true, Bool.false_eq_true, if_false]
     rw [app_of (by simp; omega)]
     simp only [Option.bind_some]
     have hm2 : ((acc ++ a).map ib ++ List.map (fun b => ib b) [34]) = (acc ++ a ++ [34]).map ib := by simp
     rw [hm2]
     have hlit : litR (a ++ 34 :: 34 :: q) = (litR q).map fun p => (a ++ 34 :: p.1, p.2) := by
      rw [litR_app a _ ha (by simp), litR, if_pos e34, if_pos e34]
      cases litR q <;> rfl
     simp only [List.length_cons] at hk hl
     rcases ih q (acc ++ a ++ [34]) (by omega) (by simp; omega) with ⟨t, r', h1, h2⟩ | ⟨h1, r', h2, h3⟩
     ·refine .inl ⟨a ++ 34 :: t, r', by rw [hlit, h1]; rfl, ?_⟩
      rw [h2]; simp
     ·exact .inr ⟨by rw [hlit, h1]; rfl, r', by simp; omega, h3⟩
    ·rw [if_neg hc]
     simp only [Bool.not_false, if_true]
     obtain ⟨t, r', h1, h2⟩ := done (fun h => hc (ib_inj.1 (h.trans e34.symm)))
     exact .inl ⟨t, r', h1, h2⟩
theorem i_literal_ok {l : List UInt8} (n : Int) (h : l.length ≤ 100000000) : (∃ t r, litR l = some (t, r) ∧ i_patternReader_literal (34 :: l) n = some ((t, true), ((r, n, ()), ()))) ∨
  (litR l = none ∧ ∃ r, r.length ≤ l.length ∧ i_patternReader_literal (34 :: l) n = some (([], false), ((r, n, ()), ()))) := by
 rw [i_patternReader_literal_eq, i_has_ok 34 (34 :: l) n (by simp; omega)]
 simp only [if_true, Option.bind_some, Bool.not_true, Bool.false_eq_true, if_false]
 have e : i_patternReader_literal_L4 l n [] = i_patternReader_literal_L4_v1 l n (([] : List UInt8).map ib) := by
  rw [i_patternReader_literal_L4_eq, i_patternReader_literal_L4_v1_eq]; rfl
 rw [e]
 have := i_literal_L4_ok n l.length l [] (Nat.le_refl _) (by simp; omega)
 simpa using this
def vF (f : TField) : Bool := if f.fIsText = true then f.fNum == 0 else (decide (-1000000000000000 ≤ f.fNum) && decide (f.fNum ≤ 1000000000000000)) && f.fText == []
def fText (f : TField) : List UInt8 := if f.fIsText = true then qtext f.fText else Lib.itoa f.fNum
def tailT : List TField → List UInt8
 | [] => []
 | f :: r => 32 :: (fText f ++ tailT r)
def fsText : List TField → List UInt8
 | [] => []
 | f :: r => fText f ++ tailT r
theorem tailT_cons (f : TField) (r : List TField) : tailT (f :: r) = 32 :: fsText (f :: r) := rfl
def wt : List TField → Nat
 | [] => 0
 | f :: r => f.fText.length + 1 + wt r
theorem wt_app : ∀ (a b : List TField), wt (a ++ b) = wt a + wt b
 | [], b => by simp [wt]
 | f :: a, b => by simp only [List.cons_append, wt, wt_app a b]; omega
theorem wt_len : ∀ fs : List TField, fs.length ≤ wt fs
 | [] => Nat.le_refl _
 | f :: r => by have := wt_len r; simp only [wt, List.length_cons]; omega
theorem itoa_len20' {n : Int} (h0 : -1000000000000000 ≤ n) (h1 : n ≤ 1000000000000000) : (Lib.itoa n).length ≤ 20 := itoa_len20 (by omega) (by omega)
theorem fText_len {f : TField} (h : vF f = true) : (fText f).length ≤ 2 * f.fText.length + 20 := by
 unfold vF at h
 unfold fText
 split
 ·have := qtext_len f.fText; omega
 ·rename_i hf
  rw [if_neg hf] at h
  simp only [Bool.and_eq_true, decide_eq_true_eq] at h
  have := itoa_len20' h.1.1 h.1.2
  omega
theorem i_QuoteText_big {s : List UInt8} (h : s.length ≤ 1000000000) : i_QuoteText s = some (qtext s) := by
 rw [i_QuoteText_eq]
 unfold replAllS
 rw [if_pos ⟨by omega, by decide, by decide⟩, replaceAll34]
 have := dbl_len s
 simp only [Option.bind_some]
 rw [app_of (by simp; omega)]
 simp only [Option.bind_some]
 rw [app_of (by simp; omega)]
 rfl
theorem i_Field_text_ok {f : TField} (h : vF f = true) (hl : f.fText.length ≤ 1000000000) : i_Field_text f = some (fText f) := by
 unfold vF at h
 rw [i_Field_text_eq]
 unfold fText
 split
 ·rw [i_QuoteText_big hl]; rfl
 ·rename_i hf
  rw [if_neg hf] at h
  simp only [Bool.and_eq_true, decide_eq_true_eq] at h
  rw [i_decimal_ok (by omega) (by omega)]; rfl
theorem i_Field_isValid_ok (f : TField) : i_Field_isValid f = some (vF f) := by
 rw [i_Field_isValid_eq, i_within_ok]
 unfold vF
 simp only [Option.bind_some]
 split
 ·rfl
 ·cases (decide (-1000000000000000 ≤ f.fNum) && decide (f.fNum ≤ 1000000000000000)) <;> simp
theorem i_areAllF_ok {fs : List TField} (h : fs.length ≤ 9223372036854775807) : i_areAll_impl_Field__i_Field_isValid fs = some (fs.all vF) := by
 rw [i_areAll_impl_Field__i_Field_isValid_eq]
 exact all_loop (xs := fs) h (F := i_Field_isValid) (p := vF) (J := i_areAll_impl_Field_L2__i_Field_isValid fs (len fs)) (fun i => by rw [i_areAll_impl_Field_L2__i_Field_isValid_eq]) (fun y _ => i_Field_isValid_ok y)
theorem i_FieldsText_v1_ok {fs : List TField} (h : wt fs ≤ 100000000) (hv : fs.all vF = true) : ∀ (d i : Nat) (a : List UInt8), fs.length - i = d → 0 < i → i ≤ fs.length → a.length + 21 * wt (fs.drop i) ≤ 10000000000 →
  i_FieldsText_L5_v1 fs (len fs) (i : Int) (a.map ib) = some (a ++ tailT (fs.drop i)) := by
 have hlen := wt_len fs
 intro d
 induction d with
 | zero =>
  intro i a hd h0 hi ha
  have : i = fs.length := by omega
  subst this
  rw [i_FieldsText_L5_v1_eq, if_neg (by simp [len_eq]), bytesOf_ib, List.drop_length]
  simp [tailT]
 | succ d ih =>
  intro i a hd h0 hi ha
  have hlt : i < fs.length := by omega
  have hdr := List.drop_eq_getElem_cons hlt
  have hvf : vF fs[i] = true := List.all_eq_true.1 hv _ (List.getElem_mem hlt)
  rw [hdr] at ha
  simp only [wt] at ha
  have hfl := fText_len hvf
  rw [i_FieldsText_L5_v1_eq, if_pos (by simp [len_eq]; omega), idx_nat, List.getElem?_eq_getElem hlt]
  simp only [Option.bind_some]
  rw [if_pos (by simp; omega), app_of (by simp; omega)]
  simp only [Option.bind_some]
  rw [i_Field_text_ok hvf (by omega)]
  simp only [Option.bind_some]
  rw [app_of (by simp; omega)]
  simp only [Option.bind_some]
  rw [w64_of (by omega) (by omega)]
  have e : (a.map ib ++ List.map (fun b => ib b) [32] ++ List.map (fun b => ib b) (fText fs[i])) = (a ++ [32] ++ fText fs[i]).map ib := by simp
  rw [e, show ((i : Int) + 1) = ((i + 1 : Nat) : Int) by omega, ih (i + 1) _ (by omega) (by omega) (by omega) (by simp; omega), hdr]
  simp [tailT]
theorem i_FieldsText_ok {fs : List TField} (h : wt fs ≤ 100000000) : i_FieldsText fs = some (if (decide (fs.length ≤ 20000) && fs.all vF) = true then fsText fs else []) := by
 have hlen := wt_len fs
 rw [i_FieldsText_eq, i_areAllF_ok (by omega)]
 by_cases hl : fs.length > 20000
 ·rw [if_pos (by simp [len_eq]; omega)]
  have : decide (fs.length ≤ 20000) = false := by simp; omega
  rw [this]; rfl
 ·rw [if_neg (by simp [len_eq]; omega)]
  have : decide (fs.length ≤ 20000) = true := by simp; omega
  rw [this]
  simp only [Option.bind_some, Bool.true_and]
  cases hv : fs.all vF with
  | false => rfl
  | true =>
   simp only [Bool.not_true, Bool.false_eq_true, if_false, if_true]
   cases fs with
   | nil => rw [i_FieldsText_L5_eq, if_neg (by simp [len_eq])]; rfl
   | cons f r =>
    have hv2 := hv
    simp only [List.all_cons, Bool.and_eq_true] at hv
    simp only [wt] at h
    have hfl := fText_len hv.1
    rw [i_FieldsText_L5_eq, if_pos (by first | (simp [len_eq]; done) | (simp [len_eq]; omega)), idx_zero]
    simp only [List.getElem?_cons_zero, Option.bind_some]
    rw [if_neg (by simp), i_Field_text_ok hv.1 (by omega)]
    simp only [Option.bind_some]
    rw [app_of (by first | omega | (simp; omega))]
    simp only [Option.bind_some, List.nil_append]
    rw [show w64 (0 + 1) = ((1 : Nat) : Int) from rfl]
    have := i_FieldsText_v1_ok (fs := f :: r) (by simp only [wt]; omega) hv2 r.length 1 (fText f) (by simp) (by omega) (by simp) (by simp only [List.drop_succ_cons, List.drop_zero]; omega)
    simpa [fsText] using this
end Go.Dv.U

namespace Go.Dv.U
open Go Go.Dv Go.Proofs
theorem parseIntS_itoa15 {n : Int} (h0 : -1000000000000000 ≤ n) (h1 : n ≤ 1000000000000000) : parseIntE (Lib.itoa n) = some (n, true) := by
 have hu : ∀ u : Nat, u ≤ 1000000000000000 → (Lib.decDigits u).length ≤ 16 ∧ Lib.parseUintB 64 (Lib.decDigits u) = .ok u := by
  intro u h
  obtain ⟨a, b, c⟩ := decd_ok 15 u (by omega)
  have hl : (Lib.decDigits u).length ≤ 16 := by rw [Lib.decDigits_length]; exact nDigits_le 15 u (by omega)
  refine ⟨hl, ?_⟩
  unfold Lib.parseUintB
  rw [if_neg c, parseM_dig _ _ 0 0 a (by decide) (by omega) (by decide), b]
 have hb : big = 68719476736 := rfl
 have key : Lib.parseIntB 64 (Lib.itoa n) = .ok n := by
  by_cases hn : n < 0
  ·have e : Lib.itoa n = 45 :: Lib.decDigits n.natAbs := by unfold Lib.itoa; rw [if_pos hn]
   obtain ⟨hl, hp⟩ := hu n.natAbs (by omega)
   rw [e]
   unfold Lib.parseIntB
   simp only [show ((45 : UInt8).toNat = 43 ∨ (45 : UInt8).toNat = 45) from by decide, if_true, hp]
   rw [if_neg (by rintro ⟨h, _⟩; exact h (by decide)), if_neg (by rintro ⟨_, h⟩; omega), if_pos (by decide)]
   congr 1
   omega
  ·have e : Lib.itoa n = Lib.decDigits n.toNat := by unfold Lib.itoa; rw [if_neg hn]
   obtain ⟨hl, hp⟩ := hu n.toNat (by omega)
   obtain ⟨ha, _, hc⟩ := decd_ok 15 n.toNat (by omega)
   rw [e]
   cases hd : Lib.decDigits n.toNat with
   | nil => exact absurd hd hc
   | cons b r =>
    rw [hd] at hp ha
    simp only [List.all_cons, Bool.and_eq_true_iff] at ha
    have h2 := ha.1
    unfold digB at h2
    simp only [Bool.and_eq_true_iff, decide_eq_true_eq] at h2
    unfold Lib.parseIntB
    simp only [show ¬ (b.toNat = 43 ∨ b.toNat = 45) from by omega, if_false, hp]
    rw [if_neg (by rintro ⟨_, h⟩; omega), if_neg (by rintro ⟨h, _⟩; omega), if_neg (by omega)]
    congr 1
    omega
 have hl := itoa_len20' h0 h1
 unfold parseIntE parseIntS parseOk
 rw [if_pos (by omega), key]
 rfl
def spB (b : UInt8) : Bool := ib b == 45 || isDig (ib b)
def spn : List UInt8 → Nat
 | [] => 0
 | b :: r => if spB b = true then spn r + 1 else 0
theorem spn_le : ∀ s, spn s ≤ s.length
 | [] => Nat.le_refl _
 | b :: r => by have := spn_le r; simp only [spn, List.length_cons]; split <;> omega
theorem spn_app : ∀ (a r : List UInt8), a.all spB = true → (∀ c q, r = c :: q → spB c = false) → spn (a ++ r) = a.length
 | [], r, _, hr => by
  cases r with
  | nil => rfl
  | cons c q => show spn (c :: q) = 0; rw [spn, if_neg (by rw [hr c q rfl]; simp)]
 | b :: a, r, h, hr => by
  simp only [List.all_cons, Bool.and_eq_true] at h
  show spn (b :: (a ++ r)) = _
  rw [spn, if_pos h.1, spn_app a r h.2 hr]; rfl
theorem i_spB_ok (b : UInt8) : i_patternReader_field_c1 (ib b) = some (spB b) := by
 rw [i_patternReader_field_c1_eq, i_isDigit_ok]
 unfold spB
 by_cases h : ib b = 45
 ·rw [if_pos (by simpa using h)]; simp [h]
 ·rw [if_neg (by simpa using h)]; simp [h]
theorem i_span_ok {s : List UInt8} (h : s.length ≤ 1000000000) : ∀ (d i : Nat), s.length - i = d → i ≤ s.length → i_span_L2__i_patternReader_field_c1 s 0 (i : Int) = some ((i + spn (s.drop i) : Nat) : Int) := by
 intro d
 induction d with
 | zero =>
  intro i hd hi
  have : i = s.length := by omega
  subst this
  rw [i_span_L2__i_patternReader_field_c1_eq, if_neg (by simp [len_eq]), w64_of (by omega) (by omega), List.drop_length]
  simp [spn]
 | succ d ih =>
  intro i hd hi
  have hlt : i < s.length := by omega
  rw [i_span_L2__i_patternReader_field_c1_eq, if_pos (by simp [len_eq]; omega), idx_nat, List.getElem?_eq_getElem hlt]
  simp only [Option.bind_some]
  rw [i_spB_ok, w64_of (n := (i : Int) + 1) (by omega) (by omega), w64_of (n := (i : Int) - 0) (by omega) (by omega), show ((i : Int) + 1) = ((i + 1 : Nat) : Int) by omega, ih (i + 1) (by omega) (by omega), List.drop_eq_getElem_cons hlt]
  simp only [Option.bind_some, spn]
  split
  ·congr 1; omega
  ·first | (congr 1; done) | (congr 1; omega)
theorem itoa_sp {n : Int} (h0 : -1000000000000000 ≤ n) (h1 : n ≤ 1000000000000000) : (Lib.itoa n).all spB = true ∧ ∃ c q, Lib.itoa n = c :: q ∧ ib c ≠ 34 := by
 have dg : ∀ u : Nat, u ≤ 1000000000000000 → (Lib.decDigits u).all spB = true ∧ ∃ c q, Lib.decDigits u = c :: q ∧ ib c ≠ 34 := by
  intro u hu
  obtain ⟨a, _, c⟩ := decd_ok 15 u (by omega)
  have hs : ∀ b : UInt8, digB b = true → spB b = true ∧ ib b ≠ 34 := fun b hb => by
   unfold digB at hb
   simp only [Bool.and_eq_true, decide_eq_true_eq] at hb
   unfold spB isDig
   rw [ib_eq]
   refine ⟨?_, by omega⟩
   have h1 : decide (48 ≤ (b.toNat : Int)) = true := by simp; omega
   have h2 : decide ((b.toNat : Int) ≤ 57) = true := by simp; omega
   rw [h1, h2]; simp
  refine ⟨List.all_eq_true.2 fun b hb => (hs b (List.all_eq_true.1 a b hb)).1, ?_⟩
  cases hd : Lib.decDigits u with
  | nil => exact absurd hd c
  | cons b q =>
   rw [hd] at a
   simp only [List.all_cons, Bool.and_eq_true] at a
   exact ⟨b, q, rfl, (hs b a.1).2⟩
 by_cases hn : n < 0
 ·have e : Lib.itoa n = 45 :: Lib.decDigits n.natAbs := by unfold Lib.itoa; rw [if_pos hn]
  rw [e]
  refine ⟨?_, 45, _, rfl, by decide⟩
  simp only [List.all_cons, Bool.and_eq_true]
  exact ⟨by decide, (dg n.natAbs (by omega)).1⟩
 ·have e : Lib.itoa n = Lib.decDigits n.toNat := by unfold Lib.itoa; rw [if_neg hn]
  rw [e]
  exact dg n.toNat (by omega)
def spR (r : List UInt8) : Prop := r = [] ∨ ∃ q, r = 32 :: q
theorem spR_34 {r : List UInt8} (h : spR r) : no34 r := by
 rcases h with rfl | ⟨q, rfl⟩
 ·trivial
 ·show ib 32 ≠ 34; decide
theorem spR_sp {r : List UInt8} (h : spR r) : ∀ c q, r = c :: q → spB c = false := by
 rcases h with rfl | ⟨q, rfl⟩
 ·intro c q h; cases h
 ·intro c q' h; cases h; decide
theorem mkF (f : TField) (b : Bool) (n : Int) (t : List UInt8) (h1 : f.fIsText = b) (h2 : f.fNum = n) (h3 : f.fText = t) : f = ⟨b, n, t⟩ := by
 obtain ⟨a, b, c⟩ := f
 simp only at h1 h2 h3
 subst h1; subst h2; subst h3; rfl
theorem i_field_ok {x : List UInt8} (n : Int) (h : x.length ≤ 100000000) : ∃ f ok rest, i_patternReader_field x n = some ((f, ok), ((rest, n, ()), ())) ∧ f.fText.length + rest.length ≤ x.length ∧
    ∀ g r, vF g = true → spR r → x = fText g ++ r → f = g ∧ ok = true ∧ rest = r := by
  rw [i_patternReader_field_eq, strings_HasPrefix_eq, hasPre1 x 34 (by omega)]
  simp only [Option.bind_some]
  have lit : ∀ l, x = 34 :: l → ∃ f ok rest, ((i_patternReader_literal x n).bind fun r198 => some (((TField.mk true (Int.ofNat 0) (Prod.fst (Prod.fst r198))), (Prod.snd (Prod.fst r198))), (((Prod.fst (Prod.fst (Prod.snd r198))), (Prod.fst (Prod.snd (Prod.fst (Prod.snd r198)))), ()), ()))) = some ((f, ok), ((rest, n, ()), ())) ∧ f.fText.length + rest.length ≤ x.length ∧
      ∀ g r, vF g = true → spR r → x = fText g ++ r → f = g ∧ ok = true ∧ rest = r := by
    intro l hx
    subst hx
    simp only [List.length_cons] at h
    have txt : ∀ g r, vF g = true → spR r → 34 :: l = fText g ++ r → g = ⟨true, 0, g.fText⟩ ∧ litR l = some (g.fText, r) := by
      intro g r hg hr e
      unfold vF at hg
      unfold fText at e
      by_cases hb : g.fIsText = true
      · rw [if_pos hb] at hg e
        have hn : g.fNum = 0 := by simpa using hg
        have e2 : l = dbl g.fText ++ 34 :: r := by
          simp only [qtext, List.cons_append, List.cons.injEq, true_and] at e
          rw [e]; simp
        exact ⟨mkF g _ _ _ hb hn rfl, by rw [e2]; exact litR_dbl _ _ (spR_34 hr)⟩
      · rw [if_neg hb] at hg e
        simp only [Bool.and_eq_true, decide_eq_true_eq] at hg
        obtain ⟨_, c, q, e3, e4⟩ := itoa_sp hg.1.1 hg.1.2
        rw [e3] at e
        have := (List.cons.inj e).1
        rw [← this] at e4
        exact (e4 (by decide)).elim
    rcases i_literal_ok (l := l) n (by omega) with ⟨t, r, h1, h2⟩ | ⟨h1, r, h2, h3⟩
    · rw [h2]
      have := litR_len h1
      refine ⟨_, _, _, rfl, by simp; omega, fun g r' hg hr e => ?_⟩
      obtain ⟨k1, k2⟩ := txt g r' hg hr e
      rw [h1] at k2
      cases k2
      exact ⟨k1.symm, rfl, rfl⟩
    · rw [h3]
      refine ⟨_, _, _, rfl, by simp; omega, fun g r' hg hr e => ?_⟩
      obtain ⟨k1, k2⟩ := txt g r' hg hr e
      rw [h1] at k2; cases k2
  have num : (∀ l, x ≠ 34 :: l) → ∃ f ok rest, ((i_span__i_patternReader_field_c1 x 0).bind fun r198 => (cut x 0 (Option.getD (Option.some r198) (len x)) : Option (List UInt8)).bind fun y197 => (parseIntE y197 : Option (Int × Bool)).bind fun y196 => (cut x r198 (Option.getD Option.none (len x)) : Option (List UInt8)).bind fun y195 => some (((TField.mk false (Prod.fst y196) []), (Prod.snd y196)), (((y195), (n), ()), ()))) = some ((f, ok), ((rest, n, ()), ())) ∧ f.fText.length + rest.length ≤ x.length ∧
      ∀ g r, vF g = true → spR r → x = fText g ++ r → f = g ∧ ok = true ∧ rest = r := by
    intro hx
    have hs := i_span_ok (s := x) (by omega) x.length 0 rfl (Nat.zero_le _)
    have hsp := spn_le x
    rw [Int.natCast_zero] at hs
    have c0 : cut x 0 ((spn x : Nat) : Int) = some (x.take (spn x)) := by
      rw [show (0 : Int) = ((0 : Nat) : Int) from rfl, cut_of (by omega) (by omega)]; simp
    have c1 : cut x ((spn x : Nat) : Int) (len x) = some (x.drop (spn x)) := by
      rw [len_eq, cut_of (by omega) (Nat.le_refl _)]; simp
    rw [i_span__i_patternReader_field_c1_eq, hs]
    simp only [Option.bind_some, Option.getD_some, Option.getD_none, List.drop_zero, Nat.zero_add]
    rw [c0, c1]
    simp only [Option.bind_some]
    obtain ⟨p, hp⟩ := parseIntE_some (s := x.take (spn x)) (by simp; omega)
    rw [hp]
    refine ⟨_, _, _, rfl, by simp, fun g r hg hr e => ?_⟩
    unfold vF at hg
    unfold fText at e
    by_cases hb : g.fIsText = true
    · rw [if_pos hb] at e
      exact (hx _ e).elim
    · rw [if_neg hb] at hg e
      simp only [Bool.and_eq_true, decide_eq_true_eq] at hg
      obtain ⟨k1, _⟩ := itoa_sp hg.1.1 hg.1.2
      have hsn : spn x = (Lib.itoa g.fNum).length := by rw [e]; exact spn_app _ _ k1 (spR_sp hr)
      rw [hsn, e, List.take_left, parseIntS_itoa15 hg.1.1 hg.1.2] at hp
      cases hp
      rw [hsn, e, List.drop_left]
      exact ⟨(mkF g false _ [] (by simpa using hb) rfl (by simpa using hg.2)).symm, rfl, rfl⟩
  cases x with
  | nil => exact num (fun l h => by cases h)
  | cons b l =>
    simp only
    by_cases hb : b = 34
    · subst hb
      rw [if_pos (by simp)]
      exact lit l rfl
    · rw [if_neg (by simpa using hb)]
      exact num (fun l' h => hb (List.cons.inj h).1)
def FT (fs : List TField) : List UInt8 := if (decide (fs.length ≤ 20000) && fs.all vF) = true then fsText fs else []
theorem i_ReadFields_end (s0 x : List UInt8) (n : Int) (acc : List TField) (h : wt acc ≤ 100000000) : i_ReadFields_L5 s0 false x n acc = some (if x = [] ∧ FT acc = s0 then ((acc, ()), (true, ()), ()) else (([], ()), (false, ()), ())) := by
 rw [i_ReadFields_L5_eq, if_neg (by simp), i_FieldsText_ok h]
 by_cases hx : x = []
 ·rw [if_neg (by simpa using hx)]
  simp only [Option.bind_some]
  have e : (if (decide (acc.length ≤ 20000) && acc.all vF) = true then fsText acc else []) = FT acc := rfl
  rw [e]
  by_cases hf : FT acc = s0
  ·rw [if_neg (by simpa using hf), if_pos ⟨hx, hf⟩]
  ·rw [if_pos (by simpa using hf), if_neg (fun h => hf h.2)]
 ·rw [if_pos (by simpa using hx), if_neg (fun h => hx h.1)]
theorem i_ReadFields_L5_tot (s0 : List UInt8) (n : Int) : ∀ (k : Nat) (x : List UInt8) (acc : List TField), x.length ≤ k → wt acc + x.length ≤ 50000000 → acc.length ≤ 20000 →
  ∃ fs ok, i_ReadFields_L5 s0 true x n acc = some ((fs, ()), (ok, ()), ()) ∧ (ok = true → FT fs = s0) ∧ (ok = false → fs = []) := by
 intro k
 induction k with
 | zero =>
  intro x acc hk hw hl
  have : x = [] := List.eq_nil_of_length_eq_zero (by omega)
  subst this
  obtain ⟨f, ok, rest, h1, h2, _⟩ := i_field_ok (x := []) n (by simp)
  rw [i_ReadFields_L5_eq, if_pos rfl, h1]
  simp only [Option.bind_some]
  cases ok with
  | false => exact ⟨[], false, rfl, fun h => (by cases h), fun _ => rfl⟩
  | true =>
   simp only [List.length_nil] at h2
   have hr : rest = [] := List.eq_nil_of_length_eq_zero (by omega)
   have hwl := wt_len acc
   simp only [Bool.not_true, Bool.false_eq_true, if_false]
   split
   ·exact ⟨[], false, rfl, fun h => (by cases h), fun _ => rfl⟩
   ·rw [app_of (by simp; omega)]
    simp only [Option.bind_some]
    rw [hr, i_has_ok 32 [] n (by simp)]
    simp only [Option.bind_some]
    rw [i_ReadFields_end _ _ _ _ (by rw [wt_app]; simp [wt]; omega)]
    split
    ·rename_i hc; exact ⟨_, true, rfl, fun _ => hc.2, fun h => (by cases h)⟩
    ·exact ⟨[], false, rfl, fun h => (by cases h), fun _ => rfl⟩
 | succ k ih =>
  intro x acc hk hw hl
  obtain ⟨f, ok, rest, h1, h2, _⟩ := i_field_ok (x := x) n (by omega)
  rw [i_ReadFields_L5_eq, if_pos rfl, h1]
  simp only [Option.bind_some]
  have hwl := wt_len acc
  cases ok with
  | false => exact ⟨[], false, rfl, fun h => (by cases h), fun _ => rfl⟩
  | true =>
   simp only [Bool.not_true, Bool.false_eq_true, if_false]
   split
   ·exact ⟨[], false, rfl, fun h => (by cases h), fun _ => rfl⟩
   ·rename_i hne
    have hne : ¬ acc.length = 20000 := by
     intro e; apply hne; rw [len_eq, e]; rfl
    rw [app_of (by simp; omega)]
    simp only [Option.bind_some]
    rw [i_has_ok 32 rest n (by omega)]
    have stop : ∀ y : List UInt8, ∃ fs ok, i_ReadFields_L5 s0 false y n (acc ++ [f]) = some ((fs, ()), (ok, ()), ()) ∧ (ok = true → FT fs = s0) ∧ (ok = false → fs = []) := by
     intro y
     rw [i_ReadFields_end _ _ _ _ (by rw [wt_app]; simp only [wt]; omega)]
     split
     ·rename_i hc; exact ⟨_, true, rfl, fun _ => hc.2, fun h => (by cases h)⟩
     ·exact ⟨[], false, rfl, fun h => (by cases h), fun _ => rfl⟩
    cases rest with
    | nil => simp only [Option.bind_some]; exact stop []
    | cons c q =>
     simp only [Option.bind_some]
     simp only [List.length_cons] at h2
     by_cases hc : c = 32
     ·rw [if_pos hc]
      simp only
      exact ih q (acc ++ [f]) (by omega) (by rw [wt_app]; simp only [wt]; omega) (by simp; omega)
     ·rw [if_neg hc]
      simp only
      exact stop (c :: q)
theorem i_ReadFields_L5_run (s0 : List UInt8) (n : Int) : ∀ (fs : List TField) (f : TField) (acc : List TField), vF f = true → fs.all vF = true → (fsText (f :: fs)).length ≤ 100000000 → acc.length + (fs.length + 1) ≤ 20000 →
  i_ReadFields_L5 s0 true (fsText (f :: fs)) n acc = i_ReadFields_L5 s0 false [] n (acc ++ f :: fs) := by
 intro fs
 induction fs with
 | nil =>
  intro f acc hf _ hl hn
  obtain ⟨g, ok, rest, h1, _, h3⟩ := i_field_ok (x := fsText [f]) n hl
  obtain ⟨rfl, rfl, rfl⟩ := h3 f [] hf (.inl rfl) rfl
  rw [i_ReadFields_L5_eq, if_pos rfl, h1]
  simp only [Option.bind_some, Bool.not_true, Bool.false_eq_true, if_false]
  rw [if_neg (by rw [len_eq]; simp; omega), app_of (by simp; omega)]
  simp only [Option.bind_some]
  rw [i_has_ok 32 [] n (by simp)]
  simp only [Option.bind_some]
 | cons f2 fs ih =>
  intro f acc hf hfs hl hn
  simp only [List.all_cons, Bool.and_eq_true] at hfs
  have e : fsText (f :: f2 :: fs) = fText f ++ 32 :: fsText (f2 :: fs) := rfl
  have hl2 : (fsText (f2 :: fs)).length ≤ 100000000 := by
   rw [e] at hl; simp only [List.length_append, List.length_cons] at hl; omega
  obtain ⟨g, ok, rest, h1, _, h3⟩ := i_field_ok (x := fsText (f :: f2 :: fs)) n hl
  obtain ⟨rfl, rfl, rfl⟩ := h3 f (32 :: fsText (f2 :: fs)) hf (.inr ⟨_, rfl⟩) e
  rw [i_ReadFields_L5_eq, if_pos rfl, h1]
  simp only [Option.bind_some, Bool.not_true, Bool.false_eq_true, if_false]
  simp only [List.length_cons] at hn
  rw [if_neg (by rw [len_eq]; simp; omega), app_of (by simp; omega)]
  simp only [Option.bind_some]
  rw [i_has_ok 32 _ n (by simp; omega)]
  simp only [if_true, Option.bind_some]
  rw [ih f2 (acc ++ [g]) hfs.1 hfs.2 hl2 (by simp; omega)]
  simp
theorem fText_ne {f : TField} (h : vF f = true) : fText f ≠ [] := by
 unfold vF at h
 unfold fText
 split
 ·simp [qtext]
 ·rename_i hf
  rw [if_neg hf] at h
  simp only [Bool.and_eq_true, decide_eq_true_eq] at h
  obtain ⟨_, c, q, e, _⟩ := itoa_sp h.1.1 h.1.2
  rw [e]; simp
def FsOk (s : List UInt8) (fs : List TField) : Prop := fs.length ≤ 20000 ∧ fs.all vF = true ∧ fsText fs = s
theorem wt_text : ∀ {fs : List TField}, fs.all vF = true → wt fs ≤ (tailT fs).length
  | [], _ => Nat.le_refl _
  | f :: r, h => by
    simp only [List.all_cons, Bool.and_eq_true] at h
    have h2 := wt_text h.2
    have h1 : f.fText.length ≤ (fText f).length := by
      have hv := h.1
      unfold vF at hv
      unfold fText
      split
      · have : ∀ t : List UInt8, t.length ≤ (dbl t).length := by
          intro t
          induction t with
          | nil => simp [dbl]
          | cons b t ih => simp only [dbl]; split <;> simp <;> omega
        have := this f.fText
        simp [qtext]; omega
      · rename_i hf
        rw [if_neg hf] at hv
        simp only [Bool.and_eq_true] at hv
        have : f.fText = [] := by simpa using hv.2
        rw [this]; simp
    simp only [wt, tailT, List.length_cons, List.length_append]
    omega
theorem i_ReadFields_ok {s : List UInt8} (h : s.length ≤ 1048576) : ∃ fs ok, i_ReadFields s = some ((fs, ()), (ok, ()), ()) ∧ (ok = true → FsOk s fs) ∧ (ok = false → fs = []) ∧ ∀ gs, FsOk s gs → fs = gs ∧ ok = true := by
 rw [i_ReadFields_eq]
 have ne : ∀ f fs, vF f = true → fsText (f :: fs) ≠ [] := fun f fs hf e => fText_ne hf (List.append_eq_nil_iff.1 e).1
 by_cases hs : s = []
 ·subst hs
  rw [if_pos (by simp)]
  refine ⟨[], true, rfl, fun _ => ⟨by simp, rfl, rfl⟩, fun h => (by cases h), fun gs hg => ?_⟩
  obtain ⟨h1, h2, h3⟩ := hg
  cases gs with
  | nil => exact ⟨rfl, rfl⟩
  | cons f r =>
   simp only [List.all_cons, Bool.and_eq_true] at h2
   exact (ne f r h2.1 h3).elim
 ·rw [if_neg (by simpa using hs)]
  obtain ⟨fs, ok, h1, h2, h3⟩ := i_ReadFields_L5_tot s 0 s.length s [] (Nat.le_refl _) (by simp [wt]; omega) (by simp)
  refine ⟨fs, ok, h1, fun hk => ?_, h3, fun gs hg => ?_⟩
  ·have := h2 hk
   unfold FT at this
   split at this
   ·rename_i hc
    simp only [Bool.and_eq_true, decide_eq_true_eq] at hc
    exact ⟨hc.1, hc.2, this⟩
   ·exact (hs this.symm).elim
  ·obtain ⟨g1, g2, g3⟩ := hg
   cases gs with
   | nil => exact (hs g3.symm).elim
   | cons f r =>
    have g2' := g2
    simp only [List.all_cons, Bool.and_eq_true] at g2
    have := i_ReadFields_L5_run s 0 r f [] g2.1 g2.2 (by rw [g3]; omega) (by simpa using g1)
    rw [g3] at this
    have hw := wt_text g2'
    rw [tailT_cons, List.length_cons, g3] at hw
    rw [this, List.nil_append, i_ReadFields_end _ _ _ _ (by omega)] at h1
    have hft : FT (f :: r) = s := by
     unfold FT
     rw [if_pos (by simp only [Bool.and_eq_true, decide_eq_true_eq]; exact ⟨g1, g2'⟩)]
     exact g3
    rw [if_pos ⟨rfl, hft⟩] at h1
    cases h1
    exact ⟨rfl, rfl⟩
end Go.Dv.U

namespace Go.Dv.U
open Go Go.Dv Go.Proofs
theorem litR_cons {b : UInt8} (h : ib b ≠ 34) : ∀ l, litR (b :: l) = (litR l).map fun p => (b :: p.1, p.2)
 | [] => by simp only [litR]; rw [if_neg h]; rfl
 | c :: r => by rw [litR, if_neg h]
def litE (x acc : List UInt8) (o : Option (List UInt8 × List UInt8)) : List UInt8 × Int := match o with
 | some (t, r) => (acc ++ t, (x.length : Int) - (r.length : Int))
 | none => ([], -1)
theorem map_ib (acc : List UInt8) : List.map (fun n : Int => UInt8.ofNat (Int.toNat n)) (acc.map ib) = acc := by
 rw [List.map_map]
 have : (fun n : Int => UInt8.ofNat (Int.toNat n)) ∘ ib = id := by
  funext b
  simp [ib_eq]
 rw [this, List.map_id]
theorem s_l26Literal_L3_ok {x : List UInt8} (h : x.length ≤ 100000000) : ∀ (d i : Nat) (acc : List UInt8), x.length - i ≤ d → i ≤ x.length → acc.length ≤ i → s_l26Literal_L3 x (i : Int) (acc.map ib) = some (litE x acc (litR (x.drop i))) := by
 intro d
 induction d using Nat.strongRecOn with
 | _ d ih =>
  intro i acc hd hi ha
  by_cases hlt : i < x.length
  ·have hdr := List.drop_eq_getElem_cons hlt
   rw [s_l26Literal_L3_eq, if_pos (by rw [len_eq]; simp; omega), idx_nat, List.getElem?_eq_getElem hlt]
   simp only [Option.bind_some]
   rw [w64_of (by omega) (by omega), show ((i : Int) + 1) = ((i + 1 : Nat) : Int) by omega]
   have L9 : ∀ (j : Nat) (hj : j < x.length), i ≤ j → j ≤ i + 1 → s_l26Literal_L9 x (j : Int) (acc.map ib) = some (litE x (acc ++ [x[j]]) (litR (x.drop (j + 1)))) := by
    intro j hj h1 h2
    rw [s_l26Literal_L9_eq, idx_nat, List.getElem?_eq_getElem hj]
    simp only [Option.bind_some]
    rw [app_of (by simp; omega)]
    simp only [Option.bind_some]
    rw [w64_of (by omega) (by omega), show ((j : Int) + 1) = ((j + 1 : Nat) : Int) by omega]
    have e : (acc.map ib ++ [ib x[j]]) = (acc ++ [x[j]]).map ib := by simp
    rw [e]
    exact ih (d - 1) (by omega) (j + 1) (acc ++ [x[j]]) (by omega) (by omega) (by simp; omega)
   by_cases h34 : ib x[i] = 34
   ·rw [if_pos (by simpa using h34)]
    by_cases hl1 : i + 1 < x.length
    ·have hdr1 := List.drop_eq_getElem_cons hl1
     rw [if_neg (by rw [len_eq]; simp; omega), idx_nat, List.getElem?_eq_getElem hl1]
     simp only [Option.bind_some]
     rw [hdr, hdr1, litR, if_pos h34]
     by_cases h34b : ib x[i + 1] = 34
     ·rw [if_neg (by simpa using h34b), if_pos h34b, L9 (i + 1) hl1 (by omega) (by omega)]
      have e2 : x[i + 1] = 34 := ib_inj.1 (h34b.trans (by decide))
      rw [e2]
      cases litR (x.drop (i + 1 + 1)) with
      | none => rfl
      | some p => simp [litE]
     ·rw [if_pos (by simpa using h34b), if_neg h34b, map_ib]
      simp only [litE, List.append_nil, List.length_cons, List.length_drop]
      congr 2
      omega
    ·rw [if_pos (by rw [len_eq]; simp; omega), map_ib]
     have : x.drop (i + 1) = [] := List.drop_eq_nil_of_le (by omega)
     rw [hdr, this, litR, if_pos h34]
     simp only [litE, List.append_nil, List.length_nil]
     congr 2
     omega
   ·rw [if_neg (by simpa using h34), L9 i hlt (Nat.le_refl _) (by omega), hdr, litR_cons h34]
    cases litR (x.drop (i + 1)) with
    | none => rfl
    | some p => simp [litE]
  ·have : i = x.length := by omega
   subst this
   rw [s_l26Literal_L3_eq, if_neg (by rw [len_eq]; simp), List.drop_length]
   rfl
theorem s_l26Literal_ok {x : List UInt8} (h : x.length ≤ 100000000) {i : Nat} (hi : i < x.length) : s_l26Literal x (i : Int) = some (litE x [] (litR (x.drop (i + 1)))) := by
 rw [s_l26Literal_eq, w64_of (by omega) (by omega), show ((i : Int) + 1) = ((i + 1 : Nat) : Int) by omega]
 have := s_l26Literal_L3_ok h (x.length - (i + 1)) (i + 1) [] (Nat.le_refl _) (by omega) (by simp)
 simpa using this
def spE : Nat → List UInt8 → Nat
 | 0, _ => 0
 | _ + 1, [] => 0
 | k + 1, b :: r => if ib b = 32 then 0 else spE k r + 1
theorem spE_le : ∀ (k : Nat) (l : List UInt8), spE k l ≤ l.length ∧ spE k l ≤ k
 | 0, l => ⟨Nat.zero_le _, Nat.le_refl _⟩
 | k + 1, [] => ⟨Nat.le_refl _, Nat.zero_le _⟩
 | k + 1, b :: r => by
  have := spE_le k r
  simp only [spE, List.length_cons]
  split <;> omega
theorem spE_app : ∀ (k : Nat) (a r : List UInt8), (∀ b ∈ a, ib b ≠ 32) → spR r → a.length ≤ k → spE k (a ++ r) = a.length
 | 0, [], r, _, _, _ => rfl
 | 0, b :: a, r, _, _, h => by simp at h
 | k + 1, [], r, _, hr, _ => by
  rcases hr with rfl | ⟨q, rfl⟩
  ·rfl
  ·show spE (k + 1) (32 :: q) = 0; rw [spE, if_pos (by decide)]
 | k + 1, b :: a, r, h, hr, hk => by
  show spE (k + 1) (b :: (a ++ r)) = _
  rw [spE, if_neg (h b (by simp)), spE_app k a r (fun c hc => h c (by simp [hc])) hr (by simpa using hk)]; rfl
theorem s_l26Number_L2_ok {x : List UInt8} (h : x.length ≤ 100000000) (at_ : Nat) : ∀ (k j : Nat), j + k = 18 → at_ + j ≤ x.length → s_l26Number_L2 x (at_ : Int) ((at_ + j : Nat) : Int) = s_l26Number_L4 x (at_ : Int) ((at_ + j + spE k (x.drop (at_ + j)) : Nat) : Int) := by
 intro k
 induction k with
 | zero =>
  intro j hj hl
  rw [s_l26Number_L2_eq]
  simp only [spE, Nat.add_zero]
  by_cases hlt : at_ + j < x.length
  ·rw [if_pos (by rw [len_eq]; simp; omega), idx_nat, List.getElem?_eq_getElem hlt]
   simp only [Option.bind_some]
   rw [w64_of (by omega) (by omega)]
   split
   ·rw [if_neg (by simp; omega)]
   ·rfl
  ·rw [if_neg (by rw [len_eq]; simp; omega)]
 | succ k ih =>
  intro j hj hl
  rw [s_l26Number_L2_eq]
  by_cases hlt : at_ + j < x.length
  ·rw [if_pos (by rw [len_eq]; simp; omega), idx_nat, List.getElem?_eq_getElem hlt]
   simp only [Option.bind_some]
   rw [List.drop_eq_getElem_cons hlt, spE, w64_of (by omega) (by omega)]
   by_cases h32 : ib x[at_ + j] = 32
   ·rw [if_neg (by simpa using h32), if_pos h32]; rfl
   ·rw [if_pos (by simpa using h32), if_neg h32, if_pos (by simp; omega), s_l26Number_L3_eq, w64_of (by omega) (by omega)]
    have := ih (j + 1) (by omega) (by omega)
    rw [show (((at_ + j : Nat) : Int) + 1) = ((at_ + (j + 1) : Nat) : Int) by omega, this]
    congr 2
    rw [show at_ + j + 1 = at_ + (j + 1) by omega]
    omega
  ·rw [if_neg (by rw [len_eq]; simp; omega)]
   have : x.drop (at_ + j) = [] := List.drop_eq_nil_of_le (by omega)
   rw [this]; rfl
def numOut (x : List UInt8) (at_ e : Nat) (o : Int × Int) : Prop := o.2 = -1 ∨ (o.2 = (e : Int) ∧ (x.take e).drop at_ = Lib.itoa o.1 ∧ -1000000000000000 ≤ o.1 ∧ o.1 ≤ 1000000000000000)
theorem s_l26Number_end {x : List UInt8} {at_ e f : Nat} (h1 : at_ ≤ e) (h2 : e ≤ x.length) (h : x.length ≤ 100000000) (hf : at_ ≤ f) {n : Int} (hn : -9223372036854775808 ≤ n ∧ n ≤ 9223372036854775807) {i : Int} (hi : ¬ i < (e : Int)) :
    ∃ o, s_l26Number_L9 x (at_ : Int) (e : Int) (f : Int) n i = some o ∧ numOut x at_ e o ∧
      (f ≠ e → ∀ m, m = (if at_ < f then w64 (0 - n) else n) → (x.take e).drop at_ = Lib.itoa m → -1000000000000000 ≤ m → m ≤ 1000000000000000 → o = (m, (e : Int))) := by
  have hc : cut x (at_ : Int) (Option.getD (some (e : Int)) (len x)) = some ((x.take e).drop at_) := by
    rw [Option.getD_some]; exact cut_of h1 h2
  have hw := w64_rng (0 - n)
  rw [s_l26Number_L9_eq, if_neg (by simpa using hi), hc, s_l06Digits_ok hn.1 hn.2, s_l06Digits_ok hw.1 hw.2]
  simp only [Option.bind_some, s_l00In_ok, s_l26Number_L17_eq, s_l26Number_L18_eq]
  have fin : ∀ v : Int, ∃ o, (if ((f : Int) == (e : Int)) = true then some ((0 : Int), (-1 : Int)) else if (!Lib.itoa v == (x.take e).drop at_) = true then some (0, -1) else if (!(decide (-1000000000000000 ≤ v) && decide (v ≤ 1000000000000000))) = true then some (0, -1) else some (v, (e : Int))) = some o ∧ numOut x at_ e o ∧
      (f ≠ e → (x.take e).drop at_ = Lib.itoa v → -1000000000000000 ≤ v → v ≤ 1000000000000000 → o = (v, (e : Int))) := by
    intro v
    by_cases hfe : f = e
    · rw [if_pos (by simp [hfe])]
      exact ⟨_, rfl, .inl rfl, fun h => (h hfe).elim⟩
    · rw [if_neg (by simp; omega)]
      by_cases ht : Lib.itoa v = (x.take e).drop at_
      · rw [if_neg (by simpa using ht)]
        by_cases hb : -1000000000000000 ≤ v ∧ v ≤ 1000000000000000
        · rw [if_neg (by simpa using hb)]
          exact ⟨_, rfl, .inr ⟨rfl, ht.symm, hb.1, hb.2⟩, fun _ _ _ _ => rfl⟩
        · rw [if_pos (by simp; omega)]
          exact ⟨_, rfl, .inl rfl, fun _ _ h1 h2 => (hb ⟨h1, h2⟩).elim⟩
      · rw [if_pos (by simpa using ht)]
        exact ⟨_, rfl, .inl rfl, fun _ h => (ht h.symm).elim⟩
  by_cases hlt : at_ < f
  · rw [if_pos (by simp; omega)]
    obtain ⟨o, k1, k2, k3⟩ := fin (w64 (0 - n))
    refine ⟨o, k1, k2, fun hne m hm => ?_⟩
    rw [if_pos hlt] at hm
    subst hm
    exact k3 hne
  · rw [if_neg (by simp; omega)]
    obtain ⟨o, k1, k2, k3⟩ := fin n
    refine ⟨o, k1, k2, fun hne m hm => ?_⟩
    rw [if_neg hlt] at hm
    subst hm
    exact k3 hne
theorem s_l26Number_L9_tot {x : List UInt8} {at_ e f : Nat} (h1 : at_ ≤ e) (h2 : e ≤ x.length) (h : x.length ≤ 100000000) (hf : at_ ≤ f) : ∀ (d i : Nat) (n : Int), e - i = d → -9223372036854775808 ≤ n ∧ n ≤ 9223372036854775807 →
  ∃ o, s_l26Number_L9 x (at_ : Int) (e : Int) (f : Int) n (i : Int) = some o ∧ numOut x at_ e o := by
 intro d
 induction d with
 | zero =>
  intro i n hd hn
  obtain ⟨o, k1, k2, _⟩ := s_l26Number_end h1 h2 h hf hn (i := (i : Int)) (by omega)
  exact ⟨o, k1, k2⟩
 | succ d ih =>
  intro i n hd hn
  have hlt : i < x.length := by omega
  rw [s_l26Number_L9_eq, if_pos (by simp; omega), idx_nat, List.getElem?_eq_getElem hlt]
  simp only [Option.bind_some]
  split
  ·exact ⟨_, rfl, .inl rfl⟩
  split
  ·exact ⟨_, rfl, .inl rfl⟩
  rw [w64_of (n := (i : Int) + 1) (by omega) (by omega), show ((i : Int) + 1) = ((i + 1 : Nat) : Int) by omega]
  exact ih (i + 1) _ (by omega) (w64_rng _)
theorem s_l26Number_L9_dig {x : List UInt8} {at_ e f : Nat} (h2 : e ≤ x.length) (h : x.length ≤ 100000000) : ∀ (l : List UInt8) (i acc k : Nat), (x.take e).drop i = l → l.all digB = true → acc < 10 ^ k → l.length + k ≤ 17 → i ≤ e →
  s_l26Number_L9 x (at_ : Int) (e : Int) (f : Int) (acc : Int) (i : Int) = s_l26Number_L9 x (at_ : Int) (e : Int) (f : Int) ((numD l acc : Nat) : Int) (e : Int) := by
 intro l
 induction l with
 | nil =>
  intro i acc k hl _ _ _ hi
  have : i = e := by
   have := congrArg List.length hl
   simp at this; omega
  subst this; rfl
 | cons b l ih =>
  intro i acc k hl hall hacc hk hi
  have hie : i < e := by
   rcases Nat.lt_or_ge i e with h | h
   ·exact h
   ·have : (x.take e).drop i = [] := List.drop_eq_nil_of_le (by simp; omega)
    rw [this] at hl; cases hl
  have hlt : i < x.length := by omega
  have hb : x[i] = b ∧ (x.take e).drop (i + 1) = l := by
   have hlt2 : i < (x.take e).length := by simp; omega
   rw [List.drop_eq_getElem_cons hlt2] at hl
   obtain ⟨q1, q2⟩ := List.cons.inj hl
   exact ⟨by rw [← q1]; simp, q2⟩
  simp only [List.all_cons, Bool.and_eq_true] at hall
  have hdg := hall.1
  unfold digB at hdg
  simp only [Bool.and_eq_true_iff, decide_eq_true_eq] at hdg
  simp only [List.length_cons] at hk
  have hp : 10 ^ (k + 1) ≤ 10 ^ 17 := Nat.pow_le_pow_right (by decide) (by omega)
  have hs : 10 ^ (k + 1) = 10 ^ k * 10 := Nat.pow_succ _ _
  rw [s_l26Number_L9_eq, if_pos (by simp; omega), idx_nat, List.getElem?_eq_getElem hlt, hb.1]
  simp only [Option.bind_some]
  have hib := ib_eq b
  rw [if_neg (by rw [hib]; simp; omega), if_neg (by rw [hib]; simp; omega), wrap_u8 (by rw [hib]; omega) (by rw [hib]; omega), w64_of (n := ib b - 48) (by rw [hib]; omega) (by rw [hib]; omega), w64_of (n := 10 * (acc : Int)) (by omega) (by omega), w64_of (by rw [hib]; omega) (by rw [hib]; omega), w64_of (n := (i : Int) + 1) (by omega) (by omega)]
  have e1 : 10 * (acc : Int) + (ib b - 48) = ((acc * 10 + (b.toNat - 48) : Nat) : Int) := by rw [hib]; omega
  rw [e1, show ((i : Int) + 1) = ((i + 1 : Nat) : Int) by omega, ih (i + 1) _ (k + 1) hb.2 hall.2 (by omega) (by omega) (by omega)]
  rfl
theorem itoa_no32b {n : Int} (h0 : -1000000000000000 ≤ n) (h1 : n ≤ 1000000000000000) : ∀ b ∈ Lib.itoa n, ib b ≠ 32 := by
 obtain ⟨h, _⟩ := itoa_sp h0 h1
 intro b hb e
 have := List.all_eq_true.1 h b hb
 unfold spB isDig at this
 rw [e] at this
 cases this
theorem s_l26Number_ok {x : List UInt8} (h : x.length ≤ 100000000) {at_ : Nat} (ha : at_ < x.length) : ∃ o, s_l26Number x (at_ : Int) = some o ∧ (∃ e, at_ ≤ e ∧ e ≤ x.length ∧ numOut x at_ e o) ∧
  ∀ m r, -1000000000000000 ≤ m → m ≤ 1000000000000000 → spR r → x.drop at_ = Lib.itoa m ++ r → o = (m, ((at_ + (Lib.itoa m).length : Nat) : Int)) := by
 have hE := spE_le 18 (x.drop at_)
 have hL2 := s_l26Number_L2_ok h at_ 18 0 rfl (by omega)
 simp only [Nat.add_zero] at hL2
 rw [s_l26Number_eq, hL2]
 generalize hk : spE 18 (x.drop at_) = k at hE
 have hkl : at_ + k ≤ x.length := by have := hE.1; simp at this; omega
 have comp : ∀ m r, -1000000000000000 ≤ m → m ≤ 1000000000000000 → spR r → x.drop at_ = Lib.itoa m ++ r → k = (Lib.itoa m).length ∧ (x.take (at_ + k)).drop at_ = Lib.itoa m := by
  intro m r h0 h1 hr e
  have hl : (Lib.itoa m).length ≤ 18 := by
   by_cases hm : m < 0
   ·have ei : Lib.itoa m = 45 :: Lib.decDigits m.natAbs := by unfold Lib.itoa; rw [if_pos hm]
    rw [ei, List.length_cons, Lib.decDigits_length]
    have := nDigits_le 15 m.natAbs (by omega)
    omega
   ·have ei : Lib.itoa m = Lib.decDigits m.toNat := by unfold Lib.itoa; rw [if_neg hm]
    rw [ei, Lib.decDigits_length]
    have := nDigits_le 15 m.toNat (by omega)
    omega
  have hk2 : k = (Lib.itoa m).length := by rw [← hk, e]; exact spE_app 18 _ _ (itoa_no32b h0 h1) hr hl
  refine ⟨hk2, ?_⟩
  rw [List.drop_take, Nat.add_sub_cancel_left, e, hk2, List.take_left]
 rw [s_l26Number_L4_eq]
 by_cases hk0 : k = 0
 ·subst hk0
  rw [if_neg (by simp)]
  rw [s_l26Number_L7_eq]
  obtain ⟨o, k1, k2⟩ := s_l26Number_L9_tot (x := x) (at_ := at_) (e := at_ + 0) (f := at_) (Nat.le_refl _) hkl h (Nat.le_refl _) _ at_ 0 rfl (by omega)
  refine ⟨o, k1, ⟨at_, Nat.le_refl _, by omega, by simpa using k2⟩, fun m r h0 h1 hr e => ?_⟩
  obtain ⟨q, _⟩ := comp m r h0 h1 hr e
  obtain ⟨_, c, q', e', _⟩ := itoa_sp h0 h1
  rw [e'] at q; simp at q
 ·rw [if_pos (by simp; omega), idx_nat, List.getElem?_eq_getElem ha]
  simp only [Option.bind_some]
  by_cases h45 : ib x[at_] = 45
  ·rw [if_pos (by simpa using h45), s_l26Number_L7_eq, w64_of (by omega) (by omega), show ((at_ : Int) + 1) = ((at_ + 1 : Nat) : Int) by omega]
   obtain ⟨o, k1, k2⟩ := s_l26Number_L9_tot (x := x) (at_ := at_) (e := at_ + k) (f := at_ + 1) (by omega) hkl h (by omega) _ (at_ + 1) 0 rfl (by omega)
   refine ⟨o, k1, ⟨at_ + k, by omega, hkl, k2⟩, fun m r h0 h1 hr e => ?_⟩
   obtain ⟨q1, q2⟩ := comp m r h0 h1 hr e
   have hm : m < 0 := by
    obtain ⟨_, c, q', e', _⟩ := itoa_sp h0 h1
    rw [List.drop_eq_getElem_cons ha, e'] at e
    have hc : x[at_] = c := (List.cons.inj e).1
    rcases Int.lt_or_le m 0 with h | h
    ·exact h
    ·have ei : Lib.itoa m = Lib.decDigits m.toNat := by unfold Lib.itoa; rw [if_neg (by omega)]
     obtain ⟨a1, _, _⟩ := decd_ok 15 m.toNat (by omega)
     rw [← ei, e'] at a1
     simp only [List.all_cons, Bool.and_eq_true] at a1
     have a2 := a1.1
     unfold digB at a2
     simp only [Bool.and_eq_true_iff, decide_eq_true_eq] at a2
     rw [← hc] at a2
     rw [ib_eq] at h45
     omega
   have ei : Lib.itoa m = 45 :: Lib.decDigits m.natAbs := by unfold Lib.itoa; rw [if_pos hm]
   obtain ⟨a1, a2, a3⟩ := decd_ok 15 m.natAbs (by omega)
   have hdl : (Lib.decDigits m.natAbs).length ≤ 16 := by rw [Lib.decDigits_length]; exact nDigits_le 15 m.natAbs (by omega)
   have hd1 : (x.take (at_ + k)).drop (at_ + 1) = Lib.decDigits m.natAbs := by
    rw [← List.drop_drop, q2, ei]; rfl
   have := s_l26Number_L9_dig (x := x) (at_ := at_) (e := at_ + k) (f := at_ + 1) hkl h _ (at_ + 1) 0 0 hd1 a1 (by decide) (by omega) (by omega)
   rw [a2, Int.natCast_zero] at this
   obtain ⟨o2, j1, _, j3⟩ := s_l26Number_end (x := x) (at_ := at_) (e := at_ + k) (f := at_ + 1) (by omega) hkl h (by omega) (n := (m.natAbs : Int)) (by omega) (i := ((at_ + k : Nat) : Int)) (by omega)
   rw [this, j1] at k1
   cases k1
   have hk1 : (Lib.itoa m).length = (Lib.decDigits m.natAbs).length + 1 := by rw [ei]; rfl
   have hpos := List.length_pos_iff.2 a3
   rw [j3 (by omega) m (by rw [if_pos (by omega), w64_of (by omega) (by omega)]; omega) q2 h0 h1, q1]
  ·rw [if_neg (by simpa using h45), s_l26Number_L7_eq]
   obtain ⟨o, k1, k2⟩ := s_l26Number_L9_tot (x := x) (at_ := at_) (e := at_ + k) (f := at_) (by omega) hkl h (by omega) _ at_ 0 rfl (by omega)
   refine ⟨o, k1, ⟨at_ + k, by omega, hkl, k2⟩, fun m r h0 h1 hr e => ?_⟩
   obtain ⟨q1, q2⟩ := comp m r h0 h1 hr e
   have hm : 0 ≤ m := by
    rcases Int.lt_or_le m 0 with h | h
    ·have ei : Lib.itoa m = 45 :: Lib.decDigits m.natAbs := by unfold Lib.itoa; rw [if_pos h]
     rw [List.drop_eq_getElem_cons ha, ei] at e
     have hc : x[at_] = 45 := (List.cons.inj e).1
     rw [hc] at h45
     exact (h45 (by decide)).elim
    ·exact h
   have ei : Lib.itoa m = Lib.decDigits m.toNat := by unfold Lib.itoa; rw [if_neg (by omega)]
   obtain ⟨a1, a2, a3⟩ := decd_ok 15 m.toNat (by omega)
   have hdl : (Lib.decDigits m.toNat).length ≤ 16 := by rw [Lib.decDigits_length]; exact nDigits_le 15 m.toNat (by omega)
   have := s_l26Number_L9_dig (x := x) (at_ := at_) (e := at_ + k) (f := at_) hkl h _ at_ 0 0 (q2.trans ei) a1 (by decide) (by omega) (by omega)
   rw [a2, Int.natCast_zero] at this
   obtain ⟨o2, j1, _, j3⟩ := s_l26Number_end (x := x) (at_ := at_) (e := at_ + k) (f := at_) (by omega) hkl h (by omega) (n := (m.toNat : Int)) (by omega) (i := ((at_ + k : Nat) : Int)) (by omega)
   rw [this, j1] at k1
   cases k1
   rw [j3 (by omega) m (by rw [if_neg (by omega)]; omega) q2 h0 h1, q1]
end Go.Dv.U

namespace Go.Dv.U
open Go Go.Dv Go.Proofs
theorem litE_ok {x t r : List UInt8} {i : Nat} (hi : i < x.length) (h : litR (x.drop (i + 1)) = some (t, r)) : litE x [] (litR (x.drop (i + 1))) = (t, ((x.length - r.length : Nat) : Int)) ∧ x.drop (x.length - r.length) = r ∧ i < x.length - r.length ∧ x.length - r.length ≤ x.length := by
 have hl := litR_len h
 obtain ⟨h1, _⟩ := litR_inv _ _ _ _ (Nat.le_refl _) h
 have hdl : (x.drop (i + 1)).length = x.length - (i + 1) := by simp
 rw [h]
 refine ⟨by simp only [litE, List.nil_append]; congr 1; omega, ?_, by omega, by omega⟩
 have e : x.drop (i + 1) = (dbl t ++ [34]) ++ r := by rw [h1]; simp
 have hdl2 : (x.drop (i + 1)).length = (dbl t ++ [34]).length + r.length := by rw [e, List.length_append]
 have : x.length - r.length = (i + 1) + (dbl t ++ [34]).length := by omega
 rw [this, ← List.drop_drop, e, List.drop_left]
theorem s_L10_ok {x : List UInt8} (acc : List TField) (b : Bool) (n : Int) (t : List UInt8) {e : Nat} (he : e ≤ x.length) (hx : x.length ≤ 100000000) (ha : acc.length ≤ 20000) :
    s_ReadFields_L10 x (e : Int) acc b n t = if e = x.length then some (acc ++ [⟨b, n, t⟩], true) else match x.drop e with
      | [] => none
      | c :: _ => if c = 32 then s_ReadFields_L5 x ((e + 1 : Nat) : Int) (acc ++ [⟨b, n, t⟩]) else some ([], false) := by
  rw [s_ReadFields_L10_eq, if_neg (by first | (simp; done) | (simp; omega)), app_of (by simp; omega)]
  simp only [Option.bind_some]
  by_cases h : e = x.length
  · rw [if_pos (by rw [len_eq, h]; simp), if_pos h]
  · rw [if_neg (by rw [len_eq]; simp; omega), if_neg h]
    have hlt : e < x.length := by omega
    rw [idx_nat, List.getElem?_eq_getElem hlt, List.drop_eq_getElem_cons hlt]
    simp only [Option.bind_some]
    by_cases hc : x[e] = 32
    · rw [if_pos hc, if_neg (by rw [hc]; decide), w64_of (by omega) (by omega)]
      rfl
    · rw [if_neg hc, if_pos (by
        simp only [bne_iff_ne, ne_eq]
        intro h; exact hc (ib_inj.1 (h.trans (by decide))))]
theorem fText_str (t : List UInt8) : fText ⟨true, 0, t⟩ = qtext t := rfl
theorem fText_num (n : Int) : fText ⟨false, n, []⟩ = Lib.itoa n := rfl
theorem s_ReadFields_L5_snd {x : List UInt8} (hx : x.length ≤ 100000000) : ∀ (d at_ : Nat) (acc : List TField), x.length - at_ ≤ d → at_ ≤ x.length → acc.length ≤ 20000 →
  ∃ fs ok, s_ReadFields_L5 x (at_ : Int) acc = some (fs, ok) ∧ (ok = false → fs = []) ∧ (ok = true → ∃ f gs, fs = acc ++ f :: gs ∧ vF f = true ∧ gs.all vF = true ∧ fsText (f :: gs) = x.drop at_ ∧ fs.length ≤ 20000) := by
 have bad : ∀ (at_ : Nat) (acc : List TField), ∃ fs ok, (some (([] : List TField), false) : Option (List TField × Bool)) = some (fs, ok) ∧ (ok = false → fs = []) ∧ (ok = true → ∃ f gs, fs = acc ++ f :: gs ∧ vF f = true ∧ gs.all vF = true ∧ fsText (f :: gs) = x.drop at_ ∧ fs.length ≤ 20000) := fun _ _ => ⟨[], false, rfl, fun _ => rfl, fun h => by cases h⟩
 intro d
 induction d using Nat.strongRecOn with
 | _ d ih =>
  intro at_ acc hd hat hacc
  rw [s_ReadFields_L5_eq]
  by_cases hlt : at_ < x.length
  ·rw [if_pos (by rw [len_eq]; simp; omega)]
   by_cases hn : acc.length < 20000
   ·rw [if_pos (by rw [len_eq]; simp; omega), idx_nat, List.getElem?_eq_getElem hlt]
    simp only [Option.bind_some]
    have hdr := List.drop_eq_getElem_cons hlt
    -- a field has been read
    have go : ∀ (f : TField) (e : Nat), vF f = true → at_ < e → e ≤ x.length → x.drop at_ = fText f ++ x.drop e → ∃ fs ok, s_ReadFields_L10 x (e : Int) acc f.fIsText f.fNum f.fText = some (fs, ok) ∧ (ok = false → fs = []) ∧ (ok = true → ∃ f gs, fs = acc ++ f :: gs ∧ vF f = true ∧ gs.all vF = true ∧ fsText (f :: gs) = x.drop at_ ∧ fs.length ≤ 20000) := by
     intro f e hf h1 h2 h3
     rw [s_L10_ok acc _ _ _ h2 hx hacc]
     have ef : (⟨f.fIsText, f.fNum, f.fText⟩ : TField) = f := rfl
     rw [ef]
     by_cases hel : e = x.length
     ·rw [if_pos hel]
      have : x.drop e = [] := List.drop_eq_nil_of_le (by omega)
      rw [this, List.append_nil] at h3
      exact ⟨_, true, rfl, fun h => (by cases h), fun _ => ⟨f, [], rfl, hf, rfl, by rw [h3]; simp [fsText, tailT], by simp; omega⟩⟩
     ·rw [if_neg hel]
      have hlt2 : e < x.length := by omega
      have hdr2 := List.drop_eq_getElem_cons hlt2
      rw [hdr2]
      simp only
      by_cases hc : x[e] = 32
      ·rw [if_pos hc]
       obtain ⟨fs, ok, k1, k2, k3⟩ := ih (d - 1) (by omega) (e + 1) (acc ++ [f]) (by omega) (by omega) (by simp; omega)
       refine ⟨fs, ok, k1, k2, fun h => ?_⟩
       obtain ⟨g, gs, q1, q2, q3, q4, q5⟩ := k3 h
       refine ⟨f, g :: gs, by rw [q1]; simp, hf, by simp [q2, q3], ?_, q5⟩
       show fText f ++ 32 :: fsText (g :: gs) = _
       rw [q4, h3, hdr2, hc]
      ·rw [if_neg hc]; exact bad at_ acc
    by_cases h34 : ib x[at_] = 34
    ·have e34 : x[at_] = 34 := ib_inj.1 (h34.trans (by decide))
     rw [if_pos (by simpa using h34), s_l26Literal_ok hx hlt]
     simp only [Option.bind_some]
     have hbt : (ib x[at_] == 34) = true := by simpa using h34
     rw [hbt]
     cases hl : litR (x.drop (at_ + 1)) with
     | none =>
      simp only [litE]
      rw [s_ReadFields_L10_eq, if_pos (by decide)]
      exact bad at_ acc
     | some p =>
      obtain ⟨t, r⟩ := p
      obtain ⟨j1, j2, j3, j4⟩ := litE_ok hlt hl
      obtain ⟨j5, _⟩ := litR_inv _ _ _ _ (Nat.le_refl _) hl
      rw [hl] at j1
      rw [j1]
      refine go ⟨true, 0, t⟩ _ rfl j3 j4 ?_
      rw [hdr, j5, j2, e34, fText_str]
      simp [qtext]
    ·rw [if_neg (by simpa using h34)]
     have hbt : (ib x[at_] == 34) = false := by simpa using h34
     rw [hbt]
     obtain ⟨o, j1, ⟨e, j2, j3, j4⟩, _⟩ := s_l26Number_ok hx hlt
     rw [j1]
     simp only [Option.bind_some]
     rcases j4 with j4 | ⟨j4, j5, j6, j7⟩
     ·rw [j4, s_ReadFields_L10_eq, if_pos (by decide)]
      exact bad at_ acc
     ·rw [j4]
      have hne : at_ < e := by
       rcases Nat.lt_or_ge at_ e with h | h
       ·exact h
       ·obtain ⟨_, c, q, e1, _⟩ := itoa_sp j6 j7
        have : (x.take e).drop at_ = [] := List.drop_eq_nil_of_le (by simp; omega)
        rw [this, e1] at j5; cases j5
      refine go ⟨false, o.1, []⟩ e (by unfold vF; simp [j6, j7]) hne j3 ?_
      rw [fText_num, ← j5]
      have := List.take_append_drop e x
      have h2 : x.drop at_ = (x.take e ++ x.drop e).drop at_ := by rw [this]
      rw [h2, List.drop_append_of_le_length (by simp; omega)]
   ·rw [if_neg (by rw [len_eq]; simp; omega)]
    exact bad at_ acc
  ·rw [if_neg (by rw [len_eq]; simp; omega)]
   exact bad at_ acc
theorem s_ReadFields_L5_run {x : List UInt8} (hx : x.length ≤ 100000000) : ∀ (gs : List TField) (f : TField) (at_ : Nat) (acc : List TField), at_ ≤ x.length → vF f = true → gs.all vF = true → x.drop at_ = fsText (f :: gs) → acc.length + (gs.length + 1) ≤ 20000 →
  s_ReadFields_L5 x (at_ : Int) acc = some (acc ++ f :: gs, true) := by
 intro gs
 -- one field
 have one : ∀ (f : TField) (at_ : Nat) (acc : List TField) (r : List UInt8), vF f = true → spR r → x.drop at_ = fText f ++ r → acc.length < 20000 → ∃ e, at_ < e ∧ e ≤ x.length ∧ x.drop e = r ∧ s_ReadFields_L5 x (at_ : Int) acc = s_ReadFields_L10 x (e : Int) acc f.fIsText f.fNum f.fText := by
  intro f at_ acc r hf hr hd hacc
  have hne := fText_ne hf
  have hlt : at_ < x.length := by
   rcases Nat.lt_or_ge at_ x.length with h | h
   ·exact h
   ·rw [List.drop_eq_nil_of_le h] at hd
    exact (hne (List.append_eq_nil_iff.1 hd.symm).1).elim
  have hdr := List.drop_eq_getElem_cons hlt
  rw [s_ReadFields_L5_eq, if_pos (by rw [len_eq]; simp; omega), if_pos (by rw [len_eq]; simp; omega), idx_nat, List.getElem?_eq_getElem hlt]
  simp only [Option.bind_some]
  have hf2 := hf
  unfold vF at hf
  by_cases hb : f.fIsText = true
  ·rw [if_pos hb] at hf
   have hn : f.fNum = 0 := by simpa using hf
   have ef : fText f = 34 :: (dbl f.fText ++ [34]) := by unfold fText; rw [if_pos hb]; rfl
   rw [hdr, ef] at hd
   obtain ⟨d1, d2⟩ := List.cons.inj hd
   have h34 : ib x[at_] = 34 := by rw [d1]; decide
   have hl : litR (x.drop (at_ + 1)) = some (f.fText, r) := by
    have : x.drop (at_ + 1) = dbl f.fText ++ 34 :: r := by rw [d2]; show dbl f.fText ++ [34] ++ r = _; simp
    rw [this]; exact litR_dbl _ _ (spR_34 hr)
   obtain ⟨j1, j2, j3, j4⟩ := litE_ok hlt hl
   rw [if_pos (by simpa using h34), s_l26Literal_ok hx hlt, j1]
   simp only [Option.bind_some]
   have hbt : (ib x[at_] == 34) = true := by simpa using h34
   exact ⟨_, j3, j4, j2, by rw [hbt, hb, hn]⟩
  ·rw [if_neg hb] at hf
   have hbf : f.fIsText = false := by simpa using hb
   simp only [Bool.and_eq_true, decide_eq_true_eq] at hf
   have ht : f.fText = [] := by simpa using hf.2
   have ef : fText f = Lib.itoa f.fNum := by unfold fText; rw [if_neg hb]
   rw [ef] at hd
   obtain ⟨_, c, q, e1, e2⟩ := itoa_sp hf.1.1 hf.1.2
   have h34 : ib x[at_] ≠ 34 := by
    rw [hdr, e1] at hd
    rw [(List.cons.inj hd).1]; exact e2
   obtain ⟨o, j1, _, j3⟩ := s_l26Number_ok hx hlt
   have := j3 f.fNum r hf.1.1 hf.1.2 hr hd
   subst this
   rw [if_neg (by simpa using h34), j1]
   simp only [Option.bind_some]
   have hbt : (ib x[at_] == 34) = false := by simpa using h34
   have hlen := congrArg List.length hd
   simp at hlen
   have hpos : 0 < (Lib.itoa f.fNum).length := by rw [e1]; simp
   refine ⟨at_ + (Lib.itoa f.fNum).length, by omega, by omega, ?_, by rw [hbt, hbf, ht]⟩
   rw [← List.drop_drop, hd, List.drop_left]
 induction gs with
 | nil =>
  intro f at_ acc hat hf _ hd hn
  have hd' : x.drop at_ = fText f ++ [] := hd
  simp only [List.length_nil] at hn
  obtain ⟨e, h1, h2, h3, h4⟩ := one f at_ acc [] hf (.inl rfl) hd' (by omega)
  rw [h4, s_L10_ok acc _ _ _ h2 hx (by omega)]
  have : e = x.length := by
   have := congrArg List.length h3
   simp at this; omega
  rw [if_pos this]
 | cons g gs ih =>
  intro f at_ acc hat hf hgs hd hn
  simp only [List.all_cons, Bool.and_eq_true] at hgs
  simp only [List.length_cons] at hn
  have hd' : x.drop at_ = fText f ++ 32 :: fsText (g :: gs) := hd
  obtain ⟨e, h1, h2, h3, h4⟩ := one f at_ acc _ hf (.inr ⟨_, rfl⟩) hd' (by omega)
  rw [h4, s_L10_ok acc _ _ _ h2 hx (by omega)]
  have hne : e ≠ x.length := by
   rintro rfl
   rw [List.drop_length] at h3; cases h3
  rw [if_neg hne, h3]
  simp only [if_true]
  have hlt : e < x.length := by omega
  have hdr := List.drop_eq_getElem_cons hlt
  rw [h3] at hdr
  have := ih g (e + 1) (acc ++ [f]) (by omega) hgs.1 hgs.2 (List.cons.inj hdr).2.symm (by simp; omega)
  rw [this]
  simp
theorem s_ReadFields_ok {s : List UInt8} (h : s.length ≤ 1048576) : ∃ fs ok, s_ReadFields s = some (fs, ok) ∧ (ok = true → FsOk s fs) ∧ (ok = false → fs = []) ∧ ∀ gs, FsOk s gs → fs = gs ∧ ok = true := by
 rw [s_ReadFields_eq]
 by_cases hs : s = []
 ·subst hs
  rw [if_pos (by simp)]
  refine ⟨[], true, rfl, fun _ => ⟨by simp, rfl, rfl⟩, fun h => (by cases h), fun gs hg => ?_⟩
  obtain ⟨h1, h2, h3⟩ := hg
  cases gs with
  | nil => exact ⟨rfl, rfl⟩
  | cons f r =>
   simp only [List.all_cons, Bool.and_eq_true] at h2
   exact (fText_ne h2.1 (List.append_eq_nil_iff.1 h3).1).elim
 ·rw [if_neg (by simpa using hs)]
  obtain ⟨fs, ok, k1, k2, k3⟩ := s_ReadFields_L5_snd (x := s) (by omega) s.length 0 [] (by omega) (Nat.zero_le _) (by simp)
  rw [Int.natCast_zero] at k1
  refine ⟨fs, ok, k1, fun hk => ?_, k2, fun gs hg => ?_⟩
  ·obtain ⟨f, gs, q1, q2, q3, q4, q5⟩ := k3 hk
   rw [List.nil_append] at q1
   subst q1
   exact ⟨q5, by simp [q2, q3], q4⟩
  ·obtain ⟨g1, g2, g3⟩ := hg
   cases gs with
   | nil => exact (hs g3.symm).elim
   | cons f r =>
    simp only [List.all_cons, Bool.and_eq_true] at g2
    have := s_ReadFields_L5_run (x := s) (by omega) r f 0 [] (Nat.zero_le _) g2.1 g2.2 (by rw [List.drop_zero]; exact g3.symm) (by simpa using g1)
    rw [Int.natCast_zero, k1] at this
    cases this
    exact ⟨rfl, rfl⟩
theorem ReadFields_both {s : List UInt8} (h : s.length ≤ 1048576) : ∃ fs ok, i_ReadFields s = some ((fs, ()), (ok, ()), ()) ∧ s_ReadFields s = some (fs, ok) ∧ (ok = true → FsOk s fs) ∧ ∀ gs, FsOk s gs → fs = gs ∧ ok = true := by
 obtain ⟨fs, ok, h1, h2, h3, h4⟩ := i_ReadFields_ok h
 obtain ⟨gs, ok2, k1, k2, k3, k4⟩ := s_ReadFields_ok h
 cases ok with
 | true =>
  obtain ⟨rfl, rfl⟩ := k4 fs (h2 rfl)
  exact ⟨gs, true, h1, k1, h2, h4⟩
 | false =>
  cases ok2 with
  | true =>
   obtain ⟨_, e⟩ := h4 gs (k2 rfl)
   cases e
  | false =>
   rw [h3 rfl] at h1 h4
   rw [k3 rfl] at k1
   exact ⟨[], false, h1, k1, fun h => (by cases h), h4⟩
noncomputable def mkFd (k : Int) : TField := ⟨decide (k.tmod 3 = 0), k + 1, mkT (k + 2)⟩
theorem fieldMarks_ok {xs : List TField} {k : Int} (h0 : 0 ≤ k) (h1 : k + (3 * xs.length : Nat) < 4611686018427387904) : l_markFieldS k xs = some (k + (3 * xs.length : Nat), marksL mkFd 3 k xs.length, ()) := by
 rw [l_markFieldS_eq]
 exact markL_loop (J := l_markFieldS_L2) (fun k xs => by
  rw [l_markFieldS_L2_eq]
  simp [len_eq]) (fun k i xs hlt g0 g1 g2 => by
  have hc : decide ((i : Int) < len xs) = true := by simp [len_eq]; omega
  have w1 : w64 (k + 1) = k + 1 := w64_of (by omega) (by omega)
  have w2 : w64 (k + 1 + 1) = k + 2 := by rw [w64_of (by omega) (by omega)]; omega
  have w3 : w64 (k + 2 + 1) = k + 3 := by rw [w64_of (by omega) (by omega)]; omega
  have wi : w64 ((i : Int) + 1) = ((i + 1 : Nat) : Int) := by rw [w64_of (by omega) (by omega)]; omega
  have hr : rem k 3 = some (k.tmod 3) := by unfold rem; rw [if_neg (by decide)]
  rw [l_markFieldS_L2_eq, if_pos hc, hr]
  simp only [idx_nat, Int.toNat_natCast, List.getElem?_eq_getElem hlt, Option.bind_some, upd_eq, w1, w2, w3, wi]
  rw [l_markText_ok (by omega) (by omega)]
  have hd : ∀ y : Int, (Decidable.rec (fun _ => false) (fun _ => true) (Int.instDecidableEq y 0) : Bool) = decide (y = 0) := fun y => rfl
  simp [List.getElem?_set_self, hlt, List.set_set, mkFd, hd]) xs k h0 h1 (by omega)
theorem fieldHeld_ok {n : Nat} {k : Int} (h0 : 0 ≤ k) (h1 : k + (3 * n : Nat) < 4611686018427387904) : l_heldFieldS (marksL mkFd 3 k n) k = some (k + (3 * n : Nat)) := by
 rw [l_heldFieldS_eq]
 refine heldL_loop (μ := mkFd) (J := fun k' i => l_heldFieldS_L2 (marksL mkFd 3 k n) k' i) (by omega) h0 h1 (fun k => by
  show l_heldFieldS_L2 _ _ _ = _
  rw [l_heldFieldS_L2_eq]
  simp [len_eq, marksL_len]) (fun k' i hlt g0 g1 hi => ?_)
 have hc : decide ((i : Int) < len (marksL mkFd 3 k n)) = true := by simp [len_eq, marksL_len]; omega
 have w1 : w64 (k' + 1) = k' + 1 := w64_of (by omega) (by omega)
 have w2 : w64 (k' + 1 + 1) = k' + 2 := by rw [w64_of (by omega) (by omega)]; omega
 have w3 : w64 (k' + 2 + 1) = k' + 3 := by rw [w64_of (by omega) (by omega)]; omega
 have wi : w64 ((i : Int) + 1) = ((i + 1 : Nat) : Int) := by rw [w64_of (by omega) (by omega)]; omega
 have hr : rem k' 3 = some (k'.tmod 3) := by unfold rem; rw [if_neg (by decide)]
 show l_heldFieldS_L2 _ _ _ = l_heldFieldS_L2 _ _ _
 rw [l_heldFieldS_L2_eq, if_pos hc, hi, hr]
 simp only [Option.bind_some, mkFd, bne_self_eq_false, Bool.false_eq_true, if_false, w1, w2, w3, wi]
 rw [l_markText_ok (by omega) (by omega)]
 have hb : ∀ y : Int, (decide (y = 0) == (y == 0)) = true := fun y => by by_cases h : y = 0 <;> simp [h]
 rw [hb]
 simp
theorem eqField_self (f : TField) : l_eqField f f = some true := by
 rw [l_eqField_eq]; simp
theorem eqFieldS_self {xs : List TField} (hx : xs.length ≤ 9223372036854775807) : l_eqFieldS xs xs = some true := by
 rw [l_eqFieldS_eq, if_neg (by simp)]
 have key : ∀ (d i : Nat), xs.length - i = d → i ≤ xs.length → l_eqFieldS_L4 xs xs (i : Int) = some true := by
  intro d
  induction d with
  | zero =>
   intro i hd hi
   rw [l_eqFieldS_L4_eq, if_neg (by rw [len_eq]; simp; omega)]
  | succ d ih =>
   intro i hd hi
   have hlt : i < xs.length := by omega
   rw [l_eqFieldS_L4_eq, if_pos (by rw [len_eq]; simp; omega), idx_nat, List.getElem?_eq_getElem hlt]
   simp only [Option.bind_some, eqField_self]
   rw [if_neg (by simp), w64_of (by omega) (by omega), show ((i : Int) + 1) = ((i + 1 : Nat) : Int) by omega]
   exact ih (i + 1) (by omega) (by omega)
 have := key xs.length 0 rfl (Nat.zero_le _)
 simpa using this
theorem l_FnExactReadFields_ok {s : List UInt8} : l_FnExactReadFields s = some true := by
 rw [l_FnExactReadFields_eq]
 by_cases hl : s.length > 1048576
 ·rw [if_pos (by rw [len_eq]; simp; omega)]
 rw [if_neg (by rw [len_eq]; simp; omega)]
 obtain ⟨fs, ok, h1, h2, h3, _⟩ := ReadFields_both (s := s) (by omega)
 rw [h1, h2]
 have hlen : fs.length ≤ 20000 ∨ ok = false := by
  cases ok with
  | true => exact .inl (h3 rfl).1
  | false => exact .inr rfl
 have hlen : fs.length ≤ 20000 := by
  rcases hlen with h | h
  ·exact h
  ·obtain ⟨gs, ok2, k1, _, k3, _⟩ := i_ReadFields_ok (s := s) (by omega)
   rw [h1] at k1
   cases k1
   rw [k3 h]; simp
 simp only [Option.bind_some]
 rw [eqFieldS_self (by omega), fieldMarks_ok (by decide) (by omega)]
 simp only [Option.bind_some, beq_self_eq_true, Bool.not_true, Bool.false_eq_true, if_false]
 rw [fieldHeld_ok (by decide) (by omega)]
 simp only [Option.bind_some]
 rw [if_neg (by simp; omega), if_neg (by simp), l_FnExactReadFields_L18_eq, fieldHeld_ok (by decide) (by omega)]
 simp only [Option.bind_some]
 rw [if_neg (by simp; omega), if_neg (by simp)]
end Go.Dv.U
