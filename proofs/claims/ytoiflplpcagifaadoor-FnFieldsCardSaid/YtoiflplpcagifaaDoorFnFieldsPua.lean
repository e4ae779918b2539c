/- Plain laws about these equations. -/
import Derived.Test.YtoiflplpcagifaaDoorFnFieldsEqa
set_option linter.all false
set_option linter.unusedVariables false
set_option linter.unusedSimpArgs false
namespace Go.Dv.U
open Go Go.Dv Go.Proofs
theorem i_within_ok (a b c : Int) : i_within a b c = some (decide (b ≤ a) && decide (a ≤ c)) := by
 rw [i_within_eq]; grind
theorem s_l00In_ok (a b c : Int) : s_l00In a b c = some (decide (b ≤ a) && decide (a ≤ c)) := by
 rw [s_l00In_eq]; grind
end Go.Dv.U

namespace Go.Dv.U
open Go Go.Dv Go.Proofs
def isDig (b : Int) : Bool := decide (48 ≤ b) && decide (b ≤ 57)
theorem i_isDigit_ok (b : Int) : i_isDigit b = some (isDig b) := by
 rw [i_isDigit_eq]; unfold isDig; grind
end Go.Dv.U

namespace Go.Dv.U
open Go Go.Dv Go.Proofs
def hasB (c : Int) (s : List UInt8) : Bool := s.any fun b => ib b == c
theorem index_one (c : UInt8) : ∀ s : List UInt8, decide (0 ≤ Lib.index s [c]) = hasB (ib c) s
 | [] => by simp [Lib.index, hasB]
 | b :: l => by
  have ih := index_one c l
  have hge := Lib.index_ge l [c]
  unfold Lib.index
  have hp : [c].isPrefixOf (b :: l) = (ib b == ib c) := by
   rw [Bool.eq_iff_iff]
   simp only [List.isPrefixOf, Bool.and_true, beq_iff_eq, ib_inj]
   exact eq_comm
  have hh : hasB (ib c) (b :: l) = (ib b == ib c || hasB (ib c) l) := rfl
  rw [hp, hh, ← ih]
  cases (ib b == ib c)
  ·simp only [Bool.false_eq_true, if_false, Bool.false_or]
   split
   ·rename_i h; rw [beq_iff_eq] at h; rw [h]
   ·rename_i h
    have h : ¬ Lib.index l [c] = -1 := by simpa using h
    rw [Bool.eq_iff_iff, decide_eq_true_eq, decide_eq_true_eq]; omega
  ·simp
theorem nDigits_le : ∀ (k u : Nat), u < 10 ^ (k + 1) → Lib.nDigits u ≤ k + 1
 | 0, u, h => by rw [Lib.nDigits_small (by simpa using h)]; exact Nat.le_refl _
 | k + 1, u, h => by
  by_cases hu : u < 10
  ·rw [Lib.nDigits_small hu]; omega
  ·rw [Lib.nDigits_big hu]
   have := nDigits_le k (u / 10) (by rw [Nat.div_lt_iff_lt_mul (by decide)]; rw [Nat.pow_succ] at h; exact h)
   omega
theorem digit_byte {r : Int} (h0 : 0 ≤ r) (h1 : r < 10) : UInt8.ofNat (Int.toNat (IntKind.wrap .u8 (w64 (48 + r)))) = UInt8.ofNat (48 + r.toNat) := by
 rw [w64_of (by omega) (by omega)]
 have e2 : IntKind.u8.wrap (48 + r) = 48 + r := by unfold IntKind.wrap; simp [IntKind.bits, IntKind.signed]; omega
 rw [e2]
 congr 1
 omega
theorem rem_ten (u : Nat) : rem (u : Int) 10 = some ((u % 10 : Nat) : Int) := by
 unfold rem
 rw [if_neg (by decide), Int.tmod_eq_emod_of_nonneg (by omega)]
 congr 1
theorem quo_ten {u : Nat} (h : u < 9223372036854775808) : quo .i64 (u : Int) 10 = some ((u / 10 : Nat) : Int) := by
 unfold quo
 rw [if_neg (by decide), Int.tdiv_eq_ediv_of_nonneg (by omega)]
 congr 1
 have : IntKind.i64.wrap ((u : Int) / 10) = w64 ((u : Int) / 10) := rfl
 rw [this, w64_of (by omega) (by omega)]
 omega
theorem itoa_nat (u : Nat) : Lib.itoa (u : Int) = Lib.decDigits u := by
 unfold Lib.itoa
 rw [if_neg (by omega)]
 rfl
theorem i_decimal_ok {n : Int} (h0 : -9223372036854775808 ≤ n) (h1 : n ≤ 9223372036854775807) : i_decimal n = some (Lib.itoa n) := by
 rw [i_decimal_eq]
 unfold itoaS
 rw [if_pos ⟨rfl, h0, h1⟩]
 rfl
theorem itoa_len20 {n : Int} (h0 : -9223372036854775808 ≤ n) (h1 : n ≤ 9223372036854775807) : (Lib.itoa n).length ≤ 20 := by
 unfold Lib.itoa
 split
 ·rw [List.length_cons, Lib.decDigits_length]
  have := nDigits_le 18 n.natAbs (by omega)
  omega
 ·rw [Lib.decDigits_length]
  have := nDigits_le 18 n.toNat (by omega)
  omega
end Go.Dv.U

namespace Go.Dv.U
open Go Go.Dv Go.Proofs
def SrcOk (c : List Int) (a B : Int) : Prop := (∀ y ∈ c, 0 ≤ y ∧ y ≤ 255) ∧ c.length ≤ 9223372036854775807 ∧ 0 ≤ a ∧ a ≤ B
def Dr {α : Type} (o : Option (α × ((List Int × Int × Int × Unit) × Unit))) (B : Int) (P : α → Prop) : Prop := ∃ v c a s, o = some (v, ((c, a, s, ()), ())) ∧ SrcOk c a B ∧ P v
theorem SrcOk.le {c : List Int} {a B B' : Int} (h : SrcOk c a B) (hb : B ≤ B') : SrcOk c a B' := ⟨h.1, h.2.1, h.2.2.1, by have := h.2.2.2; omega⟩
theorem Dr.le {α : Type} {o : Option (α × ((List Int × Int × Int × Unit) × Unit))} {B B' : Int} {P Q : α → Prop} (h : Dr o B P) (hb : B ≤ B') (hq : ∀ v, P v → Q v) : Dr o B' Q := by
 obtain ⟨v, c, a, s, h1, h2, h3⟩ := h
 exact ⟨v, c, a, s, h1, h2.le hb, hq v h3⟩
theorem Dr.bind {α β : Type} {o : Option (α × ((List Int × Int × Int × Unit) × Unit))} {B B' : Int} {P : α → Prop} {Q : β → Prop} {k : α × ((List Int × Int × Int × Unit) × Unit) → Option (β × ((List Int × Int × Int × Unit) × Unit))}
  (h : Dr o B P) (hk : ∀ v c a s, SrcOk c a B → P v → Dr (k (v, ((c, a, s, ()), ()))) B' Q) : Dr (o.bind k) B' Q := by
 obtain ⟨v, c, a, s, rfl, h2, h3⟩ := h
 exact hk v c a s h2 h3
theorem Dr.some {α : Type} {v : α} {c : List Int} {a s B : Int} {P : α → Prop} (h : SrcOk c a B) (hp : P v) : Dr (Option.some (v, ((c, a, s, ()), ()))) B P := ⟨v, c, a, s, rfl, h, hp⟩
theorem and255 (y : Int) : 0 ≤ w64 (bitsOp Go.BinOp.and Go.IntKind.u64 y 255) ∧ w64 (bitsOp Go.BinOp.and Go.IntKind.u64 y 255) ≤ 255 := by
 have h : (BitVec.ofInt IntKind.u64.bits y &&& BitVec.ofInt IntKind.u64.bits 255).toNat ≤ 255 := by
  rw [BitVec.toNat_and]
  exact Nat.le_trans Nat.and_le_right (by decide)
 have e : bitsOp Go.BinOp.and Go.IntKind.u64 y 255 = ((BitVec.ofInt IntKind.u64.bits y &&& BitVec.ofInt IntKind.u64.bits 255).toNat : Int) := by
  show IntKind.u64.wrap _ = _
  generalize (BitVec.ofInt IntKind.u64.bits y &&& BitVec.ofInt IntKind.u64.bits 255).toNat = m at h
  unfold IntKind.wrap
  simp [IntKind.bits, IntKind.signed]
  omega
 rw [e, w64_of (by omega) (by omega)]
 omega
theorem s_l00Src_next_ok {c : List Int} {a s B : Int} (h : SrcOk c a B) (hB : B ≤ 4611686018427387904) : Dr (s_l00Src_next c a s) (B + 1) (fun v => 0 ≤ v ∧ v ≤ 255) := by
 obtain ⟨h1, h2, h3, h4⟩ := h
 have hs : SrcOk c (w64 (a + 1)) (B + 1) := ⟨h1, h2, by rw [w64_of (by omega) (by omega)]; omega, by rw [w64_of (by omega) (by omega)]; omega⟩
 rw [s_l00Src_next_eq]
 have hsh : ∀ x : Int, shr Go.IntKind.u64 x 40 = some (x.fdiv (2 ^ (min (Int.toNat 40) Go.IntKind.u64.bits))) := fun x => rfl
 simp only [hsh, Option.bind_some]
 by_cases hlt : a < c.length
 ·obtain ⟨n, rfl⟩ : ∃ n : Nat, a = n := ⟨a.toNat, by omega⟩
  have hn : n < c.length := by omega
  rw [if_pos (by simpa [len_eq] using hlt), idx_nat, List.getElem?_eq_getElem hn]
  have hy := h1 _ (List.getElem_mem hn)
  simp only [Option.bind_some]
  split
  ·exact Dr.some hs (by rw [w64_of (by omega) (by omega)]; exact hy)
  ·exact Dr.some hs (and255 _)
 ·rw [if_neg (by simpa [len_eq] using hlt)]
  split
  ·exact Dr.some hs (by omega)
  ·exact Dr.some hs (and255 _)
theorem rem_of {x n : Int} (hx : 0 ≤ x) (hn : 1 < n) : ∃ y, rem x n = some y ∧ 0 ≤ y ∧ y < n := by
 unfold rem
 rw [if_neg (by omega)]
 refine ⟨_, rfl, ?_, ?_⟩
 ·rw [Int.tmod_eq_emod_of_nonneg hx]; exact Int.emod_nonneg _ (by omega)
 ·rw [Int.tmod_eq_emod_of_nonneg hx]; exact Int.emod_lt_of_pos _ (by omega)
theorem s_l00Src_pick_ok (n : Int) {c : List Int} {a s B : Int} (h : SrcOk c a B) (hB : B ≤ 4611686018427387000) : Dr (s_l00Src_pick n c a s) (B + 2) (fun v => 0 ≤ v ∧ (1 < n → v < n) ∧ (n ≤ 1 → v = 0)) := by
 rw [s_l00Src_pick_eq]
 by_cases h1 : n ≤ 1
 ·rw [if_pos (by simpa using h1)]
  exact Dr.some (h.le (by omega)) ⟨by omega, fun h => by omega, fun _ => rfl⟩
 rw [if_neg (by simpa using h1)]
 refine (s_l00Src_next_ok h (by omega)).bind fun v c2 a2 s2 h2 hv => ?_
 simp only
 by_cases h3 : n > 200
 ·rw [if_pos (by simpa using h3)]
  refine (s_l00Src_next_ok h2 (by omega)).bind fun v2 c3 a3 s3 h4 hv2 => ?_
  simp only
  rw [w64_of (n := v * 256) (by omega) (by omega), w64_of (by omega) (by omega)]
  obtain ⟨y, hy, y0, y1⟩ := rem_of (x := v * 256 + v2) (n := n) (by omega) (by omega)
  rw [hy]
  exact Dr.some (h4.le (by omega)) ⟨y0, fun _ => y1, fun h => by omega⟩
 ·rw [if_neg (by simpa using h3)]
  obtain ⟨y, hy, y0, y1⟩ := rem_of (x := v) (n := n) (by omega) (by omega)
  rw [hy]
  exact Dr.some (h2.le (by omega)) ⟨y0, fun _ => y1, fun h => by omega⟩
theorem s_l00Src_one_ok (n : Int) {c : List Int} {a s B : Int} (h : SrcOk c a B) (hB : B ≤ 4611686018427387000) : Dr (s_l00Src_one n c a s) (B + 2) (fun _ => True) := by
 rw [s_l00Src_one_eq]
 exact (s_l00Src_pick_ok n h hB).bind fun v c2 a2 s2 h2 hv => Dr.some h2 trivial
theorem pick_idx {α : Type} {xs : List α} {v : Int} (hv : 0 ≤ v ∧ (1 < (len xs) → v < len xs) ∧ (len xs ≤ 1 → v = 0)) (hx : xs ≠ []) : ∃ y, idx xs v = some y ∧ y ∈ xs := by
 have hp : 0 < xs.length := List.length_pos_iff.2 hx
 rw [len_eq] at hv
 have hlt : v.toNat < xs.length := by
  by_cases h : (1 : Int) < xs.length
  ·have := hv.2.1 h; omega
  ·have := hv.2.2 (by omega); omega
 exact ⟨xs[v.toNat], by rw [idx_of hv.1, List.getElem?_eq_getElem hlt], List.getElem_mem hlt⟩
theorem s_l00Src_text_ok (xs : List (List UInt8)) (hx : xs ≠ []) {c : List Int} {a s B : Int} (h : SrcOk c a B) (hB : B ≤ 4611686018427387000) : Dr (s_l00Src_text xs c a s) (B + 2) (fun v => v ∈ xs) := by
 rw [s_l00Src_text_eq]
 refine (s_l00Src_pick_ok _ h hB).bind fun v c2 a2 s2 h2 hv => ?_
 obtain ⟨y, hy, hm⟩ := pick_idx hv hx
 simp only [hy, Option.bind_some]
 exact Dr.some h2 hm
theorem s_l00Src_among_ok (xs : List Int) (hx : xs ≠ []) {c : List Int} {a s B : Int} (h : SrcOk c a B) (hB : B ≤ 4611686018427387000) : Dr (s_l00Src_among xs c a s) (B + 2) (fun v => v ∈ xs) := by
 rw [s_l00Src_among_eq]
 refine (s_l00Src_pick_ok _ h hB).bind fun v c2 a2 s2 h2 hv => ?_
 obtain ⟨y, hy, hm⟩ := pick_idx hv hx
 simp only [hy, Option.bind_some]
 exact Dr.some h2 hm
end Go.Dv.U

namespace Go.Dv.U
open Go Go.Dv Go.Proofs
def dbl : List UInt8 → List UInt8
 | [] => []
 | b :: r => if ib b = 34 then b :: 34 :: dbl r else b :: dbl r
def qtext (s : List UInt8) : List UInt8 := 34 :: (dbl s ++ [34])
theorem dbl_len : ∀ s, (dbl s).length ≤ 2 * s.length
 | [] => by simp [dbl]
 | b :: r => by have := dbl_len r; simp only [dbl]; split <;> simp <;> omega
theorem qtext_len (s : List UInt8) : (qtext s).length ≤ 2 * s.length + 2 := by
 have := dbl_len s; simp [qtext]; omega
theorem dbl_app : ∀ (a b : List UInt8), dbl (a ++ b) = dbl a ++ dbl b
 | [], b => rfl
 | x :: a, b => by simp only [List.cons_append, dbl, dbl_app a b]; split <;> simp
theorem dbl_none : ∀ (s : List UInt8), hasB 34 s = false → dbl s = s
 | [], _ => rfl
 | b :: r, h => by
  simp only [hasB, List.any_cons, Bool.or_eq_false_iff] at h
  have h1 : ¬ ib b = 34 := by simpa using h.1
  rw [dbl, if_neg h1, dbl_none r h.2]
theorem split34 : ∀ (s : List UInt8), hasB 34 s = true → ∃ a r, s = a ++ 34 :: r ∧ hasB 34 a = false
  | [], h => by simp [hasB] at h
  | b :: s, h => by
    by_cases hb : ib b = 34
    · have : b = 34 := ib_inj.1 (hb.trans (by decide))
      subst this
      exact ⟨[], s, rfl, rfl⟩
    · have h2 : hasB 34 s = true := by
        simp only [hasB, List.any_cons, Bool.or_eq_true] at h
        rcases h with h | h
        · exact absurd (by simpa using h) hb
        · exact h
      obtain ⟨a, r, e, h3⟩ := split34 s h2
      refine ⟨b :: a, r, by rw [e]; rfl, ?_⟩
      simp only [hasB, List.any_cons, Bool.or_eq_false_iff]
      exact ⟨by simpa using hb, h3⟩
theorem index34_none {s : List UInt8} (h : hasB 34 s = false) : Lib.index s [34] = -1 := by
 have h1 := index_one 34 s
 have e : ib 34 = 34 := by decide
 rw [e, h] at h1
 have := Lib.index_ge s [34]
 simp only [decide_eq_false_iff_not] at h1
 omega
theorem index34_some {a r : List UInt8} (h : hasB 34 a = false) : Lib.index (a ++ 34 :: r) [34] = (a.length : Int) := by
 refine Lib.index_first (by simp) ?_ ?_
 ·simp [Lib.occAt]
 ·intro j hj
  simp only [Lib.occAt]
  rw [List.drop_append_of_le_length (by omega), List.drop_eq_getElem_cons hj]
  simp only [List.cons_append, List.isPrefixOf, Bool.and_true]
  rw [beq_eq_false_iff_ne]
  intro e
  have : hasB 34 a = true := by
   simp only [hasB, List.any_eq_true]
   exact ⟨a[j], List.getElem_mem hj, by rw [← e]; decide⟩
  rw [h] at this; cases this
theorem replaceK34 : ∀ (k : Nat) (s : List UInt8), Lib.count s [34] ≤ k → Lib.replaceK [34] [34, 34] k s = dbl s
 | 0, s, h => by
  cases hb : hasB 34 s with
  | false => rw [dbl_none s hb]; rfl
  | true =>
   obtain ⟨a, r, rfl, h3⟩ := split34 s hb
   have := Lib.count_hit (sub := [34]) (by simp) (index34_some (r := r) h3)
   omega
 | k + 1, s, h => by
  cases hb : hasB 34 s with
  | false => rw [dbl_none s hb, Lib.replaceK, index34_none hb]; rfl
  | true =>
   obtain ⟨a, r, rfl, h3⟩ := split34 s hb
   have hi := index34_some (r := r) h3
   have hc := Lib.count_hit (sub := [34]) (by simp) hi
   rw [Lib.replaceK_hit _ _ _ _ _ hi]
   have e1 : (a ++ 34 :: r).take a.length = a := by simp
   have e2 : (a ++ 34 :: r).drop (a.length + ([34] : List UInt8).length) = r := by simp [List.drop_append]
   rw [e2] at hc
   rw [e1, e2, replaceK34 k r (by omega), dbl_app, dbl_none a h3]
   have e3 : ib 34 = 34 := by decide
   simp [dbl, e3]
theorem replaceAll34 (s : List UInt8) : Lib.replaceAll s [34] [34, 34] = dbl s := by
 unfold Lib.replaceAll Lib.replace
 rw [if_neg (by decide)]
 exact replaceK34 _ s (by unfold Lib.replaceNum; rw [if_pos (by left; decide)]; exact Nat.le_refl _)
theorem s_l11Literal_ok {s : List UInt8} (h : s.length ≤ 1000000) : s_l11Literal s = some (qtext s) := by
 have key : ∀ acc : List UInt8, acc.length + 2 * s.length ≤ 10000000 → s_l11Literal_L3 s ((0 : Nat) : Int) (acc.map ib) = some (acc ++ dbl s ++ [34]) := by
  refine loop_ind (xs := s) (by omega) (P := fun i l => ∀ acc : List UInt8, acc.length + 2 * l.length ≤ 10000000 → s_l11Literal_L3 s i (acc.map ib) = some (acc ++ dbl l ++ [34])) ?_ ?_
  ·intro acc h1
   rw [s_l11Literal_L3_eq, if_neg (by simp [len_eq]), app_of (by simp at h1 ⊢; omega)]
   have e : (fun n : Int => UInt8.ofNat n.toNat) ∘ ib = id := by
    funext b
    simp [ib]
   simp [dbl, List.map_append, List.map_map, e]
  ·intro i y l _ hlt hy hi hw ih acc h1
   simp only [List.length_cons] at h1
   rw [s_l11Literal_L3_eq, hi, hw, if_pos (by simp [len_eq, hlt])]
   simp only [Option.bind_some]
   rw [app_of (by simp; omega)]
   simp only [Option.bind_some]
   by_cases h34 : ib y = 34
   ·rw [if_pos (by simpa using h34), app_of (by simp; omega)]
    simp only [Option.bind_some]
    have e : (acc.map ib ++ [ib y] ++ [34] : List Int) = (acc ++ [y, 34]).map ib := by
     have e3 : ib 34 = 34 := by decide
     simp [e3]
    rw [e, ih (acc ++ [y, 34]) (by simp; omega)]
    simp [dbl, h34]
   ·rw [if_neg (by simpa using h34)]
    have e : (acc.map ib ++ [ib y] : List Int) = (acc ++ [y]).map ib := by simp
    rw [e, ih (acc ++ [y]) (by simp; omega)]
    simp [dbl, h34]
 rw [s_l11Literal_eq]
 have := key [34] (by simp; omega)
 simpa [qtext, show ib 34 = 34 by decide] using this
end Go.Dv.U

namespace Go.Dv.U
open Go Go.Dv Go.Proofs
theorem rem_neg_ten (u : Nat) : rem (-(u : Int)) 10 = some (-((u % 10 : Nat) : Int)) := by
 unfold rem
 rw [if_neg (by decide), Int.neg_tmod, Int.tmod_eq_emod_of_nonneg (by omega)]
 congr 1
theorem quo_neg_ten {u : Nat} (h : u ≤ 9223372036854775808) : quo .i64 (-(u : Int)) 10 = some (-((u / 10 : Nat) : Int)) := by
 unfold quo
 rw [if_neg (by decide), Int.neg_tdiv, Int.tdiv_eq_ediv_of_nonneg (by omega)]
 congr 1
 have : IntKind.i64.wrap (-((u : Int) / 10)) = w64 (-((u : Int) / 10)) := rfl
 rw [this, w64_of (by omega) (by omega)]
 omega
theorem decDigits_step {u : Nat} (hu : ¬ u < 10) : Lib.decDigits u = Lib.decDigits (u / 10) ++ [UInt8.ofNat (48 + u % 10)] := by
 rw [Lib.decDigits, dif_neg hu]
theorem digits_end (x0 : Int) (s : List UInt8) (hl : s.length ≤ 1000) : s_l06Digits_L5 x0 s 0 = some ((if x0 < 0 then [45] else []) ++ s) := by
 rw [s_l06Digits_L5_eq, if_neg (by decide)]
 by_cases h : x0 < 0
 ·rw [if_pos (by simpa using h), if_pos h, app_of (by simp; omega)]; rfl
 ·rw [if_neg (by simpa using h), if_neg h]; rfl
theorem s_l06Digits_L5_pos (x0 : Int) : ∀ (k u : Nat) (s : List UInt8), 0 < u → u < 10 ^ (k + 1) → u < 9223372036854775808 → s.length + k + 1 ≤ 1000 → s_l06Digits_L5 x0 s (u : Int) = some ((if x0 < 0 then [45] else []) ++ (Lib.decDigits u ++ s)) := by
 intro k
 induction k with
 | zero =>
  intro u s hp h h2 hl
  have hu : u < 10 := by simpa using h
  rw [s_l06Digits_L5_eq, if_pos (by simp; omega), rem_ten, quo_ten h2]
  simp only [Option.bind_some]
  rw [if_neg (by simp; omega)]
  simp only [List.map_cons, List.map_nil, digit_byte (r := ((u % 10 : Nat) : Int)) (by omega) (by omega), Int.toNat_natCast]
  rw [app_of (by simp; omega)]
  simp only [Option.bind_some]
  have e : u / 10 = 0 := by omega
  have e2 : u % 10 = u := by omega
  rw [e, e2, Int.natCast_zero, digits_end _ _ (by simp; omega), Lib.decDigits_one hu]
 | succ k ih =>
  intro u s hp h h2 hl
  by_cases hu : u < 10
  ·rw [s_l06Digits_L5_eq, if_pos (by simp; omega), rem_ten, quo_ten h2]
   simp only [Option.bind_some]
   rw [if_neg (by simp; omega)]
   simp only [List.map_cons, List.map_nil, digit_byte (r := ((u % 10 : Nat) : Int)) (by omega) (by omega), Int.toNat_natCast]
   rw [app_of (by simp; omega)]
   simp only [Option.bind_some]
   have e : u / 10 = 0 := by omega
   have e2 : u % 10 = u := by omega
   rw [e, e2, Int.natCast_zero, digits_end _ _ (by simp; omega), Lib.decDigits_one hu]
  ·rw [s_l06Digits_L5_eq, if_pos (by simp; omega), rem_ten, quo_ten h2]
   simp only [Option.bind_some]
   rw [if_neg (by simp; omega)]
   simp only [List.map_cons, List.map_nil, digit_byte (r := ((u % 10 : Nat) : Int)) (by omega) (by omega), Int.toNat_natCast]
   rw [app_of (by simp; omega)]
   simp only [Option.bind_some]
   rw [ih (u / 10) _ (by omega) (by rw [Nat.div_lt_iff_lt_mul (by decide)]; rw [Nat.pow_succ] at h; exact h) (by omega) (by simp; omega), decDigits_step hu]
   simp
theorem s_l06Digits_L5_neg (x0 : Int) : ∀ (k u : Nat) (s : List UInt8), 0 < u → u < 10 ^ (k + 1) → u ≤ 9223372036854775808 → s.length + k + 1 ≤ 1000 → s_l06Digits_L5 x0 s (-(u : Int)) = some ((if x0 < 0 then [45] else []) ++ (Lib.decDigits u ++ s)) := by
 have step : ∀ (u : Nat) (s : List UInt8), 0 < u → u ≤ 9223372036854775808 → s.length ≤ 1000 → s_l06Digits_L5 x0 s (-(u : Int)) = s_l06Digits_L5 x0 (UInt8.ofNat (48 + u % 10) :: s) (-((u / 10 : Nat) : Int)) := by
  intro u s hp h2 hl
  rw [s_l06Digits_L5_eq, if_pos (by simp; omega), rem_neg_ten, quo_neg_ten h2]
  simp only [Option.bind_some]
  by_cases h0 : u % 10 = 0
  ·rw [if_neg (by simp; omega), h0]
   have := digit_byte (r := -((0 : Nat) : Int)) (by omega) (by omega)
   simp only [List.map_cons, List.map_nil, this]
   rw [app_of (by simp; omega)]
   rfl
  ·rw [if_pos (by simp; omega), w64_of (n := 0 - -((u % 10 : Nat) : Int)) (by omega) (by omega)]
   have e : (0 - -((u % 10 : Nat) : Int)) = ((u % 10 : Nat) : Int) := by omega
   rw [e]
   simp only [List.map_cons, List.map_nil, digit_byte (r := ((u % 10 : Nat) : Int)) (by omega) (by omega), Int.toNat_natCast]
   rw [app_of (by simp; omega)]
   rfl
 intro k
 induction k with
 | zero =>
  intro u s hp h h2 hl
  have hu : u < 10 := by simpa using h
  have e : u / 10 = 0 := by omega
  have e2 : u % 10 = u := by omega
  rw [step u s hp h2 (by omega), e, e2]
  have := digits_end x0 (UInt8.ofNat (48 + u) :: s) (by simp; omega)
  simpa [Lib.decDigits_one hu] using this
 | succ k ih =>
  intro u s hp h h2 hl
  rw [step u s hp h2 (by omega)]
  by_cases hu : u < 10
  ·have e : u / 10 = 0 := by omega
   have e2 : u % 10 = u := by omega
   rw [e, e2]
   have := digits_end x0 (UInt8.ofNat (48 + u) :: s) (by simp; omega)
   simpa [Lib.decDigits_one hu] using this
  ·rw [ih (u / 10) _ (by omega) (by rw [Nat.div_lt_iff_lt_mul (by decide)]; rw [Nat.pow_succ] at h; exact h) (by omega) (by simp; omega), decDigits_step hu]
   simp
theorem s_l06Digits_ok {n : Int} (h0 : -9223372036854775808 ≤ n) (h1 : n ≤ 9223372036854775807) : s_l06Digits n = some (Lib.itoa n) := by
 rw [s_l06Digits_eq]
 by_cases hz : n = 0
 ·subst hz
  have := itoa_nat 0
  rw [Int.natCast_zero] at this
  rw [if_pos (by decide), this, Lib.decDigits_one (by decide)]
  rfl
 rw [if_neg (by simpa using hz)]
 by_cases hn : n < 0
 ·obtain ⟨u, hu⟩ : ∃ u : Nat, n = -(u : Int) := ⟨n.natAbs, by omega⟩
  have := s_l06Digits_L5_neg n 18 u [] (by omega) (by omega) (by omega) (by decide)
  rw [← hu, if_pos hn] at this
  rw [this]
  unfold Lib.itoa
  rw [if_pos hn]
  have e : n.natAbs = u := by omega
  simp [e]
 ·obtain ⟨u, hu⟩ : ∃ u : Nat, n = (u : Int) := ⟨n.toNat, by omega⟩
  have := s_l06Digits_L5_pos n 18 u [] (by omega) (by omega) (by omega) (by decide)
  rw [← hu, if_neg hn] at this
  rw [this, hu, itoa_nat]
  simp
end Go.Dv.U

namespace Go.Dv.U
open Go Go.Dv Go.Proofs
theorem occ_none {c : UInt8} {s t : List UInt8} (h : hasB (ib c) s = false) (j : Nat) : Lib.occAt s (c :: t) j = false := by
 cases ho : Lib.occAt s (c :: t) j with
 | false => rfl
 | true =>
  have h1 := Lib.occAt_head (c := c) (t := t) rfl ho
  have : hasB (ib c) s = true := by
   simp only [hasB, List.any_eq_true, beq_iff_eq]
   exact ⟨c, List.mem_of_getElem? h1, rfl⟩
  rw [h] at this; cases this
theorem index_cnone {c : UInt8} {s t : List UInt8} (h : hasB (ib c) s = false) : Lib.index s (c :: t) = -1 := Lib.index_none fun j _ => occ_none h j
theorem index_csome {c : UInt8} {a r t : List UInt8} (h : hasB (ib c) a = false) (ht : (c :: t).isPrefixOf r = true) : Lib.index (a ++ r) (c :: t) = (a.length : Int) := by
 refine Lib.index_first (by simp) ?_ ?_
 ·unfold Lib.occAt
  rw [List.drop_left]; exact ht
 ·intro j hj
  unfold Lib.occAt
  rw [List.drop_append_of_le_length (by omega), List.drop_eq_getElem_cons hj]
  simp only [List.cons_append, List.isPrefixOf, Bool.and_eq_false_iff]
  left
  rw [beq_eq_false_iff_ne]
  intro e
  have : hasB (ib c) a = true := by
   simp only [hasB, List.any_eq_true, beq_iff_eq]
   exact ⟨a[j], List.getElem_mem hj, by rw [← e]⟩
  rw [h] at this; cases this
theorem cut_one {c : UInt8} {a r : List UInt8} (h : hasB (ib c) a = false) : Lib.cut (a ++ c :: r) [c] = (a, r, true) := by
 have hi : Lib.index (a ++ c :: r) [c] = (a.length : Int) := index_csome h (by simp [List.isPrefixOf])
 unfold Lib.cut
 rw [hi, if_pos (by omega)]
 simp [List.drop_append]
theorem cut_none {c : UInt8} {s : List UInt8} (h : hasB (ib c) s = false) : Lib.cut s [c] = (s, [], false) := by
 unfold Lib.cut
 rw [index_cnone h, if_neg (by decide)]
theorem parseM_dig (M : Nat) : ∀ (l : List UInt8) (acc k : Nat), l.all digB = true → acc < 10 ^ k → l.length + k ≤ 18 → 1000000000000000000 ≤ M → Lib.parseUintM M acc l = .ok (numD l acc)
 | [], acc, k, _, _, _, _ => rfl
 | c :: r, acc, k, h, ha, hl, hM => by
  simp only [List.all_cons, Bool.and_eq_true_iff] at h
  have hd := h.1
  unfold digB at hd
  simp only [Bool.and_eq_true_iff, decide_eq_true_eq] at hd
  simp only [List.length_cons] at hl
  have hp : 10 ^ (k + 1) ≤ 10 ^ 18 := Nat.pow_le_pow_right (by decide) (by omega)
  have hs : 10 ^ (k + 1) = 10 ^ k * 10 := Nat.pow_succ _ _
  unfold Lib.parseUintM
  rw [if_pos hd, if_neg (by omega), if_neg (by omega), parseM_dig M r _ (k + 1) h.2 (by omega) (by omega) hM]
  rfl
theorem decd_byte {r : Nat} (h : r < 10) : (UInt8.ofNat (48 + r)).toNat = 48 + r := by simp; omega
theorem decd_ok : ∀ (k u : Nat), u < 10 ^ (k + 1) → (Lib.decDigits u).all digB = true ∧ numD (Lib.decDigits u) 0 = u ∧ Lib.decDigits u ≠ [] := by
 have one : ∀ u : Nat, u < 10 → (Lib.decDigits u).all digB = true ∧ numD (Lib.decDigits u) 0 = u ∧ Lib.decDigits u ≠ [] := by
  intro u hu
  rw [Lib.decDigits_one hu]
  have := decd_byte hu
  refine ⟨by simp [digB, this]; omega, ?_, by simp⟩
  simp only [numD, List.foldl_cons, List.foldl_nil, this]; omega
 intro k
 induction k with
 | zero => intro u h; exact one u (by simpa using h)
 | succ k ih =>
  intro u h
  by_cases hu : u < 10
  ·exact one u hu
  ·obtain ⟨h1, h2, h3⟩ := ih (u / 10) (by rw [Nat.div_lt_iff_lt_mul (by decide)]; rw [Nat.pow_succ] at h; exact h)
   have := decd_byte (r := u % 10) (by omega)
   rw [decDigits_step hu]
   refine ⟨?_, ?_, by simp⟩
   ·rw [List.all_append, h1]
    simp [digB, this]; omega
   ·have : numD (Lib.decDigits (u / 10) ++ [UInt8.ofNat (48 + u % 10)]) 0 = numD (Lib.decDigits (u / 10)) 0 * 10 + ((UInt8.ofNat (48 + u % 10)).toNat - 48) := by simp [numD]
    rw [this, h2]; omega
end Go.Dv.U

namespace Go.Dv.U
open Go Go.Dv Go.Proofs
theorem parseIntE_some {s : List UInt8} (h : s.length ≤ 1000000000) : ∃ n, parseIntE s = some n := by
 have hb : big = 68719476736 := rfl
 unfold parseIntE parseIntS
 rw [if_pos (by omega)]
 exact ⟨_, rfl⟩
end Go.Dv.U

namespace Go.Dv
open Go
theorem bytesOf_ib (s : List UInt8) : bytesOf (s.map ib) = some s := by
 unfold bytesOf
 have h : ((s.map ib).all fun n => decide (0 ≤ n) && decide (n < 256)) = true := by
  simp only [List.all_map, List.all_eq_true]
  intro x _
  simp [ib_lt x, ib_nonneg x]
 rw [if_pos h, List.map_map]
 congr 1
 conv => rhs; rw [← List.map_id s]
 apply List.map_congr_left
 intro x _
 simp only [Function.comp, id, ib, Int.ofNat_eq_natCast, Int.toNat_natCast]
 exact UInt8.ofNat_toNat
end Go.Dv

namespace Go.Dv.U
open Go Go.Dv Go.Proofs
def litR : List UInt8 → Option (List UInt8 × List UInt8)
 | [] => none
 | [b] => if ib b = 34 then some ([], []) else none
 | b :: c :: r => if ib b = 34 then (if ib c = 34 then (litR r).map fun p => (34 :: p.1, p.2) else some ([], c :: r)) else (litR (c :: r)).map fun p => (b :: p.1, p.2)
def no34 : List UInt8 → Prop
 | [] => True
 | c :: _ => ib c ≠ 34
theorem litR_dbl : ∀ (t r : List UInt8), no34 r → litR (dbl t ++ 34 :: r) = some (t, r)
 | [], r, h => by
  cases r with
  | nil => rfl
  | cons c r => show litR (34 :: c :: r) = _; rw [litR, if_pos (by decide), if_neg h]
 | b :: t, r, h => by
  have ih := litR_dbl t r h
  rw [dbl]
  by_cases hb : ib b = 34
  ·rw [if_pos hb]
   show litR (b :: 34 :: (dbl t ++ 34 :: r)) = _
   rw [litR, if_pos hb, if_pos (by decide), ih]
   have : b = 34 := ib_inj.1 (hb.trans (by decide))
   subst this; rfl
  ·rw [if_neg hb]
   show litR (b :: (dbl t ++ 34 :: r)) = _
   cases hd : dbl t ++ 34 :: r with
   | nil => simp at hd
   | cons c q =>
    rw [hd] at ih
    rw [litR, if_neg hb, ih]; rfl
theorem litR_inv : ∀ (n : Nat) (l t r : List UInt8), l.length ≤ n → litR l = some (t, r) → l = dbl t ++ 34 :: r ∧ no34 r
 | 0, [], t, r, _, h => by cases h
 | n + 1, [], t, r, _, h => by cases h
 | n + 1, [b], t, r, _, h => by
  rw [litR] at h
  split at h
  ·rename_i hb
   cases h
   have : b = 34 := ib_inj.1 (hb.trans (by decide))
   subst this
   exact ⟨rfl, trivial⟩
  ·cases h
 | n + 1, b :: c :: q, t, r, hl, h => by
  rw [litR] at h
  simp only [List.length_cons] at hl
  split at h
  ·rename_i hb
   have eb : b = 34 := ib_inj.1 (hb.trans (by decide))
   subst eb
   split at h
   ·rename_i hc
    have ec : c = 34 := ib_inj.1 (hc.trans (by decide))
    subst ec
    obtain ⟨p, hp, e⟩ := Option.map_eq_some_iff.1 h
    obtain ⟨t', r'⟩ := p
    cases e
    obtain ⟨h1, h2⟩ := litR_inv n q t' _ (by omega) hp
    rw [h1]
    exact ⟨by simp only [dbl]; rw [if_pos (by decide)]; rfl, h2⟩
   ·rename_i hc
    cases h
    exact ⟨rfl, hc⟩
  ·rename_i hb
   obtain ⟨p, hp, e⟩ := Option.map_eq_some_iff.1 h
   obtain ⟨t', r'⟩ := p
   cases e
   obtain ⟨h1, h2⟩ := litR_inv n (c :: q) t' _ (by simp; omega) hp
   rw [h1]
   exact ⟨by simp only [dbl]; rw [if_neg hb]; rfl, h2⟩
theorem litR_none : ∀ l, hasB 34 l = false → litR l = none
 | [], _ => rfl
 | [b], h => by
  simp only [hasB, List.any_cons, List.any_nil, Bool.or_false] at h
  rw [litR, if_neg (by simpa using h)]
 | b :: c :: r, h => by
  have h2 : hasB 34 (c :: r) = false := by
   simp only [hasB, List.any_cons, Bool.or_eq_false_iff] at h ⊢; exact h.2
  simp only [hasB, List.any_cons, Bool.or_eq_false_iff] at h
  rw [litR, if_neg (by simpa using h.1), litR_none (c :: r) h2]; rfl
theorem litR_app : ∀ (a x : List UInt8), hasB 34 a = false → x ≠ [] → litR (a ++ x) = (litR x).map fun p => (a ++ p.1, p.2)
 | [], x, _, _ => by simp
 | b :: a, x, h, hx => by
  have h2 : hasB 34 a = false := by
   simp only [hasB, List.any_cons, Bool.or_eq_false_iff] at h ⊢; exact h.2
  simp only [hasB, List.any_cons, Bool.or_eq_false_iff] at h
  have ih := litR_app a x h2 hx
  show litR (b :: (a ++ x)) = _
  cases hd : a ++ x with
  | nil => exact (hx (List.append_eq_nil_iff.1 hd).2).elim
  | cons c q =>
   rw [hd] at ih
   rw [litR, if_neg (by simpa using h.1), ih]
   cases litR x <;> rfl
theorem litR_len {l t r : List UInt8} (h : litR l = some (t, r)) : t.length + r.length + 1 ≤ l.length := by
 obtain ⟨h1, _⟩ := litR_inv l.length l t r (Nat.le_refl _) h
 rw [h1]
 have : ∀ t : List UInt8, t.length ≤ (dbl t).length := by
  intro t
  induction t with
  | nil => simp [dbl]
  | cons b t ih => simp only [dbl]; split <;> simp <;> omega
 have := this t
 simp; omega
theorem hasPre1 (s : List UInt8) (c : UInt8) (h : s.length ≤ 1000000000) : internal_stringslite_HasPrefix s [c] = some (match s with | [] => false | b :: _ => b == c) := by
 rw [internal_stringslite_HasPrefix_eq]
 cases s with
 | nil => rfl
 | cons b r =>
  have e : decide (len (b :: r) ≥ len [c]) = true := by simp [len_eq]; omega
  have := cut_of (xs := b :: r) (a := 0) (b := 1) (by omega) (by simp)
  simp only [Int.natCast_zero, Int.natCast_one] at this
  rw [if_pos e]
  simp only [Option.getD_some, show len [c] = (1 : Int) from rfl, this, Option.bind_some]
  congr 1
  simp
theorem i_has_ok (c : UInt8) (x : List UInt8) (n : Int) (h : x.length ≤ 1000000000) : i_patternReader_has [c] x n = some (match x with | [] => (false, (([], n, ()), ())) | b :: r => if b = c then (true, ((r, n, ()), ())) else (false, ((b :: r, n, ()), ()))) := by
 rw [i_patternReader_has_eq, strings_CutPrefix_eq, internal_stringslite_CutPrefix_eq, hasPre1 x c h]
 cases x with
 | nil => rfl
 | cons b r =>
  simp only [Option.bind_some]
  by_cases hb : b = c
  ·subst hb
   have hc : cut (b :: r) (len [b]) (Option.getD none (len (b :: r))) = some r := by
    rw [Option.getD_none, len_eq, len_eq, cut_of (by simp) (Nat.le_refl _)]
    simp
   rw [hc]
   simp
  ·have : (b == c) = false := by simpa using hb
   rw [this, if_neg hb]
   rfl
theorem i_literal_L4_ok (n : Int) : ∀ (k : Nat) (x acc : List UInt8), x.length ≤ k → x.length + acc.length ≤ 1000000000 →
  (∃ t r, litR x = some (t, r) ∧ i_patternReader_literal_L4_v1 x n (acc.map ib) = some ((acc ++ t, true), ((r, n, ()), ()))) ∨
  (litR x = none ∧ ∃ r, r.length ≤ x.length ∧ i_patternReader_literal_L4_v1 x n (acc.map ib) = some (([], false), ((r, n, ()), ()))) := by
 intro k
 induction k with
 | zero =>
  intro x acc hk hl
  have : x = [] := List.eq_nil_of_length_eq_zero (by omega)
  subst this
  refine .inr ⟨rfl, [], Nat.le_refl _, ?_⟩
  rw [i_patternReader_literal_L4_v1_eq]
  unfold scutS
  rw [if_pos (by decide), show Lib.cut [] [34] = ([], [], false) from cut_none (c := 34) rfl]
  rfl
 | succ k ih =>
  intro x acc hk hl
  have e34 : ib 34 = 34 := by decide
  rw [i_patternReader_literal_L4_v1_eq]
  unfold scutS
  rw [if_pos (by omega)]
  simp only [Option.bind_some]
  cases hb : hasB 34 x with
  | false =>
   rw [cut_none (c := 34) (by rw [e34]; exact hb)]
   exact .inr ⟨litR_none x hb, x, Nat.le_refl _, rfl⟩
  | true =>
   obtain ⟨a, r, rfl, ha⟩ := split34 x hb
   simp only [List.length_append, List.length_cons] at hk hl
   rw [cut_one (c := 34) (by rw [e34]; exact ha)]
   simp only [Bool.not_true, Bool.false_eq_true, if_false]
   rw [app_of (by simp; omega)]
   simp only [Option.bind_some]
   rw [i_has_ok 34 r n (by omega)]
   have hmap : acc.map ib ++ a.map ib = (acc ++ a).map ib := by simp
   have hmap' : (acc.map ib ++ List.map (fun b => ib b) a) = (acc ++ a).map ib := by simp
   rw [hmap']
   have done : no34 r → (∃ t r', litR (a ++ 34 :: r) = some (t, r') ∧ (bytesOf ((acc ++ a).map ib)).bind (fun y195 => some ((y195, true), ((r, n, ()), ()))) = some ((acc ++ t, true), ((r', n, ()), ()))) := by
    intro hr
    refine ⟨a, r, ?_, ?_⟩
    ·rw [litR_app a _ ha (by simp)]
     have := litR_dbl [] r hr
     rw [show dbl [] ++ 34 :: r = 34 :: r from rfl] at this
     rw [this]; simp
    ·rw [bytesOf_ib]; rfl
   cases r with
   | nil =>
    simp only [Option.bind_some, Bool.not_false, if_true]
    obtain ⟨t, r', h1, h2⟩ := done trivial
    exact .inl ⟨t, r', h1, h2⟩
   | cons c q =>
    simp only [Option.bind_some]
    by_cases hc : c = 34
    ·subst hc
     simp only [if_true, Bool.not_true, Bool.false_eq_true, if_false]
     rw [app_of (by simp; omega)]
     simp only [Option.bind_some]
     have hm2 : ((acc ++ a).map ib ++ List.map (fun b => ib b) [34]) = (acc ++ a ++ [34]).map ib := by simp
     rw [hm2]
     have hlit : litR (a ++ 34 :: 34 :: q) = (litR q).map fun p => (a ++ 34 :: p.1, p.2) := by
      rw [litR_app a _ ha (by simp), litR, if_pos e34, if_pos e34]
      cases litR q <;> rfl
     simp only [List.length_cons] at hk hl
     rcases ih q (acc ++ a ++ [34]) (by omega) (by simp; omega) with ⟨t, r', h1, h2⟩ | ⟨h1, r', h2, h3⟩
     ·refine .inl ⟨a ++ 34 :: t, r', by rw [hlit, h1]; rfl, ?_⟩
      rw [h2]; simp
     ·exact .inr ⟨by rw [hlit, h1]; rfl, r', by simp; omega, h3⟩
    ·rw [if_neg hc]
     simp only [Bool.not_false, if_true]
     obtain ⟨t, r', h1, h2⟩ := done (fun h => hc (ib_inj.1 (h.trans e34.symm)))
     exact .inl ⟨t, r', h1, h2⟩
theorem i_literal_ok {l : List UInt8} (n : Int) (h : l.length ≤ 100000000) : (∃ t r, litR l = some (t, r) ∧ i_patternReader_literal (34 :: l) n = some ((t, true), ((r, n, ()), ()))) ∨
  (litR l = none ∧ ∃ r, r.length ≤ l.length ∧ i_patternReader_literal (34 :: l) n = some (([], false), ((r, n, ()), ()))) := by
 rw [i_patternReader_literal_eq, i_has_ok 34 (34 :: l) n (by simp; omega)]
 simp only [if_true, Option.bind_some, Bool.not_true, Bool.false_eq_true, if_false]
 have e : i_patternReader_literal_L4 l n [] = i_patternReader_literal_L4_v1 l n (([] : List UInt8).map ib) := by
  rw [i_patternReader_literal_L4_eq, i_patternReader_literal_L4_v1_eq]; rfl
 rw [e]
 have := i_literal_L4_ok n l.length l [] (Nat.le_refl _) (by simp; omega)
 simpa using this
def vF (f : TField) : Bool := if f.fIsText = true then f.fNum == 0 else (decide (-1000000000000000 ≤ f.fNum) && decide (f.fNum ≤ 1000000000000000)) && f.fText == []
def fText (f : TField) : List UInt8 := if f.fIsText = true then qtext f.fText else Lib.itoa f.fNum
def tailT : List TField → List UInt8
 | [] => []
 | f :: r => 32 :: (fText f ++ tailT r)
def fsText : List TField → List UInt8
 | [] => []
 | f :: r => fText f ++ tailT r
theorem tailT_cons (f : TField) (r : List TField) : tailT (f :: r) = 32 :: fsText (f :: r) := rfl
def wt : List TField → Nat
 | [] => 0
 | f :: r => f.fText.length + 1 + wt r
theorem wt_app : ∀ (a b : List TField), wt (a ++ b) = wt a + wt b
 | [], b => by simp [wt]
 | f :: a, b => by simp only [List.cons_append, wt, wt_app a b]; omega
theorem wt_len : ∀ fs : List TField, fs.length ≤ wt fs
 | [] => Nat.le_refl _
 | f :: r => by have := wt_len r; simp only [wt, List.length_cons]; omega
theorem itoa_len20' {n : Int} (h0 : -1000000000000000 ≤ n) (h1 : n ≤ 1000000000000000) : (Lib.itoa n).length ≤ 20 := itoa_len20 (by omega) (by omega)
theorem fText_len {f : TField} (h : vF f = true) : (fText f).length ≤ 2 * f.fText.length + 20 := by
 unfold vF at h
 unfold fText
 split
 ·have := qtext_len f.fText; omega
 ·rename_i hf
  rw [if_neg hf] at h
  simp only [Bool.and_eq_true, decide_eq_true_eq] at h
  have := itoa_len20' h.1.1 h.1.2
  omega
theorem i_QuoteText_big {s : List UInt8} (h : s.length ≤ 1000000000) : i_QuoteText s = some (qtext s) := by
 rw [i_QuoteText_eq]
 unfold replAllS
 rw [if_pos ⟨by omega, by decide, by decide⟩, replaceAll34]
 have := dbl_len s
 simp only [Option.bind_some]
 rw [app_of (by simp; omega)]
 simp only [Option.bind_some]
 rw [app_of (by simp; omega)]
 rfl
theorem i_Field_text_ok {f : TField} (h : vF f = true) (hl : f.fText.length ≤ 1000000000) : i_Field_text f = some (fText f) := by
 unfold vF at h
 rw [i_Field_text_eq]
 unfold fText
 split
 ·rw [i_QuoteText_big hl]; rfl
 ·rename_i hf
  rw [if_neg hf] at h
  simp only [Bool.and_eq_true, decide_eq_true_eq] at h
  rw [i_decimal_ok (by omega) (by omega)]; rfl
theorem i_Field_isValid_ok (f : TField) : i_Field_isValid f = some (vF f) := by
 rw [i_Field_isValid_eq, i_within_ok]
 unfold vF
 simp only [Option.bind_some]
 split
 ·rfl
 ·cases (decide (-1000000000000000 ≤ f.fNum) && decide (f.fNum ≤ 1000000000000000)) <;> simp
theorem i_areAllF_ok {fs : List TField} (h : fs.length ≤ 9223372036854775807) : i_areAll_impl_Field__i_Field_isValid fs = some (fs.all vF) := by
 rw [i_areAll_impl_Field__i_Field_isValid_eq]
 exact all_loop (xs := fs) h (F := i_Field_isValid) (p := vF) (J := i_areAll_impl_Field_L2__i_Field_isValid fs (len fs)) (fun i => by rw [i_areAll_impl_Field_L2__i_Field_isValid_eq]) (fun y _ => i_Field_isValid_ok y)
theorem i_FieldsText_v1_ok {fs : List TField} (h : wt fs ≤ 100000000) (hv : fs.all vF = true) : ∀ (d i : Nat) (a : List UInt8), fs.length - i = d → 0 < i → i ≤ fs.length → a.length + 21 * wt (fs.drop i) ≤ 10000000000 →
  i_FieldsText_L5_v1 fs (len fs) (i : Int) (a.map ib) = some (a ++ tailT (fs.drop i)) := by
 have hlen := wt_len fs
 intro d
 induction d with
 | zero =>
  intro i a hd h0 hi ha
  have : i = fs.length := by omega
  subst this
  rw [i_FieldsText_L5_v1_eq, if_neg (by simp [len_eq]), bytesOf_ib, List.drop_length]
  simp [tailT]
 | succ d ih =>
  intro i a hd h0 hi ha
  have hlt : i < fs.length := by omega
  have hdr := List.drop_eq_getElem_cons hlt
  have hvf : vF fs[i] = true := List.all_eq_true.1 hv _ (List.getElem_mem hlt)
  rw [hdr] at ha
  simp only [wt] at ha
  have hfl := fText_len hvf
  rw [i_FieldsText_L5_v1_eq, if_pos (by simp [len_eq]; omega), idx_nat, List.getElem?_eq_getElem hlt]
  simp only [Option.bind_some]
  rw [if_pos (by simp; omega), app_of (by simp; omega)]
  simp only [Option.bind_some]
  rw [i_Field_text_ok hvf (by omega)]
  simp only [Option.bind_some]
  rw [app_of (by simp; omega)]
  simp only [Option.bind_some]
  rw [w64_of (by omega) (by omega)]
  have e : (a.map ib ++ List.map (fun b => ib b) [32] ++ List.map (fun b => ib b) (fText fs[i])) = (a ++ [32] ++ fText fs[i]).map ib := by simp
  rw [e, show ((i : Int) + 1) = ((i + 1 : Nat) : Int) by omega, ih (i + 1) _ (by omega) (by omega) (by omega) (by simp; omega), hdr]
  simp [tailT]
theorem i_FieldsText_ok {fs : List TField} (h : wt fs ≤ 100000000) : i_FieldsText fs = some (if (decide (fs.length ≤ 20000) && fs.all vF) = true then fsText fs else []) := by
 have hlen := wt_len fs
 rw [i_FieldsText_eq, i_areAllF_ok (by omega)]
 by_cases hl : fs.length > 20000
 ·rw [if_pos (by simp [len_eq]; omega)]
  have : decide (fs.length ≤ 20000) = false := by simp; omega
  rw [this]; rfl
 ·rw [if_neg (by simp [len_eq]; omega)]
  have : decide (fs.length ≤ 20000) = true := by simp; omega
  rw [this]
  simp only [Option.bind_some, Bool.true_and]
  cases hv : fs.all vF with
  | false => rfl
  | true =>
   simp only [Bool.not_true, Bool.false_eq_true, if_false, if_true]
   cases fs with
   | nil => rw [i_FieldsText_L5_eq, if_neg (by simp [len_eq])]; rfl
   | cons f r =>
    have hv2 := hv
    simp only [List.all_cons, Bool.and_eq_true] at hv
    simp only [wt] at h
    have hfl := fText_len hv.1
    rw [i_FieldsText_L5_eq, if_pos (by first | (simp [len_eq]; done) | (simp [len_eq]; omega)), idx_zero]
    simp only [List.getElem?_cons_zero, Option.bind_some]
    rw [if_neg (by simp), i_Field_text_ok hv.1 (by omega)]
    simp only [Option.bind_some]
    rw [app_of (by first | omega | (simp; omega))]
    simp only [Option.bind_some, List.nil_append]
    rw [show w64 (0 + 1) = ((1 : Nat) : Int) from rfl]
    have := i_FieldsText_v1_ok (fs := f :: r) (by simp only [wt]; omega) hv2 r.length 1 (fText f) (by simp) (by omega) (by simp) (by simp only [List.drop_succ_cons, List.drop_zero]; omega)
    simpa [fsText] using this
end Go.Dv.U

namespace Go.Dv.U
open Go Go.Dv Go.Proofs
theorem parseIntS_itoa15 {n : Int} (h0 : -1000000000000000 ≤ n) (h1 : n ≤ 1000000000000000) : parseIntE (Lib.itoa n) = some (n, true) := by
 have hu : ∀ u : Nat, u ≤ 1000000000000000 → (Lib.decDigits u).length ≤ 16 ∧ Lib.parseUintB 64 (Lib.decDigits u) = .ok u := by
  intro u h
  obtain ⟨a, b, c⟩ := decd_ok 15 u (by omega)
  have hl : (Lib.decDigits u).length ≤ 16 := by rw [Lib.decDigits_length]; exact nDigits_le 15 u (by omega)
  refine ⟨hl, ?_⟩
  unfold Lib.parseUintB
  rw [if_neg c, parseM_dig _ _ 0 0 a (by decide) (by omega) (by decide), b]
 have hb : big = 68719476736 := rfl
 have key : Lib.parseIntB 64 (Lib.itoa n) = .ok n := by
  by_cases hn : n < 0
  ·have e : Lib.itoa n = 45 :: Lib.decDigits n.natAbs := by unfold Lib.itoa; rw [if_pos hn]
   obtain ⟨hl, hp⟩ := hu n.natAbs (by omega)
   rw [e]
   unfold Lib.parseIntB
   simp only [show ((45 : UInt8).toNat = 43 ∨ (45 : UInt8).toNat = 45) from by decide, if_true, hp]
   rw [if_neg (by rintro ⟨h, _⟩; exact h (by decide)), if_neg (by rintro ⟨_, h⟩; omega), if_pos (by decide)]
   congr 1
   omega
  ·have e : Lib.itoa n = Lib.decDigits n.toNat := by unfold Lib.itoa; rw [if_neg hn]
   obtain ⟨hl, hp⟩ := hu n.toNat (by omega)
   obtain ⟨ha, _, hc⟩ := decd_ok 15 n.toNat (by omega)
   rw [e]
   cases hd : Lib.decDigits n.toNat with
   | nil => exact absurd hd hc
   | cons b r =>
    rw [hd] at hp ha
    simp only [List.all_cons, Bool.and_eq_true_iff] at ha
    have h2 := ha.1
    unfold digB at h2
    simp only [Bool.and_eq_true_iff, decide_eq_true_eq] at h2
    unfold Lib.parseIntB
    simp only [show ¬ (b.toNat = 43 ∨ b.toNat = 45) from by omega, if_false, hp]
    rw [if_neg (by rintro ⟨_, h⟩; omega), if_neg (by rintro ⟨h, _⟩; omega), if_neg (by omega)]
    congr 1
    omega
 have hl := itoa_len20' h0 h1
 unfold parseIntE parseIntS parseOk
 rw [if_pos (by omega), key]
 rfl
def spB (b : UInt8) : Bool := ib b == 45 || isDig (ib b)
def spn : List UInt8 → Nat
 | [] => 0
 | b :: r => if spB b = true then spn r + 1 else 0
theorem spn_le : ∀ s, spn s ≤ s.length
 | [] => Nat.le_refl _
 | b :: r => by have := spn_le r; simp only [spn, List.length_cons]; split <;> omega
theorem spn_app : ∀ (a r : List UInt8), a.all spB = true → (∀ c q, r = c :: q → spB c = false) → spn (a ++ r) = a.length
 | [], r, _, hr => by
  cases r with
  | nil => rfl
  | cons c q => show spn (c :: q) = 0; rw [spn, if_neg (by rw [hr c q rfl]; simp)]
 | b :: a, r, h, hr => by
  simp only [List.all_cons, Bool.and_eq_true] at h
  show spn (b :: (a ++ r)) = _
  rw [spn, if_pos h.1, spn_app a r h.2 hr]; rfl
theorem i_spB_ok (b : UInt8) : i_patternReader_field_c1 (ib b) = some (spB b) := by
 rw [i_patternReader_field_c1_eq, i_isDigit_ok]
 unfold spB
 by_cases h : ib b = 45
 ·rw [if_pos (by simpa using h)]; simp [h]
 ·rw [if_neg (by simpa using h)]; simp [h]
theorem i_span_ok {s : List UInt8} (h : s.length ≤ 1000000000) : ∀ (d i : Nat), s.length - i = d → i ≤ s.length → i_span_L2__i_patternReader_field_c1 s 0 (i : Int) = some ((i + spn (s.drop i) : Nat) : Int) := by
 intro d
 induction d with
 | zero =>
  intro i hd hi
  have : i = s.length := by omega
  subst this
  rw [i_span_L2__i_patternReader_field_c1_eq, if_neg (by simp [len_eq]), w64_of (by omega) (by omega), List.drop_length]
  simp [spn]
 | succ d ih =>
  intro i hd hi
  have hlt : i < s.length := by omega
  rw [i_span_L2__i_patternReader_field_c1_eq, if_pos (by simp [len_eq]; omega), idx_nat, List.getElem?_eq_getElem hlt]
  simp only [Option.bind_some]
  rw [i_spB_ok, w64_of (n := (i : Int) + 1) (by omega) (by omega), w64_of (n := (i : Int) - 0) (by omega) (by omega), show ((i : Int) + 1) = ((i + 1 : Nat) : Int) by omega, ih (i + 1) (by omega) (by omega), List.drop_eq_getElem_cons hlt]
  simp only [Option.bind_some, spn]
  split
  ·congr 1; omega
  ·first | (congr 1; done) | (congr 1; omega)
theorem itoa_sp {n : Int} (h0 : -1000000000000000 ≤ n) (h1 : n ≤ 1000000000000000) : (Lib.itoa n).all spB = true ∧ ∃ c q, Lib.itoa n = c :: q ∧ ib c ≠ 34 := by
 have dg : ∀ u : Nat, u ≤ 1000000000000000 → (Lib.decDigits u).all spB = true ∧ ∃ c q, Lib.decDigits u = c :: q ∧ ib c ≠ 34 := by
  intro u hu
  obtain ⟨a, _, c⟩ := decd_ok 15 u (by omega)
  have hs : ∀ b : UInt8, digB b = true → spB b = true ∧ ib b ≠ 34 := fun b hb => by
   unfold digB at hb
   simp only [Bool.and_eq_true, decide_eq_true_eq] at hb
   unfold spB isDig
   rw [ib_eq]
   refine ⟨?_, by omega⟩
   have h1 : decide (48 ≤ (b.toNat : Int)) = true := by simp; omega
   have h2 : decide ((b.toNat : Int) ≤ 57) = true := by simp; omega
   rw [h1, h2]; simp
  refine ⟨List.all_eq_true.2 fun b hb => (hs b (List.all_eq_true.1 a b hb)).1, ?_⟩
  cases hd : Lib.decDigits u with
  | nil => exact absurd hd c
  | cons b q =>
   rw [hd] at a
   simp only [List.all_cons, Bool.and_eq_true] at a
   exact ⟨b, q, rfl, (hs b a.1).2⟩
 by_cases hn : n < 0
 ·have e : Lib.itoa n = 45 :: Lib.decDigits n.natAbs := by unfold Lib.itoa; rw [if_pos hn]
  rw [e]
  refine ⟨?_, 45, _, rfl, by decide⟩
  simp only [List.all_cons, Bool.and_eq_true]
  exact ⟨by decide, (dg n.natAbs (by omega)).1⟩
 ·have e : Lib.itoa n = Lib.decDigits n.toNat := by unfold Lib.itoa; rw [if_neg hn]
  rw [e]
  exact dg n.toNat (by omega)
def spR (r : List UInt8) : Prop := r = [] ∨ ∃ q, r = 32 :: q
theorem spR_34 {r : List UInt8} (h : spR r) : no34 r := by
 rcases h with rfl | ⟨q, rfl⟩
 ·trivial
 ·show ib 32 ≠ 34; decide
theorem spR_sp {r : List UInt8} (h : spR r) : ∀ c q, r = c :: q → spB c = false := by
 rcases h with rfl | ⟨q, rfl⟩
 ·intro c q h; cases h
 ·intro c q' h; cases h; decide
theorem mkF (f : TField) (b : Bool) (n : Int) (t : List UInt8) (h1 : f.fIsText = b) (h2 : f.fNum = n) (h3 : f.fText = t) : f = ⟨b, n, t⟩ := by
 obtain ⟨a, b, c⟩ := f
 simp only at h1 h2 h3
 subst h1; subst h2; subst h3; rfl
theorem i_field_ok {x : List UInt8} (n : Int) (h : x.length ≤ 100000000) : ∃ f ok rest, i_patternReader_field x n = some ((f, ok), ((rest, n, ()), ())) ∧ f.fText.length + rest.length ≤ x.length ∧
    ∀ g r, vF g = true → spR r → x = fText g ++ r → f = g ∧ ok = true ∧ rest = r := by
  rw [i_patternReader_field_eq, strings_HasPrefix_eq, hasPre1 x 34 (by omega)]
  simp only [Option.bind_some]
  have lit : ∀ l, x = 34 :: l → ∃ f ok rest, ((i_patternReader_literal x n).bind fun r198 => some (((TField.mk true (Int.ofNat 0) (Prod.fst (Prod.fst r198))), (Prod.snd (Prod.fst r198))), (((Prod.fst (Prod.fst (Prod.snd r198))), (Prod.fst (Prod.snd (Prod.fst (Prod.snd r198)))), ()), ()))) = some ((f, ok), ((rest, n, ()), ())) ∧ f.fText.length + rest.length ≤ x.length ∧
      ∀ g r, vF g = true → spR r → x = fText g ++ r → f = g ∧ ok = true ∧ rest = r := by
    intro l hx
    subst hx
    simp only [List.length_cons] at h
    have txt : ∀ g r, vF g = true → spR r → 34 :: l = fText g ++ r → g = ⟨true, 0, g.fText⟩ ∧ litR l = some (g.fText, r) := by
      intro g r hg hr e
      unfold vF at hg
      unfold fText at e
      by_cases hb : g.fIsText = true
      · rw [if_pos hb] at hg e
        have hn : g.fNum = 0 := by simpa using hg
        have e2 : l = dbl g.fText ++ 34 :: r := by
          simp only [qtext, List.cons_append, List.cons.injEq, true_and] at e
          rw [e]; simp
        exact ⟨mkF g _ _ _ hb hn rfl, by rw [e2]; exact litR_dbl _ _ (spR_34 hr)⟩
      · rw [if_neg hb] at hg e
        simp only [Bool.and_eq_true, decide_eq_true_eq] at hg
        obtain ⟨_, c, q, e3, e4⟩ := itoa_sp hg.1.1 hg.1.2
        rw [e3] at e
        have := (List.cons.inj e).1
        rw [← this] at e4
        exact (e4 (by decide)).elim
    rcases i_literal_ok (l := l) n (by omega) with ⟨t, r, h1, h2⟩ | ⟨h1, r, h2, h3⟩
    · rw [h2]
      have := litR_len h1
      refine ⟨_, _, _, rfl, by simp; omega, fun g r' hg hr e => ?_⟩
      obtain ⟨k1, k2⟩ := txt g r' hg hr e
      rw [h1] at k2
      cases k2
      exact ⟨k1.symm, rfl, rfl⟩
    · rw [h3]
      refine ⟨_, _, _, rfl, by simp; omega, fun g r' hg hr e => ?_⟩
      obtain ⟨k1, k2⟩ := txt g r' hg hr e
      rw [h1] at k2; cases k2
  have num : (∀ l, x ≠ 34 :: l) → ∃ f ok rest, ((i_span__i_patternReader_field_c1 x 0).bind fun r198 => (cut x 0 (Option.getD (Option.some r198) (len x)) : Option (List UInt8)).bind fun y197 => (parseIntE y197 : Option (Int × Bool)).bind fun y196 => (cut x r198 (Option.getD Option.none (len x)) : Option (List UInt8)).bind fun y195 => some (((TField.mk false (Prod.fst y196) []), (Prod.snd y196)), (((y195), (n), ()), ()))) = some ((f, ok), ((rest, n, ()), ())) ∧ f.fText.length + rest.length ≤ x.length ∧
      ∀ g r, vF g = true → spR r → x = fText g ++ r → f = g ∧ ok = true ∧ rest = r := by
    intro hx
    have hs := i_span_ok (s := x) (by omega) x.length 0 rfl (Nat.zero_le _)
    have hsp := spn_le x
    rw [Int.natCast_zero] at hs
    have c0 : cut x 0 ((spn x : Nat) : Int) = some (x.take (spn x)) := by
      rw [show (0 : Int) = ((0 : Nat) : Int) from rfl, cut_of (by omega) (by omega)]; simp
    have c1 : cut x ((spn x : Nat) : Int) (len x) = some (x.drop (spn x)) := by
      rw [len_eq, cut_of (by omega) (Nat.le_refl _)]; simp
    rw [i_span__i_patternReader_field_c1_eq, hs]
    simp only [Option.bind_some, Option.getD_some, Option.getD_none, List.drop_zero, Nat.zero_add]
    rw [c0, c1]
    simp only [Option.bind_some]
    obtain ⟨p, hp⟩ := parseIntE_some (s := x.take (spn x)) (by simp; omega)
    rw [hp]
    refine ⟨_, _, _, rfl, by simp, fun g r hg hr e => ?_⟩
    unfold vF at hg
    unfold fText at e
    by_cases hb : g.fIsText = true
    · rw [if_pos hb] at e
      exact (hx _ e).elim
    · rw [if_neg hb] at hg e
      simp only [Bool.and_eq_true, decide_eq_true_eq] at hg
      obtain ⟨k1, _⟩ := itoa_sp hg.1.1 hg.1.2
      have hsn : spn x = (Lib.itoa g.fNum).length := by rw [e]; exact spn_app _ _ k1 (spR_sp hr)
      rw [hsn, e, List.take_left, parseIntS_itoa15 hg.1.1 hg.1.2] at hp
      cases hp
      rw [hsn, e, List.drop_left]
      exact ⟨(mkF g false _ [] (by simpa using hb) rfl (by simpa using hg.2)).symm, rfl, rfl⟩
  cases x with
  | nil => exact num (fun l h => by cases h)
  | cons b l =>
    simp only
    by_cases hb : b = 34
    · subst hb
      rw [if_pos (by simp)]
      exact lit l rfl
    · rw [if_neg (by simpa using hb)]
      exact num (fun l' h => hb (List.cons.inj h).1)
def FT (fs : List TField) : List UInt8 := if (decide (fs.length ≤ 20000) && fs.all vF) = true then fsText fs else []
theorem i_ReadFields_end (s0 x : List UInt8) (n : Int) (acc : List TField) (h : wt acc ≤ 100000000) : i_ReadFields_L5 s0 false x n acc = some (if x = [] ∧ FT acc = s0 then ((acc, ()), (true, ()), ()) else (([], ()), (false, ()), ())) := by
 rw [i_ReadFields_L5_eq, if_neg (by simp), i_FieldsText_ok h]
 by_cases hx : x = []
 ·rw [if_neg (by simpa using hx)]
  simp only [Option.bind_some]
  have e : (if (decide (acc.length ≤ 20000) && acc.all vF) = true then fsText acc else []) = FT acc := rfl
  rw [e]
  by_cases hf : FT acc = s0
  ·rw [if_neg (by simpa using hf), if_pos ⟨hx, hf⟩]
  ·rw [if_pos (by simpa using hf), if_neg (fun h => hf h.2)]
 ·rw [if_pos (by simpa using hx), if_neg (fun h => hx h.1)]
theorem i_ReadFields_L5_tot (s0 : List UInt8) (n : Int) : ∀ (k : Nat) (x : List UInt8) (acc : List TField), x.length ≤ k → wt acc + x.length ≤ 50000000 → acc.length ≤ 20000 →
  ∃ fs ok, i_ReadFields_L5 s0 true x n acc = some ((fs, ()), (ok, ()), ()) ∧ (ok = true → FT fs = s0) ∧ (ok = false → fs = []) := by
 intro k
 induction k with
 | zero =>
  intro x acc hk hw hl
  have : x = [] := List.eq_nil_of_length_eq_zero (by omega)
  subst this
  obtain ⟨f, ok, rest, h1, h2, _⟩ := i_field_ok (x := []) n (by simp)
  rw [i_ReadFields_L5_eq, if_pos rfl, h1]
  simp only [Option.bind_some]
  cases ok with
  | false => exact ⟨[], false, rfl, fun h => (by cases h), fun _ => rfl⟩
  | true =>
   simp only [List.length_nil] at h2
   have hr : rest = [] := List.eq_nil_of_length_eq_zero (by omega)
   have hwl := wt_len acc
   simp only [Bool.not_true, Bool.false_eq_true, if_false]
   split
   ·exact ⟨[], false, rfl, fun h => (by cases h), fun _ => rfl⟩
   ·rw [app_of (by simp; omega)]
    simp only [Option.bind_some]
    rw [hr, i_has_ok 32 [] n (by simp)]
    simp only [Option.bind_some]
    rw [i_ReadFields_end _ _ _ _ (by rw [wt_app]; simp [wt]; omega)]
    split
    ·rename_i hc; exact ⟨_, true, rfl, fun _ => hc.2, fun h => (by cases h)⟩
    ·exact ⟨[], false, rfl, fun h => (by cases h), fun _ => rfl⟩
 | succ k ih =>
  intro x acc hk hw hl
  obtain ⟨f, ok, rest, h1, h2, _⟩ := i_field_ok (x := x) n (by omega)
  rw [i_ReadFields_L5_eq, if_pos rfl, h1]
  simp only [Option.bind_some]
  have hwl := wt_len acc
  cases ok with
  | false => exact ⟨[], false, rfl, fun h => (by cases h), fun _ => rfl⟩
  | true =>
   simp only [Bool.not_true, Bool.false_eq_true, if_false]
   split
   ·exact ⟨[], false, rfl, fun h => (by cases h), fun _ => rfl⟩
   ·rename_i hne
    have hne : ¬ acc.length = 20000 := by
     intro e; apply hne; rw [len_eq, e]; rfl
    rw [app_of (by simp; omega)]
    simp only [Option.bind_some]
    rw [i_has_ok 32 rest n (by omega)]
    have stop : ∀ y : List UInt8, ∃ fs ok, i_ReadFields_L5 s0 false y n (acc ++ [f]) = some ((fs, ()), (ok, ()), ()) ∧ (ok = true → FT fs = s0) ∧ (ok = false → fs = []) := by
     intro y
     rw [i_ReadFields_end _ _ _ _ (by rw [wt_app]; simp only [wt]; omega)]
     split
     ·rename_i hc; exact ⟨_, true, rfl, fun _ => hc.2, fun h => (by cases h)⟩
     ·exact ⟨[], false, rfl, fun h => (by cases h), fun _ => rfl⟩
    cases rest with
    | nil => simp only [Option.bind_some]; exact stop []
    | cons c q =>
     simp only [Option.bind_some]
     simp only [List.length_cons] at h2
     by_cases hc : c = 32
     ·rw [if_pos hc]
      simp only
      exact ih q (acc ++ [f]) (by omega) (by rw [wt_app]; simp only [wt]; omega) (by simp; omega)
     ·rw [if_neg hc]
      simp only
      exact stop (c :: q)
theorem i_ReadFields_L5_run (s0 : List UInt8) (n : Int) : ∀ (fs : List TField) (f : TField) (acc : List TField), vF f = true → fs.all vF = true → (fsText (f :: fs)).length ≤ 100000000 → acc.length + (fs.length + 1) ≤ 20000 →
  i_ReadFields_L5 s0 true (fsText (f :: fs)) n acc = i_ReadFields_L5 s0 false [] n (acc ++ f :: fs) := by
 intro fs
 induction fs with
 | nil =>
  intro f acc hf _ hl hn
  obtain ⟨g, ok, rest, h1, _, h3⟩ := i_field_ok (x := fsText [f]) n hl
  obtain ⟨rfl, rfl, rfl⟩ := h3 f [] hf (.inl rfl) rfl
  rw [i_ReadFields_L5_eq, if_pos rfl, h1]
  simp only [Option.bind_some, Bool.not_true, Bool.false_eq_true, if_false]
  rw [if_neg (by rw [len_eq]; simp; omega), app_of (by simp; omega)]
  simp only [Option.bind_some]
  rw [i_has_ok 32 [] n (by simp)]
  simp only [Option.bind_some]
 | cons f2 fs ih =>
  intro f acc hf hfs hl hn
  simp only [List.all_cons, Bool.and_eq_true] at hfs
  have e : fsText (f :: f2 :: fs) = fText f ++ 32 :: fsText (f2 :: fs) := rfl
  have hl2 : (fsText (f2 :: fs)).length ≤ 100000000 := by
   rw [e] at hl; simp only [List.length_append, List.length_cons] at hl; omega
  obtain ⟨g, ok, rest, h1, _, h3⟩ := i_field_ok (x := fsText (f :: f2 :: fs)) n hl
  obtain ⟨rfl, rfl, rfl⟩ := h3 f (32 :: fsText (f2 :: fs)) hf (.inr ⟨_, rfl⟩) e
  rw [i_ReadFields_L5_eq, if_pos rfl, h1]
  simp only [Option.bind_some, Bool.not_true, Bool.false_eq_true, if_false]
  simp only [List.length_cons] at hn
  rw [if_neg (by rw [len_eq]; simp; omega), app_of (by simp; omega)]
  simp only [Option.bind_some]
  rw [i_has_ok 32 _ n (by simp; omega)]
  simp only [if_true, Option.bind_some]
  rw [ih f2 (acc ++ [g]) hfs.1 hfs.2 hl2 (by simp; omega)]
  simp
theorem fText_ne {f : TField} (h : vF f = true) : fText f ≠ [] := by
 unfold vF at h
 unfold fText
 split
 ·simp [qtext]
 ·rename_i hf
  rw [if_neg hf] at h
  simp only [Bool.and_eq_true, decide_eq_true_eq] at h
  obtain ⟨_, c, q, e, _⟩ := itoa_sp h.1.1 h.1.2
  rw [e]; simp
def FsOk (s : List UInt8) (fs : List TField) : Prop := fs.length ≤ 20000 ∧ fs.all vF = true ∧ fsText fs = s
theorem wt_text : ∀ {fs : List TField}, fs.all vF = true → wt fs ≤ (tailT fs).length
  | [], _ => Nat.le_refl _
  | f :: r, h => by
    simp only [List.all_cons, Bool.and_eq_true] at h
    have h2 := wt_text h.2
    have h1 : f.fText.length ≤ (fText f).length := by
      have hv := h.1
      unfold vF at hv
      unfold fText
      split
      · have : ∀ t : List UInt8, t.length ≤ (dbl t).length := by
          intro t
          induction t with
          | nil => simp [dbl]
          | cons b t ih => simp only [dbl]; split <;> simp <;> omega
        have := this f.fText
        simp [qtext]; omega
      · rename_i hf
        rw [if_neg hf] at hv
        simp only [Bool.and_eq_true] at hv
        have : f.fText = [] := by simpa using hv.2
        rw [this]; simp
    simp only [wt, tailT, List.length_cons, List.length_append]
    omega
theorem i_ReadFields_ok {s : List UInt8} (h : s.length ≤ 1048576) : ∃ fs ok, i_ReadFields s = some ((fs, ()), (ok, ()), ()) ∧ (ok = true → FsOk s fs) ∧ (ok = false → fs = []) ∧ ∀ gs, FsOk s gs → fs = gs ∧ ok = true := by
 rw [i_ReadFields_eq]
 have ne : ∀ f fs, vF f = true → fsText (f :: fs) ≠ [] := fun f fs hf e => fText_ne hf (List.append_eq_nil_iff.1 e).1
 by_cases hs : s = []
 ·subst hs
  rw [if_pos (by simp)]
  refine ⟨[], true, rfl, fun _ => ⟨by simp, rfl, rfl⟩, fun h => (by cases h), fun gs hg => ?_⟩
  obtain ⟨h1, h2, h3⟩ := hg
  cases gs with
  | nil => exact ⟨rfl, rfl⟩
  | cons f r =>
   simp only [List.all_cons, Bool.and_eq_true] at h2
   exact (ne f r h2.1 h3).elim
 ·rw [if_neg (by simpa using hs)]
  obtain ⟨fs, ok, h1, h2, h3⟩ := i_ReadFields_L5_tot s 0 s.length s [] (Nat.le_refl _) (by simp [wt]; omega) (by simp)
  refine ⟨fs, ok, h1, fun hk => ?_, h3, fun gs hg => ?_⟩
  ·have := h2 hk
   unfold FT at this
   split at this
   ·rename_i hc
    simp only [Bool.and_eq_true, decide_eq_true_eq] at hc
    exact ⟨hc.1, hc.2, this⟩
   ·exact (hs this.symm).elim
  ·obtain ⟨g1, g2, g3⟩ := hg
   cases gs with
   | nil => exact (hs g3.symm).elim
   | cons f r =>
    have g2' := g2
    simp only [List.all_cons, Bool.and_eq_true] at g2
    have := i_ReadFields_L5_run s 0 r f [] g2.1 g2.2 (by rw [g3]; omega) (by simpa using g1)
    rw [g3] at this
    have hw := wt_text g2'
    rw [tailT_cons, List.length_cons, g3] at hw
    rw [this, List.nil_append, i_ReadFields_end _ _ _ _ (by omega)] at h1
    have hft : FT (f :: r) = s := by
     unfold FT
     rw [if_pos (by simp only [Bool.and_eq_true, decide_eq_true_eq]; exact ⟨g1, g2'⟩)]
     exact g3
    rw [if_pos ⟨rfl, hft⟩] at h1
    cases h1
    exact ⟨rfl, rfl⟩
end Go.Dv.U

namespace Go.Dv.U
open Go Go.Dv Go.Proofs
theorem s_l26Valid_ok (f : TField) : s_l26Valid f = some (vF f) := by
 rw [s_l26Valid_eq, s_l00In_ok]
 unfold vF
 simp only [Option.bind_some]
 split
 ·rfl
 ·by_cases ht : f.fText = []
  ·rw [if_pos (by simpa using ht), ht]; simp
  ·have : (f.fText == []) = false := by simpa using ht
   rw [this]; simp
def smF (f : TField) : Prop := f.fText.length ≤ 10 ∧ -2000000000000000 ≤ f.fNum ∧ f.fNum ≤ 2000000000000000
theorem fText_sm {f : TField} (h : smF f) : (fText f).length ≤ 40 := by
 obtain ⟨h1, h2, h3⟩ := h
 unfold fText
 split
 ·have := qtext_len f.fText; omega
 ·have := itoa_len20 (n := f.fNum) (by omega) (by omega); omega
theorem tailT_sm : ∀ {fs : List TField}, (∀ f ∈ fs, smF f) → (tailT fs).length ≤ 41 * fs.length
 | [], _ => by simp [tailT]
 | f :: r, h => by
  have h1 := fText_sm (h f (by simp))
  have h2 := tailT_sm (fs := r) (fun g hg => h g (by simp [hg]))
  simp only [tailT, List.length_cons, List.length_append]
  omega
theorem map_ib' (acc : List UInt8) : List.map (fun n : Int => UInt8.ofNat (Int.toNat n)) (acc.map ib) = acc := by
 rw [List.map_map]
 have : (fun n : Int => UInt8.ofNat (Int.toNat n)) ∘ ib = id := by
  funext b
  simp [ib_eq]
 rw [this, List.map_id]
theorem s_l26Text_L3_ok {fs : List TField} (hl : fs.length ≤ 20000) (hs : ∀ f ∈ fs, smF f) : ∀ (d i : Nat) (a : List UInt8), fs.length - i = d → 0 < i → i ≤ fs.length → a.length ≤ 100 * i → s_l26Text_L3 fs (i : Int) (a.map ib) = some (a ++ tailT (fs.drop i)) := by
 intro d
 induction d with
 | zero =>
  intro i a hd h0 hi ha
  have : i = fs.length := by omega
  subst this
  rw [s_l26Text_L3_eq, if_neg (by simp [len_eq]), map_ib', List.drop_length]
  simp [tailT]
 | succ d ih =>
  intro i a hd h0 hi ha
  have hlt : i < fs.length := by omega
  have hdr := List.drop_eq_getElem_cons hlt
  have hf := hs _ (List.getElem_mem hlt)
  have hfl := fText_sm hf
  obtain ⟨f1, f2, f3⟩ := hf
  rw [s_l26Text_L3_eq, if_pos (by simp [len_eq]; omega), if_pos (by simp; omega), app_of (by simp; omega), idx_nat, List.getElem?_eq_getElem hlt]
  simp only [Option.bind_some]
  have fin : ∀ t : List UInt8, t = fText fs[i] → (app (a.map ib ++ [32]) (List.map (fun b => ib b) t)).bind (fun y193 => s_l26Text_L4 fs (i : Int) y193) = some (a ++ tailT (fs.drop i)) := by
   intro t ht
   subst ht
   rw [app_of (by simp; omega)]
   simp only [Option.bind_some]
   rw [s_l26Text_L4_eq, w64_of (by omega) (by omega), show ((i : Int) + 1) = ((i + 1 : Nat) : Int) by omega]
   have e : (a.map ib ++ [32] ++ List.map (fun b => ib b) (fText fs[i])) = (a ++ [32] ++ fText fs[i]).map ib := by
    simp [show ib 32 = 32 from by decide]
   rw [e, ih (i + 1) _ (by omega) (by omega) (by omega) (by simp; omega), hdr]
   simp [tailT]
  split
  ·rename_i hb
   rw [s_l11Literal_ok (by omega)]
   simp only [Option.bind_some]
   exact fin _ (by unfold fText; rw [if_pos hb])
  ·rename_i hb
   rw [s_l06Digits_ok (by omega) (by omega)]
   simp only [Option.bind_some]
   exact fin _ (by unfold fText; rw [if_neg hb])
theorem s_l26Text_ok {fs : List TField} (hl : fs.length ≤ 20000) (hs : ∀ f ∈ fs, smF f) : s_l26Text fs = some (fsText fs) := by
 rw [s_l26Text_eq]
 cases fs with
 | nil => rw [s_l26Text_L3_eq, if_neg (by simp [len_eq])]; rfl
 | cons f r =>
  have hf := hs f (by simp)
  have hfl := fText_sm hf
  obtain ⟨f1, f2, f3⟩ := hf
  rw [s_l26Text_L3_eq, if_pos (by first | (simp [len_eq]; done) | (simp [len_eq]; omega)), if_neg (by simp), idx_zero]
  simp only [List.getElem?_cons_zero, Option.bind_some]
  have fin : ∀ t : List UInt8, t = fText f → (app ([] : List Int) (List.map (fun b => ib b) t)).bind (fun y193 => s_l26Text_L4 (f :: r) 0 y193) = some (fsText (f :: r)) := by
   intro t ht
   subst ht
   rw [app_of (by simp; omega)]
   simp only [Option.bind_some, List.nil_append]
   rw [s_l26Text_L4_eq, show w64 (0 + 1) = ((1 : Nat) : Int) from rfl]
   have := s_l26Text_L3_ok hl hs r.length 1 (fText f) (by simp) (by omega) (by simp) (by omega)
   simpa [fsText] using this
  split
  ·rename_i hb
   rw [s_l11Literal_ok (by omega)]
   simp only [Option.bind_some]
   exact fin _ (by unfold fText; rw [if_pos hb])
  ·rename_i hb
   rw [s_l06Digits_ok (by omega) (by omega)]
   simp only [Option.bind_some]
   exact fin _ (by unfold fText; rw [if_neg hb])
theorem s_FieldsText_ok {fs : List TField} (hl : fs.length ≤ 20000) (hs : ∀ f ∈ fs, smF f) : s_FieldsText fs = some (FT fs) := by
 have key : ∀ (d i : Nat), fs.length - i = d → i ≤ fs.length → s_FieldsText_L4 fs (i : Int) = some (if (fs.drop i).all vF = true then fsText fs else []) := by
  intro d
  induction d with
  | zero =>
   intro i hd hi
   have : i = fs.length := by omega
   subst this
   rw [s_FieldsText_L4_eq, if_neg (by simp [len_eq]), s_l26Text_ok hl hs, List.drop_length]
   rfl
  | succ d ih =>
   intro i hd hi
   have hlt : i < fs.length := by omega
   rw [s_FieldsText_L4_eq, if_pos (by simp [len_eq]; omega), idx_nat, List.getElem?_eq_getElem hlt]
   simp only [Option.bind_some, s_l26Valid_ok]
   rw [w64_of (by omega) (by omega), show ((i : Int) + 1) = ((i + 1 : Nat) : Int) by omega, ih (i + 1) (by omega) (by omega), List.drop_eq_getElem_cons hlt, List.all_cons]
   cases vF fs[i] <;> simp
 rw [s_FieldsText_eq, if_neg (by simp [len_eq]; omega)]
 have := key fs.length 0 rfl (Nat.zero_le _)
 rw [Int.natCast_zero] at this
 rw [this, List.drop_zero]
 unfold FT
 have : decide (fs.length ≤ 20000) = true := by simpa using hl
 rw [this, Bool.true_and]
def SmL (m : Nat) (fs : List TField) : Prop := fs.length ≤ m ∧ ∀ f ∈ fs, smF f
theorem SmL.add {m : Nat} {fs : List TField} {f : TField} (h : SmL m fs) (hf : smF f) : SmL (m + 1) (fs ++ [f]) := by
 refine ⟨by have := h.1; simp; omega, fun g hg => ?_⟩
 rw [List.mem_append] at hg
 rcases hg with hg | hg
 ·exact h.2 g hg
 ·simp at hg; subst hg; exact hf
theorem s_l26DrawFields_L3_ok : ∀ (k : Nat) {c : List Int} {a s B : Int} (fs : List TField) (m : Nat), k ≤ 10 → m + k ≤ 100 → SrcOk c a B → B + 10 * k ≤ 1000000000000 → SmL m fs → Dr (s_l26DrawFields_L3 (k : Int) c a s fs) (B + 10 * k + 10) (SmL (m + k + 1)) := by
 intro k
 induction k with
 | zero =>
  intro c a s B fs m hk hm h hB hf
  rw [s_l26DrawFields_L3_eq, if_neg (by simp)]
  refine (s_l00Src_one_ok 9 h (by omega)).bind fun v c2 a2 s2 h2 _ => ?_
  simp only
  split
  ·refine (s_l00Src_one_ok 2 h2 (by omega)).bind fun v2 c3 a3 s3 h3 _ => ?_
   simp only
   refine (s_l00Src_among_ok _ (by simp) h3 (by omega)).bind fun v3 c4 a4 s4 h4 hn => ?_
   simp only
   refine (s_l00Src_text_ok _ (by simp) h4 (by omega)).bind fun v4 c5 a5 s5 h5 ht => ?_
   simp only
   have h1 := hf.1
   rw [app_of (by simp; omega)]
   simp only [Option.bind_some]
   refine Dr.some (h5.le (by omega)) ?_
   have := hf.add (f := ⟨v2, v3, v4⟩) ⟨by
    have : ∀ t ∈ ([[], [120]] : List (List UInt8)), t.length ≤ 10 := by decide
    exact this _ ht, by
    have : ∀ t ∈ ([1000000000000001, 3, -1000000000000001] : List Int), -2000000000000000 ≤ t := by decide
    exact this _ hn, by
    have : ∀ t ∈ ([1000000000000001, 3, -1000000000000001] : List Int), t ≤ 2000000000000000 := by decide
    exact this _ hn⟩
   exact this
  ·exact Dr.some (h2.le (by omega)) ⟨by have := hf.1; omega, hf.2⟩
 | succ k ih =>
  intro c a s B fs m hk hm h hB hf
  have h1 := hf.1
  rw [s_l26DrawFields_L3_eq, if_pos (by first | (simp; done) | (simp; omega))]
  refine (s_l00Src_one_ok 2 h (by omega)).bind fun v c2 a2 s2 h2 _ => ?_
  simp only
  rw [w64_of (by omega) (by omega), show ((k + 1 : Nat) : Int) - 1 = (k : Int) by omega]
  split
  ·refine (s_l00Src_among_ok _ (by simp) h2 (by omega)).bind fun v3 c4 a4 s4 h4 hn => ?_
   simp only
   rw [app_of (by simp; omega)]
   simp only [Option.bind_some]
   refine (ih (fs ++ [⟨false, v3, []⟩]) (m + 1) (by omega) (by omega) h4 (by omega) (hf.add ⟨by simp, by
    have : ∀ t ∈ ([0, 1, -1, 42, 1000000000000000, -1000000000000000, -900] : List Int), -2000000000000000 ≤ t := by decide
    exact this _ hn, by
    have : ∀ t ∈ ([0, 1, -1, 42, 1000000000000000, -1000000000000000, -900] : List Int), t ≤ 2000000000000000 := by decide
    exact this _ hn⟩)).le (by omega) fun v (hv : SmL (m + 1 + k + 1) v) => show SmL (m + (k + 1) + 1) v from ⟨by have := hv.1; omega, hv.2⟩
  ·refine (s_l00Src_text_ok _ (by simp) h2 (by omega)).bind fun v3 c4 a4 s4 h4 ht => ?_
   simp only
   rw [app_of (by simp; omega)]
   simp only [Option.bind_some]
   refine (ih (fs ++ [⟨true, Int.ofNat 0, v3⟩]) (m + 1) (by omega) (by omega) h4 (by omega) (hf.add ⟨by
    have : ∀ t ∈ ([[], [97], [97, 34, 98], [34], [32], [49], [10], [35, 53]] : List (List UInt8)), t.length ≤ 10 := by decide
    exact this _ ht, by show (-2000000000000000 : Int) ≤ 0; decide, by show (0 : Int) ≤ 2000000000000000; decide⟩)).le (by omega) fun v (hv : SmL (m + 1 + k + 1) v) => show SmL (m + (k + 1) + 1) v from ⟨by have := hv.1; omega, hv.2⟩
theorem s_l26DrawFields_ok {x : List Int} (h : BytesOk x) : Dr (s_l26DrawFields x 0 0) 1000 (SmL 10) := by
 have h0 : SrcOk x 0 0 := ⟨h.2, h.1, by omega, by omega⟩
 rw [s_l26DrawFields_eq]
 refine (s_l00Src_pick_ok 6 h0 (by omega)).bind fun v c2 a2 s2 h2 hv => ?_
 simp only
 obtain ⟨m, rfl⟩ : ∃ m : Nat, v = m := ⟨v.toNat, by omega⟩
 have := hv.2.1 (by decide)
 exact (s_l26DrawFields_L3_ok m [] 0 (by omega) (by omega) h2 (by omega) ⟨by simp, fun f hf => by cases hf⟩).le (by omega) fun v hv => ⟨by have := hv.1; omega, hv.2⟩
theorem wt_sm : ∀ {fs : List TField}, (∀ f ∈ fs, smF f) → wt fs ≤ 11 * fs.length
 | [], _ => Nat.le_refl _
 | f :: r, h => by
  have h1 := (h f (by simp)).1
  have h2 := wt_sm (fs := r) (fun g hg => h g (by simp [hg]))
  simp only [wt, List.length_cons]; omega
theorem fsText_sm {fs : List TField} (h : SmL 10 fs) : (fsText fs).length ≤ 1000 := by
 cases fs with
 | nil => simp [fsText]
 | cons f r =>
  have h1 := fText_sm (h.2 f (by simp))
  have h2 := tailT_sm (fs := r) (fun g hg => h.2 g (by simp [hg]))
  have := h.1
  simp only [List.length_cons] at this
  simp only [fsText, List.length_append]
  omega
theorem cut_tot2 {s : List UInt8} {a b : Int} (h0 : 0 ≤ a) (h1 : a ≤ b) (h2 : b ≤ s.length) : ∃ t, cut s a b = some t ∧ t.length ≤ s.length := by
 obtain ⟨n, rfl⟩ : ∃ n : Nat, a = n := ⟨a.toNat, by omega⟩
 obtain ⟨m, rfl⟩ : ∃ m : Nat, b = m := ⟨b.toNat, by omega⟩
 exact ⟨_, cut_of (by omega) (by omega), by simp; omega⟩
theorem s_DrawReadFields_ok {x : List Int} (h : BytesOk x) : ∃ t, s_DrawReadFields x = some t ∧ t.length ≤ 10000 := by
 rw [s_DrawReadFields_eq]
 obtain ⟨fs, c, a, s, e, h1, hf⟩ := s_l26DrawFields_ok h
 have htl := fsText_sm hf
 rw [e]
 simp only [Option.bind_some]
 rw [s_l26Text_ok (by have := hf.1; omega) hf.2]
 simp only [Option.bind_some]
 generalize fsText fs = t at htl
 obtain ⟨v2, c2, a2, s2, e2, h2, _⟩ := s_l00Src_one_ok 2 h1 (by omega)
 rw [e2]
 simp only [Option.bind_some]
 split
 ·exact ⟨_, rfl, by omega⟩
 split
 ·exact ⟨_, rfl, by omega⟩
 ·rename_i hne
  have hpos : 1 ≤ t.length := by
   cases t with
   | nil => simp at hne
   | cons => simp
  obtain ⟨at_, c3, a3, s3, e3, h3, hp⟩ := s_l00Src_pick_ok (len t) h2 (by omega)
  rw [e3]
  simp only [Option.bind_some]
  rw [len_eq] at hp ⊢
  have ha : 0 ≤ at_ ∧ at_ < t.length := by
   obtain ⟨p1, p2, p3⟩ := hp
   refine ⟨p1, ?_⟩
   by_cases h1 : (1 : Int) < t.length
   ·exact p2 h1
   ·have := p3 (by omega); omega
  simp only [Option.getD_some, Option.getD_none]
  obtain ⟨t1, k1, l1⟩ := cut_tot2 (s := t) (a := 0) (b := at_) (by omega) ha.1 (by omega)
  rw [k1]
  simp only [Option.bind_some]
  obtain ⟨u, c5, a5, s5, e5, h5, hu⟩ := s_l00Src_text_ok ([[], [32], [48], [34], [45], [120]]) (by simp) h3 (by omega)
  rw [e5]
  simp only [Option.bind_some]
  have hul : u.length ≤ 10 := by
   have : ∀ t ∈ ([[], [32], [48], [34], [45], [120]] : List (List UInt8)), t.length ≤ 10 := by decide
   exact this _ hu
  rw [app_of (by omega)]
  simp only [Option.bind_some]
  obtain ⟨q, c6, a6, s6, e6, h6, hq⟩ := s_l00Src_pick_ok 2 h5 (by omega)
  rw [e6]
  simp only [Option.bind_some]
  have hq2 := hq.2.1 (by decide)
  rw [w64_of (by omega) (by omega)]
  obtain ⟨t2, k2, l2⟩ := cut_tot2 (s := t) (a := at_ + q) (b := t.length) (by omega) (by omega) (by omega)
  rw [k2]
  simp only [Option.bind_some]
  rw [app_of (by simp; omega)]
  exact ⟨_, rfl, by simp; omega⟩
theorem FT_of {s : List UInt8} {fs : List TField} (h : FsOk s fs) : FT fs = s := by
 obtain ⟨h1, h2, h3⟩ := h
 unfold FT
 rw [if_pos (by simp [h1, h2])]
 exact h3
theorem l_FnFields_L16_ok {y : List Int} (hy : BytesOk y) : l_FnFields_L16 y = some true := by
 rw [l_FnFields_L16_eq]
 obtain ⟨s, hs, hsl⟩ := s_DrawReadFields_ok hy
 obtain ⟨fs, ok, h1, h2, _, _⟩ := i_ReadFields_ok (s := s) (by omega)
 rw [hs]
 simp only [Option.bind_some]
 rw [h1]
 simp only [Option.bind_some]
 cases ok with
 | false => simp
 | true =>
  have hf := h2 rfl
  simp only [Bool.not_true, Bool.false_eq_true, if_false]
  have hw : wt fs ≤ 100000000 := by
   cases fs with
   | nil => simp [wt]
   | cons f r =>
    have := wt_text hf.2.1
    rw [tailT_cons, List.length_cons, hf.2.2] at this
    omega
  have e := i_FieldsText_ok hw
  have e2 : (if (decide (fs.length ≤ 20000) && fs.all vF) = true then fsText fs else []) = FT fs := rfl
  rw [e, e2, FT_of hf]
  simp
theorem l_FnFields_L12_ok {y : List Int} (hy : BytesOk y) {fs : List TField} (hl : fs.length ≤ 20000) : ∀ (d i : Nat), fs.length - i = d → i ≤ fs.length → l_FnFields_L12 y fs (i : Int) fs = some true := by
 intro d
 induction d with
 | zero =>
  intro i hd hi
  rw [l_FnFields_L12_eq, if_neg (by simp [len_eq]; omega)]
  exact l_FnFields_L16_ok hy
 | succ d ih =>
  intro i hd hi
  have hlt : i < fs.length := by omega
  rw [l_FnFields_L12_eq, if_pos (by simp [len_eq]; omega), idx_nat, List.getElem?_eq_getElem hlt]
  simp only [Int.toNat_natCast, List.getElem?_eq_getElem hlt, Option.bind_some, beq_self_eq_true, Bool.and_true, Bool.not_true, Bool.false_eq_true, if_false, bne_self_eq_false]
  rw [w64_of (by omega) (by omega), show ((i : Int) + 1) = ((i + 1 : Nat) : Int) by omega]
  exact ih (i + 1) (by omega) (by omega)
theorem l_FnFields_ok {x y : List Int} (hx : BytesOk x) (hy : BytesOk y) : l_FnFields x y = some true := by
 rw [l_FnFields_eq, l_b10Long_eq, l_b10Long_eq]
 simp only [Option.bind_some]
 split
 ·rfl
 split
 ·rfl
 obtain ⟨fs, c, a, s, e, h1, hf⟩ := s_l26DrawFields_ok hx
 have hl := hf.1
 rw [s_DrawFieldsText_eq, e]
 simp only [Option.bind_some]
 have hw := wt_sm hf.2
 rw [i_FieldsText_ok (by omega), s_FieldsText_ok (by omega) hf.2]
 have e2 : (if (decide (fs.length ≤ 20000) && fs.all vF) = true then fsText fs else []) = FT fs := rfl
 rw [e2]
 simp only [Option.bind_some, beq_self_eq_true, Bool.not_true, Bool.false_eq_true, if_false]
 by_cases hne : FT fs = []
 ·rw [if_neg (by rw [hne]; simp)]
  exact l_FnFields_L16_ok hy
 ·rw [if_pos (by simpa using hne)]
  have hok : FsOk (FT fs) fs := by
   unfold FT at hne ⊢
   by_cases hc : (decide (fs.length ≤ 20000) && fs.all vF) = true
   ·rw [if_pos hc]
    simp only [Bool.and_eq_true, decide_eq_true_eq] at hc
    exact ⟨hc.1, hc.2, rfl⟩
   ·rw [if_neg hc] at hne; exact (hne rfl).elim
  have hfl := fsText_sm hf
  have hftl : (FT fs).length ≤ 1000 := by rw [← hok.2.2]; exact hfl
  obtain ⟨gs, ok, k1, _, _, k4⟩ := i_ReadFields_ok (s := FT fs) (by omega)
  obtain ⟨rfl, rfl⟩ := k4 fs hok
  rw [k1]
  simp only [Option.bind_some, Bool.not_true, Bool.false_eq_true, if_false, bne_self_eq_false]
  rw [l_FnFields_L11_eq]
  have := l_FnFields_L12_ok hy (fs := gs) (by omega) gs.length 0 rfl (Nat.zero_le _)
  rw [Int.natCast_zero] at this
  exact this
end Go.Dv.U
