/- Plain laws about these equations. -/
import Derived.Test.YtgemfdbjkbhgbaaDoorFnQuoteEqa
set_option linter.all false
set_option linter.unusedVariables false
set_option linter.unusedSimpArgs false
namespace Go.Dv.U

open Go Go.Dv Go.Proofs

def isLet (b : Int) : Bool := (decide (65 ≤ b) && decide (b ≤ 90)) || (decide (97 ≤ b) && decide (b ≤ 122))

def isDig (b : Int) : Bool := decide (48 ≤ b) && decide (b ≤ 57)

theorem i_isLetter_ok (b : Int) : i_isLetter b = some (isLet b) := by
  rw [i_isLetter_eq]; unfold isLet; grind

theorem i_isDigit_ok (b : Int) : i_isDigit b = some (isDig b) := by
  rw [i_isDigit_eq]; unfold isDig; grind

end Go.Dv.U

namespace Go.Dv.U

open Go Go.Dv Go.Proofs

def isPl (b : UInt8) : Bool := decide (32 ≤ ib b) && decide (ib b ≤ 126)

def allPl (s : List UInt8) : Bool := s.all isPl

def hasB (c : Int) (s : List UInt8) : Bool := s.any fun b => ib b == c

theorem i_isPlain_ok (b : Int) : i_isPlain b = some (decide (32 ≤ b) && decide (b ≤ 126)) := by
  rw [i_isPlain_eq]; grind

theorem i_isPlainText_ok {s : List UInt8} (h : s.length ≤ 9223372036854775807) : i_isPlainText s = some (allPl s) := by
  rw [i_isPlainText_eq, i_areAll_byte__i_isPlain_eq]
  have := all_loop (xs := s.map ib) (by simpa using h) (F := i_isPlain) (p := fun b => decide (32 ≤ b) && decide (b ≤ 126)) (J := i_areAll_byte_L2__i_isPlain (s.map ib) (len (s.map ib))) (fun i => by rw [i_areAll_byte_L2__i_isPlain_eq]) (fun y _ => i_isPlain_ok y)
  rw [this, List.all_map]
  rfl

def isPr (x : Bool) (b : UInt8) : Bool := isPl b || (x && ib b == 10)

theorem s_l01Printable_ok' {s : List UInt8} (h : s.length ≤ 9223372036854775807) (x : Bool) : s_l01Printable s x = some (s.all (isPr x)) := by
  rw [s_l01Printable_eq]
  refine loop_ind (xs := s) h (P := fun i l => s_l01Printable_L2 s x i = some (l.all (isPr x))) ?_ ?_
  · rw [s_l01Printable_L2_eq]; simp [len_eq]
  · intro i y l _ hlt hy hi hw ih
    rw [s_l01Printable_L2_eq, hi, if_pos (by simp [len_eq, hlt])]
    simp only [Option.bind_some, s_l01Printable_L5_eq, s_l01Printable_L3_eq, hw, ih, List.all_cons, isPr, isPl]
    by_cases h1 : ib y < 32
    · have h3 : ¬ (32 ≤ ib y) := by omega
      cases x <;> by_cases h2 : ib y = 10 <;> simp [h1, h2, h3]
    · have h3 : 32 ≤ ib y := by omega
      by_cases h2 : ib y > 126
      · have h4 : ¬ (ib y ≤ 126) := by omega
        have h5 : ¬ ib y = 10 := by omega
        cases x <;> simp [h1, h2, h3, h4, h5]
      · have h4 : ib y ≤ 126 := by omega
        cases x <;> simp [h1, h2, h3, h4]

theorem s_l01Printable_ok {s : List UInt8} (h : s.length ≤ 9223372036854775807) : s_l01Printable s false = some (allPl s) := by
  rw [s_l01Printable_ok' h]
  congr 1
  unfold allPl
  congr 1
  funext b
  simp [isPr]

theorem s_l02Holds_ok {s : List UInt8} (h : s.length ≤ 9223372036854775807) (c : Int) : s_l02Holds s c = some (hasB c s) := by
  rw [s_l02Holds_eq]
  exact any_loop h (p := fun b => ib b == c) (J := s_l02Holds_L2 s c) (fun i => by rw [s_l02Holds_L2_eq])

theorem index_one (c : UInt8) : ∀ s : List UInt8, decide (0 ≤ Lib.index s [c]) = hasB (ib c) s
  | [] => by simp [Lib.index, hasB]
  | b :: l => by
    have ih := index_one c l
    have hge := Lib.index_ge l [c]
    unfold Lib.index
    have hp : [c].isPrefixOf (b :: l) = (ib b == ib c) := by
      rw [Bool.eq_iff_iff]
      simp only [List.isPrefixOf, Bool.and_true, beq_iff_eq, ib_inj]
      exact eq_comm
    have hh : hasB (ib c) (b :: l) = (ib b == ib c || hasB (ib c) l) := rfl
    rw [hp, hh, ← ih]
    cases (ib b == ib c)
    · simp only [Bool.false_eq_true, if_false, Bool.false_or]
      split
      · rename_i h; rw [beq_iff_eq] at h; rw [h]
      · rename_i h
        have h : ¬ Lib.index l [c] = -1 := by simpa using h
        rw [Bool.eq_iff_iff, decide_eq_true_eq, decide_eq_true_eq]; omega
    · simp

theorem containsS_one {s : List UInt8} (h : s.length < 4294967281) (c : UInt8) : containsS s [c] = some (hasB (ib c) s) := by
  unfold containsS
  rw [if_pos h, ← index_one]
  rfl

def canQ (s : List UInt8) : Bool := decide (s.length ≤ 200) && allPl s && !(hasB 39 s && hasB 34 s)

def quote (s : List UInt8) : List UInt8 := if canQ s = true then (if hasB 39 s = true then 34 :: s ++ [34] else 39 :: s ++ [39]) else []

theorem c39 (s : List UInt8) (h : s.length ≤ 200) : containsS s [39] = some (hasB 39 s) := containsS_one (by omega) 39

theorem c34 (s : List UInt8) (h : s.length ≤ 200) : containsS s [34] = some (hasB 34 s) := containsS_one (by omega) 34

theorem i_CanQuote_ok (s : List UInt8) : i_CanQuote s = some (canQ s) := by
  rw [i_CanQuote_eq]
  by_cases h : s.length ≤ 200
  · have h1 : decide (len s ≤ 200) = true := by simp only [len_eq, decide_eq_true_eq]; omega
    rw [if_pos h1, i_isPlainText_ok (by omega), c39 s h, c34 s h]
    simp only [Option.bind_some, canQ, h, decide_true, Bool.true_and]
    cases allPl s <;> cases hasB 39 s <;> simp
  · have h1 : ¬ decide (len s ≤ 200) = true := by simp only [len_eq, decide_eq_true_eq]; omega
    rw [if_neg h1]
    simp [canQ, h]

theorem s_CanQuote_ok (s : List UInt8) : s_CanQuote s = some (canQ s) := by
  rw [s_CanQuote_eq]
  by_cases h : s.length ≤ 200
  · have h1 : decide (len s ≤ 200) = true := by simp only [len_eq, decide_eq_true_eq]; omega
    rw [if_pos h1, s_l01Printable_ok (by omega), s_l02Holds_ok (by omega), s_l02Holds_ok (by omega)]
    simp only [Option.bind_some, canQ, h, decide_true, Bool.true_and]
    cases allPl s <;> cases hasB 39 s <;> simp
  · have h1 : ¬ decide (len s ≤ 200) = true := by simp only [len_eq, decide_eq_true_eq]; omega
    rw [if_neg h1]
    simp [canQ, h]

theorem canQ_len {s : List UInt8} (h : canQ s = true) : s.length ≤ 200 := by
  unfold canQ at h
  simp only [Bool.and_eq_true_iff, decide_eq_true_eq] at h
  exact h.1.1

theorem i_QuoteString_ok (s : List UInt8) : i_QuoteString s = some (quote s) := by
  rw [i_QuoteString_eq, i_CanQuote_ok]
  simp only [Option.bind_some, quote]
  cases h : canQ s
  · rfl
  · have hl := canQ_len h
    simp only [Bool.not_true, Bool.false_eq_true, if_false, if_true, c39 s hl, Option.bind_some]
    rw [app_of (by simp; omega), app_of (by simp; omega)]
    simp only [Option.bind_some]
    rw [app_of (by simp; omega), app_of (by simp; omega)]
    cases hasB 39 s <;> rfl

end Go.Dv.U

namespace Go.Dv.U

open Go Go.Dv Go.Proofs

def SrcOk (c : List Int) (a B : Int) : Prop := (∀ y ∈ c, 0 ≤ y ∧ y ≤ 255) ∧ c.length ≤ 9223372036854775807 ∧ 0 ≤ a ∧ a ≤ B

def Dr {α : Type} (o : Option (α × ((List Int × Int × Int × Unit) × Unit))) (B : Int) (P : α → Prop) : Prop := ∃ v c a s, o = some (v, ((c, a, s, ()), ())) ∧ SrcOk c a B ∧ P v

theorem SrcOk.le {c : List Int} {a B B' : Int} (h : SrcOk c a B) (hb : B ≤ B') : SrcOk c a B' := ⟨h.1, h.2.1, h.2.2.1, by have := h.2.2.2; omega⟩

theorem Dr.le {α : Type} {o : Option (α × ((List Int × Int × Int × Unit) × Unit))} {B B' : Int} {P Q : α → Prop} (h : Dr o B P) (hb : B ≤ B') (hq : ∀ v, P v → Q v) : Dr o B' Q := by
  obtain ⟨v, c, a, s, h1, h2, h3⟩ := h
  exact ⟨v, c, a, s, h1, h2.le hb, hq v h3⟩

/-- one draw behind another -/
theorem Dr.bind {α β : Type} {o : Option (α × ((List Int × Int × Int × Unit) × Unit))} {B B' : Int} {P : α → Prop} {Q : β → Prop} {k : α × ((List Int × Int × Int × Unit) × Unit) → Option (β × ((List Int × Int × Int × Unit) × Unit))}
    (h : Dr o B P) (hk : ∀ v c a s, SrcOk c a B → P v → Dr (k (v, ((c, a, s, ()), ()))) B' Q) : Dr (o.bind k) B' Q := by
  obtain ⟨v, c, a, s, rfl, h2, h3⟩ := h
  exact hk v c a s h2 h3

theorem Dr.some {α : Type} {v : α} {c : List Int} {a s B : Int} {P : α → Prop} (h : SrcOk c a B) (hp : P v) : Dr (Option.some (v, ((c, a, s, ()), ()))) B P := ⟨v, c, a, s, rfl, h, hp⟩

theorem and255 (y : Int) : 0 ≤ w64 (bitsOp Go.BinOp.and Go.IntKind.u64 y 255) ∧ w64 (bitsOp Go.BinOp.and Go.IntKind.u64 y 255) ≤ 255 := by
  have h : (BitVec.ofInt IntKind.u64.bits y &&& BitVec.ofInt IntKind.u64.bits 255).toNat ≤ 255 := by
    rw [BitVec.toNat_and]
    exact Nat.le_trans Nat.and_le_right (by decide)
  have e : bitsOp Go.BinOp.and Go.IntKind.u64 y 255 = ((BitVec.ofInt IntKind.u64.bits y &&& BitVec.ofInt IntKind.u64.bits 255).toNat : Int) := by
    show IntKind.u64.wrap _ = _
    generalize (BitVec.ofInt IntKind.u64.bits y &&& BitVec.ofInt IntKind.u64.bits 255).toNat = m at h
    unfold IntKind.wrap
    simp [IntKind.bits, IntKind.signed]
    omega
  rw [e, w64_of (by omega) (by omega)]
  omega

theorem s_l00Src_next_ok {c : List Int} {a s B : Int} (h : SrcOk c a B) (hB : B ≤ 4611686018427387904) : Dr (s_l00Src_next c a s) (B + 1) (fun v => 0 ≤ v ∧ v ≤ 255) := by
  obtain ⟨h1, h2, h3, h4⟩ := h
  have hs : SrcOk c (w64 (a + 1)) (B + 1) := ⟨h1, h2, by rw [w64_of (by omega) (by omega)]; omega, by rw [w64_of (by omega) (by omega)]; omega⟩
  rw [s_l00Src_next_eq]
  have hsh : ∀ x : Int, shr Go.IntKind.u64 x 40 = some (x.fdiv (2 ^ (min (Int.toNat 40) Go.IntKind.u64.bits))) := fun x => rfl
  simp only [hsh, Option.bind_some]
  by_cases hlt : a < c.length
  · obtain ⟨n, rfl⟩ : ∃ n : Nat, a = n := ⟨a.toNat, by omega⟩
    have hn : n < c.length := by omega
    rw [if_pos (by simpa [len_eq] using hlt), idx_nat, List.getElem?_eq_getElem hn]
    have hy := h1 _ (List.getElem_mem hn)
    simp only [Option.bind_some]
    split
    · exact Dr.some hs (by rw [w64_of (by omega) (by omega)]; exact hy)
    · exact Dr.some hs (and255 _)
  · rw [if_neg (by simpa [len_eq] using hlt)]
    split
    · exact Dr.some hs (by omega)
    · exact Dr.some hs (and255 _)

theorem rem_of {x n : Int} (hx : 0 ≤ x) (hn : 1 < n) : ∃ y, rem x n = some y ∧ 0 ≤ y ∧ y < n := by
  unfold rem
  rw [if_neg (by omega)]
  refine ⟨_, rfl, ?_, ?_⟩
  · rw [Int.tmod_eq_emod_of_nonneg hx]; exact Int.emod_nonneg _ (by omega)
  · rw [Int.tmod_eq_emod_of_nonneg hx]; exact Int.emod_lt_of_pos _ (by omega)

theorem s_l00Src_pick_ok (n : Int) {c : List Int} {a s B : Int} (h : SrcOk c a B) (hB : B ≤ 4611686018427387000) : Dr (s_l00Src_pick n c a s) (B + 2) (fun v => 0 ≤ v ∧ (1 < n → v < n) ∧ (n ≤ 1 → v = 0)) := by
  rw [s_l00Src_pick_eq]
  by_cases h1 : n ≤ 1
  · rw [if_pos (by simpa using h1)]
    exact Dr.some (h.le (by omega)) ⟨by omega, fun h => by omega, fun _ => rfl⟩
  rw [if_neg (by simpa using h1)]
  refine (s_l00Src_next_ok h (by omega)).bind fun v c2 a2 s2 h2 hv => ?_
  simp only
  by_cases h3 : n > 200
  · rw [if_pos (by simpa using h3)]
    refine (s_l00Src_next_ok h2 (by omega)).bind fun v2 c3 a3 s3 h4 hv2 => ?_
    simp only
    rw [w64_of (n := v * 256) (by omega) (by omega), w64_of (by omega) (by omega)]
    obtain ⟨y, hy, y0, y1⟩ := rem_of (x := v * 256 + v2) (n := n) (by omega) (by omega)
    rw [hy]
    exact Dr.some (h4.le (by omega)) ⟨y0, fun _ => y1, fun h => by omega⟩
  · rw [if_neg (by simpa using h3)]
    obtain ⟨y, hy, y0, y1⟩ := rem_of (x := v) (n := n) (by omega) (by omega)
    rw [hy]
    exact Dr.some (h2.le (by omega)) ⟨y0, fun _ => y1, fun h => by omega⟩

theorem s_l00Src_one_ok (n : Int) {c : List Int} {a s B : Int} (h : SrcOk c a B) (hB : B ≤ 4611686018427387000) : Dr (s_l00Src_one n c a s) (B + 2) (fun _ => True) := by
  rw [s_l00Src_one_eq]
  exact (s_l00Src_pick_ok n h hB).bind fun v c2 a2 s2 h2 hv => Dr.some h2 trivial

theorem pick_idx {α : Type} {xs : List α} {v : Int} (hv : 0 ≤ v ∧ (1 < (len xs) → v < len xs) ∧ (len xs ≤ 1 → v = 0)) (hx : xs ≠ []) : ∃ y, idx xs v = some y ∧ y ∈ xs := by
  have hp : 0 < xs.length := List.length_pos_iff.2 hx
  rw [len_eq] at hv
  have hlt : v.toNat < xs.length := by
    by_cases h : (1 : Int) < xs.length
    · have := hv.2.1 h; omega
    · have := hv.2.2 (by omega); omega
  exact ⟨xs[v.toNat], by rw [idx_of hv.1, List.getElem?_eq_getElem hlt], List.getElem_mem hlt⟩

theorem s_l00Src_text_ok (xs : List (List UInt8)) (hx : xs ≠ []) {c : List Int} {a s B : Int} (h : SrcOk c a B) (hB : B ≤ 4611686018427387000) : Dr (s_l00Src_text xs c a s) (B + 2) (fun v => v ∈ xs) := by
  rw [s_l00Src_text_eq]
  refine (s_l00Src_pick_ok _ h hB).bind fun v c2 a2 s2 h2 hv => ?_
  obtain ⟨y, hy, hm⟩ := pick_idx hv hx
  simp only [hy, Option.bind_some]
  exact Dr.some h2 hm

end Go.Dv.U

namespace Go.Dv.U

open Go Go.Dv Go.Proofs

theorem i_first2_ok (a b : Int) : i_first [a, b] = some (if a ≠ 0 then a else b) := by
  rw [i_first_eq]
  have e2 : len [a, b] = 2 := rfl
  have w1 : w64 (0 + 1) = 1 := by decide
  have w2 : w64 (1 + 1) = 2 := by decide
  rw [e2, i_first_L2_eq, if_pos (by decide), idx_zero]
  simp only [List.getElem?_cons_zero, Option.bind_some]
  by_cases ha : a = 0
  · subst ha
    rw [if_neg (by simp), w1, i_first_L2_eq, if_pos (by decide), idx_one]
    simp only [List.getElem?_cons_succ, List.getElem?_cons_zero, Option.bind_some]
    by_cases hb : b = 0
    · subst hb
      rw [if_neg (by simp), w2, i_first_L2_eq, if_neg (by decide)]
      simp
    · rw [if_pos (by simpa using hb)]; simp
  · rw [if_pos (by simpa using ha), if_pos ha]

theorem i_unless_ok (b : Bool) (n : Int) : i_unless b n = some (if b = true then 0 else n) := by
  rw [i_unless_eq, ite_some]

/-- the run of bytes that are not a quote -/
theorem span_c1_ok {x : List UInt8} (hx : x.length ≤ 1000000) (q : Int) (a : Nat) : ∀ (m : List UInt8) (j : Nat) (b : UInt8) (r : List UInt8), x.drop j = m ++ b :: r → a ≤ j → (∀ c ∈ m, ib c ≠ q) → ib b = q →
    i_span_L2__i_scanToken_c1 x (a : Int) q (j : Int) = some (((j + m.length - a : Nat)) : Int) := by
  intro m
  induction m with
  | nil =>
    intro j b r hd ha hm hb
    have hlt : j < x.length := by
      by_cases h : j < x.length
      · exact h
      · rw [List.drop_eq_nil_of_le (by omega)] at hd; simp at hd
    have hget : x[j] = b := by
      rw [List.drop_eq_getElem_cons hlt] at hd
      simp only [List.nil_append, List.cons.injEq] at hd
      exact hd.1
    rw [i_span_L2__i_scanToken_c1_eq, if_pos (by simpa [len_eq] using hlt), idx_nat, List.getElem?_eq_getElem hlt, hget]
    simp only [Option.bind_some, i_scanToken_c1_eq, hb]
    rw [if_neg (by simp), w64_of (by omega) (by omega)]
    congr 1; simp; omega
  | cons c m ih =>
    intro j b r hd ha hm hb
    have hlt : j < x.length := by
      by_cases h : j < x.length
      · exact h
      · rw [List.drop_eq_nil_of_le (by omega)] at hd; simp at hd
    have hd2 := hd
    rw [List.drop_eq_getElem_cons hlt] at hd2
    simp only [List.cons_append, List.cons.injEq] at hd2
    have hc := hm c (by simp)
    rw [i_span_L2__i_scanToken_c1_eq, if_pos (by simpa [len_eq] using hlt), idx_nat, List.getElem?_eq_getElem hlt, hd2.1]
    simp only [Option.bind_some, i_scanToken_c1_eq]
    rw [if_pos (by simpa using hc), w64_of (by omega) (by omega)]
    have := ih (j + 1) b r hd2.2 (by omega) (fun d hd => hm d (by simp [hd])) hb
    rw [show ((j : Int) + 1) = ((j + 1 : Nat) : Int) by omega, this]
    congr 1; simp; omega

theorem scanQ {s : List UInt8} {b : UInt8} (hb : b = 39 ∨ b = 34) (hl : s.length ≤ 200) (hn : ∀ c ∈ s, ib c ≠ ib b) (hp : allPl s = true) :
    i_ScanTokens (b :: s ++ [b]) = some ([⟨3, 0, s, true, true⟩], 0, 0) := by
  have hib : ib b = 39 ∨ ib b = 34 := by rcases hb with rfl | rfl <;> decide
  have hlen : (b :: s ++ [b]).length = s.length + 2 := by simp
  have hL : len (b :: s ++ [b]) = ((s.length + 2 : Nat) : Int) := by rw [len_eq, hlen]
  have hpl : allPl (b :: s ++ [b]) = true := by
    have h1 : isPl b = true := by rcases hb with rfl | rfl <;> decide
    unfold allPl at hp ⊢
    simp [h1]
    simpa using hp
  rw [i_ScanTokens_eq, hL, if_neg (by simp; omega), i_isPlainText_ok (by omega), hpl]
  simp only [Option.bind_some, Bool.not_true, Bool.false_eq_true, if_false]
  rw [i_ScanTokens_L5_eq, hL, if_pos (by simp; omega)]
  have hsp : i_span__i_ScanTokens_c1 (b :: s ++ [b]) 0 = some 0 := by
    rw [i_span__i_ScanTokens_c1_eq, i_span_L2__i_ScanTokens_c1_eq, if_pos (by rw [hL]; simp; omega), idx_zero]
    simp only [List.cons_append, List.getElem?_cons_zero, Option.bind_some, i_ScanTokens_c1_eq]
    rw [if_neg (by simp; omega)]
    rfl
  have hd1 : (b :: s ++ [b]).drop 1 = s ++ b :: [] := rfl
  have hsc : i_span__i_scanToken_c1 (b :: s ++ [b]) 1 (ib b) = some (s.length : Int) := by
    rw [i_span__i_scanToken_c1_eq]
    have := span_c1_ok (x := b :: s ++ [b]) (by omega) (ib b) 1 s 1 b [] hd1 (Nat.le_refl _) hn rfl
    rw [show (1 : Int) = ((1 : Nat) : Int) from rfl, this]
    congr 1; omega
  have hw1 : w64 (0 + 1) = 1 := by decide
  have hw2 : w64 (1 + (s.length : Int)) = ((1 + s.length : Nat) : Int) := by rw [w64_of (by omega) (by omega)]; omega
  have hw3 : w64 ((s.length : Int) + 2) = ((s.length + 2 : Nat) : Int) := by rw [w64_of (by omega) (by omega)]; omega
  have hcut : cut (b :: s ++ [b]) 1 (Option.getD (some (((1 + s.length : Nat)) : Int)) ((s.length + 2 : Nat) : Int)) = some s := by
    have := cut_of (xs := b :: s ++ [b]) (a := 1) (b := 1 + s.length) (by omega) (by omega)
    rw [Option.getD_some]
    rw [show (1 : Int) = ((1 : Nat) : Int) from rfl, this]
    congr 1
    rw [List.drop_take, hd1]
    simp
  have hst : i_scanToken (b :: s ++ [b]) 0 = some (⟨3, 0, s, false, false⟩, ((s.length + 2 : Nat) : Int), true) := by
    rw [i_scanToken_eq, idx_zero]
    have h0 : (b :: s ++ [b])[0]? = some b := rfl
    rw [h0]
    have hL1 : isLet (ib b) = false := by rcases hib with h | h <;> rw [h] <;> decide
    have hD1 : isDig (ib b) = false := by rcases hib with h | h <;> rw [h] <;> decide
    simp only [Option.bind_some, i_isLetter_ok, i_isDigit_ok, hL1, hD1, Bool.false_eq_true, if_false, hw1, hsc, hL, hw2, hcut]
    have ht : decide (((1 + s.length : Nat) : Int) < ((s.length + 2 : Nat) : Int)) = true := by simp; omega
    have h200 : decide ((s.length : Int) ≤ 200) = true := by simp; omega
    simp only [ht, hw3, h200, if_true]
    rcases hib with h | h
    · rw [if_pos (by simpa using h)]
      rfl
    · rw [if_neg (by rw [h]; decide), if_pos (by simpa using h)]
      rfl
  have hw0 : w64 (0 + 0) = 0 := by decide
  have hw4 : w64 (0 + ((s.length + 2 : Nat) : Int)) = ((s.length + 2 : Nat) : Int) := by rw [w64_of (by omega) (by omega)]; omega
  rw [hsp]
  simp only [Option.bind_some, hw0]
  rw [if_neg (by simp; omega), hst]
  simp only [Option.bind_some, i_unless_ok, i_first2_ok, hw4]
  have hl0 : len ([] : List TToken) = 0 := rfl
  simp only [hl0]
  have e0 : decide ((0 : Int) < 120) = true := by decide
  simp only [e0, if_true]
  rw [if_neg (by simp), if_neg (by decide), if_pos (by simp)]
  rw [i_ScanTokens_L16_eq, app_of (by simp)]
  simp only [Option.bind_some, List.nil_append]
  rw [i_ScanTokens_L5_eq, hL, if_neg (by simp)]
  rfl

theorem scan_quote {s : List UInt8} (h : canQ s = true) : i_ScanTokens (quote s) = some ([⟨3, 0, s, true, true⟩], 0, 0) := by
  have hl := canQ_len h
  have hc := h
  unfold canQ at hc
  simp only [Bool.and_eq_true_iff, decide_eq_true_eq, Bool.not_eq_true'] at hc
  have no : ∀ q : Int, hasB q s = false → ∀ c ∈ s, ib c ≠ q := by
    intro q hq c hc e
    have : hasB q s = true := by
      simp only [hasB, List.any_eq_true]
      exact ⟨c, hc, by simpa using e⟩
    rw [hq] at this; cases this
  unfold quote
  rw [if_pos h]
  split
  · rename_i h39
    have h34 : hasB 34 s = false := by
      have := hc.2
      rw [h39] at this
      simpa using this
    exact scanQ (b := 34) (.inr rfl) hl (by have := no 34 h34; rwa [show ib 34 = 34 by decide]) hc.1.2
  · rename_i h39
    exact scanQ (b := 39) (.inl rfl) hl (by have := no 39 (by simpa using h39); rwa [show ib 39 = 39 by decide]) hc.1.2

theorem s_DrawCanQuote_L7_ok : ∀ (n k : Nat) {c : List Int} {a s B : Int} (acc : List Int), k + n = 202 → SrcOk c a B → B + 2 * n ≤ 4611686018427387000 → acc.length ≤ k → ∃ t, s_DrawCanQuote_L7 (k : Int) c a s acc = some t := by
  intro n
  induction n with
  | zero =>
    intro k c a s B acc hk h hB hl
    rw [s_DrawCanQuote_L7_eq]
    obtain ⟨v, c2, a2, s2, he, h2, hv⟩ := s_l00Src_pick_ok (s := s) 3 h (by omega)
    rw [he]
    simp only [Option.bind_some]
    have := hv.2.1 (by decide)
    rw [w64_of (n := 199 + v) (by omega) (by omega), if_neg (by simp; omega)]
    exact ⟨_, rfl⟩
  | succ n ih =>
    intro k c a s B acc hk h hB hl
    rw [s_DrawCanQuote_L7_eq]
    obtain ⟨v, c2, a2, s2, he, h2, hv⟩ := s_l00Src_pick_ok (s := s) 3 h (by omega)
    rw [he]
    simp only [Option.bind_some]
    split
    · rw [app_of (by simp; omega)]
      simp only [Option.bind_some]
      rw [w64_of (by omega) (by omega), show (k : Int) + 1 = ((k + 1 : Nat) : Int) by omega]
      exact ih (k + 1) _ (by omega) h2 (by omega) (by simp; omega)
    · exact ⟨_, rfl⟩

theorem s_DrawCanQuote_ok {x : List Int} (h : BytesOk x) : ∃ t, s_DrawCanQuote x = some t := by
  have h0 : SrcOk x 0 0 := ⟨h.2, h.1, by omega, by omega⟩
  rw [s_DrawCanQuote_eq]
  obtain ⟨v, c, a, s, he, h1, _⟩ := s_l00Src_one_ok (s := 0) 6 h0 (by omega)
  rw [he]
  simp only [Option.bind_some]
  split
  · exact ⟨_, rfl⟩
  · obtain ⟨v2, c2, a2, s2, he2, h2, _⟩ := s_l00Src_one_ok (s := s) 6 h1 (by omega)
    rw [he2]
    simp only [Option.bind_some]
    split
    · exact s_DrawCanQuote_L7_ok 202 0 [] (by decide) h2 (by omega) (by simp)
    · obtain ⟨v3, c3, a3, s3, he3, h3, _⟩ := s_l00Src_text_ok (s := s2) [[], [97], [105, 116, 39, 115], [115, 97, 121, 32, 34, 120, 34], [39, 34]] (by simp) h2 (by omega)
      rw [he3]
      exact ⟨_, rfl⟩

theorem l_FnQuote_ok {x : List Int} (h : BytesOk x) : l_FnQuote x = some true := by
  rw [l_FnQuote_eq, l_c2Long_eq]
  simp only [Option.bind_some]
  split
  · rfl
  · obtain ⟨t, ht⟩ := s_DrawCanQuote_ok h
    rw [ht]
    simp only [Option.bind_some, i_CanQuote_ok, i_QuoteString_ok, s_CanQuote_ok]
    cases hc : canQ t
    · have : quote t = [] := by unfold quote; rw [hc]; rfl
      rw [this]
      simp
    · rw [scan_quote hc]
      simp [len_eq, idx_zero]

end Go.Dv.U
