/- Plain laws about these equations. -/
import Derived.Test.YtipebmooajoklaaDoorFnTokensEqa
set_option linter.all false
set_option linter.unusedVariables false
set_option linter.unusedSimpArgs false
namespace Go.Dv

open Go

theorem bytesOf_ib (s : List UInt8) : bytesOf (s.map ib) = some s := by
  unfold bytesOf
  have h : ((s.map ib).all fun n => decide (0 ≤ n) && decide (n < 256)) = true := by
    simp only [List.all_map, List.all_eq_true]
    intro x _
    simp [ib_lt x, ib_nonneg x]
  rw [if_pos h, List.map_map]
  congr 1
  conv => rhs; rw [← List.map_id s]
  apply List.map_congr_left
  intro x _
  simp only [Function.comp, id, ib, Int.ofNat_eq_natCast, Int.toNat_natCast]
  exact UInt8.ofNat_toNat

end Go.Dv

namespace Go.Dv.U

open Go Go.Dv Go.Proofs

theorem i_within_ok (a b c : Int) : i_within a b c = some (decide (b ≤ a) && decide (a ≤ c)) := by
  rw [i_within_eq]; grind

end Go.Dv.U

namespace Go.Dv.U

open Go Go.Dv Go.Proofs

def isLet (b : Int) : Bool := (decide (65 ≤ b) && decide (b ≤ 90)) || (decide (97 ≤ b) && decide (b ≤ 122))

def isDig (b : Int) : Bool := decide (48 ≤ b) && decide (b ≤ 57)

def isNmB (b : Int) : Bool := isLet b || isDig b || b == 95

theorem i_isLetter_ok (b : Int) : i_isLetter b = some (isLet b) := by
  rw [i_isLetter_eq]; unfold isLet; grind

theorem s_l02Letter_ok (b : Int) : s_l02Letter b = some (isLet b) := by
  rw [s_l02Letter_eq]; unfold isLet; grind

theorem i_isDigit_ok (b : Int) : i_isDigit b = some (isDig b) := by
  rw [i_isDigit_eq]; unfold isDig; grind

theorem s_l02Digit_ok (b : Int) : s_l02Digit b = some (isDig b) := by
  rw [s_l02Digit_eq]; unfold isDig; grind

theorem i_isNameByte_ok (b : Int) : i_isNameByte b = some (isNmB b) := by
  rw [i_isNameByte_eq, i_isLetter_ok, i_isDigit_ok]; unfold isNmB
  simp only [Option.bind_some]; grind

/-- a name -/
def isName (s : List UInt8) : Bool := match s with
  | [] => false
  | b :: _ => decide (s.length ≤ 12) && isLet (ib b) && s.all fun c => isNmB (ib c)

theorem i_areAllNm_ok {s : List UInt8} (h : s.length ≤ 9223372036854775807) : i_areAll_byte__i_isNameByte (s.map ib) = some (s.all fun c => isNmB (ib c)) := by
  rw [i_areAll_byte__i_isNameByte_eq]
  have := all_loop (xs := s.map ib) (by simpa using h) (F := i_isNameByte) (p := isNmB) (J := i_areAll_byte_L2__i_isNameByte (s.map ib) (len (s.map ib))) (fun i => by rw [i_areAll_byte_L2__i_isNameByte_eq]) (fun y _ => i_isNameByte_ok y)
  rw [this, List.all_map]
  rfl

theorem i_IsName_ok {s : List UInt8} : i_IsName s = some (isName s) := by
  rw [i_IsName_eq]
  cases s with
  | nil => simp [isName, len_eq]
  | cons b r =>
    by_cases h : (b :: r).length ≤ 12
    · have h1 : decide (len (b :: r) ≥ 1) = true := by simp only [len_eq, List.length_cons, decide_eq_true_eq]; omega
      have h2 : decide (len (b :: r) ≤ 12) = true := by simp only [len_eq, decide_eq_true_eq]; omega
      rw [if_pos h1, if_pos h2, idx_zero]
      simp only [List.getElem?_cons_zero, Option.bind_some, i_isLetter_ok]
      have := i_areAllNm_ok (s := b :: r) (by omega)
      simp only [List.map_cons] at this ⊢
      rw [this]
      simp only [isName, h, decide_true, Bool.true_and, Option.bind_some]
      cases isLet (ib b) <;> simp
    · have h2 : ¬ decide (len (b :: r) ≤ 12) = true := by simp only [len_eq, decide_eq_true_eq]; omega
      rw [if_neg h2]
      simp only [isName, h, decide_false, Bool.false_and]
      split <;> rfl

/-- how many bytes from the start on belong to a name -/
def nmRun : List UInt8 → Nat
  | [] => 0
  | b :: r => if isNmB (ib b) then nmRun r + 1 else 0

theorem s_l02NameEnd_L3_ok {s : List UInt8} (h : s.length ≤ 9223372036854775807) : ∀ (n i : Nat), i + n = s.length → s_l02NameEnd_L3 s i = some ((i + nmRun (s.drop i) : Nat) : Int) := by
  intro n
  induction n with
  | zero =>
    intro i hi
    have : i = s.length := by omega
    subst this
    rw [s_l02NameEnd_L3_eq, s_l02NameEnd_L5_eq, List.drop_length]
    simp [len_eq, nmRun]
  | succ n ih =>
    intro i hi
    have hlt : i < s.length := by omega
    have hc : decide ((i : Int) < len s) = true := by simp [len_eq, hlt]
    rw [s_l02NameEnd_L3_eq, if_pos hc, idx_nat, List.getElem?_eq_getElem hlt, List.drop_eq_getElem_cons hlt]
    simp only [Option.bind_some, s_l02Letter_ok, s_l02Digit_ok, s_l02NameEnd_L4_eq, s_l02NameEnd_L5_eq, nmRun]
    have hw : w64 ((i : Int) + 1) = ((i + 1 : Nat) : Int) := by rw [w64_of (by omega) (by omega)]; omega
    rw [hw, ih (i + 1) (by omega)]
    unfold isNmB
    cases isLet (ib s[i]) <;> cases isDig (ib s[i]) <;> cases hb : (ib s[i] == 95) <;> simp <;> omega

theorem s_l02NameEnd_ok {s : List UInt8} (h : s.length ≤ 9223372036854775807) {i : Nat} (hi : i ≤ s.length) :
    s_l02NameEnd s i = some (match s.drop i with
      | [] => (i : Int)
      | b :: r => if isLet (ib b) then ((i + nmRun (b :: r) : Nat) : Int) else i) := by
  rw [s_l02NameEnd_eq]
  by_cases hlt : i < s.length
  · have hc : ¬ decide ((i : Int) ≥ len s) = true := by simp only [len_eq, decide_eq_true_eq]; omega
    rw [if_neg hc, idx_nat, List.getElem?_eq_getElem hlt, List.drop_eq_getElem_cons hlt]
    simp only [Option.bind_some, s_l02Letter_ok]
    rw [s_l02NameEnd_L3_ok h (s.length - i) i (by omega), List.drop_eq_getElem_cons hlt]
    cases isLet (ib s[i]) <;> simp
  · have : i = s.length := by omega
    subst this
    rw [List.drop_length]
    simp [len_eq]

end Go.Dv.U

namespace Go.Dv.U

open Go Go.Dv Go.Proofs

def isPl (b : UInt8) : Bool := decide (32 ≤ ib b) && decide (ib b ≤ 126)

def allPl (s : List UInt8) : Bool := s.all isPl

def hasB (c : Int) (s : List UInt8) : Bool := s.any fun b => ib b == c

theorem i_isPlain_ok (b : Int) : i_isPlain b = some (decide (32 ≤ b) && decide (b ≤ 126)) := by
  rw [i_isPlain_eq]; grind

theorem i_isPlainText_ok {s : List UInt8} (h : s.length ≤ 9223372036854775807) : i_isPlainText s = some (allPl s) := by
  rw [i_isPlainText_eq, i_areAll_byte__i_isPlain_eq]
  have := all_loop (xs := s.map ib) (by simpa using h) (F := i_isPlain) (p := fun b => decide (32 ≤ b) && decide (b ≤ 126)) (J := i_areAll_byte_L2__i_isPlain (s.map ib) (len (s.map ib))) (fun i => by rw [i_areAll_byte_L2__i_isPlain_eq]) (fun y _ => i_isPlain_ok y)
  rw [this, List.all_map]
  rfl

def isPr (x : Bool) (b : UInt8) : Bool := isPl b || (x && ib b == 10)

theorem s_l01Printable_ok' {s : List UInt8} (h : s.length ≤ 9223372036854775807) (x : Bool) : s_l01Printable s x = some (s.all (isPr x)) := by
  rw [s_l01Printable_eq]
  refine loop_ind (xs := s) h (P := fun i l => s_l01Printable_L2 s x i = some (l.all (isPr x))) ?_ ?_
  · rw [s_l01Printable_L2_eq]; simp [len_eq]
  · intro i y l _ hlt hy hi hw ih
    rw [s_l01Printable_L2_eq, hi, if_pos (by simp [len_eq, hlt])]
    simp only [Option.bind_some, s_l01Printable_L5_eq, s_l01Printable_L3_eq, hw, ih, List.all_cons, isPr, isPl]
    by_cases h1 : ib y < 32
    · have h3 : ¬ (32 ≤ ib y) := by omega
      cases x <;> by_cases h2 : ib y = 10 <;> simp [h1, h2, h3]
    · have h3 : 32 ≤ ib y := by omega
      by_cases h2 : ib y > 126
      · have h4 : ¬ (ib y ≤ 126) := by omega
        have h5 : ¬ ib y = 10 := by omega
        cases x <;> simp [h1, h2, h3, h4, h5]
      · have h4 : ib y ≤ 126 := by omega
        cases x <;> simp [h1, h2, h3, h4]

theorem s_l01Printable_ok {s : List UInt8} (h : s.length ≤ 9223372036854775807) : s_l01Printable s false = some (allPl s) := by
  rw [s_l01Printable_ok' h]
  congr 1
  unfold allPl
  congr 1
  funext b
  simp [isPr]

theorem index_one (c : UInt8) : ∀ s : List UInt8, decide (0 ≤ Lib.index s [c]) = hasB (ib c) s
  | [] => by simp [Lib.index, hasB]
  | b :: l => by
    have ih := index_one c l
    have hge := Lib.index_ge l [c]
    unfold Lib.index
    have hp : [c].isPrefixOf (b :: l) = (ib b == ib c) := by
      rw [Bool.eq_iff_iff]
      simp only [List.isPrefixOf, Bool.and_true, beq_iff_eq, ib_inj]
      exact eq_comm
    have hh : hasB (ib c) (b :: l) = (ib b == ib c || hasB (ib c) l) := rfl
    rw [hp, hh, ← ih]
    cases (ib b == ib c)
    · simp only [Bool.false_eq_true, if_false, Bool.false_or]
      split
      · rename_i h; rw [beq_iff_eq] at h; rw [h]
      · rename_i h
        have h : ¬ Lib.index l [c] = -1 := by simpa using h
        rw [Bool.eq_iff_iff, decide_eq_true_eq, decide_eq_true_eq]; omega
    · simp

theorem containsS_one {s : List UInt8} (h : s.length < 4294967281) (c : UInt8) : containsS s [c] = some (hasB (ib c) s) := by
  unfold containsS
  rw [if_pos h, ← index_one]
  rfl

def canQ (s : List UInt8) : Bool := decide (s.length ≤ 200) && allPl s && !(hasB 39 s && hasB 34 s)

def quote (s : List UInt8) : List UInt8 := if canQ s = true then (if hasB 39 s = true then 34 :: s ++ [34] else 39 :: s ++ [39]) else []

theorem c39 (s : List UInt8) (h : s.length ≤ 200) : containsS s [39] = some (hasB 39 s) := containsS_one (by omega) 39

theorem c34 (s : List UInt8) (h : s.length ≤ 200) : containsS s [34] = some (hasB 34 s) := containsS_one (by omega) 34

theorem i_CanQuote_ok (s : List UInt8) : i_CanQuote s = some (canQ s) := by
  rw [i_CanQuote_eq]
  by_cases h : s.length ≤ 200
  · have h1 : decide (len s ≤ 200) = true := by simp only [len_eq, decide_eq_true_eq]; omega
    rw [if_pos h1, i_isPlainText_ok (by omega), c39 s h, c34 s h]
    simp only [Option.bind_some, canQ, h, decide_true, Bool.true_and]
    cases allPl s <;> cases hasB 39 s <;> simp
  · have h1 : ¬ decide (len s ≤ 200) = true := by simp only [len_eq, decide_eq_true_eq]; omega
    rw [if_neg h1]
    simp [canQ, h]

theorem canQ_len {s : List UInt8} (h : canQ s = true) : s.length ≤ 200 := by
  unfold canQ at h
  simp only [Bool.and_eq_true_iff, decide_eq_true_eq] at h
  exact h.1.1

theorem quote_len (s : List UInt8) : (quote s).length ≤ 202 := by
  unfold quote
  split
  · rename_i h
    have := canQ_len h
    split <;> simp <;> omega
  · simp

theorem i_QuoteString_ok (s : List UInt8) : i_QuoteString s = some (quote s) := by
  rw [i_QuoteString_eq, i_CanQuote_ok]
  simp only [Option.bind_some, quote]
  cases h : canQ s
  · rfl
  · have hl := canQ_len h
    simp only [Bool.not_true, Bool.false_eq_true, if_false, if_true, c39 s hl, Option.bind_some]
    rw [app_of (by simp; omega), app_of (by simp; omega)]
    simp only [Option.bind_some]
    rw [app_of (by simp; omega), app_of (by simp; omega)]
    cases hasB 39 s <;> rfl

/-- numbers -/
theorem nDigits_le : ∀ (k u : Nat), u < 10 ^ (k + 1) → Lib.nDigits u ≤ k + 1
  | 0, u, h => by rw [Lib.nDigits_small (by simpa using h)]; exact Nat.le_refl _
  | k + 1, u, h => by
    by_cases hu : u < 10
    · rw [Lib.nDigits_small hu]; omega
    · rw [Lib.nDigits_big hu]
      have := nDigits_le k (u / 10) (by rw [Nat.div_lt_iff_lt_mul (by decide)]; rw [Nat.pow_succ] at h; exact h)
      omega

theorem i_decimal_ok {n : Int} (h0 : -9223372036854775808 ≤ n) (h1 : n ≤ 9223372036854775807) : i_decimal n = some (Lib.itoa n) := by
  rw [i_decimal_eq]
  unfold itoaS
  rw [if_pos ⟨rfl, h0, h1⟩]
  rfl

end Go.Dv.U

namespace Go.Dv.U

open Go Go.Dv Go.Proofs

def SrcOk (c : List Int) (a B : Int) : Prop := (∀ y ∈ c, 0 ≤ y ∧ y ≤ 255) ∧ c.length ≤ 9223372036854775807 ∧ 0 ≤ a ∧ a ≤ B

def Dr {α : Type} (o : Option (α × ((List Int × Int × Int × Unit) × Unit))) (B : Int) (P : α → Prop) : Prop := ∃ v c a s, o = some (v, ((c, a, s, ()), ())) ∧ SrcOk c a B ∧ P v

theorem SrcOk.le {c : List Int} {a B B' : Int} (h : SrcOk c a B) (hb : B ≤ B') : SrcOk c a B' := ⟨h.1, h.2.1, h.2.2.1, by have := h.2.2.2; omega⟩

theorem Dr.le {α : Type} {o : Option (α × ((List Int × Int × Int × Unit) × Unit))} {B B' : Int} {P Q : α → Prop} (h : Dr o B P) (hb : B ≤ B') (hq : ∀ v, P v → Q v) : Dr o B' Q := by
  obtain ⟨v, c, a, s, h1, h2, h3⟩ := h
  exact ⟨v, c, a, s, h1, h2.le hb, hq v h3⟩

/-- one draw behind another -/
theorem Dr.bind {α β : Type} {o : Option (α × ((List Int × Int × Int × Unit) × Unit))} {B B' : Int} {P : α → Prop} {Q : β → Prop} {k : α × ((List Int × Int × Int × Unit) × Unit) → Option (β × ((List Int × Int × Int × Unit) × Unit))}
    (h : Dr o B P) (hk : ∀ v c a s, SrcOk c a B → P v → Dr (k (v, ((c, a, s, ()), ()))) B' Q) : Dr (o.bind k) B' Q := by
  obtain ⟨v, c, a, s, rfl, h2, h3⟩ := h
  exact hk v c a s h2 h3

theorem Dr.some {α : Type} {v : α} {c : List Int} {a s B : Int} {P : α → Prop} (h : SrcOk c a B) (hp : P v) : Dr (Option.some (v, ((c, a, s, ()), ()))) B P := ⟨v, c, a, s, rfl, h, hp⟩

theorem and255 (y : Int) : 0 ≤ w64 (bitsOp Go.BinOp.and Go.IntKind.u64 y 255) ∧ w64 (bitsOp Go.BinOp.and Go.IntKind.u64 y 255) ≤ 255 := by
  have h : (BitVec.ofInt IntKind.u64.bits y &&& BitVec.ofInt IntKind.u64.bits 255).toNat ≤ 255 := by
    rw [BitVec.toNat_and]
    exact Nat.le_trans Nat.and_le_right (by decide)
  have e : bitsOp Go.BinOp.and Go.IntKind.u64 y 255 = ((BitVec.ofInt IntKind.u64.bits y &&& BitVec.ofInt IntKind.u64.bits 255).toNat : Int) := by
    show IntKind.u64.wrap _ = _
    generalize (BitVec.ofInt IntKind.u64.bits y &&& BitVec.ofInt IntKind.u64.bits 255).toNat = m at h
    unfold IntKind.wrap
    simp [IntKind.bits, IntKind.signed]
    omega
  rw [e, w64_of (by omega) (by omega)]
  omega

theorem s_l00Src_next_ok {c : List Int} {a s B : Int} (h : SrcOk c a B) (hB : B ≤ 4611686018427387904) : Dr (s_l00Src_next c a s) (B + 1) (fun v => 0 ≤ v ∧ v ≤ 255) := by
  obtain ⟨h1, h2, h3, h4⟩ := h
  have hs : SrcOk c (w64 (a + 1)) (B + 1) := ⟨h1, h2, by rw [w64_of (by omega) (by omega)]; omega, by rw [w64_of (by omega) (by omega)]; omega⟩
  rw [s_l00Src_next_eq]
  have hsh : ∀ x : Int, shr Go.IntKind.u64 x 40 = some (x.fdiv (2 ^ (min (Int.toNat 40) Go.IntKind.u64.bits))) := fun x => rfl
  simp only [hsh, Option.bind_some]
  by_cases hlt : a < c.length
  · obtain ⟨n, rfl⟩ : ∃ n : Nat, a = n := ⟨a.toNat, by omega⟩
    have hn : n < c.length := by omega
    rw [if_pos (by simpa [len_eq] using hlt), idx_nat, List.getElem?_eq_getElem hn]
    have hy := h1 _ (List.getElem_mem hn)
    simp only [Option.bind_some]
    split
    · exact Dr.some hs (by rw [w64_of (by omega) (by omega)]; exact hy)
    · exact Dr.some hs (and255 _)
  · rw [if_neg (by simpa [len_eq] using hlt)]
    split
    · exact Dr.some hs (by omega)
    · exact Dr.some hs (and255 _)

theorem rem_of {x n : Int} (hx : 0 ≤ x) (hn : 1 < n) : ∃ y, rem x n = some y ∧ 0 ≤ y ∧ y < n := by
  unfold rem
  rw [if_neg (by omega)]
  refine ⟨_, rfl, ?_, ?_⟩
  · rw [Int.tmod_eq_emod_of_nonneg hx]; exact Int.emod_nonneg _ (by omega)
  · rw [Int.tmod_eq_emod_of_nonneg hx]; exact Int.emod_lt_of_pos _ (by omega)

theorem s_l00Src_pick_ok (n : Int) {c : List Int} {a s B : Int} (h : SrcOk c a B) (hB : B ≤ 4611686018427387000) : Dr (s_l00Src_pick n c a s) (B + 2) (fun v => 0 ≤ v ∧ (1 < n → v < n) ∧ (n ≤ 1 → v = 0)) := by
  rw [s_l00Src_pick_eq]
  by_cases h1 : n ≤ 1
  · rw [if_pos (by simpa using h1)]
    exact Dr.some (h.le (by omega)) ⟨by omega, fun h => by omega, fun _ => rfl⟩
  rw [if_neg (by simpa using h1)]
  refine (s_l00Src_next_ok h (by omega)).bind fun v c2 a2 s2 h2 hv => ?_
  simp only
  by_cases h3 : n > 200
  · rw [if_pos (by simpa using h3)]
    refine (s_l00Src_next_ok h2 (by omega)).bind fun v2 c3 a3 s3 h4 hv2 => ?_
    simp only
    rw [w64_of (n := v * 256) (by omega) (by omega), w64_of (by omega) (by omega)]
    obtain ⟨y, hy, y0, y1⟩ := rem_of (x := v * 256 + v2) (n := n) (by omega) (by omega)
    rw [hy]
    exact Dr.some (h4.le (by omega)) ⟨y0, fun _ => y1, fun h => by omega⟩
  · rw [if_neg (by simpa using h3)]
    obtain ⟨y, hy, y0, y1⟩ := rem_of (x := v) (n := n) (by omega) (by omega)
    rw [hy]
    exact Dr.some (h2.le (by omega)) ⟨y0, fun _ => y1, fun h => by omega⟩

theorem s_l00Src_one_ok (n : Int) {c : List Int} {a s B : Int} (h : SrcOk c a B) (hB : B ≤ 4611686018427387000) : Dr (s_l00Src_one n c a s) (B + 2) (fun _ => True) := by
  rw [s_l00Src_one_eq]
  exact (s_l00Src_pick_ok n h hB).bind fun v c2 a2 s2 h2 hv => Dr.some h2 trivial

theorem pick_idx {α : Type} {xs : List α} {v : Int} (hv : 0 ≤ v ∧ (1 < (len xs) → v < len xs) ∧ (len xs ≤ 1 → v = 0)) (hx : xs ≠ []) : ∃ y, idx xs v = some y ∧ y ∈ xs := by
  have hp : 0 < xs.length := List.length_pos_iff.2 hx
  rw [len_eq] at hv
  have hlt : v.toNat < xs.length := by
    by_cases h : (1 : Int) < xs.length
    · have := hv.2.1 h; omega
    · have := hv.2.2 (by omega); omega
  exact ⟨xs[v.toNat], by rw [idx_of hv.1, List.getElem?_eq_getElem hlt], List.getElem_mem hlt⟩

theorem s_l00Src_text_ok (xs : List (List UInt8)) (hx : xs ≠ []) {c : List Int} {a s B : Int} (h : SrcOk c a B) (hB : B ≤ 4611686018427387000) : Dr (s_l00Src_text xs c a s) (B + 2) (fun v => v ∈ xs) := by
  rw [s_l00Src_text_eq]
  refine (s_l00Src_pick_ok _ h hB).bind fun v c2 a2 s2 h2 hv => ?_
  obtain ⟨y, hy, hm⟩ := pick_idx hv hx
  simp only [hy, Option.bind_some]
  exact Dr.some h2 hm

end Go.Dv.U

namespace Go.Dv.U

open Go Go.Dv Go.Proofs

theorem i_first2_ok (a b : Int) : i_first [a, b] = some (if a ≠ 0 then a else b) := by
  rw [i_first_eq]
  have e2 : len [a, b] = 2 := rfl
  have w1 : w64 (0 + 1) = 1 := by decide
  have w2 : w64 (1 + 1) = 2 := by decide
  rw [e2, i_first_L2_eq, if_pos (by decide), idx_zero]
  simp only [List.getElem?_cons_zero, Option.bind_some]
  by_cases ha : a = 0
  · subst ha
    rw [if_neg (by simp), w1, i_first_L2_eq, if_pos (by decide), idx_one]
    simp only [List.getElem?_cons_succ, List.getElem?_cons_zero, Option.bind_some]
    by_cases hb : b = 0
    · subst hb
      rw [if_neg (by simp), w2, i_first_L2_eq, if_neg (by decide)]
      simp
    · rw [if_pos (by simpa using hb)]; simp
  · rw [if_pos (by simpa using ha), if_pos ha]

theorem i_unless_ok (b : Bool) (n : Int) : i_unless b n = some (if b = true then 0 else n) := by
  rw [i_unless_eq, ite_some]

end Go.Dv.U

namespace Go.Dv.U

open Go Go.Dv Go.Proofs

def runOf (p : Int → Bool) : List UInt8 → Nat
  | [] => 0
  | b :: r => if p (ib b) = true then runOf p r + 1 else 0

theorem runOf_le (p : Int → Bool) : ∀ s, runOf p s ≤ s.length
  | [] => Nat.le_refl _
  | b :: r => by
    have := runOf_le p r
    simp only [runOf, List.length_cons]
    split <;> omega

theorem runOf_all (p : Int → Bool) : ∀ s : List UInt8, (s.take (runOf p s)).all (fun b => p (ib b)) = true
  | [] => rfl
  | b :: r => by
    simp only [runOf]
    split
    · rename_i h
      rw [List.take_succ_cons, List.all_cons, runOf_all p r, h]; rfl
    · rfl

theorem runOf_nm : ∀ s, runOf isNmB s = nmRun s
  | [] => rfl
  | b :: r => by
    simp only [runOf, nmRun, runOf_nm r]

def isOpr (b : Int) : Bool := b == 43 || b == 45 || b == 42 || b == 47 || b == 124 || b == 46 || b == 36 || b == 64 || b == 61

def markOf (b : Int) : Int := if b = 40 then 5 else if b = 41 then 6 else if b = 60 then 7 else if b = 62 then 8 else if b = 44 then 9 else if b = 58 then 10 else 0

/-- the token at the head: kind, number, text, bytes -/
def tokAt : List UInt8 → Option (Int × Int × List UInt8 × Nat)
  | [] => none
  | b :: r =>
    if isLet (ib b) = true then (if runOf isNmB (b :: r) ≤ 12 then some (1, 0, (b :: r).take (runOf isNmB (b :: r)), runOf isNmB (b :: r)) else none)
    else if isDig (ib b) = true then (if runOf isDig (b :: r) ≤ 13 ∧ numD ((b :: r).take (runOf isDig (b :: r))) 0 ≤ 1000000000000 then some (2, ((numD ((b :: r).take (runOf isDig (b :: r))) 0 : Nat) : Int), [], runOf isDig (b :: r)) else none)
    else if ib b = 39 ∨ ib b = 34 then (if runOf (fun c => c != ib b) r < r.length ∧ runOf (fun c => c != ib b) r ≤ 200 then some (3, 0, r.take (runOf (fun c => c != ib b) r), runOf (fun c => c != ib b) r + 2) else none)
    else if isOpr (ib b) = true then some (4, 0, [b], 1)
    else if markOf (ib b) ≠ 0 then some (markOf (ib b), 0, [], 1) else none

theorem tokAt_cons (b : UInt8) (r : List UInt8) : tokAt (b :: r) =
    if isLet (ib b) = true then (if runOf isNmB (b :: r) ≤ 12 then some (1, 0, (b :: r).take (runOf isNmB (b :: r)), runOf isNmB (b :: r)) else none)
    else if isDig (ib b) = true then (if runOf isDig (b :: r) ≤ 13 ∧ numD ((b :: r).take (runOf isDig (b :: r))) 0 ≤ 1000000000000 then some (2, ((numD ((b :: r).take (runOf isDig (b :: r))) 0 : Nat) : Int), [], runOf isDig (b :: r)) else none)
    else if ib b = 39 ∨ ib b = 34 then (if runOf (fun c => c != ib b) r < r.length ∧ runOf (fun c => c != ib b) r ≤ 200 then some (3, 0, r.take (runOf (fun c => c != ib b) r), runOf (fun c => c != ib b) r + 2) else none)
    else if isOpr (ib b) = true then some (4, 0, [b], 1)
    else if markOf (ib b) ≠ 0 then some (markOf (ib b), 0, [], 1) else none := rfl

theorem tokAt_len {s : List UInt8} {k n : Int} {t : List UInt8} {m : Nat} (h : tokAt s = some (k, n, t, m)) : 1 ≤ m ∧ m ≤ s.length := by
  cases s with
  | nil => cases h
  | cons b r =>
    rw [tokAt_cons] at h
    have l1 := runOf_le isNmB (b :: r)
    have l2 := runOf_le isDig (b :: r)
    have l3 := runOf_le (fun c => c != ib b) r
    simp only [List.length_cons] at l1 l2 ⊢
    split at h
    · rename_i hl
      have : 1 ≤ runOf isNmB (b :: r) := by
        have : isNmB (ib b) = true := by unfold isNmB; rw [hl]; rfl
        simp only [runOf, this, if_true]; omega
      split at h
      · cases h; omega
      · cases h
    split at h
    · rename_i hl
      have : 1 ≤ runOf isDig (b :: r) := by simp only [runOf, hl, if_true]; omega
      split at h
      · cases h; omega
      · cases h
    split at h
    · split at h
      · rename_i hc; cases h; omega
      · cases h
    split at h
    · cases h; omega
    split at h
    · cases h; omega
    · cases h

def nextBl (s : List UInt8) : Bool := match s with | [] => true | b :: _ => ib b == 32

def scanL : Nat → List UInt8 → Bool → List TToken → Nat → List TToken × Int × Int
  | _, [], _, out, _ => (out, 0, 0)
  | 0, _ :: _, _, out, _ => (out, 0, 0)
  | n + 1, b :: r, bl, out, at_ => if ib b = 32 then scanL n r true out (at_ + 1) else match tokAt (b :: r) with
    | none => ([], at_, 2)
    | some (k, m, t, w) => if 120 ≤ out.length then ([], at_, 6) else scanL n ((b :: r).drop w) false (out ++ [⟨k, m, t, bl, nextBl ((b :: r).drop w)⟩]) (at_ + w)

/-- a run's end, by a loop over it -/
theorem span_of {x : List UInt8} (hx : x.length ≤ 1000000) (p : Int → Bool) {J : Int → Option Int} (at_ : Nat) (hJ : ∀ i : Int, J i = if decide (i < len x) = true then (idx x i).bind fun y => if p (ib y) = true then J (w64 (i + 1)) else some (w64 (i - at_)) else some (w64 (i - at_))) :
    ∀ (l : List UInt8) (j : Nat), x.drop j = l → at_ ≤ j → j ≤ x.length → J (j : Int) = some ((j - at_ + runOf p l : Nat) : Int) := by
  intro l
  induction l with
  | nil =>
    intro j hd ha hj
    have : x.length ≤ j := by
      have := congrArg List.length hd
      simp at this; omega
    rw [hJ, if_neg (by simp [len_eq]; omega), w64_of (by omega) (by omega)]
    simp [runOf]; omega
  | cons b l ih =>
    intro j hd ha hj
    have hlt : j < x.length := by
      have := congrArg List.length hd
      simp at this; omega
    rw [List.drop_eq_getElem_cons hlt] at hd
    simp only [List.cons.injEq] at hd
    rw [hJ, if_pos (by simp [len_eq, hlt]), idx_nat, List.getElem?_eq_getElem hlt, hd.1]
    simp only [Option.bind_some, runOf]
    cases hp : p (ib b)
    · rw [if_neg (by simp), w64_of (by omega) (by omega)]
      simp; omega
    · rw [if_pos rfl, w64_of (by omega) (by omega), show (j : Int) + 1 = ((j + 1 : Nat) : Int) by omega, ih (j + 1) hd.2 (by omega) (by omega)]
      simp; omega

section

variable {x : List UInt8} (hx : x.length ≤ 4000)


include hx

theorem span_nm {j : Nat} (hj : j ≤ x.length) : i_span__i_isNameByte x (j : Int) = some (runOf isNmB (x.drop j) : Int) := by
  rw [i_span__i_isNameByte_eq]
  have := span_of (x := x) (by omega) isNmB (J := i_span_L2__i_isNameByte x (j : Int)) j (fun i => by rw [i_span_L2__i_isNameByte_eq]; simp only [i_isNameByte_ok, Option.bind_some]) (x.drop j) j rfl (Nat.le_refl _) hj
  rw [this]; simp

theorem span_dg {j : Nat} (hj : j ≤ x.length) : i_span__i_isDigit x (j : Int) = some (runOf isDig (x.drop j) : Int) := by
  rw [i_span__i_isDigit_eq]
  have := span_of (x := x) (by omega) isDig (J := i_span_L2__i_isDigit x (j : Int)) j (fun i => by rw [i_span_L2__i_isDigit_eq]; simp only [i_isDigit_ok, Option.bind_some]) (x.drop j) j rfl (Nat.le_refl _) hj
  rw [this]; simp

theorem span_qu (q : Int) {j : Nat} (hj : j ≤ x.length) : i_span__i_scanToken_c1 x (j : Int) q = some (runOf (fun c => c != q) (x.drop j) : Int) := by
  rw [i_span__i_scanToken_c1_eq]
  have := span_of (x := x) (by omega) (fun c => c != q) (J := i_span_L2__i_scanToken_c1 x (j : Int) q) j (fun i => by rw [i_span_L2__i_scanToken_c1_eq]; simp only [i_scanToken_c1_eq, Option.bind_some]) (x.drop j) j rfl (Nat.le_refl _) hj
  rw [this]; simp

theorem span_bl {j : Nat} (hj : j ≤ x.length) : i_span__i_ScanTokens_c1 x (j : Int) = some (runOf (fun c => c == 32) (x.drop j) : Int) := by
  rw [i_span__i_ScanTokens_c1_eq]
  have := span_of (x := x) (by omega) (fun c => c == 32) (J := i_span_L2__i_ScanTokens_c1 x (j : Int)) j (fun i => by rw [i_span_L2__i_ScanTokens_c1_eq]; simp only [i_ScanTokens_c1_eq, Option.bind_some]) (x.drop j) j rfl (Nat.le_refl _) hj
  rw [this]; simp

end

theorem cut_at {x : List UInt8} {j m : Nat} (h : j + m ≤ x.length) : cut x (j : Int) (Option.getD (some ((j + m : Nat) : Int)) (len x)) = some ((x.drop j).take m) := by
  have := cut_of (xs := x) (a := j) (b := j + m) (by omega) h
  rw [Option.getD_some, this, List.drop_take]
  congr 2; omega

theorem opr_index (b : UInt8) : indexByteS [43, 45, 42, 47, 124, 46, 36, 64, 61] (ib b) = some (Lib.indexByte [43, 45, 42, 47, 124, 46, 36, 64, 61] b) := by
  unfold indexByteS
  have : (ib b).toNat.toUInt8 = b := by simp [ib]
  rw [this]

theorem mark_index (b : UInt8) : indexByteS [40, 41, 60, 62, 44, 58] (ib b) = some (Lib.indexByte [40, 41, 60, 62, 44, 58] b) := by
  unfold indexByteS
  have : (ib b).toNat.toUInt8 = b := by simp [ib]
  rw [this]

theorem all_bytes {P : UInt8 → Prop} (h : ∀ n : Fin 256, P (UInt8.ofNat n)) (b : UInt8) : P b := by
  have := h ⟨b.toNat, b.toNat_lt⟩
  simpa using this

theorem opr_ok : ∀ b : UInt8, decide (Lib.indexByte [43, 45, 42, 47, 124, 46, 36, 64, 61] b ≥ 0) = isOpr (ib b) := all_bytes (by decide +kernel)

theorem mark_ok : ∀ b : UInt8, (Lib.indexByte [40, 41, 60, 62, 44, 58] b = -1 ∧ markOf (ib b) = 0) ∨ (0 ≤ Lib.indexByte [40, 41, 60, 62, 44, 58] b ∧ markOf (ib b) = 5 + Lib.indexByte [40, 41, 60, 62, 44, 58] b ∧ Lib.indexByte [40, 41, 60, 62, 44, 58] b ≤ 5) := all_bytes (by decide +kernel)

theorem opr_lt : ∀ b : UInt8, isOpr (ib b) = true → chr (ib b) = some [b] := all_bytes (by decide +kernel)

/-- the program's scanner of one token -/
theorem i_scanToken_ok {x : List UInt8} (hx : x.length ≤ 4000) {j : Nat} (hj : j < x.length) : ∃ (tk : TToken) (n : Int) (ok : Bool), i_scanToken x (j : Int) = some (tk, n, ok) ∧
    (match tokAt (x.drop j) with | none => ok = false | some (k, m, t, w) => ok = true ∧ tk.fKind = k ∧ tk.fNum = m ∧ tk.fText = t ∧ n = (w : Int)) := by
  obtain ⟨b, r, hd⟩ : ∃ b r, x.drop j = b :: r := ⟨_, _, List.drop_eq_getElem_cons hj⟩
  have hget : idx x (j : Int) = some b := by
    rw [idx_nat, List.getElem?_eq_getElem hj]
    rw [List.drop_eq_getElem_cons hj] at hd
    simp only [List.cons.injEq] at hd
    rw [hd.1]
  have hd1 : x.drop (j + 1) = r := by
    rw [List.drop_eq_getElem_cons hj] at hd
    simp only [List.cons.injEq] at hd
    exact hd.2
  have hrl : (b :: r).length = x.length - j := by rw [← hd, List.length_drop]
  simp only [List.length_cons] at hrl
  rw [i_scanToken_eq, hget, hd, tokAt_cons]
  simp only [Option.bind_some, i_isLetter_ok, i_isDigit_ok]
  by_cases h1 : isLet (ib b) = true
  · rw [if_pos h1, if_pos h1, span_nm hx (by omega), hd]
    have hle := runOf_le isNmB (b :: r)
    simp only [List.length_cons] at hle
    generalize hn : runOf isNmB (b :: r) = n at hle
    simp only [Option.bind_some]
    rw [w64_of (by omega) (by omega), show (j : Int) + (n : Int) = ((j + n : Nat) : Int) by omega, cut_at (by omega), hd]
    simp only [Option.bind_some]
    refine ⟨_, _, _, rfl, ?_⟩
    by_cases h12 : n ≤ 12
    · rw [if_pos h12]
      exact ⟨by simp; omega, rfl, rfl, rfl, rfl⟩
    · rw [if_neg h12]
      simp; omega
  rw [if_neg h1, if_neg h1]
  by_cases h2 : isDig (ib b) = true
  · rw [if_pos h2, if_pos h2, span_dg hx (by omega), hd]
    have hle := runOf_le isDig (b :: r)
    have hall := runOf_all isDig (b :: r)
    have hpos : 1 ≤ runOf isDig (b :: r) := by simp only [runOf, h2, if_true]; omega
    simp only [List.length_cons] at hle
    generalize hn : runOf isDig (b :: r) = n at hle hall hpos
    simp only [Option.bind_some]
    rw [w64_of (by omega) (by omega), show (j : Int) + (n : Int) = ((j + n : Nat) : Int) by omega, cut_at (by omega), hd]
    simp only [Option.bind_some]
    have htl : ((b :: r).take n).length = n := by rw [List.length_take]; simp; omega
    have hdg : ((b :: r).take n).all digB = true := by
      have : (fun c : UInt8 => isDig (ib c)) = digB := by
        funext c
        unfold digB isDig
        rw [ib_eq, Bool.eq_iff_iff]
        simp
        omega
      rw [← this]; exact hall
    unfold readIntS
    by_cases h13 : 13 < n
    · rw [if_pos (by rw [htl]; exact h13)]
      refine ⟨_, _, _, rfl, ?_⟩
      rw [if_neg (by omega)]
    · rw [if_neg (by rw [htl]; exact h13), if_pos ⟨by intro e; rw [e] at htl; simp at htl; omega, hdg⟩]
      refine ⟨_, _, _, rfl, ?_⟩
      by_cases hb : numD ((b :: r).take n) 0 ≤ 1000000000000
      · rw [if_pos ⟨by omega, hb⟩]
        exact ⟨by simpa using hb, rfl, rfl, rfl, rfl⟩
      · rw [if_neg (by omega)]
        simpa using hb
  rw [if_neg h2, if_neg h2]
  have quo : ib b = 39 ∨ ib b = 34 → ∀ z : Option (TToken × Int × Bool), z = ((i_span__i_scanToken_c1 x (w64 ((j : Int) + 1)) (ib b)).bind fun r194 => ((cut x (w64 ((j : Int) + 1)) (Option.getD (Option.some (w64 (w64 ((j : Int) + 1) + r194))) (len x))) : Option (List UInt8)).bind fun y193 =>
      if decide (w64 (w64 ((j : Int) + 1) + r194) < len x) = true then some (TToken.mk (Int.ofNat 3) (Int.ofNat 0) y193 false false, w64 (r194 + 2), decide (r194 ≤ 200)) else some (TToken.mk (Int.ofNat 3) (Int.ofNat 0) y193 false false, w64 (r194 + 2), false)) →
      ∃ (tk : TToken) (n : Int) (ok : Bool), z = some (tk, n, ok) ∧ (match (if runOf (fun c => c != ib b) r < r.length ∧ runOf (fun c => c != ib b) r ≤ 200 then some ((3 : Int), (0 : Int), r.take (runOf (fun c => c != ib b) r), runOf (fun c => c != ib b) r + 2) else none) with | none => ok = false | some (k, m, t, w) => ok = true ∧ tk.fKind = k ∧ tk.fNum = m ∧ tk.fText = t ∧ n = (w : Int)) := by
    intro _ z hz
    have hle := runOf_le (fun c => c != ib b) r
    rw [w64_of (by omega) (by omega), show (j : Int) + 1 = ((j + 1 : Nat) : Int) by omega, span_qu hx (ib b) (by omega), hd1] at hz
    generalize hn : runOf (fun c => c != ib b) r = n at hle hz
    simp only [Option.bind_some] at hz
    rw [w64_of (by omega) (by omega), show ((j + 1 : Nat) : Int) + (n : Int) = ((j + 1 + n : Nat) : Int) by omega, cut_at (by omega), hd1] at hz
    simp only [Option.bind_some] at hz
    rw [w64_of (by omega) (by omega), len_eq] at hz
    by_cases hq : n < r.length
    · rw [if_pos (by simp; omega)] at hz
      refine ⟨_, _, _, hz, ?_⟩
      by_cases h200 : n ≤ 200
      · rw [if_pos ⟨hq, h200⟩]
        exact ⟨by simp; omega, rfl, rfl, rfl, by simp⟩
      · rw [if_neg (by omega)]
        simp; omega
    · rw [if_neg (by simp; omega)] at hz
      refine ⟨_, _, _, hz, ?_⟩
      rw [if_neg (by omega)]
  by_cases h39 : ib b = 39
  · rw [if_pos (by simpa using h39), if_pos (.inl h39)]
    exact quo (.inl h39) _ rfl
  rw [if_neg (by simpa using h39)]
  by_cases h34 : ib b = 34
  · rw [if_pos (by simpa using h34), if_pos (.inr h34)]
    exact quo (.inr h34) _ rfl
  rw [if_neg (by simpa using h34), if_neg (by omega), opr_index]
  simp only [Option.bind_some]
  by_cases h4 : isOpr (ib b) = true
  · rw [if_pos (by rw [opr_ok]; exact h4), if_pos h4, opr_lt b h4]
    simp only [Option.bind_some]
    exact ⟨_, _, _, rfl, rfl, rfl, rfl, rfl, rfl⟩
  · rw [if_neg (by rw [opr_ok]; exact h4), if_neg h4, mark_index]
    simp only [Option.bind_some]
    refine ⟨_, _, _, rfl, ?_⟩
    rcases mark_ok b with ⟨e1, e2⟩ | ⟨e1, e2, e3⟩
    · rw [if_neg (by simpa using e2)]
      simp [e1]
    · rw [if_pos (by omega)]
      refine ⟨by simpa using e1, ?_, rfl, rfl, rfl⟩
      show w64 _ = _
      rw [w64_of (by omega) (by omega), e2]

end Go.Dv.U

namespace Go.Dv.U

open Go Go.Dv Go.Proofs

theorem runOf_zero {p : Int → Bool} {b : UInt8} {r : List UInt8} (h : p (ib b) = false) : runOf p (b :: r) = 0 := by simp [runOf, h]

theorem runOf_succ {p : Int → Bool} {b : UInt8} {r : List UInt8} (h : p (ib b) = true) : runOf p (b :: r) = runOf p r + 1 := by simp [runOf, h]

/-- blanks are skipped -/
theorem scanL_skip : ∀ (s : List UInt8) (n : Nat) (bl : Bool) (out : List TToken) (at_ : Nat), s.length ≤ n → scanL n s bl out at_ = scanL (n - runOf (fun c => c == 32) s) (s.drop (runOf (fun c => c == 32) s)) (if runOf (fun c => c == 32) s = 0 then bl else true) out (at_ + runOf (fun c => c == 32) s) := by
  intro s
  induction s with
  | nil => intro n bl out at_ _; simp [runOf]
  | cons b r ih =>
    intro n bl out at_ h
    by_cases hb : ib b = 32
    · have hr : (fun c : Int => c == 32) (ib b) = true := by simpa using hb
      rw [runOf_succ hr]
      cases n with
      | zero => simp at h
      | succ n =>
        simp only [scanL, hb, if_true]
        rw [ih n true out (at_ + 1) (by simpa using h)]
        simp only [List.drop_succ_cons, Nat.add_eq_zero_iff, Nat.one_ne_zero, and_false, if_false, ite_self]
        congr 1
        · omega
        · omega
    · have hr : (fun c : Int => c == 32) (ib b) = false := by simpa using hb
      rw [runOf_zero hr]
      simp

theorem drop_run {p : Int → Bool} : ∀ s : List UInt8, ∀ b r, s.drop (runOf p s) = b :: r → p (ib b) = false
  | [], b, r, h => by simp [runOf] at h
  | c :: s, b, r, h => by
    cases hc : p (ib c)
    · rw [runOf_zero hc] at h
      simp only [List.drop_zero, List.cons.injEq] at h
      rw [← h.1]; exact hc
    · rw [runOf_succ hc] at h
      exact drop_run s b r h

/-- the program's loop -/
theorem i_L5_ok {x : List UInt8} (hx : x.length ≤ 4000) : ∀ (N n j : Nat) (out : List TToken), n ≤ N → j ≤ x.length → x.length - j ≤ n → out.length ≤ 120 → i_ScanTokens_L5 x (j : Int) out = some (scanL n (x.drop j) (len out == 0) out j) := by
  intro N
  induction N with
  | zero =>
    intro n j out hn hj hl ho
    have : x.drop j = [] := List.drop_eq_nil_of_le (by omega)
    rw [i_ScanTokens_L5_eq, if_neg (by simp [len_eq]; omega), this]
    cases n <;> rfl
  | succ N ih =>
    intro n j out hn hj hl ho
    by_cases hlt : j < x.length
    · rw [i_ScanTokens_L5_eq, if_pos (by simpa [len_eq] using hlt), span_bl hx hj]
      simp only [Option.bind_some]
      have hle := runOf_le (fun c => c == 32) (x.drop j)
      rw [List.length_drop] at hle
      rw [scanL_skip (x.drop j) n (len out == 0) out j (by rw [List.length_drop]; omega)]
      have hdr := drop_run (p := fun c => c == 32) (x.drop j)
      generalize runOf (fun c => c == 32) (x.drop j) = q at hle hdr ⊢
      rw [List.drop_drop] at hdr ⊢
      rw [w64_of (by omega) (by omega), show (j : Int) + (q : Int) = ((j + q : Nat) : Int) by omega]
      by_cases hend : j + q = x.length
      · rw [if_pos (by simp [len_eq, hend])]
        have : x.drop (j + q) = [] := List.drop_eq_nil_of_le (by omega)
        rw [this]
        cases (n - q) <;> rfl
      · rw [if_neg (by simp [len_eq]; omega)]
        have hlt2 : j + q < x.length := by omega
        obtain ⟨b, r, hd⟩ : ∃ b r, x.drop (j + q) = b :: r := ⟨_, _, List.drop_eq_getElem_cons hlt2⟩
        have hb : ¬ ib b = 32 := by simpa using hdr b r hd
        obtain ⟨m, hm⟩ : ∃ m, n - q = m + 1 := ⟨n - q - 1, by omega⟩
        rw [hm, hd]
        simp only [scanL, hb, if_false]
        obtain ⟨tk, w, ok, hs, hmt⟩ := i_scanToken_ok hx hlt2
        rw [hs]
        rw [hd] at hmt
        simp only [Option.bind_some, i_unless_ok, i_first2_ok]
        cases ht : tokAt (b :: r) with
        | none =>
          rw [ht] at hmt
          simp only at hmt
          subst hmt
          simp
        | some z =>
          obtain ⟨k, mm, t, w'⟩ := z
          rw [ht] at hmt
          simp only at hmt
          obtain ⟨rfl, rfl, rfl, rfl, rfl⟩ := hmt
          have hw := tokAt_len ht
          rw [← hd, List.length_drop] at hw
          simp only [if_true, ne_eq, not_true_eq_false, if_false]
          by_cases h120 : 120 ≤ out.length
          · have e : decide (len out < 120) = false := by simp [len_eq]; omega
            rw [e, if_pos h120]
            simp
          · have e : decide (len out < 120) = true := by simp [len_eq]; omega
            rw [e, if_neg h120]
            simp only [if_true]
            rw [if_neg (by simp), w64_of (n := ((j + q : Nat) : Int) + (w' : Int)) (by omega) (by omega), show ((j + q : Nat) : Int) + (w' : Int) = ((j + q + w' : Nat) : Int) by omega]
            have hrest : (b :: r).drop w' = x.drop (j + q + w') := by rw [← hd, List.drop_drop]
            rw [hrest]
            have go : ∀ (bf af : Bool), af = nextBl (x.drop (j + q + w')) → bf = (if q = 0 then (len out == 0) else true) → i_ScanTokens_L16 x ((j + q + w' : Nat) : Int) out tk.fKind tk.fNum tk.fText bf af = some (scanL m (x.drop (j + q + w')) false (out ++ [⟨tk.fKind, tk.fNum, tk.fText, if q = 0 then (len out == 0) else true, nextBl (x.drop (j + q + w'))⟩]) (j + q + w')) := by
              intro bf af h1 h2
              rw [i_ScanTokens_L16_eq, app_of (by simp; omega)]
              simp only [Option.bind_some]
              rw [ih m (j + q + w') _ (by omega) (by omega) (by omega) (by simp; omega), h1, h2]
              have : (len (out ++ [(⟨tk.fKind, tk.fNum, tk.fText, if q = 0 then (len out == 0) else true, nextBl (x.drop (j + q + w'))⟩ : TToken)]) == 0) = false := by
                simp [len_eq]; omega
              rw [this]
            by_cases hq : q = 0
            · rw [if_neg (by simp [hq])]
              by_cases he : j + q + w' = x.length
              · have hn2 : x.drop (j + q + w') = [] := List.drop_eq_nil_of_le (by omega)
                rw [if_pos (by simp [len_eq, he])]
                exact go _ _ (by rw [hn2]; rfl) (by rw [if_pos hq])
              · rw [if_neg (by simp [len_eq]; omega), idx_nat, List.getElem?_eq_getElem (by omega)]
                simp only [Option.bind_some]
                exact go _ _ (by rw [List.drop_eq_getElem_cons (by omega)]; rfl) (by rw [if_pos hq])
            · rw [if_pos (by simp; omega)]
              by_cases he : j + q + w' = x.length
              · have hn2 : x.drop (j + q + w') = [] := List.drop_eq_nil_of_le (by omega)
                rw [if_pos (by simp [len_eq, he])]
                exact go _ _ (by rw [hn2]; rfl) (by rw [if_neg hq])
              · rw [if_neg (by simp [len_eq]; omega), idx_nat, List.getElem?_eq_getElem (by omega)]
                simp only [Option.bind_some]
                exact go _ _ (by rw [List.drop_eq_getElem_cons (by omega)]; rfl) (by rw [if_neg hq])
    · have : x.drop j = [] := List.drop_eq_nil_of_le (by omega)
      rw [i_ScanTokens_L5_eq, if_neg (by simp [len_eq]; omega), this]
      cases n <;> rfl

def scanT (x : List UInt8) : List TToken × Int × Int := if x.length ≤ 4000 ∧ allPl x = true then scanL x.length x true [] 0 else ([], 0, 1)

theorem i_ScanTokens_ok {x : List UInt8} (h : x.length ≤ 9223372036854775807) : i_ScanTokens x = some (scanT x) := by
  rw [i_ScanTokens_eq]
  unfold scanT
  by_cases hl : x.length ≤ 4000
  · rw [if_neg (by simp [len_eq]; omega), i_isPlainText_ok h]
    simp only [Option.bind_some]
    cases hp : allPl x
    · simp
    · have := i_L5_ok hl x.length x.length 0 [] (Nat.le_refl _) (by omega) (by omega) (by simp)
      simp only [Int.natCast_zero, List.drop_zero] at this
      simp only [Bool.not_true, Bool.false_eq_true, if_false, hl, and_self, if_true]
      rw [this]
      rfl
  · rw [if_pos (by simp [len_eq]; omega), if_neg (by omega)]

end Go.Dv.U

namespace Go.Dv.U

open Go Go.Dv Go.Proofs

theorem s_l02Operator_ok (c : Int) : s_l02Operator c = some (isOpr c) := by
  rw [s_l02Operator_eq, s_l02Operator_L11_eq, s_l02Operator_L12_eq]
  unfold isOpr
  simp only [ite_some]
  congr 1
  cases c == 43 <;> cases c == 45 <;> cases c == 42 <;> cases c == 47 <;> cases c == 124 <;> cases c == 46 <;> cases c == 36 <;> cases c == 64 <;> cases c == 61 <;> rfl

def zTok : TToken := ⟨0, 0, [], false, false⟩

theorem L27_ok (j : Nat) (hj : j ≤ 4000) (c : Int) : s_l02One_L27 (j : Int) c [40, 41, 60, 62, 44, 58] 0 0 0 [] false false = some (if markOf c ≠ 0 then ((⟨markOf c, 0, [], false, false⟩ : TToken), ((j + 1 : Nat) : Int)) else (zTok, -1)) := by
  have hw : w64 ((j : Int) + 1) = ((j + 1 : Nat) : Int) := by rw [w64_of (by omega) (by omega)]; omega
  have step : ∀ (k : Int) (y : UInt8), idx [40, 41, 60, 62, 44, 58] k = some y → 0 ≤ k → k < 6 → s_l02One_L27 (j : Int) c [40, 41, 60, 62, 44, 58] k 0 0 [] false false = if ib y = c then some ((⟨w64 (5 + k), 0, [], false, false⟩ : TToken), ((j + 1 : Nat) : Int)) else s_l02One_L27 (j : Int) c [40, 41, 60, 62, 44, 58] (w64 (k + 1)) 0 0 [] false false := by
    intro k y h h0 h6
    rw [s_l02One_L27_eq, if_pos (by simp [len_eq]; omega), h]
    simp only [Option.bind_some, beq_iff_eq, hw]
    rfl
  have w1 : w64 (0 + 1) = 1 := by decide
  have w2 : w64 (1 + 1) = 2 := by decide
  have w3 : w64 (2 + 1) = 3 := by decide
  have w4 : w64 (3 + 1) = 4 := by decide
  have w5 : w64 (4 + 1) = 5 := by decide
  have w6 : w64 (5 + 1) = 6 := by decide
  have last : s_l02One_L27 (j : Int) c [40, 41, 60, 62, 44, 58] 6 0 0 [] false false = some (zTok, -1) := by
    rw [s_l02One_L27_eq, if_neg (by simp [len_eq])]; rfl
  rw [step 0 40 rfl (by decide) (by decide), w1, step 1 41 rfl (by decide) (by decide), w2, step 2 60 rfl (by decide) (by decide), w3, step 3 62 rfl (by decide) (by decide), w4, step 4 44 rfl (by decide) (by decide), w5, step 5 58 rfl (by decide) (by decide), w6, last]
  have i1 : ib 40 = 40 := by decide
  have i2 : ib 41 = 41 := by decide
  have i3 : ib 60 = 60 := by decide
  have i4 : ib 62 = 62 := by decide
  have i5 : ib 44 = 44 := by decide
  have i6 : ib 58 = 58 := by decide
  have v0 : w64 (5 + 0) = 5 := by decide
  have v1 : w64 (5 + 1) = 6 := by decide
  have v2 : w64 (5 + 2) = 7 := by decide
  have v3 : w64 (5 + 3) = 8 := by decide
  have v4 : w64 (5 + 4) = 9 := by decide
  have v5 : w64 (5 + 5) = 10 := by decide
  simp only [i1, i2, i3, i4, i5, i6, v0, v1, v2, v3, v4, v5]
  unfold markOf
  by_cases h1 : c = 40
  · subst h1; simp
  by_cases h2 : c = 41
  · subst h2; simp
  by_cases h3 : c = 60
  · subst h3; simp
  by_cases h4 : c = 62
  · subst h4; simp
  by_cases h5 : c = 44
  · subst h5; simp
  by_cases h6 : c = 58
  · subst h6; simp
  have f : ∀ n : Int, c ≠ n → ¬ n = c := fun n h e => h e.symm
  simp [h1, h2, h3, h4, h5, h6, f _ h1, f _ h2, f _ h3, f _ h4, f _ h5, f _ h6]

section

variable {x : List UInt8} (hx : x.length ≤ 4000)


include hx

theorem L10_ok {j : Nat} : ∀ (l : List UInt8) (e acc : Nat), x.drop e = l → j ≤ e → e ≤ x.length → e - j ≤ 14 → acc < 10 ^ (e - j) →
    s_l02One_L10 x (j : Int) (acc : Int) (e : Int) 0 0 [] false false = some (if (e - j) + runOf isDig l ≤ 13 ∧ numD (l.take (runOf isDig l)) acc ≤ 1000000000000 then ((⟨2, (numD (l.take (runOf isDig l)) acc : Nat), [], false, false⟩ : TToken), ((e + runOf isDig l : Nat) : Int)) else (zTok, -1)) := by
  have L13 : ∀ (e acc : Nat), j ≤ e → e ≤ x.length → s_l02One_L13 (j : Int) (acc : Int) (e : Int) 0 0 [] false false = some (if e - j ≤ 13 ∧ acc ≤ 1000000000000 then ((⟨2, (acc : Nat), [], false, false⟩ : TToken), (e : Int)) else (zTok, -1)) := by
    intro e acc h1 h2
    rw [s_l02One_L13_eq, w64_of (by omega) (by omega)]
    by_cases h13 : e - j ≤ 13
    · rw [if_neg (by simp; omega)]
      by_cases hb : acc ≤ 1000000000000
      · rw [if_neg (by simp; omega), if_pos ⟨h13, hb⟩]
        rfl
      · rw [if_pos (by simp; omega), if_neg (by omega)]; rfl
    · rw [if_pos (by simp; omega), if_neg (by omega)]; rfl
  intro l
  induction l with
  | nil =>
    intro e acc hd h1 h2 h3 h4
    have : x.length ≤ e := by
      have := congrArg List.length hd
      simp at this; omega
    rw [s_l02One_L10_eq, if_neg (by simp [len_eq]; omega), L13 e acc h1 h2]
    simp [runOf, numD]
  | cons b l ih =>
    intro e acc hd h1 h2 h3 h4
    have hlt : e < x.length := by
      have := congrArg List.length hd
      simp at this; omega
    rw [List.drop_eq_getElem_cons hlt] at hd
    simp only [List.cons.injEq] at hd
    rw [s_l02One_L10_eq, if_pos (by simp [len_eq, hlt]), idx_nat, List.getElem?_eq_getElem hlt, hd.1]
    simp only [Option.bind_some, s_l02Digit_ok]
    cases hg : isDig (ib b)
    · rw [if_neg (by simp), L13 e acc h1 h2, runOf_zero hg]
      simp [numD]
    · rw [if_pos rfl, runOf_succ hg, w64_of (by omega) (by omega)]
      by_cases h14 : e - j < 14
      · have hb := ib_eq b
        unfold isDig at hg
        simp only [Bool.and_eq_true_iff, decide_eq_true_eq] at hg
        have hp : 10 ^ (e - j) ≤ 10 ^ 13 := Nat.pow_le_pow_right (by decide) (by omega)
        have hp2 : 10 ^ (e - j + 1) = 10 ^ (e - j) * 10 := Nat.pow_succ _ _
        rw [if_pos (by simp; omega), s_l02One_L11_eq, idx_nat, List.getElem?_eq_getElem hlt, hd.1]
        simp only [Option.bind_some]
        have e1 : Go.IntKind.wrap Go.IntKind.u8 (ib b - 48) = ib b - 48 := by unfold IntKind.wrap; simp [IntKind.bits, IntKind.signed]; omega
        rw [e1, w64_of (n := ib b - 48) (by omega) (by omega), w64_of (n := 10 * (acc : Int)) (by omega) (by omega), w64_of (n := 10 * (acc : Int) + (ib b - 48)) (by omega) (by omega), w64_of (n := (e : Int) + 1) (by omega) (by omega)]
        rw [show 10 * (acc : Int) + (ib b - 48) = ((acc * 10 + (b.toNat - 48) : Nat) : Int) by omega, show (e : Int) + 1 = ((e + 1 : Nat) : Int) by omega]
        rw [ih (e + 1) (acc * 10 + (b.toNat - 48)) hd.2 (by omega) (by omega) (by omega) (by rw [show e + 1 - j = e - j + 1 by omega]; omega)]
        have en : numD ((b :: l).take (runOf isDig l + 1)) acc = numD (l.take (runOf isDig l)) (acc * 10 + (b.toNat - 48)) := by
          rw [List.take_succ_cons]; rfl
        rw [en, show e + 1 - j + runOf isDig l = e - j + (runOf isDig l + 1) by omega, show e + 1 + runOf isDig l = e + (runOf isDig l + 1) by omega]
      · rw [if_neg (by simp; omega), L13 e acc h1 h2, if_neg (by omega), if_neg (by omega)]

theorem L18_ok {j : Nat} (q : Int) : ∀ (l : List UInt8) (e : Nat), x.drop e = l → j + 1 ≤ e → e ≤ x.length →
    s_l02One_L18 x (j : Int) q (e : Int) 0 0 [] false false = some (if runOf (fun c => c != q) l < l.length ∧ e + runOf (fun c => c != q) l - j - 1 ≤ 200 then ((⟨3, 0, (x.drop (j + 1)).take (e + runOf (fun c => c != q) l - j - 1), false, false⟩ : TToken), ((e + runOf (fun c => c != q) l + 1 : Nat) : Int)) else (zTok, -1)) := by
  intro l
  induction l with
  | nil =>
    intro e hd h1 h2
    have : e = x.length := by
      have := congrArg List.length hd
      simp at this; omega
    rw [s_l02One_L18_eq, if_neg (by simp [len_eq]; omega), if_pos (by simp [len_eq, this]), s_l02One_L21_eq]
    rfl
  | cons b l ih =>
    intro e hd h1 h2
    have hlt : e < x.length := by
      have := congrArg List.length hd
      simp at this; omega
    rw [List.drop_eq_getElem_cons hlt] at hd
    simp only [List.cons.injEq] at hd
    rw [s_l02One_L18_eq, if_pos (by simp [len_eq, hlt]), idx_nat, List.getElem?_eq_getElem hlt, hd.1]
    simp only [Option.bind_some]
    by_cases hb : ib b = q
    · have hr : (fun c : Int => c != q) (ib b) = false := by simpa using hb
      rw [if_neg (by simpa using hb), if_neg (by simp [len_eq]; omega), runOf_zero hr]
      rw [w64_of (n := (e : Int) - (j : Int)) (by omega) (by omega), w64_of (by omega) (by omega)]
      simp only [Nat.add_zero]
      by_cases h200 : e - j - 1 ≤ 200
      · rw [if_neg (by simp; omega), if_pos ⟨by simp, h200⟩, s_l02One_L22_eq, w64_of (n := (j : Int) + 1) (by omega) (by omega), w64_of (by omega) (by omega)]
        have := cut_at (x := x) (j := j + 1) (m := e - j - 1) (by omega)
        rw [show j + 1 + (e - j - 1) = e by omega] at this
        rw [show (j : Int) + 1 = ((j + 1 : Nat) : Int) by omega, this]
        rfl
      · rw [if_pos (by simp; omega), if_neg (by omega), s_l02One_L21_eq]
        rfl
    · have hr : (fun c : Int => c != q) (ib b) = true := by simpa using hb
      rw [if_pos (by simpa using hb), w64_of (by omega) (by omega), show (e : Int) + 1 = ((e + 1 : Nat) : Int) by omega, ih (e + 1) hd.2 (by omega) (by omega), runOf_succ hr]
      have e1 : e + 1 + runOf (fun c => c != q) l = e + (runOf (fun c => c != q) l + 1) := by omega
      rw [e1]
      simp only [List.length_cons, Nat.add_lt_add_iff_right]

theorem s_l02One_ok {j : Nat} (hj : j < x.length) : ∃ (tk : TToken) (e : Int), s_l02One x (j : Int) = some (tk, e) ∧
    (match tokAt (x.drop j) with | none => e = -1 | some (k, m, t, w) => tk.fKind = k ∧ tk.fNum = m ∧ tk.fText = t ∧ e = ((j + w : Nat) : Int)) := by
  obtain ⟨b, r, hd⟩ : ∃ b r, x.drop j = b :: r := ⟨_, _, List.drop_eq_getElem_cons hj⟩
  have hget : idx x (j : Int) = some b := by
    rw [idx_nat, List.getElem?_eq_getElem hj]
    rw [List.drop_eq_getElem_cons hj] at hd
    simp only [List.cons.injEq] at hd
    rw [hd.1]
  have hd1 : x.drop (j + 1) = r := by
    rw [List.drop_eq_getElem_cons hj] at hd
    simp only [List.cons.injEq] at hd
    exact hd.2
  have hrl : (b :: r).length = x.length - j := by rw [← hd, List.length_drop]
  simp only [List.length_cons] at hrl
  have hone : w64 ((j : Int) + 1) = ((j + 1 : Nat) : Int) := by rw [w64_of (by omega) (by omega)]; omega
  rw [s_l02One_eq, hget, hd, tokAt_cons]
  simp only [Option.bind_some, s_l02Letter_ok, s_l02Digit_ok]
  by_cases h1 : isLet (ib b) = true
  · have hle := runOf_le isNmB (b :: r)
    simp only [List.length_cons] at hle
    rw [if_pos h1, if_pos h1, s_l02NameEnd_ok (by omega) (by omega), hd]
    simp only [h1, if_true, Option.bind_some, ← runOf_nm]
    generalize runOf isNmB (b :: r) = n at hle
    rw [w64_of (by omega) (by omega)]
    by_cases h12 : n ≤ 12
    · rw [if_neg (by simp; omega), if_pos h12, cut_at (by omega), hd]
      exact ⟨_, _, rfl, rfl, rfl, rfl, rfl⟩
    · rw [if_pos (by simp; omega), if_neg h12]
      exact ⟨_, _, rfl, rfl⟩
  rw [if_neg h1, if_neg h1]
  by_cases h2 : isDig (ib b) = true
  · rw [if_pos h2, if_pos h2]
    have := L10_ok hx (j := j) (b :: r) j 0 hd (Nat.le_refl _) (by omega) (by omega) (by simp)
    simp only [Int.natCast_zero, Nat.sub_self, Nat.zero_add] at this
    rw [this]
    split
    · exact ⟨_, _, rfl, rfl, rfl, rfl, rfl⟩
    · exact ⟨_, _, rfl, rfl⟩
  rw [if_neg h2, if_neg h2]
  have quo : ∃ (tk : TToken) (e : Int), s_l02One_L18 x (j : Int) (ib b) ((j + 1 : Nat) : Int) 0 0 [] false false = some (tk, e) ∧ (match (if runOf (fun c => c != ib b) r < r.length ∧ runOf (fun c => c != ib b) r ≤ 200 then some ((3 : Int), (0 : Int), r.take (runOf (fun c => c != ib b) r), runOf (fun c => c != ib b) r + 2) else none) with | none => e = -1 | some (k, m, t, w) => tk.fKind = k ∧ tk.fNum = m ∧ tk.fText = t ∧ e = ((j + w : Nat) : Int)) := by
    rw [L18_ok hx (ib b) r (j + 1) hd1 (Nat.le_refl _) (by omega), hd1]
    rw [show j + 1 + runOf (fun c => c != ib b) r - j - 1 = runOf (fun c => c != ib b) r by omega]
    split
    · exact ⟨_, _, rfl, rfl, rfl, rfl, by omega⟩
    · exact ⟨_, _, rfl, rfl⟩
  by_cases h39 : ib b = 39
  · rw [if_pos (by simpa using h39), if_pos (.inl h39), hone]
    exact quo
  rw [if_neg (by simpa using h39)]
  by_cases h34 : ib b = 34
  · rw [if_pos (by simpa using h34), if_pos (.inr h34), hone]
    exact quo
  rw [if_neg (by simpa using h34), if_neg (by omega), s_l02Operator_ok]
  simp only [Option.bind_some]
  by_cases h4 : isOpr (ib b) = true
  · rw [if_pos h4, if_pos h4, hone]
    have := cut_at (x := x) (j := j) (m := 1) (by omega)
    rw [this, hd]
    exact ⟨_, _, rfl, rfl, rfl, rfl, rfl⟩
  · rw [if_neg h4, if_neg h4, L27_ok j (by omega) (ib b)]
    split
    · exact ⟨_, _, rfl, rfl, rfl, rfl, rfl⟩
    · exact ⟨_, _, rfl, rfl⟩

/-- the reference's loop -/
theorem s_L4_ok : ∀ (N n j : Nat) (bl : Bool) (out : List TToken), n ≤ N → j ≤ x.length → x.length - j ≤ n → out.length ≤ 120 →
    (∀ tk, out[out.length - 1]? = some tk → tk.fAfter = true ∨ (bl = false ∧ nextBl (x.drop j) = false)) → s_l02Scan_L4 x (j : Int) bl out = some (scanL n (x.drop j) bl out j) := by
  have fin : ∀ (j : Nat) (bl : Bool) (out : List TToken) (n : Nat), x.length ≤ j → j ≤ x.length → out.length ≤ 120 → (∀ tk, out[out.length - 1]? = some tk → tk.fAfter = true ∨ (bl = false ∧ nextBl (x.drop j) = false)) → s_l02Scan_L4 x (j : Int) bl out = some (scanL n (x.drop j) bl out j) := by
    intro j bl out n h1 h2 ho hi
    have hd : x.drop j = [] := List.drop_eq_nil_of_le h1
    have hs : scanL n (x.drop j) bl out j = (out, 0, 0) := by rw [hd]; cases n <;> rfl
    rw [hs, s_l02Scan_L4_eq, if_neg (by simp [len_eq]; omega)]
    by_cases h0 : out.length = 0
    · rw [if_neg (by simp [len_eq, h0])]
    · rw [if_pos (by simp [len_eq]; omega), len_eq, w64_of (by omega) (by omega), show (out.length : Int) - 1 = ((out.length - 1 : Nat) : Int) by omega, idx_nat, Int.toNat_natCast]
      have hlt : out.length - 1 < out.length := by omega
      rw [List.getElem?_eq_getElem hlt]
      simp only [Option.bind_some]
      have ha : (out[out.length - 1]).fAfter = true := by
        rcases hi _ (List.getElem?_eq_getElem hlt) with h | ⟨_, h⟩
        · exact h
        · rw [hd] at h; cases h
      have : upd out (out.length - 1) ⟨out[out.length - 1].fKind, out[out.length - 1].fNum, out[out.length - 1].fText, out[out.length - 1].fBefore, true⟩ = out := by
        rw [upd_eq, ← ha]
        exact List.set_getElem_self hlt
      rw [this]
  intro N
  induction N with
  | zero =>
    intro n j bl out hn hj hl ho hi
    exact fin j bl out n (by omega) hj ho hi
  | succ N ih =>
    intro n j bl out hn hj hl ho hi
    by_cases hlt : j < x.length
    · obtain ⟨b, r, hd⟩ : ∃ b r, x.drop j = b :: r := ⟨_, _, List.drop_eq_getElem_cons hlt⟩
      have hget : idx x (j : Int) = some b := by
        rw [idx_nat, List.getElem?_eq_getElem hlt]
        rw [List.drop_eq_getElem_cons hlt] at hd
        simp only [List.cons.injEq] at hd
        rw [hd.1]
      have hd1 : x.drop (j + 1) = r := by
        rw [List.drop_eq_getElem_cons hlt] at hd
        simp only [List.cons.injEq] at hd
        exact hd.2
      obtain ⟨m, rfl⟩ : ∃ m, n = m + 1 := ⟨n - 1, by omega⟩
      rw [s_l02Scan_L4_eq, if_pos (by simpa [len_eq] using hlt), hget, hd]
      simp only [Option.bind_some, scanL]
      by_cases hb : ib b = 32
      · rw [if_pos (by simpa using hb), if_pos hb, w64_of (by omega) (by omega), show (j : Int) + 1 = ((j + 1 : Nat) : Int) by omega, ih m (j + 1) true out (by omega) (by omega) (by omega) ho (fun tk h => by
          rcases hi tk h with h | ⟨_, h⟩
          · exact .inl h
          · rw [hd] at h
            simp [nextBl, hb] at h), hd1]
      · rw [if_neg (by simpa using hb), if_neg hb]
        obtain ⟨tk, e, hs, hmt⟩ := s_l02One_ok hx hlt
        rw [hs]
        rw [hd] at hmt
        simp only [Option.bind_some]
        cases ht : tokAt (b :: r) with
        | none =>
          rw [ht] at hmt
          simp only at hmt
          subst hmt
          rw [if_pos (by simp)]
        | some z =>
          obtain ⟨k, mm, t, w⟩ := z
          rw [ht] at hmt
          simp only at hmt
          obtain ⟨rfl, rfl, rfl, rfl⟩ := hmt
          have hw := tokAt_len ht
          rw [← hd, List.length_drop] at hw
          rw [if_neg (by simp; omega)]
          simp only
          by_cases h120 : out.length = 120
          · rw [if_pos (show (len out == 120) = true by simp [len_eq, h120]), if_pos (show 120 ≤ out.length by omega)]
          · rw [if_neg (show ¬ (len out == 120) = true by simp [len_eq]; omega), if_neg (show ¬ 120 ≤ out.length by omega)]
            have hrest : (b :: r).drop w = x.drop (j + w) := by rw [← hd, List.drop_drop]
            rw [hrest]
            have go : ∀ af : Bool, af = nextBl (x.drop (j + w)) → ((app out [(⟨tk.fKind, tk.fNum, tk.fText, bl, af⟩ : TToken)]).bind fun y => s_l02Scan_L4 x ((j + w : Nat) : Int) false y) = some (scanL m (x.drop (j + w)) false (out ++ [⟨tk.fKind, tk.fNum, tk.fText, bl, nextBl (x.drop (j + w))⟩]) (j + w)) := by
              intro af h
              rw [app_of (by simp; omega)]
              simp only [Option.bind_some]
              rw [h]
              exact ih m (j + w) false _ (by omega) (by omega) (by omega) (by simp; omega) (fun tk' hk => by
                simp only [List.length_append, List.length_cons, List.length_nil, Nat.zero_add, Nat.add_sub_cancel] at hk
                rw [List.getElem?_append_right (Nat.le_refl _)] at hk
                simp only [Nat.sub_self, List.getElem?_cons_zero, Option.some.injEq] at hk
                subst hk
                cases hnb : nextBl (x.drop (j + w))
                · exact .inr ⟨rfl, rfl⟩
                · exact .inl rfl)
            by_cases he : j + w = x.length
            · have hn2 : x.drop (j + w) = [] := List.drop_eq_nil_of_le (by omega)
              rw [if_pos (show (((j + w : Nat) : Int) == len x) = true by simp [len_eq, he])]
              exact go true (by rw [hn2]; rfl)
            · rw [if_neg (show ¬ (((j + w : Nat) : Int) == len x) = true by simp [len_eq]; omega), idx_nat, List.getElem?_eq_getElem (by omega)]
              simp only [Option.bind_some]
              exact go _ (by rw [List.drop_eq_getElem_cons (by omega)]; rfl)
    · exact fin j bl out n (by omega) hj ho hi

end

theorem s_ScanTokens_ok {x : List UInt8} (h : x.length ≤ 9223372036854775807) : s_ScanTokens x = some (scanT x) := by
  rw [s_ScanTokens_eq]
  unfold scanT
  by_cases hl : x.length ≤ 4000
  · rw [if_neg (by simp [len_eq]; omega), s_l01Printable_ok h]
    simp only [Option.bind_some]
    cases hp : allPl x
    · simp
    · have := s_L4_ok hl x.length x.length 0 true [] (Nat.le_refl _) (by omega) (by omega) (by simp) (fun tk h => by simp at h)
      simp only [Int.natCast_zero, List.drop_zero] at this
      simp only [Bool.not_true, Bool.false_eq_true, if_false, hl, and_self, if_true, s_l02Scan_eq]
      rw [this]
      rfl
  · rw [if_pos (by simp [len_eq]; omega), if_neg (by omega)]

end Go.Dv.U

namespace Go.Dv.U

open Go Go.Dv Go.Proofs

theorem dec_dig : ∀ u : Nat, (Lib.decDigits u).all (fun b => isDig (ib b)) = true ∧ numD (Lib.decDigits u) 0 = u ∧ Lib.decDigits u ≠ [] := by
  intro u
  induction u using Nat.strongRecOn with
  | _ u ih =>
    have hd : ∀ d : Nat, d < 10 → isDig (ib (UInt8.ofNat (48 + d))) = true ∧ (UInt8.ofNat (48 + d)).toNat - 48 = d := by
      intro d hd
      have h : (UInt8.ofNat (48 + d)).toNat = 48 + d := by simp; omega
      refine ⟨?_, by omega⟩
      simp only [isDig, ib_eq, h, Bool.and_eq_true, decide_eq_true_eq]; omega
    rw [Lib.decDigits]
    by_cases h : u < 10
    · rw [dif_pos h]
      obtain ⟨h1, h2⟩ := hd u h
      refine ⟨by simp only [List.all_cons, List.all_nil, h1, Bool.and_true], ?_, by simp⟩
      simp only [numD, List.foldl_cons, List.foldl_nil]; omega
    · rw [dif_neg h]
      obtain ⟨i1, i2, i3⟩ := ih (u / 10) (by omega)
      obtain ⟨h1, h2⟩ := hd (u % 10) (by omega)
      refine ⟨by rw [List.all_append, i1]; simp only [List.all_cons, List.all_nil, h1, Bool.and_true], ?_, by simp⟩
      unfold numD at i2 ⊢
      rw [List.foldl_append, i2]
      simp only [List.foldl_cons, List.foldl_nil]; omega

theorem dec_len {u : Nat} (h : u ≤ 1000000000000) : (Lib.decDigits u).length ≤ 13 := by
  rw [Lib.decDigits_length]
  exact nDigits_le 12 u (by omega)

/-- a run that ends -/
theorem runOf_stop {p : Int → Bool} : ∀ (a r : List UInt8), a.all (fun b => p (ib b)) = true → (∀ b t, r = b :: t → p (ib b) = false) → runOf p (a ++ r) = a.length
  | [], r, _, h => by
    cases r with
    | nil => rfl
    | cons b t => exact runOf_zero (h b t rfl)
  | x :: a, r, ha, h => by
    rw [List.all_cons, Bool.and_eq_true] at ha
    rw [List.cons_append, runOf_succ ha.1, runOf_stop a r ha.2 h, List.length_cons]

theorem take_app {α : Type} (a r : List α) : (a ++ r).take a.length = a := by simp

theorem drop_app {α : Type} (a r : List α) : (a ++ r).drop a.length = r := by simp

def tText (t : TToken) : List UInt8 := if t.fKind = 1 ∨ t.fKind = 4 then t.fText else if t.fKind = 2 then Lib.decDigits t.fNum.toNat else if t.fKind = 3 then quote t.fText else if t.fKind = 5 then [40] else if t.fKind = 6 then [41] else if t.fKind = 7 then [60] else if t.fKind = 8 then [62] else if t.fKind = 9 then [44] else [58]

/-- a successful scan -/
inductive Sc : Bool → List UInt8 → List TToken → Prop
  | nil (bl : Bool) : Sc bl [] []
  | bl (bl : Bool) {r : List UInt8} {L : List TToken} (h : Sc true r L) : Sc bl (32 :: r) L
  | tok (bl : Bool) {s : List UInt8} {k m : Int} {t : List UInt8} {w : Nat} {L : List TToken} (hb : ∀ b r, s = b :: r → ¬ ib b = 32) (ht : tokAt s = some (k, m, t, w)) (h : Sc false (s.drop w) L) : Sc bl s (⟨k, m, t, bl, nextBl (s.drop w)⟩ :: L)

theorem ib32 {b : UInt8} (h : ib b = 32) : b = 32 := ib_inj.1 (h.trans (by decide))

theorem scanL_sc : ∀ (n : Nat) (s : List UInt8) (bl : Bool) (out : List TToken) (at_ : Nat) (R : List TToken) (e : Int), s.length ≤ n → scanL n s bl out at_ = (R, e, 0) → ∃ L, Sc bl s L ∧ R = out ++ L
  | n, [], bl, out, at_, R, e, _, h => by
    have : scanL n [] bl out at_ = (out, 0, 0) := by cases n <;> rfl
    rw [this] at h
    cases h
    exact ⟨[], .nil bl, by simp⟩
  | 0, b :: r, bl, out, at_, R, e, hn, h => by simp at hn
  | n + 1, b :: r, bl, out, at_, R, e, hn, h => by
    rw [scanL] at h
    split at h
    · rename_i hb
      obtain rfl := ib32 hb
      obtain ⟨L, h1, h2⟩ := scanL_sc n r true out (at_ + 1) R e (by simpa using hn) h
      exact ⟨L, .bl bl h1, h2⟩
    · rename_i hb
      split at h
      · cases h
      · rename_i k m t w ht
        split at h
        · cases h
        · have hl := tokAt_len ht
          obtain ⟨L, h1, h2⟩ := scanL_sc n _ false _ _ R e (by rw [List.length_drop]; simp only [List.length_cons] at hn hl ⊢; omega) h
          exact ⟨_, .tok bl (fun b' r' e => by cases e; exact hb) ht h1, by rw [h2]; simp⟩

theorem sc_scanL {bl : Bool} {s : List UInt8} {L : List TToken} (h : Sc bl s L) : ∀ (n : Nat) (out : List TToken) (at_ : Nat), s.length ≤ n → out.length + L.length ≤ 120 → scanL n s bl out at_ = (out ++ L, 0, 0) := by
  induction h with
  | nil bl => intro n out at_ _ _; cases n <;> simp [scanL]
  | bl bl h ih =>
    intro n out at_ hn hl
    cases n with
    | zero => simp at hn
    | succ n =>
      have : ib 32 = 32 := by decide
      rw [scanL, if_pos this]
      exact ih n out (at_ + 1) (by simpa using hn) hl
  | @tok bl s k m t w L hb ht h ih =>
    intro n out at_ hn hl
    have hlen := tokAt_len ht
    cases s with
    | nil => cases ht
    | cons b r =>
      cases n with
      | zero => simp at hn
      | succ n =>
        simp only [List.length_cons] at hl hn hlen
        rw [scanL, if_neg (hb b r rfl), ht]
        simp only
        rw [if_neg (by omega), ih n _ _ (by rw [List.length_drop]; simp only [List.length_cons]; omega) (by simp; omega)]
        simp

/-- the head of the text of a token -/
def hdD (s : List UInt8) : Bool × Bool × Bool := match s with | [] => (false, false, true) | b :: _ => (isNmB (ib b), isDig (ib b), ib b == 32)

theorem qb_not {b : UInt8} (h : ib b = 39 ∨ ib b = 34) : isNmB (ib b) = false ∧ isDig (ib b) = false ∧ (ib b == 32) = false ∧ isLet (ib b) = false := by
  rcases h with h | h <;> rw [h] <;> decide

theorem hasB_mem {c : Int} {s : List UInt8} (h : hasB c s = false) : ∀ b ∈ s, ib b ≠ c := by
  intro b hb e
  have : hasB c s = true := List.any_eq_true.2 ⟨b, hb, by simpa using e⟩
  rw [h] at this; cases this

/-- what is known of a token that is read off a plain text, and of its printed form before any rest that does not prolong it -/
theorem tok_print {s : List UInt8} {k m : Int} {t : List UInt8} {w : Nat} (hp : allPl s = true) (ht : tokAt s = some (k, m, t, w)) (bf af : Bool) :
    (1 ≤ k ∧ k ≤ 10) ∧ ((k = 1 ∧ m = 0 ∧ isName t = true) ∨ (k = 2 ∧ t = [] ∧ 0 ≤ m ∧ m ≤ 1000000000000) ∨ (k = 3 ∧ m = 0 ∧ canQ t = true) ∨ (k = 4 ∧ m = 0 ∧ ∃ b, t = [b] ∧ isOpr (ib b) = true) ∨ (5 ≤ k ∧ m = 0 ∧ t = [])) ∧
    (tText ⟨k, m, t, bf, af⟩).length ≤ w ∧ hdD (tText ⟨k, m, t, bf, af⟩) = hdD s ∧ allPl (tText ⟨k, m, t, bf, af⟩) = true ∧
    ∀ r : List UInt8, (∀ b q, r = b :: q → isNmB (ib b) = true → ∃ b' q', s.drop w = b' :: q' ∧ isNmB (ib b') = true ∧ (isDig (ib b) = true → isDig (ib b') = true)) → tokAt (tText ⟨k, m, t, bf, af⟩ ++ r) = some (k, m, t, (tText ⟨k, m, t, bf, af⟩).length) := by
  cases s with
  | nil => cases ht
  | cons b r0 =>
    have hbp : isPl b = true := by simp only [allPl, List.all_cons, Bool.and_eq_true] at hp; exact hp.1
    have hrp : allPl r0 = true := by simp only [allPl, List.all_cons, Bool.and_eq_true] at hp; exact hp.2
    have tkp : ∀ (l : List UInt8) (n : Nat), allPl l = true → allPl (l.take n) = true := fun l n h => List.all_eq_true.2 fun x hx => List.all_eq_true.1 h x (List.mem_of_mem_take hx)
    rw [tokAt_cons] at ht
    split at ht
    · -- a name
      rename_i hl
      split at ht
      · rename_i hlen
        cases ht
        have hle := runOf_le isNmB (b :: r0)
        have hnb : isNmB (ib b) = true := by unfold isNmB; rw [hl]; rfl
        obtain ⟨n, hn⟩ : ∃ n, runOf isNmB (b :: r0) = n + 1 := ⟨runOf isNmB r0, runOf_succ hnb⟩
        have htk : (b :: r0).take (runOf isNmB (b :: r0)) = b :: r0.take n := by rw [hn]; rfl
        have hall := runOf_all isNmB (b :: r0)
        have htl : ((b :: r0).take (runOf isNmB (b :: r0))).length = runOf isNmB (b :: r0) := by rw [List.length_take]; omega
        have htx : tText ⟨1, 0, (b :: r0).take (runOf isNmB (b :: r0)), bf, af⟩ = (b :: r0).take (runOf isNmB (b :: r0)) := by simp [tText]
        rw [htx]
        refine ⟨by omega, .inl ⟨rfl, rfl, ?_⟩, by omega, by rw [htk]; rfl, tkp _ _ hp, fun r hr => ?_⟩
        · rw [htk] at hall htl ⊢
          unfold isName
          simp only [hl, Bool.true_and, Bool.and_eq_true, decide_eq_true_eq]
          simp only [List.all_cons, Bool.and_eq_true] at hall
          simp only [List.length_cons] at htl ⊢
          first
          | exact ⟨hall.2, by omega⟩
          | exact ⟨by omega, hall.2⟩
          | (simp [hall.1, hall.2]; omega)
        · have hrun : runOf isNmB ((b :: r0).take (runOf isNmB (b :: r0)) ++ r) = ((b :: r0).take (runOf isNmB (b :: r0))).length := runOf_stop _ _ hall fun b' q' e => by
            cases hb' : isNmB (ib b') with
            | false => rfl
            | true =>
              obtain ⟨b2, q2, e2, h2, _⟩ := hr b' q' e hb'
              have := drop_run (p := isNmB) (b :: r0) b2 q2 e2
              rw [h2] at this; cases this
          have e1 : (b :: r0).take (runOf isNmB (b :: r0)) ++ r = b :: (r0.take n ++ r) := by rw [htk]; rfl
          rw [e1] at hrun ⊢
          rw [tokAt_cons, if_pos hl, hrun, ← e1, take_app, if_pos (by omega)]
      · cases ht
    rename_i hl
    split at ht
    · -- a number
      rename_i hd
      split at ht
      · rename_i hc
        cases ht
        obtain ⟨hc1, hc2⟩ := hc
        have hle := runOf_le isDig (b :: r0)
        have h1 : 1 ≤ runOf isDig (b :: r0) := by rw [runOf_succ hd]; omega
        generalize hu : numD ((b :: r0).take (runOf isDig (b :: r0))) 0 = u at hc2
        have htl : ((b :: r0).take (runOf isDig (b :: r0))).length = runOf isDig (b :: r0) := by rw [List.length_take]; omega
        have hall := runOf_all isDig (b :: r0)
        have hub : u < 10 ^ runOf isDig (b :: r0) := by
          have := numD_lt ((b :: r0).take (runOf isDig (b :: r0))) 0 0 (by
            rw [List.all_eq_true] at hall ⊢
            intro x hx
            have := hall x hx
            simp only [isDig, ib_eq, Bool.and_eq_true, decide_eq_true_eq] at this
            simp only [digB, Bool.and_eq_true, decide_eq_true_eq]; omega) (by simp)
          rw [hu, htl] at this
          simpa using this
        obtain ⟨d1, d2, d3⟩ := dec_dig u
        have hdl : (Lib.decDigits u).length ≤ runOf isDig (b :: r0) := by
          obtain ⟨j, hj⟩ : ∃ j, runOf isDig (b :: r0) = j + 1 := ⟨runOf isDig (b :: r0) - 1, by omega⟩
          rw [Lib.decDigits_length, hj]
          exact nDigits_le j u (by rw [← hj]; exact hub)
        have htx : tText ⟨2, (u : Int), [], bf, af⟩ = Lib.decDigits u := by simp [tText]
        rw [htx]
        have dnm : ∀ c : UInt8, isDig (ib c) = true → isNmB (ib c) = true ∧ isLet (ib c) = false ∧ (ib c == 32) = false ∧ isPl c = true := by
          intro c hc
          simp only [isDig, Bool.and_eq_true, decide_eq_true_eq] at hc
          refine ⟨by simp only [isNmB, isDig, hc.1, hc.2, decide_true, Bool.and_true, Bool.or_true, Bool.true_or], ?_, ?_, ?_⟩
          · simp only [isLet, Bool.or_eq_false_iff, Bool.and_eq_false_iff, decide_eq_false_iff_not]; omega
          · rw [beq_eq_false_iff_ne]; omega
          · simp only [isPl, Bool.and_eq_true, decide_eq_true_eq]; omega
        refine ⟨by omega, .inr (.inl ⟨rfl, rfl, by omega, by omega⟩), hdl, ?_, ?_, fun r hr => ?_⟩
        · cases hdd : Lib.decDigits u with
          | nil => exact absurd hdd d3
          | cons c q =>
            rw [hdd, List.all_cons, Bool.and_eq_true] at d1
            obtain ⟨a1, _, a3, _⟩ := dnm c d1.1
            obtain ⟨b1, _, b3, _⟩ := dnm b hd
            simp only [hdD, a1, a3, b1, b3, hd, d1.1]
        · rw [List.all_eq_true] at d1
          exact List.all_eq_true.2 fun x hx => (dnm x (d1 x hx)).2.2.2
        · have hrun : runOf isDig (Lib.decDigits u ++ r) = (Lib.decDigits u).length := runOf_stop _ _ d1 fun b' q' e => by
            cases hb' : isDig (ib b') with
            | false => rfl
            | true =>
              obtain ⟨b2, q2, e2, _, h3⟩ := hr b' q' e (dnm b' hb').1
              have := drop_run (p := isDig) (b :: r0) b2 q2 e2
              rw [h3 hb'] at this; cases this
          cases hdd : Lib.decDigits u with
          | nil => exact absurd hdd d3
          | cons c q =>
            have hc := d1
            rw [hdd, List.all_cons, Bool.and_eq_true] at hc
            obtain ⟨_, a2, _, _⟩ := dnm c hc.1
            have e1 : c :: q ++ r = c :: (q ++ r) := rfl
            rw [hdd] at hrun
            rw [e1] at hrun ⊢
            rw [tokAt_cons, if_neg (by rw [a2]; simp), if_pos hc.1, hrun, ← e1, take_app, ← hdd, d2, if_pos ⟨by omega, hc2⟩]
      · cases ht
    rename_i hd
    split at ht
    · -- a string
      rename_i hq
      split at ht
      · rename_i hc
        cases ht
        obtain ⟨hc1, hc2⟩ := hc
        generalize hn : runOf (fun c => c != ib b) r0 = n at hc1 hc2
        have htl : (r0.take n).length = n := by rw [List.length_take]; omega
        have hno : hasB (ib b) (r0.take n) = false := by
          have := runOf_all (fun c => c != ib b) r0
          rw [hn] at this
          rw [← Bool.not_eq_true]
          intro h
          obtain ⟨x, hx, he⟩ := List.any_eq_true.1 h
          have := List.all_eq_true.1 this x hx
          simp only [bne_iff_ne, ne_eq] at this
          exact this (by simpa using he)
        have hcan : canQ (r0.take n) = true := by
          have hp2 := tkp r0 n hrp
          have hb2 : (hasB 39 (r0.take n) && hasB 34 (r0.take n)) = false := by
            rcases hq with h | h
            · rw [h] at hno; rw [hno]; rfl
            · rw [h] at hno; rw [hno, Bool.and_false]
          unfold canQ
          rw [hp2, hb2, htl]; simp; omega
        -- the quote that is printed
        obtain ⟨q, hqq, hqt, hqn⟩ : ∃ q : UInt8, (ib q = 39 ∨ ib q = 34) ∧ quote (r0.take n) = q :: r0.take n ++ [q] ∧ hasB (ib q) (r0.take n) = false := by
          unfold quote
          rw [if_pos hcan]
          by_cases h39 : hasB 39 (r0.take n) = true
          · rw [if_pos h39]
            refine ⟨34, .inr (by decide), rfl, ?_⟩
            rcases hq with h | h
            · rw [h, h39] at hno; cases hno
            · rw [h] at hno; exact hno
          · rw [if_neg h39]
            exact ⟨39, .inl (by decide), rfl, by rw [show ib 39 = 39 by decide]; simpa using h39⟩
        have htx : tText ⟨3, 0, r0.take n, bf, af⟩ = q :: r0.take n ++ [q] := by rw [← hqt]; simp [tText]
        rw [htx]
        obtain ⟨q1, q2, q3, q4⟩ := qb_not hqq
        obtain ⟨b1, b2, b3, b4⟩ := qb_not hq
        have hqp : isPl q = true := by rcases hqq with h | h <;> simp [isPl, h]
        refine ⟨by omega, .inr (.inr (.inl ⟨rfl, rfl, hcan⟩)), by simp; omega, ?_, ?_, fun r _ => ?_⟩
        · show hdD (q :: (r0.take n ++ [q])) = hdD (b :: r0)
          simp only [hdD, q1, q2, q3, b1, b2, b3]
        · have := tkp r0 n hrp
          simp only [allPl] at this ⊢
          simp [this, hqp]
        · have hrun : runOf (fun c => c != ib q) (r0.take n ++ q :: r) = (r0.take n).length := runOf_stop _ _ (by
              rw [List.all_eq_true]; intro x hx; simpa using hasB_mem hqn x hx) fun b' q' e => by cases e; simp
          have e1 : q :: r0.take n ++ [q] ++ r = q :: (r0.take n ++ q :: r) := by simp
          rw [e1, tokAt_cons, if_neg (by rw [q4]; simp), if_neg (by rw [q2]; simp), if_pos hqq, hrun, take_app, htl, if_pos ⟨by simp; omega, hc2⟩]
          simp [htl]
      · cases ht
    rename_i hq
    split at ht
    · -- an operator
      rename_i ho
      cases ht
      have htx : tText ⟨4, 0, [b], bf, af⟩ = [b] := by simp [tText]
      rw [htx]
      refine ⟨by omega, .inr (.inr (.inr (.inl ⟨rfl, rfl, b, rfl, ho⟩))), by simp, rfl, by simp [allPl, hbp], fun r _ => ?_⟩
      show tokAt (b :: r) = _
      rw [tokAt_cons, if_neg hl, if_neg hd, if_neg hq, if_pos ho]
      rfl
    rename_i ho
    split at ht
    · -- a mark
      rename_i hm
      cases ht
      have hk : (1 ≤ markOf (ib b) ∧ markOf (ib b) ≤ 10) ∧ 5 ≤ markOf (ib b) ∧ tText ⟨markOf (ib b), 0, [], bf, af⟩ = [b] := by
        have e : ∀ c : UInt8, ib b = ib c → b = c := fun c h => ib_inj.1 h
        unfold markOf at hm ⊢
        by_cases h1 : ib b = 40
        · obtain rfl := e 40 (h1.trans (by decide)); rw [if_pos h1]; exact ⟨by omega, by omega, rfl⟩
        rw [if_neg h1] at hm ⊢
        by_cases h2 : ib b = 41
        · obtain rfl := e 41 (h2.trans (by decide)); rw [if_pos h2]; exact ⟨by omega, by omega, rfl⟩
        rw [if_neg h2] at hm ⊢
        by_cases h3 : ib b = 60
        · obtain rfl := e 60 (h3.trans (by decide)); rw [if_pos h3]; exact ⟨by omega, by omega, rfl⟩
        rw [if_neg h3] at hm ⊢
        by_cases h4 : ib b = 62
        · obtain rfl := e 62 (h4.trans (by decide)); rw [if_pos h4]; exact ⟨by omega, by omega, rfl⟩
        rw [if_neg h4] at hm ⊢
        by_cases h5 : ib b = 44
        · obtain rfl := e 44 (h5.trans (by decide)); rw [if_pos h5]; exact ⟨by omega, by omega, rfl⟩
        rw [if_neg h5] at hm ⊢
        by_cases h6 : ib b = 58
        · obtain rfl := e 58 (h6.trans (by decide)); rw [if_pos h6]; exact ⟨by omega, by omega, rfl⟩
        rw [if_neg h6] at hm
        exact absurd rfl hm
      rw [hk.2.2]
      refine ⟨hk.1, .inr (.inr (.inr (.inr ⟨hk.2.1, rfl, rfl⟩))), by simp, rfl, by simp [allPl, hbp], fun r _ => ?_⟩
      show tokAt (b :: r) = _
      rw [tokAt_cons, if_neg hl, if_neg hd, if_neg hq, if_neg ho, if_pos hm]
      rfl
    · cases ht

/-- the printed form of tokens -/
def sepT (a : Bool) : List TToken → List UInt8
  | [] => []
  | u :: _ => if (u.fBefore || a) = true then [32] else []

def prT : List TToken → List UInt8
  | [] => []
  | t :: r => tText t ++ (sepT t.fAfter r ++ prT r)

theorem nextBl_hd : ∀ s, nextBl s = (hdD s).2.2
  | [] => rfl
  | _ :: _ => rfl

theorem hdD_app {a r : List UInt8} (h : a ≠ []) : hdD (a ++ r) = hdD a := by
  cases a with
  | nil => exact absurd rfl h
  | cons => rfl

/-- valid tokens -/
def tOk (t : TToken) : Prop := (1 ≤ t.fKind ∧ t.fKind ≤ 10) ∧ ((t.fKind = 1 ∧ t.fNum = 0 ∧ isName t.fText = true) ∨ (t.fKind = 2 ∧ t.fText = [] ∧ 0 ≤ t.fNum ∧ t.fNum ≤ 1000000000000) ∨ (t.fKind = 3 ∧ t.fNum = 0 ∧ canQ t.fText = true) ∨ (t.fKind = 4 ∧ t.fNum = 0 ∧ ∃ b, t.fText = [b] ∧ isOpr (ib b) = true) ∨ (5 ≤ t.fKind ∧ t.fNum = 0 ∧ t.fText = []))

structure ScP (bl : Bool) (s : List UInt8) (L : List TToken) : Prop where
  sc : ∀ u r, L = u :: r → Sc u.fBefore (prT L) L
  len : (prT L).length ≤ s.length
  len1 : L ≠ [] → nextBl s = true → (prT L).length + 1 ≤ s.length
  pl : allPl (prT L) = true
  ok : ∀ t ∈ L, tOk t
  none : L = [] → nextBl s = true
  bf : ∀ u r, L = u :: r → u.fBefore = (bl || nextBl s)
  hd : L ≠ [] → nextBl s = false → hdD (prT L) = hdD s

theorem sc_pr {bl : Bool} {s : List UInt8} {L : List TToken} (h : Sc bl s L) : allPl s = true → ScP bl s L := by
  induction h with
  | nil bl => intro _; exact ⟨fun u r h => (by cases h), by simp [prT], fun h => absurd rfl h, rfl, fun t h => (by cases h), fun _ => rfl, fun u r h => (by cases h), fun h => absurd rfl h⟩
  | bl bl h ih =>
    intro hp
    have hp' := hp
    simp only [allPl, List.all_cons, Bool.and_eq_true] at hp'
    have ih := ih hp'.2
    have h32 : ∀ r, nextBl (32 :: r) = true := fun _ => (by decide : (ib 32 == 32) = true)
    refine ⟨ih.sc, by have := ih.len; simp only [List.length_cons]; omega, fun _ _ => by have := ih.len; simp only [List.length_cons]; omega, ih.pl, ih.ok, fun _ => h32 _, fun u r e => ?_, fun _ hf => ?_⟩
    · rw [ih.bf u r e, h32]; simp
    · rw [h32] at hf; cases hf
  | @tok bl s k m t w L hb ht h ih =>
    intro hp
    have hlen := tokAt_len ht
    have hps : allPl (s.drop w) = true := List.all_eq_true.2 fun x hx => List.all_eq_true.1 hp x (List.mem_of_mem_drop hx)
    have ih := ih hps
    obtain ⟨g1, g2, g3, g4, g5, g6⟩ := tok_print hp ht bl (nextBl (s.drop w))
    have hnb : nextBl s = false := by
      cases s with
      | nil => cases ht
      | cons b r => simpa [nextBl] using hb b r rfl
    have hne : tText ⟨k, m, t, bl, nextBl (s.drop w)⟩ ≠ [] := by
      intro e
      rw [e] at g4
      rw [nextBl_hd, ← g4] at hnb
      cases hnb
    -- the rest
    obtain ⟨rest, hrest⟩ : ∃ rest, rest = sepT (nextBl (s.drop w)) L ++ prT L := ⟨_, rfl⟩
    have hpr : prT (⟨k, m, t, bl, nextBl (s.drop w)⟩ :: L) = tText ⟨k, m, t, bl, nextBl (s.drop w)⟩ ++ rest := by rw [hrest]; rfl
    have hcase : (L = [] ∧ rest = [] ∧ nextBl (s.drop w) = true) ∨ (∃ u r, L = u :: r ∧ ((nextBl (s.drop w) = true ∧ rest = 32 :: prT L ∧ u.fBefore = true) ∨ (nextBl (s.drop w) = false ∧ rest = prT L ∧ u.fBefore = false))) := by
      cases hL : L with
      | nil => subst hL; exact .inl ⟨rfl, hrest, ih.none rfl⟩
      | cons u r =>
        right
        refine ⟨u, r, rfl, ?_⟩
        have hbf := ih.bf u r hL
        rw [hL] at hrest
        rw [Bool.false_or] at hbf
        cases hn : nextBl (s.drop w) with
        | true => rw [hn] at hbf; left; exact ⟨rfl, by rw [hrest]; simp only [sepT, hbf, Bool.true_or, if_true]; rfl, hbf⟩
        | false => rw [hn] at hbf; right; exact ⟨rfl, by rw [hrest]; simp only [sepT, hbf, hn, Bool.or_self, Bool.false_eq_true, if_false]; rfl, hbf⟩
    have hnext : nextBl rest = nextBl (s.drop w) := by
      rcases hcase with ⟨_, h2, h3⟩ | ⟨u, r, hL, ⟨h1, h2, _⟩ | ⟨h1, h2, _⟩⟩
      · rw [h2, h3]; rfl
      · rw [h2, h1]; exact (by decide : (ib 32 == 32) = true)
      · rw [h2, nextBl_hd, ih.hd (by rw [hL]; simp) h1, ← nextBl_hd]
    have htk := g6 rest fun b q e hn => by
      rcases hcase with ⟨_, h2, _⟩ | ⟨u, r, hL, ⟨h1, h2, _⟩ | ⟨h1, h2, _⟩⟩
      · rw [h2] at e; cases e
      · rw [h2] at e; cases e; exact absurd hn (by decide)
      · have hh := ih.hd (by rw [hL]; simp) h1
        rw [← h2, e] at hh
        cases hs : s.drop w with
        | nil => rw [hs] at h1; cases h1
        | cons b' q' =>
          rw [hs] at hh
          simp only [hdD, Prod.mk.injEq] at hh
          exact ⟨b', q', rfl, by rw [← hh.1]; exact hn, fun hd => by rw [← hh.2.1]; exact hd⟩
    have hsr : Sc false rest L := by
      rcases hcase with ⟨h1, h2, _⟩ | ⟨u, r, hL, ⟨h1, h2, h3⟩ | ⟨h1, h2, h3⟩⟩
      · rw [h1, h2]; exact .nil false
      · have := ih.sc u r hL; rw [h3] at this; rw [h2]; exact .bl false this
      · have := ih.sc u r hL; rw [h3] at this; rw [h2]; exact this
    have hrl : rest.length ≤ (s.drop w).length := by
      rcases hcase with ⟨_, h2, _⟩ | ⟨u, r, hL, ⟨h1, h2, _⟩ | ⟨h1, h2, _⟩⟩
      · rw [h2]; simp
      · have := ih.len1 (by rw [hL]; simp) h1; rw [h2]; simpa using this
      · have := ih.len; rw [h2]; exact this
    have hrp : allPl rest = true := by
      rcases hcase with ⟨_, h2, _⟩ | ⟨u, r, hL, ⟨h1, h2, _⟩ | ⟨h1, h2, _⟩⟩
      · rw [h2]; rfl
      · rw [h2]
        simp only [allPl, List.all_cons, Bool.and_eq_true]
        exact ⟨by decide, ih.pl⟩
      · rw [h2]; exact ih.pl
    have hdr : (tText ⟨k, m, t, bl, nextBl (s.drop w)⟩ ++ rest).drop (tText ⟨k, m, t, bl, nextBl (s.drop w)⟩).length = rest := drop_app _ _
    have hsc : Sc bl (tText ⟨k, m, t, bl, nextBl (s.drop w)⟩ ++ rest) (⟨k, m, t, bl, nextBl (s.drop w)⟩ :: L) := by
      have := Sc.tok bl (s := tText ⟨k, m, t, bl, nextBl (s.drop w)⟩ ++ rest) (L := L) (fun b r e => by
        have hh : hdD (tText ⟨k, m, t, bl, nextBl (s.drop w)⟩ ++ rest) = hdD s := (hdD_app hne).trans g4
        rw [e] at hh
        have h2 := nextBl_hd s
        rw [hnb, ← hh] at h2
        simpa [hdD] using h2.symm) htk (by rw [hdr]; exact hsr)
      rw [hdr, hnext] at this
      exact this
    refine ⟨fun u r e => ?_, ?_, fun _ hn => ?_, ?_, fun t' ht' => ?_, fun e => (by cases e), fun u r e => ?_, fun _ _ => ?_⟩
    · cases e; rw [hpr]; exact hsc
    · rw [hpr, List.length_append]
      have := hrl
      rw [List.length_drop] at this
      omega
    · rw [hnb] at hn; cases hn
    · rw [hpr]
      simp only [allPl, List.all_append, Bool.and_eq_true] at g5 hrp ⊢
      exact ⟨g5, hrp⟩
    · rcases List.mem_cons.1 ht' with e | e
      · subst e; exact ⟨g1, g2⟩
      · exact ih.ok t' e
    · cases e; rw [hnb]; simp
    · rw [hpr, hdD_app hne]; exact g4

theorem scanL_cnt : ∀ (n : Nat) (s : List UInt8) (bl : Bool) (out : List TToken) (at_ : Nat) (R : List TToken) (e : Int), out.length ≤ 120 → scanL n s bl out at_ = (R, e, 0) → R.length ≤ 120
  | n, [], bl, out, at_, R, e, ho, h => by
    have : scanL n [] bl out at_ = (out, 0, 0) := by cases n <;> rfl
    rw [this] at h
    cases h
    exact ho
  | 0, b :: r, bl, out, at_, R, e, ho, h => by
    rw [scanL] at h
    cases h
    exact ho
  | n + 1, b :: r, bl, out, at_, R, e, ho, h => by
    rw [scanL] at h
    split at h
    · exact scanL_cnt n r true out _ R e ho h
    · split at h
      · cases h
      · split at h
        · cases h
        · exact scanL_cnt n _ false _ _ R e (by simp; omega) h

/-- tokens are recovered from their printed form -/
theorem scan_print {x : List UInt8} {L : List TToken} {e : Int} (h : scanT x = (L, e, 0)) : scanT (prT L) = (L, 0, 0) ∧ (∀ t ∈ L, tOk t) ∧ L.length ≤ 120 ∧ (prT L).length ≤ 4000 := by
  unfold scanT at h
  split at h
  · rename_i hx
    obtain ⟨L', h1, h2⟩ := scanL_sc _ _ _ _ _ _ _ (Nat.le_refl _) h
    have hc := scanL_cnt _ _ _ _ _ _ _ (by simp) h
    rw [List.nil_append] at h2
    subst h2
    have hp := sc_pr h1 hx.2
    have hl := hp.len
    refine ⟨?_, hp.ok, hc, by omega⟩
    unfold scanT
    rw [if_pos ⟨by omega, hp.pl⟩]
    cases hL : L with
    | nil => rfl
    | cons u r =>
      have hs := hp.sc u r hL
      rw [hp.bf u r hL] at hs
      simp only [Bool.true_or] at hs
      rw [← hL]
      have := sc_scanL hs (prT L).length [] 0 (Nat.le_refl _) (by simpa using hc)
      simpa using this
  · cases h

end Go.Dv.U

namespace Go.Dv.U

open Go Go.Dv Go.Proofs

theorem valid_ok {t : TToken} (h : tOk t) : i_ValidToken t = some true := by
  obtain ⟨⟨k1, k2⟩, h⟩ := h
  rw [i_ValidToken_eq]
  simp only [i_IsName_ok, i_isNumber_eq, i_within_ok, i_CanQuote_ok, Option.bind_some]
  rcases h with ⟨a, b, c⟩ | ⟨a, b, c, d⟩ | ⟨a, b, c⟩ | ⟨a, b, x, c, d⟩ | ⟨a, b, c⟩
  · simp [a, b, c]
  · simp [a, b, c, d]
  · simp [a, b, c]
  · have hop : i_IsOperator t.fText = some true := by
      rw [i_IsOperator_eq, c]
      have e : (len [x] == (1 : Int)) = true := rfl
      rw [if_pos e, containsS_one (by decide) x]
      simp only [Option.bind_some, Option.some.injEq]
      have all : ∀ x : UInt8, isOpr (ib x) = true → hasB (ib x) [43, 45, 42, 47, 124, 46, 36, 64, 61] = true := all_bytes (by decide +kernel)
      exact all x d
    simp [a, b, hop]
  · have e1 : ¬ t.fKind = 1 := by omega
    have e2 : ¬ t.fKind = 2 := by omega
    have e3 : ¬ t.fKind = 3 := by omega
    have e4 : ¬ t.fKind = 4 := by omega
    simp [e1, e2, e3, e4, b, c, a, k2]

theorem text_ok {t : TToken} (h : tOk t) : i_Token_text t = some (tText t) := by
  obtain ⟨⟨k1, k2⟩, h⟩ := h
  rw [i_Token_text_eq]
  unfold tText
  rcases h with ⟨a, b, c⟩ | ⟨a, b, c, d⟩ | ⟨a, b, c⟩ | ⟨a, b, x, c, d⟩ | ⟨a, b, c⟩
  · simp [a]
  · have : Lib.itoa t.fNum = Lib.decDigits t.fNum.toNat := by unfold Lib.itoa; rw [if_neg (by omega)]
    simp [a, i_decimal_ok (n := t.fNum) (by omega) (by omega), this]
  · simp [a, i_QuoteString_ok]
  · simp [a]
  · have hk : t.fKind = 5 ∨ t.fKind = 6 ∨ t.fKind = 7 ∨ t.fKind = 8 ∨ t.fKind = 9 ∨ t.fKind = 10 := by omega
    rcases hk with e | e | e | e | e | e <;> rw [e] <;> rfl

def sepR (p : Option TToken) (t : TToken) : List UInt8 := match p with
  | none => []
  | some u => if (t.fBefore || u.fAfter) = true then [32] else []

def prR : Option TToken → List TToken → List UInt8
  | _, [] => []
  | p, t :: r => sepR p t ++ tText t ++ prR (some t) r

theorem prR_eq : ∀ (l : List TToken) (u : TToken), sepT u.fAfter l ++ prT l = prR (some u) l
  | [], _ => rfl
  | t :: r, u => by
    have ih := prR_eq r t
    show sepT u.fAfter (t :: r) ++ (tText t ++ (sepT t.fAfter r ++ prT r)) = sepR (some u) t ++ tText t ++ prR (some t) r
    rw [ih, List.append_assoc]; rfl

theorem prR_none : ∀ l : List TToken, prT l = prR none l
  | [] => rfl
  | t :: r => by simp [prT, prR, sepR, prR_eq r t]

theorem tText_len {t : TToken} (h : tOk t) : (tText t).length ≤ 300 := by
  obtain ⟨⟨k1, k2⟩, h⟩ := h
  unfold tText
  rcases h with ⟨a, b, c⟩ | ⟨a, b, c, d⟩ | ⟨a, b, c⟩ | ⟨a, b, x, c, d⟩ | ⟨a, b, c⟩
  · rw [if_pos (.inl a)]
    unfold isName at c
    split at c
    · cases c
    · simp only [Bool.and_eq_true, decide_eq_true_eq] at c
      omega
  · have := dec_len (u := t.fNum.toNat) (by omega)
    simp [a]; omega
  · have := quote_len t.fText
    simp [a]; omega
  · simp [a, c]
  · have hk : t.fKind = 5 ∨ t.fKind = 6 ∨ t.fKind = 7 ∨ t.fKind = 8 ∨ t.fKind = 9 ∨ t.fKind = 10 := by omega
    rcases hk with e | e | e | e | e | e <;> simp [e]

theorem print_ok {L : List TToken} (h : ∀ t ∈ L, tOk t) (hl : L.length ≤ 120) : i_PrintTokens L = some (prT L) := by
  rw [i_PrintTokens_eq]
  have hall : i_areAll_impl_Token__i_ValidToken L = some true := by
    rw [i_areAll_impl_Token__i_ValidToken_eq]
    have := all_loop (xs := L) (by omega) (F := i_ValidToken) (p := fun _ => true) (J := i_areAll_impl_Token_L2__i_ValidToken L (len L)) (fun i => by rw [i_areAll_impl_Token_L2__i_ValidToken_eq]) (fun y hy => valid_ok (h y hy))
    rw [this]; simp
  rw [hall]
  simp only [Option.bind_some, Bool.not_true, Bool.false_eq_true, if_false]
  have e0 : i_PrintTokens_L5 L L (len L) 0 [] = i_PrintTokens_L5_v1 L L (len L) 0 [] := by
    rw [i_PrintTokens_L5_eq, i_PrintTokens_L5_v1_eq]
    simp only [i_PrintTokens_L8_eq, i_PrintTokens_L8_v1_eq, i_PrintTokens_L9_eq, i_PrintTokens_L9_v1_eq]
  rw [e0, prR_none]
  have key := loop_ind (xs := L) (by omega) (P := fun i l => L.drop i = l → i ≤ L.length → ∀ a : List UInt8, a.length ≤ 400 * i → i_PrintTokens_L5_v1 L L (len L) (i : Int) (a.map ib) = some (a ++ prR (match i with | 0 => none | j + 1 => L[j]?) l)) (by
    intro _ _ a _
    rw [i_PrintTokens_L5_v1_eq]
    have e : decide ((L.length : Int) < len L) = false := by simp [len_eq]
    simp only [e, Bool.false_eq_true, if_false, bytesOf_ib, Option.bind_some, prR, List.append_nil]) (by
    intro i t l hd hlt hy hi hw ih _ hle a ha
    have hd2 : L.drop (i + 1) = l := by
      have := List.drop_eq_getElem_cons hlt
      rw [hd] at this
      exact (List.cons.inj this).2.symm
    have hg : L[i]? = some t := by rw [← idx_nat]; exact hi
    have ht := h t hy
    have htl := tText_len ht
    have eta : TToken.mk t.fKind t.fNum t.fText t.fBefore t.fAfter = t := rfl
    have go : ∀ b : List UInt8, b.length ≤ 400 * i + 1 → i_PrintTokens_L9_v1 L L (len L) (i : Int) (b.map ib) t.fKind t.fNum t.fText t.fBefore t.fAfter = some (b ++ tText t ++ prR (some t) l) := by
      intro b hb
      rw [i_PrintTokens_L9_v1_eq, eta, text_ok ht]
      simp only [Option.bind_some]
      rw [show (fun b : UInt8 => ib b) = ib from rfl, app_of (by simp; omega)]
      simp only [Option.bind_some, hw]
      rw [← List.map_append]
      have := ih hd2 (by omega) (b ++ tText t) (by simp; omega)
      simp only [hg] at this
      exact this
    rw [i_PrintTokens_L5_v1_eq]
    have hc : decide ((i : Int) < len L) = true := by simp [len_eq, hlt]
    simp only [hc, if_true, hi, Option.bind_some, i_PrintTokens_L8_v1_eq]
    have h32 : app (a.map ib) (List.map (fun b : UInt8 => ib b) [32]) = some ((a ++ [32]).map ib) := by
      rw [app_of (by simp; omega)]; simp
    rw [h32]
    simp only [Option.bind_some]
    cases i with
    | zero =>
      have e : decide (((0 : Nat) : Int) > 0) = false := by decide
      simp only [e, Bool.false_eq_true, if_false]
      rw [go a (by omega)]
      simp [prR, sepR]
    | succ j =>
      have e : decide (((j + 1 : Nat) : Int) > 0) = true := by first | (simp; done) | (simp; omega)
      have e1 : w64 (((j + 1 : Nat) : Int) - 1) = (j : Int) := by rw [w64_of (by omega) (by omega)]; omega
      have hj : L[j]? = some L[j] := List.getElem?_eq_getElem (by omega)
      simp only [e, if_true, e1, idx_nat, hj, Option.bind_some]
      rw [go a (by omega), go (a ++ [32]) (by simp; omega)]
      cases hb : t.fBefore <;> cases ha2 : L[j].fAfter <;> simp [prR, sepR, hb, ha2]) (by simp) (by omega) [] (by simp)
  simpa using key

theorem dL19_ok : ∀ (n k : Nat) (x : List UInt8) {c : List Int} {a s B : Int}, k + n = 130 → x.length ≤ 1000 + k → SrcOk c a B → B ≤ 4611686018427380000 + 4 * k → Dr (s_l02DrawText_L19 x (k : Int) c a s) (B + 4 * n + 4) (fun v => v.length ≤ 5000)
  | 0, k, x, c, a, s, B, hk, hx, h, hB => by
    rw [s_l02DrawText_L19_eq]
    refine (s_l00Src_pick_ok 3 h (by omega)).bind fun v c2 a2 s2 h2 hv => ?_
    have := hv.2.1 (by omega)
    simp only
    rw [w64_of (n := 119 + v) (by omega) (by omega), if_neg (by simp; omega), s_l02DrawText_L22_eq]
    exact Dr.some (h2.le (by omega)) (by omega)
  | n + 1, k, x, c, a, s, B, hk, hx, h, hB => by
    rw [s_l02DrawText_L19_eq]
    refine (s_l00Src_pick_ok 3 h (by omega)).bind fun v c2 a2 s2 h2 hv => ?_
    simp only
    split
    · rw [app_of (by simp; omega)]
      simp only [Option.bind_some]
      rw [w64_of (by omega) (by omega), show (k : Int) + 1 = ((k + 1 : Nat) : Int) by omega]
      exact (dL19_ok n (k + 1) _ (by omega) (by simp; omega) h2 (by omega)).le (by omega) fun _ h => h
    · rw [s_l02DrawText_L22_eq]
      exact Dr.some (h2.le (by omega)) (by omega)

theorem dL3_ok : ∀ (k : Nat) (x : List UInt8) {c : List Int} {a s B : Int}, k ≤ 10 → x.length + 20 * k ≤ 900 → SrcOk c a B → B + 10 * k ≤ 4611686018427370000 → Dr (s_l02DrawText_L3 x (k : Int) c a s) (B + 10 * k + 1000) (fun v => v.length ≤ 5000)
  | 0, x, c, a, s, B, hk, hx, h, hB => by
    rw [s_l02DrawText_L3_eq, if_neg (by simp)]
    refine (s_l00Src_pick_ok 14 h (by omega)).bind fun v c2 a2 s2 h2 hv => ?_
    have h2' := h2.le (B' := B + 10 * ((0 : Nat) : Int) + 1000) (by omega)
    simp only [s_l02DrawText_L22_eq]
    repeat' split
    all_goals first
      | (rw [app_of (by simp; omega)]; simp only [Option.bind_some]; exact Dr.some h2' (by simp; omega))
      | exact (dL19_ok 130 0 x (by omega) (by omega) h2 (by omega)).le (by omega) fun _ h => h
      | exact Dr.some h2' (by omega)
  | k + 1, x, c, a, s, B, hk, hx, h, hB => by
    rw [s_l02DrawText_L3_eq, if_pos (by first | (simp; done) | (simp; omega))]
    refine (s_l00Src_text_ok _ (by simp) h (by omega)).bind fun v c2 a2 s2 h2 hv => ?_
    have hv : v.length ≤ 16 := by
      have : ∀ v ∈ ([[65], [120, 49], [49, 50], [48, 48, 55], [39, 97, 32, 98, 39], [34, 105, 116, 39, 115, 34], [43], [45], [42], [124], [46], [36], [61], [40], [41], [60], [62], [44], [58], [32], [32, 32], [83], [57, 57, 57, 57, 57, 57, 57, 57, 57, 57, 57, 57, 57], [49, 48, 48, 48, 48, 48, 48, 48, 48, 48, 48, 48, 48, 48]] : List (List UInt8)), v.length ≤ 16 := by decide
      exact this v hv
    try simp only
    rw [app_of (by omega)]
    simp only [Option.bind_some]
    have e1 : w64 (((k + 1 : Nat) : Int) - 1) = (k : Int) := by rw [w64_of (by omega) (by omega)]; omega
    rw [e1]
    refine (s_l00Src_one_ok 2 h2 (by omega)).bind fun v2 c3 a3 s3 h3 _ => ?_
    simp only
    split
    · rw [app_of (by simp; omega)]
      simp only [Option.bind_some]
      exact (dL3_ok k _ (by omega) (by simp; omega) h3 (by omega)).le (by omega) fun _ h => h
    · exact (dL3_ok k _ (by omega) (by simp; omega) h3 (by omega)).le (by omega) fun _ h => h

theorem drawTok_ok {x : List Int} (h : BytesOk x) : ∃ t, s_DrawScanTokens x = some t ∧ t.length ≤ 5000 := by
  rw [s_DrawScanTokens_eq, s_l02DrawText_eq]
  have hs : SrcOk x 0 0 := ⟨h.2, h.1, by omega, by omega⟩
  have : Dr ((s_l00Src_pick 9 x 0 0).bind fun r200 => s_l02DrawText_L3 [] (Prod.fst r200) (Prod.fst (Prod.fst (Prod.snd r200))) (Prod.fst (Prod.snd (Prod.fst (Prod.snd r200)))) (Prod.fst (Prod.snd (Prod.snd (Prod.fst (Prod.snd r200)))))) 5000 (fun v => v.length ≤ 5000) := by
    refine (s_l00Src_pick_ok 9 hs (by omega)).bind fun v c2 a2 s2 h2 hv => ?_
    obtain ⟨k, rfl⟩ : ∃ k : Nat, v = k := ⟨v.toNat, by omega⟩
    have := hv.2.1 (by omega)
    exact (dL3_ok k [] (by omega) (by simp; omega) h2 (by omega)).le (by omega) fun _ h => h
  obtain ⟨v, c, a, s, e, _, hl⟩ := this
  exact ⟨v, by rw [e]; rfl, hl⟩

theorem tL12_ok {L : List TToken} (h : ∀ t ∈ L, tOk t) (hl : L.length ≤ 120) : l_FnTokens_L12 L L 0 = some true := by
  refine loop_ind (xs := L) (by omega) (P := fun i _ => l_FnTokens_L12 L L (i : Int) = some true) ?_ ?_
  · rw [l_FnTokens_L12_eq]; simp [len_eq]
  · intro i y l _ hlt hy hi hw ih
    rw [l_FnTokens_L12_eq]
    have hc : decide ((i : Int) < len L) = true := by simp [len_eq, hlt]
    simp only [hc, if_true, hi, Option.bind_some, hw, ih, valid_ok (h y hy), beq_self_eq_true, Bool.and_self, Bool.not_true, Bool.false_eq_true, if_false]

theorem l_FnTokens_ok {x : List Int} (h : BytesOk x) : l_FnTokens x = some true := by
  rw [l_FnTokens_eq, l_c2Long_eq]
  simp only [Option.bind_some]
  split
  · rfl
  · obtain ⟨t, ht, hl⟩ := drawTok_ok h
    rw [ht]
    simp only [Option.bind_some, i_ScanTokens_ok (x := t) (by omega), s_ScanTokens_ok (x := t) (by omega), bne_self_eq_false, Bool.false_eq_true, if_false, l_FnTokens_L7_eq, beq_self_eq_true, if_true]
    split
    · rfl
    · rename_i hc
      have hz : (scanT t).2.2 = 0 := by simpa using hc
      have hs : scanT t = ((scanT t).1, (scanT t).2.1, 0) := by rw [← hz]
      obtain ⟨p1, p2, p3, p4⟩ := scan_print hs
      rw [l_FnTokens_L8_eq, print_ok p2 p3]
      simp only [Option.bind_some]
      rw [i_ScanTokens_ok (by omega), p1]
      simp only [Option.bind_some, bne_self_eq_false, Bool.false_eq_true, if_false]
      exact tL12_ok p2 p3

end Go.Dv.U
