/- Plain laws about these equations. -/
import Derived.Test.YtgemfdbjkbhgbaaDoorFnConversionsEqa
set_option linter.all false
set_option linter.unusedVariables false
set_option linter.unusedSimpArgs false
namespace Go.Dv.U

open Go Go.Dv Go.Proofs

theorem i_within_ok (a b c : Int) : i_within a b c = some (decide (b ≤ a) && decide (a ≤ c)) := by
  rw [i_within_eq]; grind

theorem s_l00In_ok (a b c : Int) : s_l00In a b c = some (decide (b ≤ a) && decide (a ≤ c)) := by
  rw [s_l00In_eq]; grind

end Go.Dv.U

namespace Go.Dv.U

open Go Go.Dv Go.Proofs

def isLet (b : Int) : Bool := (decide (65 ≤ b) && decide (b ≤ 90)) || (decide (97 ≤ b) && decide (b ≤ 122))

def isDig (b : Int) : Bool := decide (48 ≤ b) && decide (b ≤ 57)

def isNmB (b : Int) : Bool := isLet b || isDig b || b == 95

theorem i_isLetter_ok (b : Int) : i_isLetter b = some (isLet b) := by
  rw [i_isLetter_eq]; unfold isLet; grind

theorem s_l02Letter_ok (b : Int) : s_l02Letter b = some (isLet b) := by
  rw [s_l02Letter_eq]; unfold isLet; grind

theorem i_isDigit_ok (b : Int) : i_isDigit b = some (isDig b) := by
  rw [i_isDigit_eq]; unfold isDig; grind

theorem s_l02Digit_ok (b : Int) : s_l02Digit b = some (isDig b) := by
  rw [s_l02Digit_eq]; unfold isDig; grind

theorem i_isNameByte_ok (b : Int) : i_isNameByte b = some (isNmB b) := by
  rw [i_isNameByte_eq, i_isLetter_ok, i_isDigit_ok]; unfold isNmB
  simp only [Option.bind_some]; grind

/-- a name -/
def isName (s : List UInt8) : Bool := match s with
  | [] => false
  | b :: _ => decide (s.length ≤ 12) && isLet (ib b) && s.all fun c => isNmB (ib c)

theorem i_areAllNm_ok {s : List UInt8} (h : s.length ≤ 9223372036854775807) : i_areAll_byte__i_isNameByte (s.map ib) = some (s.all fun c => isNmB (ib c)) := by
  rw [i_areAll_byte__i_isNameByte_eq]
  have := all_loop (xs := s.map ib) (by simpa using h) (F := i_isNameByte) (p := isNmB) (J := i_areAll_byte_L2__i_isNameByte (s.map ib) (len (s.map ib))) (fun i => by rw [i_areAll_byte_L2__i_isNameByte_eq]) (fun y _ => i_isNameByte_ok y)
  rw [this, List.all_map]
  rfl

theorem i_IsName_ok {s : List UInt8} : i_IsName s = some (isName s) := by
  rw [i_IsName_eq]
  cases s with
  | nil => simp [isName, len_eq]
  | cons b r =>
    by_cases h : (b :: r).length ≤ 12
    · have h1 : decide (len (b :: r) ≥ 1) = true := by simp only [len_eq, List.length_cons, decide_eq_true_eq]; omega
      have h2 : decide (len (b :: r) ≤ 12) = true := by simp only [len_eq, decide_eq_true_eq]; omega
      rw [if_pos h1, if_pos h2, idx_zero]
      simp only [List.getElem?_cons_zero, Option.bind_some, i_isLetter_ok]
      have := i_areAllNm_ok (s := b :: r) (by omega)
      simp only [List.map_cons] at this ⊢
      rw [this]
      simp only [isName, h, decide_true, Bool.true_and, Option.bind_some]
      cases isLet (ib b) <;> simp
    · have h2 : ¬ decide (len (b :: r) ≤ 12) = true := by simp only [len_eq, decide_eq_true_eq]; omega
      rw [if_neg h2]
      simp only [isName, h, decide_false, Bool.false_and]
      split <;> rfl

/-- how many bytes from the start on belong to a name -/
def nmRun : List UInt8 → Nat
  | [] => 0
  | b :: r => if isNmB (ib b) then nmRun r + 1 else 0

theorem nmRun_all : ∀ s, nmRun s = s.length ↔ (s.all fun c => isNmB (ib c)) = true
  | [] => by simp [nmRun]
  | b :: r => by
    have := nmRun_all r
    simp only [nmRun, List.length_cons, List.all_cons, Bool.and_eq_true]
    cases isNmB (ib b)
    · simp
    · simp [this]

theorem s_l02NameEnd_L3_ok {s : List UInt8} (h : s.length ≤ 9223372036854775807) : ∀ (n i : Nat), i + n = s.length → s_l02NameEnd_L3 s i = some ((i + nmRun (s.drop i) : Nat) : Int) := by
  intro n
  induction n with
  | zero =>
    intro i hi
    have : i = s.length := by omega
    subst this
    rw [s_l02NameEnd_L3_eq, s_l02NameEnd_L5_eq, List.drop_length]
    simp [len_eq, nmRun]
  | succ n ih =>
    intro i hi
    have hlt : i < s.length := by omega
    have hc : decide ((i : Int) < len s) = true := by simp [len_eq, hlt]
    rw [s_l02NameEnd_L3_eq, if_pos hc, idx_nat, List.getElem?_eq_getElem hlt, List.drop_eq_getElem_cons hlt]
    simp only [Option.bind_some, s_l02Letter_ok, s_l02Digit_ok, s_l02NameEnd_L4_eq, s_l02NameEnd_L5_eq, nmRun]
    have hw : w64 ((i : Int) + 1) = ((i + 1 : Nat) : Int) := by rw [w64_of (by omega) (by omega)]; omega
    rw [hw, ih (i + 1) (by omega)]
    unfold isNmB
    cases isLet (ib s[i]) <;> cases isDig (ib s[i]) <;> cases hb : (ib s[i] == 95) <;> simp <;> omega

theorem s_l02NameEnd_ok {s : List UInt8} (h : s.length ≤ 9223372036854775807) {i : Nat} (hi : i ≤ s.length) :
    s_l02NameEnd s i = some (match s.drop i with
      | [] => (i : Int)
      | b :: r => if isLet (ib b) then ((i + nmRun (b :: r) : Nat) : Int) else i) := by
  rw [s_l02NameEnd_eq]
  by_cases hlt : i < s.length
  · have hc : ¬ decide ((i : Int) ≥ len s) = true := by simp only [len_eq, decide_eq_true_eq]; omega
    rw [if_neg hc, idx_nat, List.getElem?_eq_getElem hlt, List.drop_eq_getElem_cons hlt]
    simp only [Option.bind_some, s_l02Letter_ok]
    rw [s_l02NameEnd_L3_ok h (s.length - i) i (by omega), List.drop_eq_getElem_cons hlt]
    cases isLet (ib s[i]) <;> simp
  · have : i = s.length := by omega
    subst this
    rw [List.drop_length]
    simp [len_eq]

theorem s_IsName_ok {s : List UInt8} : s_IsName s = some (isName s) := by
  rw [s_IsName_eq]
  cases s with
  | nil => simp [isName]
  | cons b r =>
    have h0 : (!(b :: r) == []) = true := rfl
    rw [if_pos h0]
    by_cases h : (b :: r).length ≤ 12
    · have h2 : decide (len (b :: r) ≤ 12) = true := by simp only [len_eq, decide_eq_true_eq]; omega
      have := s_l02NameEnd_ok (s := b :: r) (by omega) (Nat.zero_le _)
      simp only [Int.natCast_zero, List.drop_zero, Nat.zero_add] at this
      rw [if_pos h2, this]
      simp only [isName, h, decide_true, Bool.true_and, Option.bind_some, len_eq]
      congr 1
      rw [Bool.eq_iff_iff, Bool.and_eq_true, ← nmRun_all]
      cases hL : isLet (ib b)
      · simp; omega
      · simp; omega
    · have h2 : ¬ decide (len (b :: r) ≤ 12) = true := by simp only [len_eq, decide_eq_true_eq]; omega
      rw [if_neg h2]
      simp only [isName, h, decide_false, Bool.false_and]

end Go.Dv.U

namespace Go.Dv.U

open Go Go.Dv Go.Proofs

/-- numbers -/
theorem nDigits_le : ∀ (k u : Nat), u < 10 ^ (k + 1) → Lib.nDigits u ≤ k + 1
  | 0, u, h => by rw [Lib.nDigits_small (by simpa using h)]; exact Nat.le_refl _
  | k + 1, u, h => by
    by_cases hu : u < 10
    · rw [Lib.nDigits_small hu]; omega
    · rw [Lib.nDigits_big hu]
      have := nDigits_le k (u / 10) (by rw [Nat.div_lt_iff_lt_mul (by decide)]; rw [Nat.pow_succ] at h; exact h)
      omega

theorem i_decimal_ok {n : Int} (h0 : -9223372036854775808 ≤ n) (h1 : n ≤ 9223372036854775807) : i_decimal n = some (Lib.itoa n) := by
  rw [i_decimal_eq]
  unfold itoaS
  rw [if_pos ⟨rfl, h0, h1⟩]
  rfl

theorem itoa_len20 {n : Int} (h0 : -9223372036854775808 ≤ n) (h1 : n ≤ 9223372036854775807) : (Lib.itoa n).length ≤ 20 := by
  unfold Lib.itoa
  split
  · rw [List.length_cons, Lib.decDigits_length]
    have := nDigits_le 18 n.natAbs (by omega)
    omega
  · rw [Lib.decDigits_length]
    have := nDigits_le 18 n.toNat (by omega)
    omega

end Go.Dv.U

namespace Go.Dv.U

open Go Go.Dv Go.Proofs

def SrcOk (c : List Int) (a B : Int) : Prop := (∀ y ∈ c, 0 ≤ y ∧ y ≤ 255) ∧ c.length ≤ 9223372036854775807 ∧ 0 ≤ a ∧ a ≤ B

def Dr {α : Type} (o : Option (α × ((List Int × Int × Int × Unit) × Unit))) (B : Int) (P : α → Prop) : Prop := ∃ v c a s, o = some (v, ((c, a, s, ()), ())) ∧ SrcOk c a B ∧ P v

theorem SrcOk.le {c : List Int} {a B B' : Int} (h : SrcOk c a B) (hb : B ≤ B') : SrcOk c a B' := ⟨h.1, h.2.1, h.2.2.1, by have := h.2.2.2; omega⟩

theorem Dr.le {α : Type} {o : Option (α × ((List Int × Int × Int × Unit) × Unit))} {B B' : Int} {P Q : α → Prop} (h : Dr o B P) (hb : B ≤ B') (hq : ∀ v, P v → Q v) : Dr o B' Q := by
  obtain ⟨v, c, a, s, h1, h2, h3⟩ := h
  exact ⟨v, c, a, s, h1, h2.le hb, hq v h3⟩

/-- one draw behind another -/
theorem Dr.bind {α β : Type} {o : Option (α × ((List Int × Int × Int × Unit) × Unit))} {B B' : Int} {P : α → Prop} {Q : β → Prop} {k : α × ((List Int × Int × Int × Unit) × Unit) → Option (β × ((List Int × Int × Int × Unit) × Unit))}
    (h : Dr o B P) (hk : ∀ v c a s, SrcOk c a B → P v → Dr (k (v, ((c, a, s, ()), ()))) B' Q) : Dr (o.bind k) B' Q := by
  obtain ⟨v, c, a, s, rfl, h2, h3⟩ := h
  exact hk v c a s h2 h3

theorem Dr.some {α : Type} {v : α} {c : List Int} {a s B : Int} {P : α → Prop} (h : SrcOk c a B) (hp : P v) : Dr (Option.some (v, ((c, a, s, ()), ()))) B P := ⟨v, c, a, s, rfl, h, hp⟩

theorem and255 (y : Int) : 0 ≤ w64 (bitsOp Go.BinOp.and Go.IntKind.u64 y 255) ∧ w64 (bitsOp Go.BinOp.and Go.IntKind.u64 y 255) ≤ 255 := by
  have h : (BitVec.ofInt IntKind.u64.bits y &&& BitVec.ofInt IntKind.u64.bits 255).toNat ≤ 255 := by
    rw [BitVec.toNat_and]
    exact Nat.le_trans Nat.and_le_right (by decide)
  have e : bitsOp Go.BinOp.and Go.IntKind.u64 y 255 = ((BitVec.ofInt IntKind.u64.bits y &&& BitVec.ofInt IntKind.u64.bits 255).toNat : Int) := by
    show IntKind.u64.wrap _ = _
    generalize (BitVec.ofInt IntKind.u64.bits y &&& BitVec.ofInt IntKind.u64.bits 255).toNat = m at h
    unfold IntKind.wrap
    simp [IntKind.bits, IntKind.signed]
    omega
  rw [e, w64_of (by omega) (by omega)]
  omega

theorem s_l00Src_next_ok {c : List Int} {a s B : Int} (h : SrcOk c a B) (hB : B ≤ 4611686018427387904) : Dr (s_l00Src_next c a s) (B + 1) (fun v => 0 ≤ v ∧ v ≤ 255) := by
  obtain ⟨h1, h2, h3, h4⟩ := h
  have hs : SrcOk c (w64 (a + 1)) (B + 1) := ⟨h1, h2, by rw [w64_of (by omega) (by omega)]; omega, by rw [w64_of (by omega) (by omega)]; omega⟩
  rw [s_l00Src_next_eq]
  have hsh : ∀ x : Int, shr Go.IntKind.u64 x 40 = some (x.fdiv (2 ^ (min (Int.toNat 40) Go.IntKind.u64.bits))) := fun x => rfl
  simp only [hsh, Option.bind_some]
  by_cases hlt : a < c.length
  · obtain ⟨n, rfl⟩ : ∃ n : Nat, a = n := ⟨a.toNat, by omega⟩
    have hn : n < c.length := by omega
    rw [if_pos (by simpa [len_eq] using hlt), idx_nat, List.getElem?_eq_getElem hn]
    have hy := h1 _ (List.getElem_mem hn)
    simp only [Option.bind_some]
    split
    · exact Dr.some hs (by rw [w64_of (by omega) (by omega)]; exact hy)
    · exact Dr.some hs (and255 _)
  · rw [if_neg (by simpa [len_eq] using hlt)]
    split
    · exact Dr.some hs (by omega)
    · exact Dr.some hs (and255 _)

theorem rem_of {x n : Int} (hx : 0 ≤ x) (hn : 1 < n) : ∃ y, rem x n = some y ∧ 0 ≤ y ∧ y < n := by
  unfold rem
  rw [if_neg (by omega)]
  refine ⟨_, rfl, ?_, ?_⟩
  · rw [Int.tmod_eq_emod_of_nonneg hx]; exact Int.emod_nonneg _ (by omega)
  · rw [Int.tmod_eq_emod_of_nonneg hx]; exact Int.emod_lt_of_pos _ (by omega)

theorem s_l00Src_pick_ok (n : Int) {c : List Int} {a s B : Int} (h : SrcOk c a B) (hB : B ≤ 4611686018427387000) : Dr (s_l00Src_pick n c a s) (B + 2) (fun v => 0 ≤ v ∧ (1 < n → v < n) ∧ (n ≤ 1 → v = 0)) := by
  rw [s_l00Src_pick_eq]
  by_cases h1 : n ≤ 1
  · rw [if_pos (by simpa using h1)]
    exact Dr.some (h.le (by omega)) ⟨by omega, fun h => by omega, fun _ => rfl⟩
  rw [if_neg (by simpa using h1)]
  refine (s_l00Src_next_ok h (by omega)).bind fun v c2 a2 s2 h2 hv => ?_
  simp only
  by_cases h3 : n > 200
  · rw [if_pos (by simpa using h3)]
    refine (s_l00Src_next_ok h2 (by omega)).bind fun v2 c3 a3 s3 h4 hv2 => ?_
    simp only
    rw [w64_of (n := v * 256) (by omega) (by omega), w64_of (by omega) (by omega)]
    obtain ⟨y, hy, y0, y1⟩ := rem_of (x := v * 256 + v2) (n := n) (by omega) (by omega)
    rw [hy]
    exact Dr.some (h4.le (by omega)) ⟨y0, fun _ => y1, fun h => by omega⟩
  · rw [if_neg (by simpa using h3)]
    obtain ⟨y, hy, y0, y1⟩ := rem_of (x := v) (n := n) (by omega) (by omega)
    rw [hy]
    exact Dr.some (h2.le (by omega)) ⟨y0, fun _ => y1, fun h => by omega⟩

theorem s_l00Src_one_ok (n : Int) {c : List Int} {a s B : Int} (h : SrcOk c a B) (hB : B ≤ 4611686018427387000) : Dr (s_l00Src_one n c a s) (B + 2) (fun _ => True) := by
  rw [s_l00Src_one_eq]
  exact (s_l00Src_pick_ok n h hB).bind fun v c2 a2 s2 h2 hv => Dr.some h2 trivial

theorem pick_idx {α : Type} {xs : List α} {v : Int} (hv : 0 ≤ v ∧ (1 < (len xs) → v < len xs) ∧ (len xs ≤ 1 → v = 0)) (hx : xs ≠ []) : ∃ y, idx xs v = some y ∧ y ∈ xs := by
  have hp : 0 < xs.length := List.length_pos_iff.2 hx
  rw [len_eq] at hv
  have hlt : v.toNat < xs.length := by
    by_cases h : (1 : Int) < xs.length
    · have := hv.2.1 h; omega
    · have := hv.2.2 (by omega); omega
  exact ⟨xs[v.toNat], by rw [idx_of hv.1, List.getElem?_eq_getElem hlt], List.getElem_mem hlt⟩

theorem s_l00Src_text_ok (xs : List (List UInt8)) (hx : xs ≠ []) {c : List Int} {a s B : Int} (h : SrcOk c a B) (hB : B ≤ 4611686018427387000) : Dr (s_l00Src_text xs c a s) (B + 2) (fun v => v ∈ xs) := by
  rw [s_l00Src_text_eq]
  refine (s_l00Src_pick_ok _ h hB).bind fun v c2 a2 s2 h2 hv => ?_
  obtain ⟨y, hy, hm⟩ := pick_idx hv hx
  simp only [hy, Option.bind_some]
  exact Dr.some h2 hm

theorem s_l00Src_among_ok (xs : List Int) (hx : xs ≠ []) {c : List Int} {a s B : Int} (h : SrcOk c a B) (hB : B ≤ 4611686018427387000) : Dr (s_l00Src_among xs c a s) (B + 2) (fun v => v ∈ xs) := by
  rw [s_l00Src_among_eq]
  refine (s_l00Src_pick_ok _ h hB).bind fun v c2 a2 s2 h2 hv => ?_
  obtain ⟨y, hy, hm⟩ := pick_idx hv hx
  simp only [hy, Option.bind_some]
  exact Dr.some h2 hm

theorem s_l00Src_word_L3_ok : ∀ (n : Nat) {c : List Int} {a s B : Int} (acc : List Int), SrcOk c a B → B + n ≤ 4611686018427387000 → n + acc.length ≤ 1000000 → Dr (s_l00Src_word_L3 (n : Int) c a s acc) (B + n) (fun v => v.length = n + acc.length) := by
  intro n
  induction n with
  | zero =>
    intro c a s B acc h hB hl
    rw [s_l00Src_word_L3_eq, if_neg (by simp)]
    exact Dr.some (h.le (by omega)) (by simp)
  | succ n ih =>
    intro c a s B acc h hB hl
    rw [s_l00Src_word_L3_eq, if_pos (by simp)]
    refine (s_l00Src_next_ok h (by omega)).bind fun v c2 a2 s2 h2 hv => ?_
    simp only
    rw [app_of (by simp; omega)]
    simp only [Option.bind_some]
    rw [w64_of (by omega) (by omega), show ((n + 1 : Nat) : Int) - 1 = (n : Int) by omega]
    refine (ih (acc ++ [Go.IntKind.wrap Go.IntKind.u8 v]) h2 (by omega) (by simp; omega)).le (by omega) fun w hw => ?_
    rw [hw]; simp; omega

theorem s_l00Src_word_ok (n : Int) (hn : n ≤ 100000) {c : List Int} {a s B : Int} (h : SrcOk c a B) (hB : B ≤ 4611686018427000000) : Dr (s_l00Src_word n c a s) (B + 100002) (fun v => v.length ≤ 100000) := by
  rw [s_l00Src_word_eq]
  refine (s_l00Src_pick_ok _ h (by omega)).bind fun v c2 a2 s2 h2 hv => ?_
  obtain ⟨m, rfl⟩ : ∃ m : Nat, v = m := ⟨v.toNat, by omega⟩
  have hm : m ≤ 100000 := by
    by_cases h1 : 1 < n
    · have := hv.2.1 h1; omega
    · have := hv.2.2 (by omega); omega
  exact (s_l00Src_word_L3_ok m [] h2 (by omega) (by simp; omega)).le (by omega) fun w hw => by rw [hw]; simp; omega

end Go.Dv.U

namespace Go.Dv.U

open Go Go.Dv Go.Proofs

theorem i_first2_ok (a b : Int) : i_first [a, b] = some (if a ≠ 0 then a else b) := by
  rw [i_first_eq]
  have e2 : len [a, b] = 2 := rfl
  have w1 : w64 (0 + 1) = 1 := by decide
  have w2 : w64 (1 + 1) = 2 := by decide
  rw [e2, i_first_L2_eq, if_pos (by decide), idx_zero]
  simp only [List.getElem?_cons_zero, Option.bind_some]
  by_cases ha : a = 0
  · subst ha
    rw [if_neg (by simp), w1, i_first_L2_eq, if_pos (by decide), idx_one]
    simp only [List.getElem?_cons_succ, List.getElem?_cons_zero, Option.bind_some]
    by_cases hb : b = 0
    · subst hb
      rw [if_neg (by simp), w2, i_first_L2_eq, if_neg (by decide)]
      simp
    · rw [if_pos (by simpa using hb)]; simp
  · rw [if_pos (by simpa using ha), if_pos ha]

theorem i_unless_ok (b : Bool) (n : Int) : i_unless b n = some (if b = true then 0 else n) := by
  rw [i_unless_eq, ite_some]

end Go.Dv.U

namespace Go.Dv.U

open Go Go.Dv Go.Proofs

/-- a valid value -/
def vVal (v : TValue) : Bool :=
  if v.fKind = 1 then v.fNum == 0 && v.fRef == 0 && decide (v.fText.length ≤ 200)
  else if v.fKind = 2 then v.fText == [] && v.fRef == 0 && decide (-1000000000000 ≤ v.fNum) && decide (v.fNum ≤ 1000000000000)
  else if v.fKind = 3 then v.fNum == 0 && v.fRef == 0 && decide (1 ≤ v.fText.length) && decide (v.fText.length ≤ 1200)
  else if v.fKind = 4 ∨ v.fKind = 5 ∨ v.fKind = 6 then v.fNum == 0 && v.fText == [] && decide (1 ≤ v.fRef) && decide (v.fRef ≤ 1000000)
  else if v.fKind = 7 ∨ v.fKind = 8 then v.fNum == 0 && v.fRef == 0 && isName v.fText
  else false

theorem s_l06Plain_ok (v : TValue) (a b c : Bool) : s_l06Plain v a b c = some ((a || v.fNum == 0) && (b || v.fText == []) && (c || v.fRef == 0)) := by
  rw [s_l06Plain_eq]
  cases a <;> cases b <;> cases c <;> simp only [Bool.false_eq_true, if_false, if_true, Bool.true_or, Bool.false_or, Bool.true_and, Bool.and_true] <;> grind

theorem s_ValidValue_ok (v : TValue) : s_ValidValue v = some (vVal v) := by
  rw [s_ValidValue_eq]
  simp only [s_ValidValue_L11_eq, s_ValidValue_L12_eq, s_l06Plain_ok, s_l00In_ok, s_IsName_ok, Option.bind_some, ite_some, len_eq]
  congr 1
  unfold vVal
  have e : ∀ n : Nat, decide ((1 : Int) ≤ (n : Int)) = decide (1 ≤ n) := fun n => by rw [Bool.eq_iff_iff]; simp only [decide_eq_true_eq]; omega
  have e2 : ∀ n : Nat, decide ((n : Int) ≤ (1200 : Int)) = decide (n ≤ 1200) := fun n => by rw [Bool.eq_iff_iff]; simp only [decide_eq_true_eq]; omega
  have e3 : ∀ n : Nat, decide ((n : Int) ≤ (200 : Int)) = decide (n ≤ 200) := fun n => by rw [Bool.eq_iff_iff]; simp only [decide_eq_true_eq]; omega
  simp only [e, e2, e3]
  grind

theorem i_isObjectId_ok (n : Int) : i_isObjectId n = some (decide (1 ≤ n) && decide (n ≤ 1000000)) := by
  rw [i_isObjectId_eq, i_within_ok]; rfl

theorem i_ValidValue_ok (v : TValue) : i_ValidValue v = some (vVal v) := by
  rw [i_ValidValue_eq]
  simp only [i_ValidValue_L11_eq, i_ValidValue_L12_eq, i_isObjectId_ok, i_within_ok, i_IsName_ok, Option.bind_some, ite_some, len_eq]
  congr 1
  unfold vVal
  have e : ∀ n : Nat, decide ((n : Int) ≥ (1 : Int)) = decide (1 ≤ n) := fun n => by rw [Bool.eq_iff_iff]; simp only [decide_eq_true_eq]; omega
  have e2 : ∀ n : Nat, decide ((n : Int) ≤ (1200 : Int)) = decide (n ≤ 1200) := fun n => by rw [Bool.eq_iff_iff]; simp only [decide_eq_true_eq]; omega
  have e3 : ∀ n : Nat, decide ((n : Int) ≤ (200 : Int)) = decide (n ≤ 200) := fun n => by rw [Bool.eq_iff_iff]; simp only [decide_eq_true_eq]; omega
  simp only [e, e2, e3]
  grind

def vNull (v : TValue) : Bool := v.fKind == 1 && v.fNum == 0 && v.fText == [] && v.fRef == 0

theorem s_IsNull_ok (v : TValue) : s_IsNull v = some (vNull v) := by
  rw [s_IsNull_eq]; unfold vNull; simp only [Bool.and_true, Bool.and_assoc]

theorem i_null_ok : i_null = some (TValue.mk 1 0 [] 0) := by
  rw [i_null_eq, i_textOf_eq]; rfl

theorem i_IsNull_ok (v : TValue) : i_IsNull v = some (vNull v) := by
  rw [i_IsNull_eq, i_null_ok]; unfold vNull; simp only [Option.bind_some, Bool.and_true, Bool.and_assoc]

end Go.Dv.U

namespace Go.Dv.U

open Go Go.Dv Go.Proofs

def okDig (d : List UInt8) : Bool := !(d == []) && decide (d.length ≤ 13) && d.all digB && decide (numD d 0 ≤ 1000000000000)

def sgn (s : List UInt8) : Bool × List UInt8 := match s with
  | [] => (false, [])
  | b :: r => if ib b = 45 then (true, r) else if ib b = 43 then (false, r) else (false, b :: r)

def okS (s : List UInt8) : Bool := okDig (sgn s).2

def valS (s : List UInt8) : Int := if (sgn s).1 = true then -((numD (sgn s).2 0 : Nat) : Int) else (numD (sgn s).2 0 : Nat)

def vHas (v : TValue) : Bool := v.fKind == 2 || vNull v || (v.fKind == 1 && okS v.fText)

def vNum (v : TValue) : Int := if v.fKind = 2 then v.fNum else if v.fText = [] then 0 else valS v.fText

theorem digB_ib (b : UInt8) : digB b = isDig (ib b) := by
  unfold digB isDig
  rw [ib_eq, Bool.eq_iff_iff]
  simp
  omega

theorem sgn_cons (b : UInt8) (r : List UInt8) : sgn (b :: r) = if ib b = 45 then (true, r) else if ib b = 43 then (false, r) else (false, b :: r) := rfl

theorem i_areAllDig_ok {s : List UInt8} (h : s.length ≤ 9223372036854775807) : i_areAll_byte__i_isDigit (s.map ib) = some (s.all digB) := by
  rw [i_areAll_byte__i_isDigit_eq]
  have := all_loop (xs := s.map ib) (by simpa using h) (F := i_isDigit) (p := isDig) (J := i_areAll_byte_L2__i_isDigit (s.map ib) (len (s.map ib))) (fun i => by rw [i_areAll_byte_L2__i_isDigit_eq]) (fun y _ => i_isDigit_ok y)
  rw [this, List.all_map]
  congr 2
  funext b
  exact (digB_ib b).symm

theorem hasPre_one (c : UInt8) (s : List UInt8) (h : s.length ≤ 1000000) : internal_stringslite_HasPrefix s [c] = some (match s with | [] => false | b :: _ => b == c) := by
  rw [internal_stringslite_HasPrefix_eq]
  cases s with
  | nil => simp [len_eq]
  | cons b r =>
    rw [if_pos (by simp [len_eq]; omega)]
    have := cut_of (xs := b :: r) (a := 0) (b := 1) (by omega) (by simp)
    have e : len [c] = ((1 : Nat) : Int) := rfl
    rw [Option.getD_some, e, show (0 : Int) = ((0 : Nat) : Int) from rfl, this]
    simp

theorem cut_tail (b : UInt8) (r : List UInt8) (c : UInt8) : cut (b :: r) (len [c]) (Option.getD none (len (b :: r))) = some r := by
  have := cut_of (xs := b :: r) (a := 1) (b := (b :: r).length) (by simp) (Nat.le_refl _)
  rw [Option.getD_none, len_eq, len_eq]
  have e : (([c].length : Nat) : Int) = ((1 : Nat) : Int) := rfl
  rw [e, this]
  simp

theorem L12_ok {d : List UInt8} (hl : d.length ≤ 1000000) (hne : d ≠ []) (hd : d.all digB = true) (neg : Bool) : ∃ x, i_Value_integer_L12 d neg = some (x, okDig d) ∧ (okDig d = true → x = if neg = true then -((numD d 0 : Nat) : Int) else (numD d 0 : Nat)) := by
  rw [i_Value_integer_L12_eq]
  unfold readIntS
  by_cases h13 : 13 < d.length
  · rw [if_pos h13]
    have : okDig d = false := by unfold okDig; simp [show ¬ d.length ≤ 13 by omega]
    rw [this]
    simp only [Option.bind_some]
    cases neg
    · exact ⟨_, rfl, fun h => by cases h⟩
    · exact ⟨_, rfl, fun h => by cases h⟩
  · rw [if_neg h13, if_pos ⟨hne, hd⟩]
    simp only [Option.bind_some]
    have hlt := numD_lt d 0 0 hd (by decide)
    have hp : 10 ^ (0 + d.length) ≤ 10 ^ 13 := Nat.pow_le_pow_right (by decide) (by omega)
    have e : okDig d = decide (numD d 0 ≤ 1000000000000) := by
      unfold okDig
      simp [hne, hd, show d.length ≤ 13 by omega]
    rw [e]
    cases neg
    · exact ⟨_, rfl, fun _ => rfl⟩
    · refine ⟨_, rfl, fun _ => ?_⟩
      rw [w64_of (by omega) (by omega)]
      simp

theorem i_Value_integer_ok {v : TValue} (h : vVal v = true) : ∃ x, i_Value_integer v = some (x, vHas v) ∧ (vHas v = true → x = vNum v) := by
  have hlen : v.fKind = 1 → v.fText.length ≤ 200 := by
    intro h1
    unfold vVal at h
    rw [if_pos h1] at h
    simp only [Bool.and_eq_true_iff, decide_eq_true_eq] at h
    exact h.2
  rw [i_Value_integer_eq, i_IsNull_ok]
  unfold vHas vNum
  by_cases h2 : v.fKind = 2
  · rw [if_pos (by simpa using h2), if_pos h2]
    exact ⟨_, by simp [h2], fun _ => rfl⟩
  rw [if_neg (by simpa using h2), if_neg h2]
  have e2 : (v.fKind == 2) = false := by simpa using h2
  simp only [Option.bind_some, e2, Bool.false_or]
  cases hn : vNull v
  · simp only [Bool.false_eq_true, if_false, Bool.false_or]
    by_cases h1 : v.fKind = 1
    · rw [if_neg (by simp [h1])]
      have hl := hlen h1
      have e1 : (v.fKind == 1) = true := by simpa using h1
      simp only [e1, Bool.true_and]
      have hne : v.fText ≠ [] := by
        intro e
        unfold vNull at hn
        unfold vVal at h
        rw [if_pos h1] at h
        simp only [Bool.and_eq_true_iff, decide_eq_true_eq, beq_iff_eq] at h
        rw [e1, h.1.1, h.1.2, e] at hn
        simp at hn
      rw [if_neg hne]
      generalize v.fText = s at hl hne
      rw [strings_CutPrefix_eq, internal_stringslite_CutPrefix_eq, hasPre_one 45 s (by omega)]
      cases s with
      | nil => exact absurd rfl hne
      | cons b r =>
        simp only [Option.bind_some]
        have e45 : ∀ c : UInt8, (b == c) = decide (ib b = ib c) := by
          intro c
          rw [Bool.eq_iff_iff]
          simp [ib_inj]
        have i45 : ib 45 = 45 := by decide
        have i43 : ib 43 = 43 := by decide
        have bad : ∀ d : List UInt8, d = [] ∨ d.all digB = false → okDig d = false := by
          intro d hd
          unfold okDig
          rcases hd with rfl | hd
          · rfl
          · simp [hd]
        by_cases hb : ib b = 45
        · have hc : (b == 45) = true := by rw [e45, i45]; simpa using hb
          simp only [hc, Bool.not_true, Bool.false_eq_true, if_false, cut_tail, Option.bind_some]
          have hs : sgn (b :: r) = (true, r) := by rw [sgn_cons, if_pos hb]
          unfold okS valS
          rw [hs]
          simp only [if_true]
          by_cases hr : r = []
          · subst hr
            rw [if_pos (by simp), i_Value_integer_L11_eq, bad [] (.inl rfl)]
            exact ⟨_, rfl, fun h => by cases h⟩
          · rw [if_neg (by simpa using hr), i_areAllDig_ok (by simp at hl; omega)]
            simp only [Option.bind_some]
            cases hd : r.all digB
            · rw [if_pos (by rfl), i_Value_integer_L11_eq, bad r (.inr hd)]
              exact ⟨_, rfl, fun h => by cases h⟩
            · rw [if_neg (by simp)]
              obtain ⟨x, hx, hy⟩ := L12_ok (by simp at hl; omega) hr hd true
              exact ⟨x, hx, fun h => by simpa using hy h⟩
        · have hc : (b == 45) = false := by rw [e45, i45]; simpa using hb
          simp only [hc, Bool.not_false, Bool.not_true, if_true, Option.bind_some]
          rw [strings_TrimPrefix_eq, internal_stringslite_TrimPrefix_eq, hasPre_one 43 _ (by omega)]
          simp only [Option.bind_some]
          by_cases hb3 : ib b = 43
          · have hc3 : (b == 43) = true := by rw [e45, i43]; simpa using hb3
            simp only [hc3, if_true, cut_tail, Option.bind_some]
            have hs : sgn (b :: r) = (false, r) := by rw [sgn_cons, if_neg hb, if_pos hb3]
            unfold okS valS
            rw [hs]
            simp only [Bool.false_eq_true, if_false]
            by_cases hr : r = []
            · subst hr
              rw [if_pos (by simp), i_Value_integer_L11_eq, bad [] (.inl rfl)]
              exact ⟨_, rfl, fun h => by cases h⟩
            · rw [if_neg (by simpa using hr), i_areAllDig_ok (by simp at hl; omega)]
              simp only [Option.bind_some]
              cases hd : r.all digB
              · rw [if_pos (by rfl), i_Value_integer_L11_eq, bad r (.inr hd)]
                exact ⟨_, rfl, fun h => by cases h⟩
              · rw [if_neg (by simp)]
                obtain ⟨x, hx, hy⟩ := L12_ok (by simp at hl; omega) hr hd false
                exact ⟨x, hx, fun h => by simpa using hy h⟩
          · have hc3 : (b == 43) = false := by rw [e45, i43]; simpa using hb3
            simp only [hc3, Bool.false_eq_true, if_false, Option.bind_some]
            have hs : sgn (b :: r) = (false, b :: r) := by rw [sgn_cons, if_neg hb, if_neg hb3]
            unfold okS valS
            rw [hs]
            simp only [Bool.false_eq_true, if_false]
            rw [if_neg (by simp), i_areAllDig_ok (by omega)]
            simp only [Option.bind_some]
            cases hd : (b :: r).all digB
            · rw [if_pos (by rfl), i_Value_integer_L11_eq, bad _ (.inr hd)]
              exact ⟨_, rfl, fun h => by cases h⟩
            · rw [if_neg (by simp)]
              obtain ⟨x, hx, hy⟩ := L12_ok (by omega) (by simp) hd false
              exact ⟨x, hx, fun h => by simpa using hy h⟩
    · rw [if_pos (by simpa using h1)]
      have e1 : (v.fKind == 1) = false := by simpa using h1
      simp only [e1, Bool.false_and]
      exact ⟨_, rfl, fun h => by cases h⟩
  · rw [if_pos rfl]
    have : v.fText = [] := by
      unfold vNull at hn
      simp only [Bool.and_eq_true_iff, beq_iff_eq] at hn
      exact hn.1.2
    rw [if_pos this]
    exact ⟨_, rfl, fun _ => rfl⟩

theorem i_ToInteger_ok (v : TValue) : i_ToInteger v = some (if (vVal v && vHas v) = true then (vNum v, true) else (0, false)) := by
  rw [i_ToInteger_eq, i_ValidValue_ok]
  simp only [Option.bind_some]
  cases h : vVal v
  · simp
  · obtain ⟨x, hx, hy⟩ := i_Value_integer_ok h
    rw [hx]
    simp only [Option.bind_some, Bool.not_true, Bool.false_eq_true, if_false, Bool.true_and]
    cases hh : vHas v
    · simp
    · rw [hy hh]; simp

theorem L8_ok {x0 : List UInt8} (hx : x0.length ≤ 1000) (neg : Bool) (hneg : ∃ b r, x0 = b :: r ∧ (ib b = 45 ↔ neg = true)) : ∀ (l : List UInt8) (j acc k : Nat), x0.drop j = l → acc < 10 ^ k → l.length + k ≤ 13 → 
    s_l10Digits_L8 x0 (acc : Int) (j : Int) = some (if (l.all digB && decide (numD l acc ≤ 1000000000000)) = true then ((if neg = true then -((numD l acc : Nat) : Int) else (numD l acc : Nat)), true) else (0, false)) := by
  intro l
  induction l with
  | nil =>
    intro j acc k hd ha hk
    have hj : x0.length ≤ j := by
      have := congrArg List.length hd
      simp at this; omega
    have hp : 10 ^ k ≤ 10 ^ 13 := Nat.pow_le_pow_right (by decide) (by omega)
    rw [s_l10Digits_L8_eq, if_neg (by simp [len_eq]; omega)]
    have hn : numD [] acc = acc := rfl
    simp only [List.all_nil, Bool.true_and, hn]
    by_cases hc : (acc : Int) > 1000000000000
    · rw [if_pos (by simpa using hc), if_neg (by simp; omega)]
    · rw [if_neg (by simpa using hc), if_pos (by simp; omega)]
      obtain ⟨b, r, rfl, hb⟩ := hneg
      rw [idx_zero]
      simp only [List.getElem?_cons_zero, Option.bind_some]
      by_cases h45 : ib b = 45
      · rw [if_pos (by simpa using h45), if_pos (hb.1 h45), w64_of (by omega) (by omega)]; simp
      · rw [if_neg (by simpa using h45), if_neg (fun h => h45 (hb.2 h))]
  | cons c l ih =>
    intro j acc k hd ha hk
    have hlt : j < x0.length := by
      have := congrArg List.length hd
      simp at this; omega
    rw [List.drop_eq_getElem_cons hlt] at hd
    simp only [List.cons.injEq] at hd
    obtain ⟨hc, hd⟩ := hd
    have hp : 10 ^ k ≤ 10 ^ 13 := Nat.pow_le_pow_right (by decide) (by omega)
    have hp2 : 10 ^ (k + 1) = 10 ^ k * 10 := Nat.pow_succ _ _
    rw [s_l10Digits_L8_eq, if_pos (by simp [len_eq, hlt]), idx_nat, List.getElem?_eq_getElem hlt, hc]
    simp only [Option.bind_some, List.all_cons]
    have hb := ib_eq c
    by_cases h48 : ib c < 48
    · have : digB c = false := by unfold digB; rw [Bool.and_eq_false_iff]; left; simp; omega
      rw [if_pos (by simpa using h48)]
      simp [this]
    · rw [if_neg (by simpa using h48)]
      by_cases h57 : ib c > 57
      · have : digB c = false := by unfold digB; rw [Bool.and_eq_false_iff]; right; simp; omega
        rw [if_pos (by simpa using h57)]
        simp [this]
      · have hdg : digB c = true := by unfold digB; simp; omega
        rw [if_neg (by simpa using h57)]
        simp only [hdg, Bool.true_and]
        have e1 : Go.IntKind.wrap Go.IntKind.u8 (ib c - 48) = ib c - 48 := by unfold IntKind.wrap; simp [IntKind.bits, IntKind.signed]; omega
        rw [e1, w64_of (n := ib c - 48) (by omega) (by omega), w64_of (n := (acc : Int) * 10) (by omega) (by omega), w64_of (n := (acc : Int) * 10 + (ib c - 48)) (by omega) (by omega), w64_of (n := (j : Int) + 1) (by omega) (by omega)]
        have e2 : (acc : Int) * 10 + (ib c - 48) = ((acc * 10 + (c.toNat - 48) : Nat) : Int) := by omega
        have e3 : (j : Int) + 1 = ((j + 1 : Nat) : Int) := by omega
        simp only [List.length_cons] at hk
        rw [e2, e3, ih (j + 1) (acc * 10 + (c.toNat - 48)) (k + 1) hd (by omega) (by omega)]
        rfl

theorem s_l10Digits_ok {s : List UInt8} (hl : s.length ≤ 200) : s_l10Digits s = some (if okS s = true then (valS s, true) else (0, false)) := by
  have L4 : ∀ (j : Nat) (neg : Bool), (∃ b r, s = b :: r ∧ (ib b = 45 ↔ neg = true)) → j ≤ s.length → sgn s = (neg, s.drop j) → s_l10Digits_L4 s j = some (if okS s = true then (valS s, true) else (0, false)) := by
    intro j neg hb hj hs
    rw [s_l10Digits_L4_eq]
    unfold okS valS
    rw [hs]
    simp only
    have hdl : (s.drop j).length = s.length - j := List.length_drop
    by_cases h0 : s.length = j
    · rw [if_pos (by simp [len_eq, h0])]
      have : s.drop j = [] := List.drop_eq_nil_of_le (by omega)
      rw [this]
      rfl
    · rw [if_neg (by simp [len_eq]; omega), len_eq, w64_of (by omega) (by omega)]
      have hne : s.drop j ≠ [] := by
        intro e
        rw [e] at hdl
        simp at hdl; omega
      by_cases h13 : 13 < s.length - j
      · rw [if_pos (by simp; omega)]
        have : okDig (s.drop j) = false := by unfold okDig; simp [show ¬ s.length - j ≤ 13 by omega]
        rw [this]; rfl
      · rw [if_neg (by simp; omega)]
        have := L8_ok (x0 := s) (by omega) neg hb (s.drop j) j 0 0 rfl (by decide) (by omega)
        have hz : ((0 : Nat) : Int) = 0 := rfl
        rw [hz] at this
        rw [this]
        have e : okDig (s.drop j) = ((s.drop j).all digB && decide (numD (s.drop j) 0 ≤ 1000000000000)) := by
          unfold okDig
          have h1 : (s.drop j == []) = false := by simpa using hne
          have h2 : decide ((s.drop j).length ≤ 13) = true := by rw [decide_eq_true_eq, hdl]; omega
          rw [h1, h2]; simp
        rw [e]
  rw [s_l10Digits_eq]
  cases s with
  | nil =>
    rw [if_neg (by simp), s_l10Digits_L4_eq, if_pos (by simp [len_eq])]
    rfl
  | cons b r =>
    rw [if_pos (by rfl), idx_zero]
    simp only [List.getElem?_cons_zero, Option.bind_some, s_l10Digits_L3_eq]
    have one : (1 : Int) = ((1 : Nat) : Int) := rfl
    by_cases h43 : ib b = 43
    · rw [if_pos (by simpa using h43), one]
      refine L4 1 false ⟨b, r, rfl, ?_⟩ (by simp) ?_
      · rw [h43]; simp
      · rw [sgn_cons, if_neg (by omega), if_pos h43]; rfl
    · rw [if_neg (by simpa using h43)]
      by_cases h45 : ib b = 45
      · rw [if_pos (by simpa using h45), one]
        refine L4 1 true ⟨b, r, rfl, ?_⟩ (by simp) ?_
        · simp [h45]
        · rw [sgn_cons, if_pos h45]; rfl
      · rw [if_neg (by simpa using h45)]
        refine L4 0 false ⟨b, r, rfl, ?_⟩ (by simp) ?_
        · simp [h45]
        · rw [sgn_cons, if_neg h45, if_neg h43]; rfl

theorem s_ToInteger_ok (v : TValue) : s_ToInteger v = some (if (vVal v && vHas v) = true then (vNum v, true) else (0, false)) := by
  rw [s_ToInteger_eq, s_ValidValue_ok, s_IsNull_ok]
  simp only [Option.bind_some]
  cases h : vVal v
  · simp
  simp only [Bool.not_true, Bool.false_eq_true, if_false, Bool.true_and]
  unfold vHas vNum
  by_cases h2 : v.fKind = 2
  · rw [if_pos (by simpa using h2), if_pos h2]
    simp [h2]
  rw [if_neg (by simpa using h2), if_neg h2]
  have e2 : (v.fKind == 2) = false := by simpa using h2
  simp only [e2, Bool.false_or]
  cases hn : vNull v
  · simp only [Bool.false_eq_true, if_false, Bool.false_or]
    by_cases h1 : v.fKind = 1
    · rw [if_pos (by simpa using h1)]
      have e1 : (v.fKind == 1) = true := by simpa using h1
      have hv := h
      unfold vVal at hv
      rw [if_pos h1] at hv
      simp only [Bool.and_eq_true_iff, decide_eq_true_eq, beq_iff_eq] at hv
      have hne : v.fText ≠ [] := by
        intro e
        unfold vNull at hn
        rw [e1, hv.1.1, hv.1.2, e] at hn
        simp at hn
      rw [s_l10Digits_ok hv.2, if_neg hne]
      simp only [Option.bind_some, e1, Bool.true_and]
    · rw [if_neg (by simpa using h1)]
      have e1 : (v.fKind == 1) = false := by simpa using h1
      simp [e1]
  · have : v.fText = [] := by
      unfold vNull at hn
      simp only [Bool.and_eq_true_iff, beq_iff_eq] at hn
      exact hn.1.2
    rw [if_pos this]
    simp

end Go.Dv.U

namespace Go.Dv.U

open Go Go.Dv Go.Proofs

theorem s_l06Text_ok {c : List Int} {a s B : Int} (h : SrcOk c a B) (hB : B ≤ 4611686018420000000) : Dr (s_l06Text c a s) (B + 200000) (fun v => v.length ≤ 100000) := by
  rw [s_l06Text_eq]
  refine (s_l00Src_one_ok 3 h (by omega)).bind fun v c2 a2 s2 h2 _ => ?_
  simp only
  split
  · refine (s_l00Src_text_ok _ (by simp) h2 (by omega)).bind fun v c3 a3 s3 h3 hv => ?_
    refine Dr.some (h3.le (by omega)) ?_
    have : ∀ t ∈ ([[], [97], [97, 98], [49, 50], [45, 55], [34], [97, 34, 98], [105, 116, 39, 115], [32, 32, 120, 32], [10], [48, 48], [104, 101, 108, 108, 111, 32, 119, 111, 114, 108, 100]] : List (List UInt8)), t.length ≤ 100000 := by decide
    exact this _ hv
  · refine (s_l00Src_word_ok 12 (by decide) h2 (by omega)).bind fun v c3 a3 s3 h3 hv => ?_
    exact Dr.some (h3.le (by omega)) hv

theorem s_l06Name_ok {c : List Int} {a s B : Int} (h : SrcOk c a B) (hB : B ≤ 4611686018420000000) : Dr (s_l06Name c a s) (B + 200000) (fun v => v.length ≤ 100000) := by
  rw [s_l06Name_eq]
  refine (s_l00Src_text_ok _ (by simp) h (by omega)).bind fun v c3 a3 s3 h3 hv => ?_
  refine Dr.some (h3.le (by omega)) ?_
  have : ∀ t ∈ ([[65], [66], [88], [79, 85, 84], [110, 49], [70, 111, 111, 95, 50], [65, 66, 67, 68, 69, 70, 71, 72, 73, 74, 75, 76], [90, 57]] : List (List UInt8)), t.length ≤ 100000 := by decide
  exact this _ hv

theorem s_l06Draw_L27_ok {c : List Int} {a s B : Int} (h : SrcOk c a B) (x3 x4 : Int) (x5 : List UInt8) (x6 x7 x8 : Int) (x9 : List UInt8) (x10 : Int) : Dr (s_l06Draw_L27 c a s x3 x4 x5 x6 x7 x8 x9 x10) B (fun _ => True) := by
  rw [s_l06Draw_L27_eq]
  exact Dr.some h trivial

theorem s_l06Draw_L25_ok {c : List Int} {a s B : Int} (h : SrcOk c a B) (x3 x4 : Int) (x5 : List UInt8) (x6 x7 x8 : Int) (x10 : Int) : ∀ (n : Nat) (x9 : List UInt8), 202 ≤ x9.length + n → x9.length ≤ 100000 → Dr (s_l06Draw_L25 c a s x3 x4 x5 x6 x7 x8 x9 x10) B (fun _ => True) := by
  intro n
  induction n with
  | zero =>
    intro x9 h1 h2
    rw [s_l06Draw_L25_eq, if_neg (by simp [len_eq]; omega)]
    exact s_l06Draw_L27_ok h ..
  | succ n ih =>
    intro x9 h1 h2
    rw [s_l06Draw_L25_eq]
    split
    · rename_i h3
      simp only [len_eq, decide_eq_true_eq] at h3
      rw [app_of (by simp; omega)]
      simp only [Option.bind_some]
      exact ih _ (by simp; omega) (by simp; omega)
    · exact s_l06Draw_L27_ok h ..

theorem s_l06Draw_L13_ok {c : List Int} {a s B : Int} (h : SrcOk c a B) (hB : B ≤ 4611686018410000000) (x3 x4 : Int) (x5 : List UInt8) (x6 x7 x8 : Int) (x9 : List UInt8) (x10 : Int) (h9 : x9.length ≤ 100000) : Dr (s_l06Draw_L13 c a s x3 x4 x5 x6 x7 x8 x9 x10) (B + 300000) (fun _ => True) := by
  rw [s_l06Draw_L13_eq]
  refine (s_l00Src_one_ok 12 h (by omega)).bind fun v c2 a2 s2 h2 _ => ?_
  simp only
  split
  · refine (s_l00Src_pick_ok 6 h2 (by omega)).bind fun v c3 a3 s3 h3 _ => ?_
    simp only
    split
    · refine (s_l00Src_among_ok _ (by simp) h3 (by omega)).bind fun v c4 a4 s4 h4 _ => ?_
      exact (s_l06Draw_L27_ok (h4.le (by omega)) ..)
    split
    · refine (s_l00Src_among_ok _ (by simp) h3 (by omega)).bind fun v c4 a4 s4 h4 _ => ?_
      exact (s_l06Draw_L27_ok (h4.le (by omega)) ..)
    split
    · refine (s_l00Src_among_ok _ (by simp) h3 (by omega)).bind fun v c4 a4 s4 h4 _ => ?_
      exact (s_l06Draw_L27_ok (h4.le (by omega)) ..)
    split
    · refine (s_l06Text_ok h3 (by omega)).bind fun v c4 a4 s4 h4 hv => ?_
      simp only
      rw [app_of (by omega)]
      simp only [Option.bind_some]
      exact (s_l06Draw_L27_ok (h4.le (by omega)) ..)
    split
    · exact (s_l06Draw_L25_ok (h3.le (by omega)) _ _ _ _ _ _ _ 202 _ (by omega) h9)
    · exact (s_l06Draw_L27_ok (h3.le (by omega)) ..)
  · exact (s_l06Draw_L27_ok (h2.le (by omega)) ..)

theorem s_l06Draw_ok {c : List Int} {a s B : Int} (h : SrcOk c a B) (hB : B ≤ 4611686018400000000) : Dr (s_l06Draw c a s) (B + 600000) (fun _ => True) := by
  rw [s_l06Draw_eq]
  refine (s_l00Src_pick_ok 8 h (by omega)).bind fun v c2 a2 s2 h2 _ => ?_
  simp only
  have tl : ∀ (xs : List (List UInt8)) (v : List UInt8), v ∈ xs → (xs.all fun t => decide (t.length ≤ 100000)) = true → v.length ≤ 100000 := fun xs v hv hx => by
    have := List.all_eq_true.1 hx v hv
    simpa using this
  split
  · refine (s_l06Text_ok h2 (by omega)).bind fun v c3 a3 s3 h3 hv => ?_
    exact (s_l06Draw_L13_ok h3 (by omega) _ _ _ _ _ _ _ _ hv).le (by omega) fun _ h => h
  split
  · refine (s_l00Src_pick_ok _ h2 (by omega)).bind fun v c3 a3 s3 h3 _ => ?_
    simp only
    refine (s_l00Src_pick_ok _ h3 (by omega)).bind fun v c4 a4 s4 h4 _ => ?_
    simp only
    refine (s_l00Src_among_ok _ (by simp) h4 (by omega)).bind fun v c5 a5 s5 h5 _ => ?_
    exact (s_l06Draw_L13_ok h5 (by omega) _ _ _ _ _ _ _ _ (by simp)).le (by omega) fun _ h => h
  split
  · refine (s_l00Src_text_ok _ (by simp) h2 (by omega)).bind fun v c3 a3 s3 h3 hv => ?_
    exact (s_l06Draw_L13_ok h3 (by omega) _ _ _ _ _ _ _ _ (tl _ _ hv (by decide))).le (by omega) fun _ h => h
  split
  · refine (s_l06Name_ok h2 (by omega)).bind fun v c3 a3 s3 h3 hv => ?_
    exact (s_l06Draw_L13_ok h3 (by omega) _ _ _ _ _ _ _ _ hv).le (by omega) fun _ h => h
  split
  · refine (s_l06Name_ok h2 (by omega)).bind fun v c3 a3 s3 h3 hv => ?_
    exact (s_l06Draw_L13_ok h3 (by omega) _ _ _ _ _ _ _ _ hv).le (by omega) fun _ h => h
  · refine (s_l00Src_pick_ok _ h2 (by omega)).bind fun v c3 a3 s3 h3 _ => ?_
    exact (s_l06Draw_L13_ok h3 (by omega) _ _ _ _ _ _ _ _ (by simp)).le (by omega) fun _ h => h

theorem s_l10Value_ok {c : List Int} {a s B : Int} (h : SrcOk c a B) (hB : B ≤ 4611686018300000000) : Dr (s_l10Value c a s) (B + 700000) (fun _ => True) := by
  rw [s_l10Value_eq]
  refine (s_l00Src_pick_ok 8 h (by omega)).bind fun v c2 a2 s2 h2 _ => ?_
  simp only
  split
  · refine (s_l06Draw_ok h2 (by omega)).bind fun v c3 a3 s3 h3 hv => ?_
    exact Dr.some (h3.le (by omega)) trivial
  split
  · refine (s_l00Src_text_ok _ (by simp) h2 (by omega)).bind fun v c3 a3 s3 h3 hv => ?_
    exact Dr.some (h3.le (by omega)) trivial
  split
  · refine (s_l00Src_text_ok _ (by simp) h2 (by omega)).bind fun v c3 a3 s3 h3 hv => ?_
    exact Dr.some (h3.le (by omega)) trivial
  split
  · refine (s_l06Text_ok h2 (by omega)).bind fun v c3 a3 s3 h3 hv => ?_
    exact Dr.some (h3.le (by omega)) trivial
  split
  · refine (s_l00Src_among_ok _ (by simp) h2 (by omega)).bind fun v c3 a3 s3 h3 hv => ?_
    exact Dr.some (h3.le (by omega)) trivial
  · refine (s_l00Src_pick_ok _ h2 (by omega)).bind fun v c3 a3 s3 h3 hv => ?_
    exact Dr.some (h3.le (by omega)) trivial

/-- a draw behind which nothing is kept -/
theorem Dr.out {α β : Type} {o : Option (α × ((List Int × Int × Int × Unit) × Unit))} {B : Int} {P : α → Prop} {k : α × ((List Int × Int × Int × Unit) × Unit) → Option β}
    (h : Dr o B P) (hk : ∀ v c a s, SrcOk c a B → ∃ t, k (v, ((c, a, s, ()), ())) = Option.some t) : ∃ t, o.bind k = Option.some t := by
  obtain ⟨v, c, a, s, rfl, h2, h3⟩ := h
  exact hk v c a s h2

theorem s_DrawArithmetic_ok {x : List Int} (h : BytesOk x) : ∃ t, s_DrawArithmetic x = some t := by
  have h0 : SrcOk x 0 0 := ⟨h.2, h.1, by omega, by omega⟩
  rw [s_DrawArithmetic_eq]
  refine (s_l00Src_pick_ok 4 h0 (by omega)).out fun v c2 a2 s2 h2 => ?_
  refine (s_l00Src_one_ok 20 h2 (by omega)).out fun v c3 a3 s3 h3 => ?_
  simp only
  split
  · refine (s_l00Src_among_ok _ (by simp) h3 (by omega)).out fun v c4 a4 s4 h4 => ?_
    refine (s_l10Value_ok h4 (by omega)).out fun v c5 a5 s5 h5 => ?_
    exact (s_l10Value_ok h5 (by omega)).out fun v c7 a7 s7 h7 => ⟨_, rfl⟩
  · refine (s_l10Value_ok h3 (by omega)).out fun v c5 a5 s5 h5 => ?_
    exact (s_l10Value_ok h5 (by omega)).out fun v c7 a7 s7 h7 => ⟨_, rfl⟩

theorem i_checkValues2_ok (a b : TValue) : i_checkValues [a, b] = some (if (vVal a && vVal b) = true then 0 else 1) := by
  rw [i_checkValues_eq, i_areAll_impl_Value__i_ValidValue_eq]
  have := all_loop (xs := [a, b]) (by simp) (F := i_ValidValue) (p := vVal) (J := i_areAll_impl_Value_L2__i_ValidValue [a, b] (len [a, b])) (fun i => by rw [i_areAll_impl_Value_L2__i_ValidValue_eq]) (fun y _ => i_ValidValue_ok y)
  rw [this]
  simp only [Option.bind_some, i_unless_ok, List.all_cons, List.all_nil, Bool.and_true]

theorem i_integers_ok {a b : TValue} (ha : vVal a = true) (hb : vVal b = true) : ∃ x y, i_integers a b = some (x, y, if (vHas a && vHas b) = true then 0 else 4) ∧ ((vHas a && vHas b) = true → x = vNum a ∧ y = vNum b) := by
  obtain ⟨x, hx, hx2⟩ := i_Value_integer_ok ha
  obtain ⟨y, hy, hy2⟩ := i_Value_integer_ok hb
  refine ⟨x, y, ?_, fun h => ?_⟩
  · rw [i_integers_eq, hx, hy]
    simp only [Option.bind_some, i_unless_ok]
    cases vHas a <;> simp
  · rw [Bool.and_eq_true_iff] at h
    exact ⟨hx2 h.1, hy2 h.2⟩

end Go.Dv.U

namespace Go.Dv.U

open Go Go.Dv Go.Proofs

theorem numD_app (l : List UInt8) (b : UInt8) (a : Nat) : numD (l ++ [b]) a = numD l a * 10 + (b.toNat - 48) := by simp [numD]

theorem dd_byte {r : Nat} (h : r < 10) : (UInt8.ofNat (48 + r)).toNat = 48 + r := by simp; omega

theorem dd_ok : ∀ (k u : Nat), u < 10 ^ (k + 1) → (Lib.decDigits u).all digB = true ∧ numD (Lib.decDigits u) 0 = u ∧ Lib.decDigits u ≠ [] := by
  intro k
  induction k with
  | zero =>
    intro u h
    have hu : u < 10 := by simpa using h
    rw [Lib.decDigits_one hu]
    have := dd_byte hu
    refine ⟨by simp [digB, this]; omega, ?_, by simp⟩
    simp only [numD, List.foldl_cons, List.foldl_nil, this]; omega
  | succ k ih =>
    intro u h
    by_cases hu : u < 10
    · rw [Lib.decDigits_one hu]
      have := dd_byte hu
      refine ⟨by simp [digB, this]; omega, ?_, by simp⟩
      simp only [numD, List.foldl_cons, List.foldl_nil, this]; omega
    · have hd : Lib.decDigits u = Lib.decDigits (u / 10) ++ [UInt8.ofNat (48 + u % 10)] := by
        rw [Lib.decDigits, dif_neg hu]
      obtain ⟨h1, h2, h3⟩ := ih (u / 10) (by rw [Nat.div_lt_iff_lt_mul (by decide)]; rw [Nat.pow_succ] at h; exact h)
      have := dd_byte (r := u % 10) (by omega)
      rw [hd]
      refine ⟨?_, ?_, by simp⟩
      · rw [List.all_append, h1]
        simp [digB, this]; omega
      · rw [numD_app, h2, this]; omega

theorem dd_okDig {u : Nat} (h : u ≤ 1000000000000) : okDig (Lib.decDigits u) = true := by
  obtain ⟨h1, h2, h3⟩ := dd_ok 12 u (by omega)
  have hl : (Lib.decDigits u).length ≤ 13 := by rw [Lib.decDigits_length]; exact nDigits_le 12 u (by omega)
  unfold okDig
  rw [h1, h2]
  simp [h3, hl, h]

theorem sgn_itoa {n : Int} (h : -1000000000000 ≤ n ∧ n ≤ 1000000000000) : sgn (Lib.itoa n) = (decide (n < 0), Lib.decDigits n.natAbs) := by
  unfold Lib.itoa
  by_cases hn : n < 0
  · rw [if_pos hn, sgn_cons, if_pos (by decide)]
    simp [hn]
  · rw [if_neg hn]
    have e : n.natAbs = n.toNat := by omega
    rw [e]
    obtain ⟨h1, _, h3⟩ := dd_ok 12 n.toNat (by omega)
    cases hd : Lib.decDigits n.toNat with
    | nil => exact absurd hd h3
    | cons b r =>
      rw [hd] at h1
      simp only [List.all_cons, Bool.and_eq_true_iff] at h1
      have hb := h1.1
      unfold digB at hb
      simp only [Bool.and_eq_true_iff, decide_eq_true_eq] at hb
      have := ib_eq b
      rw [sgn_cons, if_neg (by omega), if_neg (by omega)]
      simp [hn]

theorem vVal_int {n : Int} : vVal ⟨2, n, [], 0⟩ = (decide (-1000000000000 ≤ n) && decide (n ≤ 1000000000000)) := by
  unfold vVal; simp

theorem vHas_int (n : Int) : vHas ⟨2, n, [], 0⟩ = true := rfl

theorem vNum_int (n : Int) : vNum ⟨2, n, [], 0⟩ = n := rfl

theorem back_itoa {n : Int} (h : -1000000000000 ≤ n ∧ n ≤ 1000000000000) : i_ToInteger ⟨1, 0, Lib.itoa n, 0⟩ = some (n, true) := by
  have hl := itoa_len20 (n := n) (by omega) (by omega)
  have hs := sgn_itoa h
  have hu : n.natAbs ≤ 1000000000000 := by omega
  have hv : vVal ⟨1, 0, Lib.itoa n, 0⟩ = true := by unfold vVal; simp; omega
  have hok : okS (Lib.itoa n) = true := by unfold okS; rw [hs]; exact dd_okDig hu
  have hh : vHas ⟨1, 0, Lib.itoa n, 0⟩ = true := by unfold vHas; simp [hok]
  obtain ⟨_, h2, _⟩ := dd_ok 12 n.natAbs (by omega)
  have hne : Lib.itoa n ≠ [] := by
    intro e
    rw [e] at hs
    have := congrArg Prod.snd hs
    obtain ⟨_, _, h3⟩ := dd_ok 12 n.natAbs (by omega)
    exact h3 this.symm
  have hn : vNum ⟨1, 0, Lib.itoa n, 0⟩ = n := by
    unfold vNum valS
    rw [hs]
    simp only [hne, if_false, h2]
    by_cases hn : n < 0
    · simp [hn]; omega
    · simp [hn]; omega
  rw [i_ToInteger_ok, hv, hh, hn]
  rfl

theorem has_rng {v : TValue} (h : vVal v = true) (hh : vHas v = true) : -1000000000000 ≤ vNum v ∧ vNum v ≤ 1000000000000 := by
  unfold vHas at hh
  unfold vNum
  by_cases h2 : v.fKind = 2
  · rw [if_pos h2]
    unfold vVal at h
    rw [if_neg (by omega), if_pos h2] at h
    simp only [Bool.and_eq_true_iff, decide_eq_true_eq] at h
    exact ⟨h.1.2, h.2⟩
  · rw [if_neg h2]
    split
    · omega
    · rename_i hne
      have e2 : (v.fKind == 2) = false := by simpa using h2
      have e3 : vNull v = false := by
        unfold vNull
        have : (v.fText == []) = false := by simpa using hne
        rw [this]; simp
      rw [e2, e3] at hh
      simp only [Bool.false_or, Bool.and_eq_true_iff] at hh
      have hk := hh.2
      unfold okS okDig at hk
      simp only [Bool.and_eq_true_iff, decide_eq_true_eq] at hk
      unfold valS
      split <;> omega

theorem i_bounded_ok {n : Int} (h : -9223372036854775808 ≤ n ∧ n ≤ 9223372036854775807) : i_bounded n = some (if (decide (-1000000000000 ≤ n) && decide (n ≤ 1000000000000)) = true then (⟨2, n, [], 0⟩, 0) else (⟨0, 0, [], 0⟩, 3)) := by
  have z2 : (Int.ofNat 2) = 2 := rfl
  have z0 : (Int.ofNat 0) = 0 := rfl
  rw [i_bounded_eq, i_IntegerValue_eq, i_numberOf_eq]
  simp only [Option.bind_some, i_ValidValue_ok, z2, z0, vVal_int]
  cases (decide (-1000000000000 ≤ n) && decide (n ≤ 1000000000000))
  · simp only [Option.bind_some, i_unless_ok]; rfl
  · simp only [Option.bind_some, i_unless_ok]; rfl

/-- the ints of two values that have them -/
theorem i_integers_has {a b : TValue} (ha : vVal a = true) (hb : vVal b = true) (ka : vHas a = true) (kb : vHas b = true) : i_integers a b = some (vNum a, vNum b, 0) := by
  obtain ⟨x, y, h1, h2⟩ := i_integers_ok ha hb
  obtain ⟨rfl, rfl⟩ := h2 (by rw [ka, kb]; rfl)
  rw [h1, ka, kb]; rfl

theorem arith_head {k : Int} (hk : 8 ≤ k ∧ k ≤ 11) {a b : TValue} (ha : vVal a = true) (hb : vVal b = true) (ka : vHas a = true) (kb : vHas b = true) :
    i_Arithmetic k a b = (if k = 11 ∧ vNum b = 0 then some (⟨0, 0, [], 0⟩, 8) else if k = 8 then i_bounded (w64 (vNum a + vNum b)) else if k = 9 then i_bounded (w64 (vNum a - vNum b)) else if k = 10 then i_product (vNum a) (vNum b) else (quo .i64 (vNum a) (vNum b)).bind fun q => i_bounded q) := by
  rw [i_Arithmetic_eq, i_checkValues2_ok, i_within_ok, ha, hb]
  have hw : (decide (8 ≤ k) && decide (k ≤ 11)) = true := by simp; omega
  have eta : ∀ o : Option (TValue × Int), (o.bind fun r => some (Prod.fst r, Prod.snd r)) = o := by intro o; cases o <;> rfl
  simp only [Option.bind_some, hw, i_unless_ok, if_true, i_first2_ok, i_integers_has ha hb ka kb, Bool.and_self, ne_eq, not_true_eq_false, if_false, eta]
  rw [if_neg (by simp)]
  by_cases h11 : k = 11
  · subst h11
    by_cases h0 : vNum b = 0
    · simp [h0]
    · simp [h0]
  · simp [h11]

theorem arith8 {a b : TValue} (ha : vVal a = true) (hb : vVal b = true) (ka : vHas a = true) (kb : vHas b = true) : i_Arithmetic 8 a b = i_bounded (w64 (vNum a + vNum b)) := by
  rw [arith_head (by decide) ha hb ka kb, if_neg (by simp), if_pos rfl]

theorem arith9 {a b : TValue} (ha : vVal a = true) (hb : vVal b = true) (ka : vHas a = true) (kb : vHas b = true) : i_Arithmetic 9 a b = i_bounded (w64 (vNum a - vNum b)) := by
  rw [arith_head (by decide) ha hb ka kb, if_neg (by simp), if_neg (by decide), if_pos rfl]

theorem arith10 {a b : TValue} (ha : vVal a = true) (hb : vVal b = true) (ka : vHas a = true) (kb : vHas b = true) : i_Arithmetic 10 a b = i_product (vNum a) (vNum b) := by
  rw [arith_head (by decide) ha hb ka kb, if_neg (by simp), if_neg (by decide), if_neg (by decide), if_pos rfl]

theorem arith11 {a b : TValue} (ha : vVal a = true) (hb : vVal b = true) (ka : vHas a = true) (kb : vHas b = true) (h0 : vNum b ≠ 0) : i_Arithmetic 11 a b = (quo .i64 (vNum a) (vNum b)).bind fun q => i_bounded q := by
  rw [arith_head (by decide) ha hb ka kb, if_neg (by simp [h0]), if_neg (by decide), if_neg (by decide), if_neg (by decide)]

theorem arith11z {a b : TValue} (ha : vVal a = true) (hb : vVal b = true) (ka : vHas a = true) (kb : vHas b = true) (h0 : vNum b = 0) : i_Arithmetic 11 a b = some (⟨0, 0, [], 0⟩, 8) := by
  rw [arith_head (by decide) ha hb ka kb, if_pos ⟨rfl, h0⟩]

theorem wrap_u64 {n : Nat} (h : n < 18446744073709551616) : IntKind.u64.wrap (n : Int) = (n : Int) := by
  unfold IntKind.wrap
  simp [IntKind.bits, IntKind.signed]
  omega

theorem i_magnitude_ok {n : Int} (h : -1000000000000 ≤ n ∧ n ≤ 1000000000000) : i_magnitude n = some (n.natAbs : Int) := by
  rw [i_magnitude_eq, w64_of (by omega) (by omega)]
  congr 1
  have e : (if 0 - n > n then 0 - n else n) = (n.natAbs : Int) := by split <;> omega
  rw [e, wrap_u64 (by omega)]

theorem shr32 (n : Nat) : shr .u64 (n : Int) 32 = some ((n / 4294967296 : Nat) : Int) := by
  unfold shr
  rw [if_neg (by decide)]
  congr 1
  have e : (2 : Int) ^ (min (Int.toNat 32) Go.IntKind.u64.bits) = ((4294967296 : Nat) : Int) := by decide
  rw [e, Int.fdiv_eq_ediv_of_nonneg _ (by omega)]
  rfl

theorem and32 {n : Nat} (h : n < 18446744073709551616) : bitsOp .and .u64 (n : Int) 4294967295 = ((n % 4294967296 : Nat) : Int) := by
  have e : (BitVec.ofInt IntKind.u64.bits (n : Int) &&& BitVec.ofInt IntKind.u64.bits 4294967295).toNat = n % 4294967296 := by
    rw [BitVec.toNat_and, BitVec.toNat_ofInt, BitVec.toNat_ofInt]
    have e1 : ((n : Int) % ((2 ^ IntKind.u64.bits : Nat) : Int)).toNat = n := by
      have : (2 ^ IntKind.u64.bits : Nat) = 18446744073709551616 := by decide
      rw [this]; omega
    have e2 : ((4294967295 : Int) % ((2 ^ IntKind.u64.bits : Nat) : Int)).toNat = 2 ^ 32 - 1 := by decide
    rw [e1, e2, Nat.and_two_pow_sub_one_eq_mod]
  show IntKind.u64.wrap _ = _
  rw [e]
  exact wrap_u64 (by omega)

theorem mul64_small {u v : Nat} (hu : u ≤ 1000000000000) (hv : v ≤ 1000000000000) (h : u * v ≤ 1000000000000) : math_bits_Mul64 (u : Int) (v : Int) = some (0, ((u * v : Nat) : Int)) := by
  rw [math_bits_Mul64_eq]
  have du := Nat.div_add_mod u 4294967296
  have dv := Nat.div_add_mod v 4294967296
  generalize hu1 : u / 4294967296 = u1 at du
  generalize hu0 : u % 4294967296 = u0 at du
  generalize hv1 : v / 4294967296 = v1 at dv
  generalize hv0 : v % 4294967296 = v0 at dv
  have lu : u0 < 4294967296 := by omega
  have lv : v0 < 4294967296 := by omega
  have ex : u * v = 18446744073709551616 * (u1 * v1) + 4294967296 * (u1 * v0) + 4294967296 * (u0 * v1) + u0 * v0 := by
    rw [← du, ← dv, Nat.add_mul, Nat.mul_add, Nat.mul_add]
    have e1 : 4294967296 * u1 * (4294967296 * v1) = 18446744073709551616 * (u1 * v1) := by rw [Nat.mul_mul_mul_comm]
    have e2 : 4294967296 * u1 * v0 = 4294967296 * (u1 * v0) := Nat.mul_assoc ..
    have e3 : u0 * (4294967296 * v1) = 4294967296 * (u0 * v1) := Nat.mul_left_comm ..
    omega
  generalize hA : u1 * v1 = A at ex
  generalize hB : u1 * v0 = B at ex
  generalize hC : u0 * v1 = D at ex
  generalize hE : u0 * v0 = E at ex
  rw [shr32, shr32, and32 (by omega), and32 (by omega), hu1, hv1, hu0, hv0]
  simp only [Option.bind_some]
  have c1 : ((u0 : Int) * (v0 : Int)) = ((E : Nat) : Int) := by rw [← hE]; simp
  have c2 : ((u1 : Int) * (v0 : Int)) = ((B : Nat) : Int) := by rw [← hB]; simp
  have c3 : ((u0 : Int) * (v1 : Int)) = ((D : Nat) : Int) := by rw [← hC]; simp
  have c4 : ((u1 : Int) * (v1 : Int)) = ((A : Nat) : Int) := by rw [← hA]; simp
  have c5 : ((u : Int) * (v : Int)) = ((u * v : Nat) : Int) := by simp
  rw [c1, c2, c3, c4, c5, wrap_u64 (by omega), shr32]
  simp only [Option.bind_some]
  rw [wrap_u64 (n := B) (by omega), show ((B : Int) + ((E / 4294967296 : Nat) : Int)) = ((B + E / 4294967296 : Nat) : Int) by omega, wrap_u64 (by omega), shr32]
  simp only [Option.bind_some]
  rw [and32 (by omega), wrap_u64 (n := D) (by omega), show ((((B + E / 4294967296) % 4294967296 : Nat) : Int) + (D : Int)) = (((B + E / 4294967296) % 4294967296 + D : Nat) : Int) by omega, wrap_u64 (by omega), shr32]
  simp only [Option.bind_some]
  have z : A = 0 := by omega
  have z1 : (B + E / 4294967296) / 4294967296 = 0 := by omega
  have z2 : ((B + E / 4294967296) % 4294967296 + D) / 4294967296 = 0 := by omega
  rw [z, z1, z2, wrap_u64 (n := u * v) (by omega)]
  rfl

theorem i_product_small {x y : Int} (hx : -1000000000000 ≤ x ∧ x ≤ 1000000000000) (hy : -1000000000000 ≤ y ∧ y ≤ 1000000000000) (h : x.natAbs * y.natAbs ≤ 1000000000000) : i_product x y = some (⟨2, x * y, [], 0⟩, 0) := by
  have hp : (x * y).natAbs ≤ 1000000000000 := by rw [Int.natAbs_mul]; exact h
  rw [i_product_eq, i_magnitude_ok hx, i_magnitude_ok hy]
  simp only [Option.bind_some]
  rw [mul64_small (by omega) (by omega) h]
  simp only [Option.bind_some]
  rw [if_neg (show ¬ decide ((0 : Int) > 0) = true by simp), if_neg (by simp; omega), w64_of (by omega) (by omega), i_bounded_ok (by omega), if_pos (by simp; omega)]
  rfl

theorem l_FnConversions_L20_ok {a b : TValue} (ha : vVal a = true) (hb : vVal b = true) (ka : vHas a = true) (kb : vHas b = true) :
    l_FnConversions_L20 (vNum a) (vNum b) a.fKind a.fNum a.fText a.fRef b.fKind b.fNum b.fText b.fRef = some true := by
  have ea : TValue.mk a.fKind a.fNum a.fText a.fRef = a := rfl
  have eb : TValue.mk b.fKind b.fNum b.fText b.fRef = b := rfl
  have ra := has_rng ha ka
  have rb := has_rng hb kb
  rw [l_FnConversions_L20_eq, ea, eb]
  by_cases h0 : vNum b = 0
  · rw [arith11z ha hb ka kb h0]
    simp only [Option.bind_some]
    rw [if_pos (by simpa using h0)]
    rfl
  · rw [arith11 ha hb ka kb h0]
    have hX : ∃ X, vNum a = X := ⟨_, rfl⟩
    have hY : ∃ Y, vNum b = Y := ⟨_, rfl⟩
    obtain ⟨X, hX⟩ := hX
    obtain ⟨Y, hY⟩ := hY
    rw [hX] at ra
    rw [hY] at rb h0
    rw [hX, hY]
    have hn : (X.tdiv Y).natAbs = X.natAbs / Y.natAbs := Int.natAbs_tdiv X Y
    have hle := Nat.div_le_self X.natAbs Y.natAbs
    have hq : quo .i64 X Y = some (X.tdiv Y) := by
      unfold quo
      rw [if_neg h0]
      congr 1
      have e : IntKind.i64.wrap (X.tdiv Y) = w64 (X.tdiv Y) := rfl
      rw [e, w64_of (by omega) (by omega)]
    rw [hq]
    simp only [Option.bind_some]
    rw [i_bounded_ok (by omega), if_pos (by simp; omega)]
    simp only [Option.bind_some]
    rw [if_neg (by simpa using h0), arith10 (by rw [vVal_int]; simp; omega) hb (vHas_int _) kb, vNum_int, hY]
    have hm : (X.tdiv Y).natAbs * Y.natAbs ≤ X.natAbs := by rw [hn]; exact Nat.div_mul_le_self _ _
    rw [i_product_small (by omega) rb (by omega)]
    simp only [Option.bind_some]
    have hr : X - X.tdiv Y * Y = X.tmod Y := by
      have := Int.tdiv_mul_add_tmod X Y
      omega
    have hmn : (X.tmod Y).natAbs = X.natAbs % Y.natAbs := Int.natAbs_tmod X Y
    have hlt : X.natAbs % Y.natAbs < Y.natAbs := Nat.mod_lt _ (by omega)
    have hsg : X.tmod Y ≠ 0 → (X.tmod Y < 0 ↔ X < 0) := by
      intro hne
      rcases Int.le_total 0 X with hx | hx
      · have := Int.tmod_nonneg Y hx
        omega
      · have := Int.tmod_nonneg Y (show 0 ≤ -X by omega)
        rw [Int.neg_tmod] at this
        have hx0 : X ≠ 0 := by
          rintro rfl
          simp at hne
        omega
    have hw : w64 (X - X.tdiv Y * Y) = X.tmod Y := by rw [hr, w64_of (by omega) (by omega)]
    simp only [hw]
    rw [if_pos (by rfl), if_pos (by rfl), w64_of (n := 0 - X.tmod Y) (by omega) (by omega), w64_of (n := 0 - Y) (by omega) (by omega)]
    generalize X.tmod Y = m at hmn hsg
    have hmax : decide ((if decide (0 - m > m) = true then 0 - m else m) < if decide (0 - Y > Y) = true then 0 - Y else Y) = true := by
      simp only [decide_eq_true_eq]
      split <;> split <;> omega
    by_cases hm0 : m = 0
    · subst hm0
      have q1 : ((0 : Int) != 0) = false := by decide
      have q2 : (decide ((0 : Int) < 0) == false) = true := by decide
      have q3 : decide ((0 : Int) < 0) = false := by decide
      simp only [q1, q2, q3, Bool.false_eq_true, if_false, if_true]
      simpa using hmax
    · rw [if_pos (by simpa using hm0), if_pos (by
        have := hsg hm0
        rw [beq_iff_eq, decide_eq_decide]; exact this)]
      simpa using hmax

theorem l_FnConversions_ok {x : List Int} (h : BytesOk x) : l_FnConversions x = some true := by
  rw [l_FnConversions_eq, l_c2Long_eq]
  simp only [Option.bind_some]
  split
  · rfl
  obtain ⟨⟨n, a, b⟩, ht⟩ := s_DrawArithmetic_ok h
  rw [ht]
  simp only [Option.bind_some, i_ToInteger_ok a, i_ToInteger_ok b, s_ToInteger_ok a, s_ToInteger_ok b]
  cases hA : vVal a && vHas a
  · simp
  cases hB : vVal b && vHas b
  · simp
  rw [Bool.and_eq_true_iff] at hA hB
  obtain ⟨ha, ka⟩ := hA
  obtain ⟨hb, kb⟩ := hB
  have ra := has_rng ha ka
  have rb := has_rng hb kb
  have ea : TValue.mk a.fKind a.fNum a.fText a.fRef = a := rfl
  have eb : TValue.mk b.fKind b.fNum b.fText b.fRef = b := rfl
  have hT : i_ToText ⟨2, vNum a, [], 0⟩ = some (Lib.itoa (vNum a), true) := by
    rw [i_ToText_eq, i_ValidValue_ok, vVal_int]
    have : (decide (-1000000000000 ≤ vNum a) && decide (vNum a ≤ 1000000000000)) = true := by simp; omega
    simp only [Option.bind_some, this, Bool.not_true, Bool.false_eq_true, if_false]
    rw [if_neg (by decide), if_pos (by decide), i_decimal_ok (by omega) (by omega)]
    rfl
  have z : (Int.ofNat 2) = 2 := rfl
  have z0 : (Int.ofNat 0) = 0 := rfl
  have z1 : (Int.ofNat 1) = 1 := rfl
  simp only [if_true, Bool.not_true, Bool.false_eq_true, if_false, z, z0, z1, hT, Option.bind_some, back_itoa ra]
  rw [if_neg (by simp), l_FnConversions_L15_eq, ea, eb, arith8 ha hb ka kb, w64_of (by omega) (by omega), i_bounded_ok (by omega)]
  simp only [Option.bind_some]
  by_cases hs : (decide (-1000000000000 ≤ vNum a + vNum b) && decide (vNum a + vNum b ≤ 1000000000000)) = true
  · rw [if_pos hs, if_pos (by rfl), arith9 (by rw [vVal_int]; exact hs) hb (vHas_int _) kb, vNum_int]
    rw [show vNum a + vNum b - vNum b = vNum a by omega, w64_of (by omega) (by omega), i_bounded_ok (by omega), if_pos (by simp; omega)]
    simp only [Option.bind_some]
    rw [if_neg (by simp), if_neg (by simp)]
    exact l_FnConversions_L20_ok ha hb ka kb
  · rw [if_neg hs, if_neg (by decide)]
    exact l_FnConversions_L20_ok ha hb ka kb

end Go.Dv.U
