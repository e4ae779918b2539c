/- Plain laws about these equations. -/
import Derived.Test.YtnglcnoofkibkaaDoorFnLinesEqa
set_option linter.all false
set_option linter.unusedVariables false
set_option linter.unusedSimpArgs false
namespace Go.Dv

open Go

/-- a text grows with each element -/
theorem cat_loop {α β γ : Type} {xs : List α} (hx : xs.length ≤ 9223372036854775807) {f : α → List β} {B : Nat} {J : Int → List β → Option γ}
    (hs : ∀ (i : Nat) (y : α) (a : List β), i < xs.length → y ∈ xs → idx xs (i : Int) = some y → w64 ((i : Int) + 1) = ((i + 1 : Nat) : Int) → a.length + (f y).length ≤ B → J (i : Int) a = J ((i + 1 : Nat) : Int) (a ++ f y))
    (hb : (xs.flatMap f).length ≤ B) : J 0 [] = J (xs.length : Int) (xs.flatMap f) := by
  have key := loop_ind hx (P := fun i l => ∀ a : List β, a.length + (l.flatMap f).length ≤ B → J (i : Int) a = J (xs.length : Int) (a ++ l.flatMap f)) (by
    intro a _
    simp) (by
    intro i y l _ hlt hy hi hw ih a ha
    simp only [List.flatMap_cons, List.length_append] at ha
    rw [hs i y a hlt hy hi hw (by omega), ih (a ++ f y) (by simp only [List.length_append]; omega)]
    simp only [List.flatMap_cons, List.append_assoc]) [] (by simpa using hb)
  simpa using key

theorem bytesOf_ib (s : List UInt8) : bytesOf (s.map ib) = some s := by
  unfold bytesOf
  have h : ((s.map ib).all fun n => decide (0 ≤ n) && decide (n < 256)) = true := by
    simp only [List.all_map, List.all_eq_true]
    intro x _
    simp [ib_lt x, ib_nonneg x]
  rw [if_pos h, List.map_map]
  congr 1
  conv => rhs; rw [← List.map_id s]
  apply List.map_congr_left
  intro x _
  simp only [Function.comp, id, ib, Int.ofNat_eq_natCast, Int.toNat_natCast]
  exact UInt8.ofNat_toNat

end Go.Dv

namespace Go.Dv

open Go

/-- a text cut at a byte -/
def spl (c : UInt8) : List UInt8 → List (List UInt8)
  | [] => [[]]
  | b :: l => if b == c then [] :: spl c l else match spl c l with
    | [] => [[b]]
    | x :: r => (b :: x) :: r

theorem spl_ne (c : UInt8) : ∀ s, spl c s ≠ []
  | [] => by simp [spl]
  | b :: l => by
    simp only [spl]
    split
    · simp
    · split <;> simp

theorem split_spl (c : UInt8) : ∀ s : List UInt8, Lib.splitK [c] 0 (s.count c) s = spl c s
  | [] => by simp [Lib.splitK, spl]
  | b :: l => by
    have ih := split_spl c l
    by_cases h : b = c
    · subst h
      have hix : Lib.index (b :: l) [b] = 0 := by rw [Lib.index]; simp [List.isPrefixOf]
      rw [List.count_cons_self, Lib.splitK, hix]
      simp [spl, ih]
    · have hp : ([c] : List UInt8).isPrefixOf (b :: l) = false := by simp [List.isPrefixOf, Ne.symm h]
      have hix : Lib.index (b :: l) [c] = if Lib.index l [c] == -1 then -1 else Lib.index l [c] + 1 := by rw [Lib.index, hp]; simp
      rw [List.count_cons_of_ne (by simpa using h)]
      simp only [spl, beq_iff_eq, h, if_false]
      rw [← ih]
      cases hk : l.count c with
      | zero => simp [Lib.splitK]
      | succ k =>
        have hm : ¬ Lib.index l [c] = -1 := by
          intro e
          have := Lib.count_miss e
          rw [Lib.count_one, hk] at this
          omega
        have hge := Lib.index_ge l [c]
        obtain ⟨j, hj⟩ : ∃ j : Nat, Lib.index l [c] = j := ⟨(Lib.index l [c]).toNat, by omega⟩
        have e1 : (Lib.index l [c] == -1) = false := by simpa using hm
        have e2 : (Lib.index (b :: l) [c] == -1) = false := by rw [hix, e1]; simp; omega
        have e3 : Lib.index (b :: l) [c] = ((j + 1 : Nat) : Int) := by rw [hix, e1, hj]; simp
        have e4 : ((j : Int) == -1) = false := by simp
        have e5 : (((j + 1 : Nat) : Int) == -1) = false := by simp; omega
        simp only [Lib.splitK, e3, hj, e4, e5, Bool.false_eq_true, if_false, Int.toNat_natCast]
        simp

theorem splitS_ok {s : List UInt8} (h : s.length < 4294967281) (c : UInt8) : splitS s [c] = some (spl c s) := by
  unfold splitS
  rw [if_pos ⟨h, by simp⟩, Lib.split, Lib.count_one, split_spl]

end Go.Dv

namespace Go.Dv.U

open Go Go.Dv Go.Proofs

/-- a text without the newline at its end -/
def trim10 (s : List UInt8) : List UInt8 := if s.drop (s.length - 1) = [10] then s.take (s.length - 1) else s

theorem i_SplitLines_ok {s : List UInt8} (h : s.length < 4294967281) : i_SplitLines s = some (if s == [] then [] else spl 10 (trim10 s)) := by
  rw [i_SplitLines_eq]
  by_cases hn : s = []
  · subst hn; rfl
  · have hl : 1 ≤ s.length := by cases s with | nil => exact absurd rfl hn | cons _ _ => simp
    have e : w64 (len s - len ([10] : List UInt8)) = ((s.length - 1 : Nat) : Int) := by
      rw [w64_of] <;> simp only [len_eq, List.length_singleton] <;> omega
    have et : strings_TrimSuffix s [10] = some (trim10 s) := by
      rw [strings_TrimSuffix_eq, internal_stringslite_TrimSuffix_eq, internal_stringslite_HasSuffix_eq]
      have g1 : decide (len s ≥ len ([10] : List UInt8)) = true := by simp only [len_eq, List.length_singleton, decide_eq_true_eq]; omega
      simp only [g1, if_true, e, Option.getD_none, Option.getD_some]
      rw [show len s = ((s.length : Nat) : Int) from len_eq s, cut_of (by omega) (by omega)]
      simp only [Option.bind_some, List.take_length]
      unfold trim10
      by_cases c : s.drop (s.length - 1) = [10]
      · simp only [c, beq_self_eq_true, if_true]
        have := cut_of (xs := s) (a := 0) (b := s.length - 1) (by omega) (by omega)
        simp only [Int.natCast_zero] at this
        rw [this]
        simp
      · have c' : (s.drop (s.length - 1) == [10]) = false := by simpa using c
        simp only [c', Bool.false_eq_true, if_false, c, Option.bind_some]
    have hs : (s == []) = false := by simpa using hn
    simp only [hs, Bool.false_eq_true, if_false, et, Option.bind_some]
    rw [splitS_ok]
    · rfl
    · unfold trim10; split
      · simp only [List.length_take]; omega
      · exact h

end Go.Dv.U

namespace Go.Dv.U

open Go Go.Dv Go.Proofs

def isPl (b : UInt8) : Bool := decide (32 ≤ ib b) && decide (ib b ≤ 126)

def allPl (s : List UInt8) : Bool := s.all isPl

def hasB (c : Int) (s : List UInt8) : Bool := s.any fun b => ib b == c

theorem i_isPlain_ok (b : Int) : i_isPlain b = some (decide (32 ≤ b) && decide (b ≤ 126)) := by
  rw [i_isPlain_eq]; grind

theorem i_isPlainText_ok {s : List UInt8} (h : s.length ≤ 9223372036854775807) : i_isPlainText s = some (allPl s) := by
  rw [i_isPlainText_eq, i_areAll_byte__i_isPlain_eq]
  have := all_loop (xs := s.map ib) (by simpa using h) (F := i_isPlain) (p := fun b => decide (32 ≤ b) && decide (b ≤ 126)) (J := i_areAll_byte_L2__i_isPlain (s.map ib) (len (s.map ib))) (fun i => by rw [i_areAll_byte_L2__i_isPlain_eq]) (fun y _ => i_isPlain_ok y)
  rw [this, List.all_map]
  rfl

def isPr (x : Bool) (b : UInt8) : Bool := isPl b || (x && ib b == 10)

theorem s_l01Printable_ok' {s : List UInt8} (h : s.length ≤ 9223372036854775807) (x : Bool) : s_l01Printable s x = some (s.all (isPr x)) := by
  rw [s_l01Printable_eq]
  refine loop_ind (xs := s) h (P := fun i l => s_l01Printable_L2 s x i = some (l.all (isPr x))) ?_ ?_
  · rw [s_l01Printable_L2_eq]; simp [len_eq]
  · intro i y l _ hlt hy hi hw ih
    rw [s_l01Printable_L2_eq, hi, if_pos (by simp [len_eq, hlt])]
    simp only [Option.bind_some, s_l01Printable_L5_eq, s_l01Printable_L3_eq, hw, ih, List.all_cons, isPr, isPl]
    by_cases h1 : ib y < 32
    · have h3 : ¬ (32 ≤ ib y) := by omega
      cases x <;> by_cases h2 : ib y = 10 <;> simp [h1, h2, h3]
    · have h3 : 32 ≤ ib y := by omega
      by_cases h2 : ib y > 126
      · have h4 : ¬ (ib y ≤ 126) := by omega
        have h5 : ¬ ib y = 10 := by omega
        cases x <;> simp [h1, h2, h3, h4, h5]
      · have h4 : ib y ≤ 126 := by omega
        cases x <;> simp [h1, h2, h3, h4]

theorem index_one (c : UInt8) : ∀ s : List UInt8, decide (0 ≤ Lib.index s [c]) = hasB (ib c) s
  | [] => by simp [Lib.index, hasB]
  | b :: l => by
    have ih := index_one c l
    have hge := Lib.index_ge l [c]
    unfold Lib.index
    have hp : [c].isPrefixOf (b :: l) = (ib b == ib c) := by
      rw [Bool.eq_iff_iff]
      simp only [List.isPrefixOf, Bool.and_true, beq_iff_eq, ib_inj]
      exact eq_comm
    have hh : hasB (ib c) (b :: l) = (ib b == ib c || hasB (ib c) l) := rfl
    rw [hp, hh, ← ih]
    cases (ib b == ib c)
    · simp only [Bool.false_eq_true, if_false, Bool.false_or]
      split
      · rename_i h; rw [beq_iff_eq] at h; rw [h]
      · rename_i h
        have h : ¬ Lib.index l [c] = -1 := by simpa using h
        rw [Bool.eq_iff_iff, decide_eq_true_eq, decide_eq_true_eq]; omega
    · simp

end Go.Dv.U

namespace Go.Dv.U

open Go Go.Dv Go.Proofs

def SrcOk (c : List Int) (a B : Int) : Prop := (∀ y ∈ c, 0 ≤ y ∧ y ≤ 255) ∧ c.length ≤ 9223372036854775807 ∧ 0 ≤ a ∧ a ≤ B

def Dr {α : Type} (o : Option (α × ((List Int × Int × Int × Unit) × Unit))) (B : Int) (P : α → Prop) : Prop := ∃ v c a s, o = some (v, ((c, a, s, ()), ())) ∧ SrcOk c a B ∧ P v

theorem SrcOk.le {c : List Int} {a B B' : Int} (h : SrcOk c a B) (hb : B ≤ B') : SrcOk c a B' := ⟨h.1, h.2.1, h.2.2.1, by have := h.2.2.2; omega⟩

theorem Dr.le {α : Type} {o : Option (α × ((List Int × Int × Int × Unit) × Unit))} {B B' : Int} {P Q : α → Prop} (h : Dr o B P) (hb : B ≤ B') (hq : ∀ v, P v → Q v) : Dr o B' Q := by
  obtain ⟨v, c, a, s, h1, h2, h3⟩ := h
  exact ⟨v, c, a, s, h1, h2.le hb, hq v h3⟩

/-- one draw behind another -/
theorem Dr.bind {α β : Type} {o : Option (α × ((List Int × Int × Int × Unit) × Unit))} {B B' : Int} {P : α → Prop} {Q : β → Prop} {k : α × ((List Int × Int × Int × Unit) × Unit) → Option (β × ((List Int × Int × Int × Unit) × Unit))}
    (h : Dr o B P) (hk : ∀ v c a s, SrcOk c a B → P v → Dr (k (v, ((c, a, s, ()), ()))) B' Q) : Dr (o.bind k) B' Q := by
  obtain ⟨v, c, a, s, rfl, h2, h3⟩ := h
  exact hk v c a s h2 h3

theorem Dr.some {α : Type} {v : α} {c : List Int} {a s B : Int} {P : α → Prop} (h : SrcOk c a B) (hp : P v) : Dr (Option.some (v, ((c, a, s, ()), ()))) B P := ⟨v, c, a, s, rfl, h, hp⟩

theorem and255 (y : Int) : 0 ≤ w64 (bitsOp Go.BinOp.and Go.IntKind.u64 y 255) ∧ w64 (bitsOp Go.BinOp.and Go.IntKind.u64 y 255) ≤ 255 := by
  have h : (BitVec.ofInt IntKind.u64.bits y &&& BitVec.ofInt IntKind.u64.bits 255).toNat ≤ 255 := by
    rw [BitVec.toNat_and]
    exact Nat.le_trans Nat.and_le_right (by decide)
  have e : bitsOp Go.BinOp.and Go.IntKind.u64 y 255 = ((BitVec.ofInt IntKind.u64.bits y &&& BitVec.ofInt IntKind.u64.bits 255).toNat : Int) := by
    show IntKind.u64.wrap _ = _
    generalize (BitVec.ofInt IntKind.u64.bits y &&& BitVec.ofInt IntKind.u64.bits 255).toNat = m at h
    unfold IntKind.wrap
    simp [IntKind.bits, IntKind.signed]
    omega
  rw [e, w64_of (by omega) (by omega)]
  omega

theorem s_l00Src_next_ok {c : List Int} {a s B : Int} (h : SrcOk c a B) (hB : B ≤ 4611686018427387904) : Dr (s_l00Src_next c a s) (B + 1) (fun v => 0 ≤ v ∧ v ≤ 255) := by
  obtain ⟨h1, h2, h3, h4⟩ := h
  have hs : SrcOk c (w64 (a + 1)) (B + 1) := ⟨h1, h2, by rw [w64_of (by omega) (by omega)]; omega, by rw [w64_of (by omega) (by omega)]; omega⟩
  rw [s_l00Src_next_eq]
  have hsh : ∀ x : Int, shr Go.IntKind.u64 x 40 = some (x.fdiv (2 ^ (min (Int.toNat 40) Go.IntKind.u64.bits))) := fun x => rfl
  simp only [hsh, Option.bind_some]
  by_cases hlt : a < c.length
  · obtain ⟨n, rfl⟩ : ∃ n : Nat, a = n := ⟨a.toNat, by omega⟩
    have hn : n < c.length := by omega
    rw [if_pos (by simpa [len_eq] using hlt), idx_nat, List.getElem?_eq_getElem hn]
    have hy := h1 _ (List.getElem_mem hn)
    simp only [Option.bind_some]
    split
    · exact Dr.some hs (by rw [w64_of (by omega) (by omega)]; exact hy)
    · exact Dr.some hs (and255 _)
  · rw [if_neg (by simpa [len_eq] using hlt)]
    split
    · exact Dr.some hs (by omega)
    · exact Dr.some hs (and255 _)

theorem rem_of {x n : Int} (hx : 0 ≤ x) (hn : 1 < n) : ∃ y, rem x n = some y ∧ 0 ≤ y ∧ y < n := by
  unfold rem
  rw [if_neg (by omega)]
  refine ⟨_, rfl, ?_, ?_⟩
  · rw [Int.tmod_eq_emod_of_nonneg hx]; exact Int.emod_nonneg _ (by omega)
  · rw [Int.tmod_eq_emod_of_nonneg hx]; exact Int.emod_lt_of_pos _ (by omega)

theorem s_l00Src_pick_ok (n : Int) {c : List Int} {a s B : Int} (h : SrcOk c a B) (hB : B ≤ 4611686018427387000) : Dr (s_l00Src_pick n c a s) (B + 2) (fun v => 0 ≤ v ∧ (1 < n → v < n) ∧ (n ≤ 1 → v = 0)) := by
  rw [s_l00Src_pick_eq]
  by_cases h1 : n ≤ 1
  · rw [if_pos (by simpa using h1)]
    exact Dr.some (h.le (by omega)) ⟨by omega, fun h => by omega, fun _ => rfl⟩
  rw [if_neg (by simpa using h1)]
  refine (s_l00Src_next_ok h (by omega)).bind fun v c2 a2 s2 h2 hv => ?_
  simp only
  by_cases h3 : n > 200
  · rw [if_pos (by simpa using h3)]
    refine (s_l00Src_next_ok h2 (by omega)).bind fun v2 c3 a3 s3 h4 hv2 => ?_
    simp only
    rw [w64_of (n := v * 256) (by omega) (by omega), w64_of (by omega) (by omega)]
    obtain ⟨y, hy, y0, y1⟩ := rem_of (x := v * 256 + v2) (n := n) (by omega) (by omega)
    rw [hy]
    exact Dr.some (h4.le (by omega)) ⟨y0, fun _ => y1, fun h => by omega⟩
  · rw [if_neg (by simpa using h3)]
    obtain ⟨y, hy, y0, y1⟩ := rem_of (x := v) (n := n) (by omega) (by omega)
    rw [hy]
    exact Dr.some (h2.le (by omega)) ⟨y0, fun _ => y1, fun h => by omega⟩

theorem s_l00Src_one_ok (n : Int) {c : List Int} {a s B : Int} (h : SrcOk c a B) (hB : B ≤ 4611686018427387000) : Dr (s_l00Src_one n c a s) (B + 2) (fun _ => True) := by
  rw [s_l00Src_one_eq]
  exact (s_l00Src_pick_ok n h hB).bind fun v c2 a2 s2 h2 hv => Dr.some h2 trivial

theorem pick_idx {α : Type} {xs : List α} {v : Int} (hv : 0 ≤ v ∧ (1 < (len xs) → v < len xs) ∧ (len xs ≤ 1 → v = 0)) (hx : xs ≠ []) : ∃ y, idx xs v = some y ∧ y ∈ xs := by
  have hp : 0 < xs.length := List.length_pos_iff.2 hx
  rw [len_eq] at hv
  have hlt : v.toNat < xs.length := by
    by_cases h : (1 : Int) < xs.length
    · have := hv.2.1 h; omega
    · have := hv.2.2 (by omega); omega
  exact ⟨xs[v.toNat], by rw [idx_of hv.1, List.getElem?_eq_getElem hlt], List.getElem_mem hlt⟩

theorem s_l00Src_text_ok (xs : List (List UInt8)) (hx : xs ≠ []) {c : List Int} {a s B : Int} (h : SrcOk c a B) (hB : B ≤ 4611686018427387000) : Dr (s_l00Src_text xs c a s) (B + 2) (fun v => v ∈ xs) := by
  rw [s_l00Src_text_eq]
  refine (s_l00Src_pick_ok _ h hB).bind fun v c2 a2 s2 h2 hv => ?_
  obtain ⟨y, hy, hm⟩ := pick_idx hv hx
  simp only [hy, Option.bind_some]
  exact Dr.some h2 hm

end Go.Dv.U

namespace Go.Dv

open Go

def addHd (cur : List UInt8) : List (List UInt8) → List (List UInt8)
  | [] => [cur]
  | x :: r => (cur ++ x) :: r

theorem spl_cons (c b : UInt8) (l : List UInt8) : spl c (b :: l) = if b = c then [] :: spl c l else addHd [b] (spl c l) := by
  simp only [spl, beq_iff_eq]
  split
  · rfl
  · cases spl c l <;> rfl

theorem addHd_add (a b : List UInt8) (L : List (List UInt8)) : addHd (a ++ b) L = addHd a (addHd b L) := by cases L <;> simp [addHd]

theorem addHd_nil {L : List (List UInt8)} (h : L ≠ []) : addHd [] L = L := by cases L with | nil => exact absurd rfl h | cons => rfl

theorem spl_snoc (c : UInt8) : ∀ s : List UInt8, spl c (s ++ [c]) = spl c s ++ [[]]
  | [] => by simp [spl]
  | b :: s => by
    rw [List.cons_append, spl_cons, spl_cons, spl_snoc c s]
    split
    · rfl
    · have := spl_ne c s
      cases h : spl c s with
      | nil => exact absurd h this
      | cons x r => rfl

theorem spl_last (c : UInt8) {b : UInt8} (hb : b ≠ c) : ∀ s : List UInt8, ∃ M x, spl c s = M ++ [x] ∧ spl c (s ++ [b]) = M ++ [x ++ [b]]
  | [] => ⟨[], [], rfl, by simp [spl, hb]⟩
  | a :: s => by
    obtain ⟨M, x, h1, h2⟩ := spl_last c hb s
    rw [List.cons_append, spl_cons, spl_cons, h1, h2]
    split
    · exact ⟨[] :: M, x, rfl, rfl⟩
    · cases M with
      | nil => exact ⟨[], a :: x, rfl, rfl⟩
      | cons m M => exact ⟨(a :: m) :: M, x, rfl, rfl⟩

theorem spl_none (c : UInt8) : ∀ s : List UInt8, (∀ b ∈ s, b ≠ c) → spl c s = [s]
  | [], _ => rfl
  | b :: s, h => by
    rw [spl_cons, if_neg (h b (by simp)), spl_none c s fun x hx => h x (by simp [hx])]
    rfl

theorem spl_app (c : UInt8) : ∀ (p r : List UInt8), (∀ b ∈ p, b ≠ c) → spl c (p ++ c :: r) = p :: spl c r
  | [], r, _ => by rw [List.nil_append, spl_cons, if_pos rfl]
  | b :: p, r, h => by
    rw [List.cons_append, spl_cons, if_neg (h b (by simp)), spl_app c p r fun x hx => h x (by simp [hx])]
    rfl

theorem spl_mem (c : UInt8) : ∀ (s : List UInt8), ∀ p ∈ spl c s, ∀ b ∈ p, b ≠ c ∧ b ∈ s
  | [], p, hp, b, hb => by simp [spl] at hp; subst hp; cases hb
  | a :: s, p, hp, b, hb => by
    rw [spl_cons] at hp
    split at hp
    · rcases List.mem_cons.1 hp with e | e
      · subst e; cases hb
      · have := spl_mem c s p e b hb; exact ⟨this.1, by simp [this.2]⟩
    · rename_i hne
      cases hs : spl c s with
      | nil => exact absurd hs (spl_ne c s)
      | cons x r =>
        rw [hs] at hp
        simp only [addHd, List.mem_cons] at hp
        rcases hp with e | e
        · subst e
          rcases List.mem_append.1 hb with h | h
          · have : b = a := by simpa using h
            subst this; exact ⟨hne, by simp⟩
          · have := spl_mem c s x (by rw [hs]; simp) b h; exact ⟨this.1, by simp [this.2]⟩
        · have := spl_mem c s p (by rw [hs]; simp [e]) b hb; exact ⟨this.1, by simp [this.2]⟩

theorem spl_len (c : UInt8) : ∀ s : List UInt8, (spl c s).length ≤ s.length + 1
  | [] => by simp [spl]
  | b :: s => by
    have := spl_len c s
    rw [spl_cons]
    split
    · simp; omega
    · cases h : spl c s with
      | nil => exact absurd h (spl_ne c s)
      | cons x r => rw [h] at this; simp [addHd] at this ⊢; omega

theorem spl_each (c : UInt8) : ∀ s : List UInt8, ∀ p ∈ spl c s, p.length ≤ s.length
  | [], p, hp => by simp [spl] at hp; subst hp; simp
  | b :: s, p, hp => by
    rw [spl_cons] at hp
    split at hp
    · rcases List.mem_cons.1 hp with e | e
      · subst e; simp
      · have := spl_each c s p e; simp; omega
    · cases hs : spl c s with
      | nil => exact absurd hs (spl_ne c s)
      | cons x r =>
        rw [hs] at hp
        simp only [addHd, List.mem_cons] at hp
        rcases hp with e | e
        · subst e; have := spl_each c s x (by rw [hs]; simp); simp; omega
        · have := spl_each c s p (by rw [hs]; simp [e]); simp; omega

end Go.Dv

namespace Go.Dv.U

open Go Go.Dv Go.Proofs

/-- dropped bytes -/
def noNl (s : List UInt8) : List UInt8 := s.filter fun b => !(b == 10)

theorem noNl_none : ∀ s : List UInt8, hasB 10 s = false → noNl s = s := by
  intro s h
  unfold noNl
  rw [List.filter_eq_self]
  intro b hb
  have : ib b ≠ 10 := fun e => by
    have : hasB 10 s = true := List.any_eq_true.2 ⟨b, hb, by simpa using e⟩
    rw [h] at this; cases this
  simp only [Bool.not_eq_true', beq_eq_false_iff_ne, ne_eq]
  intro e; subst e; exact this (by decide)

theorem split10 : ∀ (s : List UInt8), hasB 10 s = true → ∃ a r, s = a ++ 10 :: r ∧ hasB 10 a = false
  | [], h => by simp [hasB] at h
  | b :: s, h => by
    by_cases hb : ib b = 10
    · have : b = 10 := ib_inj.1 (hb.trans (by decide))
      subst this
      exact ⟨[], s, rfl, rfl⟩
    · have h2 : hasB 10 s = true := by
        simp only [hasB, List.any_cons, Bool.or_eq_true] at h
        rcases h with h | h
        · exact absurd (by simpa using h) hb
        · exact h
      obtain ⟨a, r, e, h3⟩ := split10 s h2
      refine ⟨b :: a, r, by rw [e]; rfl, ?_⟩
      simp only [hasB, List.any_cons, Bool.or_eq_false_iff]
      exact ⟨by simpa using hb, h3⟩

theorem index10_none {s : List UInt8} (h : hasB 10 s = false) : Lib.index s [10] = -1 := by
  have h1 := index_one 10 s
  have e : ib 10 = 10 := by decide
  rw [e, h] at h1
  have := Lib.index_ge s [10]
  simp only [decide_eq_false_iff_not] at h1
  omega

theorem index10_some {a r : List UInt8} (h : hasB 10 a = false) : Lib.index (a ++ 10 :: r) [10] = (a.length : Int) := by
  refine Lib.index_first (by simp) ?_ ?_
  · simp [Lib.occAt]
  · intro j hj
    simp only [Lib.occAt]
    rw [List.drop_append_of_le_length (by omega), List.drop_eq_getElem_cons hj]
    simp only [List.cons_append, List.isPrefixOf, Bool.and_true]
    rw [beq_eq_false_iff_ne]
    intro e
    have : hasB 10 a = true := by
      simp only [hasB, List.any_eq_true]
      exact ⟨a[j], List.getElem_mem hj, by rw [← e]; decide⟩
    rw [h] at this; cases this

theorem replaceK10 : ∀ (k : Nat) (s : List UInt8), Lib.count s [10] ≤ k → Lib.replaceK [10] [] k s = noNl s
  | 0, s, h => by
    cases hb : hasB 10 s with
    | false => rw [noNl_none s hb]; rfl
    | true =>
      obtain ⟨a, r, rfl, h3⟩ := split10 s hb
      have := Lib.count_hit (sub := [10]) (by simp) (index10_some (r := r) h3)
      omega
  | k + 1, s, h => by
    cases hb : hasB 10 s with
    | false => rw [noNl_none s hb, Lib.replaceK, index10_none hb]; rfl
    | true =>
      obtain ⟨a, r, rfl, h3⟩ := split10 s hb
      have hi := index10_some (r := r) h3
      have hc := Lib.count_hit (sub := [10]) (by simp) hi
      rw [Lib.replaceK_hit _ _ _ _ _ hi]
      have e1 : (a ++ 10 :: r).take a.length = a := by simp
      have e2 : (a ++ 10 :: r).drop (a.length + ([10] : List UInt8).length) = r := by simp [List.drop_append]
      rw [e2] at hc
      rw [e1, e2, replaceK10 k r (by omega)]
      have e3 : noNl a = a := noNl_none a h3
      unfold noNl at e3 ⊢
      rw [List.filter_append, e3]
      simp

theorem replaceAll10 (s : List UInt8) : Lib.replaceAll s [10] [] = noNl s := by
  unfold Lib.replaceAll Lib.replace
  rw [if_neg (by decide)]
  exact replaceK10 _ s (by unfold Lib.replaceNum; rw [if_pos (by left; decide)]; exact Nat.le_refl _)

def linesOf (s : List UInt8) : List (List UInt8) := if s = [] then [] else spl 10 (trim10 s)

theorem i_lines_ok {s : List UInt8} (h : s.length < 4294967281) : i_SplitLines s = some (linesOf s) := by
  rw [i_SplitLines_ok h]
  congr 1
  unfold linesOf
  by_cases e : s = [] <;> simp [e]

theorem s_l01Cut_ok {s : List UInt8} (h : s.length ≤ 1000000) : s_l01Cut s 10 = some (spl 10 s) := by
  rw [s_l01Cut_eq]
  have key := loop_ind (xs := s) (by omega) (P := fun i l => ∀ (f : Nat) (o : List (List UInt8)), f ≤ i → i ≤ s.length → o.length ≤ i → s.drop i = l → s_l01Cut_L4 s 10 (f : Int) (i : Int) o = some (o ++ addHd ((s.take i).drop f) (spl 10 l))) (by
    intro f o hf _ ho _
    rw [s_l01Cut_L4_eq]
    have hc : decide ((s.length : Int) < len s) = false := by simp [len_eq]
    simp only [hc, Bool.false_eq_true, if_false, Option.getD_none]
    rw [show len s = ((s.length : Nat) : Int) from len_eq s, cut_of (by omega) (by omega)]
    simp only [Option.bind_some]
    rw [app_of (by simp; omega)]
    simp [spl, addHd]) (by
    intro i y l hd hlt hy hi hw ih f o hf hle ho _
    have hd2 : s.drop (i + 1) = l := by
      have := List.drop_eq_getElem_cons hlt
      rw [hd] at this
      exact (List.cons.inj this).2.symm
    have hy2 : s[i] = y := by
      have := List.drop_eq_getElem_cons hlt
      rw [hd] at this
      exact (List.cons.inj this).1.symm
    rw [s_l01Cut_L4_eq]
    have hc : decide ((i : Int) < len s) = true := by simp [len_eq, hlt]
    simp only [hc, if_true, hi, Option.bind_some, Option.getD_some, hw]
    rw [spl_cons]
    by_cases h10 : y = 10
    · subst h10
      have e : (ib 10 == (10 : Int)) = true := by decide
      simp only [e, if_true]
      rw [cut_of (by omega) (by omega)]
      simp only [Option.bind_some]
      rw [app_of (by simp; omega)]
      simp only [Option.bind_some]
      rw [ih (i + 1) _ (Nat.le_refl _) (by omega) (by simp; omega) hd2]
      have e2 : (s.take (i + 1)).drop (i + 1) = [] := by simp
      rw [e2, addHd_nil (spl_ne 10 l)]
      simp [addHd]
    · have e : (ib y == (10 : Int)) = false := by
        rw [beq_eq_false_iff_ne]; intro e; exact h10 (ib_inj.1 (e.trans (by decide)))
      simp only [e, Bool.false_eq_true, if_false, h10]
      rw [ih f o (by omega) (by omega) (by omega) hd2]
      have e2 : (s.take (i + 1)).drop f = (s.take i).drop f ++ [y] := by
        rw [List.take_succ_eq_append_getElem hlt, hy2, List.drop_append_of_le_length (by simp; omega)]
      rw [e2, addHd_add]) 0 [] (by omega) (by omega) (by simp) (by simp)
  have e0 : addHd [] (spl 10 s) = spl 10 s := addHd_nil (spl_ne 10 s)
  simpa [e0] using key

theorem trim10_snoc (s : List UInt8) : trim10 (s ++ [10]) = s := by
  unfold trim10
  have e : (s ++ [10]).length - 1 = s.length := by simp
  rw [e]
  simp

theorem linesOf_snoc (s : List UInt8) : linesOf (s ++ [10]) = spl 10 s := by
  unfold linesOf
  rw [if_neg (by simp), trim10_snoc]

theorem linesOf_other {s : List UInt8} {b : UInt8} (hb : b ≠ 10) : linesOf (s ++ [b]) = spl 10 (s ++ [b]) := by
  unfold linesOf trim10
  rw [if_neg (by simp)]
  have e : (s ++ [b]).length - 1 = s.length := by simp
  rw [e, if_neg]
  simp only [List.drop_left, List.cons.injEq, and_true]
  exact hb

theorem snoc_cases (s : List UInt8) : s = [] ∨ ∃ t b, s = t ++ [b] := by
  cases h : s.reverse with
  | nil => left; simpa using h
  | cons b t => right; exact ⟨t.reverse, b, by rw [← List.reverse_reverse s, h]; simp⟩

theorem s_SplitLines_ok {s : List UInt8} (h : s.length ≤ 1000000) : s_SplitLines s = some (linesOf s) := by
  rw [s_SplitLines_eq, s_l01Cut_ok h]
  simp only [Option.bind_some]
  have hl := spl_len 10 s
  have main : ∀ (M : List (List UInt8)) (x : List UInt8), spl 10 s = M ++ [x] → ((idx (spl 10 s) (w64 (len (spl 10 s) - 1))).bind fun y199 => if (y199 == []) = true then (cut (spl 10 s) 0 (Option.getD (some (w64 (len (spl 10 s) - 1))) (len (spl 10 s)))).bind fun y197 => some y197 else some (spl 10 s)) = some (if x = [] then M else M ++ [x]) := by
    intro M x e
    rw [e] at hl ⊢
    simp only [List.length_append, List.length_singleton] at hl
    have e1 : w64 (len (M ++ [x]) - 1) = ((M.length : Nat) : Int) := by rw [len_eq, w64_of (by first | (simp; done) | (simp; omega)) (by first | (simp; done) | (simp; omega))]; simp
    rw [e1, idx_nat]
    simp only [List.getElem?_append_right (Nat.le_refl _), Nat.sub_self, List.getElem?_cons_zero, Option.bind_some, Option.getD_some]
    by_cases hx : x = []
    · subst hx
      have := cut_of (xs := M ++ [[]]) (a := 0) (b := M.length) (by omega) (by simp)
      simp only [Int.natCast_zero] at this
      simp [this]
    · have : (x == []) = false := by simpa using hx
      simp [this, hx]
  rcases snoc_cases s with rfl | ⟨t, b, rfl⟩
  · have := main [] [] rfl
    rw [this]; rfl
  · by_cases hb : b = 10
    · subst hb
      rw [main (spl 10 t) [] (spl_snoc 10 t), linesOf_snoc]
      simp
    · obtain ⟨M, x, h1, h2⟩ := spl_last 10 hb t
      rw [main M (x ++ [b]) h2, linesOf_other hb, h2]
      simp

def vSrc (s : List UInt8) : Bool := decide (s.length ≤ 4000) && s.all (isPr true) && decide ((linesOf s).length ≤ 120)

theorem s_ValidSource_ok {s : List UInt8} (h : s.length ≤ 1000000) : s_ValidSource s = some (vSrc s) := by
  rw [s_ValidSource_eq, s_l01Printable_ok' (by omega), s_SplitLines_ok h]
  simp only [Option.bind_some, vSrc, len_eq]
  by_cases c1 : s.length ≤ 4000
  · have : decide ((s.length : Int) ≤ 4000) = true := by simp; omega
    cases h2 : s.all (isPr true) <;> simp [this, c1, h2]
    constructor <;> (intro; omega)
  · have : decide ((s.length : Int) ≤ 4000) = false := by simp; omega
    simp [this, c1]

theorem i_ValidSource_ok {s : List UInt8} (h : s.length ≤ 1000000) : i_ValidSource s = some (vSrc s) := by
  rw [i_ValidSource_eq]
  unfold vSrc
  by_cases c1 : s.length ≤ 4000
  · have e1 : decide (len s ≤ 4000) = true := by simp [len_eq]; omega
    have e2 : allPl (noNl s) = s.all (isPr true) := by
      unfold allPl noNl
      rw [List.all_filter]
      congr 1
      funext b
      simp only [isPr, Bool.true_and, Bool.not_not]
      by_cases hb : b = 10
      · subst hb; decide
      · have q : (ib b == (10 : Int)) = false := by
          rw [beq_eq_false_iff_ne]; intro e; exact hb (ib_inj.1 (e.trans (by decide)))
        have q2 : (b == 10) = false := by simpa using hb
        simp [q, q2]
    have hn : (noNl s).length ≤ s.length := List.length_filter_le _ _
    simp only [e1, if_true]
    unfold replAllS
    rw [if_pos ⟨by omega, by decide, by decide⟩, replaceAll10]
    simp only [Option.bind_some]
    rw [i_isPlainText_ok (by omega), e2]
    simp only [Option.bind_some]
    rw [i_lines_ok (by omega)]
    simp only [Option.bind_some, len_eq, c1, decide_true, Bool.true_and]
    cases s.all (isPr true) <;> simp
    constructor <;> (intro; omega)
  · have e1 : decide (len s ≤ 4000) = false := by simp [len_eq]; omega
    simp [e1, c1]

def blankB (s : List UInt8) : Bool := s.all fun b => b == 32

def cmtB (s : List UInt8) : Bool := match s with | [] => false | b :: _ => b == 42

def conB (s : List UInt8) : Bool := match s with | [] => false | b :: _ => b == 43

theorem dropWhile_nil {α : Type} (p : α → Bool) : ∀ l : List α, l.dropWhile p = [] ↔ l.all p = true
  | [] => by simp
  | x :: l => by
    rw [List.dropWhile_cons]
    cases h : p x <;> simp [h, dropWhile_nil p l]

theorem dropWhile_head {α : Type} (p : α → Bool) : ∀ (l : List α) {x : α} {r : List α}, l.dropWhile p = x :: r → p x = false
  | [], x, r, h => by simp at h
  | y :: l, x, r, h => by
    rw [List.dropWhile_cons] at h
    cases hy : p y with
    | true => rw [hy] at h; exact dropWhile_head p l (by simpa using h)
    | false => rw [hy] at h; simp at h; rw [← h.1]; exact hy

theorem trim_blank (s : List UInt8) : (Lib.trimB s 32 == []) = blankB s := by
  unfold Lib.trimB Lib.trimLeftB Lib.trimRightB blankB
  rw [Bool.eq_iff_iff, beq_iff_eq, dropWhile_nil]
  constructor
  · intro h
    cases hd : s.reverse.dropWhile (· == (32 : UInt8)) with
    | nil =>
      have := (dropWhile_nil _ _).1 hd
      rwa [List.all_reverse] at this
    | cons x r =>
      have h1 := dropWhile_head _ _ hd
      rw [hd] at h
      have := List.all_eq_true.1 h x (by simp)
      rw [h1] at this; cases this
  · intro h
    have : s.reverse.dropWhile (· == (32 : UInt8)) = [] := (dropWhile_nil _ _).2 (by rw [List.all_reverse]; exact h)
    rw [this]; rfl

theorem i_IsBlankLine_ok {s : List UInt8} (h : s.length ≤ 1000000) : i_IsBlankLine s = some (blankB s) := by
  rw [i_IsBlankLine_eq]
  unfold trimS
  simp only
  rw [if_pos ⟨by decide, by omega⟩]
  simp only [Option.bind_some, trim_blank]

theorem s_IsBlankLine_ok {s : List UInt8} (h : s.length ≤ 1000000) : s_IsBlankLine s = some (blankB s) := by
  rw [s_IsBlankLine_eq]
  refine loop_ind (xs := s) (by omega) (P := fun i l => s_IsBlankLine_L2 s i = some (blankB l)) ?_ ?_
  · rw [s_IsBlankLine_L2_eq]; simp [len_eq, blankB]
  · intro i y l _ hlt hy hi hw ih
    rw [s_IsBlankLine_L2_eq, hi, if_pos (by simp [len_eq, hlt])]
    simp only [Option.bind_some, hw, ih]
    by_cases hb : y = 32
    · subst hb
      have : (ib 32 != (32 : Int)) = false := by decide
      simp [this, blankB]
    · have : (ib y != (32 : Int)) = true := by
        rw [bne_iff_ne]; intro e; exact hb (ib_inj.1 (e.trans (by decide)))
      simp [this, blankB, hb]

theorem s_IsComment_ok (s : List UInt8) : s_IsComment s = some (cmtB s) := by
  rw [s_IsComment_eq]
  cases s with
  | nil => rfl
  | cons b r =>
    have e : ((b :: r) == ([] : List UInt8)) = false := rfl
    simp only [e, Bool.not_false, if_true, idx_zero, List.getElem?_cons_zero, Option.bind_some, cmtB]
    congr 1
    rw [Bool.eq_iff_iff, beq_iff_eq, beq_iff_eq]
    exact ⟨fun h => ib_inj.1 (h.trans (by decide)), fun h => by subst h; decide⟩

theorem s_IsContinuation_ok (s : List UInt8) : s_IsContinuation s = some (conB s) := by
  rw [s_IsContinuation_eq]
  cases s with
  | nil => rfl
  | cons b r =>
    have e : ((b :: r) == ([] : List UInt8)) = false := rfl
    simp only [e, Bool.not_false, if_true, idx_zero, List.getElem?_cons_zero, Option.bind_some, conB]
    congr 1
    rw [Bool.eq_iff_iff, beq_iff_eq, beq_iff_eq]
    exact ⟨fun h => ib_inj.1 (h.trans (by decide)), fun h => by subst h; decide⟩

theorem hasPrefix_one (s : List UInt8) (c : UInt8) : strings_HasPrefix s [c] = some (match s with | [] => false | b :: _ => b == c) := by
  rw [strings_HasPrefix_eq, internal_stringslite_HasPrefix_eq]
  cases s with
  | nil => rfl
  | cons b r =>
    have e : decide (len (b :: r) ≥ len [c]) = true := by simp [len_eq]; omega
    have := cut_of (xs := b :: r) (a := 0) (b := 1) (by omega) (by simp)
    simp only [Int.natCast_zero, Int.natCast_one] at this
    rw [if_pos e]
    simp only [Option.getD_some, show len [c] = (1 : Int) from rfl, this, Option.bind_some]
    congr 1
    simp

theorem i_IsComment_ok (s : List UInt8) : i_IsComment s = some (cmtB s) := by
  rw [i_IsComment_eq, hasPrefix_one]; rfl

theorem i_IsContinuation_ok (s : List UInt8) : i_IsContinuation s = some (conB s) := by
  rw [i_IsContinuation_eq, hasPrefix_one]; rfl

end Go.Dv.U

namespace Go.Dv.U

open Go Go.Dv Go.Proofs

def extL (a : List TLine) (t : List UInt8) : List TLine := match a[a.length - 1]? with
  | some y => a.set (a.length - 1) ⟨y.fNumber, y.fText ++ ([32] ++ t.drop 1)⟩
  | none => a

def cmb : List (List UInt8) → Nat → List TLine → List TLine × Int
  | [], _, a => (a, 0)
  | t :: r, i, a => if (blankB t || cmtB t) = true then cmb r (i + 1) a
    else if conB t = true then (if a = [] then ([], ((i + 1 : Nat) : Int)) else cmb r (i + 1) (extL a t))
    else cmb r (i + 1) (a ++ [⟨((i + 1 : Nat) : Int), t⟩])

def BdL (i : Nat) (a : List TLine) : Prop := a.length ≤ i ∧ ∀ y ∈ a, y.fText.length ≤ 5000 * (i + 1)

theorem BdL.mono {i : Nat} {a : List TLine} (h : BdL i a) : BdL (i + 1) a := ⟨by have := h.1; omega, fun y hy => by have := h.2 y hy; omega⟩

theorem BdL.app {i : Nat} {a : List TLine} (h : BdL i a) {n : Int} {t : List UInt8} (ht : t.length ≤ 4000) : BdL (i + 1) (a ++ [⟨n, t⟩]) := by
  refine ⟨by have := h.1; simp; omega, fun y hy => ?_⟩
  rcases List.mem_append.1 hy with e | e
  · have := h.2 y e; omega
  · have : y = ⟨n, t⟩ := by simpa using e
    subst this; simp; omega

theorem BdL.ext {i : Nat} {a : List TLine} (h : BdL i a) {t : List UInt8} (ht : t.length ≤ 4000) : BdL (i + 1) (extL a t) := by
  unfold extL
  cases hq : a[a.length - 1]? with
  | none => exact h.mono
  | some y =>
    have hy := h.2 y (List.mem_of_getElem? hq)
    refine ⟨by have := h.1; simp; omega, fun z hz => ?_⟩
    rcases List.mem_or_eq_of_mem_set hz with e | e
    · have := h.2 z e; omega
    · subst e; simp; omega

theorem cmb_bd : ∀ (l : List (List UInt8)) (i : Nat) (a : List TLine), (∀ t ∈ l, t.length ≤ 4000) → BdL i a → BdL (i + l.length) (cmb l i a).1
  | [], i, a, _, h => h
  | t :: r, i, a, ht, h => by
    have hr := cmb_bd r (i + 1)
    have e : i + (t :: r).length = i + 1 + r.length := by simp; omega
    rw [e]
    have ht0 := ht t (by simp)
    have htr : ∀ t ∈ r, t.length ≤ 4000 := fun x hx => ht x (by simp [hx])
    simp only [cmb]
    split
    · exact hr a htr h.mono
    · split
      · split
        · exact ⟨by simp, fun y hy => by cases hy⟩
        · exact hr _ htr (h.ext ht0)
      · exact hr _ htr (h.app ht0)

/-- the extension of the last line, as both programs do it -/
theorem ext_step {a : List TLine} {t : List UInt8} {i : Nat} (hi : i ≤ 1000) (h : BdL i a) (ha : a ≠ []) (ht : t.length ≤ 4000) (h1 : 1 ≤ t.length) {β : Type} (k : List TLine → Option β) :
    ((idx a (w64 (len a - 1))).bind fun _ => (a[Int.toNat (w64 (len a - 1))]?).bind fun y190 => (cut t 1 (len t)).bind fun y189 => (app [32] y189).bind fun y188 => (app y190.fText y188).bind fun y187 => (idx a (w64 (len a - 1))).bind fun _ => (a[Int.toNat (w64 (len a - 1))]?).bind fun y185 => k (upd a (Int.toNat (w64 (len a - 1))) (TLine.mk y185.fNumber y187))) = k (extL a t) := by
  have hl : 1 ≤ a.length := by cases a with | nil => exact absurd rfl ha | cons => simp
  have hla := h.1
  have e1 : w64 (len a - 1) = ((a.length - 1 : Nat) : Int) := by rw [len_eq, w64_of (by omega) (by omega)]; omega
  have hlt : a.length - 1 < a.length := by omega
  have e2 := cut_of (xs := t) (a := 1) (b := t.length) h1 (Nat.le_refl _)
  rw [List.take_length] at e2
  simp only [Int.natCast_one] at e2
  have hy := h.2 _ (List.getElem_mem hlt)
  rw [e1]
  simp only [idx_nat, Int.toNat_natCast, List.getElem?_eq_getElem hlt, Option.bind_some, show len t = ((t.length : Nat) : Int) from len_eq t, e2]
  rw [app_of (by simp; omega)]
  simp only [Option.bind_some]
  rw [app_of (by simp; omega)]
  simp only [Option.bind_some, upd_eq, extL, List.getElem?_eq_getElem hlt]

theorem con_len {t : List UInt8} (h : conB t = true) : 1 ≤ t.length := by cases t with | nil => cases h | cons => simp

theorem i_combine_ok {s : List UInt8} (hs : s.length ≤ 4000) (hc : (linesOf s).length ≤ 200) (ht : ∀ t ∈ linesOf s, t.length ≤ 4000) : i_combine s = some (cmb (linesOf s) 0 []) := by
  rw [i_combine_eq, i_lines_ok (by omega)]
  simp only [Option.bind_some]
  generalize linesOf s = ls at hc ht
  refine loop_ind (xs := ls) (by omega) (P := fun i l => (∀ t ∈ l, t.length ≤ 4000) → i ≤ ls.length → ∀ a, BdL i a → i_combine_L3 ls (len ls) (i : Int) a = some (cmb l i a)) ?_ ?_ ht (by omega) [] ⟨by simp, fun y hy => by cases hy⟩
  · intro _ _ a _
    rw [i_combine_L3_eq]
    simp [len_eq, cmb]
  · intro i t l _ hlt hy hi hw ih htl hle a hb
    have ht0 := htl t (by simp)
    have ih := ih (fun x hx => htl x (by simp [hx])) (by omega)
    rw [i_combine_L3_eq]
    have hc : decide ((i : Int) < len ls) = true := by simp [len_eq, hlt]
    rw [if_pos hc, hi]
    simp only [Option.bind_some, i_IsBlankLine_ok (s := t) (by omega), i_IsComment_ok, i_IsContinuation_ok, i_combine_L12_eq, hw, Option.getD_none, cmb]
    cases h1 : blankB t with
    | true => simp only [if_true, Bool.true_or]; exact ih a hb.mono
    | false =>
      simp only [Bool.false_eq_true, if_false, Bool.false_or]
      cases h2 : cmtB t with
      | true => simp only [if_true]; exact ih a hb.mono
      | false =>
        simp only [Bool.false_eq_true, if_false]
        cases h3 : conB t with
        | false =>
          simp only [Bool.not_false, if_true, Bool.false_eq_true, if_false]
          rw [app_of (by have := hb.1; simp; omega)]
          simp only [Option.bind_some]
          exact ih _ (hb.app ht0)
        | true =>
          simp only [Bool.not_true, Bool.false_eq_true, if_false, if_true]
          by_cases ha : a = []
          · subst ha
            simp [len_eq]
          · have e : (len a == 0) = false := by
              rw [beq_eq_false_iff_ne, len_eq]; intro e
              exact ha (List.eq_nil_of_length_eq_zero (by omega))
            simp only [e, Bool.false_eq_true, if_false, ha]
            rw [ext_step (i := i) (by omega) hb ha ht0 (con_len h3) (fun u => i_combine_L3 ls (len ls) ((i + 1 : Nat) : Int) u)]
            exact ih _ (hb.ext ht0)

theorem s_L6_ok {ls : List (List UInt8)} (hc : ls.length ≤ 200) (ht : ∀ t ∈ ls, t.length ≤ 4000) : s_LogicalLines_L6 ls 0 [] = if 0 < (cmb ls 0 []).2 then some ([], (cmb ls 0 []).2, 2) else s_LogicalLines_L18 0 (cmb ls 0 []).1 [] := by
  refine loop_ind (xs := ls) (by omega) (P := fun i l => (∀ t ∈ l, t.length ≤ 4000) → i ≤ ls.length → ∀ a, BdL i a → s_LogicalLines_L6 ls (i : Int) a = if 0 < (cmb l i a).2 then some ([], (cmb l i a).2, 2) else s_LogicalLines_L18 0 (cmb l i a).1 []) ?_ ?_ ht (by omega) [] ⟨by simp, fun y hy => by cases hy⟩
  · intro _ _ a _
    rw [s_LogicalLines_L6_eq]
    simp [len_eq, cmb]
  · intro i t l _ hlt hy hi hw ih htl hle a hb
    have ht0 := htl t (by simp)
    have ih := ih (fun x hx => htl x (by simp [hx])) (by omega)
    rw [s_LogicalLines_L6_eq]
    have hc : decide ((i : Int) < len ls) = true := by simp [len_eq, hlt]
    rw [if_pos hc, hi]
    simp only [Option.bind_some, s_IsBlankLine_ok (s := t) (by omega), s_IsComment_ok, s_IsContinuation_ok, s_LogicalLines_L7_eq, hw, Option.getD_none]
    by_cases h1 : blankB t = true
    · rw [if_pos h1, show cmb (t :: l) i a = cmb l (i + 1) a by simp [cmb, h1]]; exact ih a hb.mono
    · rw [if_neg h1]
      by_cases h2 : cmtB t = true
      · rw [if_pos h2, show cmb (t :: l) i a = cmb l (i + 1) a by simp [cmb, h2]]; exact ih a hb.mono
      · rw [if_neg h2]
        by_cases h3 : conB t = true
        · rw [if_pos h3]
          by_cases ha : a = []
          · subst ha
            have e : (len ([] : List TLine) == 0) = true := rfl
            have p : (0 : Int) < ((i + 1 : Nat) : Int) := by omega
            rw [show cmb (t :: l) i [] = ([], ((i + 1 : Nat) : Int)) by simp [cmb, h1, h2, h3]]
            rw [if_pos e, if_pos p]
          · have e : (len a == 0) = false := by
              rw [beq_eq_false_iff_ne, len_eq]; intro e
              exact ha (List.eq_nil_of_length_eq_zero (by omega))
            rw [if_neg (by rw [e]; simp), show cmb (t :: l) i a = cmb l (i + 1) (extL a t) by simp [cmb, h1, h2, h3, ha]]
            rw [ext_step (i := i) (by omega) hb ha ht0 (con_len h3) (fun u => s_LogicalLines_L6 ls ((i + 1 : Nat) : Int) u)]
            exact ih _ (hb.ext ht0)
        · rw [if_neg h3, show cmb (t :: l) i a = cmb l (i + 1) (a ++ [⟨((i + 1 : Nat) : Int), t⟩]) by simp [cmb, h1, h2, h3]]
          rw [app_of (by have := hb.1; simp; omega)]
          simp only [Option.bind_some]
          exact ih _ (hb.app ht0)

def sst : Int → List UInt8 → List UInt8 → List (List UInt8)
  | _, cur, [] => [cur]
  | q, cur, b :: r => if q ≠ 0 then sst (if ib b = q then 0 else q) (cur ++ [b]) r
    else if ib b = 39 then sst 39 (cur ++ [b]) r else if ib b = 34 then sst 34 (cur ++ [b]) r
    else if ib b = 59 then cur :: sst 0 [] r else sst 0 (cur ++ [b]) r

theorem sst_len : ∀ (l : List UInt8) (q : Int) (cur : List UInt8), (sst q cur l).length ≤ l.length + 1
  | [], q, cur => by simp [sst]
  | b :: r, q, cur => by
    have h := sst_len r
    simp only [sst, List.length_cons]
    split
    · have := h (if ib b = q then 0 else q) (cur ++ [b]); omega
    · split
      · have := h 39 (cur ++ [b]); omega
      · split
        · have := h 34 (cur ++ [b]); omega
        · split
          · have := h 0 []; simp; omega
          · have := h 0 (cur ++ [b]); omega

theorem sst_pl : ∀ (l : List UInt8) (q : Int) (cur : List UInt8), allPl cur = true → allPl l = true → ∀ p ∈ sst q cur l, allPl p = true
  | [], q, cur, hc, _, p, hp => by simp [sst] at hp; subst hp; exact hc
  | b :: r, q, cur, hc, hl, p, hp => by
    simp only [allPl, List.all_cons, Bool.and_eq_true] at hl
    have h := sst_pl r
    have hcb : allPl (cur ++ [b]) = true := by simp only [allPl, List.all_append, Bool.and_eq_true] at hc ⊢; exact ⟨hc, by simp [hl.1]⟩
    simp only [sst] at hp
    split at hp
    · exact h _ _ hcb hl.2 p hp
    · split at hp
      · exact h _ _ hcb hl.2 p hp
      · split at hp
        · exact h _ _ hcb hl.2 p hp
        · split at hp
          · rcases List.mem_cons.1 hp with e | e
            · subst e; exact hc
            · exact h _ _ rfl hl.2 p e
          · exact h _ _ hcb hl.2 p hp

theorem sst_piece : ∀ (l : List UInt8) (q : Int) (cur : List UInt8), (∀ r, sst 0 [] (cur ++ r) = sst q cur r) → ∀ p ∈ sst q cur l, sst 0 [] p = [p]
  | [], q, cur, hg, p, hp => by
    simp [sst] at hp; subst hp
    have := hg []
    simpa [sst] using this
  | b :: r, q, cur, hg, p, hp => by
    have h := sst_piece r
    have hnext : ∀ q', (∀ r, sst q cur (b :: r) = sst q' (cur ++ [b]) r) → ∀ r, sst 0 [] ((cur ++ [b]) ++ r) = sst q' (cur ++ [b]) r := fun q' e r => by
      rw [← e r, ← hg (b :: r)]; simp
    simp only [sst] at hp
    split at hp
    · rename_i hq
      exact h _ _ (hnext _ fun r => by simp only [sst]; rw [if_pos hq]) p hp
    · rename_i hq
      split at hp
      · rename_i h1
        exact h _ _ (hnext _ fun r => by simp only [sst]; rw [if_neg hq, if_pos h1]) p hp
      · rename_i h1
        split at hp
        · rename_i h2
          exact h _ _ (hnext _ fun r => by simp only [sst]; rw [if_neg hq, if_neg h1, if_pos h2]) p hp
        · rename_i h2
          split at hp
          · rcases List.mem_cons.1 hp with e | e
            · subst e
              have := hg []
              simpa [sst] using this
            · exact h _ _ (fun r => by simp) p e
          · rename_i h3
            exact h _ _ (hnext _ fun r => by simp only [sst]; rw [if_neg hq, if_neg h1, if_neg h2, if_neg h3]) p hp

theorem split_both {s : List UInt8} (hs : s.length ≤ 1000000) : i_SplitStatements s = some (sst 0 [] s) ∧ s_SplitStatements s = some (sst 0 [] s) := by
  rw [i_SplitStatements_eq, s_SplitStatements_eq]
  have key := loop_ind (xs := s) (by omega) (P := fun i l => s.drop i = l → i ≤ s.length → ∀ (q : Int) (f : Nat) (o : List (List UInt8)), f ≤ i → o.length ≤ i →
      i_SplitStatements_L3 s (f : Int) q (len s) (i : Int) o = some (o ++ sst q ((s.take i).drop f) l) ∧ s_SplitStatements_L5 s (f : Int) q (i : Int) o = some (o ++ sst q ((s.take i).drop f) l)) (by
    intro _ _ q f o hf ho
    rw [i_SplitStatements_L3_eq, s_SplitStatements_L5_eq]
    have hc : decide ((s.length : Int) < len s) = false := by simp [len_eq]
    simp only [hc, Bool.false_eq_true, if_false, Option.getD_none]
    rw [show len s = ((s.length : Nat) : Int) from len_eq s, cut_of (by omega) (by omega)]
    simp only [Option.bind_some]
    rw [app_of (by simp; omega)]
    exact ⟨rfl, rfl⟩) (by
    intro i y l hd hlt hy hi hw ih _ hle q f o hf ho
    have hd2 : s.drop (i + 1) = l := by
      have := List.drop_eq_getElem_cons hlt
      rw [hd] at this
      exact (List.cons.inj this).2.symm
    have hy2 : s[i] = y := by
      have := List.drop_eq_getElem_cons hlt
      rw [hd] at this
      exact (List.cons.inj this).1.symm
    have ih := ih hd2 (by omega)
    have e2 : (s.take (i + 1)).drop f = (s.take i).drop f ++ [y] := by
      rw [List.take_succ_eq_append_getElem hlt, hy2, List.drop_append_of_le_length (by simp; omega)]
    have go : ∀ q', i_SplitStatements_L3 s (f : Int) q' (len s) ((i + 1 : Nat) : Int) o = some (o ++ sst q' ((s.take i).drop f ++ [y]) l) ∧ s_SplitStatements_L5 s (f : Int) q' ((i + 1 : Nat) : Int) o = some (o ++ sst q' ((s.take i).drop f ++ [y]) l) := fun q' => by
      rw [← e2]; exact ih q' f o (by omega) (by omega)
    rw [i_SplitStatements_L3_eq, s_SplitStatements_L5_eq]
    have hc : decide ((i : Int) < len s) = true := by simp [len_eq, hlt]
    simp only [hc, if_true, hi, Option.bind_some, i_SplitStatements_L14_eq, s_SplitStatements_L6_eq, hw, Option.getD_some, sst]
    by_cases hq : q = 0
    · subst hq
      simp only [bne_self_eq_false, Bool.false_eq_true, if_false, ne_eq, not_true_eq_false]
      by_cases h1 : ib y = 39
      · simp only [h1, beq_self_eq_true, if_true]; exact go 39
      · have h1' : (ib y == (39 : Int)) = false := by simpa using h1
        simp only [h1', h1, Bool.false_eq_true, if_false]
        by_cases h2 : ib y = 34
        · simp only [h2, beq_self_eq_true, if_true]; exact go 34
        · have h2' : (ib y == (34 : Int)) = false := by simpa using h2
          simp only [h2', h2, Bool.false_eq_true, if_false]
          by_cases h3 : ib y = 59
          · simp only [h3, beq_self_eq_true, if_true]
            rw [cut_of (by omega) (by omega)]
            simp only [Option.bind_some]
            rw [app_of (by simp; omega)]
            simp only [Option.bind_some]
            have := ih 0 (i + 1) (o ++ [(s.take i).drop f]) (Nat.le_refl _) (by simp; omega)
            have e3 : (s.take (i + 1)).drop (i + 1) = [] := by simp
            rw [e3] at this
            rw [this.1, this.2]
            simp
          · have h3' : (ib y == (59 : Int)) = false := by simpa using h3
            simp only [h3', h3, Bool.false_eq_true, if_false]
            exact go 0
    · have hq' : (q != 0) = true := by simpa using hq
      simp only [hq', if_true, ne_eq, hq, not_false_eq_true]
      by_cases h1 : ib y = q
      · simp only [h1, beq_self_eq_true, if_true]; exact go 0
      · have : (ib y == q) = false := by simpa using h1
        simp only [this, h1, Bool.false_eq_true, if_false]; exact go q) (by simp) (by omega) 0 0 [] (by omega) (by simp)
  simpa using key

def lgF (y : TLine) : List TLine := (sst 0 [] y.fText).flatMap fun p => if blankB p = true then [] else [⟨y.fNumber, p⟩]

theorem flatLen {α β : Type} {f : α → List β} {B : Nat} : ∀ {l : List α}, (∀ y ∈ l, (f y).length ≤ B) → (l.flatMap f).length ≤ l.length * B
  | [], _ => by simp
  | y :: l, h => by
    have h1 := h y (by simp)
    have h2 := flatLen (l := l) fun z hz => h z (by simp [hz])
    rw [List.flatMap_cons, List.length_append, List.length_cons, Nat.succ_mul]; omega

theorem lgF_len (y : TLine) : (lgF y).length ≤ y.fText.length + 1 := by
  have h1 := flatLen (f := fun p => if blankB p = true then ([] : List TLine) else [⟨y.fNumber, p⟩]) (B := 1) (l := sst 0 [] y.fText) (fun p _ => by split <;> simp)
  have h2 := sst_len y.fText 0 []
  unfold lgF; omega

theorem lg_both {c : List TLine} (hb : BdL 150 c) (hp : ∀ y ∈ c, ∀ p ∈ sst 0 [] y.fText, p.length ≤ 1000000) : i_LogicalLines_L8 c (len c) 0 [] = some (c.flatMap lgF, 0, 0) ∧ s_LogicalLines_L18 0 c [] = some (c.flatMap lgF, 0, 0) := by
  have hlen := flatLen (f := lgF) (B := 755001) (l := c) (fun y hy => by have := lgF_len y; have := hb.2 y hy; omega)
  have hcl := hb.1
  have hB : (c.flatMap lgF).length ≤ 68719476736 := by
    refine Nat.le_trans hlen ?_
    have : c.length * 755001 ≤ 150 * 755001 := Nat.mul_le_mul_right _ hcl
    omega
  constructor
  · have := cat_loop (xs := c) (by omega) (f := lgF) (J := fun i a => i_LogicalLines_L8 c (len c) i a) (B := 68719476736) (by
      intro i y a hlt hy hi hw hbd
      show i_LogicalLines_L8 _ _ _ _ = i_LogicalLines_L8 _ _ _ _
      rw [i_LogicalLines_L8_eq]
      have hc : decide ((i : Int) < len c) = true := by simp [len_eq, hlt]
      have hty := hb.2 y hy
      rw [if_pos hc, hi]
      simp only [Option.bind_some, (split_both (s := y.fText) (by omega)).1]
      have hpp := hp y hy
      have hsl := sst_len y.fText 0 []
      have e : lgF y = (sst 0 [] y.fText).flatMap fun p => if blankB p = true then [] else [⟨y.fNumber, p⟩] := rfl
      rw [e] at hbd ⊢
      generalize sst 0 [] y.fText = ps at hpp hsl hbd
      refine loop_ind (xs := ps) (by omega) (P := fun j l => (∀ p ∈ l, p.length ≤ 1000000) → ∀ a : List TLine, a.length + (l.flatMap fun p => if blankB p = true then ([] : List TLine) else [⟨y.fNumber, p⟩]).length ≤ 68719476736 → i_LogicalLines_L11 c (len c) (i : Int) ps (len ps) (j : Int) a y.fNumber y.fText = i_LogicalLines_L8 c (len c) ((i + 1 : Nat) : Int) (a ++ l.flatMap fun p => if blankB p = true then [] else [⟨y.fNumber, p⟩])) ?_ ?_ hpp a hbd
      · intro _ a _
        rw [i_LogicalLines_L11_eq]
        simp [len_eq, hw]
      · intro j p l _ hlt2 hy2 hi2 hw2 ih hl a ha
        rw [i_LogicalLines_L11_eq]
        have hc2 : decide ((j : Int) < len ps) = true := by simp [len_eq, hlt2]
        rw [if_pos hc2, hi2]
        have hp0 := hl p (by simp)
        rw [List.flatMap_cons] at ha ⊢
        simp only [Option.bind_some, i_IsBlankLine_ok hp0, hw2]
        cases hbp : blankB p with
        | true =>
          simp only [hbp, if_true, List.nil_append] at ha
          simp only [Bool.not_true, Bool.false_eq_true, if_false, if_true, List.nil_append]
          exact ih (fun x hx => hl x (by simp [hx])) a ha
        | false =>
          simp only [hbp, Bool.false_eq_true, if_false, List.length_append, List.length_singleton] at ha
          simp only [Bool.not_false, if_true, Bool.false_eq_true, if_false]
          rw [app_of (by simp; omega)]
          simp only [Option.bind_some]
          rw [ih (fun x hx => hl x (by simp [hx])) _ (by simp only [List.length_append, List.length_singleton]; omega)]
          simp) hB
    rw [show i_LogicalLines_L8 c (len c) 0 [] = _ from this, i_LogicalLines_L8_eq]
    simp [len_eq]
  · have := cat_loop (xs := c) (by omega) (f := lgF) (J := fun i a => s_LogicalLines_L18 i c a) (B := 68719476736) (by
      intro i y a hlt hy hi hw hbd
      show s_LogicalLines_L18 _ _ _ = s_LogicalLines_L18 _ _ _
      rw [s_LogicalLines_L18_eq]
      have hc : decide ((i : Int) < len c) = true := by simp [len_eq, hlt]
      have hty := hb.2 y hy
      have hg : c[i]? = some y := by rw [← idx_nat]; exact hi
      rw [if_pos hc, hi]
      simp only [Option.bind_some, Int.toNat_natCast, hg, (split_both (s := y.fText) (by omega)).2]
      have hpp := hp y hy
      have hsl := sst_len y.fText 0 []
      have e : lgF y = (sst 0 [] y.fText).flatMap fun p => if blankB p = true then [] else [⟨y.fNumber, p⟩] := rfl
      rw [e] at hbd ⊢
      generalize sst 0 [] y.fText = ps at hpp hsl hbd
      refine loop_ind (xs := ps) (by omega) (P := fun j l => (∀ p ∈ l, p.length ≤ 1000000) → ∀ a : List TLine, a.length + (l.flatMap fun p => if blankB p = true then ([] : List TLine) else [⟨y.fNumber, p⟩]).length ≤ 68719476736 → s_LogicalLines_L22 (i : Int) ps (j : Int) c a = s_LogicalLines_L18 ((i + 1 : Nat) : Int) c (a ++ l.flatMap fun p => if blankB p = true then [] else [⟨y.fNumber, p⟩])) ?_ ?_ hpp a hbd
      · intro _ a _
        rw [s_LogicalLines_L22_eq]
        simp [len_eq, hw]
      · intro j p l _ hlt2 hy2 hi2 hw2 ih hl a ha
        rw [s_LogicalLines_L22_eq]
        have hc2 : decide ((j : Int) < len ps) = true := by simp [len_eq, hlt2]
        rw [if_pos hc2, hi2]
        have hp0 := hl p (by simp)
        rw [List.flatMap_cons] at ha ⊢
        simp only [Option.bind_some, s_IsBlankLine_ok hp0, hw2, hi, Int.toNat_natCast, hg]
        cases hbp : blankB p with
        | true =>
          simp only [hbp, if_true, List.nil_append] at ha
          simp only [Bool.not_true, Bool.false_eq_true, if_false, if_true, List.nil_append]
          exact ih (fun x hx => hl x (by simp [hx])) a ha
        | false =>
          simp only [hbp, Bool.false_eq_true, if_false, List.length_append, List.length_singleton] at ha
          simp only [Bool.not_false, if_true, Bool.false_eq_true, if_false]
          rw [app_of (by simp; omega)]
          simp only [Option.bind_some]
          rw [ih (fun x hx => hl x (by simp [hx])) _ (by simp only [List.length_append, List.length_singleton]; omega)]
          simp) hB
    rw [show s_LogicalLines_L18 0 c [] = _ from this, s_LogicalLines_L18_eq]
    simp [len_eq]

end Go.Dv.U

namespace Go.Dv.U

open Go Go.Dv Go.Proofs

theorem sst_each : ∀ (l : List UInt8) (q : Int) (cur : List UInt8), ∀ p ∈ sst q cur l, p.length ≤ cur.length + l.length
  | [], q, cur, p, hp => by simp [sst] at hp; subst hp; simp
  | b :: r, q, cur, p, hp => by
    have h := sst_each r
    have e : (cur ++ [b]).length = cur.length + 1 := by simp
    simp only [sst] at hp
    simp only [List.length_cons]
    split at hp
    · have := h _ _ p hp; omega
    · split at hp
      · have := h _ _ p hp; omega
      · split at hp
        · have := h _ _ p hp; omega
        · split at hp
          · rcases List.mem_cons.1 hp with e | e
            · subst e; omega
            · have := h _ _ p e; simp at this; omega
          · have := h _ _ p hp; omega

theorem trim10_sub (s : List UInt8) : (∀ b ∈ trim10 s, b ∈ s) ∧ (trim10 s).length ≤ s.length := by
  unfold trim10
  split
  · exact ⟨fun b hb => List.mem_of_mem_take hb, by first | (simp; done) | (simp; omega)⟩
  · exact ⟨fun b hb => hb, Nat.le_refl _⟩

theorem vSrc_parts {s : List UInt8} (h : vSrc s = true) : s.length ≤ 4000 ∧ (linesOf s).length ≤ 120 ∧ (∀ t ∈ linesOf s, t.length ≤ 4000) ∧ ∀ t ∈ linesOf s, allPl t = true := by
  unfold vSrc at h
  simp only [Bool.and_eq_true, decide_eq_true_eq] at h
  obtain ⟨⟨h1, h2⟩, h3⟩ := h
  have ht := trim10_sub s
  refine ⟨h1, h3, fun t htm => ?_, fun t htm => ?_⟩
  · unfold linesOf at htm
    split at htm
    · cases htm
    · have := spl_each 10 (trim10 s) t htm; omega
  · unfold linesOf at htm
    split at htm
    · cases htm
    · refine List.all_eq_true.2 fun b hb => ?_
      obtain ⟨g1, g2⟩ := spl_mem 10 (trim10 s) t htm b hb
      have := List.all_eq_true.1 h2 b (ht.1 b g2)
      simp only [isPr, Bool.true_and, Bool.or_eq_true] at this
      rcases this with g | g
      · exact g
      · exact absurd (ib_inj.1 ((by simpa using g : ib b = 10).trans (by decide))) g1

theorem cmb_pl : ∀ (l : List (List UInt8)) (i : Nat) (a : List TLine), (∀ t ∈ l, allPl t = true) → (∀ y ∈ a, allPl y.fText = true) → ∀ y ∈ (cmb l i a).1, allPl y.fText = true
  | [], i, a, _, h => h
  | t :: r, i, a, ht, h => by
    have hr := cmb_pl r (i + 1)
    have ht0 := ht t (by simp)
    have htr : ∀ t ∈ r, allPl t = true := fun x hx => ht x (by simp [hx])
    simp only [cmb]
    split
    · exact hr a htr h
    · split
      · split
        · intro y hy; cases hy
        · refine hr _ htr fun y hy => ?_
          unfold extL at hy
          cases hq : a[a.length - 1]? with
          | none => rw [hq] at hy; exact h y hy
          | some z =>
            rw [hq] at hy
            rcases List.mem_or_eq_of_mem_set hy with e | e
            · exact h y e
            · subst e
              have hz := h z (List.mem_of_getElem? hq)
              have hd : allPl (t.drop 1) = true := List.all_eq_true.2 fun x hx => List.all_eq_true.1 ht0 x (List.mem_of_mem_drop hx)
              simp only [allPl, List.all_append, List.all_cons, List.all_nil, Bool.and_true, Bool.and_eq_true] at hz hd ⊢
              exact ⟨hz, by decide, hd⟩
      · refine hr _ htr fun y hy => ?_
        rcases List.mem_append.1 hy with e | e
        · exact h y e
        · have : y = ⟨((i + 1 : Nat) : Int), t⟩ := by simpa using e
          subst this; exact ht0

def LL (s : List UInt8) : List TLine × Int × Int := if vSrc s = true then (if 0 < (cmb (linesOf s) 0 []).2 then ([], (cmb (linesOf s) 0 []).2, 2) else ((cmb (linesOf s) 0 []).1.flatMap lgF, 0, 0)) else ([], 0, 1)

theorem LL_bd {s : List UInt8} (h : vSrc s = true) : BdL 150 (cmb (linesOf s) 0 []).1 ∧ ∀ y ∈ (cmb (linesOf s) 0 []).1, ∀ p ∈ sst 0 [] y.fText, p.length ≤ 1000000 := by
  obtain ⟨_, h2, h3, _⟩ := vSrc_parts h
  have hb := cmb_bd (linesOf s) 0 [] h3 ⟨by simp, fun y hy => by cases hy⟩
  have hb2 : BdL 150 (cmb (linesOf s) 0 []).1 := ⟨by have := hb.1; omega, fun y hy => by have := hb.2 y hy; omega⟩
  exact ⟨hb2, fun y hy p hp => by have := sst_each _ _ _ p hp; have := hb2.2 y hy; simp at *; omega⟩

theorem i_LogicalLines_ok {s : List UInt8} (h : s.length ≤ 1000000) : i_LogicalLines s = some (LL s) := by
  rw [i_LogicalLines_eq, i_ValidSource_ok h]
  simp only [Option.bind_some]
  unfold LL
  by_cases hv : vSrc s = true
  · obtain ⟨h1, h2, h3, _⟩ := vSrc_parts hv
    obtain ⟨b1, b2⟩ := LL_bd hv
    simp only [hv, Bool.not_true, Bool.false_eq_true, if_false, if_true]
    rw [i_combine_ok h1 (by omega) h3]
    simp only [Option.bind_some]
    by_cases c : 0 < (cmb (linesOf s) 0 []).2
    · rw [if_pos (by simpa using c), if_pos c]
    · rw [if_neg (by simpa using c), if_neg c]
      exact (lg_both b1 b2).1
  · simp [hv]

theorem s_LogicalLines_ok {s : List UInt8} (h : s.length ≤ 1000000) : s_LogicalLines s = some (LL s) := by
  rw [s_LogicalLines_eq, s_ValidSource_ok h]
  simp only [Option.bind_some]
  unfold LL
  by_cases hv : vSrc s = true
  · obtain ⟨h1, h2, h3, _⟩ := vSrc_parts hv
    obtain ⟨b1, b2⟩ := LL_bd hv
    simp only [hv, Bool.not_true, Bool.false_eq_true, if_false, if_true]
    rw [s_SplitLines_ok h]
    simp only [Option.bind_some]
    rw [s_L6_ok (by omega) h3]
    by_cases c : 0 < (cmb (linesOf s) 0 []).2
    · rw [if_pos c, if_pos c]
    · rw [if_neg c, if_neg c]
      exact (lg_both b1 b2).2
  · simp [hv]

/-- what is known of a logical line -/
def lnOk (y : TLine) : Prop := blankB y.fText = false ∧ allPl y.fText = true ∧ sst 0 [] y.fText = [y.fText]

theorem LL_ok {s : List UInt8} : ∀ y ∈ (LL s).1, lnOk y := by
  intro y hy
  unfold LL at hy
  split at hy
  · rename_i hv
    split at hy
    · cases hy
    · obtain ⟨_, _, _, h4⟩ := vSrc_parts hv
      obtain ⟨z, hz, hyz⟩ := List.mem_flatMap.1 hy
      have hzp := cmb_pl (linesOf s) 0 [] h4 (fun y hy => by cases hy) z hz
      unfold lgF at hyz
      obtain ⟨p, hp, hyp⟩ := List.mem_flatMap.1 hyz
      split at hyp
      · cases hyp
      · rename_i hb
        have : y = ⟨z.fNumber, p⟩ := by simpa using hyp
        subst this
        exact ⟨by simpa using hb, sst_pl z.fText 0 [] rfl hzp p hp, sst_piece z.fText 0 [] (fun r => by simp) p hp⟩
  · cases hy

def jn (L : List TLine) : List UInt8 := L.flatMap fun y => y.fText ++ [10]

def enL : List TLine → Nat → List TLine
  | [], _ => []
  | y :: r, i => ⟨((i + 1 : Nat) : Int), y.fText⟩ :: enL r (i + 1)

theorem enL_len : ∀ (L : List TLine) (i : Nat), (enL L i).length = L.length
  | [], _ => rfl
  | y :: r, i => by simp [enL, enL_len r]

theorem enL_get : ∀ (L : List TLine) (k i : Nat), (enL L k)[i]? = (L[i]?).map fun y => ⟨((k + i + 1 : Nat) : Int), y.fText⟩
  | [], k, i => by simp [enL]
  | y :: r, k, 0 => by simp [enL]
  | y :: r, k, i + 1 => by
    simp only [enL, List.getElem?_cons_succ, enL_get r (k + 1) i]
    congr 1
    funext z
    congr 2
    omega

theorem pl_no10 {t : List UInt8} (h : allPl t = true) : ∀ b ∈ t, b ≠ 10 := by
  intro b hb e
  subst e
  have := List.all_eq_true.1 h 10 hb
  exact absurd this (by decide)

theorem spl_jn : ∀ (M : List TLine) (r : List UInt8), (∀ y ∈ M, allPl y.fText = true) → spl 10 (jn M ++ r) = M.map (·.fText) ++ spl 10 r
  | [], r, _ => rfl
  | y :: M, r, h => by
    have e : jn (y :: M) ++ r = y.fText ++ 10 :: (jn M ++ r) := by simp [jn]
    rw [e, spl_app 10 _ _ (pl_no10 (h y (by simp))), spl_jn M r fun z hz => h z (by simp [hz])]
    rfl

theorem linesOf_jn {L : List TLine} (h : ∀ y ∈ L, allPl y.fText = true) : linesOf (jn L) = L.map (·.fText) := by
  cases hr : L.reverse with
  | nil =>
    have : L = [] := by simpa using hr
    subst this; rfl
  | cons y M =>
    have e : L = M.reverse ++ [y] := by rw [← List.reverse_reverse L, hr]; simp
    subst e
    have e2 : jn (M.reverse ++ [y]) = (jn M.reverse ++ y.fText) ++ [10] := by simp [jn]
    rw [e2, linesOf_snoc, spl_jn _ _ (fun z hz => h z (by simp at hz ⊢; exact .inl hz)), spl_none 10 _ (pl_no10 (h y (by simp)))]
    simp

theorem cmb_plain : ∀ (L : List TLine) (i : Nat) (a : List TLine), (∀ y ∈ L, blankB y.fText = false ∧ cmtB y.fText = false ∧ conB y.fText = false) → cmb (L.map (·.fText)) i a = (a ++ enL L i, 0)
  | [], i, a, _ => by simp [cmb, enL]
  | y :: L, i, a, h => by
    obtain ⟨h1, h2, h3⟩ := h y (by simp)
    simp only [List.map_cons, cmb, h1, h2, h3, Bool.or_self, Bool.false_eq_true, if_false, enL]
    rw [cmb_plain L (i + 1) _ fun z hz => h z (by simp [hz])]
    simp

theorem lgF_one {y : TLine} {n : Int} (h : lnOk y) : lgF ⟨n, y.fText⟩ = [⟨n, y.fText⟩] := by
  unfold lgF
  simp only [h.2.2, List.flatMap_cons, h.1, Bool.false_eq_true, if_false, List.flatMap_nil, List.append_nil]

theorem enL_lgF : ∀ (L : List TLine) (i : Nat), (∀ y ∈ L, lnOk y) → (enL L i).flatMap lgF = enL L i
  | [], _, _ => rfl
  | y :: L, i, h => by
    simp only [enL, List.flatMap_cons, lgF_one (h y (by simp)), enL_lgF L (i + 1) fun z hz => h z (by simp [hz])]
    rfl

theorem LL_again {L : List TLine} (h : ∀ y ∈ L, lnOk y) (hc : ∀ y ∈ L, cmtB y.fText = false ∧ conB y.fText = false) (hl : L.length ≤ 120) (hj : (jn L).length ≤ 4000) : LL (jn L) = (enL L 0, 0, 0) := by
  have hlines := linesOf_jn fun y hy => (h y hy).2.1
  have hv : vSrc (jn L) = true := by
    unfold vSrc
    rw [hlines]
    simp only [Bool.and_eq_true, decide_eq_true_eq, List.length_map]
    refine ⟨⟨hj, ?_⟩, hl⟩
    rw [List.all_eq_true]
    intro b hb
    obtain ⟨y, hy, hby⟩ := List.mem_flatMap.1 hb
    rcases List.mem_append.1 hby with e | e
    · have := List.all_eq_true.1 (h y hy).2.1 b e
      simp [isPr, this]
    · have : b = 10 := by simpa using e
      subst this; decide
  unfold LL
  rw [if_pos hv, hlines, cmb_plain L 0 [] fun y hy => ⟨(h y hy).1, hc y hy⟩]
  simp only [Int.lt_irrefl, if_false, List.nil_append, enL_lgF L 0 h]

theorem jn_ib : ∀ L : List TLine, (jn L).map ib = L.flatMap fun y => (y.fText ++ [10]).map ib
  | [] => rfl
  | x :: r => by
    have := jn_ib r
    simp only [jn] at this ⊢
    simp only [List.flatMap_cons, List.map_append, this]

theorem i_JoinLines_ok {L : List TLine} (h : L.length ≤ 100000) (h2 : (jn L).length ≤ 68719476736) : i_JoinLines L = some (jn L) := by
  rw [i_JoinLines_eq]
  have e0 : i_JoinLines_L3 L (len L) 0 [] = i_JoinLines_L3_v1 L (len L) 0 [] := by rw [i_JoinLines_L3_eq, i_JoinLines_L3_v1_eq]
  have := cat_loop (xs := L) (by omega) (f := fun y => (y.fText ++ [10]).map ib) (J := fun i a => i_JoinLines_L3_v1 L (len L) i a) (B := 68719476736) (by
    intro i y a hlt hy hi hw hb
    show i_JoinLines_L3_v1 L (len L) i a = i_JoinLines_L3_v1 L _ _ _
    rw [i_JoinLines_L3_v1_eq]
    have hc : decide ((i : Int) < len L) = true := by simp [len_eq, hlt]
    rw [if_pos hc, hi]
    simp only [Option.bind_some]
    rw [app_of (by simp only [List.length_map, List.length_append] at hb ⊢; omega)]
    simp only [Option.bind_some]
    rw [show (fun b : UInt8 => ib b) = ib from rfl, app_of hb, hw]
    rfl) (by rw [← jn_ib, List.length_map]; exact h2)
  rw [e0, show i_JoinLines_L3_v1 L (len L) 0 [] = _ from this, i_JoinLines_L3_v1_eq, ← jn_ib]
  simp [len_eq, bytesOf_ib]

theorem L15_ok : ∀ (n k : Nat) (x : List UInt8) {c : List Int} {a s B : Int}, k + n = 130 → x.length ≤ 1000 + k → SrcOk c a B → Dr (s_l01DrawText_L15 x (k : Int) c a s) B (fun v => v.length ≤ 5000)
  | 0, k, x, c, a, s, B, hk, hx, h => by
    rw [s_l01DrawText_L15_eq, if_neg (by simp; omega), s_l01DrawText_L18_eq]
    exact Dr.some h (by omega)
  | n + 1, k, x, c, a, s, B, hk, hx, h => by
    rw [s_l01DrawText_L15_eq, if_pos (by simp; omega), app_of (by simp; omega)]
    simp only [Option.bind_some]
    rw [w64_of (by omega) (by omega), show (k : Int) + 1 = ((k + 1 : Nat) : Int) by omega]
    exact L15_ok n (k + 1) _ (by omega) (by simp; omega) h

theorem line_ok {c : List Int} {a s B : Int} (h : SrcOk c a B) (hB : B ≤ 4611686018427387000) : Dr (s_l01DrawLine c a s) (B + 2) (fun v => v.length ≤ 15) := by
  rw [s_l01DrawLine_eq]
  refine (s_l00Src_text_ok _ (by simp) h hB).bind fun v c2 a2 s2 h2 hv => ?_
  refine Dr.some h2 ?_
  have : ∀ v ∈ ([[32, 65, 32, 61, 32, 49], [76, 32, 66, 32, 67], [], [32, 32, 32], [42, 32, 110, 111, 116, 101], [43, 32, 109, 111, 114, 101], [32, 88, 32, 61, 32, 39, 97, 59, 98, 39, 59, 89, 32, 90], [59, 59], [32, 39, 32, 111, 112, 101, 110], [65, 59, 66, 59, 67], [32, 80, 32, 61, 32, 34, 105, 116, 39, 115, 34], [69, 78, 68]] : List (List UInt8)), v.length ≤ 15 := by decide
  exact this v hv

theorem L3_ok : ∀ (k : Nat) (x : List UInt8) {c : List Int} {a s B : Int}, k ≤ 10 → x.length + 20 * k ≤ 900 → SrcOk c a B → B + 10 * k ≤ 4611686018427380000 → Dr (s_l01DrawText_L3 x (k : Int) c a s) (B + 10 * k + 10) (fun v => v.length ≤ 5000)
  | 0, x, c, a, s, B, hk, hx, h, hB => by
    rw [s_l01DrawText_L3_eq, if_neg (by simp)]
    refine (s_l00Src_pick_ok 20 h (by omega)).bind fun v c2 a2 s2 h2 hv => ?_
    have h2' := h2.le (B' := B + 10 * ((0 : Nat) : Int) + 10) (by omega)
    simp only
    split
    · rw [app_of (by simp; omega)]
      simp only [Option.bind_some, s_l01DrawText_L18_eq]
      exact Dr.some h2' (by simp; omega)
    · split
      · have := mk_of (n := 5) (0 : Int) (by omega)
        rw [show ((5 : Nat) : Int) = 5 from rfl] at this
        rw [this]
        simp only [Option.bind_some]
        rw [app_of (by simp; omega)]
        simp only [Option.bind_some, s_l01DrawText_L18_eq]
        exact Dr.some h2' (by simp; omega)
      · split
        · exact L15_ok 130 0 x (by omega) (by omega) h2'
        · rw [s_l01DrawText_L18_eq]; exact Dr.some h2' (by omega)
  | k + 1, x, c, a, s, B, hk, hx, h, hB => by
    rw [s_l01DrawText_L3_eq, if_pos (by first | (simp; done) | (simp; omega))]
    refine (line_ok h (by omega)).bind fun v c2 a2 s2 h2 hv => ?_
    try simp only
    rw [app_of (by omega)]
    simp only [Option.bind_some, s_l01DrawText_L4_eq]
    have e1 : w64 (((k + 1 : Nat) : Int) - 1) = (k : Int) := by rw [w64_of (by omega) (by omega)]; omega
    rw [e1]
    have happ : app (x ++ v) [10] = some (x ++ v ++ [10]) := app_of (by simp; omega)
    rw [happ]
    simp only [Option.bind_some]
    split
    · exact (L3_ok k _ (by omega) (by simp; omega) h2 (by omega)).le (by omega) fun _ h => h
    · refine (s_l00Src_one_ok 2 h2 (by omega)).bind fun v2 c3 a3 s3 h3 _ => ?_
      simp only
      split
      · exact (L3_ok k _ (by omega) (by simp; omega) h3 (by omega)).le (by omega) fun _ h => h
      · exact (L3_ok k _ (by omega) (by simp; omega) h3 (by omega)).le (by omega) fun _ h => h

theorem draw_ok {x : List Int} (h : BytesOk x) : ∃ t, s_DrawLogicalLines x = some t ∧ t.length ≤ 5000 := by
  rw [s_DrawLogicalLines_eq, s_l01DrawText_eq]
  have hs : SrcOk x 0 0 := ⟨h.2, h.1, by omega, by omega⟩
  have : Dr ((s_l00Src_pick 7 x 0 0).bind fun r200 => s_l01DrawText_L3 [] (Prod.fst r200) (Prod.fst (Prod.fst (Prod.snd r200))) (Prod.fst (Prod.snd (Prod.fst (Prod.snd r200)))) (Prod.fst (Prod.snd (Prod.snd (Prod.fst (Prod.snd r200)))))) 1000 (fun v => v.length ≤ 5000) := by
    refine (s_l00Src_pick_ok 7 hs (by omega)).bind fun v c2 a2 s2 h2 hv => ?_
    obtain ⟨k, rfl⟩ : ∃ k : Nat, v = k := ⟨v.toNat, by omega⟩
    have := hv.2.1 (by omega)
    exact (L3_ok k [] (by omega) (by simp; omega) h2 (by omega)).le (by omega) fun _ h => h
  obtain ⟨v, c, a, s, e, _, hl⟩ := this
  exact ⟨v, by rw [e]; rfl, hl⟩

theorem L24_ok {L : List TLine} (h : L.length ≤ 100000) : l_FnLines_L24 L (enL L 0) 0 = some true := by
  refine loop_ind (xs := L) (by omega) (P := fun i _ => l_FnLines_L24 L (enL L 0) (i : Int) = some true) ?_ ?_
  · rw [l_FnLines_L24_eq]; simp [len_eq]
  · intro i y l _ hlt hy hi hw ih
    rw [l_FnLines_L24_eq]
    have hc : decide ((i : Int) < len L) = true := by simp [len_eq, hlt]
    have hg : L[i]? = some y := by rw [← idx_nat]; exact hi
    have he : idx (enL L 0) (i : Int) = some ⟨((i + 1 : Nat) : Int), y.fText⟩ := by rw [idx_nat, enL_get, hg]; simp
    simp only [hc, if_true, hi, he, Option.bind_some, hw, ih, beq_self_eq_true, bne_self_eq_false, Bool.not_true, Bool.false_eq_true, if_false]

theorem L11_ok {L : List TLine} (h : ∀ y ∈ L, lnOk y) (hl : L.length ≤ 120) (hb : ∀ y ∈ L, y.fText.length ≤ 1000000) : l_FnLines_L11 L 0 = some true := by
  have fin : (∀ y ∈ L, cmtB y.fText = false ∧ conB y.fText = false) → l_FnLines_L11 L (L.length : Int) = some true := by
    intro hc
    rw [l_FnLines_L11_eq]
    have e : decide ((L.length : Int) < len L) = false := by simp [len_eq]
    have hj : (jn L).length ≤ 68719476736 := by
      have := flatLen (f := fun y : TLine => y.fText ++ [10]) (B := 1000001) (l := L) (fun y hy => by have := hb y hy; simp; omega)
      have h2 : L.length * 1000001 ≤ 120 * 1000001 := Nat.mul_le_mul_right _ hl
      unfold jn; omega
    simp only [e, Bool.false_eq_true, if_false, i_JoinLines_ok (L := L) (by omega) hj, Option.bind_some]
    by_cases c : (jn L).length > 4000
    · rw [if_pos (by simp [len_eq]; omega)]
    · rw [if_neg (by simp [len_eq]; omega), i_LogicalLines_ok (by omega), LL_again h hc hl (by omega)]
      have e2 : (len (enL L 0) != len L) = false := by simp [len_eq, enL_len]
      simp only [Option.bind_some, bne_self_eq_false, Bool.false_eq_true, if_false, e2]
      exact L24_ok (by omega)
  have key := loop_ind (xs := L) (by omega) (P := fun i l => (∀ y ∈ l, y ∈ L) → (∀ y ∈ L.take i, cmtB y.fText = false ∧ conB y.fText = false) → L.drop i = l → l_FnLines_L11 L (i : Int) = some true) (by
    intro _ hp _
    rw [List.take_length] at hp
    exact fin hp) (by
    intro i y l hd hlt hy hi hw ih hm hp _
    have hd2 : L.drop (i + 1) = l := by
      have := List.drop_eq_getElem_cons hlt
      rw [hd] at this
      exact (List.cons.inj this).2.symm
    have hy2 : L[i] = y := by
      have := List.drop_eq_getElem_cons hlt
      rw [hd] at this
      exact (List.cons.inj this).1.symm
    rw [l_FnLines_L11_eq]
    have hc : decide ((i : Int) < len L) = true := by simp [len_eq, hlt]
    obtain ⟨q1, _, _⟩ := h y hy
    cases ht : y.fText with
    | nil => rw [ht] at q1; cases q1
    | cons b r =>
      have e0 : ((b :: r) == ([] : List UInt8)) = false := rfl
      simp only [hc, if_true, hi, Option.bind_some, ht, e0, Bool.false_eq_true, if_false, idx_zero, List.getElem?_cons_zero, hw]
      by_cases c1 : b = 42
      · subst c1
        rw [if_pos (by decide)]
      · have d1 : (ib b == (42 : Int)) = false := by
          rw [beq_eq_false_iff_ne]; intro e; exact c1 (ib_inj.1 (e.trans (by decide)))
        rw [if_neg (by rw [d1]; simp)]
        by_cases c2 : b = 43
        · subst c2
          rw [if_pos (by decide)]
        · have d2 : (ib b == (43 : Int)) = false := by
            rw [beq_eq_false_iff_ne]; intro e; exact c2 (ib_inj.1 (e.trans (by decide)))
          rw [if_neg (by rw [d2]; simp)]
          refine ih (fun z hz => hm z (by simp [hz])) (fun z hz => ?_) hd2
          rw [List.take_succ_eq_append_getElem hlt] at hz
          rcases List.mem_append.1 hz with e | e
          · exact hp z e
          · have : z = y := by rw [← hy2]; simpa using e
            subst this
            rw [ht]
            exact ⟨by simpa [cmtB] using c1, by simpa [conB] using c2⟩)
  exact key (fun y hy => hy) (by simp) (by simp)

theorem l_FnLines_ok {x : List Int} (h : BytesOk x) : l_FnLines x = some true := by
  rw [l_FnLines_eq, l_c2Long_eq]
  simp only [Option.bind_some]
  split
  · rfl
  · obtain ⟨t, ht, hl⟩ := draw_ok h
    rw [ht]
    simp only [Option.bind_some, i_LogicalLines_ok (s := t) (by omega), s_LogicalLines_ok (s := t) (by omega), bne_self_eq_false, Bool.false_eq_true, if_false, l_FnLines_L7_eq, beq_self_eq_true, if_true]
    split
    · rfl
    · rw [l_FnLines_L8_eq]
      split
      · rfl
      · rename_i hc
        have hlen : (LL t).1.length ≤ 120 := by
          simp only [len_eq, decide_eq_true_eq] at hc; omega
        refine L11_ok LL_ok hlen fun y hy => ?_
        unfold LL at hy
        split at hy
        · rename_i hv
          split at hy
          · cases hy
          · obtain ⟨b1, b2⟩ := LL_bd hv
            obtain ⟨z, hz, hyz⟩ := List.mem_flatMap.1 hy
            unfold lgF at hyz
            obtain ⟨p, hp, hyp⟩ := List.mem_flatMap.1 hyz
            split at hyp
            · cases hyp
            · have : y = ⟨z.fNumber, p⟩ := by simpa using hyp
              subst this
              exact b2 z hz p hp
        · cases hy

end Go.Dv.U
