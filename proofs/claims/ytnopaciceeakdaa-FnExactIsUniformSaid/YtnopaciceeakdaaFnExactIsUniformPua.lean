/- Plain laws about these equations. -/
import Derived.Test.YtnopaciceeakdaaFnExactIsUniformEqa
set_option linter.all false
set_option linter.unusedVariables false
set_option linter.unusedSimpArgs false
namespace Go.Dv.U

open Go Go.Dv Go.Proofs

theorem TPattern.ind {P : TPattern → Prop} (h : ∀ x, (∀ y ∈ x.fKids, P y) → P x) : ∀ x, P x := by
  intro x
  exact TPattern.rec (motive_1 := P) (motive_2 := fun l => ∀ y ∈ l, P y) (fun k n t ks ih => h ⟨k, n, t, ks⟩ ih) (fun y hy => by cases hy)
    (fun a l ha hl y hy => by
      cases hy with
      | head => exact ha
      | tail _ hy => exact hl y hy) x

mutual
def TPattern.m : TPattern → Nat
  | ⟨_, _, t, ks⟩ => t.length + (ks.length + TPattern.ms ks)
def TPattern.ms : List TPattern → Nat
  | [] => 0
  | y :: r => TPattern.m y + TPattern.ms r
end

theorem TPattern.ms_eq : ∀ l, TPattern.ms l = sumOf TPattern.m l
  | [] => rfl
  | y :: r => by simp only [TPattern.ms, sumOf, TPattern.ms_eq r]

theorem TPattern.m_eq (x : TPattern) : x.m = x.fText.length + (x.fKids.length + sumOf TPattern.m x.fKids) := by
  rw [← TPattern.ms_eq]; cases x; rfl

/-- integers and lengths are the machine's -/
inductive TPattern.Ok : TPattern → Prop
  | mk (x : TPattern) (h0 : (-9223372036854775808 ≤ x.fKind ∧ x.fKind ≤ 9223372036854775807) ∧ (-9223372036854775808 ≤ x.fNum ∧ x.fNum ≤ 9223372036854775807) ∧ x.fText.length ≤ 9223372036854775807 ∧ x.fKids.length ≤ 9223372036854775807)
      (h1 : ∀ y ∈ x.fKids, TPattern.Ok y) : TPattern.Ok x

theorem szPatternS_of {xs : List TPattern} (hx : xs.length ≤ 9223372036854775807)
    (hF : ∀ y ∈ xs, ∀ b : Int, 0 ≤ b → b < 4611686018427387904 → l_szPattern y b = some (minus b (TPattern.m y))) {b : Int} (h0 : 0 ≤ b) (h1 : b < 4611686018427387904) :
    l_szPatternS xs b = some (minus b (xs.length + sumOf TPattern.m xs)) := by
  rw [l_szPatternS_eq]
  obtain ⟨e1, e2⟩ := minus_len (l := xs) h0 h1 hx
  by_cases c : minus b xs.length < 0
  · simp only [e1.2 c, decide_true, if_true, minus_neg c]
  · rw [if_neg (by simpa using fun h => c (e1.1 h)), e2 c, sz_loop hx (J := l_szPatternS_L5) (F := l_szPattern) (m := TPattern.m) (fun b i => by rw [l_szPatternS_L5_eq]; simp only [TPattern.re_eq]) hF _ (minus_nonneg c) (minus_lt (by omega) h1), minus_minus c]

theorem szPattern_ok : ∀ x : TPattern, x.Ok → ∀ b : Int, 0 ≤ b → b < 4611686018427387904 → l_szPattern x b = some (minus b x.m) := by
  intro x
  induction x using TPattern.ind with
  | h x ih =>
    intro hok b h0 h1
    obtain ⟨_, ⟨_, _, k1, k2⟩, k3⟩ := hok
    rw [l_szPattern_eq, TPattern.m_eq]
    obtain ⟨e1, e2⟩ := minus_len (l := x.fText) h0 h1 k1
    by_cases c : minus b x.fText.length < 0
    · simp only [e1.2 c, decide_true, if_true, minus_neg c]
    rw [if_neg (by simpa using fun h => c (e1.1 h)), e2 c, szPatternS_of k2 (fun y hy b h0 h1 => ih y hy (k3 y hy) b h0 h1) (minus_nonneg c) (minus_lt (by omega) h1), minus_minus c]
    simp only [Option.bind_some]
    generalize hq : minus b _ = q
    by_cases c : q < 0
    · simp only [c, decide_true, if_true]
      rw [← hq] at c ⊢
      rw [minus_neg' c]
    · simp only [c, decide_false, Bool.false_eq_true, if_false]

theorem TPattern.m_kid {x y : TPattern} (h : y ∈ x.fKids) : y.m + x.fKids.length ≤ x.m := by
  have := sumOf_mem (m := TPattern.m) h
  rw [TPattern.m_eq x]; omega

theorem toPatternS_of {xs : List TPattern} (hx : xs.length ≤ 1099511627776) (hF : ∀ y ∈ xs, l_toPattern y = some y) : l_toPatternS xs = some xs := by
  rw [l_toPatternS_eq, mk_len _ _ hx]
  simp only [Option.bind_some]
  exact to_loop (by omega) (J := l_toPatternS_L3) (F := l_toPattern) (fun i zs => by rw [l_toPatternS_L3_eq]; simp only [TPattern.re_eq]) hF _ (by simp)

theorem toPattern_ok : ∀ x : TPattern, x.m ≤ 1048576 → l_toPattern x = some x := by
  intro x
  induction x using TPattern.ind with
  | h x ih =>
    intro hm
    have := x.m_eq
    rw [l_toPattern_eq, toPatternS_of (by omega) fun y hy => ih y hy (by have := TPattern.m_kid hy; omega)]
    simp only [Option.bind_some, TPattern.eta]

theorem eqPatternS_of {xs : List TPattern} (hx : xs.length ≤ 1099511627776) (hF : ∀ y ∈ xs, l_eqPattern y y = some true) : l_eqPatternS xs xs = some true := by
  rw [l_eqPatternS_eq]
  simp only [bne_self_eq_false, Bool.false_eq_true, if_false]
  exact eq_loop (by omega) (J := l_eqPatternS_L4) (F := l_eqPattern) (fun i => by rw [l_eqPatternS_L4_eq]; simp only [TPattern.re_eq]) hF

theorem eqPattern_ok : ∀ x : TPattern, x.m ≤ 1048576 → l_eqPattern x x = some true := by
  intro x
  induction x using TPattern.ind with
  | h x ih =>
    intro hm
    have := x.m_eq
    rw [l_eqPattern_eq, eqPatternS_of (by omega) fun y hy => ih y hy (by have := TPattern.m_kid hy; omega)]
    simp

end Go.Dv.U

namespace Go.Dv.U

open Go Go.Dv Go.Proofs

def isLet (b : Int) : Bool := (decide (65 ≤ b) && decide (b ≤ 90)) || (decide (97 ≤ b) && decide (b ≤ 122))

def isDig (b : Int) : Bool := decide (48 ≤ b) && decide (b ≤ 57)

def isNmB (b : Int) : Bool := isLet b || isDig b || b == 95

theorem i_isLetter_ok (b : Int) : i_isLetter b = some (isLet b) := by
  rw [i_isLetter_eq]; unfold isLet; grind

theorem s_l02Letter_ok (b : Int) : s_l02Letter b = some (isLet b) := by
  rw [s_l02Letter_eq]; unfold isLet; grind

theorem i_isDigit_ok (b : Int) : i_isDigit b = some (isDig b) := by
  rw [i_isDigit_eq]; unfold isDig; grind

theorem s_l02Digit_ok (b : Int) : s_l02Digit b = some (isDig b) := by
  rw [s_l02Digit_eq]; unfold isDig; grind

theorem i_isNameByte_ok (b : Int) : i_isNameByte b = some (isNmB b) := by
  rw [i_isNameByte_eq, i_isLetter_ok, i_isDigit_ok]; unfold isNmB
  simp only [Option.bind_some]; grind

/-- a name -/
def isName (s : List UInt8) : Bool := match s with
  | [] => false
  | b :: _ => decide (s.length ≤ 12) && isLet (ib b) && s.all fun c => isNmB (ib c)

theorem i_areAllNm_ok {s : List UInt8} (h : s.length ≤ 9223372036854775807) : i_areAll_byte__i_isNameByte (s.map ib) = some (s.all fun c => isNmB (ib c)) := by
  rw [i_areAll_byte__i_isNameByte_eq]
  have := all_loop (xs := s.map ib) (by simpa using h) (F := i_isNameByte) (p := isNmB) (J := i_areAll_byte_L2__i_isNameByte (s.map ib) (len (s.map ib))) (fun i => by rw [i_areAll_byte_L2__i_isNameByte_eq]) (fun y _ => i_isNameByte_ok y)
  rw [this, List.all_map]
  rfl

theorem i_IsName_ok {s : List UInt8} : i_IsName s = some (isName s) := by
  rw [i_IsName_eq]
  cases s with
  | nil => simp [isName, len_eq]
  | cons b r =>
    by_cases h : (b :: r).length ≤ 12
    · have h1 : decide (len (b :: r) ≥ 1) = true := by simp only [len_eq, List.length_cons, decide_eq_true_eq]; omega
      have h2 : decide (len (b :: r) ≤ 12) = true := by simp only [len_eq, decide_eq_true_eq]; omega
      rw [if_pos h1, if_pos h2, idx_zero]
      simp only [List.getElem?_cons_zero, Option.bind_some, i_isLetter_ok]
      have := i_areAllNm_ok (s := b :: r) (by omega)
      simp only [List.map_cons] at this ⊢
      rw [this]
      simp only [isName, h, decide_true, Bool.true_and, Option.bind_some]
      cases isLet (ib b) <;> simp
    · have h2 : ¬ decide (len (b :: r) ≤ 12) = true := by simp only [len_eq, decide_eq_true_eq]; omega
      rw [if_neg h2]
      simp only [isName, h, decide_false, Bool.false_and]
      split <;> rfl

/-- how many bytes from the start on belong to a name -/
def nmRun : List UInt8 → Nat
  | [] => 0
  | b :: r => if isNmB (ib b) then nmRun r + 1 else 0

theorem nmRun_all : ∀ s, nmRun s = s.length ↔ (s.all fun c => isNmB (ib c)) = true
  | [] => by simp [nmRun]
  | b :: r => by
    have := nmRun_all r
    simp only [nmRun, List.length_cons, List.all_cons, Bool.and_eq_true]
    cases isNmB (ib b)
    · simp
    · simp [this]

theorem s_l02NameEnd_L3_ok {s : List UInt8} (h : s.length ≤ 9223372036854775807) : ∀ (n i : Nat), i + n = s.length → s_l02NameEnd_L3 s i = some ((i + nmRun (s.drop i) : Nat) : Int) := by
  intro n
  induction n with
  | zero =>
    intro i hi
    have : i = s.length := by omega
    subst this
    rw [s_l02NameEnd_L3_eq, s_l02NameEnd_L5_eq, List.drop_length]
    simp [len_eq, nmRun]
  | succ n ih =>
    intro i hi
    have hlt : i < s.length := by omega
    have hc : decide ((i : Int) < len s) = true := by simp [len_eq, hlt]
    rw [s_l02NameEnd_L3_eq, if_pos hc, idx_nat, List.getElem?_eq_getElem hlt, List.drop_eq_getElem_cons hlt]
    simp only [Option.bind_some, s_l02Letter_ok, s_l02Digit_ok, s_l02NameEnd_L4_eq, s_l02NameEnd_L5_eq, nmRun]
    have hw : w64 ((i : Int) + 1) = ((i + 1 : Nat) : Int) := by rw [w64_of (by omega) (by omega)]; omega
    rw [hw, ih (i + 1) (by omega)]
    unfold isNmB
    cases isLet (ib s[i]) <;> cases isDig (ib s[i]) <;> cases hb : (ib s[i] == 95) <;> simp <;> omega

theorem s_l02NameEnd_ok {s : List UInt8} (h : s.length ≤ 9223372036854775807) {i : Nat} (hi : i ≤ s.length) :
    s_l02NameEnd s i = some (match s.drop i with
      | [] => (i : Int)
      | b :: r => if isLet (ib b) then ((i + nmRun (b :: r) : Nat) : Int) else i) := by
  rw [s_l02NameEnd_eq]
  by_cases hlt : i < s.length
  · have hc : ¬ decide ((i : Int) ≥ len s) = true := by simp only [len_eq, decide_eq_true_eq]; omega
    rw [if_neg hc, idx_nat, List.getElem?_eq_getElem hlt, List.drop_eq_getElem_cons hlt]
    simp only [Option.bind_some, s_l02Letter_ok]
    rw [s_l02NameEnd_L3_ok h (s.length - i) i (by omega), List.drop_eq_getElem_cons hlt]
    cases isLet (ib s[i]) <;> simp
  · have : i = s.length := by omega
    subst this
    rw [List.drop_length]
    simp [len_eq]

theorem s_IsName_ok {s : List UInt8} : s_IsName s = some (isName s) := by
  rw [s_IsName_eq]
  cases s with
  | nil => simp [isName]
  | cons b r =>
    have h0 : (!(b :: r) == []) = true := rfl
    rw [if_pos h0]
    by_cases h : (b :: r).length ≤ 12
    · have h2 : decide (len (b :: r) ≤ 12) = true := by simp only [len_eq, decide_eq_true_eq]; omega
      have := s_l02NameEnd_ok (s := b :: r) (by omega) (Nat.zero_le _)
      simp only [Int.natCast_zero, List.drop_zero, Nat.zero_add] at this
      rw [if_pos h2, this]
      simp only [isName, h, decide_true, Bool.true_and, Option.bind_some, len_eq]
      congr 1
      rw [Bool.eq_iff_iff, Bool.and_eq_true, ← nmRun_all]
      cases hL : isLet (ib b)
      · simp; omega
      · simp; omega
    · have h2 : ¬ decide (len (b :: r) ≤ 12) = true := by simp only [len_eq, decide_eq_true_eq]; omega
      rw [if_neg h2]
      simp only [isName, h, decide_false, Bool.false_and]

end Go.Dv.U

namespace Go.Dv.U

open Go Go.Dv Go.Proofs

mutual
def TPattern.n : TPattern → Nat
  | ⟨_, _, _, ks⟩ => 1 + TPattern.ns ks
def TPattern.ns : List TPattern → Nat
  | [] => 0
  | y :: r => TPattern.n y + TPattern.ns r
end

theorem TPattern.ns_eq : ∀ l, TPattern.ns l = sumOf TPattern.n l
  | [] => rfl
  | y :: r => by simp only [TPattern.ns, sumOf, TPattern.ns_eq r]

theorem TPattern.n_eq (x : TPattern) : x.n = 1 + sumOf TPattern.n x.fKids := by
  rw [← TPattern.ns_eq]; cases x; rfl

mutual
def TPattern.all (p : TPattern → Bool) : TPattern → Bool
  | ⟨a, b, c, ks⟩ => p ⟨a, b, c, ks⟩ && TPattern.alls p ks
def TPattern.alls (p : TPattern → Bool) : List TPattern → Bool
  | [] => true
  | y :: r => TPattern.all p y && TPattern.alls p r
end

theorem TPattern.alls_eq (p : TPattern → Bool) : ∀ l, TPattern.alls p l = l.all (TPattern.all p)
  | [] => rfl
  | y :: r => by simp only [TPattern.alls, List.all_cons, TPattern.alls_eq p r]

theorem TPattern.all_eq (p : TPattern → Bool) (x : TPattern) : x.all p = (p x && x.fKids.all (TPattern.all p)) := by
  rw [← TPattern.alls_eq]; cases x; rfl

def pKids (k : Int) : Int := if k = 18 ∨ k = 19 then 2 else if k = 20 ∨ k = 21 ∨ k = 22 then 1 else 0

def pArg (k n : Int) (t : List UInt8) : Bool :=
  if k = 1 then n == 0 && decide (t.length ≤ 200)
  else if 2 ≤ k ∧ k ≤ 5 then n == 0 && (!t == []) && decide (t.length ≤ 200)
  else if 6 ≤ k ∧ k ≤ 10 then t == [] && decide (0 ≤ n) && decide (n ≤ 200)
  else if 21 ≤ k ∧ k ≤ 24 then n == 0 && isName t
  else decide (1 ≤ k) && decide (k ≤ 24) && n == 0 && t == []

def pNode (x : TPattern) : Bool := pArg x.fKind x.fNum x.fText && decide ((x.fKids.length : Int) = pKids x.fKind)

def TPattern.good (x : TPattern) : Bool := x.all pNode

def TPattern.valid (x : TPattern) : Bool := x.good && decide (x.n ≤ 60)

theorem i_kidsOf_ok (k : Int) : i_kidsOf k = some (pKids k) := by
  rw [i_kidsOf_eq, i_kidsOf_L8_eq, i_kidsOf_L9_eq]; unfold pKids; grind

theorem i_within_ok (a b c : Int) : i_within a b c = some (decide (b ≤ a) && decide (a ≤ c)) := by
  rw [i_within_eq]; grind

theorem s_l00In_ok (a b c : Int) : s_l00In a b c = some (decide (b ≤ a) && decide (a ≤ c)) := by
  rw [s_l00In_eq]; grind

theorem i_isShort_ok (t : List UInt8) : i_isShort t = some (decide (t.length ≤ 200)) := by
  rw [i_isShort_eq]; simp only [len_eq]; congr 1; rw [Bool.eq_iff_iff]; simp; omega

theorem i_isArgument_ok (k n : Int) (t : List UInt8) : i_isArgument k n t = some (pArg k n t) := by
  rw [i_isArgument_eq]
  simp only [i_isShort_ok, i_hasSet_eq, i_hasNumber_eq, i_hasName_eq, i_isPatternKind_eq, i_within_ok, i_IsName_ok, Option.bind_some]
  unfold pArg
  simp only [ite_some]
  grind

theorem s_l11Form_ok (k : Int) : s_l11Form k = some (pKids k, if 1 ≤ k ∧ k ≤ 5 then [115] else if 6 ≤ k ∧ k ≤ 10 then [110] else if 21 ≤ k ∧ k ≤ 24 then [120] else []) := by
  have i0 : ib 112 = 112 := by decide
  have l0 : s_l11Form_L7 [] 0 [] 0 = some (0, []) := by rw [s_l11Form_L7_eq]; simp [len_eq]
  have l1 : ∀ b : UInt8, b ≠ 112 → s_l11Form_L7 [b] 0 [] 0 = some (0, [b]) := by
    intro b hb
    have hb' : ¬ ib b = 112 := fun h => hb (ib_inj.1 (h.trans (by decide)))
    rw [s_l11Form_L7_eq, idx_zero]; simp [len_eq, hb', w64_of, cut, app, big]
    rw [s_l11Form_L7_eq]; simp [len_eq]
  have lp : ∀ b : UInt8, b ≠ 112 → s_l11Form_L7 [112, b] 0 [] 0 = some (1, [b]) := by
    intro b hb
    have hb' : ¬ ib b = 112 := fun h => hb (ib_inj.1 (h.trans (by decide)))
    rw [s_l11Form_L7_eq, idx_zero]; simp [len_eq, w64_of, i0]
    rw [s_l11Form_L7_eq, idx_one]; simp [len_eq, hb', w64_of, cut, app, big]
    rw [s_l11Form_L7_eq]; simp [len_eq]
  have p1 : s_l11Form_L7 [112] 0 [] 0 = some (1, []) := by
    rw [s_l11Form_L7_eq, idx_zero]; simp [len_eq, w64_of, i0]
    rw [s_l11Form_L7_eq]; simp [len_eq]
  have p2 : s_l11Form_L7 [112, 112] 0 [] 0 = some (2, []) := by
    rw [s_l11Form_L7_eq, idx_zero]; simp [len_eq, w64_of, i0]
    rw [s_l11Form_L7_eq, idx_one]; simp [len_eq, w64_of, i0]
    rw [s_l11Form_L7_eq]; simp [len_eq]
  rw [s_l11Form_eq]
  by_cases h1 : k = 1
  · subst h1; simp [pKids]
  rw [if_neg (by simpa using h1), s_l11Word_eq]
  unfold pKids
  have a := l1 115 (by decide)
  have b := l1 110 (by decide)
  have c := l1 120 (by decide)
  have d := lp 120 (by decide)
  by_cases h : 2 ≤ k ∧ k ≤ 24
  · have : k = 2 ∨ k = 3 ∨ k = 4 ∨ k = 5 ∨ k = 6 ∨ k = 7 ∨ k = 8 ∨ k = 9 ∨ k = 10 ∨ k = 11 ∨ k = 12 ∨ k = 13 ∨ k = 14 ∨ k = 15 ∨ k = 16 ∨ k = 17 ∨ k = 18 ∨ k = 19 ∨ k = 20 ∨ k = 21 ∨ k = 22 ∨ k = 23 ∨ k = 24 := by omega
    rcases this with rfl | rfl | rfl | rfl | rfl | rfl | rfl | rfl | rfl | rfl | rfl | rfl | rfl | rfl | rfl | rfl | rfl | rfl | rfl | rfl | rfl | rfl | rfl <;> simp [a, b, c, d, p1, p2, l0]
  · have : ∀ j : Int, 2 ≤ j → j ≤ 24 → (k == j) = false := by
      intro j h1 h2; rw [beq_eq_false_iff_ne]; omega
    simp only [this, Int.reduceLE, Bool.false_eq_true, if_false, Option.bind_some, l0]
    grind

theorem s_l11Node_ok (x : TPattern) : s_l11Node x = some (pNode x) := by
  rw [s_l11Node_eq]
  simp only [s_l00In_ok, s_l11Form_ok, s_IsName_ok, Option.bind_some, ite_some, len_eq]
  unfold pNode pArg
  congr 1
  by_cases h : 1 ≤ x.fKind ∧ x.fKind ≤ 24
  · by_cases hk : (x.fKids.length : Int) = pKids x.fKind
    · by_cases c1 : x.fKind ≤ 5
      · grind
      · by_cases c2 : x.fKind ≤ 10
        · grind
        · by_cases c3 : 21 ≤ x.fKind
          · grind
          · grind
    · grind
  · grind

theorem i_countPattern_ok : ∀ x : TPattern, x.m ≤ 1048576 → ∀ c : Int, 0 ≤ c → c ≤ 60 → i_countPattern x c = some (if x.good = true ∧ c + x.n ≤ 60 then c + x.n else 61) := by
  intro x
  induction x using TPattern.ind with
  | h x ih =>
    intro hm c h0 h1
    have hmq := x.m_eq
    have hn := x.n_eq
    have loop : ∀ c : Int, 0 ≤ c → c ≤ 60 → i_countPattern_L5 c x.fKids (len x.fKids) ((0 : Nat) : Int) = some (if x.fKids.all TPattern.good = true ∧ c + sumOf TPattern.n x.fKids ≤ 60 then c + sumOf TPattern.n x.fKids else 61) := by
      refine loop_ind (xs := x.fKids) (by omega) (P := fun i l => ∀ c : Int, 0 ≤ c → c ≤ 60 → i_countPattern_L5 c x.fKids (len x.fKids) i = some (if l.all TPattern.good = true ∧ c + sumOf TPattern.n l ≤ 60 then c + sumOf TPattern.n l else 61)) ?_ ?_
      · intro c h0 h1
        rw [i_countPattern_L5_eq]
        simp [len_eq, sumOf, h1]
      · intro i y l _ hlt hy hi hw ih2 c h0 h1
        rw [i_countPattern_L5_eq, hi, hw, if_pos (by simp [len_eq, hlt])]
        have hmy := TPattern.m_kid hy
        simp only [Option.bind_some, TPattern.re_eq, ih y hy (by omega) c h0 h1]
        have e : sumOf TPattern.n (y :: l) = y.n + sumOf TPattern.n l := rfl
        rw [e, List.all_cons]
        by_cases hc : y.good = true ∧ c + y.n ≤ 60
        · rw [if_pos hc, if_neg (by simp; omega), ih2 _ (by omega) hc.2]
          congr 1
          by_cases hd : l.all TPattern.good = true ∧ c + y.n + sumOf TPattern.n l ≤ 60
          · rw [if_pos hd, if_pos ⟨Bool.and_eq_true_iff.2 ⟨hc.1, hd.1⟩, by omega⟩]; omega
          · rw [if_neg hd, if_neg fun h => hd ⟨(Bool.and_eq_true_iff.1 h.1).2, by omega⟩]
        · rw [if_neg hc, if_pos (by simp), if_neg fun h => hc ⟨(Bool.and_eq_true_iff.1 h.1).1, by omega⟩]
    have hg : x.good = (pNode x && x.fKids.all TPattern.good) := TPattern.all_eq _ _
    rw [i_countPattern_eq, w64_of (by omega) (by omega)]
    by_cases c1 : c + 1 > 60
    · rw [if_pos (by simpa using c1), i_countPattern_L3_eq, if_neg (by omega)]
    rw [if_neg (by simpa using c1), i_isArgument_ok, i_kidsOf_ok, i_countPattern_L3_eq, i_countPattern_L4_eq]
    have := loop (c + 1) (by omega) (by omega)
    simp only [Int.natCast_zero] at this
    rw [this]
    simp only [Option.bind_some, len_eq]
    unfold pNode at hg
    rw [hg]
    cases ha : pArg x.fKind x.fNum x.fText
    · simp
    · by_cases hk : (x.fKids.length : Int) = pKids x.fKind
      · simp only [hk, Bool.not_true, Bool.false_eq_true, if_false, bne_self_eq_false, decide_true, Bool.true_and]
        congr 1
        by_cases hd : x.fKids.all TPattern.good = true ∧ c + 1 + sumOf TPattern.n x.fKids ≤ 60
        · rw [if_pos hd, if_pos ⟨hd.1, by omega⟩]; omega
        · rw [if_neg hd, if_neg fun h => hd ⟨h.1, by omega⟩]
      · simp [hk]

theorem i_ValidPattern_ok {x : TPattern} (hm : x.m ≤ 1048576) : i_ValidPattern x = some x.valid := by
  rw [i_ValidPattern_eq, TPattern.re_eq, i_countPattern_ok x hm 0 (by omega) (by omega)]
  simp only [Option.bind_some, TPattern.valid]
  congr 1
  by_cases h : x.good = true ∧ (0 : Int) + x.n ≤ 60
  · rw [if_pos h, h.1]; simp; omega
  · rw [if_neg h]
    cases hg : x.good
    · simp
    · simp only [hg, true_and] at h; simp; omega

theorem s_l11Valid_ok : ∀ x : TPattern, x.m ≤ 1048576 → ∀ c : Int, 0 ≤ c → c ≤ 60 → s_l11Valid x c = some (if x.good = true ∧ x.n ≤ c then (x.n : Int) else -1) := by
  intro x
  induction x using TPattern.ind with
  | h x ih =>
    intro hm c h0 h1
    have hmq := x.m_eq
    have hn := x.n_eq
    have loop : ∀ d : Int, 0 ≤ d → d ≤ c → s_l11Valid_L5 c d ((0 : Nat) : Int) x.fKind x.fNum x.fText x.fKids = some (if x.fKids.all TPattern.good = true ∧ d + sumOf TPattern.n x.fKids ≤ c then d + sumOf TPattern.n x.fKids else -1) := by
      refine loop_ind (xs := x.fKids) (by omega) (P := fun i l => ∀ d : Int, 0 ≤ d → d ≤ c → s_l11Valid_L5 c d i x.fKind x.fNum x.fText x.fKids = some (if l.all TPattern.good = true ∧ d + sumOf TPattern.n l ≤ c then d + sumOf TPattern.n l else -1)) ?_ ?_
      · intro d h0 h1
        rw [s_l11Valid_L5_eq]
        simp [len_eq, sumOf, h1]
      · intro i y l _ hlt hy hi hw ih2 d h0 h1
        rw [s_l11Valid_L5_eq, hi, hw, if_pos (by simp [len_eq, hlt])]
        have hmy := TPattern.m_kid hy
        simp only [Option.bind_some, TPattern.re_eq]
        rw [w64_of (by omega) (by omega), ih y hy (by omega) (c - d) (by omega) (by omega)]
        have e : sumOf TPattern.n (y :: l) = y.n + sumOf TPattern.n l := rfl
        rw [e, List.all_cons]
        simp only [Option.bind_some]
        by_cases hc : y.good = true ∧ (y.n : Int) ≤ c - d
        · rw [if_pos hc, if_neg (by simp), w64_of (by omega) (by omega), ih2 _ (by omega) (by omega)]
          congr 1
          by_cases hd : l.all TPattern.good = true ∧ d + y.n + sumOf TPattern.n l ≤ c
          · rw [if_pos hd, if_pos ⟨Bool.and_eq_true_iff.2 ⟨hc.1, hd.1⟩, by omega⟩]; omega
          · rw [if_neg hd, if_neg fun h => hd ⟨(Bool.and_eq_true_iff.1 h.1).2, by omega⟩]
        · rw [if_neg hc, if_pos (by simp), if_neg fun h => hc ⟨(Bool.and_eq_true_iff.1 h.1).1, by omega⟩]
    have hg : x.good = (pNode x && x.fKids.all TPattern.good) := TPattern.all_eq _ _
    rw [s_l11Valid_eq]
    by_cases c1 : c < 1
    · rw [if_pos (by simpa using c1), if_neg (by omega)]
    rw [if_neg (by simpa using c1), TPattern.re_eq, s_l11Node_ok]
    have := loop 1 (by omega) (by omega)
    simp only [Int.natCast_zero] at this
    rw [this, hg]
    simp only [Option.bind_some]
    cases ha : pNode x
    · simp
    · simp only [Bool.not_true, Bool.false_eq_true, if_false, Bool.true_and]
      congr 1
      by_cases hd : x.fKids.all TPattern.good = true ∧ 1 + (sumOf TPattern.n x.fKids : Int) ≤ c
      · rw [if_pos hd, if_pos ⟨hd.1, by omega⟩]; omega
      · rw [if_neg hd, if_neg fun h => hd ⟨h.1, by omega⟩]

theorem s_ValidPattern_ok {x : TPattern} (hm : x.m ≤ 1048576) : s_ValidPattern x = some x.valid := by
  rw [s_ValidPattern_eq, TPattern.re_eq, s_l11Valid_ok x hm 60 (by omega) (by omega)]
  simp only [Option.bind_some, TPattern.valid]
  congr 1
  have := x.n_eq
  by_cases h : x.good = true ∧ (x.n : Int) ≤ 60
  · rw [if_pos h, h.1]; simp; omega
  · rw [if_neg h]
    cases hg : x.good
    · simp
    · simp only [hg, true_and] at h; simp; omega

end Go.Dv.U

namespace Go.Dv.U

open Go Go.Dv Go.Proofs

def pUni (x : TPattern) : Bool := if x.fKind = 1 then x.fText == [] else x.fKind == 6 || x.fKind == 8 || x.fKind == 10 || x.fKind == 11 || x.fKind == 12 || x.fKind == 16 || x.fKind == 23 || x.fKind == 18 || x.fKind == 19 || x.fKind == 20 || x.fKind == 21 || x.fKind == 22

theorem pNode_kids {x : TPattern} (h : pNode x = true) (hk : pKids x.fKind = 0) : x.fKids = [] := by
  unfold pNode at h
  rw [Bool.and_eq_true_iff, hk] at h
  have := of_decide_eq_true h.2
  exact List.eq_nil_of_length_eq_zero (by omega)

theorem TPattern.good_eq (x : TPattern) : x.good = (pNode x && x.fKids.all TPattern.good) := TPattern.all_eq _ _

theorem i_Pattern_isUniform_ok : ∀ x : TPattern, x.m ≤ 1048576 → x.good = true → i_Pattern_isUniform x = some (x.all pUni) := by
  intro x
  induction x using TPattern.ind with
  | h x ih =>
    intro hm hg
    have hmq := x.m_eq
    rw [TPattern.good_eq, Bool.and_eq_true_iff] at hg
    have := all_loop (xs := x.fKids) (by omega) (F := i_Pattern_isUniform) (p := TPattern.all pUni) (J := i_areAll_impl_Pattern_L2__i_Pattern_isUniform x.fKids (len x.fKids))
      (fun i => by rw [i_areAll_impl_Pattern_L2__i_Pattern_isUniform_eq]; simp only [TPattern.re_eq]) (fun y hy => ih y hy (by have := TPattern.m_kid hy; omega) (List.all_eq_true.1 hg.2 y hy))
    rw [i_Pattern_isUniform_eq, TPattern.all_eq]
    simp only [i_Pattern_isUniform_L16_eq, i_Pattern_isUniform_L17_eq, i_areAll_impl_Pattern__i_Pattern_isUniform_eq, this, Option.bind_some]
    generalize hq : x.fKids.all (TPattern.all pUni) = q
    unfold pUni
    by_cases h1 : x.fKind = 1
    · rw [pNode_kids hg.1 (by rw [h1]; rfl)] at hq; subst hq; simp [h1]
    · simp only [h1, if_false]
      grind (splits := 30)

theorem s_l27Uniform_ok : ∀ x : TPattern, x.m ≤ 1048576 → x.good = true → s_l27Uniform x = some (x.all pUni) := by
  intro x
  induction x using TPattern.ind with
  | h x ih =>
    intro hm hg
    have hmq := x.m_eq
    rw [TPattern.good_eq, Bool.and_eq_true_iff] at hg
    have := all_loop (xs := x.fKids) (by omega) (F := s_l27Uniform) (p := TPattern.all pUni) (J := fun i => s_l27Uniform_L18 i x.fKind x.fNum x.fText x.fKids)
      (fun i => by rw [s_l27Uniform_L18_eq]; simp only [TPattern.re_eq]) (fun y hy => ih y hy (by have := TPattern.m_kid hy; omega) (List.all_eq_true.1 hg.2 y hy))
    rw [s_l27Uniform_eq, TPattern.all_eq]
    simp only [s_l27Uniform_L11_eq, s_l27Uniform_L12_eq, s_l27Uniform_L17_eq, s_l27Uniform_L23_eq, this]
    generalize hq : x.fKids.all (TPattern.all pUni) = q
    unfold pUni
    by_cases h1 : x.fKind = 1
    · rw [pNode_kids hg.1 (by rw [h1]; rfl)] at hq; subst hq; simp [h1]
    · by_cases h2 : pKids x.fKind = 0
      · rw [pNode_kids hg.1 h2] at hq; subst hq
        unfold pKids at h2
        simp only [h1, if_false, List.all_nil, Bool.and_true]
        grind (splits := 30)
      · unfold pKids at h2
        simp only [h1, if_false]
        grind (splits := 30)

theorem i_IsUniform_ok {x : TPattern} (hm : x.m ≤ 1048576) : i_IsUniform x = some (x.valid && x.all pUni) := by
  rw [i_IsUniform_eq]
  simp only [TPattern.re_eq, i_ValidPattern_ok hm, Option.bind_some]
  cases h : x.valid
  · simp
  · unfold TPattern.valid at h
    rw [i_Pattern_isUniform_ok x hm (Bool.and_eq_true_iff.1 h).1]; simp

theorem s_IsUniform_ok {x : TPattern} (hm : x.m ≤ 1048576) : s_IsUniform x = some (x.valid && x.all pUni) := by
  rw [s_IsUniform_eq]
  simp only [TPattern.re_eq, s_ValidPattern_ok hm, Option.bind_some]
  cases h : x.valid
  · simp
  · unfold TPattern.valid at h
    rw [s_l27Uniform_ok x hm (Bool.and_eq_true_iff.1 h).1]; simp

theorem l_FnExactIsUniform_ok {x : TPattern} (hok : x.Ok) : l_FnExactIsUniform x = some true := by
  rw [l_FnExactIsUniform_eq]
  simp only [TPattern.re_eq, szPattern_ok x hok 1048576 (by decide) (by decide), Option.bind_some]
  by_cases c : minus 1048576 x.m < 0
  · simp [c]
  · have hm : x.m ≤ 1048576 := by have := minus_le c; omega
    simp [c, toPattern_ok x hm, s_IsUniform_ok hm, i_IsUniform_ok hm, eqPattern_ok x hm]

end Go.Dv.U

namespace Go.Dv.U

open Go Go.Dv Go.Proofs

theorem TPattern.ok_cells : ∀ x : TPattern, (∀ c ∈ GG.cells 23 x, ∀ k, WfV GG k c) → x.Ok := by
  intro x
  induction x using TPattern.ind with
  | h x ih =>
    intro h
    have h : ∀ c ∈ ([.int .i64 x.fKind, .int .i64 x.fNum, .str x.fText, .sl (.st 23) x.fKids] : List (V GG.S)), ∀ k, WfV GG k c := h
    have h0 := wfv_int (h (.int .i64 x.fKind) (by simp) 1)
    have h1 := wfv_int (h (.int .i64 x.fNum) (by simp) 1)
    have h2 := wfv_str (h (.str x.fText) (by simp) 1)
    have h3 := wfv_sl (h (.sl (.st 23) x.fKids) (by simp))
    exact .mk x ⟨h0, h1, h2, h3.1⟩ fun y hy => ih y hy (h3.2 y hy)

theorem TPattern.ok_of {x : TPattern} (h : ∀ k, WfV GG k (inj GG (.st 23) x)) : x.Ok := TPattern.ok_cells x (wfv_st h)

end Go.Dv.U
