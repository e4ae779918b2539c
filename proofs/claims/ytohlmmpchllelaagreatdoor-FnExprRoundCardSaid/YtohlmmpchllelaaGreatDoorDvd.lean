/- An evaluator over the program text and its soundness: what a function returns, as plain equations. It holds for every program that the configuration describes. -/
import Derived.Test.YtohlmmpchllelaaGreatDoorDvc
set_option linter.all false
set_option linter.unusedVariables false
set_option linter.unusedSimpArgs false
namespace Go.Dv
open Go
theorem w64_of {n : Int} (h1 : -9223372036854775808 ≤ n) (h2 : n < 9223372036854775808) : w64 n = n := by
 unfold w64
 rw [IntKind.wrap_i64]; omega
theorem len_eq {α : Type} (l : List α) : len l = (l.length : Int) := by simp [len]
theorem len_nil {α : Type} : len ([] : List α) = 0 := by simp [len]
theorem ib_eq (b : UInt8) : ib b = (b.toNat : Int) := by simp [ib]
theorem ib_lt (b : UInt8) : ib b < 256 := by have := b.toNat_lt; simp only [ib, Int.ofNat_eq_natCast]; omega
theorem ib_nonneg (b : UInt8) : 0 ≤ ib b := by simp only [ib, Int.ofNat_eq_natCast]; omega
theorem ib_inj {a b : UInt8} : ib a = ib b ↔ a = b := by
 simp only [ib, Int.ofNat_eq_natCast]
 constructor
 ·intro h; exact UInt8.toNat_inj.1 (by omega)
 ·intro h; rw [h]
theorem idx_nat {α : Type} (xs : List α) (i : Nat) : idx xs (i : Int) = xs[i]? := by
 have h : (0 : Int) ≤ (i : Int) := by omega
 unfold idx
 rw [if_pos h]
 rfl
theorem idx_zero {α : Type} (xs : List α) : idx xs 0 = xs[0]? := idx_nat xs 0
theorem idx_one {α : Type} (xs : List α) : idx xs 1 = xs[1]? := idx_nat xs 1
theorem idx_of {α : Type} {xs : List α} {i : Int} (h : 0 ≤ i) : idx xs i = xs[i.toNat]? := by unfold idx; rw [if_pos h]
theorem app_of {α : Type} {xs ys : List α} (h : xs.length + ys.length ≤ 68719476736) : app xs ys = some (xs ++ ys) := by
 unfold app big; rw [if_pos h]
theorem mk_of {α : Type} {n : Nat} (z : α) (h : n ≤ 68719476736) : mk (n : Int) z = some (List.replicate n z) := by
 unfold mk big
 rw [if_pos (by omega)]
 rfl
theorem mk_len {α β : Type} (l : List β) (z : α) (h : l.length ≤ 68719476736) : mk (len l) z = some (List.replicate l.length z) := mk_of z h
theorem cut_of {α : Type} {xs : List α} {a b : Nat} (h : a ≤ b) (h2 : b ≤ xs.length) : cut xs (a : Int) (b : Int) = some ((xs.take b).drop a) := by
 unfold cut
 rw [if_pos (by omega)]
 rfl
theorem upd_eq {α : Type} (xs : List α) (i : Nat) (x : α) : upd xs i x = xs.set i x := rfl
theorem ite_some {α : Type} {c : Prop} [Decidable c] (a b : α) : (if c then some a else some b) = some (if c then a else b) := by split <;> rfl
theorem loop_ind {α : Type} {xs : List α} (hx : xs.length ≤ 9223372036854775807) {P : Nat → List α → Prop}
  (h0 : P xs.length [])
  (h1 : ∀ (i : Nat) (y : α) (l : List α), xs.drop i = y :: l → i < xs.length → y ∈ xs → idx xs (i : Int) = some y → w64 ((i : Int) + 1) = ((i + 1 : Nat) : Int) → P (i + 1) l → P i (y :: l)) : P 0 xs := by
 have key : ∀ (n i : Nat), i + n = xs.length → P i (xs.drop i) := by
  intro n
  induction n with
  | zero =>
   intro i hi
   have : i = xs.length := by omega
   subst this
   rw [List.drop_length]
   exact h0
  | succ n ih =>
   intro i hi
   have hlt : i < xs.length := by omega
   rw [List.drop_eq_getElem_cons hlt]
   refine h1 i xs[i] _ (List.drop_eq_getElem_cons hlt) hlt (List.getElem_mem hlt) ?_ ?_ (ih (i + 1) (by omega))
   ·rw [idx_nat, List.getElem?_eq_getElem hlt]
   ·rw [w64_of (by omega) (by omega)]; omega
 have := key xs.length 0 (by omega)
 rwa [List.drop_zero] at this
def sumOf {α : Type} (m : α → Nat) : List α → Nat
 | [] => 0
 | y :: r => m y + sumOf m r
theorem sumOf_mem {α : Type} {m : α → Nat} {y : α} : ∀ {l : List α}, y ∈ l → m y ≤ sumOf m l
 | x :: l, h => by
  simp only [sumOf]
  cases h with
  | head => omega
  | tail _ h => have := sumOf_mem (m := m) h; omega
theorem sumOf_app {α : Type} {m : α → Nat} : ∀ (a b : List α), sumOf m (a ++ b) = sumOf m a + sumOf m b
 | [], b => by simp [sumOf]
 | x :: a, b => by simp only [List.cons_append, sumOf, sumOf_app a b]; omega
def minus (b : Int) (n : Nat) : Int := if (n : Int) ≤ b then b - n else -1
theorem minus_minus {b : Int} {m n : Nat} (h : ¬ minus b m < 0) : minus (minus b m) n = minus b (m + n) := by
 unfold minus at h ⊢
 by_cases h1 : (m : Int) ≤ b
 ·rw [if_pos h1]
  by_cases h2 : (n : Int) ≤ b - m
  ·rw [if_pos h2, if_pos (by omega)]; omega
  ·rw [if_neg h2, if_neg (by omega)]
 ·rw [if_neg h1] at h; omega
theorem minus_neg {b : Int} {m n : Nat} (h : minus b m < 0) : minus b (m + n) = -1 := by
 unfold minus at h ⊢
 rw [if_neg]
 intro h2
 rw [if_pos (by omega)] at h
 omega
theorem minus_neg' {b : Int} {m : Nat} (h : minus b m < 0) : minus b m = -1 := minus_neg (n := 0) h
theorem minus_neg_le {b : Int} {m n : Nat} (h : minus b m < 0) (hle : m ≤ n) : minus b n = -1 := by
 obtain ⟨k, rfl⟩ := Nat.exists_eq_add_of_le hle
 exact minus_neg h
theorem minus_zero {b : Int} (h : 0 ≤ b) : minus b 0 = b := by unfold minus; rw [if_pos (by omega)]; omega
theorem minus_le {b : Int} {m : Nat} (h : ¬ minus b m < 0) : (m : Int) ≤ b := by
 unfold minus at h
 split at h
 ·assumption
 ·omega
theorem minus_nonneg {b : Int} {m : Nat} (h : ¬ minus b m < 0) : 0 ≤ minus b m := by omega
theorem minus_lt {b : Int} {m : Nat} {c : Int} (h0 : 0 ≤ c) (h : b < c) : minus b m < c := by unfold minus; split <;> omega
theorem minus_len {b : Int} {α : Type} {l : List α} (h0 : 0 ≤ b) (h : b < 4611686018427387904) (hl : l.length ≤ 9223372036854775807) :
  (w64 (b - len l) < 0 ↔ minus b l.length < 0) ∧ (¬ minus b l.length < 0 → w64 (b - len l) = minus b l.length) := by
 have e : w64 (b - len l) = b - l.length := w64_of (by simp only [len_eq]; omega) (by simp only [len_eq]; omega)
 rw [e]
 unfold minus
 by_cases h1 : (l.length : Int) ≤ b
 ·rw [if_pos h1]; exact ⟨Iff.rfl, fun _ => rfl⟩
 ·rw [if_neg h1]; exact ⟨by omega, fun h => absurd (by omega) h⟩
theorem sz_loop {α : Type} {xs : List α} (hx : xs.length ≤ 9223372036854775807) {m : α → Nat} {F : α → Int → Option Int} {J : List α → Int → Int → Option Int}
  (hJ : ∀ b i, J xs b i = if decide (i < len xs) = true then (idx xs i).bind fun y => (F y b).bind fun r => if decide (r < 0) = true then some (-1) else J xs r (w64 (i + 1)) else some b)
  (hF : ∀ y ∈ xs, ∀ b : Int, 0 ≤ b → b < 4611686018427387904 → F y b = some (minus b (m y))) :
  ∀ b : Int, 0 ≤ b → b < 4611686018427387904 → J xs b 0 = some (minus b (sumOf m xs)) := by
 refine loop_ind hx (P := fun i l => ∀ b : Int, 0 ≤ b → b < 4611686018427387904 → J xs b i = some (minus b (sumOf m l))) ?_ ?_
 ·intro b h0 h1
  rw [hJ]
  simp [len_eq, sumOf, minus_zero h0]
 ·intro i y l _ hlt hy hi hw ih b h0 h1
  rw [hJ, hi, hw]
  have hc : decide ((i : Int) < len xs) = true := by simp [len_eq, hlt]
  rw [if_pos hc]
  simp only [Option.bind_some, hF y hy b h0 h1]
  show _ = some (minus b (m y + sumOf m l))
  by_cases hle : minus b (m y) < 0
  ·rw [if_pos (by simpa using hle), minus_neg hle]
  ·rw [if_neg (by simpa using hle), ih _ (minus_nonneg hle) (minus_lt (by omega) h1), minus_minus hle]
theorem sz_loop_str {xs : List (List UInt8)} (hx : xs.length ≤ 9223372036854775807) {J : List (List UInt8) → Int → Int → Option Int}
  (hJ : ∀ b i, J xs b i = if decide (i < len xs) = true then (idx xs i).bind fun y => if decide (w64 (b - len y) < 0) = true then some (-1) else J xs (w64 (b - len y)) (w64 (i + 1)) else some b)
  (hF : ∀ y ∈ xs, y.length ≤ 9223372036854775807) :
  ∀ b : Int, 0 ≤ b → b < 4611686018427387904 → J xs b 0 = some (minus b (sumOf List.length xs)) := by
 refine loop_ind hx (P := fun i l => ∀ b : Int, 0 ≤ b → b < 4611686018427387904 → J xs b i = some (minus b (sumOf List.length l))) ?_ ?_
 ·intro b h0 h1
  rw [hJ]
  simp [len_eq, sumOf, minus_zero h0]
 ·intro i y l _ hlt hy hi hw ih b h0 h1
  rw [hJ, hi, hw]
  have hc : decide ((i : Int) < len xs) = true := by simp [len_eq, hlt]
  rw [if_pos hc]
  simp only [Option.bind_some]
  obtain ⟨e1, e2⟩ := minus_len (l := y) h0 h1 (hF y hy)
  show _ = some (minus b (y.length + sumOf List.length l))
  by_cases c : minus b y.length < 0
  ·rw [if_pos (by simpa using e1.2 c), minus_neg c]
  ·rw [if_neg (by simpa using fun h => c (e1.1 h)), e2 c, ih _ (minus_nonneg c) (minus_lt (by omega) h1), minus_minus c]
theorem to_loop {α : Type} {xs : List α} (hx : xs.length ≤ 9223372036854775807) {F : α → Option α} {J : List α → Int → List α → Option (List α)}
  (hJ : ∀ i zs, J xs i zs = if decide (i < len xs) = true then (idx xs i).bind fun y => (F y).bind fun r => (idx zs i).bind fun _ => (zs[i.toNat]?).bind fun _ => J xs (w64 (i + 1)) (upd zs i.toNat r) else some zs)
  (hF : ∀ y ∈ xs, F y = some y) : ∀ zs, zs.length = xs.length → J xs 0 zs = some xs := by
 have key : ∀ zs, zs.length = xs.length → (∀ j : Nat, j < 0 → zs[j]? = xs[j]?) → J xs ((0 : Nat) : Int) zs = some xs := by
  refine loop_ind hx (P := fun i l => ∀ zs, zs.length = xs.length → (∀ j, j < i → zs[j]? = xs[j]?) → J xs i zs = some xs) ?_ ?_
  ·intro zs hl hz
   rw [hJ]
   simp only [len_eq, Int.lt_irrefl, decide_false, Bool.false_eq_true, if_false]
   congr 1
   apply List.ext_getElem? 
   intro j
   by_cases hj : j < xs.length
   ·exact hz j hj
   ·rw [List.getElem?_eq_none (by omega), List.getElem?_eq_none (by omega)]
  ·intro i y l _ hlt hy hi hw ih zs hl hz
   rw [hJ, hi, hw]
   have hc : decide ((i : Int) < len xs) = true := by simp [len_eq, hlt]
   rw [if_pos hc]
   have hzi : zs[i]? = some zs[i] := List.getElem?_eq_getElem (by omega)
   have hxi : xs[i]? = some y := by rw [← idx_nat]; exact hi
   simp only [Option.bind_some, hF y hy, idx_nat, Int.toNat_natCast, hzi, upd_eq]
   refine ih _ (by simp [hl]) fun j hj => ?_
   by_cases hji : j = i
   ·subst hji; rw [List.getElem?_set_self (by omega), hxi]
   ·rw [List.getElem?_set_ne (by omega)]; exact hz j (by omega)
 intro zs hl
 exact key zs hl fun j hj => absurd hj (Nat.not_lt_zero j)
theorem to_loop0 {α : Type} {xs : List α} (hx : xs.length ≤ 9223372036854775807) {J : List α → Int → List α → Option (List α)}
  (hJ : ∀ i zs, J xs i zs = if decide (i < len xs) = true then (idx xs i).bind fun y => (idx zs i).bind fun _ => (zs[i.toNat]?).bind fun _ => J xs (w64 (i + 1)) (upd zs i.toNat y) else some zs) : ∀ zs, zs.length = xs.length → J xs 0 zs = some xs := by
 have key : ∀ zs, zs.length = xs.length → (∀ j : Nat, j < 0 → zs[j]? = xs[j]?) → J xs ((0 : Nat) : Int) zs = some xs := by
  refine loop_ind hx (P := fun i l => ∀ zs, zs.length = xs.length → (∀ j, j < i → zs[j]? = xs[j]?) → J xs i zs = some xs) ?_ ?_
  ·intro zs hl hz
   rw [hJ]
   simp only [len_eq, Int.lt_irrefl, decide_false, Bool.false_eq_true, if_false]
   congr 1
   apply List.ext_getElem? 
   intro j
   by_cases hj : j < xs.length
   ·exact hz j hj
   ·rw [List.getElem?_eq_none (by omega), List.getElem?_eq_none (by omega)]
  ·intro i y l _ hlt hy hi hw ih zs hl hz
   rw [hJ, hi, hw]
   have hc : decide ((i : Int) < len xs) = true := by simp [len_eq, hlt]
   rw [if_pos hc]
   have hzi : zs[i]? = some zs[i] := List.getElem?_eq_getElem (by omega)
   have hxi : xs[i]? = some y := by rw [← idx_nat]; exact hi
   simp only [Option.bind_some, idx_nat, Int.toNat_natCast, hzi, upd_eq]
   refine ih _ (by simp [hl]) fun j hj => ?_
   by_cases hji : j = i
   ·subst hji; rw [List.getElem?_set_self (by omega), hxi]
   ·rw [List.getElem?_set_ne (by omega)]; exact hz j (by omega)
 intro zs hl
 exact key zs hl fun j hj => absurd hj (Nat.not_lt_zero j)
theorem eq_loop {α : Type} {xs : List α} (hx : xs.length ≤ 9223372036854775807) {F : α → α → Option Bool} {J : List α → List α → Int → Option Bool}
  (hJ : ∀ i, J xs xs i = if decide (i < len xs) = true then (idx xs i).bind fun y => (idx xs i).bind fun z => (F y z).bind fun r => if (!r) = true then some false else J xs xs (w64 (i + 1)) else some true)
  (hF : ∀ y ∈ xs, F y y = some true) : J xs xs 0 = some true := by
 refine loop_ind hx (P := fun i l => J xs xs i = some true) ?_ ?_
 ·rw [hJ]; simp [len_eq]
 ·intro i y l _ hlt hy hi hw ih
  rw [hJ, hi, hw]
  have hc : decide ((i : Int) < len xs) = true := by simp [len_eq, hlt]
  rw [if_pos hc]
  simp only [Option.bind_some, hF y hy]
  exact ih
theorem eq_loop0 {α : Type} {xs : List α} (hx : xs.length ≤ 9223372036854775807) {p : α → α → Bool} {J : List α → List α → Int → Option Bool}
  (hJ : ∀ i, J xs xs i = if decide (i < len xs) = true then (idx xs i).bind fun y => (idx xs i).bind fun z => if p y z = true then some false else J xs xs (w64 (i + 1)) else some true)
  (hF : ∀ y, p y y = false) : J xs xs 0 = some true := by
 refine loop_ind hx (P := fun i l => J xs xs i = some true) ?_ ?_
 ·rw [hJ]; simp [len_eq]
 ·intro i y l _ hlt hy hi hw ih
  rw [hJ, hi, hw]
  have hc : decide ((i : Int) < len xs) = true := by simp [len_eq, hlt]
  rw [if_pos hc]
  simp only [Option.bind_some, hF y]
  exact ih
theorem all_loop {α : Type} {xs : List α} (hx : xs.length ≤ 9223372036854775807) {F : α → Option Bool} {p : α → Bool} {J : Int → Option Bool}
  (hJ : ∀ i, J i = if decide (i < len xs) = true then (idx xs i).bind fun y => (F y).bind fun r => if (!r) = true then some false else J (w64 (i + 1)) else some true)
  (hF : ∀ y ∈ xs, F y = some (p y)) : J 0 = some (xs.all p) := by
 refine loop_ind hx (P := fun i l => J i = some (l.all p)) ?_ ?_
 ·rw [hJ]; simp [len_eq]
 ·intro i y l _ hlt hy hi hw ih
  rw [hJ, hi, hw]
  have hc : decide ((i : Int) < len xs) = true := by simp [len_eq, hlt]
  rw [if_pos hc]
  simp only [Option.bind_some, hF y hy, List.all_cons]
  cases p y
  ·rfl
  ·exact ih
theorem any_loop {α : Type} {xs : List α} (hx : xs.length ≤ 9223372036854775807) {p : α → Bool} {J : Int → Option Bool}
  (hJ : ∀ i, J i = if decide (i < len xs) = true then (idx xs i).bind fun y => if (p y) = true then some true else J (w64 (i + 1)) else some false) : J 0 = some (xs.any p) := by
 refine loop_ind hx (P := fun i l => J i = some (l.any p)) ?_ ?_
 ·rw [hJ]; simp [len_eq]
 ·intro i y l _ hlt hy hi hw ih
  rw [hJ, hi, hw]
  have hc : decide ((i : Int) < len xs) = true := by simp [len_eq, hlt]
  rw [if_pos hc]
  simp only [Option.bind_some, List.any_cons]
  cases p y
  ·exact ih
  ·rfl
end Go.Dv

namespace Go.Dv
open Go
theorem bl_eq (x y : List UInt8) : Op.bytesLess x y = decide (x < y) := Go.Proofs.bytesLess_eq x y
theorem bl_irrefl (x : List UInt8) : Op.bytesLess x x = false := by rw [bl_eq]; simp [List.lt_irrefl]
theorem bl_trans {x y z : List UInt8} (h : Op.bytesLess x y = true) (k : Op.bytesLess y z = true) : Op.bytesLess x z = true := by
 rw [bl_eq, decide_eq_true_eq] at *; exact List.lt_trans h k
theorem bl_antisymm {x y : List UInt8} (h : Op.bytesLess x y = false) (k : Op.bytesLess y x = false) : x = y := by
 rw [bl_eq, decide_eq_false_iff_not, List.not_lt] at *; exact List.le_antisymm k h
theorem bl_asymm {x y : List UInt8} (h : Op.bytesLess x y = true) : Op.bytesLess y x = false := by
 cases hq : Op.bytesLess y x with
 | false => rfl
 | true => have := bl_trans h hq; rw [bl_irrefl] at this; cases this
theorem sort_nodup (xs : List (List UInt8)) : (Lib.compact (xs.mergeSort fun x y => decide (x ≤ y))).length = xs.length ↔ xs.Nodup := by
 have hp : (xs.mergeSort fun x y => decide (x ≤ y)).Perm xs := List.mergeSort_perm _ _
 have hs : List.Pairwise (fun a b => (decide (a ≤ b)) = true) (xs.mergeSort fun x y => decide (x ≤ y)) :=
  List.pairwise_mergeSort (fun a b c h k => by simp only [decide_eq_true_eq] at *; exact List.le_trans h k) (fun a b => by simp only [Bool.or_eq_true, decide_eq_true_eq]; exact List.le_total a b) xs
 rw [← hp.nodup_iff, ← hp.length_eq]
 generalize (xs.mergeSort fun x y => decide (x ≤ y)) = zs at hs
 have hlen : (Lib.compact zs).length = ((List.range zs.length).filter (Lib.keeps zs.toArray)).length := by simp [Lib.compact, Lib.compactUpTo]
 rw [hlen]
 have h1 : ((List.range zs.length).filter (Lib.keeps zs.toArray)).length = zs.length ↔ ∀ j, j < zs.length → Lib.keeps zs.toArray j = true := by
  constructor
  ·intro h j hj
   have := List.length_filter_eq_length_iff.1 (h.trans List.length_range.symm) j (by simpa using hj)
   exact this
  ·intro h
   exact (List.length_filter_eq_length_iff.2 fun j hj => h j (by simpa using hj)).trans List.length_range
 rw [h1, List.nodup_iff_pairwise_ne]
 rw [List.pairwise_iff_getElem] at hs ⊢
 constructor
 ·intro h i j hi hj hij he
  have hk := h j hj
  simp only [Lib.keeps, decide_eq_true_eq] at hk
  rcases hk with h0 | hk
  ·omega
  ·apply hk
   have e1 : zs.toArray[j]! = zs[j] := by simp [getElem!_pos, hj]
   have e2 : zs.toArray[j - 1]! = zs[j - 1] := by simp [getElem!_pos, show j - 1 < zs.length by omega]
   rw [e1, e2]
   have a1 : zs[j - 1] ≤ zs[j] := by simpa using hs (j - 1) j (by omega) hj (by omega)
   have a2 : zs[i] ≤ zs[j - 1] := by
    by_cases e : i = j - 1
    ·subst e; exact List.le_refl _
    ·simpa using hs i (j - 1) hi (by omega) (by omega)
   rw [he] at a2
   exact List.le_antisymm a2 a1
 ·intro h j hj
  simp only [Lib.keeps, decide_eq_true_eq]
  by_cases h0 : j = 0
  ·exact .inl h0
  ·right
   have e1 : zs.toArray[j]! = zs[j] := by simp [getElem!_pos, hj]
   have e2 : zs.toArray[j - 1]! = zs[j - 1] := by simp [getElem!_pos, show j - 1 < zs.length by omega]
   rw [e1, e2]
   exact fun e => h (j - 1) j (by omega) hj (by omega) e.symm
theorem nodup_idx {α : Type} [BEq α] [LawfulBEq α] (xs : List α) : xs.Nodup ↔ ∀ (k : Nat) (h : k < xs.length), xs.idxOf xs[k] = k := by
 rw [List.nodup_iff_pairwise_ne, List.pairwise_iff_getElem]
 constructor
 ·intro h k hk
  have hlt : xs.idxOf xs[k] < xs.length := List.idxOf_lt_length_iff.2 (List.getElem_mem hk)
  have he := List.getElem_idxOf hlt
  rcases Nat.lt_trichotomy (xs.idxOf xs[k]) k with q | q | q
  ·exact absurd he (h _ _ hlt hk q)
  ·exact q
  ·exact absurd he.symm (h _ _ hk hlt q)
 ·intro h i j hi hj hij he
  have h1 := h i hi
  have h2 := h j hj
  rw [← he] at h2
  omega
def adj {α : Type} (nm : α → List UInt8) : List α → Bool
 | x :: y :: r => Op.bytesLess (nm x) (nm y) && adj nm (y :: r)
 | _ => true
theorem adj_lt {α : Type} {nm : α → List UInt8} : ∀ {xs : List α}, adj nm xs = true → ∀ (i j : Nat) (hi : i < xs.length) (hj : j < xs.length), i < j → Op.bytesLess (nm xs[i]) (nm xs[j]) = true
 | [], _, i, j, hi, _, _ => by simp at hi
 | [x], _, i, j, hi, hj, hij => by simp at hi hj; omega
 | x :: y :: r, h, i, j, hi, hj, hij => by
  simp only [adj, Bool.and_eq_true_iff] at h
  cases i with
  | zero =>
   cases j with
   | zero => omega
   | succ j =>
    cases j with
    | zero => exact h.1
    | succ j => exact bl_trans h.1 (adj_lt h.2 0 (j + 1) (by simp) (by simpa using hj) (by omega))
  | succ i =>
   cases j with
   | zero => omega
   | succ j => exact adj_lt h.2 i j (by simpa using hi) (by simpa using hj) (by omega)
theorem adj_loop {α : Type} {xs : List α} (hx : xs.length ≤ 9223372036854775807) {nm : α → List UInt8} {J : Int → Option Bool}
  (hJ : ∀ i, J i = if decide (i < len xs) = true then (idx xs (w64 (i - 1))).bind fun z => (idx xs i).bind fun y => if (!Op.bytesLess (nm z) (nm y)) = true then some false else J (w64 (i + 1)) else some true) : J 1 = some (adj nm xs) := by
 have key : ∀ (n i : Nat), i + 1 + n = xs.length → J ((i : Int) + 1) = some (adj nm (xs.drop i)) := by
  intro n
  induction n with
  | zero =>
   intro i hi
   have : xs.drop i = [xs[i]'(by omega)] := by
    rw [List.drop_eq_getElem_cons (by omega), List.drop_eq_nil_of_le (by omega)]
   rw [this, hJ]
   have hc : ¬ decide ((i : Int) + 1 < len xs) = true := by simp only [len_eq, decide_eq_true_eq]; omega
   rw [if_neg hc]; rfl
  | succ n ih =>
   intro i hi
   have hc : decide ((i : Int) + 1 < len xs) = true := by simp only [len_eq, decide_eq_true_eq]; omega
   have e1 : w64 ((i : Int) + 1 - 1) = (i : Int) := by rw [w64_of (by omega) (by omega)]; omega
   have e2 : w64 ((i : Int) + 1 + 1) = ((i + 1 : Nat) : Int) + 1 := by rw [w64_of (by omega) (by omega)]; omega
   have e3 : ((i : Int) + 1) = ((i + 1 : Nat) : Int) := by omega
   rw [hJ, if_pos hc, e1, e2, ih (i + 1) (by omega), idx_nat, e3, idx_nat, List.getElem?_eq_getElem (by omega), List.getElem?_eq_getElem (by omega), List.drop_eq_getElem_cons (by omega : i < xs.length), List.drop_eq_getElem_cons (by omega : i + 1 < xs.length)]
   simp only [Option.bind_some, adj]
   cases Op.bytesLess (nm xs[i]) (nm xs[i + 1]) <;> simp
 by_cases h0 : xs.length = 0
 ·have : xs = [] := List.eq_nil_of_length_eq_zero h0
  subst this
  rw [hJ]; simp [len_eq, adj]
 ·have := key (xs.length - 1) 0 (by omega)
  simpa using this
theorem chk_loop {α : Type} {xs : List α} (hx : xs.length ≤ 9223372036854775807) {p : α → Bool} {nm : α → List UInt8} {E : Option Bool} {J : Int → Option Bool}
  (hJ : ∀ i : Nat, i ≤ xs.length → J i = match xs[i]? with
   | some y => if (p y && (match i with | 0 => true | j + 1 => (match xs[j]? with | some z => Op.bytesLess (nm z) (nm y) | none => true))) = true then J ((i + 1 : Nat) : Int) else some false
   | none => E) : J 0 = if (xs.all p && adj nm xs) = true then E else some false := by
 have key : ∀ (n i : Nat), i + 1 + n = xs.length → J ((i + 1 : Nat) : Int) = if ((xs.drop (i + 1)).all p && adj nm (xs.drop i)) = true then E else some false := by
  intro n
  induction n with
  | zero =>
   intro i hi
   have : xs.drop i = [xs[i]'(by omega)] := by
    rw [List.drop_eq_getElem_cons (by omega), List.drop_eq_nil_of_le (by omega)]
   rw [this, hJ _ (by omega), List.getElem?_eq_none (by omega), List.drop_eq_nil_of_le (by omega)]
   simp [adj]
  | succ n ih =>
   intro i hi
   have hlt : i + 1 < xs.length := by omega
   rw [hJ _ (by omega), List.getElem?_eq_getElem hlt]
   simp only [List.getElem?_eq_getElem (show i < xs.length by omega)]
   rw [ih (i + 1) (by omega), List.drop_eq_getElem_cons (show i < xs.length by omega), List.drop_eq_getElem_cons hlt]
   simp only [List.all_cons, adj]
   by_cases h1 : p xs[i + 1] = true <;> by_cases h2 : Op.bytesLess (nm xs[i]) (nm xs[i + 1]) = true <;> simp [h1, h2]
 have h0 := hJ 0 (Nat.zero_le _)
 simp only [Int.natCast_zero, Bool.and_true] at h0
 rw [h0]
 cases xs with
 | nil => simp [adj]
 | cons y r =>
  simp only [List.getElem?_cons_zero]
  have := key r.length 0 (by simp; omega)
  simp only [List.drop_succ_cons, List.drop_zero] at this
  rw [this]
  simp only [List.all_cons]
  by_cases h1 : p y = true <;> simp [h1]
end Go.Dv
