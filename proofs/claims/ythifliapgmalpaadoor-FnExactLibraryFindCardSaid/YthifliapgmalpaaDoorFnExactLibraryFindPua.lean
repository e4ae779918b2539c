/- Plain laws about these equations. -/
import Derived.Test.YthifliapgmalpaaDoorFnExactLibraryFindEqa
set_option linter.all false
set_option linter.unusedVariables false
set_option linter.unusedSimpArgs false
namespace Go.Dv

open Go

def ixF {α : Type} (p : α → Bool) : List α → Nat → Int
  | [], _ => -1
  | y :: r, i => if p y = true then (i : Int) else ixF p r (i + 1)

theorem ix_loop {α : Type} {xs : List α} (hx : xs.length ≤ 9223372036854775807) {p : α → Bool} {J : Int → Option Int}
    (hs : ∀ (i : Nat) (y : α), i < xs.length → y ∈ xs → idx xs (i : Int) = some y → w64 ((i : Int) + 1) = ((i + 1 : Nat) : Int) → J (i : Int) = if p y = true then some (i : Int) else J ((i + 1 : Nat) : Int))
    (he : J (xs.length : Int) = some (-1)) : J 0 = some (ixF p xs 0) := by
  refine loop_ind hx (P := fun i l => J (i : Int) = some (ixF p l i)) ?_ ?_
  · rw [he]; rfl
  · intro i y l _ hlt hy hi hw ih
    rw [hs i y hlt hy hi hw]
    by_cases hc : p y = true
    · rw [if_pos hc]; simp [ixF, hc]
    · rw [if_neg hc, ih]; simp [ixF, hc]

end Go.Dv

namespace Go.Dv

open Go

/-- a text cut at a byte -/
def spl (c : UInt8) : List UInt8 → List (List UInt8)
  | [] => [[]]
  | b :: l => if b == c then [] :: spl c l else match spl c l with
    | [] => [[b]]
    | x :: r => (b :: x) :: r

theorem split_spl (c : UInt8) : ∀ s : List UInt8, Lib.splitK [c] 0 (s.count c) s = spl c s
  | [] => by simp [Lib.splitK, spl]
  | b :: l => by
    have ih := split_spl c l
    by_cases h : b = c
    · subst h
      have hix : Lib.index (b :: l) [b] = 0 := by rw [Lib.index]; simp [List.isPrefixOf]
      rw [List.count_cons_self, Lib.splitK, hix]
      simp [spl, ih]
    · have hp : ([c] : List UInt8).isPrefixOf (b :: l) = false := by simp [List.isPrefixOf, Ne.symm h]
      have hix : Lib.index (b :: l) [c] = if Lib.index l [c] == -1 then -1 else Lib.index l [c] + 1 := by rw [Lib.index, hp]; simp
      rw [List.count_cons_of_ne (by simpa using h)]
      simp only [spl, beq_iff_eq, h, if_false]
      rw [← ih]
      cases hk : l.count c with
      | zero => simp [Lib.splitK]
      | succ k =>
        have hm : ¬ Lib.index l [c] = -1 := by
          intro e
          have := Lib.count_miss e
          rw [Lib.count_one, hk] at this
          omega
        have hge := Lib.index_ge l [c]
        obtain ⟨j, hj⟩ : ∃ j : Nat, Lib.index l [c] = j := ⟨(Lib.index l [c]).toNat, by omega⟩
        have e1 : (Lib.index l [c] == -1) = false := by simpa using hm
        have e2 : (Lib.index (b :: l) [c] == -1) = false := by rw [hix, e1]; simp; omega
        have e3 : Lib.index (b :: l) [c] = ((j + 1 : Nat) : Int) := by rw [hix, e1, hj]; simp
        have e4 : ((j : Int) == -1) = false := by simp
        have e5 : (((j + 1 : Nat) : Int) == -1) = false := by simp; omega
        simp only [Lib.splitK, e3, hj, e4, e5, Bool.false_eq_true, if_false, Int.toNat_natCast]
        simp

theorem splitS_ok {s : List UInt8} (h : s.length < 4294967281) (c : UInt8) : splitS s [c] = some (spl c s) := by
  unfold splitS
  rw [if_pos ⟨h, by simp⟩, Lib.split, Lib.count_one, split_spl]

end Go.Dv

namespace Go.Dv.U

open Go Go.Dv Go.Proofs

/-- a text without the newline at its end -/
def trim10 (s : List UInt8) : List UInt8 := if s.drop (s.length - 1) = [10] then s.take (s.length - 1) else s

theorem i_SplitLines_ok {s : List UInt8} (h : s.length < 4294967281) : i_SplitLines s = some (if s == [] then [] else spl 10 (trim10 s)) := by
  rw [i_SplitLines_eq]
  by_cases hn : s = []
  · subst hn; rfl
  · have hl : 1 ≤ s.length := by cases s with | nil => exact absurd rfl hn | cons _ _ => simp
    have e : w64 (len s - len ([10] : List UInt8)) = ((s.length - 1 : Nat) : Int) := by
      rw [w64_of] <;> simp only [len_eq, List.length_singleton] <;> omega
    have et : strings_TrimSuffix s [10] = some (trim10 s) := by
      rw [strings_TrimSuffix_eq, internal_stringslite_TrimSuffix_eq, internal_stringslite_HasSuffix_eq]
      have g1 : decide (len s ≥ len ([10] : List UInt8)) = true := by simp only [len_eq, List.length_singleton, decide_eq_true_eq]; omega
      simp only [g1, if_true, e, Option.getD_none, Option.getD_some]
      rw [show len s = ((s.length : Nat) : Int) from len_eq s, cut_of (by omega) (by omega)]
      simp only [Option.bind_some, List.take_length]
      unfold trim10
      by_cases c : s.drop (s.length - 1) = [10]
      · simp only [c, beq_self_eq_true, if_true]
        have := cut_of (xs := s) (a := 0) (b := s.length - 1) (by omega) (by omega)
        simp only [Int.natCast_zero] at this
        rw [this]
        simp
      · have c' : (s.drop (s.length - 1) == [10]) = false := by simpa using c
        simp only [c', Bool.false_eq_true, if_false, c, Option.bind_some]
    have hs : (s == []) = false := by simpa using hn
    simp only [hs, Bool.false_eq_true, if_false, et, Option.bind_some]
    rw [splitS_ok]
    · rfl
    · unfold trim10; split
      · simp only [List.length_take]; omega
      · exact h

end Go.Dv.U

namespace Go.Dv.U

open Go Go.Dv Go.Proofs

def smpS (x3 : List TSample) (y199 : List UInt8) : Option (List TSample) :=
  (cut y199 1 (len y199)).bind fun y198 => (idx y199 0).bind fun y197 =>
    if ib y197 = 124 then (x3[x3.length - 1]?).bind fun s => (app s.fSource [y198]).bind fun l => some (x3.set (x3.length - 1) (TSample.mk s.fName l s.fInput s.fOutput))
    else if ib y197 = 60 then (x3[x3.length - 1]?).bind fun s => (app s.fInput [y198]).bind fun l => some (x3.set (x3.length - 1) (TSample.mk s.fName s.fSource l s.fOutput))
    else if ib y197 = 62 then (x3[x3.length - 1]?).bind fun s => (app s.fOutput [y198]).bind fun l => some (x3.set (x3.length - 1) (TSample.mk s.fName s.fSource s.fInput l))
    else app x3 [TSample.mk y199 [] [] []]

def smpAll : List (List UInt8) → List TSample → Option (List TSample)
  | [], a => some a
  | x :: r, a => (smpS a x).bind (smpAll r)

theorem smpS_len {a b : List TSample} {x : List UInt8} (h : smpS a x = some b) : b.length ≤ a.length + 1 := by
  unfold smpS at h
  cases h1 : cut x 1 (len x) with
  | none => simp [h1] at h
  | some y =>
    cases h2 : idx x 0 with
    | none => simp [h1, h2] at h
    | some z =>
      simp only [h1, h2, Option.bind_some] at h
      have key : ∀ {f : TSample → Option (List (List UInt8))} {g : TSample → List (List UInt8) → TSample}, ((a[a.length - 1]?).bind fun s => (f s).bind fun l => some (a.set (a.length - 1) (g s l))) = some b → b.length ≤ a.length + 1 := by
        intro f g h
        cases h3 : a[a.length - 1]? with
        | none => simp [h3] at h
        | some s =>
          simp only [h3, Option.bind_some] at h
          cases h4 : f s with
          | none => simp [h4] at h
          | some l => simp only [h4, Option.bind_some, Option.some.injEq] at h; rw [← h]; simp
      split at h
      · exact key h
      · split at h
        · exact key h
        · split at h
          · exact key h
          · unfold app at h
            split at h
            · cases h; simp
            · cases h

theorem i_samples_L3_ok {xs : List (List UInt8)} (hx : xs.length ≤ 4294967296) {ys : List TSample} (h : smpAll xs [] = some ys) : i_samples_L3 xs (len xs) 0 [] = some ((ys, ()), ()) := by
  have key := loop_ind (xs := xs) (by omega) (P := fun i l => ∀ a : List TSample, a.length ≤ i → smpAll l a = some ys → i_samples_L3 xs (len xs) (i : Int) a = some ((ys, ()), ())) (by
    intro a _ h
    rw [i_samples_L3_eq]
    simp only [len_eq, Int.lt_irrefl, decide_false, Bool.false_eq_true, if_false]
    simp only [smpAll, Option.some.injEq] at h
    rw [h]) (by
    intro i y l _ hlt hy hi hw ih a ha h
    rw [i_samples_L3_eq]
    have hc : decide ((i : Int) < len xs) = true := by simp [len_eq, hlt]
    rw [if_pos hc, hi]
    simp only [Option.bind_some, Option.getD_none]
    simp only [smpAll] at h
    cases h5 : smpS a y with
    | none => simp [h5] at h
    | some b =>
      rw [h5] at h
      have hb := smpS_len h5
      have h := ih b (by omega) h
      unfold smpS at h5
      cases h1 : cut y 1 (len y) with
      | none => simp [h1] at h5
      | some y1 =>
        cases h2 : idx y 0 with
        | none => simp [h1, h2] at h5
        | some z =>
          simp only [h1, h2, Option.bind_some] at h5 ⊢
          simp only [i_samples_L15_eq, hw, beq_iff_eq]
          have ew : a = [] ∨ w64 (len a - 1) = ((a.length - 1 : Nat) : Int) := by
            cases a with
            | nil => exact .inl rfl
            | cons p q => right; rw [w64_of] <;> simp only [len_eq, List.length_cons] at * <;> omega
          rcases ew with ew | ew
          · subst ew
            split at h5
            · simp at h5
            · split at h5
              · simp at h5
              · split at h5
                · simp at h5
                · rw [if_neg (by assumption), if_neg (by assumption), if_neg (by assumption), h5]
                  simpa using h
          · simp only [ew, idx_nat, Int.toNat_natCast, upd_eq]
            have fin : ∀ {f : TSample → List (List UInt8)} {g : TSample → List (List UInt8) → TSample}, ((a[a.length - 1]?).bind fun s => (app (f s) [y1]).bind fun l => some (a.set (a.length - 1) (g s l))) = some b →
                ((a[a.length - 1]?).bind fun _ => (a[a.length - 1]?).bind fun _ => (a[a.length - 1]?).bind fun y193 => (app (f y193) [y1]).bind fun y192 => (a[a.length - 1]?).bind fun _ => (a[a.length - 1]?).bind fun y190 => (if True then some () else none).bind fun _ => i_samples_L3 xs (len xs) ((i + 1 : Nat) : Int) (a.set (a.length - 1) (g y190 y192))) = some ((ys, ()), ()) := by
              intro f g h5
              cases h3 : a[a.length - 1]? with
              | none => simp [h3] at h5
              | some s =>
                simp only [h3, Option.bind_some] at h5 ⊢
                cases h4 : app (f s) [y1] with
                | none => simp [h4] at h5
                | some l =>
                  simp only [h4, Option.bind_some, Option.some.injEq, if_true] at h5 ⊢
                  rw [h5]
                  exact h
            split at h5
            · rw [if_pos (by assumption)]; exact fin (f := fun s => s.fSource) (g := fun s l => TSample.mk s.fName l s.fInput s.fOutput) h5
            · rw [if_neg (by assumption)]
              split at h5
              · rw [if_pos (by assumption)]; exact fin (f := fun s => s.fInput) (g := fun s l => TSample.mk s.fName s.fSource l s.fOutput) h5
              · rw [if_neg (by assumption)]
                split at h5
                · rw [if_pos (by assumption)]; exact fin (f := fun s => s.fOutput) (g := fun s l => TSample.mk s.fName s.fSource s.fInput l) h5
                · rw [if_neg (by assumption), h5]
                  simpa using h) [] (by simp) h
  exact key

end Go.Dv.U

namespace Go.Dv.U

open Go Go.Dv Go.Proofs

def convS (x : TSpec_l28Item) : TSample := ⟨x.fName, x.fLines, x.fInput, x.fOutput⟩

/-- what is bounded in a sample -/
def smallS (x : TSpec_l28Item) : Bool := Nat.ble x.fLines.length 100000 && Nat.ble x.fInput.length 100000 && Nat.ble x.fOutput.length 100000 && Nat.ble (x.fLines.flatMap (fun l => l ++ [10])).length 100000

theorem lib_ex0 : ∃ L s, s_l28List = some L ∧ i_samples = (i_SplitLines s).bind (fun r200 => i_samples_L3 r200 (len r200) 0 ([])) ∧ (s == []) = false ∧ (Nat.blt s.length 4294967281 = true) ∧ smpAll (spl 10 (trim10 s)) [] = some (L.map convS) ∧ Nat.ble (spl 10 (trim10 s)).length 100000 = true ∧ Nat.ble L.length 100000 = true ∧ L.all smallS = true :=
  ⟨_, _, s_l28List_eq, i_samples_eq, rfl, by kernel_rfl, by kernel_rfl, by kernel_rfl, by kernel_rfl, by kernel_rfl⟩

theorem lib_ex : ∃ L, s_l28List = some L ∧ i_samples = some ((L.map convS, ()), ()) ∧ L.length ≤ 100000 ∧ ∀ x ∈ L, smallS x = true := by
  obtain ⟨L, s, h1, h2, h3, h4, h5, h6, h7, h8⟩ := lib_ex0
  refine ⟨L, h1, ?_, Nat.le_of_ble_eq_true h7, List.all_eq_true.1 h8⟩
  have h6 := Nat.le_of_ble_eq_true h6
  rw [h2, i_SplitLines_ok (Nat.blt_eq ▸ h4), h3]
  simp only [Bool.false_eq_true, if_false, Option.bind_some]
  exact i_samples_L3_ok (by omega) h5

theorem ixF_map {α β : Type} (f : α → β) (p : β → Bool) : ∀ (l : List α) (i : Nat), ixF p (l.map f) i = ixF (fun x => p (f x)) l i
  | [], _ => rfl
  | y :: l, i => by simp only [List.map_cons, ixF, ixF_map f p l]

theorem l_FnExactLibraryFind_ok {x0 : List UInt8} : l_FnExactLibraryFind x0 = some true := by
  obtain ⟨L, h1, h2, h3, _⟩ := lib_ex
  rw [l_FnExactLibraryFind_eq]
  split
  · rfl
  · rw [s_LibraryFind_eq, i_LibraryFind_eq, h1, h2]
    simp only [Option.bind_some]
    have e1 : s_LibraryFind_L3 x0 L 0 = some (w64 (ixF (fun x => x.fName == x0) L 0 + 1)) := by
      refine loop_ind (xs := L) (by omega) (P := fun i l => s_LibraryFind_L3 x0 L (i : Int) = some (w64 (ixF (fun x => x.fName == x0) l i + 1))) ?_ ?_
      · rw [s_LibraryFind_L3_eq]
        simp only [len_eq, Int.lt_irrefl, decide_false, Bool.false_eq_true, if_false, ixF]
        rfl
      · intro i y l _ hlt hy hi hw ih
        rw [s_LibraryFind_L3_eq]
        have hc : decide ((i : Int) < len L) = true := by simp [len_eq, hlt]
        rw [if_pos hc, hi]
        simp only [Option.bind_some]
        by_cases c : (y.fName == x0) = true
        · simp only [c, if_true, ixF]
        · rw [if_neg c, hw, ih]
          simp only [ixF, if_neg c]
    have e2 : slices_IndexFunc___i_sample_i_sample___i_LibraryFind_c1 (L.map convS) x0 = some (ixF (fun x => x.fName == x0) L 0) := by
      rw [slices_IndexFunc___i_sample_i_sample___i_LibraryFind_c1_eq]
      have := ix_loop (xs := L.map convS) (by simp; omega) (p := fun x => x.fName == x0) (J := fun i => slices_IndexFunc___i_sample_i_sample__L2__i_LibraryFind_c1 (L.map convS) x0 (len (L.map convS)) i) (by
        intro i y hlt hy hi hw
        show slices_IndexFunc___i_sample_i_sample__L2__i_LibraryFind_c1 _ _ _ _ = _
        rw [slices_IndexFunc___i_sample_i_sample__L2__i_LibraryFind_c1_eq]
        have hc : decide ((i : Int) < len (L.map convS)) = true := by simp only [len_eq, decide_eq_true_eq]; omega
        rw [if_pos hc, hi]
        simp only [Option.bind_some, i_LibraryFind_c1_eq, hw]) (by
        show slices_IndexFunc___i_sample_i_sample__L2__i_LibraryFind_c1 _ _ _ _ = _
        rw [slices_IndexFunc___i_sample_i_sample__L2__i_LibraryFind_c1_eq]
        simp only [len_eq, Int.lt_irrefl, decide_false, Bool.false_eq_true, if_false])
      rw [this, ixF_map]
      rfl
    rw [e1, e2]
    simp

end Go.Dv.U
