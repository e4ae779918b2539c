/- Plain laws about these equations. -/
import Derived.Test.YthifliapgmalpaaDoorFnExactLibrarySourceEqa
set_option linter.all false
set_option linter.unusedVariables false
set_option linter.unusedSimpArgs false
namespace Go.Dv

open Go

/-- a text grows with each element -/
theorem cat_loop {α β γ : Type} {xs : List α} (hx : xs.length ≤ 9223372036854775807) {f : α → List β} {B : Nat} {J : Int → List β → Option γ}
    (hs : ∀ (i : Nat) (y : α) (a : List β), i < xs.length → y ∈ xs → idx xs (i : Int) = some y → w64 ((i : Int) + 1) = ((i + 1 : Nat) : Int) → a.length + (f y).length ≤ B → J (i : Int) a = J ((i + 1 : Nat) : Int) (a ++ f y))
    (hb : (xs.flatMap f).length ≤ B) : J 0 [] = J (xs.length : Int) (xs.flatMap f) := by
  have key := loop_ind hx (P := fun i l => ∀ a : List β, a.length + (l.flatMap f).length ≤ B → J (i : Int) a = J (xs.length : Int) (a ++ l.flatMap f)) (by
    intro a _
    simp) (by
    intro i y l _ hlt hy hi hw ih a ha
    simp only [List.flatMap_cons, List.length_append] at ha
    rw [hs i y a hlt hy hi hw (by omega), ih (a ++ f y) (by simp only [List.length_append]; omega)]
    simp only [List.flatMap_cons, List.append_assoc]) [] (by simpa using hb)
  simpa using key

theorem bytesOf_ib (s : List UInt8) : bytesOf (s.map ib) = some s := by
  unfold bytesOf
  have h : ((s.map ib).all fun n => decide (0 ≤ n) && decide (n < 256)) = true := by
    simp only [List.all_map, List.all_eq_true]
    intro x _
    simp [ib_lt x, ib_nonneg x]
  rw [if_pos h, List.map_map]
  congr 1
  conv => rhs; rw [← List.map_id s]
  apply List.map_congr_left
  intro x _
  simp only [Function.comp, id, ib, Int.ofNat_eq_natCast, Int.toNat_natCast]
  exact UInt8.ofNat_toNat

end Go.Dv

namespace Go.Dv

open Go

/-- a text cut at a byte -/
def spl (c : UInt8) : List UInt8 → List (List UInt8)
  | [] => [[]]
  | b :: l => if b == c then [] :: spl c l else match spl c l with
    | [] => [[b]]
    | x :: r => (b :: x) :: r

theorem split_spl (c : UInt8) : ∀ s : List UInt8, Lib.splitK [c] 0 (s.count c) s = spl c s
  | [] => by simp [Lib.splitK, spl]
  | b :: l => by
    have ih := split_spl c l
    by_cases h : b = c
    · subst h
      have hix : Lib.index (b :: l) [b] = 0 := by rw [Lib.index]; simp [List.isPrefixOf]
      rw [List.count_cons_self, Lib.splitK, hix]
      simp [spl, ih]
    · have hp : ([c] : List UInt8).isPrefixOf (b :: l) = false := by simp [List.isPrefixOf, Ne.symm h]
      have hix : Lib.index (b :: l) [c] = if Lib.index l [c] == -1 then -1 else Lib.index l [c] + 1 := by rw [Lib.index, hp]; simp
      rw [List.count_cons_of_ne (by simpa using h)]
      simp only [spl, beq_iff_eq, h, if_false]
      rw [← ih]
      cases hk : l.count c with
      | zero => simp [Lib.splitK]
      | succ k =>
        have hm : ¬ Lib.index l [c] = -1 := by
          intro e
          have := Lib.count_miss e
          rw [Lib.count_one, hk] at this
          omega
        have hge := Lib.index_ge l [c]
        obtain ⟨j, hj⟩ : ∃ j : Nat, Lib.index l [c] = j := ⟨(Lib.index l [c]).toNat, by omega⟩
        have e1 : (Lib.index l [c] == -1) = false := by simpa using hm
        have e2 : (Lib.index (b :: l) [c] == -1) = false := by rw [hix, e1]; simp; omega
        have e3 : Lib.index (b :: l) [c] = ((j + 1 : Nat) : Int) := by rw [hix, e1, hj]; simp
        have e4 : ((j : Int) == -1) = false := by simp
        have e5 : (((j + 1 : Nat) : Int) == -1) = false := by simp; omega
        simp only [Lib.splitK, e3, hj, e4, e5, Bool.false_eq_true, if_false, Int.toNat_natCast]
        simp

theorem splitS_ok {s : List UInt8} (h : s.length < 4294967281) (c : UInt8) : splitS s [c] = some (spl c s) := by
  unfold splitS
  rw [if_pos ⟨h, by simp⟩, Lib.split, Lib.count_one, split_spl]

end Go.Dv

namespace Go.Dv.U

open Go Go.Dv Go.Proofs

/-- a text without the newline at its end -/
def trim10 (s : List UInt8) : List UInt8 := if s.drop (s.length - 1) = [10] then s.take (s.length - 1) else s

theorem i_SplitLines_ok {s : List UInt8} (h : s.length < 4294967281) : i_SplitLines s = some (if s == [] then [] else spl 10 (trim10 s)) := by
  rw [i_SplitLines_eq]
  by_cases hn : s = []
  · subst hn; rfl
  · have hl : 1 ≤ s.length := by cases s with | nil => exact absurd rfl hn | cons _ _ => simp
    have e : w64 (len s - len ([10] : List UInt8)) = ((s.length - 1 : Nat) : Int) := by
      rw [w64_of] <;> simp only [len_eq, List.length_singleton] <;> omega
    have et : strings_TrimSuffix s [10] = some (trim10 s) := by
      rw [strings_TrimSuffix_eq, internal_stringslite_TrimSuffix_eq, internal_stringslite_HasSuffix_eq]
      have g1 : decide (len s ≥ len ([10] : List UInt8)) = true := by simp only [len_eq, List.length_singleton, decide_eq_true_eq]; omega
      simp only [g1, if_true, e, Option.getD_none, Option.getD_some]
      rw [show len s = ((s.length : Nat) : Int) from len_eq s, cut_of (by omega) (by omega)]
      simp only [Option.bind_some, List.take_length]
      unfold trim10
      by_cases c : s.drop (s.length - 1) = [10]
      · simp only [c, beq_self_eq_true, if_true]
        have := cut_of (xs := s) (a := 0) (b := s.length - 1) (by omega) (by omega)
        simp only [Int.natCast_zero] at this
        rw [this]
        simp
      · have c' : (s.drop (s.length - 1) == [10]) = false := by simpa using c
        simp only [c', Bool.false_eq_true, if_false, c, Option.bind_some]
    have hs : (s == []) = false := by simpa using hn
    simp only [hs, Bool.false_eq_true, if_false, et, Option.bind_some]
    rw [splitS_ok]
    · rfl
    · unfold trim10; split
      · simp only [List.length_take]; omega
      · exact h

end Go.Dv.U

namespace Go.Dv.U

open Go Go.Dv Go.Proofs

def smpS (x3 : List TSample) (y199 : List UInt8) : Option (List TSample) :=
  (cut y199 1 (len y199)).bind fun y198 => (idx y199 0).bind fun y197 =>
    if ib y197 = 124 then (x3[x3.length - 1]?).bind fun s => (app s.fSource [y198]).bind fun l => some (x3.set (x3.length - 1) (TSample.mk s.fName l s.fInput s.fOutput))
    else if ib y197 = 60 then (x3[x3.length - 1]?).bind fun s => (app s.fInput [y198]).bind fun l => some (x3.set (x3.length - 1) (TSample.mk s.fName s.fSource l s.fOutput))
    else if ib y197 = 62 then (x3[x3.length - 1]?).bind fun s => (app s.fOutput [y198]).bind fun l => some (x3.set (x3.length - 1) (TSample.mk s.fName s.fSource s.fInput l))
    else app x3 [TSample.mk y199 [] [] []]

def smpAll : List (List UInt8) → List TSample → Option (List TSample)
  | [], a => some a
  | x :: r, a => (smpS a x).bind (smpAll r)

theorem smpS_len {a b : List TSample} {x : List UInt8} (h : smpS a x = some b) : b.length ≤ a.length + 1 := by
  unfold smpS at h
  cases h1 : cut x 1 (len x) with
  | none => simp [h1] at h
  | some y =>
    cases h2 : idx x 0 with
    | none => simp [h1, h2] at h
    | some z =>
      simp only [h1, h2, Option.bind_some] at h
      have key : ∀ {f : TSample → Option (List (List UInt8))} {g : TSample → List (List UInt8) → TSample}, ((a[a.length - 1]?).bind fun s => (f s).bind fun l => some (a.set (a.length - 1) (g s l))) = some b → b.length ≤ a.length + 1 := by
        intro f g h
        cases h3 : a[a.length - 1]? with
        | none => simp [h3] at h
        | some s =>
          simp only [h3, Option.bind_some] at h
          cases h4 : f s with
          | none => simp [h4] at h
          | some l => simp only [h4, Option.bind_some, Option.some.injEq] at h; rw [← h]; simp
      split at h
      · exact key h
      · split at h
        · exact key h
        · split at h
          · exact key h
          · unfold app at h
            split at h
            · cases h; simp
            · cases h

theorem i_samples_L3_ok {xs : List (List UInt8)} (hx : xs.length ≤ 4294967296) {ys : List TSample} (h : smpAll xs [] = some ys) : i_samples_L3 xs (len xs) 0 [] = some ((ys, ()), ()) := by
  have key := loop_ind (xs := xs) (by omega) (P := fun i l => ∀ a : List TSample, a.length ≤ i → smpAll l a = some ys → i_samples_L3 xs (len xs) (i : Int) a = some ((ys, ()), ())) (by
    intro a _ h
    rw [i_samples_L3_eq]
    simp only [len_eq, Int.lt_irrefl, decide_false, Bool.false_eq_true, if_false]
    simp only [smpAll, Option.some.injEq] at h
    rw [h]) (by
    intro i y l _ hlt hy hi hw ih a ha h
    rw [i_samples_L3_eq]
    have hc : decide ((i : Int) < len xs) = true := by simp [len_eq, hlt]
    rw [if_pos hc, hi]
    simp only [Option.bind_some, Option.getD_none]
    simp only [smpAll] at h
    cases h5 : smpS a y with
    | none => simp [h5] at h
    | some b =>
      rw [h5] at h
      have hb := smpS_len h5
      have h := ih b (by omega) h
      unfold smpS at h5
      cases h1 : cut y 1 (len y) with
      | none => simp [h1] at h5
      | some y1 =>
        cases h2 : idx y 0 with
        | none => simp [h1, h2] at h5
        | some z =>
          simp only [h1, h2, Option.bind_some] at h5 ⊢
          simp only [i_samples_L15_eq, hw, beq_iff_eq]
          have ew : a = [] ∨ w64 (len a - 1) = ((a.length - 1 : Nat) : Int) := by
            cases a with
            | nil => exact .inl rfl
            | cons p q => right; rw [w64_of] <;> simp only [len_eq, List.length_cons] at * <;> omega
          rcases ew with ew | ew
          · subst ew
            split at h5
            · simp at h5
            · split at h5
              · simp at h5
              · split at h5
                · simp at h5
                · rw [if_neg (by assumption), if_neg (by assumption), if_neg (by assumption), h5]
                  simpa using h
          · simp only [ew, idx_nat, Int.toNat_natCast, upd_eq]
            have fin : ∀ {f : TSample → List (List UInt8)} {g : TSample → List (List UInt8) → TSample}, ((a[a.length - 1]?).bind fun s => (app (f s) [y1]).bind fun l => some (a.set (a.length - 1) (g s l))) = some b →
                ((a[a.length - 1]?).bind fun _ => (a[a.length - 1]?).bind fun _ => (a[a.length - 1]?).bind fun y193 => (app (f y193) [y1]).bind fun y192 => (a[a.length - 1]?).bind fun _ => (a[a.length - 1]?).bind fun y190 => (if True then some () else none).bind fun _ => i_samples_L3 xs (len xs) ((i + 1 : Nat) : Int) (a.set (a.length - 1) (g y190 y192))) = some ((ys, ()), ()) := by
              intro f g h5
              cases h3 : a[a.length - 1]? with
              | none => simp [h3] at h5
              | some s =>
                simp only [h3, Option.bind_some] at h5 ⊢
                cases h4 : app (f s) [y1] with
                | none => simp [h4] at h5
                | some l =>
                  simp only [h4, Option.bind_some, Option.some.injEq, if_true] at h5 ⊢
                  rw [h5]
                  exact h
            split at h5
            · rw [if_pos (by assumption)]; exact fin (f := fun s => s.fSource) (g := fun s l => TSample.mk s.fName l s.fInput s.fOutput) h5
            · rw [if_neg (by assumption)]
              split at h5
              · rw [if_pos (by assumption)]; exact fin (f := fun s => s.fInput) (g := fun s l => TSample.mk s.fName s.fSource l s.fOutput) h5
              · rw [if_neg (by assumption)]
                split at h5
                · rw [if_pos (by assumption)]; exact fin (f := fun s => s.fOutput) (g := fun s l => TSample.mk s.fName s.fSource s.fInput l) h5
                · rw [if_neg (by assumption), h5]
                  simpa using h) [] (by simp) h
  exact key

end Go.Dv.U

namespace Go.Dv.U

open Go Go.Dv Go.Proofs

def convS (x : TSpec_l28Item) : TSample := ⟨x.fName, x.fLines, x.fInput, x.fOutput⟩

/-- what is bounded in a sample -/
def smallS (x : TSpec_l28Item) : Bool := Nat.ble x.fLines.length 100000 && Nat.ble x.fInput.length 100000 && Nat.ble x.fOutput.length 100000 && Nat.ble (x.fLines.flatMap (fun l => l ++ [10])).length 100000

theorem lib_ex0 : ∃ L s, s_l28List = some L ∧ i_samples = (i_SplitLines s).bind (fun r200 => i_samples_L3 r200 (len r200) 0 ([])) ∧ (s == []) = false ∧ (Nat.blt s.length 4294967281 = true) ∧ smpAll (spl 10 (trim10 s)) [] = some (L.map convS) ∧ Nat.ble (spl 10 (trim10 s)).length 100000 = true ∧ Nat.ble L.length 100000 = true ∧ L.all smallS = true :=
  ⟨_, _, s_l28List_eq, i_samples_eq, rfl, by kernel_rfl, by kernel_rfl, by kernel_rfl, by kernel_rfl, by kernel_rfl⟩

theorem lib_ex : ∃ L, s_l28List = some L ∧ i_samples = some ((L.map convS, ()), ()) ∧ L.length ≤ 100000 ∧ ∀ x ∈ L, smallS x = true := by
  obtain ⟨L, s, h1, h2, h3, h4, h5, h6, h7, h8⟩ := lib_ex0
  refine ⟨L, h1, ?_, Nat.le_of_ble_eq_true h7, List.all_eq_true.1 h8⟩
  have h6 := Nat.le_of_ble_eq_true h6
  rw [h2, i_SplitLines_ok (Nat.blt_eq ▸ h4), h3]
  simp only [Bool.false_eq_true, if_false, Option.bind_some]
  exact i_samples_L3_ok (by omega) h5

theorem lib_at {x0 : Int} (h : IntOk x0) : ∃ (x : TSpec_l28Item) (b : Bool), s_l28At x0 = some (x, b) ∧ i_sampleOf x0 = some ((x.fName, x.fLines, x.fInput, x.fOutput, ()), ()) ∧ smallS x = true := by
  obtain ⟨L, h1, h2, h3, h4⟩ := lib_ex
  rw [s_l28At_eq, i_sampleOf_eq, h1, h2]
  simp only [Option.bind_some, s_l00In_eq, i_isIndex_eq, ite_some, len_eq, List.length_map]
  by_cases hm : x0 = -9223372036854775808
  · subst hm
    have e : w64 (-9223372036854775808 - 1) = 9223372036854775807 := by decide
    refine ⟨TSpec_l28Item.mk [] [] [] [], false, ?_, ?_, rfl⟩
    · simp
    · rw [e]
      have : ¬ ((9223372036854775807 : Int) < (L.length : Int)) := by omega
      simp [this]
  · have e : w64 (x0 - 1) = x0 - 1 := w64_of (by have := h.1; omega) (by have := h.2; omega)
    rw [e]
    by_cases c : 1 ≤ x0 ∧ x0 ≤ L.length
    · obtain ⟨n, hn⟩ : ∃ n : Nat, x0 - 1 = (n : Int) := ⟨(x0 - 1).toNat, by omega⟩
      have hlt : n < L.length := by omega
      refine ⟨L[n], true, ?_, ?_, h4 _ (List.getElem_mem hlt)⟩
      · have c1 : decide (x0 ≥ 1) = true := by simp; omega
        have c2 : decide (x0 ≤ (L.length : Int)) = true := by simp; omega
        simp only [c1, c2, if_true, Bool.not_true, Bool.false_eq_true, if_false]
        rw [hn, idx_nat, List.getElem?_eq_getElem hlt]
        rfl
      · have c1 : decide (x0 - 1 ≥ 0) = true := by simp; omega
        have c2 : decide (x0 - 1 < (L.length : Int)) = true := by simp; omega
        simp only [c1, c2, if_true, Bool.not_true, Bool.false_eq_true, if_false]
        rw [hn, idx_nat, Int.toNat_natCast, List.getElem?_eq_getElem (by simpa using hlt)]
        simp [convS]
    · refine ⟨TSpec_l28Item.mk [] [] [] [], false, ?_, ?_, rfl⟩
      · have c1 : (if decide (x0 ≥ 1) = true then decide (x0 ≤ (L.length : Int)) else false) = false := by
          by_cases g : x0 ≥ 1 <;> simp [g] <;> omega
        simp only [c1, Bool.not_false, if_true]
      · have c1 : (if decide (x0 - 1 ≥ 0) = true then decide (x0 - 1 < (L.length : Int)) else false) = false := by
          by_cases g : x0 - 1 ≥ 0 <;> simp [g] <;> omega
        simp only [c1, Bool.not_false, if_true]

theorem small_of {x : TSpec_l28Item} (h : smallS x = true) : x.fLines.length ≤ 100000 ∧ x.fInput.length ≤ 100000 ∧ x.fOutput.length ≤ 100000 ∧ (x.fLines.flatMap (fun l => l ++ [10])).length ≤ 100000 := by
  unfold smallS at h
  simp only [Bool.and_eq_true] at h
  exact ⟨Nat.le_of_ble_eq_true h.1.1.1, Nat.le_of_ble_eq_true h.1.1.2, Nat.le_of_ble_eq_true h.1.2, Nat.le_of_ble_eq_true h.2⟩

theorem joined_len : ∀ xs : List (List UInt8), ((xs.flatMap (fun l => l ++ [10])).map ib) = xs.flatMap (fun l => (l ++ [10]).map ib)
  | [] => rfl
  | x :: r => by simp only [List.flatMap_cons, List.map_append, joined_len r]

theorem s_l28Source_ok {xs : List (List UInt8)} (h : xs.length ≤ 100000) (h2 : (xs.flatMap (fun l => l ++ [10])).length ≤ 68719476736) : s_l28Source xs = some (xs.flatMap (fun l => l ++ [10])) := by
  rw [s_l28Source_eq]
  have := cat_loop (xs := xs) (by omega) (f := fun l => l ++ [10]) (J := fun i a => s_l28Source_L3 xs a i) (B := 68719476736) (by
    intro i y a hlt hy hi hw hb
    show s_l28Source_L3 xs a i = s_l28Source_L3 xs _ _
    rw [s_l28Source_L3_eq]
    have hc : decide ((i : Int) < len xs) = true := by simp [len_eq, hlt]
    rw [if_pos hc, hi]
    simp only [Option.bind_some]
    rw [app_of (by simp only [List.length_append] at hb; omega)]
    simp only [Option.bind_some]
    rw [app_of hb, hw]
    rfl) h2
  rw [show s_l28Source_L3 xs [] 0 = _ from this, s_l28Source_L3_eq]
  simp [len_eq]

theorem i_joinedLines_ok {xs : List (List UInt8)} (h : xs.length ≤ 100000) (h2 : (xs.flatMap (fun l => l ++ [10])).length ≤ 68719476736) : i_joinedLines xs = some (xs.flatMap (fun l => l ++ [10])) := by
  rw [i_joinedLines_eq]
  have e0 : i_joinedLines_L3 xs (len xs) 0 [] = i_joinedLines_L3_v1 xs (len xs) 0 [] := by rw [i_joinedLines_L3_eq, i_joinedLines_L3_v1_eq]
  have := cat_loop (xs := xs) (by omega) (f := fun l => (l ++ [10]).map ib) (J := fun i a => i_joinedLines_L3_v1 xs (len xs) i a) (B := 68719476736) (by
    intro i y a hlt hy hi hw hb
    show i_joinedLines_L3_v1 xs (len xs) i a = i_joinedLines_L3_v1 xs _ _ _
    rw [i_joinedLines_L3_v1_eq]
    have hc : decide ((i : Int) < len xs) = true := by simp [len_eq, hlt]
    rw [if_pos hc, hi]
    simp only [Option.bind_some]
    rw [app_of (by simp only [List.length_map, List.length_append] at hb ⊢; omega)]
    simp only [Option.bind_some]
    rw [show (fun b : UInt8 => ib b) = ib from rfl, app_of hb, hw]
    rfl) (by rw [← joined_len, List.length_map]; exact h2)
  rw [e0, show i_joinedLines_L3_v1 xs (len xs) 0 [] = _ from this, i_joinedLines_L3_v1_eq, ← joined_len]
  simp [len_eq, bytesOf_ib]

theorem l_FnExactLibrarySource_ok {x0 : Int} (h : IntOk x0) : l_FnExactLibrarySource x0 = some true := by
  obtain ⟨x, b, e1, e2, e3⟩ := lib_at h
  obtain ⟨g, _, _, g2⟩ := small_of e3
  rw [l_FnExactLibrarySource_eq, s_LibrarySource_eq, i_LibrarySource_eq, e1, e2]
  simp only [Option.bind_some]
  rw [s_l28Source_ok g (by omega), i_joinedLines_ok g (by omega)]
  simp

end Go.Dv.U
