/- Plain laws about these equations. -/
import Derived.Test.YthifliapgmalpaaDoorFnExactLibraryOutputEqa
set_option linter.all false
set_option linter.unusedVariables false
set_option linter.unusedSimpArgs false
namespace Go.Dv.U

open Go Go.Dv Go.Proofs

theorem eqStringS_of {xs : (List (List UInt8))} (hx : xs.length ≤ 9223372036854775807) : l_eqStringS xs xs = some true := by
  rw [l_eqStringS_eq]
  simp only [bne_self_eq_false, Bool.false_eq_true, if_false]
  exact eq_loop0 (by omega) (J := l_eqStringS_L4) (fun i => by rw [l_eqStringS_L4_eq]) (fun y => by simp)

end Go.Dv.U

namespace Go.Dv.U

open Go Go.Dv Go.Proofs

theorem mk_rem_ten (u : Nat) : rem (u : Int) 10 = some ((u % 10 : Nat) : Int) := by
  unfold rem
  rw [if_neg (by decide)]
  congr 1

theorem mk_quo_ten {u : Nat} (h : u < 9223372036854775808) : quo .i64 (u : Int) 10 = some ((u / 10 : Nat) : Int) := by
  unfold quo
  rw [if_neg (by decide)]
  congr 1
  rw [show ((u : Int).tdiv 10) = ((u / 10 : Nat) : Int) from rfl, IntKind.wrap_i64]
  omega

theorem l_markText_L4_ok : ∀ (f n : Nat) (a : List UInt8), n < 9223372036854775808 → n < 10 ^ f → a.length + f ≤ 100 → ∃ t, l_markText_L4 (n : Int) a = some t
  | 0, n, a, _, h, ha => by
    have : n = 0 := by simpa using h
    subst this
    rw [l_markText_L4_eq]
    refine ⟨[109] ++ a, ?_⟩
    have := app_of (xs := ([109] : List UInt8)) (ys := a) (by simp; omega)
    simp [this]
  | f + 1, n, a, h0, h, ha => by
    rw [l_markText_L4_eq]
    by_cases hn : n = 0
    · subst hn
      refine ⟨[109] ++ a, ?_⟩
      have := app_of (xs := ([109] : List UInt8)) (ys := a) (by simp; omega)
      simp [this]
    · have hc : decide ((n : Int) > 0) = true := by simp; omega
      rw [if_pos hc, mk_rem_ten]
      simp only [Option.bind_some, mk_quo_ten h0]
      rw [app_of (by simp; omega)]
      simp only [Option.bind_some]
      exact l_markText_L4_ok f (n / 10) _ (by omega) (by rw [Nat.pow_succ] at h; omega) (by simp; omega)

noncomputable def mkT (k : Int) : List UInt8 := (l_markText k).getD []

theorem l_markText_ok {k : Int} (h0 : 0 ≤ k) (h : k < 9223372036854775808) : l_markText k = some (mkT k) := by
  have : ∃ t, l_markText k = some t := by
    rw [l_markText_eq]
    by_cases c : k ≤ 0
    · exact ⟨_, by rw [if_pos (by simpa using c)]⟩
    · rw [if_neg (by simpa using c)]
      have := l_markText_L4_ok 19 k.toNat [] (by omega) (by simp; omega) (by simp)
      rwa [show ((k.toNat : Nat) : Int) = k by omega] at this
  obtain ⟨t, e⟩ := this
  rw [mkT, e]; rfl

noncomputable def marksS : Int → Nat → List (List UInt8)
  | _, 0 => []
  | k, n + 1 => mkT k :: marksS (k + 1) n

theorem marksS_len : ∀ (n : Nat) (k : Int), (marksS k n).length = n
  | 0, _ => rfl
  | n + 1, k => by simp [marksS, marksS_len n]

theorem l_markStringS_L2_ok : ∀ (n i : Nat) (k : Int) (xs : List (List UInt8)), i + n = xs.length → 0 ≤ k → k + n < 9223372036854775808 → xs.length < 9223372036854775807 →
    l_markStringS_L2 k (i : Int) xs = some (k + n, xs.take i ++ marksS k n, ())
  | 0, i, k, xs, hi, h0, h1, h2 => by
    rw [l_markStringS_L2_eq]
    have : i = xs.length := by omega
    subst this
    simp [len_eq, marksS]
  | n + 1, i, k, xs, hi, h0, h1, h2 => by
    rw [l_markStringS_L2_eq]
    have hc : decide ((i : Int) < len xs) = true := by simp [len_eq]; omega
    have hlt : i < xs.length := by omega
    rw [if_pos hc, l_markText_ok h0 (by omega)]
    simp only [Option.bind_some, idx_nat, Int.toNat_natCast, List.getElem?_eq_getElem hlt, upd_eq]
    rw [w64_of (by omega) (by omega), w64_of (by omega) (by omega)]
    have ih := l_markStringS_L2_ok n (i + 1) (k + 1) (xs.set i (mkT k)) (by simp; omega) (by omega) (by omega) (by simpa using h2)
    rw [show ((i : Int) + 1) = ((i + 1 : Nat) : Int) by omega, ih]
    congr 1
    rw [show k + 1 + (n : Int) = k + ((n + 1 : Nat) : Int) by omega]
    congr 2
    simp only [marksS]
    rw [List.take_set, List.take_succ_eq_append_getElem hlt, List.set_append_right _ _ (by simp; omega)]
    simp [Nat.min_eq_left (by omega : i ≤ xs.length)]

theorem l_markStringS_ok {xs : List (List UInt8)} {k : Int} (h0 : 0 ≤ k) (h1 : k + xs.length < 9223372036854775807) : l_markStringS k xs = some (k + xs.length, marksS k xs.length, ()) := by
  have := l_markStringS_L2_ok xs.length 0 k xs (by omega) h0 (by omega) (by omega)
  rw [l_markStringS_eq]
  simpa using this

theorem l_heldStringS_ok {n : Nat} {k : Int} (h0 : 0 ≤ k) (h1 : k + n < 9223372036854775807) : l_heldStringS (marksS k n) k = some (k + n) := by
  rw [l_heldStringS_eq]
  have key := loop_ind (xs := marksS k n) (by rw [marksS_len]; omega) (P := fun i l => ∀ k' : Int, 0 ≤ k' → k' + l.length < 9223372036854775807 → l = marksS k' l.length → l_heldStringS_L2 (marksS k n) k' (i : Int) = some (k' + l.length)) (by
    intro k' _ _ _
    rw [l_heldStringS_L2_eq]
    simp [len_eq]) (by
    intro i y l _ hlt hy hi hw ih k' g0 g1 e
    simp only [List.length_cons, marksS, List.cons.injEq] at e g1
    rw [l_heldStringS_L2_eq]
    have hc : decide ((i : Int) < len (marksS k n)) = true := by simp [len_eq, hlt]
    rw [if_pos hc, hi, l_markText_ok g0 (by omega), ← e.1]
    simp only [Option.bind_some, beq_self_eq_true, Bool.not_true, Bool.false_eq_true, if_false, hw]
    rw [w64_of (by omega) (by omega), ih (k' + 1) (by omega) (by omega) e.2]
    congr 1
    simp only [List.length_cons]; omega) k h0 (by rw [marksS_len]; omega) (by rw [marksS_len])
  rw [marksS_len] at key
  exact key

end Go.Dv.U

namespace Go.Dv

open Go

/-- a text cut at a byte -/
def spl (c : UInt8) : List UInt8 → List (List UInt8)
  | [] => [[]]
  | b :: l => if b == c then [] :: spl c l else match spl c l with
    | [] => [[b]]
    | x :: r => (b :: x) :: r

theorem split_spl (c : UInt8) : ∀ s : List UInt8, Lib.splitK [c] 0 (s.count c) s = spl c s
  | [] => by simp [Lib.splitK, spl]
  | b :: l => by
    have ih := split_spl c l
    by_cases h : b = c
    · subst h
      have hix : Lib.index (b :: l) [b] = 0 := by rw [Lib.index]; simp [List.isPrefixOf]
      rw [List.count_cons_self, Lib.splitK, hix]
      simp [spl, ih]
    · have hp : ([c] : List UInt8).isPrefixOf (b :: l) = false := by simp [List.isPrefixOf, Ne.symm h]
      have hix : Lib.index (b :: l) [c] = if Lib.index l [c] == -1 then -1 else Lib.index l [c] + 1 := by rw [Lib.index, hp]; simp
      rw [List.count_cons_of_ne (by simpa using h)]
      simp only [spl, beq_iff_eq, h, if_false]
      rw [← ih]
      cases hk : l.count c with
      | zero => simp [Lib.splitK]
      | succ k =>
        have hm : ¬ Lib.index l [c] = -1 := by
          intro e
          have := Lib.count_miss e
          rw [Lib.count_one, hk] at this
          omega
        have hge := Lib.index_ge l [c]
        obtain ⟨j, hj⟩ : ∃ j : Nat, Lib.index l [c] = j := ⟨(Lib.index l [c]).toNat, by omega⟩
        have e1 : (Lib.index l [c] == -1) = false := by simpa using hm
        have e2 : (Lib.index (b :: l) [c] == -1) = false := by rw [hix, e1]; simp; omega
        have e3 : Lib.index (b :: l) [c] = ((j + 1 : Nat) : Int) := by rw [hix, e1, hj]; simp
        have e4 : ((j : Int) == -1) = false := by simp
        have e5 : (((j + 1 : Nat) : Int) == -1) = false := by simp; omega
        simp only [Lib.splitK, e3, hj, e4, e5, Bool.false_eq_true, if_false, Int.toNat_natCast]
        simp

theorem splitS_ok {s : List UInt8} (h : s.length < 4294967281) (c : UInt8) : splitS s [c] = some (spl c s) := by
  unfold splitS
  rw [if_pos ⟨h, by simp⟩, Lib.split, Lib.count_one, split_spl]

end Go.Dv

namespace Go.Dv.U

open Go Go.Dv Go.Proofs

/-- a text without the newline at its end -/
def trim10 (s : List UInt8) : List UInt8 := if s.drop (s.length - 1) = [10] then s.take (s.length - 1) else s

theorem i_SplitLines_ok {s : List UInt8} (h : s.length < 4294967281) : i_SplitLines s = some (if s == [] then [] else spl 10 (trim10 s)) := by
  rw [i_SplitLines_eq]
  by_cases hn : s = []
  · subst hn; rfl
  · have hl : 1 ≤ s.length := by cases s with | nil => exact absurd rfl hn | cons _ _ => simp
    have e : w64 (len s - len ([10] : List UInt8)) = ((s.length - 1 : Nat) : Int) := by
      rw [w64_of] <;> simp only [len_eq, List.length_singleton] <;> omega
    have et : strings_TrimSuffix s [10] = some (trim10 s) := by
      rw [strings_TrimSuffix_eq, internal_stringslite_TrimSuffix_eq, internal_stringslite_HasSuffix_eq]
      have g1 : decide (len s ≥ len ([10] : List UInt8)) = true := by simp only [len_eq, List.length_singleton, decide_eq_true_eq]; omega
      simp only [g1, if_true, e, Option.getD_none, Option.getD_some]
      rw [show len s = ((s.length : Nat) : Int) from len_eq s, cut_of (by omega) (by omega)]
      simp only [Option.bind_some, List.take_length]
      unfold trim10
      by_cases c : s.drop (s.length - 1) = [10]
      · simp only [c, beq_self_eq_true, if_true]
        have := cut_of (xs := s) (a := 0) (b := s.length - 1) (by omega) (by omega)
        simp only [Int.natCast_zero] at this
        rw [this]
        simp
      · have c' : (s.drop (s.length - 1) == [10]) = false := by simpa using c
        simp only [c', Bool.false_eq_true, if_false, c, Option.bind_some]
    have hs : (s == []) = false := by simpa using hn
    simp only [hs, Bool.false_eq_true, if_false, et, Option.bind_some]
    rw [splitS_ok]
    · rfl
    · unfold trim10; split
      · simp only [List.length_take]; omega
      · exact h

end Go.Dv.U

namespace Go.Dv.U

open Go Go.Dv Go.Proofs

def smpS (x3 : List TSample) (y199 : List UInt8) : Option (List TSample) :=
  (cut y199 1 (len y199)).bind fun y198 => (idx y199 0).bind fun y197 =>
    if ib y197 = 124 then (x3[x3.length - 1]?).bind fun s => (app s.fSource [y198]).bind fun l => some (x3.set (x3.length - 1) (TSample.mk s.fName l s.fInput s.fOutput))
    else if ib y197 = 60 then (x3[x3.length - 1]?).bind fun s => (app s.fInput [y198]).bind fun l => some (x3.set (x3.length - 1) (TSample.mk s.fName s.fSource l s.fOutput))
    else if ib y197 = 62 then (x3[x3.length - 1]?).bind fun s => (app s.fOutput [y198]).bind fun l => some (x3.set (x3.length - 1) (TSample.mk s.fName s.fSource s.fInput l))
    else app x3 [TSample.mk y199 [] [] []]

def smpAll : List (List UInt8) → List TSample → Option (List TSample)
  | [], a => some a
  | x :: r, a => (smpS a x).bind (smpAll r)

theorem smpS_len {a b : List TSample} {x : List UInt8} (h : smpS a x = some b) : b.length ≤ a.length + 1 := by
  unfold smpS at h
  cases h1 : cut x 1 (len x) with
  | none => simp [h1] at h
  | some y =>
    cases h2 : idx x 0 with
    | none => simp [h1, h2] at h
    | some z =>
      simp only [h1, h2, Option.bind_some] at h
      have key : ∀ {f : TSample → Option (List (List UInt8))} {g : TSample → List (List UInt8) → TSample}, ((a[a.length - 1]?).bind fun s => (f s).bind fun l => some (a.set (a.length - 1) (g s l))) = some b → b.length ≤ a.length + 1 := by
        intro f g h
        cases h3 : a[a.length - 1]? with
        | none => simp [h3] at h
        | some s =>
          simp only [h3, Option.bind_some] at h
          cases h4 : f s with
          | none => simp [h4] at h
          | some l => simp only [h4, Option.bind_some, Option.some.injEq] at h; rw [← h]; simp
      split at h
      · exact key h
      · split at h
        · exact key h
        · split at h
          · exact key h
          · unfold app at h
            split at h
            · cases h; simp
            · cases h

theorem i_samples_L3_ok {xs : List (List UInt8)} (hx : xs.length ≤ 4294967296) {ys : List TSample} (h : smpAll xs [] = some ys) : i_samples_L3 xs (len xs) 0 [] = some ((ys, ()), ()) := by
  have key := loop_ind (xs := xs) (by omega) (P := fun i l => ∀ a : List TSample, a.length ≤ i → smpAll l a = some ys → i_samples_L3 xs (len xs) (i : Int) a = some ((ys, ()), ())) (by
    intro a _ h
    rw [i_samples_L3_eq]
    simp only [len_eq, Int.lt_irrefl, decide_false, Bool.false_eq_true, if_false]
    simp only [smpAll, Option.some.injEq] at h
    rw [h]) (by
    intro i y l _ hlt hy hi hw ih a ha h
    rw [i_samples_L3_eq]
    have hc : decide ((i : Int) < len xs) = true := by simp [len_eq, hlt]
    rw [if_pos hc, hi]
    simp only [Option.bind_some, Option.getD_none]
    simp only [smpAll] at h
    cases h5 : smpS a y with
    | none => simp [h5] at h
    | some b =>
      rw [h5] at h
      have hb := smpS_len h5
      have h := ih b (by omega) h
      unfold smpS at h5
      cases h1 : cut y 1 (len y) with
      | none => simp [h1] at h5
      | some y1 =>
        cases h2 : idx y 0 with
        | none => simp [h1, h2] at h5
        | some z =>
          simp only [h1, h2, Option.bind_some] at h5 ⊢
          simp only [i_samples_L15_eq, hw, beq_iff_eq]
          have ew : a = [] ∨ w64 (len a - 1) = ((a.length - 1 : Nat) : Int) := by
            cases a with
            | nil => exact .inl rfl
            | cons p q => right; rw [w64_of] <;> simp only [len_eq, List.length_cons] at * <;> omega
          rcases ew with ew | ew
          · subst ew
            split at h5
            · simp at h5
            · split at h5
              · simp at h5
              · split at h5
                · simp at h5
                · rw [if_neg (by assumption), if_neg (by assumption), if_neg (by assumption), h5]
                  simpa using h
          · simp only [ew, idx_nat, Int.toNat_natCast, upd_eq]
            have fin : ∀ {f : TSample → List (List UInt8)} {g : TSample → List (List UInt8) → TSample}, ((a[a.length - 1]?).bind fun s => (app (f s) [y1]).bind fun l => some (a.set (a.length - 1) (g s l))) = some b →
                ((a[a.length - 1]?).bind fun _ => (a[a.length - 1]?).bind fun _ => (a[a.length - 1]?).bind fun y193 => (app (f y193) [y1]).bind fun y192 => (a[a.length - 1]?).bind fun _ => (a[a.length - 1]?).bind fun y190 => (if True then some () else none).bind fun _ => i_samples_L3 xs (len xs) ((i + 1 : Nat) : Int) (a.set (a.length - 1) (g y190 y192))) = some ((ys, ()), ()) := by
              intro f g h5
              cases h3 : a[a.length - 1]? with
              | none => simp [h3] at h5
              | some s =>
                simp only [h3, Option.bind_some] at h5 ⊢
                cases h4 : app (f s) [y1] with
                | none => simp [h4] at h5
                | some l =>
                  simp only [h4, Option.bind_some, Option.some.injEq, if_true] at h5 ⊢
                  rw [h5]
                  exact h
            split at h5
            · rw [if_pos (by assumption)]; exact fin (f := fun s => s.fSource) (g := fun s l => TSample.mk s.fName l s.fInput s.fOutput) h5
            · rw [if_neg (by assumption)]
              split at h5
              · rw [if_pos (by assumption)]; exact fin (f := fun s => s.fInput) (g := fun s l => TSample.mk s.fName s.fSource l s.fOutput) h5
              · rw [if_neg (by assumption)]
                split at h5
                · rw [if_pos (by assumption)]; exact fin (f := fun s => s.fOutput) (g := fun s l => TSample.mk s.fName s.fSource s.fInput l) h5
                · rw [if_neg (by assumption), h5]
                  simpa using h) [] (by simp) h
  exact key

end Go.Dv.U

namespace Go.Dv.U

open Go Go.Dv Go.Proofs

def convS (x : TSpec_l28Item) : TSample := ⟨x.fName, x.fLines, x.fInput, x.fOutput⟩

/-- what is bounded in a sample -/
def smallS (x : TSpec_l28Item) : Bool := Nat.ble x.fLines.length 100000 && Nat.ble x.fInput.length 100000 && Nat.ble x.fOutput.length 100000 && Nat.ble (x.fLines.flatMap (fun l => l ++ [10])).length 100000

theorem lib_ex0 : ∃ L s, s_l28List = some L ∧ i_samples = (i_SplitLines s).bind (fun r200 => i_samples_L3 r200 (len r200) 0 ([])) ∧ (s == []) = false ∧ (Nat.blt s.length 4294967281 = true) ∧ smpAll (spl 10 (trim10 s)) [] = some (L.map convS) ∧ Nat.ble (spl 10 (trim10 s)).length 100000 = true ∧ Nat.ble L.length 100000 = true ∧ L.all smallS = true :=
  ⟨_, _, s_l28List_eq, i_samples_eq, rfl, by kernel_rfl, by kernel_rfl, by kernel_rfl, by kernel_rfl, by kernel_rfl⟩

theorem lib_ex : ∃ L, s_l28List = some L ∧ i_samples = some ((L.map convS, ()), ()) ∧ L.length ≤ 100000 ∧ ∀ x ∈ L, smallS x = true := by
  obtain ⟨L, s, h1, h2, h3, h4, h5, h6, h7, h8⟩ := lib_ex0
  refine ⟨L, h1, ?_, Nat.le_of_ble_eq_true h7, List.all_eq_true.1 h8⟩
  have h6 := Nat.le_of_ble_eq_true h6
  rw [h2, i_SplitLines_ok (Nat.blt_eq ▸ h4), h3]
  simp only [Bool.false_eq_true, if_false, Option.bind_some]
  exact i_samples_L3_ok (by omega) h5

theorem lib_at {x0 : Int} (h : IntOk x0) : ∃ (x : TSpec_l28Item) (b : Bool), s_l28At x0 = some (x, b) ∧ i_sampleOf x0 = some ((x.fName, x.fLines, x.fInput, x.fOutput, ()), ()) ∧ smallS x = true := by
  obtain ⟨L, h1, h2, h3, h4⟩ := lib_ex
  rw [s_l28At_eq, i_sampleOf_eq, h1, h2]
  simp only [Option.bind_some, s_l00In_eq, i_isIndex_eq, ite_some, len_eq, List.length_map]
  by_cases hm : x0 = -9223372036854775808
  · subst hm
    have e : w64 (-9223372036854775808 - 1) = 9223372036854775807 := by decide
    refine ⟨TSpec_l28Item.mk [] [] [] [], false, ?_, ?_, rfl⟩
    · simp
    · rw [e]
      have : ¬ ((9223372036854775807 : Int) < (L.length : Int)) := by omega
      simp [this]
  · have e : w64 (x0 - 1) = x0 - 1 := w64_of (by have := h.1; omega) (by have := h.2; omega)
    rw [e]
    by_cases c : 1 ≤ x0 ∧ x0 ≤ L.length
    · obtain ⟨n, hn⟩ : ∃ n : Nat, x0 - 1 = (n : Int) := ⟨(x0 - 1).toNat, by omega⟩
      have hlt : n < L.length := by omega
      refine ⟨L[n], true, ?_, ?_, h4 _ (List.getElem_mem hlt)⟩
      · have c1 : decide (x0 ≥ 1) = true := by simp; omega
        have c2 : decide (x0 ≤ (L.length : Int)) = true := by simp; omega
        simp only [c1, c2, if_true, Bool.not_true, Bool.false_eq_true, if_false]
        rw [hn, idx_nat, List.getElem?_eq_getElem hlt]
        rfl
      · have c1 : decide (x0 - 1 ≥ 0) = true := by simp; omega
        have c2 : decide (x0 - 1 < (L.length : Int)) = true := by simp; omega
        simp only [c1, c2, if_true, Bool.not_true, Bool.false_eq_true, if_false]
        rw [hn, idx_nat, Int.toNat_natCast, List.getElem?_eq_getElem (by simpa using hlt)]
        simp [convS]
    · refine ⟨TSpec_l28Item.mk [] [] [] [], false, ?_, ?_, rfl⟩
      · have c1 : (if decide (x0 ≥ 1) = true then decide (x0 ≤ (L.length : Int)) else false) = false := by
          by_cases g : x0 ≥ 1 <;> simp [g] <;> omega
        simp only [c1, Bool.not_false, if_true]
      · have c1 : (if decide (x0 - 1 ≥ 0) = true then decide (x0 - 1 < (L.length : Int)) else false) = false := by
          by_cases g : x0 - 1 ≥ 0 <;> simp [g] <;> omega
        simp only [c1, Bool.not_false, if_true]

theorem small_of {x : TSpec_l28Item} (h : smallS x = true) : x.fLines.length ≤ 100000 ∧ x.fInput.length ≤ 100000 ∧ x.fOutput.length ≤ 100000 ∧ (x.fLines.flatMap (fun l => l ++ [10])).length ≤ 100000 := by
  unfold smallS at h
  simp only [Bool.and_eq_true] at h
  exact ⟨Nat.le_of_ble_eq_true h.1.1.1, Nat.le_of_ble_eq_true h.1.1.2, Nat.le_of_ble_eq_true h.1.2, Nat.le_of_ble_eq_true h.2⟩

theorem l_FnExactLibraryOutput_ok {x0 : Int} (h : IntOk x0) : l_FnExactLibraryOutput x0 = some true := by
  obtain ⟨x, b, e1, e2, e3⟩ := lib_at h
  obtain ⟨_, _, g, _⟩ := small_of e3
  rw [l_FnExactLibraryOutput_eq, s_LibraryOutput_eq, i_LibraryOutput_eq, e1, e2]
  simp only [Option.bind_some]
  rw [app_of (by simp; omega)]
  simp only [Option.bind_some, List.nil_append, eqStringS_of (xs := x.fOutput) (by omega), Bool.not_true, Bool.false_eq_true, if_false, l_markStringS_ok (xs := x.fOutput) (k := 1) (by omega) (by omega), l_heldStringS_ok (n := x.fOutput.length) (k := 1) (by omega) (by omega)]
  have c : decide ((1 : Int) + (x.fOutput.length : Int) < 0) = false := by simp; omega
  simp [c]

end Go.Dv.U
