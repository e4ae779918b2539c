/- An evaluator over the program text and its soundness: what a function returns, as plain equations. It holds for every program that the configuration describes. -/
import Derived.Test.YtohlmmpchllelaaGreatDoorDva
set_option linter.all false
set_option linter.unusedVariables false
set_option linter.unusedSimpArgs false
namespace Go.Dv
open Go
section
variable {G : Sig} {C : Cfg G} {Φ : FuncId → List Item → St G.S → Option (Ret G.S)} {f : FuncId} {r : Ret G.S}
theorem cut_vr {w : World} {ok : Okc} {M : Mem} {t : Ty} {xs : List (t.den G.S)} {a : Option Addr} {n c : Nat} (h : VR (G := G) w ok M (.sl t xs) (.slice a n c)) {l hi : Nat} (h1 : l ≤ hi) (h2 : hi ≤ xs.length) :
  n = xs.length ∧ (n ≤ c ∨ n = 0) ∧ VR (G := G) w ok M (.sl t ((xs.take hi).drop l)) (.slice (if c = l then a else a.map (·.add (l * Ty.sz G t))) (hi - l) (c - l)) := by
 cases h with
 | sl0 _ a c =>
  have : hi = 0 := by simpa using h2
  subst this
  have : l = 0 := by omega
  subst this
  refine ⟨rfl, .inr rfl, ?_⟩
  simp only [List.take_nil, List.drop_nil, Nat.sub_self]
  exact .sl0 _ _ _
 | sl1 _ _ b off c u hc h3 h4 =>
  refine ⟨rfl, .inl hc, ?_⟩
  by_cases hlt : l < hi
  ·rw [if_neg (by omega)]
   have hlen : ((xs.take hi).drop l).length = hi - l := by simp; omega
   have hget : ∀ (i : Nat) (x : t.den G.S), ((xs.take hi).drop l)[i]? = some x → xs[l + i]? = some x := by
    intro i x hi'
    rw [List.getElem?_drop, List.getElem?_take] at hi'
    split at hi'
    ·exact hi'
    ·cases hi'
   have hres : VR (G := G) w ok M (.sl t ((xs.take hi).drop l)) (.slice (some ⟨b, off + l * Ty.sz G t, none⟩) ((xs.take hi).drop l).length (c - l)) := by
    refine .sl1 t _ b _ _ (fun i j => u (l + i) j) (by rw [hlen]; omega) (fun i x j y hx hj => ?_) (fun i x j y hx hj => h4 _ _ _ _ (hget i x hx) hj)
    have := h3 _ _ _ _ (hget i x hx) hj
    have e : off + l * Ty.sz G t + (i * Ty.sz G t + j) = off + ((l + i) * Ty.sz G t + j) := by rw [Nat.add_mul]; omega
    rw [e]; exact this
   rw [hlen] at hres
   simp only [Option.map_some, addr_add]
   exact hres
  ·have : hi = l := by omega
   subst this
   have : (xs.take hi).drop hi = [] := by apply List.drop_eq_nil_of_le; simp; omega
   rw [this, Nat.sub_self]
   exact .sl0 _ _ _
theorem bound_run {P : Program} {w : World} {k : IntKind} {i : Int} {y : Nat} {code : BoundsCode} (h0 : 0 ≤ i) (h1 : i ≤ y) : (Instr.sliceBound (.int k i) y code).run P w = .ok i.toNat w := by
 simp [Instr.sliceBound, asIntOf, h0, h1]
theorem slice_run {P : Program} {w : World} {t e : TypeId} {sz : Nat} {a : Option Addr} {n c : Nat} {lo hi : Option Value} {l h : Nat} (hu : P.underlying t = some (.slice e)) (hs : (sizeOf e).run P w = .ok sz w)
  (hhi : hi = none ∧ h = n ∨ ∃ k, hi = some (.int k (h : Int))) (hlo : lo = none ∧ l = 0 ∨ ∃ k, lo = some (.int k (l : Int))) (h1 : l ≤ h) (h2 : h ≤ c) :
  (Instr.sliceAt t (.slice a n c) lo hi none).run P w = .ok (.slice (if c = l then a else a.map (·.add (l * sz))) (h - l) (c - l)) w := by
 have hb : (Instr.sliceBounds true n c lo hi none).run P w = .ok (l, h, c) w := by
  rcases hhi with ⟨rfl, rfl⟩ | ⟨k, rfl⟩ <;> rcases hlo with ⟨rfl, rfl⟩ | ⟨k', rfl⟩ <;>
   simp [Instr.sliceBounds, bound_run, h1, h2]
 simp [Instr.sliceAt, Instr.slice, run_underlying hu, hb, hs]
theorem slice_str_run {P : Program} {w : World} {t : TypeId} {s : ByteArray} {lo hi : Option Value} {l h : Nat} (hu : P.underlying t = some .string)
  (hhi : hi = none ∧ h = s.size ∨ ∃ k, hi = some (.int k (h : Int))) (hlo : lo = none ∧ l = 0 ∨ ∃ k, lo = some (.int k (l : Int))) (h1 : l ≤ h) (h2 : h ≤ s.size) :
  (Instr.sliceAt t (.string s) lo hi none).run P w = .ok (.string (s.extract l h)) w := by
 have hb : (Instr.sliceBounds false s.size s.size lo hi none).run P w = .ok (l, h, s.size) w := by
  rcases hhi with ⟨rfl, rfl⟩ | ⟨k, rfl⟩ <;> rcases hlo with ⟨rfl, rfl⟩ | ⟨k', rfl⟩ <;>
   simp [Instr.sliceBounds, bound_run, h1, h2]
 simp [Instr.sliceAt, Instr.slice, run_underlying hu, hb]
def BdR (w : World) (ok : Okc) (M : Mem) (x : Option (V G.S)) (v : Option Value) : Prop := match x, v with
 | none, none => True
 | some x, some v => VR w ok M x v
 | _, _ => False
theorem sliceT_run (hS : SigOk G) {t : TypeId} {x : V G.S} {lo hi : Option (V G.S)} {st : St G.S} {k : K G} (h : (sliceT C t x lo hi st k).run G Φ f = some r) :
    ∃ v st' rd wr, st'.tm = st.tm ∧ st'.n0 = st.n0 ∧ (∀ (w0 : World) (Fp : Fx) (okA : Okc) (M : Mem) (ok : Okc) (w : World) (vx : Value) (vl vh : Option Value), MI C w0 Fp okA M ok st.L w → VR w ok M x vx → BdR w ok M lo vl → BdR w ok M hi vh →
      ∃ val ok', (Instr.sliceAt t vx vl vh none).run C.P w = .ok val w ∧ MI C w0 Fp okA M ok' st'.L w ∧ Ex M ok w M ok' w ∧ VR w ok' M v val) ∧ (k v st' rd wr).run G Φ f = some r := by
  have key : ∀ (l : Int) (h' : Option Int), (∀ (w : World) (ok : Okc) (M : Mem) (vl : Option Value), BdR w ok M lo vl → vl = none ∧ l = 0 ∨ ∃ k, vl = some (.int k l)) → (∀ (w : World) (ok : Okc) (M : Mem) (vh : Option Value), BdR w ok M hi vh → vh = none ∧ h' = none ∨ ∃ k n, vh = some (.int k n) ∧ h' = some n) →
      (sliceT.go C t x st k l h').run G Φ f = some r → ∃ v st' rd wr, st'.tm = st.tm ∧ st'.n0 = st.n0 ∧ (∀ (w0 : World) (Fp : Fx) (okA : Okc) (M : Mem) (ok : Okc) (w : World) (vx : Value) (vl vh : Option Value), MI C w0 Fp okA M ok st.L w → VR w ok M x vx → BdR w ok M lo vl → BdR w ok M hi vh →
      ∃ val ok', (Instr.sliceAt t vx vl vh none).run C.P w = .ok val w ∧ MI C w0 Fp okA M ok' st'.L w ∧ Ex M ok w M ok' w ∧ VR w ok' M v val) ∧ (k v st' rd wr).run G Φ f = some r := by
    clear h
    intro l h' hlo hhi h
    unfold sliceT.go at h
    split at h
    · rename_i s hu
      obtain ⟨q, hq, h⟩ := run_bnd h
      obtain ⟨c1, c2, c3, rfl⟩ := cut_ok hq
      refine ⟨_, st, _, _, rfl, rfl, fun w0 Fp okA M ok w vx vl vh hm hx hl hh => ?_, h⟩
      cases hx with
      | str b =>
        have hbs : b.data.toList.length = b.size := by rw [Array.length_toList]; rfl
        refine ⟨_, ok, slice_str_run (l := l.toNat) (h := (h'.getD (b.data.toList.length : Int)).toNat) hu ?_ ?_ (by omega) (by omega), hm, Ex.refl _ _ _, ?_⟩
        · rcases hhi w ok M vh hh with ⟨rfl, rfl⟩ | ⟨k, n, rfl, rfl⟩
          · left; simp [hbs]
          · right; simp only [Option.getD_some] at c2 ⊢; exact ⟨k, by congr 2; omega⟩
        · rcases hlo w ok M vl hl with ⟨rfl, rfl⟩ | ⟨k, rfl⟩
          · left; simp
          · right; exact ⟨k, by congr 2; omega⟩
        · rw [← extract_data]; exact .str _
    · rename_i e ty xs hu
      split at h
      · rename_i hsz
        obtain ⟨q, hq, h⟩ := run_bnd h
        obtain ⟨c1, c2, c3, rfl⟩ := cut_ok hq
        refine ⟨_, st, _, _, rfl, rfl, fun w0 Fp okA M ok w vx vl vh hm hx hl hh => ?_, h⟩
        obtain ⟨rd⟩ := rd_sl hS hx
        obtain ⟨a, c, us, rfl, _, _, _, _⟩ := rd
        obtain ⟨hn, hnc, hv⟩ := cut_vr hx (l := l.toNat) (hi := (h'.getD (xs.length : Int)).toNat) (by omega) (by omega)
        refine ⟨_, ok, slice_run (l := l.toNat) (h := (h'.getD (xs.length : Int)).toNat) hu (sizeT_run hsz) ?_ ?_ (by omega) (by omega), hm, Ex.refl _ _ _, hv⟩
        · rcases hhi w ok M vh hh with ⟨rfl, rfl⟩ | ⟨k, n, rfl, rfl⟩
          · left; simp
          · right; simp only [Option.getD_some] at c2 ⊢; exact ⟨k, by congr 2; omega⟩
        · rcases hlo w ok M vl hl with ⟨rfl, rfl⟩ | ⟨k, rfl⟩
          · left; simp
          · right; exact ⟨k, by congr 2; omega⟩
      · exact run_fail h
    · rename_i e o hu
      split at h
      · rename_i e' ty xs fz hL
        split at h
        · rename_i hsz
          obtain ⟨q, hq, h⟩ := run_bnd h
          obtain ⟨c1, c2, c3, rfl⟩ := cut_ok hq
          refine ⟨_, _, _, _, ?_, ?_, fun w0 Fp okA M ok w vx vl vh hm hx hl hh => ?_, h⟩
          · rfl
          · rfl
          obtain ⟨hm1, he1⟩ := hm.freeze hS [o]
          have hx1 := arr_sl hS hm hL hx (os := [o]) (by simp)
          obtain ⟨rd⟩ := rd_sl hS hx1
          obtain ⟨a, c, us, rfl, _, _, _, _⟩ := rd
          obtain ⟨hn, hnc, hv⟩ := cut_vr hx1 (l := l.toNat) (hi := (h'.getD (xs.length : Int)).toNat) (by omega) (by omega)
          refine ⟨_, _, slice_run (l := l.toNat) (h := (h'.getD (xs.length : Int)).toNat) hu (sizeT_run hsz) ?_ ?_ (by omega) (by omega), hm1, he1, hv⟩
          · rcases hhi w ok M vh hh with ⟨rfl, rfl⟩ | ⟨k, n, rfl, rfl⟩
            · left; simp
            · right; simp only [Option.getD_some] at c2 ⊢; exact ⟨k, by congr 2; omega⟩
          · rcases hlo w ok M vl hl with ⟨rfl, rfl⟩ | ⟨k, rfl⟩
            · left; simp
            · right; exact ⟨k, by congr 2; omega⟩
        · exact run_fail h
      · exact run_fail h
    · exact run_fail h
  unfold sliceT at h
  cases lo with
  | none =>
    dsimp only at h
    cases hi with
    | none => exact key 0 none (fun w ok M vl hb => by cases vl with | none => exact .inl ⟨rfl, rfl⟩ | some v => exact hb.elim) (fun w ok M vh hb => by cases vh with | none => exact .inl ⟨rfl, rfl⟩ | some v => exact hb.elim) h
    | some hv =>
      cases hv with
      | int kk n => exact key 0 (some n) (fun w ok M vl hb => by cases vl with | none => exact .inl ⟨rfl, rfl⟩ | some v => exact hb.elim) (fun w ok M vh hb => by cases vh with | none => exact hb.elim | some v => cases hb; exact .inr ⟨_, _, rfl, rfl⟩) h
      | _ => exact run_fail h
  | some lv =>
    cases lv with
    | int kl nl =>
      dsimp only at h
      cases hi with
      | none => exact key nl none (fun w ok M vl hb => by cases vl with | none => exact hb.elim | some v => cases hb; exact .inr ⟨_, rfl⟩) (fun w ok M vh hb => by cases vh with | none => exact .inl ⟨rfl, rfl⟩ | some v => exact hb.elim) h
      | some hv =>
        cases hv with
        | int kk n => exact key nl (some n) (fun w ok M vl hb => by cases vl with | none => exact hb.elim | some v => cases hb; exact .inr ⟨_, rfl⟩) (fun w ok M vh hb => by cases vh with | none => exact hb.elim | some v => cases hb; exact .inr ⟨_, _, rfl, rfl⟩) h
        | _ => exact run_fail h
    | _ => exact run_fail h
theorem sliceP_run (hS : SigOk G) {tt : TypeId} {x : V G.S} (hx0 : (∃ ty xs, x = .sl ty xs) ∨ ∃ s, x = .str s) {lo hi : Option (V G.S)} {st : St G.S} {k : K G} (h : (sliceT C tt x lo hi st k).run G Φ f = some r) :
    ∃ v, (∀ (w : World) (ok : Okc) (M : Mem) (vx : Value) (vl vh : Option Value), VR w ok M x vx → BdR w ok M lo vl → BdR w ok M hi vh →
      ∃ val, (Instr.sliceAt tt vx vl vh none).run C.P w = .ok val w ∧ VR w ok M v val) ∧ (k v st [] []).run G Φ f = some r := by
  have key : ∀ (l : Int) (h' : Option Int), (∀ (w : World) (ok : Okc) (M : Mem) (vl : Option Value), BdR w ok M lo vl → vl = none ∧ l = 0 ∨ ∃ k, vl = some (.int k l)) → (∀ (w : World) (ok : Okc) (M : Mem) (vh : Option Value), BdR w ok M hi vh → vh = none ∧ h' = none ∨ ∃ k n, vh = some (.int k n) ∧ h' = some n) →
      (sliceT.go C tt x st k l h').run G Φ f = some r → ∃ v, (∀ (w : World) (ok : Okc) (M : Mem) (vx : Value) (vl vh : Option Value), VR w ok M x vx → BdR w ok M lo vl → BdR w ok M hi vh →
      ∃ val, (Instr.sliceAt tt vx vl vh none).run C.P w = .ok val w ∧ VR w ok M v val) ∧ (k v st [] []).run G Φ f = some r := by
    clear h
    intro l h' hlo hhi h
    unfold sliceT.go at h
    split at h
    · rename_i s hu
      obtain ⟨q, hq, h⟩ := run_bnd h
      obtain ⟨c1, c2, c3, rfl⟩ := cut_ok hq
      refine ⟨_, fun w ok M vx vl vh hx hl hh => ?_, h⟩
      cases hx with
      | str b =>
        have hbs : b.data.toList.length = b.size := by rw [Array.length_toList]; rfl
        refine ⟨_, slice_str_run (l := l.toNat) (h := (h'.getD (b.data.toList.length : Int)).toNat) hu ?_ ?_ (by omega) (by omega), ?_⟩
        · rcases hhi w ok M vh hh with ⟨rfl, rfl⟩ | ⟨k, n, rfl, rfl⟩
          · left; simp [hbs]
          · right; simp only [Option.getD_some] at c2 ⊢; exact ⟨k, by congr 2; omega⟩
        · rcases hlo w ok M vl hl with ⟨rfl, rfl⟩ | ⟨k, rfl⟩
          · left; simp
          · right; exact ⟨k, by congr 2; omega⟩
        · rw [← extract_data]; exact .str _
    · rename_i e ty xs hu
      split at h
      · rename_i hsz
        obtain ⟨q, hq, h⟩ := run_bnd h
        obtain ⟨c1, c2, c3, rfl⟩ := cut_ok hq
        refine ⟨_, fun w ok M vx vl vh hx hl hh => ?_, h⟩
        obtain ⟨rd⟩ := rd_sl hS hx
        obtain ⟨a, c, us, rfl, _, _, _, _⟩ := rd
        obtain ⟨hn, hnc, hv⟩ := cut_vr hx (l := l.toNat) (hi := (h'.getD (xs.length : Int)).toNat) (by omega) (by omega)
        refine ⟨_, slice_run (l := l.toNat) (h := (h'.getD (xs.length : Int)).toNat) hu (sizeT_run hsz) ?_ ?_ (by omega) (by omega), hv⟩
        · rcases hhi w ok M vh hh with ⟨rfl, rfl⟩ | ⟨k, n, rfl, rfl⟩
          · left; simp
          · right; simp only [Option.getD_some] at c2 ⊢; exact ⟨k, by congr 2; omega⟩
        · rcases hlo w ok M vl hl with ⟨rfl, rfl⟩ | ⟨k, rfl⟩
          · left; simp
          · right; exact ⟨k, by congr 2; omega⟩
      · exact run_fail h
    · rename_i e o hu
      rcases hx0 with ⟨_, _, hh⟩ | ⟨_, hh⟩ <;> cases hh
    · exact run_fail h
  unfold sliceT at h
  cases lo with
  | none =>
    dsimp only at h
    cases hi with
    | none => exact key 0 none (fun w ok M vl hb => by cases vl with | none => exact .inl ⟨rfl, rfl⟩ | some v => exact hb.elim) (fun w ok M vh hb => by cases vh with | none => exact .inl ⟨rfl, rfl⟩ | some v => exact hb.elim) h
    | some hv =>
      cases hv with
      | int kk n => exact key 0 (some n) (fun w ok M vl hb => by cases vl with | none => exact .inl ⟨rfl, rfl⟩ | some v => exact hb.elim) (fun w ok M vh hb => by cases vh with | none => exact hb.elim | some v => cases hb; exact .inr ⟨_, _, rfl, rfl⟩) h
      | _ => exact run_fail h
  | some lv =>
    cases lv with
    | int kl nl =>
      dsimp only at h
      cases hi with
      | none => exact key nl none (fun w ok M vl hb => by cases vl with | none => exact hb.elim | some v => cases hb; exact .inr ⟨_, rfl⟩) (fun w ok M vh hb => by cases vh with | none => exact .inl ⟨rfl, rfl⟩ | some v => exact hb.elim) h
      | some hv =>
        cases hv with
        | int kk n => exact key nl (some n) (fun w ok M vl hb => by cases vl with | none => exact hb.elim | some v => cases hb; exact .inr ⟨_, rfl⟩) (fun w ok M vh hb => by cases vh with | none => exact hb.elim | some v => cases hb; exact .inr ⟨_, _, rfl, rfl⟩) h
        | _ => exact run_fail h
    | _ => exact run_fail h
end
end Go.Dv

namespace Go.Dv
open Go
section
variable {G : Sig} {C : Cfg G} {Φ : FuncId → List Item → St G.S → Option (Ret G.S)} {f : FuncId} {r : Ret G.S}
section
variable {w0 : World} {Fp : Fx} {okA : Okc} {M : Mem} {ok : Okc} {L : List (Obj G.S)} {w w' : World}
theorem MI.replace (h : MI C w0 Fp okA M ok L w) {o : Nat} {ob0 : Obj G.S} (ho : L[o]? = some ob0) (hl0 : ob0.live) (hnr : ∀ off, ¬ ob0.rd off) (x : MB) (ob : Obj G.S) (hg : w.grownBy w' (blk M o))
  (hx : ∀ b, x.blk = some b → w.heap.size ≤ b ∨ blk M o = some b) (hob : Ex M ok w (updM M L.length x) ok w' → OR w' ok (updM M L.length x) L.length ob) :
  MI C w0 Fp okA (updM M L.length x) ok (L.set o .dead ++ [ob]) w' ∧ Ex M ok w (updM M L.length x) ok w' := by
 refine h.recast (fun q => q = o) (fun q => q = L.length) hg.os hg.tape hg.output hg.size (fun q hq => by subst hq; exact ⟨_, ho, hl0, hnr⟩) (fun b hb hn => hg.block b hb fun e => hn o rfl (.inl e.symm)) (fun i y hi => by rw [updM_ne _ _ (by have := h.dom i y hi; omega)]; exact hi)
  (fun q y hq => ?_) (fun q y hq hl => ?_) (fun he q y hq hl e => ?_) (fun q y b hq hl e hb => ?_) (fun o1 o2 _ _ _ _ _ _ _ e1 e2 _ _ => e1.trans e2.symm)
 ·simp only [List.length_append, List.length_set, List.length_singleton]
  by_cases e : q = L.length
  ·omega
  ·rw [updM_ne _ _ e] at hq; have := h.dom q y hq; omega
 ·rcases snoc_split hq with ⟨h1, h2⟩ | ⟨h1, _⟩
  ·rw [List.length_set] at h1
   rcases set_split h2 with ⟨_, rfl, _⟩ | ⟨h3, h4⟩
   ·exact hl.elim
   ·exact .inl ⟨h4, h3, updM_ft _ _ (by omega)⟩
  ·rw [List.length_set] at h1; exact .inr h1
 ·subst e
  rcases snoc_split hq with ⟨h1, _⟩ | ⟨_, rfl⟩
  ·rw [List.length_set] at h1; omega
  ·exact hob he
 ·subst e
  rw [hasB_same] at hb
  rcases hx b hb with h1 | h1
  ·exact .inl ⟨h1, fun h => by simp [updM] at h⟩
  ·exact .inr ⟨o, rfl, .inl h1⟩
theorem bytesOk_info {e : TypeId} (h : bytesOk C e = true) : ∃ i z, C.P.info? e = some i ∧ i.zero = some z ∧ i.bytes ≤ 2048 ∧ 0 < i.size ∧ z.cells.size = i.size := by
 unfold bytesOk at h
 split at h
 ·rename_i i hi
  split at h
  ·rename_i z hz
   simp only [Bool.and_eq_true, decide_eq_true_eq] at h
   exact ⟨i, z, hi, hz, h.1.1, h.1.2, h.2⟩
  ·cases h
 ·cases h
theorem append_run {ta e : TypeId} {ty : TypeId} {t : Ty} (hu : C.P.underlying ta = some (.slice e)) (hb : bytesOk C e = true) (hsz : sizeT C e = some (Ty.sz G t)) (base : Nat) {v : Value} {n : Nat} {us : List Value}
    (hown : w.ownsRow base e (Ty.sz G t) v n us) (hbase : base ≤ w.heap.size) {ys : List (t.den G.S)} {vy : Value} (rd : Rd G w ok M t ys vy) (hbig : n + ys.length ≤ big) :
    ∃ v' w', (Builtin.append_ #[ta, ta] ty #[v, vy]).run C.P w = .ok v' w' ∧ w'.ownsRow base e (Ty.sz G t) v' (n + ys.length) (us ++ rd.us) ∧ w.grownBy w' v.ownBlock ∧ (∀ b, v'.ownBlock = some b → w.heap.size ≤ b ∨ v.ownBlock = some b) := by
  obtain ⟨i, z, hi, hz, h128, hpos, hzc⟩ := bytesOk_info hb
  obtain ⟨i', hi', his⟩ := sizeT_info hsz
  rw [hi] at hi'; cases hi'
  obtain ⟨a, c, ux, rfl, hlen, hcell, hone, hel⟩ := rd
  dsimp only
  have hbb : big = 68719476736 := rfl
  cases a with
  | none =>
    have hux : ux = [] := by
      cases ux with
      | nil => rfl
      | cons u r => obtain ⟨ad, h1, _⟩ := hcell 0 u rfl; cases h1
    subst hux
    have hy0 : ys.length = 0 := by
      simp only [List.length_nil] at hlen
      rcases Nat.eq_zero_or_pos ys.length with h | h
      · exact h
      · have := Nat.mul_pos h (show 0 < Ty.sz G t by rw [← his]; exact hpos); omega
    rw [hy0]
    refine ⟨v, w, ?_, by simpa using hown, ⟨rfl, rfl, rfl, Nat.le_refl _, fun _ _ _ => rfl⟩, fun b hb => .inr hb⟩
    rcases hown.2 with ⟨rfl, rfl⟩ | ⟨g, cap, cur, rfl, _, _, hnc, _⟩
    · simp [Builtin.append_, run_underlying hu, sizeOf, typeInfo, hi, Builtin.lenOf, Builtin.firstCells]
    · simp [Builtin.append_, run_underlying hu, sizeOf, typeInfo, hi, Builtin.lenOf, Builtin.firstCells, hnc, storeCells]
  | some ad =>
    obtain ⟨v', w', h1, h2, h3, _⟩ := run_append_own (P := C.P) w base ta ty e i z (Ty.sz G t) i.bytes hu hi hz his rfl (by rw [hzc, his]) (by rw [← his]; exact hpos) v n us hown ad ys.length c ux hlen
      (fun j u hj => by obtain ⟨ad', h1, h2⟩ := hcell j u hj; cases h1; exact h2) hone (by unfold maxLen; omega) (by
        calc (n + ys.length) * i.bytes ≤ big * 2048 := Nat.mul_le_mul hbig h128
          _ = 140737488355328 := by rw [hbb]) hbase
    refine ⟨v', w', h1, h2, h3, fun b hb => ?_⟩
    have hnews : ∀ j u, ux[j]? = some u → w.cell? (ad.add j) = some u := fun j u hj => by obtain ⟨ad', h1, h2⟩ := hcell j u hj; cases h1; exact h2
    rw [← his] at hlen hown
    rcases hown.2 with ⟨rfl, rfl⟩ | ⟨g, cap, cur, rfl, hbg, hg, hnc, hcm, hcs, htk⟩
    · by_cases hm : ys.length = 0
      · have hux : ux = [] := List.eq_nil_of_length_eq_zero (by rw [hlen, hm, Nat.zero_mul])
        subst hux
        have : (Builtin.append_ #[ta, ta] ty #[.slice none 0 0, .slice (some ad) ys.length c]).run C.P w = .ok (.slice none 0 0) w := by
          rw [hm]
          simp [Builtin.append_, run_underlying hu, sizeOf, typeInfo, hi, Builtin.lenOf, Builtin.firstCells, loadCells, loadCellsFrom]
        rw [this] at h1
        cases h1
        simp [Value.ownBlock] at hb
      · have hr := run_append_nil (P := C.P) w ta ty e i z hu hi hz ad ys.length c ux hlen hnews (by omega) (by omega) (by
          calc ys.length * i.bytes ≤ big * 2048 := Nat.mul_le_mul (by omega) h128
            _ ≤ 281474976710656 := by rw [hbb]; omega)
        rw [hr] at h1
        cases h1
        simp only [Value.ownBlock, Option.some.injEq] at hb
        exact .inl (by omega)
    · by_cases hroom : n + ys.length ≤ cap
      · obtain ⟨w'', hr, _⟩ := run_append_fits (P := C.P) w base ta ty e i i.size hu hi rfl g n cap us hown ad ys.length c ux hlen hnews hone hroom
        rw [hr] at h1
        cases h1
        exact .inr hb
      · have holds : ∀ j u, us[j]? = some u → w.cell? ((⟨g, 0, none⟩ : Addr).add j) = some u := hown.cells (g := g) rfl
        have hr := run_append_grow (P := C.P) w ta ty e i z hu hi hz ⟨g, 0, none⟩ n cap us hown.1 holds ad ys.length c ux hlen hnews (by omega) (by omega) (growslice_fits (by omega) (by
          calc (n + ys.length) * i.bytes ≤ big * 2048 := Nat.mul_le_mul hbig h128
            _ = 140737488355328 := by rw [hbb]))
        rw [hr] at h1
        cases h1
        simp only [Value.ownBlock, Option.some.injEq] at hb
        exact .inl (by omega)
theorem el_append {t : Ty} {xs ys : List (t.den G.S)} {us vs : List Value} (hS : SigOk G) (hl : us.length = xs.length * Ty.sz G t)
    (h1 : ∀ (i : Nat) (x : t.den G.S) (j : Nat) (y : V G.S) (u : Value), xs[i]? = some x → (Ty.cells G t x)[j]? = some y → us[i * Ty.sz G t + j]? = some u → VR w ok M y u)
    (h2 : ∀ (i : Nat) (x : t.den G.S) (j : Nat) (y : V G.S) (u : Value), ys[i]? = some x → (Ty.cells G t x)[j]? = some y → vs[i * Ty.sz G t + j]? = some u → VR w ok M y u) :
    ∀ (i : Nat) (x : t.den G.S) (j : Nat) (y : V G.S) (u : Value), (xs ++ ys)[i]? = some x → (Ty.cells G t x)[j]? = some y → (us ++ vs)[i * Ty.sz G t + j]? = some u → VR w ok M y u := by
  intro i x j y u hi hj hu
  have hjl : j < Ty.sz G t := by have := (List.getElem?_eq_some_iff.1 hj).1; rw [cells_len hS] at this; exact this
  by_cases hlt : i < xs.length
  · rw [List.getElem?_append_left hlt] at hi
    have : i * Ty.sz G t + j < us.length := by
      rw [hl]
      calc i * Ty.sz G t + j < i * Ty.sz G t + Ty.sz G t := by omega
        _ = (i + 1) * Ty.sz G t := by rw [Nat.add_mul, Nat.one_mul]
        _ ≤ xs.length * Ty.sz G t := Nat.mul_le_mul_right _ hlt
    rw [List.getElem?_append_left this] at hu
    exact h1 i x j y u hi hj hu
  · rw [List.getElem?_append_right (by omega)] at hi
    have hm : xs.length * Ty.sz G t ≤ i * Ty.sz G t := Nat.mul_le_mul_right _ (by omega)
    rw [List.getElem?_append_right (by omega)] at hu
    refine h2 (i - xs.length) x j y u hi hj ?_
    rw [← hu]; congr 1
    rw [Nat.sub_mul, hl]; omega
end
theorem app_ok {α : Type} {xs ys zs : List α} (h : app xs ys = some zs) : xs.length + ys.length ≤ big ∧ zs = xs ++ ys := by
 unfold app at h
 split at h
 ·rename_i hc; cases h; exact ⟨hc, rfl⟩
 ·cases h
theorem own_slice_of {w : World} {base : Nat} {e : TypeId} {size : Nat} {v : Value} {n : Nat} {us : List Value} (h : w.ownsRow base e size v n us) : ∃ a c, v = .slice a n c ∧ v.ownBlock = a.map (·.block) := by
 rcases h.2 with ⟨rfl, rfl⟩ | ⟨g, cap, cur, rfl, _⟩
 ·exact ⟨none, 0, rfl, rfl⟩
 ·exact ⟨some ⟨g, 0, none⟩, cap, rfl, rfl⟩
theorem keep_app0 {α : Type} {L : List α} {x : α} {q : Nat} (h : q < L.length) : (L ++ [x])[q]? = L[q]? := List.getElem?_append_left h
theorem keep_app1 {α : Type} {L : List α} {x y : α} {o q : Nat} (hq : q ∉ [o]) (h : q < L.length) : (L.set o y ++ [x])[q]? = L[q]? := by
 rw [List.getElem?_append_left (by simpa using h), List.getElem?_set_ne (fun e => hq (by simp [e]))]
theorem keep_app2 {α : Type} {L : List α} {x y z : α} {o o2 q : Nat} (hq : q ∉ [o, o2]) (h : q < L.length) : ((L.set o y).set o2 z ++ [x])[q]? = L[q]? := by
 simp only [List.mem_cons, not_or] at hq
 rw [List.getElem?_append_left (by simpa using h), List.getElem?_set_ne (fun e => hq.2.1 e.symm), List.getElem?_set_ne (fun e => hq.1 e.symm)]
def AppSrc (C : Cfg G) (ta tb e ty : TypeId) (t : Ty) (ys : List (t.den G.S)) (w : World) (ok : Okc) (M : Mem) (vx : Value) : Prop :=
 ∃ us2 : List Value, (∀ (i : Nat) (x : t.den G.S) (j : Nat) (y : V G.S) (u : Value), ys[i]? = some x → (Ty.cells G t x)[j]? = some y → us2[i * Ty.sz G t + j]? = some u → VR w ok M y u) ∧
  ∀ (base : Nat) (v : Value) (n : Nat) (us : List Value), w.ownsRow base e (Ty.sz G t) v n us → base ≤ w.heap.size → n + ys.length ≤ big →
   ∃ v' w', (Builtin.append_ #[ta, tb] ty #[v, vx]).run C.P w = .ok v' w' ∧ w'.ownsRow base e (Ty.sz G t) v' (n + ys.length) (us ++ us2) ∧ w.grownBy w' v.ownBlock ∧ (∀ b, v'.ownBlock = some b → w.heap.size ≤ b ∨ v.ownBlock = some b)
theorem appT_runG (hS : SigOk G) {ta tb e ty : TypeId} {t : Ty} (hb : bytesOk C e = true) (hsz : sizeT C e = some (Ty.sz G t)) {s x : V G.S} {ys : List (t.den G.S)} {st : St G.S}
    (hys : ∀ (w0 : World) (Fp : Fx) (okA : Okc) (M : Mem) (ok : Okc) (w : World) (vx : Value), MI C w0 Fp okA M ok st.L w → VR w ok M x vx → AppSrc C ta tb e ty t ys w ok M vx) {rd : List Nat} {k : K G}
    (h : (appT e t s ys st rd k).run G Φ f = some r) :
    ∃ v st' rd wr, st'.tm = st.tm ∧ st'.n0 = st.n0 ∧ (∀ q, q ∉ wr → q < st.L.length → st'.L[q]? = st.L[q]?) ∧ (∀ (w0 : World) (Fp : Fx) (okA : Okc) (M : Mem) (ok : Okc) (w : World) (vs vx : Value), MI C w0 Fp okA M ok st.L w → VR w ok M s vs → VR w ok M x vx →
      ∃ val w' M' ok', (Builtin.append_ #[ta, tb] ty #[vs, vx]).run C.P w = .ok val w' ∧ MI C w0 Fp okA M' ok' st'.L w' ∧ Ex M ok w M' ok' w' ∧ VR w' ok' M' v val) ∧ (k v st' rd wr).run G Φ f = some r := by
  have hzpos : 0 < Ty.sz G t := by
    obtain ⟨i, z, hi, hz, h128, hpos, hzc⟩ := bytesOk_info hb
    obtain ⟨i', hi', his⟩ := sizeT_info hsz
    rw [hi] at hi'; cases hi'; rw [← his]; exact hpos
  unfold appT at h
  split at h
  · rename_i e' t'
    split at h
    · rename_i hc
      obtain ⟨rfl, rfl⟩ := hc
      obtain ⟨zs, hz, hk⟩ := run_bnd h
      clear h
      obtain ⟨hbig, hzs⟩ := app_ok hz
      clear hz
      rw [hzs] at hk
      refine ⟨_, _, _, _, ?_, ?_, fun q _ hlt => keep_app0 hlt, fun w0 Fp okA M ok w vs vx hm hs hx => ?_, hk⟩
      · rfl
      · rfl
      cases hs
      obtain ⟨us2, hel2, happ⟩ := hys w0 Fp okA M ok w vx hm hx
      obtain ⟨v', w', h1, h2, h3, _⟩ := happ w.heap.size _ _ _ (World.ownsRow_nil w w.heap.size e' (Ty.sz G t')) (Nat.le_refl _) (by simpa using hbig)
      simp only [Nat.zero_add, List.nil_append] at h2
      obtain ⟨a, c, rfl, hob⟩ := own_slice_of h2
      have hg : ∀ k, k < w.heap.size → w'.heap[k]? = w.heap[k]? := fun k hk => h3.block k hk (by simp [Value.ownBlock])
      have he := hm.ex_push (w' := w') (.arr a ys.length c e' (Ty.sz G t')) hg
      refine ⟨_, w', _, _, h1, hm.push (.arr a ys.length c e' (Ty.sz G t')) (.arr e' t' ([] ++ ys) false) h3.os h3.tape h3.output h3.size hg ?_ ?_, he, .arr _ a ys.length c e' (Ty.sz G t') (updM_same _ _ _)⟩
      · refine ⟨a, c, us2, updM_same _ _ _, ?_, hzpos, fun i x j y u p1 p2 p3 => (hel2 i x j y u p1 p2 p3).mono he⟩
        exact ⟨h2.1, by rcases h2.2 with q | ⟨g, cap, cur, q1, q2, q3⟩; · exact .inl q
                        · exact .inr ⟨g, cap, cur, q1, Nat.zero_le _, q3⟩⟩
      · intro b hb'
        simp only [MB.blk] at hb'
        rw [← hob] at hb'
        exact (h2.lt b hb').1
    · exact run_fail h
  · rename_i o
    split at h
    · rename_i e' t' xs hL
      split at h
      · rename_i he'
        subst he'
        split at h
        · rename_i ht
          subst ht
          obtain ⟨zs, hz, hk⟩ := run_bnd h
          clear h
          obtain ⟨hbig, hzs⟩ := app_ok hz
          clear hz
          rw [hzs] at hk
          refine ⟨_, _, _, _, ?_, ?_, fun q hq hlt => keep_app1 hq hlt, fun w0 Fp okA M ok w vs vx hm hs hx => ?_, hk⟩
          · rfl
          · rfl
          obtain ⟨rds, hM, hown⟩ := rd_arr hS hm hL hs
          obtain ⟨us2, hel2, happ⟩ := hys w0 Fp okA M ok w vx hm hx
          obtain ⟨v', w', h1, h2, h3, h4⟩ := happ 0 _ _ _ hown (Nat.zero_le _) hbig
          obtain ⟨a, c, rfl, hob⟩ := own_slice_of h2
          have hobk : (Value.slice rds.a xs.length rds.c).ownBlock = blk M o := by
            simp only [blk, hM, MB.blk, Option.bind_some]
            cases rds.a <;> rfl
          rw [rds.val, hobk] at h3
          have hsub : Ex M ok w (updM M st.L.length (.arr a (xs.length + ys.length) c e' (Ty.sz G t'))) ok w' → OR w' ok (updM M st.L.length (.arr a (xs.length + ys.length) c e' (Ty.sz G t'))) st.L.length (.arr e' t' (xs ++ ys) false) := by
            intro he
            refine ⟨a, c, rds.us ++ us2, by rw [List.length_append]; exact updM_same _ _ _, by rw [List.length_append]; exact h2, hzpos, ?_⟩
            exact el_append hS hown.1 (fun i x j y u p1 p2 p3 => (rds.el i x j y u p1 p2 p3).mono he) (fun i x j y u p1 p2 p3 => (hel2 i x j y u p1 p2 p3).mono he)
          have hrep := hm.replace (w' := w') (ob0 := .arr e' t' xs false) hL trivial (fun off hr => by simp [Obj.rd] at hr) (.arr a (xs.length + ys.length) c e' (Ty.sz G t')) (.arr e' t' (xs ++ ys) false) h3 ?_ hsub
          · exact ⟨_, w', _, _, h1, hrep.1, hrep.2, .arr _ a _ c e' (Ty.sz G t') (updM_same _ _ _)⟩
          · intro b hb'
            simp only [MB.blk] at hb'
            rw [← hobk, ← rds.val]
            exact h4 b (by rw [hob]; exact hb')
        · exact run_fail h
      · exact run_fail h
    · exact run_fail h
  · exact run_fail h
theorem appT_run (hS : SigOk G) {ta e ty : TypeId} {t : Ty} (hu : C.P.underlying ta = some (.slice e)) (hb : bytesOk C e = true) (hsz : sizeT C e = some (Ty.sz G t)) {s x : V G.S} {ys : List (t.den G.S)} {st : St G.S} (hys : ysOf st.L t x = some ys) {rd : List Nat} {k : K G}
  (h : (appT e t s ys st rd k).run G Φ f = some r) :
  ∃ v st' rd wr, st'.tm = st.tm ∧ st'.n0 = st.n0 ∧ (∀ q, q ∉ wr → q < st.L.length → st'.L[q]? = st.L[q]?) ∧ (∀ (w0 : World) (Fp : Fx) (okA : Okc) (M : Mem) (ok : Okc) (w : World) (vs vx : Value), MI C w0 Fp okA M ok st.L w → VR w ok M s vs → VR w ok M x vx →
   ∃ val w' M' ok', (Builtin.append_ #[ta, ta] ty #[vs, vx]).run C.P w = .ok val w' ∧ MI C w0 Fp okA M' ok' st'.L w' ∧ Ex M ok w M' ok' w' ∧ VR w' ok' M' v val) ∧ (k v st' rd wr).run G Φ f = some r :=
 appT_runG hS hb hsz (fun w0 Fp okA M ok w vx hm hx => by
  obtain ⟨rd⟩ := ysOf_rd hS hm hys hx
  exact ⟨rd.us, rd.el, fun base v n us hown hbase hbig => append_run hu hb hsz base hown hbase rd hbig⟩) h
theorem byteOk_info {e : TypeId} (h : byteOk C e = true) : ∃ i, C.P.info? e = some i ∧ i.zero = some (.int .u8 0) ∧ i.size = 1 ∧ i.bytes = 1 := by
 unfold byteOk at h
 split at h
 ·rename_i i hi
  simp only [Bool.and_eq_true, decide_eq_true_eq] at h
  obtain ⟨⟨h1, h2⟩, h3⟩ := h
  split at h1
  ·rename_i n hz
   have : n = 0 := by simpa using h1
   subst this
   exact ⟨i, hi, hz, h2, h3⟩
  ·cases h1
 ·cases h
theorem append_str {ta tb e : TypeId} {ty : TypeId} (hu : C.P.underlying ta = some (.slice e)) (ht : C.P.underlying tb = some .string) (hb : byteOk C e = true) (base : Nat) {w : World} {v : Value} {n : Nat} {us : List Value}
  (hown : w.ownsRow base e 1 v n us) (hbase : base ≤ w.heap.size) (s : ByteArray) (hbig : n + s.size ≤ big) :
  ∃ v' w', (Builtin.append_ #[ta, tb] ty #[v, .string s]).run C.P w = .ok v' w' ∧ w'.ownsRow base e 1 v' (n + s.size) (us ++ Lib.strCells s) ∧ w.grownBy w' v.ownBlock ∧ (∀ b, v'.ownBlock = some b → w.heap.size ≤ b ∨ v.ownBlock = some b) := by
 obtain ⟨i, hi, hz, hs1, hby⟩ := byteOk_info hb
 have hbb : big = 68719476736 := rfl
 obtain ⟨v', w', h1, h2, h3, _⟩ := Lib.run_append_own_string (P := C.P) w base ta tb ty e i hu ht hi hz hs1 hby v n us hown s (by unfold maxLen; omega) (by omega) hbase
 refine ⟨v', w', h1, h2, h3, fun b hvb => ?_⟩
 rcases hown.2 with ⟨rfl, rfl⟩ | ⟨g, cap, cur, rfl, hbg, hg, hnc, hcm, hcs, htk⟩
 ·obtain ⟨v2, w2, k1, k2, _, _⟩ := Lib.run_append_own_string (P := C.P) w w.heap.size ta tb ty e i hu ht hi hz hs1 hby (.slice none 0 0) 0 us ⟨hown.1, .inl ⟨rfl, rfl⟩⟩ s (by unfold maxLen; omega) (by omega) (Nat.le_refl _)
  rw [k1] at h1
  cases h1
  rcases k2.2 with ⟨rfl, _⟩ | ⟨g, cap, cur, rfl, hbg, _⟩
  ·simp [Value.ownBlock] at hvb
  ·simp only [Value.ownBlock, Option.some.injEq] at hvb
   exact .inl (by omega)
 ·by_cases hroom : n + s.size ≤ cap
  ·have hr := Lib.run_append_room_string (P := C.P) w ta tb ty e i hu ht hi hs1 g n cap cur hg s hroom (by rw [hcs]; omega)
   rw [hr] at h1
   cases h1
   exact .inr hvb
  ·have holds : ∀ j u, us[j]? = some u → w.cell? ((⟨g, 0, none⟩ : Addr).add j) = some u := hown.cells (g := g) rfl
   have hr := Lib.run_append_grow_string (P := C.P) w ta tb ty e i (.int .u8 0) hu ht hi hz ⟨g, 0, none⟩ n cap us (by rw [hs1]; simpa using hown.1) holds s (by omega) (by omega) (by rw [hby]; exact growslice_fits (by omega) (by omega))
   rw [hr] at h1
   cases h1
   simp only [Value.ownBlock, Option.some.injEq] at hvb
   exact .inl (by omega)
theorem appStr_src {ta tb e : TypeId} {ty : TypeId} (hu : C.P.underlying ta = some (.slice e)) (ht : C.P.underlying tb = some .string) (hb : byteOk C e = true) {bs : List UInt8} {w : World} {ok : Okc} {M : Mem} {vx : Value} (hx : VR (G := G) w ok M (.str bs) vx) :
    AppSrc (G := G) C ta tb e ty (.int .u8) (bs.map fun b => (b.toNat : Int)) w ok M vx := by
  cases hx with
  | str s =>
    have hsz : (s.data.toList.map fun (b : UInt8) => (b.toNat : Int)).length = s.size := by rw [List.length_map, Array.length_toList]; rfl
    refine ⟨Lib.strCells s, fun i x j y u h1 h2 h3 => ?_, fun base v n us hown hbase hbig => ?_⟩
    · have hj : j = 0 := by
        have := (List.getElem?_eq_some_iff.1 h2).1
        simp [Ty.cells] at this; exact this
      subst hj
      simp only [Ty.cells, List.getElem?_cons_zero, Option.some.injEq] at h2
      subst h2
      simp only [Ty.sz, Nat.mul_one, Nat.add_zero] at h3
      unfold Lib.strCells at h3
      have h1' : (s.data.toList.map fun (b : UInt8) => (b.toNat : Int))[i]? = some (show Int from x) := h1
      rw [List.getElem?_map] at h1' h3
      cases hq : s.data.toList[i]? with
      | none => rw [hq] at h1'; cases h1'
      | some q =>
        rw [hq] at h1' h3
        have e1 : (q.toNat : Int) = x := Option.some.inj h1'
        subst e1
        cases h3
        exact .int _ _
    · have hbig' : n + s.size ≤ big := by rw [← hsz]; exact hbig
      have := append_str (ty := ty) hu ht hb base hown hbase s hbig'
      rw [← hsz] at this
      exact this
section
variable {w0 : World} {Fp : Fx} {okA : Okc} {M : Mem} {ok : Okc} {L : List (Obj G.S)} {w w' : World}
theorem app_tr (hS : SigOk G) (hm : MI C w0 Fp okA M ok L w) {o2 : Nat} {e : TypeId} {t : Ty} {xs ys : List (t.den G.S)} (ho2 : L[o2]? = some (.tr e t ys [])) {us1 us2 : List Value} {FF1 FF2 : Nat → Nat → Nat → Prop} {bo : Option Nat} (D1 : Nat → Prop)
  (hD1 : ∀ q, D1 q → q ≠ o2 ∧ ∃ ob, L[q]? = some ob ∧ ob.live ∧ ∀ off, ¬ ob.rd off) (hbo : ∀ b, bo = some b → ∃ q, D1 q ∧ blk M q = some b) (hz : 0 < Ty.sz G t)
  (hc1 : ∀ (i : Nat) (x : t.den G.S) (j : Nat) (y : V G.S) (u : Value), xs[i]? = some x → (Ty.cells G t x)[j]? = some y → us1[i * Ty.sz G t + j]? = some u → OT w (FF1 i j) y u)
  (hd1 : ∀ i j i' j' b, FF1 i j b → FF1 i' j' b → i = i' ∧ j = j') (hF1 : ∀ i j b, FF1 i j b → ∃ q, D1 q ∧ M.ft q b) (hr1 : ∀ b, bo = some b → ∀ i j, ¬ FF1 i j b) (hl1 : us1.length = xs.length * Ty.sz G t)
  (hc2 : ∀ (i : Nat) (x : t.den G.S) (j : Nat) (y : V G.S) (u : Value), ys[i]? = some x → (Ty.cells G t x)[j]? = some y → us2[i * Ty.sz G t + j]? = some u → OT w (FF2 i j) y u)
  (hd2 : ∀ i j i' j' b, FF2 i j b → FF2 i' j' b → i = i' ∧ j = j') (hF2 : ∀ i j b, FF2 i j b → M.ft o2 b)
  (h3 : w.grownBy w' bo) {a : Option Addr} {c : Nat} (h2 : w'.ownsRow 0 e (Ty.sz G t) (.slice a (xs.length + ys.length) c) (xs.length + ys.length) (us1 ++ us2)) (h4 : ∀ b, a.map (·.block) = some b → w.heap.size ≤ b ∨ bo = some b)
  {L' : List (Obj G.S)} (hLl : L'.length = L.length) (hL' : ∀ (q : Nat) (ob : Obj G.S), L'[q]? = some ob → ob.live → L[q]? = some ob ∧ q ≠ o2 ∧ ¬ D1 q) :
  ∃ M', MI C w0 Fp okA M' ok (L' ++ [.tr e t (xs ++ ys) []]) w' ∧ Ex M ok w M' ok w' ∧ M' L.length = some (.arr a (xs.length + ys.length) c e (Ty.sz G t)) := by
 have hdd : ∀ q b, D1 q → hasB M q b → ¬ hasB M o2 b := fun q b hq h5 h6 => by
  obtain ⟨h7, ob, h8, h9, _⟩ := hD1 q hq
  exact h7 (hm.dis q o2 ob _ b h8 ho2 h9 trivial h5 h6)
 have hq2 : ∀ q q' b, D1 q → D1 q' → hasB M q b → hasB M q' b → q = q' := fun q q' b h5 h6 h7 h8 => by
  obtain ⟨_, ob, h9, h10, _⟩ := hD1 q h5
  obtain ⟨_, ob', h9', h10', _⟩ := hD1 q' h6
  exact hm.dis q q' ob ob' b h9 h9' h10 h10' h7 h8
 have hD1lt : ∀ q b, D1 q → hasB M q b → b < w.heap.size := fun q b hq hb => by
  obtain ⟨_, ob, h9, h10, _⟩ := hD1 q hq
  exact hm.blk_lt h9 h10 hb
 have hbn : ∀ b, bo = some b → ¬ M.ft o2 b := fun b hb h5 => by
  obtain ⟨q, h6, h7⟩ := hbo b hb
  exact hdd q b h6 (.inl h7) (.inr h5)
 have k1 : ∀ i j b, FF1 i j b → w'.heap[b]? = w.heap[b]? := fun i j b hb => by
  obtain ⟨q, h5, h6⟩ := hF1 i j b hb
  exact h3.block b (hD1lt q b h5 (.inr h6)) fun e => hr1 b e.symm i j hb
 have k2 : ∀ i j b, FF2 i j b → w'.heap[b]? = w.heap[b]? := fun i j b hb => h3.block b (hm.blk_lt ho2 trivial (.inr (hF2 i j b hb))) fun e => hbn b e.symm (hF2 i j b hb)
 have hrec := hm.recast (M' := updF M L.length (.arr a (xs.length + ys.length) c e (Ty.sz G t)) fun b => (∃ i j, FF1 i j b) ∨ ∃ i j, FF2 i j b) (w' := w') (L' := L' ++ [.tr e t (xs ++ ys) []]) (fun q => D1 q ∨ q = o2) (fun q => q = L.length) h3.os h3.tape h3.output h3.size
  (fun q hq => ?_) (fun b hb hn => h3.block b hb fun e => ?_) (fun q x hq => by rw [updF_ne _ _ _ (by have := hm.dom q x hq; omega)]; exact hq) (fun q y hq => ?_) (fun q y hq hl => ?_) (fun he q y hq hl e1 => ?_) (fun q y b hq hl e1 hb => ?_) (fun o1 o2 _ _ _ _ _ _ _ e1 e2 _ _ => e1.trans e2.symm)
 ·exact ⟨_, hrec.1, hrec.2, updF_same _ _ _ _⟩
 ·rcases hq with hq | rfl
  ·exact (hD1 q hq).2
  ·exact ⟨_, ho2, trivial, fun _ h => h⟩
 ·obtain ⟨q, h5, h6⟩ := hbo b e.symm
  exact hn q (.inl h5) (.inl h6)
 ·simp only [List.length_append, List.length_singleton, hLl]
  by_cases e1 : q = L.length
  ·omega
  ·rw [updF_ne _ _ _ e1] at hq; have := hm.dom q y hq; omega
 ·rcases snoc_split hq with ⟨h5, h6⟩ | ⟨h5, _⟩
  ·obtain ⟨h7, h8, h9⟩ := hL' q y h6 hl
   refine .inl ⟨h7, ?_, updF_ft _ _ _ (by omega)⟩
   rintro (h | h)
   ·exact h9 h
   ·exact h8 h
  ·exact .inr (by omega)
 ·subst e1
  rcases snoc_split hq with ⟨h5, _⟩ | ⟨_, rfl⟩
  ·omega
  ·refine ⟨a, c, by rw [List.length_append]; exact updF_same _ _ _ _, us1 ++ us2, fun i j b => (i < xs.length ∧ FF1 i j b) ∨ (xs.length ≤ i ∧ FF2 (i - xs.length) j b), by rw [List.length_append]; exact h2, hz, fun i x j y u g1 g2 g3 => .inl ⟨fun o' h => (by cases h), ?_⟩, ?_, ?_, ?_⟩
   ·have hjl : j < Ty.sz G t := by have := (List.getElem?_eq_some_iff.1 g2).1; rw [cells_len hS] at this; exact this
    by_cases hlt : i < xs.length
    ·rw [List.getElem?_append_left hlt] at g1
     rw [List.getElem?_append_left (by rw [hl1]; exact idx_lt hlt hjl)] at g3
     exact ((hc1 i x j y u g1 g2 g3).mono fun b hb => k1 i j b hb).more fun b hb => .inl ⟨hlt, hb⟩
    ·rw [List.getElem?_append_right (by omega)] at g1
     have hmm : xs.length * Ty.sz G t ≤ i * Ty.sz G t := Nat.mul_le_mul_right _ (by omega)
     rw [List.getElem?_append_right (by omega)] at g3
     have := hc2 (i - xs.length) x j y u g1 g2 (by rw [← g3]; congr 1; rw [Nat.sub_mul, hl1]; omega)
     exact (this.mono fun b hb => k2 _ j b hb).more fun b hb => .inr ⟨by omega, hb⟩
   ·rintro i j i' j' b (⟨p1, p2⟩ | ⟨p1, p2⟩) (⟨p3, p4⟩ | ⟨p3, p4⟩)
    ·exact hd1 _ _ _ _ b p2 p4
    ·obtain ⟨q, h5, h6⟩ := hF1 _ _ b p2
     exact (hdd q b h5 (.inr h6) (.inr (hF2 _ _ b p4))).elim
    ·obtain ⟨q, h5, h6⟩ := hF1 _ _ b p4
     exact (hdd q b h5 (.inr h6) (.inr (hF2 _ _ b p2))).elim
    ·have := hd2 _ _ _ _ b p2 p4
     omega
   ·rintro i j b (⟨_, p⟩ | ⟨_, p⟩)
    ·simp only [updF, if_true]; exact .inl ⟨i, j, p⟩
    ·simp only [updF, if_true]; exact .inr ⟨_, j, p⟩
   ·rintro b hb i j (⟨_, p⟩ | ⟨_, p⟩)
    ·rcases h4 b hb with h5 | h5
     ·obtain ⟨q, h6, h7⟩ := hF1 _ _ b p
      have := hD1lt q b h6 (.inr h7); omega
     ·exact hr1 b h5 _ _ p
    ·rcases h4 b hb with h5 | h5
     ·have := hm.blk_lt ho2 trivial (.inr (hF2 _ _ b p)); omega
     ·exact hbn b h5 (hF2 _ _ b p)
 ·subst e1
  rw [hasBF_same] at hb
  have old : ((∃ i j, FF1 i j b) ∨ ∃ i j, FF2 i j b) → ∃ o1, (D1 o1 ∨ o1 = o2) ∧ hasB M o1 b := by
   rintro (⟨i, j, p⟩ | ⟨i, j, p⟩)
   ·obtain ⟨q, h5, h6⟩ := hF1 i j b p
    exact ⟨q, .inl h5, .inr h6⟩
   ·exact ⟨o2, .inr rfl, .inr (hF2 i j b p)⟩
  rcases hb with hb | hb
  ·simp only [MB.blk] at hb
   rcases h4 b hb with h5 | h5
   ·refine .inl ⟨h5, fun h => ?_⟩
    simp only [updF, if_true] at h
    obtain ⟨o1, h6, h7⟩ := old h
    have : b < w.heap.size := by
     rcases h6 with h6 | rfl
     ·exact hD1lt o1 b h6 h7
     ·exact hm.blk_lt ho2 trivial h7
    have := h3.size; omega
   ·obtain ⟨q, h6, h7⟩ := hbo b h5
    exact .inr ⟨q, .inl h6, .inl h7⟩
  ·exact .inr (old hb)
theorem rd_tr (hS : SigOk G) (hm : MI C w0 Fp okA M ok L w) {o : Nat} {e : TypeId} {t : Ty} {xs : List (t.den G.S)} (ho : L[o]? = some (.tr e t xs [])) {v : Value} (h : VR (G := G) w ok M (.arr o) v) :
  ∃ (r : Rd G w (fun _ _ => True) M t xs v) (FF : Nat → Nat → Nat → Prop), M o = some (.arr r.a xs.length r.c e (Ty.sz G t)) ∧ w.ownsRow 0 e (Ty.sz G t) v xs.length r.us ∧
   (∀ (i : Nat) (x : t.den G.S) (j : Nat) (y : V G.S) (u : Value), xs[i]? = some x → (Ty.cells G t x)[j]? = some y → r.us[i * Ty.sz G t + j]? = some u → OT w (FF i j) y u) ∧
   (∀ i j i' j' b, FF i j b → FF i' j' b → i = i' ∧ j = j') ∧ (∀ i j b, FF i j b → M.ft o b) ∧ (∀ b, r.a.map (·.block) = some b → ∀ i j, ¬ FF i j b) := by
 obtain ⟨a, c, hM, us, FF, hown, hz, hcc, hd, hB, hr⟩ := hm.objs o _ ho
 have el : ∀ (i : Nat) (x : t.den G.S) (j : Nat) (y : V G.S) (u : Value), xs[i]? = some x → (Ty.cells G t x)[j]? = some y → us[i * Ty.sz G t + j]? = some u → OT w (FF i j) y u := fun i x j y u h1 h2 h3 => by
  rcases hcc i x j y u h1 h2 h3 with ⟨_, h⟩ | ⟨⟨o', h⟩, _⟩
  ·exact h
  ·cases h
 have el' : ∀ (i : Nat) (x : t.den G.S) (j : Nat) (y : V G.S) (u : Value), xs[i]? = some x → (Ty.cells G t x)[j]? = some y → us[i * Ty.sz G t + j]? = some u → VR w (fun _ _ => True) M y u := fun i x j y u h1 h2 h3 => (el i x j y u h1 h2 h3).vr hS _ _ fun _ _ _ => trivial
 cases h with
 | arr _ a' n' c' e' sz' h' =>
  rw [hM] at h'
  cases h'
  refine ⟨⟨a, c, us, rfl, hown.1, fun j u hj => ?_, el_one hS hown.1 el', el'⟩, FF, hM, hown, el, hd, hB, hr⟩
  cases a with
  | none =>
   rcases hown.2 with ⟨h1, h2⟩ | ⟨g, cap, cur, h1, _⟩
   ·have h3 := hown.1; rw [h2] at h3; simp at h3; subst h3; simp at hj
   ·simp at h1
  | some ad =>
   refine ⟨ad, rfl, ?_⟩
   rcases hown.2 with ⟨h1, h2⟩ | ⟨g, cap, cur, h1, _⟩
   ·simp at h1
   ·simp only [Value.slice.injEq, Option.some.injEq, true_and] at h1
    have := hown.cells (g := g) (by simp [Value.ownBlock, h1.1]) j u hj
    rw [h1.1]; exact this
end
theorem appTrT_run (hS : SigOk G) {ta e ty : TypeId} {t : Ty} (hu : C.P.underlying ta = some (.slice e)) (hb : bytesOk C e = true) (hsz : sizeT C e = some (Ty.sz G t)) {s x : V G.S} {st : St G.S} {k : K G}
  (h : (appTrT e t s x st k).run G Φ f = some r) :
  ∃ v st' rd wr, st'.tm = st.tm ∧ st'.n0 = st.n0 ∧ (∀ q, q ∉ wr → q < st.L.length → st'.L[q]? = st.L[q]?) ∧ (∀ (w0 : World) (Fp : Fx) (okA : Okc) (M : Mem) (ok : Okc) (w : World) (vs vx : Value), MI C w0 Fp okA M ok st.L w → VR w ok M s vs → VR w ok M x vx →
   ∃ val w' M' ok', (Builtin.append_ #[ta, ta] ty #[vs, vx]).run C.P w = .ok val w' ∧ MI C w0 Fp okA M' ok' st'.L w' ∧ Ex M ok w M' ok' w' ∧ VR w' ok' M' v val) ∧ (k v st' rd wr).run G Φ f = some r := by
 have hzpos : 0 < Ty.sz G t := by
  obtain ⟨i, z, hi, hz, h128, hpos, hzc⟩ := bytesOk_info hb
  obtain ⟨i', hi', his⟩ := sizeT_info hsz
  rw [hi] at hi'; cases hi'; rw [← his]; exact hpos
 unfold appTrT at h
 split at h
 ·rename_i o2
  split at h
  ·rename_i e2 t2 ys ho2
   split at h
   ·rename_i he2
    subst he2
    split at h
    ·rename_i ht2
     subst ht2
     split at h
     ·rename_i o
      split at h
      ·rename_i e1 t1 xs ho
       split at h
       ·rename_i hc
        obtain ⟨rfl, hoo⟩ := hc
        split at h
        ·rename_i ht1
         subst ht1
         obtain ⟨zs, hz, hk⟩ := run_bnd h
         clear h
         obtain ⟨hbig, hzs⟩ := app_ok hz
         clear hz
         rw [hzs] at hk
         refine ⟨_, _, _, _, ?_, ?_, fun q hq hlt => keep_app2 hq hlt, fun w0 Fp okA M ok w vs vx hm hs hx => ?_, hk⟩
         ·rfl
         ·rfl
         obtain ⟨r1, FF1, hM1, hown1, hc1, hd1, hF1, hr1⟩ := rd_tr hS hm ho hs
         obtain ⟨r2, FF2, hM2, hown2, hc2, hd2, hF2, hr2⟩ := rd_tr hS hm ho2 hx
         obtain ⟨v', w', h1, h2, h3, h4⟩ := append_run (ty := ty) hu hb hsz 0 hown1 (Nat.zero_le _) r2 hbig
         obtain ⟨a, c, rfl, hob⟩ := own_slice_of h2
         have hob1 : vs.ownBlock = r1.a.map (·.block) := (congrArg Value.ownBlock r1.val).trans (by cases r1.a <;> rfl)
         have hbk : blk M o = r1.a.map (·.block) := by simp only [blk, hM1, MB.blk, Option.bind_some]
         obtain ⟨M', g1, g2, g3⟩ := app_tr (L' := (st.L.set o .dead).set o2 .dead) hS hm ho2 (fun q => q = o) (fun q hq => by subst hq; exact ⟨hoo, _, ho, trivial, fun _ h => h⟩) (fun b hb => ⟨o, rfl, by rw [hbk, ← hob1]; exact hb⟩) hzpos hc1 hd1 (fun i j b hb => ⟨o, rfl, hF1 i j b hb⟩) (fun b hb => hr1 b (by rw [← hob1]; exact hb)) r1.len hc2 hd2 hF2 h3 h2 (fun b hb => h4 b (by rw [hob]; exact hb)) (by simp) (fun q ob hq hl => by
          rcases set_split hq with ⟨_, rfl, _⟩ | ⟨h5, h6⟩
          ·exact hl.elim
          ·rcases set_split h6 with ⟨_, rfl, _⟩ | ⟨h7, h8⟩
           ·exact hl.elim
           ·exact ⟨h8, h5, h7⟩)
         exact ⟨_, w', M', ok, h1, g1, g2, .arr _ a _ c e1 _ g3⟩
        ·exact run_fail h
       ·exact run_fail h
      ·exact run_fail h
     ·rename_i e1 t1
      split at h
      ·rename_i hc
       obtain ⟨rfl, rfl⟩ := hc
       obtain ⟨zs, hz, hk⟩ := run_bnd h
       clear h
       obtain ⟨hbig, hzs⟩ := app_ok hz
       clear hz
       rw [hzs] at hk
       refine ⟨_, _, _, _, ?_, ?_, fun q hq hlt => keep_app1 hq hlt, fun w0 Fp okA M ok w vs vx hm hs hx => ?_, hk⟩
       ·rfl
       ·rfl
       cases hs
       obtain ⟨r2, FF2, hM2, hown2, hc2, hd2, hF2, hr2⟩ := rd_tr hS hm ho2 hx
       obtain ⟨v', w', h1, h2, h3, h4⟩ := append_run (ty := ty) hu hb hsz 0 (World.ownsRow_nil w 0 e1 (Ty.sz G t1)) (Nat.zero_le _) r2 (by simpa using hbig)
       obtain ⟨a, c, rfl, hob⟩ := own_slice_of h2
       obtain ⟨M', g1, g2, g3⟩ := app_tr (L' := st.L.set o2 .dead) (xs := []) (us1 := []) (FF1 := fun _ _ _ => False) (bo := none) hS hm ho2 (fun _ => False) (fun q hq => hq.elim) (fun b hb => by cases hb) hzpos (fun i x j y u h1 => by simp at h1) (fun _ _ _ _ _ h => h.elim) (fun _ _ _ h => h.elim) (fun _ _ _ _ h => h) (by simp) hc2 hd2 hF2 h3 h2 (fun b hb => h4 b (by rw [hob]; exact hb)) (by simp) (fun q ob hq hl => by
        rcases set_split hq with ⟨_, rfl, _⟩ | ⟨h5, h6⟩
        ·exact hl.elim
        ·exact ⟨h6, h5, fun h => h⟩)
       exact ⟨_, w', M', ok, h1, g1, g2, .arr _ a _ c e1 _ g3⟩
      ·exact run_fail h
     ·exact run_fail h
    ·exact run_fail h
   ·exact run_fail h
  ·exact run_fail h
 ·exact run_fail h
end
end Go.Dv

namespace Go.Dv
open Go
section
variable {G : Sig} {C : Cfg G} {Φ : FuncId → List Item → St G.S → Option (Ret G.S)} {f : FuncId} {r : Ret G.S}
section
variable {w0 : World} {Fp : Fx} {okA : Okc} {M : Mem} {ok : Okc} {L : List (Obj G.S)} {w w' : World}
theorem zeroV_ok {t : TypeId} {v : Value} {x : V G.S} (h : zeroV C t v = some x) : VR w ok M x v := by
 unfold zeroV at h
 split at h
 ·cases h; exact .int _ _
 ·cases h; exact .lb _
 ·cases h; exact .str _
 ·split at h
  ·split at h
   ·cases h; exact .nil _ _
   ·cases h
  ·cases h
 ·cases h; exact .nilp
 ·cases h
theorem zips_ok : ∀ {ts : List TypeId} {vs : List Value} {cs : List (V G.S)}, zips C ts vs = some cs → VRs w ok M cs vs
 | [], [], cs, h => by simp [zips] at h; subst h; exact .nil
 | t :: ts, v :: vs, cs, h => by
  simp only [zips] at h
  split at h
  ·rename_i x y hx hy
   cases h
   exact .cons (zeroV_ok hx) (zips_ok hy)
  ·cases h
 | [], _ :: _, cs, h => by simp [zips] at h
 | _ :: _, [], cs, h => by simp [zips] at h
theorem zeros_ok {t : TypeId} {cs : List (V G.S)} (h : zeros C t = some cs) : ∃ z, (∀ w, (zeroValue t).run C.P w = .ok z w) ∧ ∀ (w : World) (ok : Okc) (M : Mem), VRs w ok M cs z.cells.toList := by
 unfold zeros at h
 split at h
 ·rename_i i hi
  split at h
  ·rename_i z ts hz _
   exact ⟨z, fun w => by simp [zeroValue, typeInfo, hi, hz], fun w ok M => zips_ok h⟩
  ·cases h
 ·cases h
theorem zeros_info {t : TypeId} {cs : List (V G.S)} (h : zeros C t = some cs) : ∃ i z, C.P.info? t = some i ∧ i.zero = some z ∧ ∀ (w : World) (ok : Okc) (M : Mem), VRs w ok M cs z.cells.toList := by
 unfold zeros at h
 split at h
 ·rename_i i hi
  split at h
  ·rename_i z ts hz _
   exact ⟨i, z, hi, hz, fun w ok M => zips_ok h⟩
  ·cases h
 ·cases h
theorem foldl_set : ∀ (vs : List Value) (j off : Nat) (cs : Array Value), off + j + vs.length ≤ cs.size →
  ((vs.zipIdx j).foldl (fun (cs : Array Value) (p : Value × Nat) => cs.setIfInBounds (off + p.2) p.1) cs).toList = cs.toList.take (off + j) ++ vs ++ cs.toList.drop (off + j + vs.length)
 | [], j, off, cs, _ => by simp
 | v :: vs, j, off, cs, h => by
  simp only [List.zipIdx_cons, List.foldl_cons]
  rw [foldl_set vs (j + 1) off _ (by simp at h ⊢; omega)]
  simp only [List.length_cons] at h
  apply List.ext_getElem?
  intro q
  have e1 : (cs.setIfInBounds (off + j) v).toList = cs.toList.set (off + j) v := by simp
  rw [e1, show off + (j + 1) + vs.length = off + (j + 1) + vs.length from rfl, splice_get _ _ _ vs.length q rfl (by simp; omega)]
  rw [show off + j + (v :: vs).length = off + j + (vs.length + 1) from rfl, splice_get _ (v :: vs) (off + j) (vs.length + 1) q rfl (by simp; omega)]
  rw [List.getElem?_set]
  by_cases h1 : q < off + j
  ·rw [if_pos (by omega), if_pos h1, if_neg (by omega)]
  ·rw [if_neg h1]
   by_cases h2 : q = off + j
   ·subst h2
    rw [if_pos (by omega), if_pos rfl, if_pos (by simp; omega), if_pos (by omega), Nat.sub_self]; rfl
   ·rw [if_neg (by omega)]
    by_cases h3 : q < off + (j + 1) + vs.length
    ·rw [if_pos h3, if_pos (by omega)]
     rw [show q - (off + j) = (q - (off + (j + 1))) + 1 by omega]; rfl
    ·rw [if_neg h3, if_neg (by omega), if_neg (by omega)]
theorem fill_step {place : Nat → Option (Nat × Nat)} {cells : Array Value} {i off size : Nat} {v : Value} {rest : List (Nat × Value)} (hp : place i = some (off, size)) (hs : v.cells.size = size) (hf : off + size ≤ cells.size) :
  Instr.fill place cells ((i, v) :: rest) = Instr.fill place (cells.toList.take off ++ v.cells.toList ++ cells.toList.drop (off + size)).toArray rest := by
 simp only [Instr.fill, hp, hs]
 rw [if_neg (by simp; omega)]
 congr 1
 apply Array.toList_inj.1
 have := foldl_set v.cells.toList 0 off cells (by rw [Array.length_toList, hs]; omega)
 simp only [Nat.add_zero, Array.length_toList, hs] at this
 rw [← this, ← Array.foldl_toList]
 congr 1
 simp
theorem fillV_ok {place : Nat → Option (Nat × Nat)} : ∀ {l : List (Nat × V G.S)} {cells cs : List (V G.S)} {zs : List Value} {pv : List (Nat × Value)}, fillV place cells l = some cs → VRs w ok M cells zs → l.map (·.1) = pv.map (·.1) → VRs w ok M (l.map (·.2)) (pv.map (·.2)) →
  ∃ zs', Instr.fill place zs.toArray pv = some zs' ∧ VRs w ok M cs zs'.toList
 | [], cells, cs, zs, pv, h, hz, h1, _ => by
  simp [fillV] at h; subst h
  have : pv = [] := by cases pv <;> simp_all
  subst this
  exact ⟨zs.toArray, rfl, hz⟩
 | (i, x) :: rest, cells, cs, zs, pv, h, hz, h1, h2 => by
  cases pv with
  | nil => simp at h1
  | cons p pv =>
   obtain ⟨i', v⟩ := p
   simp only [List.map_cons, List.cons.injEq] at h1
   obtain ⟨rfl, h1⟩ := h1
   obtain ⟨v', l', e, hv, h2⟩ := h2.inv
   simp only [List.map_cons, List.cons.injEq] at e
   obtain ⟨rfl, rfl⟩ := e
   simp only [fillV] at h
   split at h
   ·rename_i off size cx hp hc
    split at h
    ·rename_i hlen
     have hcv := cellsL_ok hc hv
     have hsz : v.cells.size = size := by rw [← Array.length_toList, ← hcv.1]; exact hlen.1
     rw [fill_step hp hsz (by simp only [List.size_toArray]; rw [← hz.1]; exact hlen.2)]
     exact fillV_ok h (((hz.take off).append hcv).append (hz.drop _)) h1 h2
    ·cases h
   ·cases h
end
end
end Go.Dv

namespace Go.Dv
open Go
def strU (s : List UInt8) : List Value := s.map fun b => .int .u8 b.toNat
structure BldAt (T e : TypeId) (w : World) (b : Nat) (v : Value) (bs : List Value) : Prop where
 cell : w.heap[b]? = some (.cells #[.pointer none, v] T (0, 0)) ∨ w.heap[b]? = some (.cells #[.pointer (some ⟨b, 0, none⟩), v] T (0, 0))
 own : w.ownsRow 0 e 1 v bs.length bs
 ne : v.ownBlock ≠ some b
structure Wrote (T e : TypeId) (w : World) (b : Nat) (v : Value) (us : List Value) (w' : World) (v' : Value) : Prop where
 cell : w'.heap[b]? = some (.cells #[.pointer (some ⟨b, 0, none⟩), v'] T (0, 0))
 own : w'.ownsRow 0 e 1 v' us.length us
 ne : v'.ownBlock ≠ some b
 blk : ∀ g, v'.ownBlock = some g → w.heap.size ≤ g ∨ v.ownBlock = some g
 os : w'.os = w.os
 tape : w'.tape = w.tape
 output : w'.output = w.output
 size : w.heap.size ≤ w'.heap.size
 frame : ∀ k, k < w.heap.size → k ≠ b → v.ownBlock ≠ some k → w'.heap[k]? = w.heap[k]?
structure Said (w : World) (v : Value) (w' : World) : Prop where
 os : w'.os = w.os
 tape : w'.tape = w.tape
 output : w'.output = w.output
 size : w.heap.size ≤ w'.heap.size
 frame : ∀ k, k < w.heap.size → v.ownBlock ≠ some k → w'.heap[k]? = w.heap[k]?
end Go.Dv

namespace Go.Dv
open Go
section
variable {G : Sig}
def Runs (P : Program) (b : Frame) (cs : List Frame) (a : Act) (todo : List Item) (w : World) (R : Value → World → Prop) : Prop :=
 ∃ v w' fr, R v w' ∧ Steps P (lone (b.at a todo) cs w) (lone fr cs w') ∧ fr.fn = b.fn ∧ fr.leaving P w' (.returned v)
structure Post (w0 : World) (Fp : Nat → Prop) (okA : Okc) (r : Ret G.S) (v : Value) (w' : World) : Prop where
 res : ∃ M' ok', VR w' ok' M' r.1 v ∧ (∀ b off, ok' b off → okA b off ∨ w0.heap.size ≤ b ∨ Fp b) ∧ (∀ b off, ok' b off → b < w'.heap.size)
 os : w'.os = w0.os
 tape : w'.tape = w0.tape
 output : w'.output = w0.output
 size : w0.heap.size ≤ w'.heap.size
 frame : ∀ b, b < w0.heap.size → ¬ Fp b → w'.heap[b]? = w0.heap[b]?
def PostM (C : Cfg G) (w0 : World) (Fp : Fx) (okA : Okc) (r : Ret G.S) (v : Value) (w' : World) : Prop :=
 ∃ M' ok', MI C w0 Fp okA M' ok' r.2 w' ∧ VR w' ok' M' r.1 v
theorem PostM.post {C : Cfg G} {w0 : World} {Fp : Fx} {okA : Okc} {r : Ret G.S} {v : Value} {w' : World} (h : PostM C w0 Fp okA r v w') : Post w0 Fp.p okA r v w' := by
 obtain ⟨M', ok', hm, hv⟩ := h
 exact ⟨⟨M', ok', hv, hm.okN, hm.lt⟩, hm.os, hm.tape, hm.output, hm.size, hm.frame⟩
def PhiOK (C : Cfg G) (Φ : FuncId → List Item → St G.S → Option (Ret G.S)) : Prop :=
 ∀ f todo st r, Φ f todo st = some r → ∀ (w0 : World) (Fp : Fx) (okA : Okc) (M : Mem) (ok : Okc) (b : Frame) (cs : List Frame) (a : Act) (w : World),
  (∀ i x, Fp.pin i = some x → i < st.n0) → b.fn = f → b.kind = .normal → a.defers = [] → MI C w0 Fp okA M ok st.L w → TR w ok M st.tm a → Runs C.P b cs a todo w (PostM C w0 Fp okA r)
def encStr (s : List UInt8) : Value := .string ⟨s.toArray⟩
structure ExtOK (C : Cfg G) : Prop where
 ext : ∀ f rt g vs p, C.ext f = some ⟨rt, g⟩ → g vs = some p → ∀ (okA : Okc) (w : World) (vals : List Value), (∀ b off, okA b off → b < w.heap.size) → GlobX C w okA → VRs w okA Mem.no vs vals →
  ∃ r, prjR G rt r = some p ∧ Calls C.P f vals.toArray w (fun e w' => ∃ v, e = .returned v ∧ Post w (fun _ => False) okA (r, []) v w')
 own : ∀ f e g vs xs, C.own f = some (e, g) → g vs = some xs → ∀ (okA : Okc) (w : World) (vals : List Value), (∀ b off, okA b off → b < w.heap.size) → GlobX C w okA → VRs w okA Mem.no vs vals →
  Calls C.P f vals.toArray w (fun en w' => ∃ v', en = .returned v' ∧ w'.ownsRow w.heap.size e 1 v' xs.length (xs.map encStr) ∧ w.grownBy w' none)
 ctor : ∀ f e g vs cs, C.ctor f = some (e, g) → g vs = some cs → ∀ (okA : Okc) (w : World) (vals : List Value), (∀ b off, okA b off → b < w.heap.size) → GlobX C w okA → VRs w okA Mem.no vs vals →
  Calls C.P f vals.toArray w (fun en w' => ∃ b l, en = .returned (.pointer (some ⟨b, 0, none⟩)) ∧ w.heap.size ≤ b ∧ w'.heap[b]? = some (.cells l.toArray e) ∧ VRs w okA Mem.no cs l ∧ w.grownBy w' none)
 bw : ∀ f T e, C.bld f = some (1, T, e) → ∀ (w : World) (b : Nat) (v : Value) (us : List Value) (s : ByteArray), BldAt T e w b v us → us.length + s.size ≤ 140737488355328 →
  Calls C.P f #[.pointer (some ⟨b, 0, none⟩), .string s] w (fun en w' => en = .returned (.tuple #[.int .i64 s.size, .nilIface]) ∧ ∃ v', Wrote T e w b v (us ++ strU s.data.toList) w' v')
 bs : ∀ f T e, C.bld f = some (3, T, e) → ∀ (w : World) (b : Nat) (v : Value) (l : List UInt8), BldAt T e w b v (strU l) →
  Calls C.P f #[.pointer (some ⟨b, 0, none⟩)] w (fun en w' => en = .returned (.string ⟨l.toArray⟩) ∧ Said w v w')
 grw : ∀ f e t, C.grw f = some (e, t) → ∀ (n : Int) (w : World), 0 ≤ n → n ≤ big → Calls C.P f #[.slice none 0 0, .int .i64 n] w (fun en w' => ∃ v', en = .returned v' ∧ w'.ownsRow w.heap.size e (Ty.sz G t) v' 0 [] ∧ w.grownBy w' none)
 pint : ∀ f g s n, C.pint f = some g → g s = some n → ∀ (okA : Okc) (w : World), (∀ b off, okA b off → b < w.heap.size) → GlobX C w okA →
  Calls C.P f #[.string ⟨s.toArray⟩, .int .i64 10, .int .i64 64] w (fun en w' => ∃ e, en = .returned (.tuple #[.int .i64 n.1, e]) ∧ ((n.2 = true ∧ e = .nilIface) ∨ (n.2 = false ∧ ∃ te pe, e = .iface te pe)) ∧ w.grownBy w' none)
 cln : ∀ f e t, C.cln f = some (e, t) → ∀ (a : Option Addr) (n c : Nat) (us : List Value) (w : World), w.ownsRow 0 e (Ty.sz G t) (.slice a n c) n us → (∀ u ∈ us, u.oneCell' = true) → n ≤ big →
  Calls C.P f #[.slice a n c] w (fun en w' => ∃ v', en = .returned v' ∧ w'.ownsRow w.heap.size e (Ty.sz G t) v' n us ∧ w.grownBy w' none)
 eat : ∀ f e g xs ys, C.eat f = some (e, g) → g xs = some ys → ∀ (w : World) (v : Value), w.ownsRow 0 e 1 v xs.length (xs.map encStr) → 
  Calls C.P f #[v] w (fun en w' => ∃ v', en = .returned v' ∧ w'.ownsRow 0 e 1 v' ys.length (ys.map encStr) ∧ w.grownBy w' v.ownBlock ∧ ∀ b, v'.ownBlock = some b → w.heap.size ≤ b ∨ v.ownBlock = some b)
variable {C : Cfg G} {Φ : FuncId → List Item → St G.S → Option (Ret G.S)} {f : FuncId} {r : Ret G.S}
theorem inj_clo (t : Ty) (x : t.den G.S) (n : Nat) (h : t.np = true) : (inj G t x).clo (n + 1) = true := by
 cases t with
 | sl t => exact h
 | ptr t => cases h
 | _ => rfl
theorem injR_clo : ∀ (rt : List Ty) (p : rDen G.S rt), rt.all Ty.np = true → (injR G rt p).clo 21 = true
 | [], p, _ => rfl
 | [t], p, h => inj_clo t p 20 (by simpa using h)
 | t :: u :: r, p, h => by
  have go : ∀ (rt : List Ty) (p : rDen G.S rt), rt.all Ty.np = true → (injR.go G rt p).all (V.clo 20) = true := by
   intro rt
   induction rt with
   | nil => intro p _; rfl
   | cons t r ih =>
    intro p h
    simp only [List.all_cons, Bool.and_eq_true] at h
    cases r with
    | nil => simp only [injR.go, List.all_cons, List.all_nil, Bool.and_true]; exact inj_clo t p 19 h.1
    | cons u r => simp only [injR.go, List.all_cons, Bool.and_eq_true]; exact ⟨inj_clo t p.1 19 h.1, ih p.2 h.2⟩
  simp only [List.all_cons, Bool.and_eq_true] at h
  show (inj G t p.1 :: injR.go G (u :: r) p.2).all (V.clo 20) = true
  simp only [List.all_cons, Bool.and_eq_true]
  exact ⟨inj_clo t p.1 19 h.1, go (u :: r) p.2 (by simpa using h.2)⟩
theorem prjs_one (t : Ty) (v : V G.S) : prjs G [t] [v] = prj G t v := rfl
theorem prjs_cons (t u : Ty) (r : List Ty) (v : V G.S) (vs : List (V G.S)) : prjs G (t :: u :: r) (v :: vs) = (match prj G t v with
  | some x => match prjs G (u :: r) vs with
   | some y => some (x, y)
   | none => none
  | none => none : Option (t.den G.S × rDen G.S (u :: r))) := rfl
theorem prjs_n0 (v : V G.S) (vs : List (V G.S)) : prjs G [] (v :: vs) = none := rfl
theorem prjs_n1 (t : Ty) (r : List Ty) : prjs G (t :: r) [] = none := by cases r <;> rfl
theorem prjs_n2 (t : Ty) (v u : V G.S) (vs : List (V G.S)) : prjs G [t] (v :: u :: vs) = none := rfl
theorem prjs_ok (hS : SigOk G) {w : World} {ok : Okc} {M : Mem} : ∀ (rt : List Ty) (vs : List (V G.S)) (p : rDen G.S rt) (l : List Value), prjs G rt vs = some p → VRs w ok M vs l → VRs w ok M (injR.go G rt p) l := by
 intro rt
 induction rt with
 | nil =>
  intro vs p l h hv
  cases vs with
  | nil => exact hv
  | cons v vs => rw [prjs_n0] at h; cases h
 | cons t r ih =>
  intro vs p l h hv
  cases vs with
  | nil => rw [prjs_n1] at h; cases h
  | cons v vs =>
   obtain ⟨x, l', rfl, h1, h2⟩ := hv.inv
   cases r with
   | nil =>
    cases vs with
    | nil => rw [prjs_one] at h; exact .cons (prj_ok hS h h1).2 h2
    | cons u vs => rw [prjs_n2] at h; cases h
   | cons u r =>
    rw [prjs_cons] at h
    cases hy : prj G t v with
    | none => rw [hy] at h; cases h
    | some y =>
     rw [hy] at h
     cases hz : prjs G (u :: r) vs with
     | none => rw [hz] at h; cases h
     | some z =>
      rw [hz] at h
      cases h
      exact .cons (prj_ok hS hy h1).2 (ih vs z l' hz h2)
theorem prjR_cons (t u : Ty) (r : List Ty) (vs : List (V G.S)) : prjR G (t :: u :: r) (.tup vs) = prjs G (t :: u :: r) vs := rfl
theorem prjR_none (t u : Ty) (r : List Ty) (v : V G.S) (h : ∀ vs, v ≠ .tup vs) : prjR G (t :: u :: r) v = none := by
 cases v <;> first | rfl | exact (h _ rfl).elim
theorem prjR_ok (hS : SigOk G) {w : World} {ok : Okc} {M : Mem} {rt : List Ty} {v : V G.S} {p : rDen G.S rt} {val : Value} (h : prjR G rt v = some p) (hv : VR w ok M v val) : VR w ok M (injR G rt p) val := by
 cases rt with
 | nil =>
  cases v with
  | tup vs =>
   cases vs with
   | nil => exact hv
   | cons => cases h
  | _ => cases h
 | cons t r =>
  cases r with
  | nil => exact (prj_ok hS (show prj G t v = some p from h) hv).2
  | cons u r =>
   by_cases hc : ∃ vs, v = .tup vs
   ·obtain ⟨vs, rfl⟩ := hc
    rw [prjR_cons] at h
    cases hv with
    | tup _ l hl hh =>
     have := prjs_ok hS _ _ _ _ h ⟨hl, hh⟩
     exact .tup _ _ this.1 this.2
   ·rw [prjR_none t u r v (fun vs e => hc ⟨vs, e⟩)] at h
    cases h
theorem flat_any {w : World} {ok ok' : Okc} {M M' : Mem} {w2 : World} : ∀ (rt : List Ty) (p : rDen G.S rt) (v : Value), rt.all Ty.flat = true → VR w ok M (injR G rt p) v → VR w2 ok' M' (injR G rt p) v
 | [], p, v, _, h => by
  cases h with
  | tup _ l hl hh => exact .tup _ _ hl (fun j y v hj => by simp at hj)
 | [t], p, v, hf, h => by
  have ht : t.flat = true := by simpa using hf
  cases t with
  | int k => cases h; exact .int _ _
  | bool => cases h; exact .bool _
  | str => cases h; exact .str _
  | _ => cases ht
 | t :: u :: r, p, v, hf, h => by
  have one : ∀ (t : Ty) (x : t.den G.S) (v : Value), t.flat = true → VR w ok M (inj G t x) v → VR w2 ok' M' (inj G t x) v := by
   intro t x v ht h
   cases t with
   | int k => cases h; exact .int _ _
   | bool => cases h; exact .bool _
   | str => cases h; exact .str _
   | _ => cases ht
  have go : ∀ (rt : List Ty) (p : rDen G.S rt) (l : List Value), rt.all Ty.flat = true → VRs w ok M (injR.go G rt p) l → VRs w2 ok' M' (injR.go G rt p) l := by
   intro rt
   induction rt with
   | nil => intro p l _ h; exact ⟨h.1, fun j y v hj => by simp [injR.go] at hj⟩
   | cons t r ih =>
    intro p l hf h
    simp only [List.all_cons, Bool.and_eq_true] at hf
    cases r with
    | nil =>
     simp only [injR.go] at h ⊢
     obtain ⟨v, l', rfl, h1, h2⟩ := h.inv
     exact .cons (one t p v hf.1 h1) ⟨h2.1, fun j y v hj => by simp at hj⟩
    | cons u r =>
     simp only [injR.go] at h ⊢
     obtain ⟨v, l', rfl, h1, h2⟩ := h.inv
     exact .cons (one t p.1 v hf.1 h1) (ih p.2 l' hf.2 h2)
  cases h with
  | tup _ l hl hh =>
   have := go (t :: u :: r) p l hf ⟨hl, hh⟩
   exact .tup _ _ this.1 this.2
theorem back_ok (hS : SigOk G) {w0 : World} {Fp : Fx} {okA : Okc} {M : Mem} {ok : Okc} {st : St G.S} {w : World} (hm : MI C w0 Fp okA M ok st.L w) {os : List Nat} {rt : List Ty} (hnp : rt.all Ty.np = true) {ret : Ret G.S} {v : Value} {w' : World}
  (hp : Post w (fun _ => False) (okF M ok st.L os) ret v w') {p : rDen G.S rt} (hr : prjR G rt ret.1 = some p) {k : K G} (h : (backT rt os p st k).run G Φ f = some r) :
  ∃ v' st' rd wr, (v' = injR G rt p ∧ st' = (if rt.all Ty.flat then st else { st with L := freeze st.L os })) ∧ (∃ M' ok', MI C w0 Fp okA M' ok' st'.L w' ∧ Ex M ok w M' ok' w' ∧ VR w' ok' M' v' v) ∧ (k v' st' rd wr).run G Φ f = some r := by
 obtain ⟨Mc, ok2, hv, hsub, hlt⟩ := hp.res
 have hg : ∀ k, k < w.heap.size → w'.heap[k]? = w.heap[k]? := fun k hk => hp.frame k hk (fun h => h)
 have hv2 := prjR_ok hS hr hv
 unfold backT at h
 split at h
 ·rename_i hf
  obtain ⟨hm2, he2⟩ := hm.grow (w' := w') (fun _ _ => False) hp.os hp.tape hp.output hp.size hg (fun _ _ h => h.elim)
  exact ⟨_, st, _, _, ⟨rfl, by rw [if_pos hf]⟩, ⟨M, _, hm2, he2, flat_any rt p v hf hv2⟩, h⟩
 ·rename_i hf
  obtain ⟨hm1, he1⟩ := hm.freeze hS os
  obtain ⟨hm2, he2⟩ := hm1.grow (w' := w') (fun b off => ok2 b off ∧ w.heap.size ≤ b) hp.os hp.tape hp.output hp.size hg (fun b off h => ⟨h.2, hlt b off h.1⟩)
  refine ⟨_, _, _, _, ⟨rfl, by rw [if_neg hf]⟩, ⟨M, _, hm2, he1.trans he2, ?_⟩, h⟩
  refine (hv2.anyM hS M 21 (injR_clo rt p hnp)).mono ⟨fun _ _ h => h, fun b off u hb hc => ⟨?_, hc⟩⟩
  rcases hsub b off hb with h1 | h1 | h1
  ·exact .inl h1
  ·exact .inr ⟨hb, h1⟩
  ·exact h1.elim
theorem forceL_eq (l : List (V G.S)) (k : List (V G.S) → Tree G.S) : forceL l k = k l := by
 induction l generalizing k with
 | nil => rfl
 | cons v r ih =>
  have hf : ∀ (v : V G.S) (k : V G.S → Tree G.S), v.force k = k v := by
   intro v k
   cases v with
   | lb b => cases b <;> rfl
   | _ => rfl
  simp only [forceL, hf, ih]
theorem force_eq (v : V G.S) (k : V G.S → Tree G.S) : v.force k = k v := by
 cases v with
 | lb b => cases b <;> rfl
 | _ => rfl
theorem deep_eq (v : V G.S) (k : V G.S → Tree G.S) : v.deep k = k v := by
 cases v <;> simp only [V.deep, forceL_eq, force_eq]
theorem forceO_eq (l : List (Obj G.S)) (k : List (Obj G.S) → Tree G.S) : forceO l k = k l := by
 induction l generalizing k with
 | nil => rfl
 | cons o r ih =>
  cases o with
  | box te cs fz => cases fz <;> simp only [forceO, forceL_eq, ih]
  | arr e t xs fz => cases fz <;> simp only [forceO, ih]
  | tr e t xs hs => simp only [forceO, ih]
  | dead => simp only [forceO, ih]
theorem setF_eq : ∀ (l : List (V G.S)) (d : Nat) (v : V G.S) (k : List (V G.S) → Tree G.S), setF l d v k = k (l.set d v)
 | [], d, v, k => by simp [setF]
 | a :: r, 0, v, k => rfl
 | a :: r, d + 1, v, k => by simp only [setF, setF_eq r d v, List.set_cons_succ]
theorem putF_eq (st : St G.S) (d : Option Nat) (v : V G.S) (k : St G.S → Tree G.S) : putF st d v k = k (st.put d v) := by
 obtain ⟨tm, L, n0⟩ := st
 cases d with
 | none => simp only [putF, forceO_eq, St.put]
 | some d => simp only [putF, forceO_eq, deep_eq, setF_eq, St.put]
theorem enter_mi {w0 : World} {Fp : Fx} {okA : Okc} {M : Mem} {ok : Okc} {L : List (Obj G.S)} {w : World} (hm : MI C w0 Fp okA M ok L w) : MI C w Fx.no ok Mem.no ok [] w :=
 ⟨fun o ob h => by simp at h, fun o x h => by simp [Mem.no] at h, fun o1 o2 ob1 ob2 b h => by simp at h, fun o ob b off h => by simp at h, fun o ob b h => by simp at h, fun o ob b h => by simp at h, fun _ _ h => h, hm.lt, fun _ _ h => .inl h, hm.glob, rfl, rfl, rfl, Nat.le_refl _, fun _ _ _ => rfl, hm.globX.2, fun i x h => by cases h⟩
theorem enter_tr {w : World} {ok : Okc} {M : Mem} {vs : List (V G.S)} {vals : List Value} {n : Nat} (hv : VRs w ok M vs vals) (hn : vs.length ≤ n) :
  TR w ok M (vs ++ List.replicate (n - vs.length) .un) { tmps := vals.toArray ++ Array.replicate (n - vals.toArray.size) undef, defers := [] } := by
 refine ⟨by simp [hv.1], fun i y hi => ?_⟩
 by_cases hlt : i < vs.length
 ·rw [List.getElem?_append_left hlt] at hi
  have hl : i < vals.length := by rw [← hv.1]; exact hlt
  have : (vals.toArray ++ Array.replicate (n - vals.toArray.size) undef).getD i undef = vals[i] := by
   simp [Array.getD_eq_getD_getElem?, Array.getElem?_append, hl]
  dsimp only
  rw [this]
  exact hv.2 i y _ hi (List.getElem?_eq_getElem hl)
 ·rw [List.getElem?_append_right (by omega)] at hi
  have : y = .un := by
   rw [List.getElem?_replicate] at hi
   split at hi
   ·exact (Option.some.inj hi).symm
   ·cases hi
  subst this
  exact .un _
theorem calls_of_phi (hΦ : PhiOK C Φ) {g : FuncId} {fn : Func} {body : Code} (hf : C.P.funcs[g]? = some fn) (hb : fn.body = some body) {w0 : World} {Fp : Fx} {okA : Okc} {M : Mem} {ok : Okc} {L : List (Obj G.S)} {w : World}
  (hm : MI C w0 Fp okA M ok L w) {vs : List (V G.S)} {vals : List Value} (hv : VRs w ok Mem.no vs vals) (hn : vs.length ≤ fn.ntmps) {ret : Ret G.S}
  (h : Φ g [.code body] ⟨vs ++ List.replicate (fn.ntmps - vs.length) .un, [], 0⟩ = some ret) :
  Calls C.P g vals.toArray w (fun e w' => ∃ v, e = .returned v ∧ Post w (fun _ => False) ok ret v w') := by
 intro cs
 let b : Frame := { (default : Frame) with fn := g, kind := .normal }
 have henter : Frame.enter C.P g vals.toArray .normal = b.at { tmps := vals.toArray ++ Array.replicate (fn.ntmps - vals.toArray.size) undef, defers := [] } [.code body] := by
  simp [Frame.enter, Frame.at, hf, hb, b]
 obtain ⟨v, w', fr, hR, hst, hfn, hlv⟩ := hΦ g _ _ ret h w Fx.no ok Mem.no ok b cs _ w (fun i x h => by cases h) rfl rfl rfl (enter_mi hm) (enter_tr hv hn)
 rw [henter]
 exact ⟨.returned v, w', fr, ⟨v, rfl, hR.post⟩, hst, hfn, hlv⟩
end
end Go.Dv

namespace Go.Dv
open Go
section
variable {G : Sig} {C : Cfg G}
theorem snap_freeze (L : List (Obj G.S)) (os : List Nat) : ∀ (n : Nat) (v : V G.S), snap (freeze L os) n v = snap L n v
 | 0, v => rfl
 | n + 1, v => by
  have ih : snap (freeze L os) n = snap L n := funext (snap_freeze L os n)
  cases v with
  | arr o =>
   simp only [snap, freeze_get]
   cases L[o]? with
   | none => rfl
   | some ob =>
    cases ob with
    | tr e t xs hs =>
     cases hs with
     | nil => cases os.contains o <;> rfl
     | cons => rfl
    | _ => rfl
  | ref o off =>
   simp only [snap, freeze_get, ih]
   cases L[o]? with
   | none => rfl
   | some ob =>
    cases ob with
    | tr e t xs hs =>
     cases hs with
     | nil => cases os.contains o <;> rfl
     | cons => rfl
    | _ => rfl
  | ag cs => simp only [snap, ih]
  | tup cs => simp only [snap, ih]
  | fn f cs => simp only [snap, ih]
  | _ => rfl
theorem cells_any (hS : SigOk G) {t : Ty} (np : t.np = true) {x : t.den G.S} {y : V G.S} (hy : y ∈ Ty.cells G t x) {w : World} {ok : Okc} {M M2 : Mem} {u : Value} (h : VR w ok M y u) : VR w ok M2 y u := by
 cases t with
 | st n =>
  have := hS.imm n x
  rw [List.all_eq_true] at this
  exact h.anyS hS M2 (this y hy)
 | sl t =>
  simp only [Ty.cells, List.mem_singleton] at hy
  subst hy
  exact h.anyM hS M2 1 np
 | ptr t => cases np
 | int k => simp only [Ty.cells, List.mem_singleton] at hy; subst hy; exact h.anyM hS M2 1 rfl
 | bool => simp only [Ty.cells, List.mem_singleton] at hy; subst hy; exact h.anyM hS M2 1 rfl
 | str => simp only [Ty.cells, List.mem_singleton] at hy; subst hy; exact h.anyM hS M2 1 rfl
structure Mle (M1 M2 : Mem) : Prop where
 hd : ∀ o x, M1 o = some x → M2 o = some x
 ft : ∀ o x, M1 o = some x → ∀ b, (M2.ft o b ↔ M1.ft o b)
theorem Mle.refl (M : Mem) : Mle M M := ⟨fun _ _ h => h, fun _ _ _ _ => Iff.rfl⟩
theorem Mle.trans {M1 M2 M3 : Mem} (h : Mle M1 M2) (k : Mle M2 M3) : Mle M1 M3 := ⟨fun o x e => k.hd o x (h.hd o x e), fun o x e b => (k.ft o x (h.hd o x e) b).trans (h.ft o x e b)⟩
theorem Mle.ex {M1 M2 : Mem} (h : Mle M1 M2) (w : World) (ok : Okc) : Ex M1 ok w M2 ok w := ⟨h.hd, fun _ _ _ h1 h2 => ⟨h1, h2⟩⟩
theorem TRow.any {w : World} {M M' : Mem} {F F' : Nat → Prop} {e : TypeId} {t : Ty} {xs : List (t.den G.S)} {a : Option Addr} {c : Nat} (h : TRow w M F e t xs [] a c) (hF : ∀ b, F b → F' b) : TRow w M' F' e t xs [] a c := by
 obtain ⟨us, FF, h1, h2, h3, h4, h5, h6⟩ := h
 refine ⟨us, FF, h1, h2, fun i x j y u k1 k2 k3 => ?_, h4, fun i j b k => hF b (h5 i j b k), h6⟩
 rcases h3 i x j y u k1 k2 k3 with ⟨q1, q2⟩ | ⟨⟨o', q⟩, _⟩
 ·exact .inl ⟨fun o' h => (by cases h), q2⟩
 ·cases q
def OwnN (ob : Obj G.S) : Prop := (∃ e t xs, ob = .arr e t xs false ∧ t.np = true) ∨ ∃ e t xs, ob = .tr e t xs []
theorem OwnN.live {ob : Obj G.S} (h : OwnN ob) : ob.live := by rcases h with ⟨e, t, xs, rfl, _⟩ | ⟨e, t, xs, rfl⟩ <;> trivial
theorem OwnN.rd {ob : Obj G.S} (h : OwnN ob) : ∀ off, ¬ ob.rd off := by
 rcases h with ⟨e, t, xs, rfl, _⟩ | ⟨e, t, xs, rfl⟩
 ·intro off hr; cases hr
 ·intro off hr; exact hr
theorem scal_clo {y : V G.S} (h : y.scal = true) : y.clo 20 = true := by cases y <;> first | exact h | rfl | cases h
theorem OwnN.or (hS : SigOk G) {ob : Obj G.S} (h : OwnN ob) {w : World} {ok : Okc} {M M' : Mem} {o o' : Nat} (hM : M' o' = M o) (hf : ∀ b, M.ft o b → M'.ft o' b) (hor : OR w ok M o ob) : OR w ok M' o' ob := by
 rcases h with ⟨e, t, xs, rfl, hfl⟩ | ⟨e, t, xs, rfl⟩
 ·obtain ⟨a, c, us, h1, h2, h3, h4⟩ := hor
  exact ⟨a, c, us, hM.trans h1, h2, h3, fun i x j y u p1 p2 p3 => (h4 i x j y u p1 p2 p3).anyM hS _ 20 (scal_clo (List.all_eq_true.1 (cells_scal hS hfl x) y (List.mem_of_getElem? p2)))⟩
 ·obtain ⟨a, c, h1, h2⟩ := hor
  exact ⟨a, c, hM.trans h1, h2.any hf⟩
inductive Sim (w : World) (ok : Okc) (M M' : Mem) : Obj G.S → Obj G.S → Prop
 | arr (e : TypeId) (t : Ty) (xs : List (t.den G.S)) (fz : Bool) (np : t.np = true) : Sim w ok M M' (.arr e t xs fz) (.arr e t xs fz)
 | tr (e : TypeId) (t : Ty) (xs : List (t.den G.S)) : Sim w ok M M' (.tr e t xs []) (.tr e t xs [])
 | box (te : TypeId) (cs ds : List (V G.S)) (fz : Bool) (h : ∀ l, VRs w ok M cs l → VRs w ok M' ds l) : Sim w ok M M' (.box te cs fz) (.box te ds fz)
theorem Sim.mono {w : World} {ok : Okc} {M M' M2 : Mem} {a b : Obj G.S} (h : Sim w ok M M' a b) (hx : Mle M' M2) : Sim w ok M M2 a b := by
 cases h with
 | arr e t xs fz np => exact .arr e t xs fz np
 | tr e t xs => exact .tr e t xs
 | box te cs ds fz h => exact .box te cs ds fz fun l hl => (h l hl).mono (hx.ex w ok)
structure RI (w : World) (ok : Okc) (old : List (Obj G.S)) (M : Mem) (r : Rn G.S) (M' : Mem) : Prop where
 dom : ∀ o x, M' o = some x → o < r.L.length
 fnd : ∀ o o', Rn.find r.map o = some o' → o' < r.L.length ∧ ∃ x, M o = some x ∧ M' o' = some x ∧ ∀ b, (M'.ft o' b ↔ M.ft o b)
 obj : ∀ o' ob', r.L[o']? = some ob' → ob' = .dead ∨ (∃ o ob, Rn.find r.map o = some o' ∧ old[o]? = some ob ∧ Sim w ok M M' ob ob') ∨
  (∃ e t, ob' = (if G.tre e = true then .tr e t [] [] else .arr e t [] false) ∧ M' o' = some (.arr none 0 0 e (Ty.sz G t)) ∧ 0 < Ty.sz G t ∧ ∀ b, ¬ M'.ft o' b)
section
variable {w0 w : World} {Fp : Fx} {okA ok : Okc} {M : Mem} {old : List (Obj G.S)}
def RnOK (w : World) (ok : Okc) (old : List (Obj G.S)) (M : Mem) (r r' : Rn G.S) (M1 M2 : Mem) : Prop :=
 RI w ok old M r' M2 ∧ Mle M1 M2 ∧ r.L.length ≤ r'.L.length ∧ ∀ o o', Rn.find r.map o = some o' → Rn.find r'.map o = some o'
theorem RnOK.refl {r : Rn G.S} {M1 : Mem} (h : RI w ok old M r M1) : RnOK w ok old M r r M1 M1 := ⟨h, .refl _, Nat.le_refl _, fun _ _ h => h⟩
theorem RnOK.trans {r r1 r2 : Rn G.S} {M1 M2 M3 : Mem} (h : RnOK w ok old M r r1 M1 M2) (k : RnOK w ok old M r1 r2 M2 M3) : RnOK w ok old M r r2 M1 M3 :=
 ⟨k.1, h.2.1.trans k.2.1, Nat.le_trans h.2.2.1 k.2.2.1, fun o o' e => k.2.2.2 o o' (h.2.2.2 o o' e)⟩
theorem Mle.new {M : Mem} {n : Nat} (h : ∀ o x, M o = some x → o < n) (x : MB) (F : Nat → Prop) : Mle M (updF M n x F) := ⟨fun i y hi => by rw [updF_ne _ _ _ (by have := h i y hi; omega)]; exact hi, fun i y hi b => updF_ft _ _ _ (by have := h i y hi; omega) b⟩
theorem RI.add {r : Rn G.S} {M1 : Mem} (h : RI w ok old M r M1) {o : Nat} {x : MB} (hx : M o = some x) (hf : Rn.find r.map o = none) (ob' : Obj G.S)
  (hob : ob' = .dead ∨ (∃ ob, old[o]? = some ob ∧ Sim w ok M (updF M1 r.L.length x (M.ft o)) ob ob')) :
  RnOK w ok old M r ⟨(o, r.L.length) :: r.map, r.L ++ [ob']⟩ M1 (updF M1 r.L.length x (M.ft o)) := by
 have hle : Mle M1 (updF M1 r.L.length x (M.ft o)) := .new h.dom x _
 have find : ∀ i i', Rn.find r.map i = some i' → Rn.find ((o, r.L.length) :: r.map) i = some i' := by
  intro i i' hi
  simp only [Rn.find]
  rw [if_neg (by intro e; subst e; rw [hf] at hi; cases hi)]
  exact hi
 refine ⟨⟨fun i y hi => ?_, fun i i' hi => ?_, fun i ob hi => ?_⟩, hle, by simp, find⟩
 ·simp only [List.length_append, List.length_singleton]
  by_cases e : i = r.L.length
  ·omega
  ·rw [updF_ne _ _ _ e] at hi
   have := h.dom i y hi; omega
 ·simp only [Rn.find] at hi
  split at hi
  ·rename_i e
   subst e
   cases hi
   exact ⟨by simp, x, hx, updF_same _ _ _ _, fun b => by simp [updF]⟩
  ·obtain ⟨h1, y, h2, h3, h4⟩ := h.fnd i i' hi
   exact ⟨by simp; omega, y, h2, hle.hd _ _ h3, fun b => (hle.ft _ _ h3 b).trans (h4 b)⟩
 ·simp only at hi
  rw [List.getElem?_append] at hi
  split at hi
  ·rcases h.obj i ob hi with rfl | ⟨o1, ob1, h1, h2, h3⟩ | ⟨e, t, h1, h2, h3, h4⟩
   ·exact .inl rfl
   ·exact .inr (.inl ⟨o1, ob1, find _ _ h1, h2, h3.mono hle⟩)
   ·exact .inr (.inr ⟨e, t, h1, hle.hd _ _ h2, h3, fun b hb => h4 b ((hle.ft _ _ h2 b).1 hb)⟩)
  ·rename_i hge
   have hi' : i - r.L.length = 0 := by have := (List.getElem?_eq_some_iff.1 hi).1; simp at this; omega
   have hi2 : i = r.L.length := by omega
   rw [hi'] at hi
   simp at hi
   subst hi; subst hi2
   rcases hob with rfl | ⟨ob1, h1, h2⟩
   ·exact .inl rfl
   ·exact .inr (.inl ⟨o, ob1, by simp [Rn.find], h1, h2⟩)
theorem mapS_ok {n : Nat} (ih : ∀ (v : V G.S) (r : Rn G.S) (v' : V G.S) (r' : Rn G.S) (M1 : Mem), rnV old n v r = some (v', r') → RI w ok old M r M1 →
   ∃ M2, RnOK w ok old M r r' M1 M2 ∧ ∀ val, VR w ok M v val → VR w ok M2 v' val) : ∀ (cs : List (V G.S)) (r : Rn G.S) (ds : List (V G.S)) (r' : Rn G.S) (M1 : Mem), mapS (rnV old n) cs r = some (ds, r') → RI w ok old M r M1 →
   ∃ M2, RnOK w ok old M r r' M1 M2 ∧ ∀ l, VRs w ok M cs l → VRs w ok M2 ds l
 | [], r, ds, r', M1, h, hri => by
  simp only [mapS, Option.some.injEq, Prod.mk.injEq] at h
  obtain ⟨rfl, rfl⟩ := h
  exact ⟨M1, .refl hri, fun l hl => by have : l = [] := List.eq_nil_of_length_eq_zero hl.1.symm; subst this; exact .nil⟩
 | c :: cs, r, ds, r', M1, h, hri => by
  simp only [mapS] at h
  split at h
  ·rename_i c' r1 h1
   split at h
   ·rename_i ds' r2 h2
    simp only [Option.some.injEq, Prod.mk.injEq] at h
    obtain ⟨rfl, rfl⟩ := h
    obtain ⟨M2, g1, g2⟩ := ih c r c' r1 M1 h1 hri
    obtain ⟨M3, g3, g4⟩ := mapS_ok ih cs r1 ds' r2 M2 h2 g1.1
    refine ⟨M3, g1.trans g3, fun l hl => ?_⟩
    obtain ⟨v, l', rfl, k1, k2⟩ := hl.inv
    exact .cons ((g2 v k1).mono (g3.2.1.ex w ok)) (g4 l' k2)
   ·cases h
  ·cases h
theorem rnV_ok (hS : SigOk G) (hm : MI C w0 Fp okA M ok old w) : ∀ (n : Nat) (v : V G.S) (r : Rn G.S) (v' : V G.S) (r' : Rn G.S) (M1 : Mem), rnV old n v r = some (v', r') → RI w ok old M r M1 →
   ∃ M2, RnOK w ok old M r r' M1 M2 ∧ ∀ val, VR w ok M v val → VR w ok M2 v' val
 | 0, v, r, v', r', M1, h, hri => by simp [rnV] at h
 | n + 1, v, r, v', r', M1, h, hri => by
  have ih := rnV_ok hS hm n
  have dflt : (if v.clo 20 = true then some (v, r) else none) = some (v', r') → ∃ M2, RnOK w ok old M r r' M1 M2 ∧ ∀ val, VR w ok M v val → VR w ok M2 v' val := by
   intro h
   split at h
   ·rename_i hc
    simp only [Option.some.injEq, Prod.mk.injEq] at h
    obtain ⟨rfl, rfl⟩ := h
    exact ⟨M1, .refl hri, fun val hv => hv.anyM hS _ 20 hc⟩
   ·cases h
  cases v with
  | arr o =>
   simp only [rnV] at h
   split at h
   ·rename_i o' hf
    simp only [Option.some.injEq, Prod.mk.injEq] at h
    obtain ⟨rfl, rfl⟩ := h
    obtain ⟨h1, x, h2, h3, _⟩ := hri.fnd o o' hf
    refine ⟨M1, .refl hri, fun val hv => ?_⟩
    cases hv with
    | arr _ a n c e sz hM => rw [h2] at hM; cases hM; exact .arr _ a n c e sz h3
   ·rename_i hf
    split at h
    ·rename_i e t xs fz ho
     split at h
     ·rename_i np
      simp only [Option.some.injEq, Prod.mk.injEq] at h
      obtain ⟨rfl, rfl⟩ := h
      obtain ⟨a, c, us, hM, _⟩ := hm.objs o _ ho
      refine ⟨_, hri.add hM hf _ (.inr ⟨_, ho, .arr e t xs fz np⟩), fun val hv => ?_⟩
      cases hv with
      | arr _ a' n' c' e' sz' hM' => rw [hM] at hM'; cases hM'; exact .arr _ _ _ _ _ _ (updF_same _ _ _ _)
     ·cases h
    ·rename_i e t xs ho
     split at h
     ·rename_i np
      simp only [Option.some.injEq, Prod.mk.injEq] at h
      obtain ⟨rfl, rfl⟩ := h
      obtain ⟨a, c, hM, _⟩ := hm.objs o _ ho
      refine ⟨_, hri.add hM hf _ (.inr ⟨_, ho, .tr e t xs⟩), fun val hv => ?_⟩
      cases hv with
      | arr _ a' n' c' e' sz' hM' => rw [hM] at hM'; cases hM'; exact .arr _ _ _ _ _ _ (updF_same _ _ _ _)
     ·cases h
    ·cases h
  | nil e t =>
   simp only [rnV] at h
   split at h
   ·rename_i hz
    simp only [Option.some.injEq, Prod.mk.injEq] at h
    obtain ⟨rfl, rfl⟩ := h
    have hle : Mle M1 (updF M1 r.L.length (.arr none 0 0 e (Ty.sz G t)) fun _ => False) := .new hri.dom _ _
    refine ⟨updF M1 r.L.length (.arr none 0 0 e (Ty.sz G t)) fun _ => False, ⟨⟨fun i y hi => ?_, fun i i' hi => ?_, fun i ob hi => ?_⟩, hle, by simp, fun _ _ h => h⟩, fun val hv => ?_⟩
    ·simp only [List.length_append, List.length_singleton]
     by_cases e : i = r.L.length
     ·omega
     ·rw [updF_ne _ _ _ e] at hi
      have := hri.dom i y hi; omega
    ·obtain ⟨h1, y, h2, h3, h4⟩ := hri.fnd i i' hi
     exact ⟨by simp; omega, y, h2, hle.hd _ _ h3, fun b => (hle.ft _ _ h3 b).trans (h4 b)⟩
    ·simp only at hi
     rw [List.getElem?_append] at hi
     split at hi
     ·rcases hri.obj i ob hi with rfl | ⟨o1, ob1, h1, h2, h3⟩ | ⟨e, t, h1, h2, h3, h4⟩
      ·exact .inl rfl
      ·exact .inr (.inl ⟨o1, ob1, h1, h2, h3.mono hle⟩)
      ·exact .inr (.inr ⟨e, t, h1, hle.hd _ _ h2, h3, fun b hb => h4 b ((hle.ft _ _ h2 b).1 hb)⟩)
     ·rename_i hge
      have hi' : i - r.L.length = 0 := by have := (List.getElem?_eq_some_iff.1 hi).1; simp at this; omega
      have hi2 : i = r.L.length := by omega
      rw [hi'] at hi
      simp at hi
      subst hi; subst hi2
      exact .inr (.inr ⟨e, t, rfl, updF_same _ _ _ _, hz, fun b hb => by simp [updF] at hb⟩)
    ·cases hv
     exact .arr _ _ _ _ _ _ (updF_same _ _ _ _)
   ·cases h
  | ref o off =>
   simp only [rnV] at h
   split at h
   ·rename_i o' hf
    simp only [Option.some.injEq, Prod.mk.injEq] at h
    obtain ⟨rfl, rfl⟩ := h
    obtain ⟨h1, x, h2, h3, _⟩ := hri.fnd o o' hf
    refine ⟨M1, .refl hri, fun val hv => ?_⟩
    cases hv with
    | ref _ _ b te hM => rw [h2] at hM; cases hM; exact .ref _ _ b _ h3
   ·rename_i hf
    split at h
    ·rename_i te cs fz ho
     split at h
     ·rename_i ds r1 hs
      simp only [Option.some.injEq, Prod.mk.injEq] at h
      obtain ⟨rfl, rfl⟩ := h
      obtain ⟨b, l, hM, _⟩ := hm.objs o _ ho
      have g1 := hri.add hM hf .dead (.inl rfl)
      obtain ⟨M2, g2, g3⟩ := mapS_ok ih cs _ ds r1 _ hs g1.1
      have g4 := g1.trans g2
      have hfo : Rn.find r1.map o = some r.L.length := g2.2.2.2 o _ (by simp [Rn.find])
      refine ⟨M2, ⟨⟨fun i y hi => by simpa using g2.1.dom i y hi, fun i i' hi => by simpa using g2.1.fnd i i' hi, fun i ob hi => ?_⟩, g4.2.1, by simpa using g4.2.2.1, g4.2.2.2⟩, fun val hv => ?_⟩
      ·simp only at hi
       rw [List.getElem?_set] at hi
       split at hi
       ·rename_i e1
        subst e1
        split at hi
        ·cases hi
         exact .inr (.inl ⟨o, _, hfo, ho, .box te cs ds fz g3⟩)
        ·cases hi
       ·exact g2.1.obj i ob hi
      ·cases hv with
       | ref _ _ b' te' hM' =>
        rw [hM] at hM'; cases hM'
        exact .ref _ _ b _ (g2.2.1.hd _ _ (updF_same _ _ _ _))
     ·cases h
    ·cases h
  | ag cs =>
   simp only [rnV] at h
   cases hs : mapS (rnV old n) cs r with
   | none => rw [hs] at h; cases h
   | some p =>
    rw [hs] at h
    obtain ⟨ds, r1⟩ := p
    simp only [Option.map_some, Option.some.injEq, Prod.mk.injEq] at h
    obtain ⟨rfl, rfl⟩ := h
    obtain ⟨M2, g2, g3⟩ := mapS_ok ih cs _ ds r1 _ hs hri
    refine ⟨M2, g2, fun val hv => ?_⟩
    cases hv with
    | ag _ l hl hh => have := g3 l ⟨hl, hh⟩; exact .ag _ l this.1 this.2
  | fn g cs =>
   simp only [rnV] at h
   cases hs : mapS (rnV old n) cs r with
   | none => rw [hs] at h; cases h
   | some p =>
    rw [hs] at h
    obtain ⟨ds, r1⟩ := p
    simp only [Option.map_some, Option.some.injEq, Prod.mk.injEq] at h
    obtain ⟨rfl, rfl⟩ := h
    obtain ⟨M2, g2, g3⟩ := mapS_ok ih cs _ ds r1 _ hs hri
    refine ⟨M2, g2, fun val hv => ?_⟩
    cases hv with
    | fn _ _ l hl hh => have := g3 l ⟨hl, hh⟩; exact .fn _ _ l this.1 this.2
  | un =>
   simp only [rnV, Option.some.injEq, Prod.mk.injEq] at h
   obtain ⟨rfl, rfl⟩ := h
   exact ⟨M1, .refl hri, fun val hv => .un _⟩
  | er q =>
   simp only [rnV, Option.some.injEq, Prod.mk.injEq] at h
   obtain ⟨rfl, rfl⟩ := h
   exact ⟨M1, .refl hri, fun val hv => .un _⟩
  | lb q =>
   simp only [rnV, Option.some.injEq, Prod.mk.injEq] at h
   obtain ⟨rfl, rfl⟩ := h
   exact ⟨M1, .refl hri, fun val hv => by cases hv; exact .bool _⟩
  | tup cs =>
   simp only [rnV] at h
   split at h
   ·simp only [Option.some.injEq, Prod.mk.injEq] at h
    obtain ⟨rfl, rfl⟩ := h
    exact ⟨M1, .refl hri, fun val hv => .un _⟩
   ·cases h
  | pe o i off => simp [rnV] at h
  | _ => exact dflt h
theorem RI.src {r : Rn G.S} {M' : Mem} (h : RI w ok old M r M') : ∀ o' ob' b, r.L[o']? = some ob' → ob'.live → hasB M' o' b → ∃ o ob, Rn.find r.map o = some o' ∧ old[o]? = some ob ∧ ob.live ∧ hasB M o b ∧ Sim w ok M M' ob ob' := by
 intro o' ob' b ho hl hb
 rcases h.obj o' ob' ho with rfl | ⟨o, ob, h1, h2, h3⟩ | ⟨e, t, _, h2, h3, h4⟩
 ·exact hl.elim
 ·obtain ⟨_, x, hx, hx', hft⟩ := h.fnd o o' h1
  have hb' : hasB M o b := by
   rcases hb with hb | hb
   ·simp only [blk, hx', Option.bind_some] at hb
    refine .inl ?_
    simp only [blk, hx, Option.bind_some]; exact hb
   ·exact .inr ((hft b).1 hb)
  refine ⟨o, ob, h1, h2, ?_, hb', h3⟩
  cases h3 <;> trivial
 ·rcases hb with hb | hb
  ·simp [blk, h2, MB.blk] at hb
  ·exact (h4 b hb).elim
theorem RI.mi (hS : SigOk G) (hm : MI C w0 Fp okA M ok old w) {r : Rn G.S} {M' : Mem} (h : RI w ok old M r M') (hpin : ∀ i x, Fp.pin i = some x → M' i = some x) : MI C w0 Fp okA M' ok r.L w := by
 have src : ∀ o' ob' b, r.L[o']? = some ob' → ob'.live → hasB M' o' b → ∃ o ob, Rn.find r.map o = some o' ∧ old[o]? = some ob ∧ ob.live ∧ hasB M o b ∧ (∀ off, ob.rd off → ob'.rd off) := by
  intro o' ob' b ho hl hb
  obtain ⟨o, ob, h1, h2, h3, h4, h5⟩ := h.src o' ob' b ho hl hb
  refine ⟨o, ob, h1, h2, h3, h4, ?_⟩
  cases h5 <;> exact fun _ h => h
 refine ⟨fun o' ob' ho => ?_, h.dom, fun o1 o2 ob1 ob2 b h1 h2 l1 l2 b1 b2 => ?_, fun o ob b off ho hl hb hk => ?_, fun o ob b ho hl hb => ?_, fun o ob b ho hl hb => ?_, hm.rdA, hm.lt, hm.okN, hm.glob, hm.os, hm.tape, hm.output, hm.size, hm.frame, hm.gt, hpin⟩
 ·rcases h.obj o' ob' ho with rfl | ⟨o, ob, h1, h2, h3⟩ | ⟨e, t, he, h2, h3, _⟩
  ·trivial
  ·obtain ⟨_, x, hx, hx', hft⟩ := h.fnd o o' h1
   have hor := hm.objs o ob h2
   cases h3 with
   | arr e t xs fz np =>
    obtain ⟨a, c, us, g1, g2, g3, g4⟩ := hor
    rw [hx] at g1; cases g1
    exact ⟨a, c, us, hx', g2, g3, fun i x j y u k1 k2 k3 => cells_any hS np (List.mem_of_getElem? k2) (g4 i x j y u k1 k2 k3)⟩
   | tr e t xs =>
    obtain ⟨a, c, g1, g2⟩ := hor
    rw [hx] at g1; cases g1
    exact ⟨a, c, hx', g2.any fun b => (hft b).2⟩
   | box te cs ds fz hh =>
    obtain ⟨b, l, g1, g2, g3⟩ := hor
    rw [hx] at g1; cases g1
    exact ⟨b, l, hx', g2, hh l g3⟩
  ·have h0 : w.ownsRow 0 e (Ty.sz G t) (.slice none 0 0) 0 [] := ⟨by simp, .inl ⟨rfl, rfl⟩⟩
   split at he
   ·subst he
    exact ⟨none, 0, h2, [], fun _ _ _ => False, h0, h3, fun i x j y u k1 => by simp at k1, fun _ _ _ _ _ h => h.elim, fun _ _ _ h => h.elim, fun b h => by simp at h⟩
   ·subst he
    exact ⟨none, 0, [], h2, h0, h3, fun i x j y u k1 => by simp at k1⟩
 ·obtain ⟨s1, sb1, f1, g1, k1, q1, _⟩ := src o1 ob1 b h1 l1 b1
  obtain ⟨s2, sb2, f2, g2, k2, q2, _⟩ := src o2 ob2 b h2 l2 b2
  have := hm.dis s1 s2 sb1 sb2 b g1 g2 k1 k2 q1 q2
  subst this
  rw [f1] at f2
  exact Option.some.inj f2
 ·obtain ⟨s1, sb1, f1, g1, k1, q1, hr⟩ := src o ob b ho hl hb
  exact hr off (hm.own s1 sb1 b off g1 k1 q1 hk)
 ·obtain ⟨s1, sb1, f1, g1, k1, q1, _⟩ := src o ob b ho hl hb
  exact hm.old s1 sb1 b g1 k1 q1
 ·obtain ⟨s1, sb1, f1, g1, k1, q1, _⟩ := src o ob b ho hl (.inr hb)
  exact hm.blk_lt g1 k1 q1
theorem unnil_ok {w : World} {ok : Okc} {M : Mem} {cs : List (V G.S)} {l : List Value} (h : VRs w ok M cs l) : VRs w ok M (cs.map unnil) l := by
 refine ⟨by simpa using h.1, fun j y v hj hv => ?_⟩
 rw [List.getElem?_map] at hj
 cases hc : cs[j]? with
 | none => rw [hc] at hj; cases hj
 | some c =>
  rw [hc] at hj
  have := h.2 j c v hc hv
  simp only [Option.map_some, Option.some.injEq] at hj
  subst hj
  cases c with
  | nil e t => cases this; exact .sl0 _ _ _
  | _ => exact this
theorem unnO_get {L : List (Obj G.S)} {o : Nat} {ob : Obj G.S} (h : (L.map unnO)[o]? = some ob) : ∃ ob0, L[o]? = some ob0 ∧ ob = unnO ob0 ∧ (ob.live → ob0.live) ∧ ∀ off, ob0.rd off → ob.rd off := by
 rw [List.getElem?_map] at h
 cases hL : L[o]? with
 | none => rw [hL] at h; cases h
 | some ob0 =>
  rw [hL] at h
  simp only [Option.map_some, Option.some.injEq] at h
  subst h
  exact ⟨ob0, rfl, rfl, by cases ob0 <;> exact fun h => h, by cases ob0 <;> exact fun _ h => h⟩
theorem MI.unn (hm : MI C w0 Fp okA M ok old w) (b : Bool) (st : St G.S) (hL : st.L = old) : MI C w0 Fp okA M ok (unnS b st).L w := by
 subst hL
 unfold unnS
 cases b with
 | false => exact hm
 | true =>
  refine ⟨fun o ob ho => ?_, fun o x hx => ?_, fun o1 o2 ob1 ob2 b h1 h2 l1 l2 b1 b2 => ?_, fun o ob b off ho hl hb hk => ?_, fun o ob b ho hl hb => ?_, fun o ob b ho hl hb => ?_, hm.rdA, hm.lt, hm.okN, hm.glob, hm.os, hm.tape, hm.output, hm.size, hm.frame, hm.gt, hm.pin⟩
  ·obtain ⟨ob0, h1, rfl, _⟩ := unnO_get ho
   have := hm.objs o ob0 h1
   cases ob0 with
   | box te cs fz =>
    obtain ⟨b, l, k1, k2, k3⟩ := this
    exact ⟨b, l, k1, k2, unnil_ok k3⟩
   | _ => exact this
  ·show o < (st.L.map unnO).length
   rw [List.length_map]; exact hm.dom o x hx
  ·obtain ⟨_, h1, _, k1, _⟩ := unnO_get h1
   obtain ⟨_, h2, _, k2, _⟩ := unnO_get h2
   exact hm.dis o1 o2 _ _ b h1 h2 (k1 l1) (k2 l2) b1 b2
  ·obtain ⟨_, h1, _, k1, k2⟩ := unnO_get ho
   exact k2 off (hm.own o _ b off h1 (k1 hl) hb hk)
  ·obtain ⟨_, h1, _, k1, _⟩ := unnO_get ho
   exact hm.old o _ b h1 (k1 hl) hb
  ·obtain ⟨_, h1, _, k1, _⟩ := unnO_get ho
   exact hm.flt o _ b h1 (k1 hl) hb
theorem fillB_box {nl : Bool} {old : List (Obj G.S)} : ∀ {os : List Nat} {i : Nat} {r r' : Rn G.S}, fillB nl old os i r = some r' → ∀ o ∈ os, ∃ te cs fz, old[o]? = some (.box te cs fz)
 | o :: os, i, r, r', h, q, hq => by
  simp only [fillB] at h
  split at h
  ·rename_i te cs fz ho
   split at h
   ·rename_i ds r1 hs
    cases hq with
    | head => exact ⟨te, cs, fz, ho⟩
    | tail _ hq => exact fillB_box h q hq
   ·cases h
  ·cases h
theorem fillB_ok (hS : SigOk G) (hm : MI C w0 Fp okA M ok old w) {nl : Bool} : ∀ (os : List Nat) (i : Nat) (r r' : Rn G.S) (M1 : Mem), fillB nl old os i r = some r' → RI w ok old M r M1 →
  (∀ j o, os[j]? = some o → Rn.find r.map o = some (i + j)) → ∃ M2, RnOK w ok old M r r' M1 M2
 | [], i, r, r', M1, h, hri, _ => by simp [fillB] at h; subst h; exact ⟨M1, .refl hri⟩
 | o :: os, i, r, r', M1, h, hri, hf => by
  simp only [fillB] at h
  split at h
  ·rename_i te cs fz ho
   split at h
   ·rename_i ds r1 hs
    obtain ⟨M2, g2, g3⟩ := mapS_ok (rnV_ok hS hm 20) _ r ds r1 M1 hs hri
    have hfo : Rn.find r1.map o = some i := g2.2.2.2 o _ (by have := hf 0 o rfl; simpa using this)
    have g3' : ∀ l, VRs w ok M cs l → VRs w ok M2 ds l := fun l hl => g3 l (by cases nl; exact hl; exact unnil_ok hl)
    have hri2 : RI w ok old M { r1 with L := r1.L.set i (.box te ds fz) } M2 := by
     refine ⟨fun i' y hi => by simpa using g2.1.dom i' y hi, fun i' i'' hi => by simpa using g2.1.fnd i' i'' hi, fun i' ob hi => ?_⟩
     simp only at hi
     rw [List.getElem?_set] at hi
     split at hi
     ·rename_i e1
      subst e1
      split at hi
      ·cases hi
       exact .inr (.inl ⟨o, _, hfo, ho, .box te cs ds fz g3'⟩)
      ·cases hi
     ·exact g2.1.obj i' ob hi
    obtain ⟨M3, g4⟩ := fillB_ok hS hm os (i + 1) _ r' M2 h hri2 (fun j q hq => by
     have := g2.2.2.2 q _ (hf (j + 1) q (by simpa using hq))
     rw [this]; congr 1; omega)
    refine ⟨M3, g4.1, g2.2.1.trans g4.2.1, ?_, fun a b e => g4.2.2.2 a b (g2.2.2.2 a b e)⟩
    have h1 := g2.2.2.1
    have h2 := g4.2.2.1
    simp only [List.length_set] at h2
    exact Nat.le_trans h1 h2
   ·cases h
  ·cases h
theorem carry0_find : ∀ (os : List Nat) (i : Nat), os.Nodup → ∀ j o, os[j]? = some o → Rn.find (carry0 os i) o = some (i + j)
 | a :: os, i, hn, j, o, h => by
  rw [List.nodup_cons] at hn
  simp only [carry0, Rn.find]
  cases j with
  | zero => simp at h; subst h; simp
  | succ j =>
   simp only [List.getElem?_cons_succ] at h
   rw [if_neg (by rintro rfl; exact hn.1 (List.mem_of_getElem? h)), carry0_find os (i + 1) hn.2 j o h]
   congr 1; omega
theorem carry0_inv : ∀ (os : List Nat) (i o o' : Nat), Rn.find (carry0 os i) o = some o' → ∃ j, os[j]? = some o ∧ o' = i + j
 | a :: os, i, o, o', h => by
  simp only [carry0, Rn.find] at h
  split at h
  ·rename_i e
   cases h
   exact ⟨0, by simp [e], by omega⟩
  ·obtain ⟨j, h1, h2⟩ := carry0_inv os (i + 1) o o' h
   exact ⟨j + 1, by simpa using h1, by omega⟩
theorem carry0_ri {os : List Nat} (hsome : ∀ o ∈ os, ∃ x, M o = some x) : RI w ok old M ⟨carry0 os 0, List.replicate os.length .dead⟩ ⟨fun i => match os[i]? with | some o => M o | none => none, fun i b => ∃ o, os[i]? = some o ∧ M.ft o b⟩ := by
 refine ⟨fun i x hi => ?_, fun o o' ho => ?_, fun o' ob hi => ?_⟩
 ·simp only [List.length_replicate]
  cases hq : os[i]? with
  | none => simp [hq] at hi
  | some o => exact (List.getElem?_eq_some_iff.1 hq).1
 ·obtain ⟨j, h1, h2⟩ := carry0_inv os 0 o o' ho
  rw [Nat.zero_add] at h2
  subst h2
  obtain ⟨x, hx⟩ := hsome o (List.mem_of_getElem? h1)
  exact ⟨by simpa using (List.getElem?_eq_some_iff.1 h1).1, x, hx, by simp [h1, hx], fun b => by simp [h1]⟩
 ·simp only at hi
  rw [List.getElem?_replicate] at hi
  split at hi
  ·cases hi; exact .inl rfl
  ·cases hi
theorem carry_ok (hS : SigOk G) (hm : MI C w0 Fp okA M ok old w) {nl : Bool} {os : List Nat} {r : Rn G.S} (h : carry nl old os = some r) (hn : os.Nodup) :
  ∃ M2, RI w ok old M r M2 ∧ ∀ j o, os[j]? = some o → Rn.find r.map o = some j ∧ ∃ b te, M o = some (.box b te) ∧ M2 j = some (.box b te) := by
 unfold carry at h
 have hbox : ∀ o ∈ os, ∃ b te, M o = some (.box b te) := fun o ho => by
  obtain ⟨te, cs, fz, hq⟩ := fillB_box h o ho
  obtain ⟨b, l, h1, _⟩ := hm.objs o _ hq
  exact ⟨b, te, h1⟩
 have hf0 : ∀ j o, os[j]? = some o → Rn.find (carry0 os 0) o = some (0 + j) := carry0_find os 0 hn
 obtain ⟨M2, g⟩ := fillB_ok hS hm os 0 _ r _ h (carry0_ri fun o ho => let ⟨b, te, hb⟩ := hbox o ho; ⟨_, hb⟩) hf0
 refine ⟨M2, g.1, fun j o ho => ⟨by have := g.2.2.2 o _ (hf0 j o ho); rw [this, Nat.zero_add], ?_⟩⟩
 obtain ⟨b, te, hb⟩ := hbox o (List.mem_of_getElem? ho)
 exact ⟨b, te, hb, g.2.1.hd j _ (by simp [ho, hb])⟩
theorem fillP_some (hm : MI C w0 Fp okA M ok old w) {nl : Bool} : ∀ {os : List Nat} {i : Nat} {r r' : Rn G.S}, fillP nl old os i r = some r' → ∀ o ∈ os, ∃ x, M o = some x
 | o :: os, i, r, r', h, q, hq => by
  simp only [fillP] at h
  split at h
  ·rename_i te cs fz ho
   split at h
   ·cases hq with
    | head => exact hm.mem_some ho trivial
    | tail _ hq => exact fillP_some hm h q hq
   ·cases h
  ·rename_i ho
   split at h
   ·cases hq with
    | head => exact hm.mem_some ho trivial
    | tail _ hq => exact fillP_some hm h q hq
   ·cases h
  ·rename_i ho
   split at h
   ·cases hq with
    | head => exact hm.mem_some ho trivial
    | tail _ hq => exact fillP_some hm h q hq
   ·cases h
  ·cases h
theorem fillP_ok (hS : SigOk G) (hm : MI C w0 Fp okA M ok old w) {nl : Bool} : ∀ (os : List Nat) (i : Nat) (r r' : Rn G.S) (M1 : Mem), fillP nl old os i r = some r' → RI w ok old M r M1 →
  (∀ j o, os[j]? = some o → Rn.find r.map o = some (i + j)) → ∃ M2, RnOK w ok old M r r' M1 M2
 | [], i, r, r', M1, h, hri, _ => by simp [fillP] at h; subst h; exact ⟨M1, .refl hri⟩
 | o :: os, i, r, r', M1, h, hri, hf => by
  have put : ∀ (ob : Obj G.S), old[o]? = some ob → Sim w ok M M1 ob ob → fillP nl old os (i + 1) { r with L := r.L.set i ob } = some r' → ∃ M2, RnOK w ok old M r r' M1 M2 := by
   intro ob ho hsim h
   have hfo : Rn.find r.map o = some i := by have := hf 0 o rfl; simpa using this
   have hri2 : RI w ok old M { r with L := r.L.set i ob } M1 := by
    refine ⟨fun i' y hi => by simpa using hri.dom i' y hi, fun i' i'' hi => by simpa using hri.fnd i' i'' hi, fun i' ob' hi => ?_⟩
    rcases set_split hi with ⟨rfl, rfl, _⟩ | ⟨_, hi⟩
    ·exact .inr (.inl ⟨o, _, hfo, ho, hsim⟩)
    ·exact hri.obj i' ob' hi
   obtain ⟨M3, g4⟩ := fillP_ok hS hm os (i + 1) _ r' M1 h hri2 (fun j q hq => by
    have := hf (j + 1) q (by simpa using hq)
    rw [this]; congr 1; omega)
   refine ⟨M3, g4.1, g4.2.1, ?_, g4.2.2.2⟩
   have h2 := g4.2.2.1
   simp only [List.length_set] at h2
   exact h2
  simp only [fillP] at h
  split at h
  ·rename_i te cs fz ho
   split at h
   ·rename_i ds r1 hs
    obtain ⟨M2, g2, g3⟩ := mapS_ok (rnV_ok hS hm 20) _ r ds r1 M1 hs hri
    have g3' : ∀ l, VRs w ok M cs l → VRs w ok M2 ds l := fun l hl => g3 l (by cases nl; exact hl; exact unnil_ok hl)
    have hfo : Rn.find r1.map o = some i := g2.2.2.2 o _ (by have := hf 0 o rfl; simpa using this)
    have hri2 : RI w ok old M { r1 with L := r1.L.set i (.box te ds fz) } M2 := by
     refine ⟨fun i' y hi => by simpa using g2.1.dom i' y hi, fun i' i'' hi => by simpa using g2.1.fnd i' i'' hi, fun i' ob hi => ?_⟩
     simp only at hi
     rw [List.getElem?_set] at hi
     split at hi
     ·rename_i e1
      subst e1
      split at hi
      ·cases hi
       exact .inr (.inl ⟨o, _, hfo, ho, .box te cs ds fz g3'⟩)
      ·cases hi
     ·exact g2.1.obj i' ob hi
    obtain ⟨M3, g4⟩ := fillP_ok hS hm os (i + 1) _ r' M2 h hri2 (fun j q hq => by
     have := g2.2.2.2 q _ (hf (j + 1) q (by simpa using hq))
     rw [this]; congr 1; omega)
    refine ⟨M3, g4.1, g2.2.1.trans g4.2.1, ?_, fun a b e => g4.2.2.2 a b (g2.2.2.2 a b e)⟩
    have h1 := g2.2.2.1
    have h2 := g4.2.2.1
    simp only [List.length_set] at h2
    exact Nat.le_trans h1 h2
   ·cases h
  ·rename_i e t xs fz ho
   split at h
   ·exact put _ ho (.arr e t xs fz ‹_›) h
   ·cases h
  ·rename_i e t xs ho
   split at h
   ·exact put _ ho (.tr e t xs) h
   ·cases h
  ·cases h
theorem carryP_ok (hS : SigOk G) (hm : MI C w0 Fp okA M ok old w) {nl : Bool} {os : List Nat} {r : Rn G.S} (h : carryP nl old os = some r) (hn : os.Nodup) :
  ∃ M2, RI w ok old M r M2 ∧ ∀ j o, os[j]? = some o → Rn.find r.map o = some j ∧ ∃ x, M o = some x ∧ M2 j = some x := by
 unfold carryP at h
 have hsome := fillP_some hm h
 have hf0 : ∀ j o, os[j]? = some o → Rn.find (carry0 os 0) o = some (0 + j) := carry0_find os 0 hn
 obtain ⟨M2, g⟩ := fillP_ok hS hm os 0 _ r _ h (carry0_ri hsome) hf0
 refine ⟨M2, g.1, fun j o ho => ⟨by have := g.2.2.2 o _ (hf0 j o ho); rw [this, Nat.zero_add], ?_⟩⟩
 obtain ⟨x, hx⟩ := hsome o (List.mem_of_getElem? ho)
 exact ⟨x, hx, g.2.1.hd j _ (by simp [ho, hx])⟩
theorem rargs_ok (hS : SigOk G) (hm : MI C w0 Fp okA M ok old w) {ok0 : Okc} (he : Ex M ok0 w M ok w) {p : V G.S → Bool} : ∀ (args : List (V G.S)) (r : Rn G.S) (vs : List (V G.S)) (r' : Rn G.S) (M1 : Mem), rargs p old args r = some (vs, r') → RI w ok old M r M1 →
  (∀ v ∈ args, p v = false → ∀ u val, snap old 20 v = some u → VR w ok0 M v val → VR w ok M u val) →
  ∃ M2, RnOK w ok old M r r' M1 M2 ∧ ∀ l, VRs w ok0 M args l → VRs w ok M2 vs l
 | [], r, vs, r', M1, h, hri, _ => by
  simp only [rargs, Option.some.injEq, Prod.mk.injEq] at h
  obtain ⟨rfl, rfl⟩ := h
  exact ⟨M1, .refl hri, fun l hl => by have : l = [] := List.eq_nil_of_length_eq_zero hl.1.symm; subst this; exact .nil⟩
 | v :: args, r, vs, r', M1, h, hri, hsn => by
  simp only [rargs] at h
  split at h
  ·rename_i a r1 h1
   have key : ∃ M2, RnOK w ok old M r r1 M1 M2 ∧ ∀ val, VR w ok0 M v val → VR w ok M2 a val := by
    split at h1
    ·obtain ⟨M2, g1, g2⟩ := rnV_ok hS hm 20 _ _ _ _ _ h1 hri
     exact ⟨M2, g1, fun val hv => g2 val (hv.mono he)⟩
    ·rename_i hb
     split at h1
     ·rename_i u hu
      split at h1
      ·rename_i hc
       simp only [Option.some.injEq, Prod.mk.injEq] at h1
       obtain ⟨rfl, rfl⟩ := h1
       exact ⟨M1, .refl hri, fun val hv => (hsn v (by simp) (by simpa using hb) u val hu hv).anyM hS _ 20 hc⟩
      ·cases h1
     ·cases h1
   split at h
   ·rename_i l r2 h2
    simp only [Option.some.injEq, Prod.mk.injEq] at h
    obtain ⟨rfl, rfl⟩ := h
    obtain ⟨M2, g1, g2⟩ := key
    obtain ⟨M3, g3, g4⟩ := rargs_ok hS hm he args r1 l r2 M2 h2 g1.1 (fun v hv => hsn v (by simp [hv]))
    refine ⟨M3, g1.trans g3, fun l hl => ?_⟩
    obtain ⟨v', l', rfl, k1, k2⟩ := hl.inv
    exact .cons ((g2 v' k1).mono (g3.2.1.ex w ok)) (g4 l' k2)
   ·cases h
  ·cases h
theorem snaps_reach (hS : SigOk G) {okA ok : Okc} {M : Mem} {L : List (Obj G.S)} {w0 w : World} {Fp : Fx} (hm : MI C w0 Fp okA M ok L w) (args : List (V G.S)) (p : V G.S → Bool) : ∀ v ∈ args, p v = false → ∀ u val, snap (freeze L (reachs L (args.filter fun v => !p v))) 20 v = some u → VR w ok M v val → VR w (okF M ok L (reachs L (args.filter fun v => !p v))) M u val := by
 intro v hva hbr u val hu hvv
 rw [snap_freeze] at hu
 refine snap_ok hS hm 20 v u val _ hu (fun o ho => ?_) hvv
 rw [List.contains_iff_mem]
 have : v ∈ args.filter fun v => !p v := by simp [hva, hbr]
 have mem : ∀ {vs : List (V G.S)} {v : V G.S}, v ∈ vs → ∀ o ∈ reach L 20 v, o ∈ reachs L vs := by
  intro vs
  induction vs with
  | nil => intro v hv; cases hv
  | cons a vs ih =>
   intro v hv o ho
   simp only [reachs, List.mem_append]
   cases hv with
   | head => exact .inl ho
   | tail _ hv => exact .inr (ih hv o ho)
 exact mem this o ho
theorem normR_ok (hS : SigOk G) {w : World} {ok : Okc} {M : Mem} : ∀ {ts : List TypeId} {vs us : List (V G.S)} {l : List Value}, normR ts vs = some us → VRs w ok M vs l → VRs w ok M us l
 | [], vs, us, l, h, hv => by simp [normR] at h; subst h; exact hv
 | t :: ts, [], us, l, h, hv => by simp [normR] at h
 | t :: ts, v :: vs, us, l, h, hv => by
  obtain ⟨u, l', rfl, h1, h2⟩ := hv.inv
  simp only [normR] at h
  split at h
  ·split at h
   ·rename_i l2 hl2; cases h; exact .cons h1 (normR_ok hS hl2 h2)
   ·cases h
  ·split at h
   ·split at h
    ·rename_i ty hty x l2 hx hl2
     cases h
     exact .cons (prj_ok hS hx h1).2 (normR_ok hS hl2 h2)
    ·cases h
   ·split at h
    ·rename_i l2 hl2
     cases h
     exact .cons h1 (normR_ok hS hl2 h2)
    ·cases h
end
end
end Go.Dv

namespace Go.Dv
open Go
section
variable {G : Sig} {C : Cfg G} {Φ : FuncId → List Item → St G.S → Option (Ret G.S)} {f : FuncId} {r : Ret G.S}
theorem run_callR {g : Nat} {todo : List Item} {st : St G.S} {rt : List Ty} {bt : List (List BTy)} {k : rDen G.S rt → bxsDen G.S bt → Tree G.S} (h : (Tree.callR g todo st rt bt k).run G Φ f = some r) :
  ∃ ret p b, Φ g todo st = some ret ∧ prjRB G rt bt ret = some (p, b) ∧ (k p b).run G Φ f = some r := by
 simp only [Tree.run] at h
 cases h1 : Φ g todo st with
 | none => rw [h1] at h; cases h
 | some ret =>
  rw [h1] at h
  simp only [Option.bind_some] at h
  cases h2 : prjRB G rt bt ret with
  | none => rw [h2] at h; cases h
  | some p => rw [h2] at h; exact ⟨ret, p.1, p.2, rfl, h2, h⟩
theorem prjRB_ok {rt : List Ty} {bt : List (List BTy)} {ret : Ret G.S} {p : rDen G.S rt} {b : bxsDen G.S bt} (h : prjRB G rt bt ret = some (p, b)) : prjR G rt ret.1 = some p ∧ prjBoxes G ret.2 bt ret.2 bt.length = some b := by
 unfold prjRB at h
 split at h
 ·rename_i x hx
  split at h
  ·rename_i y hy
   cases h
   exact ⟨hx, hy⟩
  ·cases h
 ·cases h
theorem find_key : ∀ {m : List (Nat × Nat)} {o o' : Nat}, Rn.find m o = some o' → o ∈ m.map (·.1)
 | (a, b) :: t, o, o', h => by
  simp only [Rn.find] at h
  split at h
  ·rename_i e; subst e; simp
  ·have := find_key h; simp only [List.map_cons, List.mem_cons]; exact .inr this
theorem boxTys_len {L : List (Obj G.S)} : ∀ {n : Nat} {l : List (Obj G.S)} {bt : List (List BTy)}, boxTys L n l = some bt → bt.length = n
 | 0, l, bt, h => by simp [boxTys] at h; subst h; rfl
 | n + 1, l, bt, h => by
  cases l with
  | nil => simp [boxTys] at h
  | cons ob r =>
   cases ob with
   | box te cs fz =>
    cases fz with
    | false =>
     simp only [boxTys] at h
     split at h
     ·rename_i a b ha hb; cases h; simp [boxTys_len hb]
     ·cases h
    | true => simp [boxTys] at h
   | arr => simp [boxTys] at h
   | tr => simp [boxTys] at h
   | dead => simp [boxTys] at h
theorem allUnf_ok : ∀ {L : List (Obj G.S)} {n : Nat}, allUnf L n = true → ∀ (o : Nat) (ob : Obj G.S), L[o]? = some ob → (o < n ∧ ∃ te cs, ob = .box te cs false) ∨ (n ≤ o ∧ ((∃ e t xs, ob = .arr e t xs false) ∨ ∃ e t xs, ob = .tr e t xs []))
 | [], n, h, o, ob, ho => by simp at ho
 | a :: L, n, h, o, ob, ho => by
  cases a with
  | box te cs fz =>
   cases fz with
   | true => simp [allUnf] at h
   | false =>
    cases n with
    | zero => simp [allUnf] at h
    | succ n =>
     simp only [allUnf] at h
     cases o with
     | zero => simp at ho; subst ho; exact .inl ⟨by omega, te, cs, rfl⟩
     | succ o =>
      simp only [List.getElem?_cons_succ] at ho
      rcases allUnf_ok h o ob ho with ⟨h1, h2⟩ | ⟨h1, h2⟩
      ·exact .inl ⟨by omega, h2⟩
      ·exact .inr ⟨by omega, h2⟩
  | arr e t xs fz =>
   cases fz with
   | true => cases n <;> simp [allUnf] at h
   | false =>
    cases n with
    | succ n => simp [allUnf] at h
    | zero =>
     simp only [allUnf] at h
     cases o with
     | zero => simp at ho; subst ho; exact .inr ⟨by omega, .inl ⟨e, t, xs, rfl⟩⟩
     | succ o =>
      simp only [List.getElem?_cons_succ] at ho
      rcases allUnf_ok h o ob ho with ⟨h1, h2⟩ | ⟨h1, h2⟩
      ·omega
      ·exact .inr ⟨by omega, h2⟩
  | tr e t xs hs =>
   cases hs with
   | cons => cases n <;> simp [allUnf] at h
   | nil =>
    cases n with
    | succ n => simp [allUnf] at h
    | zero =>
     simp only [allUnf] at h
     cases o with
     | zero => simp at ho; subst ho; exact .inr ⟨by omega, .inr ⟨e, t, xs, rfl⟩⟩
     | succ o =>
      simp only [List.getElem?_cons_succ] at ho
      rcases allUnf_ok h o ob ho with ⟨h1, h2⟩ | ⟨h1, h2⟩
      ·omega
      ·exact .inr ⟨by omega, h2⟩
  | dead => cases n <;> simp [allUnf] at h
theorem killA_ok : ∀ (ids : List Nat) (L : List (Obj G.S)), (killA L ids).length = L.length ∧ (∀ (o : Nat) te cs fz, L[o]? = some (.box te cs fz) → (killA L ids)[o]? = some (.box te cs fz)) ∧
  (∀ (o : Nat) (ob : Obj G.S), (killA L ids)[o]? = some ob → ob.live → L[o]? = some ob ∧ (o ∈ ids → ∃ te cs fz, ob = .box te cs fz))
 | [], L => ⟨rfl, fun _ _ _ _ h => h, fun o ob h _ => ⟨h, fun h => by cases h⟩⟩
 | a :: ids, L => by
  simp only [killA]
  cases hL : L[a]? with
  | none =>
   simp only
   obtain ⟨h1, h2, h3⟩ := killA_ok ids L
   refine ⟨h1, h2, fun o ob h hl => ?_⟩
   obtain ⟨h4, h5⟩ := h3 o ob h hl
   refine ⟨h4, fun hm => ?_⟩
   cases hm with
   | head => rw [hL] at h4; cases h4
   | tail _ hm => exact h5 hm
  | some q =>
   cases q with
   | arr e t xs fz =>
    simp only
    obtain ⟨h1, h2, h3⟩ := killA_ok ids (L.set a .dead)
    refine ⟨by simpa using h1, fun o te cs fz ho => h2 o te cs fz ?_, fun o ob h hl => ?_⟩
    ·rw [List.getElem?_set_ne (by rintro rfl; rw [hL] at ho; cases ho)]; exact ho
    ·obtain ⟨h4, h5⟩ := h3 o ob h hl
     by_cases e1 : a = o
     ·subst e1
      rw [List.getElem?_set] at h4
      rw [if_pos rfl] at h4
      split at h4
      ·cases h4; exact hl.elim
      ·cases h4
     ·rw [List.getElem?_set_ne e1] at h4
      refine ⟨h4, fun hm => ?_⟩
      cases hm with
      | head => exact (e1 rfl).elim
      | tail _ hm => exact h5 hm
   | tr e t xs fz =>
    simp only
    obtain ⟨h1, h2, h3⟩ := killA_ok ids (L.set a .dead)
    refine ⟨by simpa using h1, fun o te cs fz ho => h2 o te cs fz ?_, fun o ob h hl => ?_⟩
    ·rw [List.getElem?_set_ne (by rintro rfl; rw [hL] at ho; cases ho)]; exact ho
    ·obtain ⟨h4, h5⟩ := h3 o ob h hl
     by_cases e1 : a = o
     ·subst e1
      rw [List.getElem?_set] at h4
      rw [if_pos rfl] at h4
      split at h4
      ·cases h4; exact hl.elim
      ·cases h4
     ·rw [List.getElem?_set_ne e1] at h4
      refine ⟨h4, fun hm => ?_⟩
      cases hm with
      | head => exact (e1 rfl).elim
      | tail _ hm => exact h5 hm
   | box te cs fz =>
    simp only
    obtain ⟨h1, h2, h3⟩ := killA_ok ids L
    refine ⟨h1, h2, fun o ob h hl => ?_⟩
    obtain ⟨h4, h5⟩ := h3 o ob h hl
    refine ⟨h4, fun hm => ?_⟩
    cases hm with
    | head => rw [hL] at h4; cases h4; exact ⟨te, cs, fz, rfl⟩
    | tail _ hm => exact h5 hm
   | dead =>
    simp only
    obtain ⟨h1, h2, h3⟩ := killA_ok ids L
    refine ⟨h1, h2, fun o ob h hl => ?_⟩
    obtain ⟨h4, h5⟩ := h3 o ob h hl
    refine ⟨h4, fun hm => ?_⟩
    cases hm with
    | head => rw [hL] at h4; cases h4; exact hl.elim
    | tail _ hm => exact h5 hm
section
variable {Lc : List (Obj G.S)} {Mc M2 : Mem} {w' : World} {okc : Okc} {n len N : Nat}
theorem inj_any (hS : SigOk G) {t : Ty} (np : t.np = true) {x : t.den G.S} {w : World} {ok : Okc} {M M' : Mem} {v : Value} (h : VR w ok M (inj G t x) v) : VR w ok M' (inj G t x) v :=
 h.anyM hS M' 21 (inj_clo t x 20 np)
theorem cells_back (hS : SigOk G) (hM : ∀ j x, n ≤ j → j < N → Mc j = some x → M2 (len + (j - n)) = some x) : ∀ (b : List BTy) (cs : List (V G.S)) (d m : Nat) (p : bxDen G.S b), prjCells G Lc b cs (n + d) = some (p, m) → b.all BTy.np = true → n + (d + (cellsOf (G := G) b p (len + d)).2.1.length) ≤ N →
  ∃ k, m = n + (d + k) ∧ (cellsOf (G := G) b p (len + d)).2.2 = len + (d + k) ∧ (cellsOf (G := G) b p (len + d)).2.1.length = k ∧
   (∀ (j : Nat) (ob : Obj G.S), (cellsOf (G := G) b p (len + d)).2.1[j]? = some ob → Lc[n + (d + j)]? = some ob ∧ OwnN ob) ∧
   (∀ l, VRs w' okc Mc cs l → VRs w' okc M2 (cellsOf (G := G) b p (len + d)).1 l)
 | [], [], d, m, p, h, _, _ => by
  simp only [prjCells, Option.some.injEq, Prod.mk.injEq] at h
  cases h
  exact ⟨0, rfl, rfl, rfl, fun j ob hj => by simp [cellsOf] at hj, fun l hl => ⟨hl.1, fun j y v hj => by simp [cellsOf] at hj⟩⟩
 | [], c :: cs, d, m, p, h, _, _ => by simp [prjCells] at h
 | .im t :: b, [], d, m, p, h, _, _ => by simp [prjCells] at h
 | .ow e t :: b, [], d, m, p, h, _, _ => by simp [prjCells] at h
 | .tw e t :: b, [], d, m, p, h, _, _ => by simp [prjCells] at h
 | .im t :: b, v :: vs, d, m, p, h, hnp, hN => by
  simp only [List.all_cons, Bool.and_eq_true] at hnp
  simp only [prjCells] at h
  split at h
  ·rename_i x hx
   split at h
   ·rename_i y m' hy
    cases h
    obtain ⟨k, h1, h2, h3, h4, h5⟩ := cells_back hS hM b vs d _ y hy hnp.2 hN
    refine ⟨k, h1, h2, h3, h4, fun l hl => ?_⟩
    obtain ⟨u, l', rfl, k1, k2⟩ := hl.inv
    exact .cons (inj_any hS hnp.1 (prj_ok hS hx k1).2) (h5 l' k2)
   ·cases h
  ·cases h
 | .ow e t :: b, v :: vs, d, m, p, h, hnp, hN => by
  simp only [List.all_cons, Bool.and_eq_true] at hnp
  cases v with
  | arr o =>
   simp only [prjCells] at h
   split at h
   ·rename_i ho
    subst ho
    split at h
    ·rename_i e' t' xs hL
     split at h
     ·rename_i he
      subst he
      split at h
      ·rename_i ht
       subst ht
       split at h
       ·rename_i y m' hy
        cases h
        have hy : prjCells G Lc b vs (n + (d + 1)) = some (y, m) := by rw [← Nat.add_assoc]; exact hy
        simp only [cellsOf, List.length_cons] at hN
        rw [Nat.add_assoc] at hN
        obtain ⟨k, h1, h2, h3, h4, h5⟩ := cells_back hS hM b vs (d + 1) m y hy hnp.2 (by omega)
        refine ⟨k + 1, h1.trans (by omega), ?_, ?_, fun j ob hj => ?_, fun l hl => ?_⟩
        ·simp only [cellsOf]
         rw [Nat.add_assoc, h2]; omega
        ·simp only [cellsOf, List.length_cons]
         rw [Nat.add_assoc, h3]
        ·simp only [cellsOf] at hj
         cases j with
         | zero =>
          simp only [List.getElem?_cons_zero, Option.some.injEq] at hj
          subst hj
          exact ⟨hL, .inl ⟨_, _, _, rfl, hnp.1⟩⟩
         | succ j =>
          simp only [List.getElem?_cons_succ] at hj
          rw [Nat.add_assoc] at hj
          have := h4 j ob hj
          rw [show n + (d + (j + 1)) = n + (d + 1 + j) by omega]
          exact this
        ·obtain ⟨u, l', rfl, k1, k2⟩ := hl.inv
         simp only [cellsOf]
         refine .cons ?_ (by rw [Nat.add_assoc]; exact h5 l' k2)
         cases k1 with
         | arr _ a n' c e2 sz hMM =>
          have := hM (n + d) _ (by omega) (by omega) hMM
          rw [show n + d - n = d by omega] at this
          exact .arr _ a n' c e2 sz this
       ·cases h
      ·cases h
     ·cases h
    ·cases h
   ·cases h
  | _ => simp [prjCells] at h
 | .tw e t :: b, v :: vs, d, m, p, h, hnp, hN => by
  simp only [List.all_cons, Bool.and_eq_true] at hnp
  cases v with
  | arr o =>
   simp only [prjCells] at h
   split at h
   ·rename_i ho
    subst ho
    split at h
    ·rename_i e' t' xs hL
     split at h
     ·rename_i he
      subst he
      split at h
      ·rename_i ht
       subst ht
       split at h
       ·rename_i y m' hy
        cases h
        have hy : prjCells G Lc b vs (n + (d + 1)) = some (y, m) := by rw [← Nat.add_assoc]; exact hy
        simp only [cellsOf, List.length_cons] at hN
        rw [Nat.add_assoc] at hN
        obtain ⟨k, h1, h2, h3, h4, h5⟩ := cells_back hS hM b vs (d + 1) m y hy hnp.2 (by omega)
        refine ⟨k + 1, h1.trans (by omega), ?_, ?_, fun j ob hj => ?_, fun l hl => ?_⟩
        ·simp only [cellsOf]
         rw [Nat.add_assoc, h2]; omega
        ·simp only [cellsOf, List.length_cons]
         rw [Nat.add_assoc, h3]
        ·simp only [cellsOf] at hj
         cases j with
         | zero =>
          simp only [List.getElem?_cons_zero, Option.some.injEq] at hj
          subst hj
          exact ⟨hL, .inr ⟨_, _, _, rfl⟩⟩
         | succ j =>
          simp only [List.getElem?_cons_succ] at hj
          rw [Nat.add_assoc] at hj
          have := h4 j ob hj
          rw [show n + (d + (j + 1)) = n + (d + 1 + j) by omega]
          exact this
        ·obtain ⟨u, l', rfl, k1, k2⟩ := hl.inv
         simp only [cellsOf]
         refine .cons ?_ (by rw [Nat.add_assoc]; exact h5 l' k2)
         cases k1 with
         | arr _ a n' c e2 sz hMM =>
          have := hM (n + d) _ (by omega) (by omega) hMM
          rw [show n + d - n = d by omega] at this
          exact .arr _ a n' c e2 sz this
       ·cases h
      ·cases h
     ·cases h
    ·cases h
   ·cases h
  | _ => simp [prjCells] at h
theorem backB_ok (hS : SigOk G) (hM : ∀ j x, n ≤ j → j < N → Mc j = some x → M2 (len + (j - n)) = some x) : ∀ (os : List Nat) (bt : List (List BTy)) (bxs : List (Obj G.S)) (d : Nat) (p : bxsDen G.S bt) (L0 : List (Obj G.S)), prjBoxes G Lc bt bxs (n + d) = some p → bt.length = os.length → bt.all (·.all BTy.np) = true → os.Nodup → n + (d + (backB L0 os bt p (len + d)).2.length) ≤ N →
  (∀ (i o : Nat), os[i]? = some o → ∃ te cs fz, L0[o]? = some (.box te cs fz)) →
  (backB L0 os bt p (len + d)).1.length = L0.length ∧ (∀ o, o ∉ os → (backB L0 os bt p (len + d)).1[o]? = L0[o]?) ∧
  (∀ (i o : Nat), os[i]? = some o → ∃ te cs ds te' cs0 fz0, (backB L0 os bt p (len + d)).1[o]? = some (.box te ds false) ∧ L0[o]? = some (.box te cs0 fz0) ∧ bxs[i]? = some (.box te' cs false) ∧ ∀ l, VRs w' okc Mc cs l → VRs w' okc M2 ds l) ∧
  (∀ (j : Nat) (ob : Obj G.S), (backB L0 os bt p (len + d)).2[j]? = some ob → Lc[n + (d + j)]? = some ob ∧ OwnN ob)
 | [], [], bxs, d, p, L0, _, _, _, _, _, _ => ⟨rfl, fun _ _ => rfl, fun i o h => by simp at h, fun j ob h => by simp [backB] at h⟩
 | [], b :: bt, bxs, d, p, L0, _, hl, _, _, _, _ => by simp at hl
 | o :: os, [], bxs, d, p, L0, _, hl, _, _, _, _ => by simp at hl
 | o :: os, b :: bt, [], d, p, L0, h, _, _, _, _, _ => by simp [prjBoxes] at h
 | o :: os, b :: bt, bx :: bxs, d, p, L0, h, hl, hnp, hn, hN, hbx => by
  simp only [List.all_cons, Bool.and_eq_true] at hnp
  rw [List.nodup_cons] at hn
  cases bx with
  | box te' cs fz =>
   cases fz with
   | true => simp [prjBoxes] at h
   | false =>
    simp only [prjBoxes] at h
    split at h
    ·rename_i x m hx
     split at h
     ·rename_i y hy
      cases h
      obtain ⟨te, cs0, fz0, hq⟩ := hbx 0 o rfl
      simp only [List.length_cons, Nat.add_right_cancel_iff] at hl
      have e0 : (backB L0 (o :: os) (b :: bt) (x, y) (len + d)) = ((backB (L0.set o (.box te (cellsOf (G := G) b x (len + d)).1 false)) os bt y (cellsOf (G := G) b x (len + d)).2.2).1, (cellsOf (G := G) b x (len + d)).2.1 ++ (backB (L0.set o (.box te (cellsOf (G := G) b x (len + d)).1 false)) os bt y (cellsOf (G := G) b x (len + d)).2.2).2) := by
       simp only [backB, hq]
      rw [e0] at hN
      simp only [List.length_append] at hN
      obtain ⟨k, h1, h2, h3, h4, h5⟩ := cells_back (w' := w') (okc := okc) (M2 := M2) (Mc := Mc) (len := len) (N := N) hS hM b cs d m x hx hnp.1 (by omega)
      subst h1
      rw [h2, h3] at hN
      obtain ⟨g1, g2, g3, g4⟩ := backB_ok hS hM os bt bxs (d + k) y (L0.set o (.box te (cellsOf (G := G) b x (len + d)).1 false)) hy hl hnp.2 hn.2 (by omega) (fun i q hi => by
       obtain ⟨te1, cs1, fz1, h6⟩ := hbx (i + 1) q (by simpa using hi)
       rw [List.getElem?_set_ne (by rintro rfl; exact hn.1 (List.mem_of_getElem? hi))]
       exact ⟨te1, cs1, fz1, h6⟩)
      have e1 : (backB L0 (o :: os) (b :: bt) (x, y) (len + d)) = ((backB (L0.set o (.box te (cellsOf (G := G) b x (len + d)).1 false)) os bt y (len + (d + k))).1, (cellsOf (G := G) b x (len + d)).2.1 ++ (backB (L0.set o (.box te (cellsOf (G := G) b x (len + d)).1 false)) os bt y (len + (d + k))).2) := by
       rw [e0, h2]
      rw [e1]
      have hol : o < L0.length := (List.getElem?_eq_some_iff.1 hq).1
      refine ⟨by simpa using g1, fun q hq' => ?_, fun i q hi => ?_, fun j ob hj => ?_⟩
      ·simp only [List.mem_cons, not_or] at hq'
       simp only
       rw [g2 q hq'.2, List.getElem?_set_ne (fun e => hq'.1 e.symm)]
      ·cases i with
       | zero =>
        simp only [List.getElem?_cons_zero, Option.some.injEq] at hi
        subst hi
        refine ⟨te, cs, _, te', cs0, fz0, ?_, hq, rfl, h5⟩
        simp only
        rw [g2 o hn.1, List.getElem?_set_self hol]
       | succ i =>
        simp only [List.getElem?_cons_succ] at hi
        obtain ⟨te1, cs1, ds1, te1', cs10, fz10, k1, k2, k3, k4⟩ := g3 i q hi
        rw [List.getElem?_set_ne (by rintro rfl; exact hn.1 (List.mem_of_getElem? hi))] at k2
        exact ⟨te1, cs1, ds1, te1', cs10, fz10, k1, k2, by simpa using k3, k4⟩
      ·simp only at hj
       by_cases hjk : j < (cellsOf (G := G) b x (len + d)).2.1.length
       ·rw [List.getElem?_append_left hjk] at hj
        exact h4 j ob hj
       ·rw [List.getElem?_append_right (by omega), h3] at hj
        have := g4 (j - k) ob hj
        rw [show n + (d + k + (j - k)) = n + (d + j) by omega] at this
        exact this
     ·cases h
    ·cases h
  | arr => simp [prjBoxes] at h
  | tr => simp [prjBoxes] at h
  | dead => simp [prjBoxes] at h
end
section
variable {w0 w w' : World} {Fp : Fx} {okA ok okc : Okc} {M M3 Mc : Mem} {old : List (Obj G.S)} {q : Rn G.S}
def fxOf (L : List (Obj G.S)) (M3 : Mem) (n : Nat) : Fx := ⟨fun b => ∃ (o : Nat) (ob : Obj G.S), L[o]? = some ob ∧ ob.live ∧ hasB M3 o b, fun i => if i < n then M3 i else none⟩
theorem MI.unpin {L : List (Obj G.S)} (h : MI C w0 Fp okA M ok L w) : MI C w0 ⟨Fp.p, fun _ => none⟩ okA M ok L w :=
 ⟨h.objs, h.dom, h.dis, h.own, h.old, h.flt, h.rdA, h.lt, h.okN, h.glob, h.os, h.tape, h.output, h.size, h.frame, h.gt, fun i x hi => by cases hi⟩
theorem MI.enterR {L : List (Obj G.S)} (h : MI C w0 Fp okA M3 ok L w) (n : Nat) : MI C w (fxOf L M3 n) ok M3 ok L w := by
 refine ⟨h.objs, h.dom, h.dis, h.own, fun o ob b ho hl hb => .inr ⟨o, ob, ho, hl, hb⟩, h.flt, fun _ _ h => h, h.lt, fun _ _ h => .inl h, h.glob, rfl, rfl, rfl, Nat.le_refl _, fun _ _ _ => rfl, fun g cs hg => ?_, fun i x hi => ?_⟩
 ·obtain ⟨h1, h2, e, z, h3⟩ := h.gt g cs hg
  refine ⟨Nat.lt_of_lt_of_le h1 h.size, ?_, e, z, (h.frame g h1 h2).trans h3⟩
  rintro ⟨o, ob, ho, hl, hb⟩
  rcases h.old o ob g ho hl hb with h4 | h4
  ·omega
  ·exact h2 h4
 ·simp only [fxOf] at hi
  split at hi
  ·exact hi
  ·cases hi
theorem MI.backG (hS : SigOk G) (hm : MI C w0 Fp okA M ok old w) {os : List Nat} (hri : RI w ok old M q M3) (hn : os.Nodup) (hun : allUnf q.L os.length = true)
    (hpin : ∀ j o, os[j]? = some o → Rn.find q.map o = some j ∧ ∃ b te, M o = some (.box b te) ∧ M3 j = some (.box b te)) (hbox : ∀ o ∈ os, ∃ te cs fz, old[o]? = some (.box te cs fz))
    {Lc : List (Obj G.S)} (hc : MI C w (fxOf q.L M3 os.length) ok Mc okc Lc w') {bt : List (List BTy)} (hbl : bt.length = os.length) (hbn : bt.all (·.all BTy.np) = true) {b : bxsDen G.S bt} (hp : prjBoxes G Lc bt Lc bt.length = some b)
    (ex : List (Obj G.S)) (hex : ∀ (j : Nat) (ob : Obj G.S), ex[j]? = some ob → Lc[os.length + ((backB (killA old (q.map.map (·.1))) os bt b old.length).2.length + j)]? = some ob ∧ (∀ off, ¬ ob.rd off) ∧
      ∀ (i o : Nat) (M4 : Mem), M4 o = Mc i → (∀ bb, Mc.ft i bb → M4.ft o bb) → OR w' okc Mc i ob → OR w' okc M4 o ob) :
    ∃ M2, MI C w0 Fp okA M2 okc ((backB (killA old (q.map.map (·.1))) os bt b old.length).1 ++ ((backB (killA old (q.map.map (·.1))) os bt b old.length).2 ++ ex)) w' ∧ Ex M ok w M2 okc w' ∧
      ∀ j x, os.length ≤ j → j < os.length + ((backB (killA old (q.map.map (·.1))) os bt b old.length).2.length + ex.length) → Mc j = some x → M2 (old.length + (j - os.length)) = some x := by
  obtain ⟨nz, hnz⟩ : ∃ nz, nz = (backB (killA old (q.map.map (·.1))) os bt b old.length).2.length + ex.length := ⟨_, rfl⟩
  let M2 : Mem := ⟨fun o => if o < old.length then M o else if o < old.length + nz then Mc (os.length + (o - old.length)) else none, fun o bb => if o < old.length then o ∉ os ∧ M.ft o bb else Mc.ft (os.length + (o - old.length)) bb⟩
  obtain ⟨kl, kb, kk⟩ := killA_ok (q.map.map (·.1)) old
  have hMc : ∀ j x, os.length ≤ j → j < os.length + nz → Mc j = some x → M2 (old.length + (j - os.length)) = some x := by
    intro j x hj hj2 hx
    simp only [M2]
    rw [if_neg (by omega), if_pos (by omega), show os.length + (old.length + (j - os.length) - old.length) = j by omega]
    exact hx
  rw [hbl] at hp
  obtain ⟨b1, b2, b3, b4⟩ := backB_ok (w' := w') (okc := okc) (M2 := M2) (Mc := Mc) (n := os.length) (len := old.length) (Lc := Lc) hS hMc os bt Lc 0 b (killA old (q.map.map (·.1))) (by simpa using hp) hbl hbn hn (by simp only [Nat.add_zero, Nat.zero_add]; rw [hnz]; omega) (fun i o hi => by
    obtain ⟨te, cs, fz, h1⟩ := hbox o (List.mem_of_getElem? hi)
    exact ⟨te, cs, fz, kb o te cs fz h1⟩)
  simp only [Nat.add_zero, Nat.zero_add] at b1 b2 b3 b4
  rw [← hnz]
  generalize hz : backB (killA old (q.map.map (·.1))) os bt b old.length = z at b1 b2 b3 b4 hnz hex
  rw [kl] at b1
  -- where things come from
  have split : ∀ (o : Nat) (ob : Obj G.S), (z.1 ++ (z.2 ++ ex))[o]? = some ob → ob.live → (o < old.length ∧ o ∉ os ∧ old[o]? = some ob ∧ (o ∈ q.map.map (·.1) → ∃ te cs fz, ob = .box te cs fz)) ∨
      (∃ i te ds cs, os[i]? = some o ∧ o < old.length ∧ ob = .box te ds false ∧ Lc[i]? = some (.box te cs false) ∧ (∀ l, VRs w' okc Mc cs l → VRs w' okc M2 ds l) ∧ ∃ b, M o = some (.box b te) ∧ Mc i = some (.box b te)) ∨
      (old.length ≤ o ∧ o < old.length + nz ∧ Lc[os.length + (o - old.length)]? = some ob ∧ ((∀ off, ¬ ob.rd off) ∧ ∀ (i o : Nat) (M4 : Mem), M4 o = Mc i → (∀ bb, Mc.ft i bb → M4.ft o bb) → OR w' okc Mc i ob → OR w' okc M4 o ob)) := by
    intro o ob ho hl
    by_cases hlt : o < old.length
    · rw [List.getElem?_append_left (by omega)] at ho
      by_cases hos : o ∈ os
      · obtain ⟨i, hi⟩ := List.mem_iff_getElem?.1 hos
        obtain ⟨te, cs, ds, te', cs0, fz0, g1, g2, g3, g4⟩ := b3 i o hi
        rw [g1] at ho
        cases ho
        obtain ⟨_, b, te2, p1, p2⟩ := hpin i o hi
        have hil : i < os.length := (List.getElem?_eq_some_iff.1 hi).1
        have p3 : Mc i = some (.box b te2) := hc.pin i _ (by simp only [fxOf]; rw [if_pos hil]; exact p2)
        obtain ⟨_, _, q1, _⟩ := hc.objs i _ g3
        rw [p3] at q1
        cases q1
        obtain ⟨q2, _⟩ := kk o _ g2 trivial
        obtain ⟨_, _, q3, _⟩ := hm.objs o _ q2
        rw [p1] at q3
        cases q3
        exact .inr (.inl ⟨i, _, ds, cs, hi, hlt, rfl, g3, g4, b, p1, p3⟩)
      · rw [b2 o hos] at ho
        obtain ⟨g1, g2⟩ := kk o ob ho hl
        exact .inl ⟨hlt, hos, g1, g2⟩
    · rw [List.getElem?_append_right (by omega), b1] at ho
      have hl2 := (List.getElem?_eq_some_iff.1 ho).1
      rw [List.length_append] at hl2
      by_cases hz2 : o - old.length < z.2.length
      · rw [List.getElem?_append_left hz2] at ho
        obtain ⟨g1, g2⟩ := b4 _ ob ho
        exact .inr (.inr ⟨by omega, by omega, g1, g2.rd, fun i o M4 e1 e2 e3 => g2.or hS e1 e2 e3⟩)
      · rw [List.getElem?_append_right (by omega)] at ho
        obtain ⟨g1, g2, g3⟩ := hex _ ob ho
        exact .inr (.inr ⟨by omega, by omega, by rw [show os.length + (o - old.length) = os.length + (z.2.length + (o - old.length - z.2.length)) by omega]; exact g1, g2, g3⟩)
  have hbk : ∀ o, o < old.length → blk M2 o = blk M o := fun o ho => by simp only [blk, M2]; rw [if_pos ho]
  have hbn2 : ∀ o, old.length ≤ o → o < old.length + nz → M2 o = Mc (os.length + (o - old.length)) := fun o ho ho2 => by simp only [M2]; rw [if_neg (by omega), if_pos (by omega)]
  have hbk' : ∀ o bb, o < old.length → o ∉ os → (hasB M2 o bb ↔ hasB M o bb) := fun o bb ho hos => by
    unfold hasB
    rw [hbk o ho]
    simp only [M2, ho, hos, if_true, true_and, not_false_eq_true]
  have hbs : ∀ o bb, o < old.length → o ∈ os → hasB M2 o bb → blk M2 o = some bb := fun o bb hlt hos hb => by
    rcases hb with hb | hb
    · exact hb
    · simp only [M2, hlt, if_true] at hb
      exact (hb.1 hos).elim
  have hftn : ∀ o bb, old.length ≤ o → (M2.ft o bb ↔ Mc.ft (os.length + (o - old.length)) bb) := fun o bb ho => by
    simp only [M2]; rw [if_neg (by omega)]
  have hbnew : ∀ o bb, old.length ≤ o → o < old.length + nz → hasB M2 o bb → hasB Mc (os.length + (o - old.length)) bb := fun o bb ho ho2 hb => by
    rcases hb with hb | hb
    · refine .inl ?_
      simp only [blk, hbn2 o ho ho2] at hb
      exact hb
    · exact .inr ((hftn o bb ho).1 hb)
  -- what was not handed on is not touched
  have apart : ∀ (o : Nat) (ob : Obj G.S) (bb : Nat), old[o]? = some ob → ob.live → o ∉ os → (o ∈ q.map.map (·.1) → ∃ te cs fz, ob = .box te cs fz) → hasB M o bb → ¬ (fxOf q.L M3 os.length).p bb := by
    rintro o ob bb ho hl hos hbx hb ⟨o', ob', h1, h2, h3⟩
    obtain ⟨o2, ob2, f1, f2, f3, f4, f5⟩ := hri.src o' ob' bb h1 h2 h3
    have e := hm.dis o o2 ob ob2 bb ho f2 hl f3 hb f4
    subst e
    rw [ho] at f2; cases f2
    obtain ⟨te, cs, fz, rfl⟩ := hbx (find_key f1)
    cases f5 with
    | box _ _ ds _ _ =>
      rcases allUnf_ok hun o' _ h1 with ⟨g1, _⟩ | ⟨_, ⟨_, _, _, g2⟩ | ⟨_, _, _, g2⟩⟩
      · have ho' : os[o']? = some os[o'] := List.getElem?_eq_getElem g1
        obtain ⟨k1, b2', te2, k2, k3⟩ := hpin o' _ ho'
        obtain ⟨te3, cs3, fz3, k4⟩ := hbox _ (List.mem_of_getElem? ho')
        have k5 : hasB M os[o'] bb := by
          obtain ⟨_, x, e1, e2, e3⟩ := hri.fnd _ _ k1
          rcases h3 with h3 | h3
          · refine .inl ?_
            simp only [blk, e2, Option.bind_some] at h3
            simp only [blk, e1, Option.bind_some]; exact h3
          · exact .inr ((e3 bb).1 h3)
        have := hm.dis o _ _ _ bb ho k4 trivial trivial hb k5
        exact hos (this ▸ List.getElem_mem g1)
      · cases g2
      · cases g2
  have fxlt : ∀ bb, (fxOf q.L M3 os.length).p bb → bb < w.heap.size ∧ (w0.heap.size ≤ bb ∨ Fp bb) ∧ ∀ off, ¬ ok bb off := by
    rintro bb ⟨o', ob', h1, h2, h3⟩
    obtain ⟨o2, ob2, f1, f2, f3, f4, f5⟩ := hri.src o' ob' bb h1 h2 h3
    refine ⟨hm.blk_lt f2 f3 f4, hm.old o2 ob2 bb f2 f3 f4, fun off hk => ?_⟩
    have := hm.own o2 ob2 bb off f2 f3 f4 hk
    rcases allUnf_ok hun o' _ h1 with ⟨_, te, cs, rfl⟩ | ⟨_, ⟨e, t, xs, rfl⟩ | ⟨e, t, xs, rfl⟩⟩
    · cases f5; simp [Obj.rd] at this
    · cases f5; simp [Obj.rd] at this
    · cases f5; simp [Obj.rd] at this
  have he : Ex M ok w M2 okc w' := by
    refine ⟨fun o x ho => ?_, fun bb off u hk hcell => ⟨hc.rdA bb off hk, ?_⟩⟩
    · simp only [M2]; rw [if_pos (hm.dom o x ho)]; exact ho
    · rw [cell_of_heap (hc.frame bb (hm.lt bb off hk) (fun hf => (fxlt bb hf).2.2 off hk))]
      exact hcell
  refine ⟨M2, ⟨fun o ob ho => ?_, fun o x ho => ?_, fun o1 o2 ob1 ob2 bb h1 h2 l1 l2 c1 c2 => ?_, fun o ob bb off ho hl hb hk => ?_, fun o ob bb ho hl hb => ?_, fun o ob bb ho hl hb => ?_, fun bb off hk => hc.rdA bb off (hm.rdA bb off hk), hc.lt, fun bb off hk => ?_, hm.glob.mono he.rd,
    hc.os.trans hm.os, hc.tape.trans hm.tape, hc.output.trans hm.output, Nat.le_trans hm.size hc.size, fun bb hb hf => ?_, hm.gt, fun i x hi => he.mem _ _ (hm.pin i x hi)⟩, he, hMc⟩
  · by_cases hl : ob.live
    · rcases split o ob ho hl with ⟨g1, g2, g3, g4⟩ | ⟨i, te, ds, cs, g1, g2, rfl, g3, g4, bb, g5, g6⟩ | ⟨g1, g0, g2, g3⟩
      · exact (hm.objs o ob g3).mono he (fun bb hb => by simp only [M2]; rw [if_pos g1]; exact ⟨g2, hb⟩) fun bb hb => hc.frame bb (hm.blk_lt g3 hl hb) (apart o ob bb g3 hl g2 g4 hb)
      · obtain ⟨b', l, k1, k2, k3⟩ := hc.objs i _ g3
        rw [g6] at k1; cases k1
        exact ⟨bb, l, by simp only [M2]; rw [if_pos g2]; exact g5, k2, g4 l k3⟩
      · exact g3.2 _ o M2 (hbn2 o g1 g0) (fun bb hb => (hftn o bb g1).2 hb) (hc.objs _ _ g2)
    · cases ob with
      | dead => trivial
      | _ => exact (hl trivial).elim
  · simp only [M2] at ho
    split at ho
    · rw [List.length_append]; omega
    · split at ho
      · rw [List.length_append, List.length_append]; omega
      · cases ho
  · have loc : ∀ (o : Nat) (ob : Obj G.S), (z.1 ++ (z.2 ++ ex))[o]? = some ob → ob.live → hasB M2 o bb → (o < old.length ∧ (∃ ob0, old[o]? = some ob0 ∧ ob0.live) ∧ hasB M o bb ∧ ¬ (fxOf q.L M3 os.length).p bb) ∨
        (∃ (i : Nat) (obc : Obj G.S), Lc[i]? = some obc ∧ obc.live ∧ hasB Mc i bb ∧ ((i < os.length ∧ os[i]? = some o) ∨ (os.length ≤ i ∧ old.length ≤ o ∧ i = os.length + (o - old.length)))) := by
      intro o ob ho hl hb
      rcases split o ob ho hl with ⟨g1, g2, g3, g4⟩ | ⟨i, te, ds, cs, g1, g2, rfl, g3, g4, b', g5, g6⟩ | ⟨g1, g0, g2, g3⟩
      · rw [hbk' o bb g1 g2] at hb
        exact .inl ⟨g1, ⟨ob, g3, hl⟩, hb, apart o ob bb g3 hl g2 g4 hb⟩
      · have hb := hbs o bb g2 (List.mem_of_getElem? g1) hb
        rw [hbk o g2] at hb
        refine .inr ⟨i, _, g3, trivial, .inl ?_, .inl ⟨(List.getElem?_eq_some_iff.1 g1).1, g1⟩⟩
        simp only [blk, g5, MB.blk, Option.bind_some] at hb
        simp only [blk, g6, MB.blk, Option.bind_some]
        exact hb
      · exact .inr ⟨_, _, g2, hl, hbnew o bb g1 g0 hb, .inr ⟨by omega, g1, rfl⟩⟩
    have cblk : ∀ (i : Nat) (obc : Obj G.S), Lc[i]? = some obc → obc.live → hasB Mc i bb → w.heap.size ≤ bb ∨ (fxOf q.L M3 os.length).p bb := fun i obc h1 h2 h3 => hc.old i obc bb h1 h2 h3
    rcases loc o1 ob1 h1 l1 c1 with ⟨a1, ⟨q1, a2, a3⟩, a4, a5⟩ | ⟨i1, p1, a1, a2, a3, a4⟩ <;> rcases loc o2 ob2 h2 l2 c2 with ⟨e1, ⟨q2, e2, e3⟩, e4, e5⟩ | ⟨i2, p2, e1, e2, e3, e4⟩
    · exact hm.dis o1 o2 q1 q2 bb a2 e2 a3 e3 a4 e4
    · rcases cblk i2 p2 e1 e2 e3 with h | h
      · have := hm.blk_lt a2 a3 a4; omega
      · exact (a5 h).elim
    · rcases cblk i1 p1 a1 a2 a3 with h | h
      · have := hm.blk_lt e2 e3 e4; omega
      · exact (e5 h).elim
    · have e := hc.dis i1 i2 p1 p2 bb a1 e1 a2 e2 a3 e3
      subst e
      rcases a4 with ⟨k1, k2⟩ | ⟨k1, k2, k3⟩ <;> rcases e4 with ⟨k4, k5⟩ | ⟨k4, k5, k6⟩
      · rw [k2] at k5; exact Option.some.inj k5
      · omega
      · omega
      · omega
  · rcases split o ob ho hl with ⟨g1, g2, g3, g4⟩ | ⟨i, te, ds, cs, g1, g2, rfl, g3, g4, b', g5, g6⟩ | ⟨g1, g0, g2, g3⟩
    · rw [hbk' o bb g1 g2] at hb
      rcases hc.okN bb off hk with h1 | h1 | h1
      · exact hm.own o ob bb off g3 hl hb h1
      · have := hm.blk_lt g3 hl hb; omega
      · exact (apart o ob bb g3 hl g2 g4 hb h1).elim
    · have hb := hbs o bb g2 (List.mem_of_getElem? g1) hb
      rw [hbk o g2] at hb
      have hb2 : blk Mc i = some bb := by
        simp only [blk, g5, MB.blk, Option.bind_some] at hb
        simp only [blk, g6, MB.blk, Option.bind_some]
        exact hb
      have := hc.own i _ bb off g3 trivial (.inl hb2) hk
      simp [Obj.rd] at this
    · exact hc.own _ _ bb off g2 hl (hbnew o bb g1 g0 hb) hk
  · rcases split o ob ho hl with ⟨g1, g2, g3, g4⟩ | ⟨i, te, ds, cs, g1, g2, rfl, g3, g4, b', g5, g6⟩ | ⟨g1, g0, g2, g3⟩
    · rw [hbk' o bb g1 g2] at hb
      exact hm.old o ob bb g3 hl hb
    · have hb := hbs o bb g2 (List.mem_of_getElem? g1) hb
      rw [hbk o g2] at hb
      obtain ⟨te3, cs3, fz3, k4⟩ := hbox o (List.mem_of_getElem? g1)
      exact hm.old o _ bb k4 trivial (.inl hb)
    · rcases hc.old _ _ bb g2 hl (hbnew o bb g1 g0 hb) with h1 | h1
      · exact .inl (Nat.le_trans hm.size h1)
      · exact (fxlt bb h1).2.1
  · rcases split o ob ho hl with ⟨g1, g2, g3, g4⟩ | ⟨i, te, ds, cs, g1, g2, rfl, g3, g4, b', g5, g6⟩ | ⟨g1, g0, g2, g3⟩
    · simp only [M2, g1, if_true] at hb
      exact Nat.lt_of_lt_of_le (hm.flt o ob bb g3 hl hb.2) hc.size
    · simp only [M2, g2, if_true] at hb
      exact (hb.1 (List.mem_of_getElem? g1)).elim
    · exact hc.flt _ _ bb g2 hl ((hftn o bb g1).1 hb)
  · rcases hc.okN bb off hk with h1 | h1 | h1
    · exact hm.okN bb off h1
    · exact .inr (.inl (Nat.le_trans hm.size h1))
    · exact .inr (fxlt bb h1).2.1
  · exact (hc.frame bb (Nat.lt_of_lt_of_le hb hm.size) (fun hx => by
      rcases (fxlt bb hx).2.1 with h1 | h1
      · omega
      · exact hf h1)).trans (hm.frame bb hb hf)
theorem MI.back (hS : SigOk G) (hm : MI C w0 Fp okA M ok old w) {os : List Nat} (hri : RI w ok old M q M3) (hn : os.Nodup) (hun : allUnf q.L os.length = true)
  (hpin : ∀ j o, os[j]? = some o → Rn.find q.map o = some j ∧ ∃ b te, M o = some (.box b te) ∧ M3 j = some (.box b te)) (hbox : ∀ o ∈ os, ∃ te cs fz, old[o]? = some (.box te cs fz))
  {Lc : List (Obj G.S)} (hc : MI C w (fxOf q.L M3 os.length) ok Mc okc Lc w') {bt : List (List BTy)} (hbl : bt.length = os.length) (hbn : bt.all (·.all BTy.np) = true) {b : bxsDen G.S bt} (hp : prjBoxes G Lc bt Lc bt.length = some b) :
  ∃ M2, MI C w0 Fp okA M2 okc ((backB (killA old (q.map.map (·.1))) os bt b old.length).1 ++ (backB (killA old (q.map.map (·.1))) os bt b old.length).2) w' ∧ Ex M ok w M2 okc w' := by
 obtain ⟨M2, h1, h2, _⟩ := MI.backG hS hm hri hn hun hpin hbox hc hbl hbn hp [] (fun j ob h => by simp at h)
 rw [List.append_nil] at h1
 exact ⟨M2, h1, h2⟩
end
theorem callFunc_run {P : Program} {g : FuncId} {fn : Func} (hf : P.funcs[g]? = some fn) (hn : (fn.name == "runtime.NumGoroutine") = false) {body : Code} (hb : fn.body = some body) (args : Array Value) (w : World) : (callFunc g args).run P w = .ok (.enter g args) w := by
 have hn' : ¬ fn.name = "runtime.NumGoroutine" := by simpa using hn
 simp [callFunc, hf, hn', hb]
theorem calls_of_phiR (hΦ : PhiOK C Φ) {g : FuncId} {fn : Func} {body : Code} (hf : C.P.funcs[g]? = some fn) (hb : fn.body = some body) {w0 : World} {Fp : Fx} {okA : Okc} {M : Mem} {ok : Okc} {L : List (Obj G.S)} {w : World}
  (hm : MI C w0 Fp okA M ok L w) {vs : List (V G.S)} {vals : List Value} (hv : VRs w ok M vs vals) (hn : vs.length ≤ fn.ntmps) {ret : Ret G.S} {n : Nat}
  (h : Φ g [.code body] ⟨vs ++ List.replicate (fn.ntmps - vs.length) .un, L, n⟩ = some ret) :
  Calls C.P g vals.toArray w (fun e w' => ∃ v, e = .returned v ∧ PostM C w (fxOf L M n) ok ret v w') := by
 intro cs
 let b : Frame := { (default : Frame) with fn := g, kind := .normal }
 have henter : Frame.enter C.P g vals.toArray .normal = b.at { tmps := vals.toArray ++ Array.replicate (fn.ntmps - vals.toArray.size) undef, defers := [] } [.code body] := by
  simp [Frame.enter, Frame.at, hf, hb, b]
 obtain ⟨v, w', fr, hR, hst, hfn, hlv⟩ := hΦ g _ _ ret h w (fxOf L M n) ok M ok b cs _ w (fun i x h => by
  by_cases hi : i < n
  ·exact hi
  ·simp [fxOf, hi] at h) rfl rfl rfl (hm.enterR n) (enter_tr hv hn)
 rw [henter]
 exact ⟨.returned v, w', fr, ⟨v, rfl, hR⟩, hst, hfn, hlv⟩
theorem killA_keep : ∀ (ids : List Nat) (L : List (Obj G.S)) {b : Nat}, b ∉ ids → (killA L ids)[b]? = L[b]?
 | [], L, b, _ => rfl
 | a :: ids, L, b, h => by
  simp only [List.mem_cons, not_or] at h
  simp only [killA]
  split
  ·rw [killA_keep ids _ h.2, List.getElem?_set_ne (fun e => h.1 e.symm)]
  ·rw [killA_keep ids _ h.2, List.getElem?_set_ne (fun e => h.1 e.symm)]
  ·exact killA_keep ids L h.2
theorem backB_keep : ∀ (os : List Nat) (bt : List (List BTy)) (p : bxsDen G.S bt) (n : Nat) (L : List (Obj G.S)) {b : Nat}, b ∉ os → (backB L os bt p n).1[b]? = L[b]? ∧ (backB L os bt p n).1.length = L.length
 | [], bt, p, n, L, b, _ => by cases bt <;> exact ⟨rfl, rfl⟩
 | o :: os, [], p, n, L, b, _ => ⟨rfl, rfl⟩
 | o :: os, c :: bt, p, n, L, b, h => by
  simp only [List.mem_cons, not_or] at h
  simp only [backB]
  obtain ⟨h1, h2⟩ := backB_keep os bt p.2 (cellsOf c p.1 n).2.2 (L.set o (.box (match L[o]? with | some (.box te _ _) => te | _ => 0) (cellsOf c p.1 n).1 false)) h.2
  refine ⟨h1.trans (List.getElem?_set_ne (fun e => h.1 e.symm)), h2.trans (by simp)⟩
theorem callR_ok (hS : SigOk G) (hΦ : PhiOK C Φ) {g : FuncId} {args : List (V G.S)} {st : St G.S} {k : K G} (h : (callRT C g args st k).run G Φ f = some r) :
  ∃ v' st' rd wr, (st'.tm = st.tm ∧ st'.n0 = st.n0 ∧ (wr = [] → st'.L = st.L) ∧ ∀ b, b ∉ wr → b < st.L.length → st'.L[b]? = st.L[b]?) ∧ (∀ (w0 : World) (Fp : Fx) (okA : Okc) (M : Mem) (ok : Okc) (w : World) (vals : List Value), MI C w0 Fp okA M ok st.L w → VRs w ok M args vals →
   (callFunc g vals.toArray).run C.P w = .ok (.enter g vals.toArray) w ∧ Calls C.P g vals.toArray w (fun e w' => ∃ v M' ok', e = .returned v ∧ MI C w0 Fp okA M' ok' st'.L w' ∧ Ex M ok w M' ok' w' ∧ VR w' ok' M' v' v)) ∧
   (k v' st' rd wr).run G Φ f = some r := by
 unfold callRT at h
 split at h
 ·exact run_fail h
 ·rename_i fn hf
  split at h
  ·rename_i rt body hrt hb
   split at h
   ·rename_i hc
    obtain ⟨hname, hnp⟩ := hc
    simp only at h
    split at h
    ·exact run_fail h
    ·rename_i q hcar
     split at h
     ·exact run_fail h
     ·rename_i vs0 q' hra
      split at h
      ·rename_i vs bt hno hbt
       split at h
       ·rename_i hcond
        obtain ⟨hnd, hun, hbn, hlen⟩ := hcond
        rw [forceO_eq, forceL_eq] at h
        obtain ⟨ret, p, b, hphi, hprj, h⟩ := run_callR h
        simp only [forceO_eq] at h
        obtain ⟨hp, hbx⟩ := prjRB_ok hprj
        refine ⟨_, _, _, _, ⟨?_, ?_, (fun e => by cases e), fun c hc hlt => ?_⟩, fun w0 Fp okA M ok w vals hm hv => ⟨callFunc_run hf hname hb _ _, ?_⟩, h⟩
        ·rfl
        ·rfl
        ·simp only [List.mem_cons, List.mem_append, not_or] at hc
         obtain ⟨k1, k2⟩ := backB_keep (dedup (catL (refIds st.L 20) args)) bt b (freeze st.L (reachs st.L (args.filter fun v => !byRef v))).length (killA (freeze st.L (reachs st.L (args.filter fun v => !byRef v))) (q'.map.map (·.1))) hc.2.1.2
         have hl2 : (killA (freeze st.L (reachs st.L (args.filter fun v => !byRef v))) (q'.map.map (·.1))).length = st.L.length := by rw [(killA_ok _ _).1, freeze_length]
         show ((backB (killA (freeze st.L (reachs st.L (args.filter fun v => !byRef v))) (q'.map.map (·.1))) (dedup (catL (refIds st.L 20) args)) bt b (freeze st.L (reachs st.L (args.filter fun v => !byRef v))).length).1 ++ _)[c]? = _
         rw [List.getElem?_append_left (by rw [k2, hl2]; exact hlt), k1, killA_keep _ _ hc.2.1.1, freeze_keep _ hc.2.2]
        obtain ⟨hm1, he1⟩ := hm.freeze hS (reachs st.L (args.filter fun v => !byRef v))
        obtain ⟨M2, hri, hpin⟩ := carry_ok hS hm1 hcar (nodupB_ok hnd)
        have hbox := fun o ho => fillB_box (show fillB true _ _ 0 _ = some q from hcar) o ho
        obtain ⟨M3, ⟨hri3, hle, _, hfm⟩, hvs⟩ := rargs_ok hS hm1 he1 args q vs0 q' M2 hra hri (snaps_reach hS hm args byRef)
        have hvs1 := normR_ok hS hno (hvs vals hv)
        have hmR : MI C w0 ⟨Fp.p, fun _ => none⟩ okA M3 _ q'.L w := hri3.mi hS hm1.unpin (fun i x hi => by cases hi)
        refine (calls_of_phiR hΦ hf hb hmR hvs1 hlen hphi).mono ?_
        rintro e w' ⟨v, rfl, Mc, okc, hc, hvr⟩
        obtain ⟨M4, h1, h2⟩ := MI.back hS hm1 (os := dedup (catL (refIds st.L 20) args)) hri3 (nodupB_ok hnd) hun (fun j o ho => by
         obtain ⟨a1, b1, te1, a2, a3⟩ := hpin j o ho
         exact ⟨hfm _ _ a1, b1, te1, a2, hle.hd _ _ a3⟩) hbox hc (boxTys_len hbt) hbn hbx
        exact ⟨v, M4, okc, rfl, h1, he1.trans h2, (prjR_ok hS hp hvr).anyM hS M4 21 (injR_clo rt p hnp)⟩
       ·exact run_fail h
      ·exact run_fail h
   ·exact run_fail h
  ·exact run_fail h
end
end Go.Dv

namespace Go.Dv
open Go
section
variable {G : Sig} {C : Cfg G} {Φ : FuncId → List Item → St G.S → Option (Ret G.S)} {f : FuncId} {r : Ret G.S} {w0 : World} {Fp : Fx} {okA : Okc} {M : Mem} {ok : Okc} {L : List (Obj G.S)} {w w' : World}
theorem MI.chg (h : MI C w0 Fp okA M ok L w) {g : Option Nat} (hos : w'.os = w.os) (htape : w'.tape = w.tape) (hout : w'.output = w.output) (hsz : w.heap.size ≤ w'.heap.size)
    (hg : ∀ k, k < w.heap.size → g ≠ some k → w'.heap[k]? = w.heap[k]?) (hl : ∀ (i : Nat) x b, L[i]? = some x → x.live → hasB M i b → g ≠ some b) (hok : ∀ b off, ok b off → g ≠ some b) (hold : ∀ b, g = some b → w0.heap.size ≤ b ∨ Fp b) :
    MI C w0 Fp okA M ok L w' ∧ Ex M ok w M ok w' := by
  have he : Ex M ok w M ok w' := ⟨fun _ _ h => h, fun b off u hb hc => ⟨hb, by rw [cell_of_heap (hg b (h.lt b off hb) (hok b off hb))]; exact hc⟩⟩
  refine ⟨⟨?_, h.dom, h.dis, h.own, h.old, fun o ob b ho hl hb => Nat.lt_of_lt_of_le (h.flt o ob b ho hl hb) hsz, h.rdA, fun b off hb => Nat.lt_of_lt_of_le (h.lt b off hb) hsz, h.okN, h.glob.mono he.rd, hos.trans h.os, htape.trans h.tape, hout.trans h.output, Nat.le_trans h.size hsz, fun b hb hf => ?_, h.gt, h.pin⟩, he⟩
  · intro i x hi
    by_cases hlv : x.live
    · exact (h.objs i _ hi).mono he (fun _ h => h) fun k hk => hg k (h.blk_lt hi hlv hk) (hl i _ k hi hlv hk)
    · cases x with
      | dead => trivial
      | _ => exact (hlv trivial).elim
  · rw [hg b (Nat.lt_of_lt_of_le hb h.size) (fun e => by
      rcases hold b e with h1 | h1
      · omega
      · exact hf h1)]
    exact h.frame b hb hf
theorem us_u8 {xs : List Int} {us : List Value} (hl : us.length = xs.length) (h : ∀ (i : Nat) (x : Int) (u : Value), xs[i]? = some x → us[i]? = some u → u = .int .u8 x) : us = xs.map (Value.int .u8) := by
 apply List.ext_getElem?
 intro i
 rw [List.getElem?_map]
 by_cases hi : i < xs.length
 ·rw [List.getElem?_eq_getElem hi, List.getElem?_eq_getElem (by omega)]
  rw [h i xs[i] (us[i]'(by omega)) (List.getElem?_eq_getElem hi) (List.getElem?_eq_getElem (by omega))]
  rfl
 ·rw [List.getElem?_eq_none (by omega), List.getElem?_eq_none (by omega)]; rfl
theorem u8_el {w : World} {ok : Okc} {M : Mem} (xs : List Int) : ∀ (i : Nat) (x : Ty.den G.S (.int .u8)) (j : Nat) (y : V G.S) (u : Value), (show List (Ty.den G.S (.int .u8)) from xs)[i]? = some x → (Ty.cells G (.int .u8) x)[j]? = some y → (xs.map (Value.int .u8))[i * Ty.sz G (.int .u8) + j]? = some u → VR w ok M y u := by
 intro i x j y u hi hj hu
 have hj0 : j = 0 := by
  have := (List.getElem?_eq_some_iff.1 hj).1
  simp [Ty.cells] at this; exact this
 subst hj0
 simp only [Ty.cells, List.getElem?_cons_zero, Option.some.injEq] at hj
 subst hj
 simp only [Ty.sz, Nat.mul_one, Nat.add_zero] at hu
 rw [List.getElem?_map] at hu
 have hi : xs[i]? = some x := hi
 rw [hi] at hu
 have hu : Value.int .u8 x = u := Option.some.inj hu
 subst hu
 exact .int _ _
theorem strU_ints (s : List UInt8) : strU s = (s.map fun b => (b.toNat : Int)).map (Value.int .u8) := by
 unfold strU; rw [List.map_map]; rfl
theorem bytesOf_ok {xs : List Int} {l : List UInt8} (h : bytesOf xs = some l) : xs.map (Value.int .u8) = strU l := by
 unfold bytesOf at h
 split at h
 ·rename_i ha
  cases h
  unfold strU
  rw [List.map_map]
  refine List.map_congr_left fun n hn => ?_
  have := List.all_eq_true.1 ha n hn
  simp only [Bool.and_eq_true_iff, decide_eq_true_eq] at this
  simp only [Function.comp]
  congr 1
  simp; omega
 ·cases h
theorem two_inv {a b : V G.S} {l : List Value} (h : VRs w ok M [a, b] l) : ∃ x y, l = [x, y] ∧ VR w ok M a x ∧ VR w ok M b y := by
 obtain ⟨x, l1, rfl, h1, h2⟩ := h.inv
 obtain ⟨y, l2, rfl, h3, h4⟩ := h2.inv
 have : l2 = [] := by have := h4.1; exact List.eq_nil_of_length_eq_zero (by simpa using this.symm)
 subst this
 exact ⟨x, y, rfl, h1, h3⟩
theorem two_vrs {a b : V G.S} {x y : Value} (h1 : VR w ok M a x) (h2 : VR w ok M b y) : VRs w ok M [a, b] [x, y] := by
 refine ⟨rfl, fun j u v hj hv => ?_⟩
 match j with
 | 0 => cases hj; cases hv; exact h1
 | 1 => cases hj; cases hv; exact h2
 | j + 2 => cases hj
theorem addr_cases {o b : Nat} {T : TypeId} {a : V G.S} {px : Value} (hM : M o = some (.box b T)) (ha : addrOk a o = true) (h1 : VR w ok M a px) : px = .pointer none ∨ px = .pointer (some ⟨b, 0, none⟩) := by
 cases a with
 | nilp => cases h1; exact .inl rfl
 | ref o' off =>
  unfold addrOk at ha
  simp only [Bool.and_eq_true_iff, beq_iff_eq] at ha
  obtain ⟨rfl, rfl⟩ := ha
  cases h1 with
  | ref _ _ b' te' h' => rw [hM] at h'; cases h'; exact .inr rfl
 | _ => simp [addrOk] at ha
theorem bld_arr (hS : SigOk G) (hm : MI C w0 Fp okA M ok L w) {o o2 : Nat} {T e : TypeId} {a : V G.S} {xs : List Int} (hL : L[o]? = some (.box T [a, .arr o2] false)) (hL2 : L[o2]? = some (.arr e (.int .u8) xs false)) (ha : addrOk a o = true) :
  ∃ b p v, M o = some (.box b T) ∧ w.heap[b]? = some (.cells #[p, v] T (0, 0)) ∧ BldAt T e w b v (xs.map (Value.int .u8)) ∧ v.ownBlock = blk M o2 := by
 have hoo : o ≠ o2 := by rintro rfl; rw [hL] at hL2; cases hL2
 obtain ⟨b, l, hM, hh, hv0⟩ := hm.objs o _ hL
 obtain ⟨px, pv, rfl, hv1, hv2⟩ := two_inv hv0
 obtain ⟨rds, hM2, hown⟩ := rd_arr hS hm hL2 hv2
 have hown : w.ownsRow 0 e 1 pv xs.length rds.us := hown
 have hul : rds.us.length = xs.length := by have := hown.1; simp only [Nat.mul_one] at this; exact this
 have hus : rds.us = xs.map (Value.int .u8) := us_u8 hul fun i x u hi hu => by
  have := rds.el i x 0 (.int .u8 x) u hi rfl (by simp only [Ty.sz, Nat.mul_one, Nat.add_zero]; exact hu)
  cases this; rfl
 rw [hus] at hown
 have hobk : pv.ownBlock = blk M o2 := by
  rw [rds.val]
  simp only [blk, hM2, MB.blk, Option.bind_some]
  cases rds.a <;> rfl
 refine ⟨b, px, pv, hM, hh, ⟨?_, by rw [List.length_map]; exact hown, fun e1 => ?_⟩, hobk⟩
 ·rcases addr_cases hM ha hv1 with rfl | rfl
  ·exact .inl hh
  ·exact .inr hh
 ·rw [hobk] at e1
  exact hoo (hm.dis o o2 _ _ b hL hL2 trivial trivial (.inl (by simp [blk, hM, MB.blk])) (.inl e1))
theorem bld_nil (hm : MI C w0 Fp okA M ok L w) {o : Nat} {T e : TypeId} {a : V G.S} (hL : L[o]? = some (.box T [a, .nil e (.int .u8)] false)) (ha : addrOk a o = true) :
  ∃ b p, M o = some (.box b T) ∧ w.heap[b]? = some (.cells #[p, .slice none 0 0] T (0, 0)) ∧ BldAt T e w b (.slice none 0 0) [] := by
 obtain ⟨b, l, hM, hh, hv0⟩ := hm.objs o _ hL
 obtain ⟨px, pv, rfl, hv1, hv2⟩ := two_inv hv0
 cases hv2
 refine ⟨b, px, hM, hh, ⟨?_, World.ownsRow_nil w 0 e 1, fun e1 => by cases e1⟩⟩
 rcases addr_cases hM ha hv1 with rfl | rfl
 ·exact .inl hh
 ·exact .inr hh
theorem slice_of {e : TypeId} {v : Value} {n : Nat} {us : List Value} (h : w.ownsRow 0 e 1 v n us) : ∃ a c, v = .slice a n c := by
 rcases h.2 with ⟨rfl, rfl⟩ | ⟨g, cap, cur, rfl, _⟩
 ·exact ⟨_, _, rfl⟩
 ·exact ⟨_, _, rfl⟩
theorem write_mi (hS : SigOk G) {o : Nat} {T e : TypeId} {a bv : V G.S} {b : Nat} {p v : Value} {ys : List Int} {v' : Value} (ho : L[o]? = some (.box T [a, bv] false)) (hm : MI C w0 Fp okA M ok L w) (hM : M o = some (.box b T)) (hh : w.heap[b]? = some (.cells #[p, v] T (0, 0)))
  (hw : Wrote T e w b v (ys.map (Value.int .u8)) w' v') {L1 : List (Obj G.S)} (hlen : L1.length = L.length + 1) (ho1 : L1[o]? = some (.box T [a, bv] false)) {x : MB} (hxb : x.blk = v'.ownBlock) (hx : x = (match v' with | .slice a n c => MB.arr a n c e 1 | _ => x))
  (step : ∀ w1 : World, w1.os = w.os → w1.tape = w.tape → w1.output = w.output → w.heap.size ≤ w1.heap.size → (∀ k, k < w.heap.size → v.ownBlock ≠ some k → w1.heap[k]? = w.heap[k]?) → w1.ownsRow 0 e 1 v' ys.length (ys.map (Value.int .u8)) →
   MI C w0 Fp okA (updM M L.length x) ok L1 w1 ∧ Ex M ok w (updM M L.length x) ok w1) :
  MI C w0 Fp okA (updM M L.length x) ok (L1.set o (.box T [.ref o 0, .arr L.length] false)) w' ∧ Ex M ok w (updM M L.length x) ok w' := by
 have hbl : b < w.heap.size := (Array.getElem?_eq_some_iff.1 hh).1
 have hol : o < L.length := (List.getElem?_eq_some_iff.1 ho).1
 have c1 : (w'.setRow b #[p, v]).heap[b]? = some (.cells #[p, v] T (0, 0)) := setRow_heap w' b _ _ T _ hw.cell
 have own1 : (w'.setRow b #[p, v]).ownsRow 0 e 1 v' ys.length (ys.map (Value.int .u8)) := by
  have := hw.own
  rw [List.length_map] at this
  exact this.kept (row := some b) ⟨rfl, rfl, rfl, by simp, fun k _ hk => setRow_other w' b k _ (fun e => hk (by simp [e]))⟩ (.inr hw.ne)
 obtain ⟨hm1, he1⟩ := step (w'.setRow b #[p, v]) hw.os hw.tape hw.output (by have := hw.size; simpa using this) (fun k hk hne => by
  by_cases e1 : k = b
  ·subst e1; rw [c1, hh]
  ·rw [setRow_other w' b k _ e1]; exact hw.frame k hk e1 hne) own1
 have hM1 : updM M L.length x o = some (.box b T) := by rw [updM_ne _ _ (by omega)]; exact hM
 have hsl : ∃ a' c', v' = .slice a' ys.length c' := slice_of own1
 obtain ⟨a', c', rfl⟩ := hsl
 simp only at hx
 subst hx
 obtain ⟨hm2, he2⟩ := hm1.upd (w' := w') (.box T [.ref o 0, .arr L.length] false) ho1 trivial (by simp [blk, hM1, MB.blk]) rfl rfl rfl (by simp) (fun k hk => (setRow_other w' b k _ hk).symm) (fun _ hr => by simp [Obj.rd] at hr) (fun he => ⟨b, [.pointer (some ⟨b, 0, none⟩), .slice a' ys.length c'], hM1, hw.cell, two_vrs (.ref _ 0 b T hM1) (.arr _ a' ys.length c' e 1 (updM_same _ _ _))⟩)
 exact ⟨hm2, he1.trans he2⟩
theorem tup_two {w : World} {ok : Okc} {M : Mem} {n : Int} {v : Value} : VR (G := G) w ok M (.tup [.int .i64 n, .un]) (.tuple #[.int .i64 n, v]) := by
 refine .tup _ [.int .i64 n, v] rfl fun j u z hj hz => ?_
 match j with
 | 0 => cases hj; cases hz; exact .int _ _
 | 1 => cases hj; exact .un _
 | j + 2 => cases hj
theorem app_len {xs ys zs : List Int} (h : app xs ys = some zs) : zs = xs ++ ys ∧ xs.length + ys.length ≤ 68719476736 := by
 unfold app at h
 split at h
 ·rename_i hl; cases h; exact ⟨rfl, hl⟩
 ·cases h
theorem write_arr (hS : SigOk G) (hE : ExtOK C) {g : FuncId} {T e : TypeId} (hbl : C.bld g = some (1, T, e)) {o o2 : Nat} {a : V G.S} {xs ys : List Int} {sb : ByteArray} (hL : L[o]? = some (.box T [a, .arr o2] false)) (hL2 : L[o2]? = some (.arr e (.int .u8) xs false)) (ha : addrOk a o = true)
  (hy : app xs (sb.data.toList.map fun b => (b.toNat : Int)) = some ys) (hm : MI C w0 Fp okA M ok L w) {x : Value} (hx : VR w ok M (.ref (S := G.S) o 0) x) :
  Calls C.P g [x, .string sb].toArray w (fun en w' => ∃ v M' ok', en = .returned v ∧ MI C w0 Fp okA M' ok' (List.set (L.set o2 .dead ++ [Obj.arr (S := G.S) e (.int .u8) ys false]) o (.box T [.ref o 0, .arr L.length] false)) w' ∧ Ex M ok w M' ok' w' ∧ VR (G := G) w' ok' M' (.tup [.int .i64 (sb.data.toList.length : Int), .un]) v) := by
 have hol : o < L.length := (List.getElem?_eq_some_iff.1 hL).1
 have hoo : o ≠ o2 := by rintro rfl; rw [hL] at hL2; cases hL2
 obtain ⟨b, p, v, hM, hh, hB, hobk⟩ := bld_arr hS hm hL hL2 ha
 cases hx with
 | ref _ _ b' te' h' =>
 rw [hM] at h'
 cases h'
 obtain ⟨hyy, hyl⟩ := app_len hy
 rw [List.length_map] at hyl
 have hsz : sb.size = sb.data.toList.length := (Array.length_toList (xs := sb.data)).symm
 refine (hE.bw g _ _ hbl w b v _ sb hB (by rw [List.length_map, hsz]; omega)).mono ?_
 rintro en w' ⟨rfl, v', hw⟩
 have hus2 : xs.map (Value.int .u8) ++ strU sb.data.toList = ys.map (Value.int .u8) := by rw [strU_ints, hyy, List.map_append]
 rw [hus2] at hw
 obtain ⟨a', c', rfl⟩ : ∃ a' c', v' = .slice a' ys.length c' := by have := hw.own; rw [List.length_map] at this; exact slice_of this
 obtain ⟨hm2, he2⟩ := write_mi (x := .arr a' ys.length c' e 1) hS hL hm hM hh hw (L1 := L.set o2 .dead ++ [Obj.arr (S := G.S) e (.int .u8) ys false]) (by simp) (by rw [List.getElem?_append_left (by simpa using hol), List.getElem?_set_ne (fun e => hoo e.symm)]; exact hL) (by cases a' <;> rfl) rfl (fun w1 q1 q2 q3 q4 q5 q6 => by
  refine hm.replace (w' := w1) (ob0 := .arr e (.int .u8) xs false) hL2 trivial (fun off hr => by simp [Obj.rd] at hr) (.arr a' ys.length c' e 1) (.arr e (.int .u8) ys false) ⟨q1, q2, q3, q4, fun k hk hne => q5 k hk (fun e => hne (by rw [← hobk]; exact e.symm))⟩ (fun b2 hb2 => by
   have : (Value.slice a' ys.length c').ownBlock = some b2 := by cases a' <;> simpa [MB.blk, Value.ownBlock] using hb2
   rw [← hobk]
   exact hw.blk b2 this) (fun he => ⟨a', c', _, updM_same _ _ _, q6, Nat.one_pos, u8_el ys⟩))
 rw [hsz]
 exact ⟨_, _, _, rfl, hm2, he2, tup_two⟩
theorem write_nil (hS : SigOk G) (hE : ExtOK C) {g : FuncId} {T e : TypeId} (hbl : C.bld g = some (1, T, e)) {o : Nat} {a : V G.S} {ys : List Int} {sb : ByteArray} (hL : L[o]? = some (.box T [a, .nil e (.int .u8)] false)) (ha : addrOk a o = true)
  (hy : app ([] : List Int) (sb.data.toList.map fun b => (b.toNat : Int)) = some ys) (hm : MI C w0 Fp okA M ok L w) {x : Value} (hx : VR w ok M (.ref (S := G.S) o 0) x) :
  Calls C.P g [x, .string sb].toArray w (fun en w' => ∃ v M' ok', en = .returned v ∧ MI C w0 Fp okA M' ok' (List.set (L ++ [Obj.arr (S := G.S) e (.int .u8) ys false]) o (.box T [.ref o 0, .arr L.length] false)) w' ∧ Ex M ok w M' ok' w' ∧ VR (G := G) w' ok' M' (.tup [.int .i64 (sb.data.toList.length : Int), .un]) v) := by
 have hol : o < L.length := (List.getElem?_eq_some_iff.1 hL).1
 obtain ⟨b, p, hM, hh, hB⟩ := bld_nil hm hL ha
 cases hx with
 | ref _ _ b' te' h' =>
 rw [hM] at h'
 cases h'
 obtain ⟨hyy, hyl⟩ := app_len hy
 rw [List.length_map] at hyl
 have hsz : sb.size = sb.data.toList.length := (Array.length_toList (xs := sb.data)).symm
 refine (hE.bw g _ _ hbl w b _ _ sb hB (by rw [hsz]; simp at hyl ⊢; omega)).mono ?_
 rintro en w' ⟨rfl, v', hw⟩
 have hus2 : ([] : List Value) ++ strU sb.data.toList = ys.map (Value.int .u8) := by rw [strU_ints, hyy, List.nil_append, List.nil_append]
 rw [hus2] at hw
 obtain ⟨a', c', rfl⟩ : ∃ a' c', v' = .slice a' ys.length c' := by have := hw.own; rw [List.length_map] at this; exact slice_of this
 obtain ⟨hm2, he2⟩ := write_mi (x := .arr a' ys.length c' e 1) hS hL hm hM hh hw (L1 := L ++ [Obj.arr (S := G.S) e (.int .u8) ys false]) (by simp) (by rw [List.getElem?_append_left hol]; exact hL) (by cases a' <;> rfl) rfl (fun w1 q1 q2 q3 q4 q5 q6 => by
  have hgk : ∀ k, k < w.heap.size → w1.heap[k]? = w.heap[k]? := fun k hk => q5 k hk (fun e => by cases e)
  exact ⟨hm.push (.arr a' ys.length c' e 1) (.arr e (.int .u8) ys false) q1 q2 q3 q4 hgk ⟨a', c', _, updM_same _ _ _, q6, Nat.one_pos, u8_el ys⟩ (fun b2 hb2 => by
   have : (Value.slice a' ys.length c').ownBlock = some b2 := by cases a' <;> simpa [MB.blk, Value.ownBlock] using hb2
   rcases hw.blk b2 this with h9 | h9
   ·exact h9
   ·cases h9), hm.ex_push _ hgk⟩)
 rw [hsz]
 exact ⟨_, _, _, rfl, hm2, he2, tup_two⟩
theorem said_arr (hS : SigOk G) (hE : ExtOK C) {g : FuncId} {T e : TypeId} (hbl : C.bld g = some (3, T, e)) {o o2 : Nat} {a : V G.S} {xs : List Int} {l : List UInt8} (hL : L[o]? = some (.box T [a, .arr o2] false)) (hL2 : L[o2]? = some (.arr e (.int .u8) xs false)) (ha : addrOk a o = true)
    (hy : bytesOf xs = some l) (hm : MI C w0 Fp okA M ok L w) {x : Value} (hx : VR w ok M (.ref (S := G.S) o 0) x) :
    Calls C.P g [x].toArray w (fun en w' => ∃ v M' ok', en = .returned v ∧ MI C w0 Fp okA M' ok' ((L.set o2 .dead).set o .dead) w' ∧ Ex M ok w M' ok' w' ∧ VR (G := G) w' ok' M' (.str l) v) := by
  obtain ⟨b, p, v, hM, hh, hB, hobk⟩ := bld_arr hS hm hL hL2 ha
  cases hx with
  | ref _ _ b' te' h' =>
  rw [hM] at h'
  cases h'
  rw [bytesOf_ok hy] at hB
  refine (hE.bs g _ _ hbl w b v l hB).mono ?_
  rintro en w' ⟨rfl, hw⟩
  have hk := (hm.kill o2).kill o
  have key : ∀ (i : Nat) (x : Obj G.S), ((L.set o2 .dead).set o .dead)[i]? = some x → x.live → L[i]? = some x ∧ i ≠ o2 := by
    intro i x hi hl
    rw [List.getElem?_set] at hi
    split at hi
    · split at hi
      · cases hi; exact hl.elim
      · cases hi
    · rw [List.getElem?_set] at hi
      split at hi
      · split at hi
        · cases hi; exact hl.elim
        · cases hi
      · rename_i h1 h2
        exact ⟨hi, fun e => h2 e.symm⟩
  obtain ⟨hm2, he2⟩ := hk.chg (w' := w') (g := v.ownBlock) hw.os hw.tape hw.output hw.size (fun k hk hne => hw.frame k hk hne) (fun i x b2 hi hl hb2 e => by
      obtain ⟨h1, h2⟩ := key i x hi hl
      rw [hobk] at e
      exact h2 (hm.dis i o2 _ _ b2 h1 hL2 hl trivial hb2 (.inl e))) (fun b2 off hk2 e => by
      rw [hobk] at e
      have := hm.own o2 _ b2 off hL2 trivial (.inl e) hk2
      simp [Obj.rd] at this) (fun b2 e => by
      rw [hobk] at e
      exact hm.old o2 _ b2 hL2 trivial (.inl e))
  exact ⟨_, _, _, rfl, hm2, he2, .str ⟨l.toArray⟩⟩
theorem said_nil (hE : ExtOK C) {g : FuncId} {T e : TypeId} (hbl : C.bld g = some (3, T, e)) {o : Nat} {a : V G.S} (hL : L[o]? = some (.box T [a, .nil e (.int .u8)] false)) (ha : addrOk a o = true)
  (hm : MI C w0 Fp okA M ok L w) {x : Value} (hx : VR w ok M (.ref (S := G.S) o 0) x) :
  Calls C.P g [x].toArray w (fun en w' => ∃ v M' ok', en = .returned v ∧ MI C w0 Fp okA M' ok' (L.set o .dead) w' ∧ Ex M ok w M' ok' w' ∧ VR (G := G) w' ok' M' (.str []) v) := by
 obtain ⟨b, p, hM, hh, hB⟩ := bld_nil hm hL ha
 cases hx with
 | ref _ _ b' te' h' =>
 rw [hM] at h'
 cases h'
 refine (hE.bs g _ _ hbl w b _ [] hB).mono ?_
 rintro en w' ⟨rfl, hw⟩
 obtain ⟨hm2, he2⟩ := (hm.kill o).chg (w' := w') (g := none) hw.os hw.tape hw.output hw.size (fun k hk hne => hw.frame k hk (fun e => by cases e)) (fun i x b2 hi hl hb2 e => by cases e) (fun b2 off hk2 e => by cases e) (fun b2 e => by cases e)
 exact ⟨_, _, _, rfl, hm2, he2, .str ⟨#[]⟩⟩
theorem bldT_ok (hS : SigOk G) (hE : ExtOK C) {kd : Nat} {T e : TypeId} {g : FuncId} (hbl : C.bld g = some (kd, T, e)) {args : List (V G.S)} {st : St G.S} {k : K G} (h : (bldT C kd T e g args st k).run G Φ f = some r) :
  ∃ v' st' rd wr, (st'.tm = st.tm ∧ st'.n0 = st.n0 ∧ (wr = [] → st'.L = st.L) ∧ ∀ b, b ∉ wr → b < st.L.length → st'.L[b]? = st.L[b]?) ∧ (∀ (w0 : World) (Fp : Fx) (okA : Okc) (M : Mem) (ok : Okc) (w : World) (vals : List Value), MI C w0 Fp okA M ok st.L w → VRs w ok M args vals →
   (callFunc g vals.toArray).run C.P w = .ok (.enter g vals.toArray) w ∧ Calls C.P g vals.toArray w (fun e w' => ∃ v M' ok', e = .returned v ∧ MI C w0 Fp okA M' ok' st'.L w' ∧ Ex M ok w M' ok' w' ∧ VR w' ok' M' v' v)) ∧
   (k v' st' rd wr).run G Φ f = some r := by
 unfold bldT at h
 split at h
 ·exact run_fail h
 ·rename_i fn hf
  split at h
  ·exact run_fail h
  ·rename_i body hb
   split at h
   ·rename_i hname
    split at h
    ·rename_i o off s
     split at h
     ·rename_i hk
      obtain ⟨rfl, rfl⟩ := hk
      split at h
      ·rename_i te a o2 hL
       split at h
       ·rename_i e' xs hL2
        split at h
        ·rename_i hc
         obtain ⟨rfl, rfl, ha⟩ := hc
         obtain ⟨ys, hy, h⟩ := run_bnd h
         have hol : o < st.L.length := (List.getElem?_eq_some_iff.1 hL).1
         have hoo : o ≠ o2 := by rintro rfl; rw [hL] at hL2; cases hL2
         refine ⟨_, _, _, _, ⟨?_, ?_, (fun e => by cases e), fun c hc hlt => ?_⟩, fun w0 Fp okA M ok w vals hm hv => ⟨callFunc_run hf hname hb _ _, ?_⟩, h⟩
         ·rfl
         ·rfl
         ·simp only [List.mem_cons, List.not_mem_nil, or_false, not_or] at hc
          show (List.set _ o _)[c]? = _
          rw [List.getElem?_set_ne (fun e => hc.1 e.symm), List.getElem?_append_left (by simpa using hlt), List.getElem?_set_ne (fun e => hc.2 e.symm)]
         ·obtain ⟨x, y, rfl, h1, h2⟩ := two_inv hv
          cases h2 with
          | str sb => exact write_arr hS hE hbl hL hL2 ha hy hm h1
        ·exact run_fail h
       ·exact run_fail h
      ·rename_i te a e' hL
       split at h
       ·rename_i hc
        obtain ⟨rfl, rfl, ha⟩ := hc
        obtain ⟨ys, hy, h⟩ := run_bnd h
        have hol : o < st.L.length := (List.getElem?_eq_some_iff.1 hL).1
        refine ⟨_, _, _, _, ⟨?_, ?_, (fun e => by cases e), fun c hc hlt => ?_⟩, fun w0 Fp okA M ok w vals hm hv => ⟨callFunc_run hf hname hb _ _, ?_⟩, h⟩
        ·rfl
        ·rfl
        ·simp only [List.mem_cons, List.not_mem_nil, or_false] at hc
         show (List.set _ o _)[c]? = _
         rw [List.getElem?_set_ne (fun e => hc e.symm), List.getElem?_append_left hlt]
        ·obtain ⟨x, y, rfl, h1, h2⟩ := two_inv hv
         cases h2 with
         | str sb => exact write_nil hS hE hbl hL ha hy hm h1
       ·exact run_fail h
      ·exact run_fail h
     ·exact run_fail h
    ·rename_i o off
     split at h
     ·rename_i hk
      obtain ⟨rfl, rfl⟩ := hk
      split at h
      ·rename_i te a o2 hL
       split at h
       ·rename_i e' xs hL2
        split at h
        ·rename_i hc
         obtain ⟨rfl, rfl, ha⟩ := hc
         obtain ⟨l, hy, h⟩ := run_bnd h
         refine ⟨_, _, _, _, ⟨?_, ?_, (fun e => by cases e), fun c hc hlt => ?_⟩, fun w0 Fp okA M ok w vals hm hv => ⟨callFunc_run hf hname hb _ _, ?_⟩, h⟩
         ·rfl
         ·rfl
         ·simp only [List.mem_cons, List.not_mem_nil, or_false, not_or] at hc
          show (List.set _ o _)[c]? = _
          rw [List.getElem?_set_ne (fun e => hc.1 e.symm), List.getElem?_set_ne (fun e => hc.2 e.symm)]
         ·obtain ⟨x, l2, rfl, h1, h2⟩ := hv.inv
          have : l2 = [] := by have := h2.1; exact List.eq_nil_of_length_eq_zero (by simpa using this.symm)
          subst this
          exact said_arr hS hE hbl hL hL2 ha hy hm h1
        ·exact run_fail h
       ·exact run_fail h
      ·rename_i te a e' hL
       split at h
       ·rename_i hc
        obtain ⟨rfl, rfl, ha⟩ := hc
        refine ⟨_, _, _, _, ⟨?_, ?_, (fun e => by cases e), fun c hc hlt => ?_⟩, fun w0 Fp okA M ok w vals hm hv => ⟨callFunc_run hf hname hb _ _, ?_⟩, h⟩
        ·rfl
        ·rfl
        ·simp only [List.mem_cons, List.not_mem_nil, or_false] at hc
         show (List.set _ o _)[c]? = _
         rw [List.getElem?_set_ne (fun e => hc e.symm)]
        ·obtain ⟨x, l2, rfl, h1, h2⟩ := hv.inv
         have : l2 = [] := by have := h2.1; exact List.eq_nil_of_length_eq_zero (by simpa using this.symm)
         subst this
         exact said_nil hE hbl hL ha hm h1
       ·exact run_fail h
      ·exact run_fail h
     ·exact run_fail h
    ·exact run_fail h
   ·exact run_fail h
end
end Go.Dv

namespace Go.Dv
open Go
section
variable {G : Sig} {C : Cfg G} {Φ : FuncId → List Item → St G.S → Option (Ret G.S)} {f : FuncId} {r : Ret G.S}
theorem run_callO {g : Nat} {todo : List Item} {st : St G.S} {ot : List (Bool × List BTy)} {k : oDen G.S ot → Tree G.S} (h : (Tree.callO g todo st ot k).run G Φ f = some r) :
  ∃ ret p, Φ g todo st = some ret ∧ prjO G ot ret = some p ∧ (k p).run G Φ f = some r := by
 simp only [Tree.run] at h
 cases h1 : Φ g todo st with
 | none => rw [h1] at h; cases h
 | some ret =>
  rw [h1] at h
  simp only [Option.bind_some] at h
  cases h2 : prjO G ot ret with
  | none => rw [h2] at h; cases h
  | some p => rw [h2] at h; exact ⟨ret, p, rfl, h2, h⟩
theorem run_callW {g : Nat} {todo : List Item} {st : St G.S} {rt : List Ty} {wt : List BTy} {k : rDen G.S rt → bxDen G.S wt → Tree G.S} (h : (Tree.callW g todo st rt wt k).run G Φ f = some r) :
  ∃ ret p b, Φ g todo st = some ret ∧ prjR G rt ret.1 = some p ∧ prjPins G wt ret.2 = some b ∧ (k p b).run G Φ f = some r := by
 simp only [Tree.run] at h
 cases h1 : Φ g todo st with
 | none => rw [h1] at h; cases h
 | some ret =>
  rw [h1] at h
  simp only [Option.bind_some] at h
  unfold prjW at h
  cases h2 : prjR G rt ret.1 with
  | none => rw [h2] at h; cases h
  | some p =>
   rw [h2] at h
   simp only at h
   cases h3 : prjPins G wt ret.2 with
   | none => rw [h3] at h; cases h
   | some b => rw [h3] at h; exact ⟨ret, p, b, rfl, h2, h3, h⟩
def OwnOb (ob : Obj G.S) : Prop := (∃ e t xs, ob = .arr e t xs false ∧ Ty.fl G t = true) ∨ ∃ e t xs, ob = .tr e t xs []
theorem OwnOb.live {ob : Obj G.S} (h : OwnOb ob) : ob.live := by rcases h with ⟨e, t, xs, rfl, _⟩ | ⟨e, t, xs, rfl⟩ <;> trivial
theorem OwnOb.rd {ob : Obj G.S} (h : OwnOb ob) : ∀ off, ¬ ob.rd off := by
 rcases h with ⟨e, t, xs, rfl, _⟩ | ⟨e, t, xs, rfl⟩
 ·intro off hr; cases hr
 ·intro off hr; exact hr
theorem OwnOb.or (hS : SigOk G) {ob : Obj G.S} (h : OwnOb ob) {w : World} {ok ok' : Okc} {M M' : Mem} {o o' : Nat} (hM : M' o' = M o) (hf : ∀ b, M.ft o b → M'.ft o' b) (hor : OR w ok M o ob) : OR w ok' M' o' ob := by
 rcases h with ⟨e, t, xs, rfl, hfl⟩ | ⟨e, t, xs, rfl⟩
 ·obtain ⟨a, c, us, h1, h2, h3, h4⟩ := hor
  exact ⟨a, c, us, hM.trans h1, h2, h3, fun i x j y u p1 p2 p3 => scl_any (fl_cells hS hfl x y (List.mem_of_getElem? p2)) (h4 i x j y u p1 p2 p3) _ _ _⟩
 ·obtain ⟨a, c, h1, h2⟩ := hor
  exact ⟨a, c, hM.trans h1, h2.any hf⟩
theorem freeze_nil (L : List (Obj G.S)) : freeze L [] = L := by
 apply List.ext_getElem?
 intro o
 exact freeze_keep L (by simp)
theorem cellsOf_wff : ∀ (b : List BTy) (p : bxDen G.S b) (n : Nat), b.all (BTy.wff (G := G)) = true → ∀ ob ∈ (cellsOf (G := G) b p n).2.1, OwnOb ob
 | [], p, n, _, ob, h => by cases h
 | .im t :: r, p, n, hw, ob, h => cellsOf_wff r p.2 n (by simp only [List.all_cons, Bool.and_eq_true] at hw; exact hw.2) ob h
 | .ow e t :: r, p, n, hw, ob, h => by
  simp only [List.all_cons, Bool.and_eq_true] at hw
  simp only [cellsOf, List.mem_cons] at h
  rcases h with rfl | h
  ·exact .inl ⟨_, _, _, rfl, hw.1⟩
  ·exact cellsOf_wff r p.2 _ hw.2 ob h
 | .tw e t :: r, p, n, hw, ob, h => by
  simp only [List.all_cons, Bool.and_eq_true] at hw
  simp only [cellsOf, List.mem_cons] at h
  rcases h with rfl | h
  ·exact .inr ⟨_, _, _, rfl⟩
  ·exact cellsOf_wff r p.2 _ hw.2 ob h
theorem cellsOs_wff : ∀ (ot : List (Bool × List BTy)) (p : oDen G.S ot) (n : Nat), (ot.all fun b => b.2.all (BTy.wff (G := G))) = true → ∀ ob ∈ (cellsOs (G := G) ot p n).2, OwnOb ob
 | [], p, n, _, ob, h => by cases h
 | b :: r, p, n, hw, ob, h => by
  simp only [List.all_cons, Bool.and_eq_true] at hw
  simp only [cellsOs, List.mem_append] at h
  rcases h with h | h
  ·exact cellsOf_wff b.2 p.1 n hw.1 ob h
  ·exact cellsOs_wff r p.2 _ hw.2 ob h
theorem flat_inj {t : Ty} (ht : t.flat = true) {x : t.den G.S} {w w' : World} {ok ok' : Okc} {M M' : Mem} {v : Value} (h : VR w ok M (inj G t x) v) : VR w' ok' M' (inj G t x) v := by
 cases t <;> first | cases ht | skip
 ·cases h; exact .int _ _
 ·cases h; exact .bool _
 ·exact scl_any (y := .str x) rfl h _ _ _
section
variable {Lc : List (Obj G.S)} {Mc M2 : Mem} {w' : World} {okc ok : Okc} {N K B : Nat}
theorem cells_own (hS : SigOk G) (hM : ∀ j x, B ≤ j → j < K → Mc j = some x → M2 (N + j) = some x) : ∀ (b : List BTy) (cs : List (V G.S)) (d m : Nat) (p : bxDen G.S b), B ≤ d → prjCells G Lc b cs d = some (p, m) → b.all BTy.wf = true → d + (cellsOf (G := G) b p (N + d)).2.1.length ≤ K →
  ∃ k, m = d + k ∧ (cellsOf (G := G) b p (N + d)).2.2 = N + (d + k) ∧ (cellsOf (G := G) b p (N + d)).2.1.length = k ∧
   (∀ (j : Nat) (ob : Obj G.S), (cellsOf (G := G) b p (N + d)).2.1[j]? = some ob → Lc[d + j]? = some ob ∧ OwnN ob) ∧
   (∀ l, VRs w' okc Mc cs l → VRs w' ok M2 (cellsOf (G := G) b p (N + d)).1 l)
 | [], [], d, m, p, _, h, _, _ => by
  simp only [prjCells, Option.some.injEq, Prod.mk.injEq] at h
  cases h
  exact ⟨0, rfl, rfl, rfl, fun j ob hj => by simp [cellsOf] at hj, fun l hl => ⟨hl.1, fun j y v hj => by simp [cellsOf] at hj⟩⟩
 | [], c :: cs, d, m, p, _, h, _, _ => by simp [prjCells] at h
 | .im t :: b, [], d, m, p, _, h, _, _ => by simp [prjCells] at h
 | .ow e t :: b, [], d, m, p, _, h, _, _ => by simp [prjCells] at h
 | .tw e t :: b, [], d, m, p, _, h, _, _ => by simp [prjCells] at h
 | .im t :: b, v :: vs, d, m, p, hd, h, hwf, hK => by
  simp only [List.all_cons, Bool.and_eq_true] at hwf
  simp only [prjCells] at h
  split at h
  ·rename_i x hx
   split at h
   ·rename_i y m' hy
    cases h
    obtain ⟨k, h1, h2, h3, h4, h5⟩ := cells_own hS hM b vs d _ y hd hy hwf.2 hK
    refine ⟨k, h1, h2, h3, h4, fun l hl => ?_⟩
    obtain ⟨u, l', rfl, k1, k2⟩ := hl.inv
    exact .cons (flat_inj hwf.1 (prj_ok hS hx k1).2) (h5 l' k2)
   ·cases h
  ·cases h
 | .ow e t :: b, v :: vs, d, m, p, hd, h, hwf, hK => by
  simp only [List.all_cons, Bool.and_eq_true] at hwf
  cases v with
  | arr o =>
   simp only [prjCells] at h
   split at h
   ·rename_i ho
    subst ho
    split at h
    ·rename_i e' t' xs hL
     split at h
     ·rename_i he
      subst he
      split at h
      ·rename_i ht
       subst ht
       split at h
       ·rename_i y m' hy
        cases h
        simp only [cellsOf, List.length_cons] at hK
        rw [Nat.add_assoc] at hK
        obtain ⟨k, h1, h2, h3, h4, h5⟩ := cells_own hS hM b vs (o + 1) m y (by omega) hy hwf.2 (by omega)
        refine ⟨k + 1, h1.trans (by omega), ?_, ?_, fun j ob hj => ?_, fun l hl => ?_⟩
        ·simp only [cellsOf]
         rw [Nat.add_assoc, h2]; omega
        ·simp only [cellsOf, List.length_cons]
         rw [Nat.add_assoc, h3]
        ·simp only [cellsOf] at hj
         cases j with
         | zero =>
          simp only [List.getElem?_cons_zero, Option.some.injEq] at hj
          subst hj
          exact ⟨hL, .inl ⟨_, _, _, rfl, hwf.1⟩⟩
         | succ j =>
          simp only [List.getElem?_cons_succ] at hj
          rw [Nat.add_assoc] at hj
          have := h4 j ob hj
          rw [show o + (j + 1) = o + 1 + j by omega]
          exact this
        ·obtain ⟨u, l', rfl, k1, k2⟩ := hl.inv
         simp only [cellsOf]
         refine .cons ?_ (by rw [Nat.add_assoc]; exact h5 l' k2)
         cases k1 with
         | arr _ a n' c e2 sz hMM => exact .arr _ a n' c e2 sz (hM o _ hd (by omega) hMM)
       ·cases h
      ·cases h
     ·cases h
    ·cases h
   ·cases h
  | _ => simp [prjCells] at h
 | .tw e t :: b, v :: vs, d, m, p, hd, h, hwf, hK => by
  simp only [List.all_cons, Bool.and_eq_true] at hwf
  cases v with
  | arr o =>
   simp only [prjCells] at h
   split at h
   ·rename_i ho
    subst ho
    split at h
    ·rename_i e' t' xs hL
     split at h
     ·rename_i he
      subst he
      split at h
      ·rename_i ht
       subst ht
       split at h
       ·rename_i y m' hy
        cases h
        simp only [cellsOf, List.length_cons] at hK
        rw [Nat.add_assoc] at hK
        obtain ⟨k, h1, h2, h3, h4, h5⟩ := cells_own hS hM b vs (o + 1) m y (by omega) hy hwf.2 (by omega)
        refine ⟨k + 1, h1.trans (by omega), ?_, ?_, fun j ob hj => ?_, fun l hl => ?_⟩
        ·simp only [cellsOf]
         rw [Nat.add_assoc, h2]; omega
        ·simp only [cellsOf, List.length_cons]
         rw [Nat.add_assoc, h3]
        ·simp only [cellsOf] at hj
         cases j with
         | zero =>
          simp only [List.getElem?_cons_zero, Option.some.injEq] at hj
          subst hj
          exact ⟨hL, .inr ⟨_, _, _, rfl⟩⟩
         | succ j =>
          simp only [List.getElem?_cons_succ] at hj
          rw [Nat.add_assoc] at hj
          have := h4 j ob hj
          rw [show o + (j + 1) = o + 1 + j by omega]
          exact this
        ·obtain ⟨u, l', rfl, k1, k2⟩ := hl.inv
         simp only [cellsOf]
         refine .cons ?_ (by rw [Nat.add_assoc]; exact h5 l' k2)
         cases k1 with
         | arr _ a n' c e2 sz hMM => exact .arr _ a n' c e2 sz (hM o _ hd (by omega) hMM)
       ·cases h
      ·cases h
     ·cases h
    ·cases h
   ·cases h
  | _ => simp [prjCells] at h
theorem cellsL_nag {v : V G.S} {cs : List (V G.S)} (h : v.cellsL = some cs) (hn : isAg v = false) : cs = [v] ∧ v.one = true := by
 cases v <;> first | (cases hn; done) | (cases h; exact ⟨rfl, rfl⟩) | cases h
theorem cellsOs_own (hS : SigOk G) (hM : ∀ j x, B ≤ j → j < K → Mc j = some x → M2 (N + j) = some x) : ∀ (ot : List (Bool × List BTy)) (vs : List (V G.S)) (d : Nat) (p : oDen G.S ot), B ≤ d → prjOs G Lc ot vs d = some p → (ot.all fun b => b.2.all BTy.wf) = true → d + (cellsOs (G := G) ot p (N + d)).2.length ≤ K →
   (∀ (j : Nat) (ob : Obj G.S), (cellsOs (G := G) ot p (N + d)).2[j]? = some ob → Lc[d + j]? = some ob ∧ OwnN ob) ∧
   (∀ l, VRs w' okc Mc vs l → VRs w' ok M2 (cellsOs (G := G) ot p (N + d)).1 l)
 | [], [], d, p, _, h, _, _ => ⟨fun j ob hj => by simp [cellsOs] at hj, fun l hl => ⟨hl.1, fun j y v hj => by simp [cellsOs] at hj⟩⟩
 | [], v :: vs, d, p, _, h, _, _ => by simp [prjOs] at h
 | b :: ot, [], d, p, _, h, _, _ => by simp [prjOs] at h
 | b :: ot, v :: vs, d, p, hd, h, hwf, hK => by
  simp only [List.all_cons, Bool.and_eq_true] at hwf
  simp only [prjOs] at h
  split at h
  ·rename_i hag
   split at h
   ·rename_i cs hcs
    split at h
    ·rename_i x m hx
     split at h
     ·rename_i y hy
      cases h
      simp only [cellsOs, List.length_append] at hK
      obtain ⟨k, h1, h2, h3, h4, h5⟩ := cells_own (w' := w') (okc := okc) (ok := ok) (M2 := M2) hS hM b.2 cs d m x hd hx hwf.1 (by omega)
      subst h1
      rw [h2, h3] at hK
      obtain ⟨g1, g2⟩ := cellsOs_own hS hM ot vs (d + k) y (by omega) hy hwf.2 (by omega)
      refine ⟨fun j ob hj => ?_, fun l hl => ?_⟩
      ·simp only [cellsOs, h2] at hj
       by_cases hjk : j < k
       ·rw [List.getElem?_append_left (by omega)] at hj
        exact h4 j ob hj
       ·rw [List.getElem?_append_right (by omega), h3] at hj
        have := g1 (j - k) ob hj
        rwa [show d + k + (j - k) = d + j by omega] at this
      ·obtain ⟨u, l', rfl, k1, k2⟩ := hl.inv
       simp only [cellsOs, h2]
       refine .cons ?_ (g2 l' k2)
       have hcl := h5 _ (cellsL_ok hcs k1)
       cases hb : b.1 with
       | true =>
        rw [hb] at hag
        rw [if_pos rfl]
        have : ∃ q : List Value, u = .agg q.toArray := by
         cases k1 with
         | st _ _ q => exact ⟨q, rfl⟩
         | ag _ q => exact ⟨q, rfl⟩
         | _ => cases hag
        obtain ⟨q, rfl⟩ := this
        have hcl : VRs w' ok M2 (cellsOf (G := G) b.2 x (N + d)).1 q := hcl
        exact .ag _ q hcl.1 hcl.2
       | false =>
        rw [hb] at hag
        rw [if_neg (by simp)]
        obtain ⟨rfl, hone⟩ := cellsL_nag hcs hag
        rw [one_cells (one_ok hone k1)] at hcl
        split
        ·rename_i v' hv'
         rw [hv'] at hcl
         exact hcl.2 0 v' u rfl rfl
        ·exact .un _
     ·cases h
    ·cases h
   ·cases h
  ·cases h
end
theorem normA_ok (hS : SigOk G) {w : World} {ok : Okc} {M : Mem} : ∀ {ts : List TypeId} {vs us : List (V G.S)} {l : List Value}, normA ts vs = some us → VRs w ok M vs l → VRs w ok M us l
 | [], vs, us, l, h, hv => by simp [normA] at h; subst h; exact hv
 | t :: ts, [], us, l, h, hv => by simp [normA] at h
 | t :: ts, v :: vs, us, l, h, hv => by
  obtain ⟨u, l', rfl, h1, h2⟩ := hv.inv
  simp only [normA] at h
  split at h
  ·split at h
   ·rename_i ty hty x l2 hx hl2
    cases h
    exact .cons (prj_ok hS hx h1).2 (normA_ok hS hl2 h2)
   ·cases h
  ·split at h
   ·rename_i l2 hl2
    cases h
    exact .cons h1 (normA_ok hS hl2 h2)
   ·cases h
theorem calls_of_phiM (hΦ : PhiOK C Φ) {g : FuncId} {fn : Func} {body : Code} (hf : C.P.funcs[g]? = some fn) (hb : fn.body = some body) {w0 : World} {Fp : Fx} {okA : Okc} {M : Mem} {ok : Okc} {L : List (Obj G.S)} {w : World}
  (hm : MI C w0 Fp okA M ok L w) {vs : List (V G.S)} {vals : List Value} (hv : VRs w ok Mem.no vs vals) (hn : vs.length ≤ fn.ntmps) {ret : Ret G.S}
  (h : Φ g [.code body] ⟨vs ++ List.replicate (fn.ntmps - vs.length) .un, [], 0⟩ = some ret) :
  Calls C.P g vals.toArray w (fun e w' => ∃ v, e = .returned v ∧ PostM C w Fx.no ok ret v w') := by
 intro cs
 let b : Frame := { (default : Frame) with fn := g, kind := .normal }
 have henter : Frame.enter C.P g vals.toArray .normal = b.at { tmps := vals.toArray ++ Array.replicate (fn.ntmps - vals.toArray.size) undef, defers := [] } [.code body] := by
  simp [Frame.enter, Frame.at, hf, hb, b]
 obtain ⟨v, w', fr, hR, hst, hfn, hlv⟩ := hΦ g _ _ ret h w Fx.no ok Mem.no ok b cs _ w (fun i x h => by cases h) rfl rfl rfl (enter_mi hm) (enter_tr hv hn)
 rw [henter]
 exact ⟨.returned v, w', fr, ⟨v, rfl, hR⟩, hst, hfn, hlv⟩
theorem prjO_list {ot : List (Bool × List BTy)} {ret : Ret G.S} {p : oDen G.S ot} (hp : prjO G ot ret = some p) : ∃ vs1 : List (V G.S), prjOs G ret.2 ot vs1 0 = some p ∧ ((∃ v1, vs1 = [v1] ∧ ret.1 = v1) ∨ (ret.1 = .tup vs1 ∧ vs1.length ≠ 1)) := by
 unfold prjO at hp
 split at hp
 ·exact ⟨_, hp, .inl ⟨_, rfl, rfl⟩⟩
 ·rename_i hn1
  split at hp
  ·rename_i vs1 hr1
   refine ⟨vs1, hp, .inr ⟨hr1, fun hl => ?_⟩⟩
   have hlen2 : ∀ (ot : List (Bool × List BTy)) (vs : List (V G.S)) (d : Nat) (p : oDen G.S ot), prjOs G ret.2 ot vs d = some p → ot.length = vs.length := by
    intro ot
    induction ot with
    | nil => intro vs d p h; cases vs with | nil => rfl | cons => simp [prjOs] at h
    | cons b ot ih =>
     intro vs d p h
     cases vs with
     | nil => simp [prjOs] at h
     | cons v vs =>
      simp only [prjOs] at h
      split at h
      ·split at h
       ·split at h
        ·split at h
         ·rename_i hy; simp [ih vs _ _ hy]
         ·cases h
        ·cases h
       ·cases h
      ·cases h
   have := hlen2 ot vs1 0 p hp
   rw [hl] at this
   obtain ⟨b1, rfl⟩ := List.length_eq_one_iff.1 this
   exact hn1 b1 rfl
  ·cases hp
theorem callO_ok (hS : SigOk G) (hΦ : PhiOK C Φ) {g : FuncId} {args : List (V G.S)} {st : St G.S} {k : K G} (h : (callOT C g args st k).run G Φ f = some r) :
    ∃ v' st' rd wr, (st'.tm = st.tm ∧ st'.n0 = st.n0 ∧ (wr = [] → st'.L = st.L) ∧ ∀ b, b ∉ wr → b < st.L.length → st'.L[b]? = st.L[b]?) ∧ (∀ (w0 : World) (Fp : Fx) (okA : Okc) (M : Mem) (ok : Okc) (w : World) (vals : List Value), MI C w0 Fp okA M ok st.L w → VRs w ok M args vals →
      (callFunc g vals.toArray).run C.P w = .ok (.enter g vals.toArray) w ∧ Calls C.P g vals.toArray w (fun e w' => ∃ v M' ok', e = .returned v ∧ MI C w0 Fp okA M' ok' st'.L w' ∧ Ex M ok w M' ok' w' ∧ VR w' ok' M' v' v)) ∧
      (k v' st' rd wr).run G Φ f = some r := by
  unfold callOT at h
  split at h
  · exact run_fail h
  · rename_i fn hf
    split at h
    · rename_i ot body hot hb
      split at h
      · rename_i hname
        split at h
        · rename_i vs hs0
          obtain ⟨vs0, hs, hno⟩ := Option.bind_eq_some_iff.1 hs0
          split at h
          · rename_i hcl
            obtain ⟨hclo, hlen, hwf⟩ := hcl
            rw [forceL_eq] at h
            obtain ⟨ret, p, hphi, hp, h⟩ := run_callO h
            simp only [forceO_eq, forceL_eq] at h
            generalize hfr : (if (ot.all fun b => b.2.all (BTy.wff (G := G))) = true then [] else reachs st.L args) = fr at h
            have hlf : (freeze st.L fr).length = st.L.length := freeze_length _ _
            refine ⟨_, _, _, _, ⟨?_, ?_, (fun e => by cases e), fun b hb hlt => ?_⟩, fun w0 Fp okA M ok w vals hm hv => ⟨callFunc_run hf hname hb _ _, ?_⟩, h⟩
            · rfl
            · rfl
            · simp only [List.mem_cons, not_or] at hb
              show (freeze st.L fr ++ _)[b]? = _
              rw [List.getElem?_append_left (by rw [hlf]; exact hlt), freeze_keep _ hb.2]
            have clo : ∀ (w : World) (ok : Okc) (M : Mem) (vals : List Value), VRs w ok M vs vals → VRs w ok Mem.no vs vals := fun w ok M vals hv => ⟨hv.1, fun j y v hj hv' => (hv.2 j y v hj hv').anyM hS _ 20 (by rw [List.all_eq_true] at hclo; exact hclo y (List.mem_of_getElem? hj))⟩
            obtain ⟨hm1, he1⟩ := hm.freeze hS (reachs st.L args)
            have hsn := normA_ok hS hno (snaps_ok hS hm (os := reachs st.L args) hs (fun o ho => by simpa using ho) hv)
            refine (calls_of_phiM hΦ hf hb hm1 (clo _ _ _ _ hsn) hlen hphi).mono ?_
            rintro e w' ⟨v, rfl, Mc, okc, hc, hvr⟩
            have key : ∃ okb okf : Okc, MI C w0 Fp okA M okb (freeze st.L fr) w ∧ Ex M ok w M okb w ∧ (∀ b off, okb b off → okf b off) ∧ (∀ b off, okf b off → okb b off ∨ (w.heap.size ≤ b ∧ b < w'.heap.size)) ∧
                (∀ ob ∈ (cellsOs ot p st.L.length).2, OwnN ob → ∀ (o o' : Nat) (M' : Mem), M' o' = Mc o → (∀ b, Mc.ft o b → M'.ft o' b) → OR w' okc Mc o ob → OR w' okf M' o' ob) ∧
                (∀ o ob b off, ret.2[o]? = some ob → ob.live → hasB Mc o b → w.heap.size ≤ b → okf b off → ob.rd off) := by
              by_cases hw : (ot.all fun b => b.2.all (BTy.wff (G := G))) = true
              · rw [if_pos hw] at hfr
                subst hfr
                exact ⟨ok, ok, by rw [freeze_nil]; exact hm, .refl _ _ _, fun _ _ h => h, fun _ _ h => .inl h, fun ob hob _ o o' M' h1 h2 h3 => (cellsOs_wff _ _ _ hw ob hob).or hS h1 h2 h3, fun o ob b off _ _ _ h1 h2 => by have := hm.lt b off h2; omega⟩
              · rw [if_neg hw] at hfr
                subst hfr
                exact ⟨_, okc, hm1, he1, hc.rdA, fun b off hb => by
                  rcases hc.okN b off hb with q | q | q
                  · exact .inl q
                  · exact .inr ⟨q, hc.lt b off hb⟩
                  · exact q.elim, fun ob _ ho o o' M' h1 h2 h3 => ho.or hS h1 h2 h3, fun o ob b off h1 h2 h3 _ h4 => hc.own o ob b off h1 h2 h3 h4⟩
            obtain ⟨okb, okf, hmb, heb, hk1, hk2, hk3, hk4⟩ := key
            -- what came back, behind the caller's objects
            let K := (cellsOs ot p st.L.length).2.length
            let M2 : Mem := ⟨fun o => if o < st.L.length then M o else if o < st.L.length + K then Mc (o - st.L.length) else none, fun o b => if o < st.L.length then M.ft o b else Mc.ft (o - st.L.length) b⟩
            have hM2 : ∀ j x, j < K → Mc j = some x → M2 (st.L.length + j) = some x := fun j x hj hx => by
              simp only [M2]
              rw [if_neg (by omega), if_pos (by omega), Nat.add_sub_cancel_left]; exact hx
            have hlist := prjO_list hp
            obtain ⟨vs1, hp1, hret⟩ := hlist
            obtain ⟨g1, g2⟩ := cellsOs_own (w' := w') (okc := okc) (ok := okf) (Mc := Mc) (M2 := M2) (N := st.L.length) (K := K) (B := 0) hS (fun j x _ => hM2 j x) ot vs1 0 p (Nat.le_refl _) hp1 hwf (by simp [K])
            simp only [Nat.add_zero, Nat.zero_add] at g1 g2
            have hn2 : ∀ o ob, st.L.length ≤ o → (freeze st.L fr ++ (cellsOs ot p st.L.length).2)[o]? = some ob → ret.2[o - st.L.length]? = some ob ∧ OwnN ob ∧ o < st.L.length + K ∧ ob ∈ (cellsOs ot p st.L.length).2 := fun o ob ho hob => by
              rw [List.getElem?_append_right (by omega), hlf] at hob
              have := (List.getElem?_eq_some_iff.1 hob).1
              exact ⟨(g1 _ ob hob).1, (g1 _ ob hob).2, by omega, List.mem_of_getElem? hob⟩
            have hMn : ∀ o, st.L.length ≤ o → o < st.L.length + K → M2 o = Mc (o - st.L.length) ∧ ∀ b, M2.ft o b ↔ Mc.ft (o - st.L.length) b := fun o h1 h2 => by
              constructor
              · simp only [M2]; rw [if_neg (by omega), if_pos h2]
              · intro b; simp only [M2]; rw [if_neg (by omega)]
            have hMo : ∀ o, o < st.L.length → M2 o = M o ∧ ∀ b, M2.ft o b ↔ M.ft o b := fun o h1 => by
              constructor
              · simp only [M2]; rw [if_pos h1]
              · intro b; simp only [M2]; rw [if_pos h1]
            have hrec := hmb.recastK (M' := M2) (w' := w') (ok' := okf) (L' := freeze st.L fr ++ (cellsOs ot p st.L.length).2) (fun _ => False) (fun o => st.L.length ≤ o) hc.os hc.tape hc.output hc.size (fun _ h => h.elim) (fun b hb _ => hc.frame b hb (fun h => h)) (fun o x ho => by rw [(hMo o (hm.dom o x ho)).1]; exact ho)
              (fun o x ho => ?_) (fun o ob ho hl => ?_) hk1 hk2 (fun he o ob ho hl hch => ?_) (fun o ob b ho hl hch hb => ?_) (fun o1 o2 ob1 ob2 b h1 h2 l1 l2 c1 c2 b1 b2 => ?_)
            · refine ⟨v, M2, okf, rfl, hrec.1, heb.trans hrec.2, ?_⟩
              rcases hret with ⟨v1, rfl, hr1⟩ | ⟨hr1, hl1⟩
              · rw [hr1] at hvr
                have := g2 [v] (.sing hvr)
                have hl := this.1
                match hq : (cellsOs ot p st.L.length).1, hl with
                | [x], _ => rw [hq] at this; exact this.2 0 x v rfl rfl
              · rw [hr1] at hvr
                cases hvr with
                | tup _ l hl hh =>
                  have := g2 l ⟨hl, hh⟩
                  have hl2 : (cellsOs ot p st.L.length).1.length ≠ 1 := by rw [this.1, ← hl]; exact hl1
                  match hq : (cellsOs ot p st.L.length).1 with
                  | [x] => rw [hq] at hl2; simp at hl2
                  | [] => rw [hq] at this; exact .tup _ l this.1 this.2
                  | _ :: _ :: _ => rw [hq] at this; exact .tup _ l this.1 this.2
            · simp only [M2] at ho
              rw [List.length_append, hlf]
              split at ho
              · omega
              · split at ho
                · assumption
                · cases ho
            · by_cases hlt : o < st.L.length
              · rw [List.getElem?_append_left (by omega)] at ho
                exact .inl ⟨ho, fun h => h, (hMo o hlt).2⟩
              · exact .inr (by omega)
            · obtain ⟨h1, h2, h3, h4⟩ := hn2 o ob hch ho
              exact hk3 ob h4 h2 _ _ _ (hMn o hch h3).1 (fun b => ((hMn o hch h3).2 b).2) (hc.objs _ ob h1)
            · obtain ⟨h1, h2, h3, _⟩ := hn2 o ob hch ho
              have hb' : hasB Mc (o - st.L.length) b := by
                rcases hb with hb | hb
                · refine .inl ?_
                  simp only [blk, (hMn o hch h3).1] at hb
                  exact hb
                · exact .inr (((hMn o hch h3).2 b).1 hb)
              rcases hc.old _ ob b h1 hl hb' with h4 | h4
              · exact .inl ⟨h4, fun hf => hc.flt _ ob b h1 hl (((hMn o hch h3).2 b).1 hf), fun off hk => hk4 _ ob b off h1 hl hb' h4 hk⟩
              · exact h4.elim
            · obtain ⟨p1, p2, p3, _⟩ := hn2 o1 ob1 c1 h1
              obtain ⟨q1, q2, q3, _⟩ := hn2 o2 ob2 c2 h2
              have e1 := (hasB_congr' (hMn o1 c1 p3).1 ((hMn o1 c1 p3).2 b)).1 b1
              have e2 := (hasB_congr' (hMn o2 c2 q3).1 ((hMn o2 c2 q3).2 b)).1 b2
              have := hc.dis _ _ ob1 ob2 b p1 q1 l1 l2 e1 e2
              omega
          · exact run_fail h
        · exact run_fail h
      · exact run_fail h
    · exact run_fail h
theorem prjOn_list {n : Nat} {ot : List (Bool × List BTy)} {ret : Ret G.S} {p : oDen G.S ot} (hp : prjOn G n ot ret = some p) : ∃ vs1 : List (V G.S), prjOs G ret.2 ot vs1 n = some p ∧ ((∃ v1, vs1 = [v1] ∧ ret.1 = v1) ∨ (ret.1 = .tup vs1 ∧ vs1.length ≠ 1)) := by
 unfold prjOn at hp
 split at hp
 ·exact ⟨_, hp, .inl ⟨_, rfl, rfl⟩⟩
 ·rename_i hn1
  split at hp
  ·rename_i vs1 hr1
   refine ⟨vs1, hp, .inr ⟨hr1, fun hl => ?_⟩⟩
   have hlen2 : ∀ (ot : List (Bool × List BTy)) (vs : List (V G.S)) (d : Nat) (p : oDen G.S ot), prjOs G ret.2 ot vs d = some p → ot.length = vs.length := by
    intro ot
    induction ot with
    | nil => intro vs d p h; cases vs with | nil => rfl | cons => simp [prjOs] at h
    | cons b ot ih =>
     intro vs d p h
     cases vs with
     | nil => simp [prjOs] at h
     | cons v vs =>
      simp only [prjOs] at h
      split at h
      ·split at h
       ·split at h
        ·split at h
         ·rename_i hy; simp [ih vs _ _ hy]
         ·cases h
        ·cases h
       ·cases h
      ·cases h
   have := hlen2 ot vs1 n p hp
   rw [hl] at this
   obtain ⟨b1, rfl⟩ := List.length_eq_one_iff.1 this
   exact hn1 b1 rfl
  ·cases hp
theorem prjY_ok {ot : List (Bool × List BTy)} {bt : List (List BTy)} {ret : Ret G.S} {p : oDen G.S ot} {b : bxsDen G.S bt} (h : prjY G ot bt ret = some (p, b)) : prjOn G (bt.length + owNs bt) ot ret = some p ∧ prjBoxes G ret.2 bt ret.2 bt.length = some b := by
 unfold prjY at h
 split at h
 ·rename_i x hx
  split at h
  ·rename_i y hy
   cases h
   exact ⟨hx, hy⟩
  ·cases h
 ·cases h
theorem run_callY {g : Nat} {todo : List Item} {st : St G.S} {ot : List (Bool × List BTy)} {bt : List (List BTy)} {k : oDen G.S ot → bxsDen G.S bt → Tree G.S} (h : (Tree.callY g todo st ot bt k).run G Φ f = some r) :
  ∃ ret p b, Φ g todo st = some ret ∧ prjY G ot bt ret = some (p, b) ∧ (k p b).run G Φ f = some r := by
 simp only [Tree.run] at h
 cases h1 : Φ g todo st with
 | none => rw [h1] at h; cases h
 | some ret =>
  rw [h1] at h
  simp only [Option.bind_some] at h
  cases h2 : prjY G ot bt ret with
  | none => rw [h2] at h; cases h
  | some q => rw [h2] at h; exact ⟨ret, q.1, q.2, rfl, h2, h⟩
theorem cellsOf_len : ∀ (b : List BTy) (p : bxDen G.S b) (n : Nat), (cellsOf (G := G) b p n).2.1.length = owN b ∧ (cellsOf (G := G) b p n).2.2 = n + owN b
 | [], p, n => ⟨rfl, rfl⟩
 | .im t :: r, p, n => cellsOf_len r p.2 n
 | .ow e t :: r, p, n => by
  obtain ⟨h1, h2⟩ := cellsOf_len r p.2 (n + 1)
  simp only [cellsOf, owN, List.length_cons]
  omega
 | .tw e t :: r, p, n => by
  obtain ⟨h1, h2⟩ := cellsOf_len r p.2 (n + 1)
  simp only [cellsOf, owN, List.length_cons]
  omega
theorem backB_len2 : ∀ (os : List Nat) (bt : List (List BTy)) (p : bxsDen G.S bt) (n : Nat) (L : List (Obj G.S)), bt.length = os.length → (backB L os bt p n).2.length = owNs bt
 | [], [], p, n, L, _ => rfl
 | o :: os, b :: bt, p, n, L, h => by
  obtain ⟨h1, h2⟩ := cellsOf_len b p.1 n
  simp only [backB, owNs, List.length_append, h1]
  rw [backB_len2 os bt p.2 _ _ (by simpa using h)]
theorem callY_ok (hS : SigOk G) (hΦ : PhiOK C Φ) {g : FuncId} {args : List (V G.S)} {st : St G.S} {k : K G} (h : (callYT C g args st k).run G Φ f = some r) :
  ∃ v' st' rd wr, (st'.tm = st.tm ∧ st'.n0 = st.n0 ∧ (wr = [] → st'.L = st.L) ∧ ∀ b, b ∉ wr → b < st.L.length → st'.L[b]? = st.L[b]?) ∧ (∀ (w0 : World) (Fp : Fx) (okA : Okc) (M : Mem) (ok : Okc) (w : World) (vals : List Value), MI C w0 Fp okA M ok st.L w → VRs w ok M args vals →
   (callFunc g vals.toArray).run C.P w = .ok (.enter g vals.toArray) w ∧ Calls C.P g vals.toArray w (fun e w' => ∃ v M' ok', e = .returned v ∧ MI C w0 Fp okA M' ok' st'.L w' ∧ Ex M ok w M' ok' w' ∧ VR w' ok' M' v' v)) ∧
   (k v' st' rd wr).run G Φ f = some r := by
 unfold callYT at h
 split at h
 ·exact run_fail h
 ·rename_i fn hf
  split at h
  ·rename_i ot body hot hb
   split at h
   ·rename_i hc
    obtain ⟨hname, hwf⟩ := hc
    simp only at h
    split at h
    ·exact run_fail h
    ·rename_i q hcar
     split at h
     ·exact run_fail h
     ·rename_i vs0 q' hra
      split at h
      ·rename_i vs bt hno hbt
       split at h
       ·rename_i hcond
        obtain ⟨hnd, hun, hbn, hlen, hol⟩ := hcond
        rw [forceO_eq, forceL_eq] at h
        obtain ⟨ret, p, b, hphi, hprj, h⟩ := run_callY h
        simp only [forceO_eq, forceL_eq] at h
        obtain ⟨hp, hbx⟩ := prjY_ok hprj
        refine ⟨_, _, _, _, ⟨?_, ?_, (fun e => by cases e), fun c hc hlt => ?_⟩, fun w0 Fp okA M ok w vals hm hv => ⟨callFunc_run hf hname hb _ _, ?_⟩, h⟩
        ·rfl
        ·rfl
        ·simp only [List.mem_cons, List.mem_append, not_or] at hc
         obtain ⟨k1, k2⟩ := backB_keep (dedup (catL (refIds st.L 20) args)) bt b (freeze st.L (reachs st.L (args.filter fun v => !byRef v))).length (killA (freeze st.L (reachs st.L (args.filter fun v => !byRef v))) (q'.map.map (·.1))) hc.2.1.2
         have hl2 : (killA (freeze st.L (reachs st.L (args.filter fun v => !byRef v))) (q'.map.map (·.1))).length = st.L.length := by rw [(killA_ok _ _).1, freeze_length]
         show ((backB (killA (freeze st.L (reachs st.L (args.filter fun v => !byRef v))) (q'.map.map (·.1))) (dedup (catL (refIds st.L 20) args)) bt b (freeze st.L (reachs st.L (args.filter fun v => !byRef v))).length).1 ++ _)[c]? = _
         rw [List.getElem?_append_left (by rw [k2, hl2]; exact hlt), k1, killA_keep _ _ hc.2.1.1, freeze_keep _ hc.2.2]
        obtain ⟨hm1, he1⟩ := hm.freeze hS (reachs st.L (args.filter fun v => !byRef v))
        obtain ⟨M2, hri, hpin⟩ := carry_ok hS hm1 hcar (nodupB_ok hnd)
        have hbox := fun o ho => fillB_box (show fillB false _ _ 0 _ = some q from hcar) o ho
        obtain ⟨M3, ⟨hri3, hle, _, hfm⟩, hvs⟩ := rargs_ok hS hm1 he1 args q vs0 q' M2 hra hri (snaps_reach hS hm args byRef)
        have hvs1 := normR_ok hS hno (hvs vals hv)
        have hmR : MI C w0 ⟨Fp.p, fun _ => none⟩ okA M3 _ q'.L w := hri3.mi hS hm1.unpin (fun i x hi => by cases hi)
        refine (calls_of_phiR hΦ hf hb hmR hvs1 hlen hphi).mono ?_
        rintro e w' ⟨v, rfl, Mc, okc, hc, hvr⟩
        generalize hold : freeze st.L (reachs st.L (args.filter fun v => !byRef v)) = old at *
        generalize hos : dedup (catL (refIds st.L 20) args) = os at *
        have hbl := boxTys_len hbt
        have hz2 := backB_len2 os bt b old.length (killA old (q'.map.map (·.1))) hbl
        obtain ⟨vs1, hp1, hret⟩ := prjOn_list hp
        have eN : old.length - os.length + (bt.length + owNs bt) = old.length + owNs bt := by omega
        have g1 := (cellsOs_own (w' := w') (okc := okc) (ok := okc) (Mc := Mc) (M2 := ⟨fun o => Mc (o - (old.length - os.length)), fun _ _ => False⟩) (N := old.length - os.length) (K := bt.length + owNs bt + (cellsOs ot p (old.length + owNs bt)).2.length) (B := 0) hS (fun j x _ _ hx => by
         show Mc (old.length - os.length + j - (old.length - os.length)) = some x
         rw [Nat.add_sub_cancel_left]; exact hx) ot vs1 _ p (Nat.zero_le _) hp1 hwf (by rw [eN]; exact Nat.le_refl _)).1
        rw [eN] at g1
        obtain ⟨M4, h1, h2, h3⟩ := MI.backG hS hm1 (os := os) hri3 (nodupB_ok hnd) hun (fun j o ho => by
         obtain ⟨a1, b1, te1, a2, a3⟩ := hpin j o ho
         exact ⟨hfm _ _ a1, b1, te1, a2, hle.hd _ _ a3⟩) hbox hc hbl hbn hbx (cellsOs ot p (old.length + owNs bt)).2 (fun j ob hj => by
         obtain ⟨k1, k2⟩ := g1 j ob hj
         refine ⟨by rw [hz2, ← hbl, ← Nat.add_assoc]; exact k1, k2.rd, fun i o M5 e1 e2 e3 => k2.or hS e1 e2 e3⟩)
        have g2 := (cellsOs_own (w' := w') (okc := okc) (ok := okc) (Mc := Mc) (M2 := M4) (N := old.length - os.length) (K := bt.length + owNs bt + (cellsOs ot p (old.length + owNs bt)).2.length) (B := os.length) hS (fun j x hB hj hx => by
         have := h3 j x hB (by rw [hz2]; omega) hx
         rw [show old.length - os.length + j = old.length + (j - os.length) by omega]; exact this) ot vs1 _ p (by omega) hp1 hwf (by rw [eN]; exact Nat.le_refl _)).2
        rw [eN] at g2
        refine ⟨v, M4, okc, rfl, h1, he1.trans h2, ?_⟩
        rcases hret with ⟨v1, rfl, hr1⟩ | ⟨hr1, hl1⟩
        ·rw [hr1] at hvr
         have := g2 [v] (.sing hvr)
         have hl := this.1
         match hq : (cellsOs ot p (old.length + owNs bt)).1, hl with
         | [x], _ => rw [hq] at this; exact this.2 0 x v rfl rfl
        ·rw [hr1] at hvr
         cases hvr with
         | tup _ l hl hh =>
          have := g2 l ⟨hl, hh⟩
          have hl2 : (cellsOs ot p (old.length + owNs bt)).1.length ≠ 1 := by rw [this.1, ← hl]; exact hl1
          match hq : (cellsOs ot p (old.length + owNs bt)).1 with
          | [x] => rw [hq] at hl2; simp at hl2
          | [] => rw [hq] at this; exact .tup _ l this.1 this.2
          | _ :: _ :: _ => rw [hq] at this; exact .tup _ l this.1 this.2
       ·exact run_fail h
      ·exact run_fail h
   ·exact run_fail h
  ·exact run_fail h
theorem pinTys_ok : ∀ {l : List (Obj G.S)} {wt : List BTy}, pinTys l = some wt → wt.length = l.length ∧ (∀ (i : Nat) (ob : Obj G.S), l[i]? = some ob → OwnOb ob) ∧ (∀ e t, BTy.ow e t ∈ wt → Ty.fl G t = true)
 | [], wt, h => by simp [pinTys] at h; subst h; exact ⟨rfl, fun i ob h => by simp at h, fun e t h => by cases h⟩
 | ob :: l, wt, h => by
  cases ob with
  | arr e t xs fz =>
   cases fz with
   | true => simp [pinTys] at h
   | false =>
    simp only [pinTys] at h
    split at h
    ·rename_i hf
     cases hp : pinTys l with
     | none => rw [hp] at h; cases h
     | some wt' =>
      rw [hp] at h
      simp only [Option.map_some, Option.some.injEq] at h
      subst h
      obtain ⟨h1, h2, h3⟩ := pinTys_ok hp
      refine ⟨by simp [h1], fun i ob hi => ?_, fun e' t' hm => ?_⟩
      ·cases i with
       | zero => simp at hi; subst hi; exact .inl ⟨e, t, xs, rfl, hf⟩
       | succ i => exact h2 i ob (by simpa using hi)
      ·cases hm with
       | head => exact hf
       | tail _ hm => exact h3 e' t' hm
    ·cases h
  | tr e t xs hs =>
   cases hs with
   | cons => simp [pinTys] at h
   | nil =>
    simp only [pinTys] at h
    cases hp : pinTys l with
    | none => rw [hp] at h; cases h
    | some wt' =>
     rw [hp] at h
     simp only [Option.map_some, Option.some.injEq] at h
     subst h
     obtain ⟨h1, h2, h3⟩ := pinTys_ok hp
     refine ⟨by simp [h1], fun i ob hi => ?_, fun e' t' hm => ?_⟩
     ·cases i with
      | zero => simp at hi; subst hi; exact .inr ⟨e, t, xs, rfl⟩
      | succ i => exact h2 i ob (by simpa using hi)
     ·cases hm with
      | tail _ hm => exact h3 e' t' hm
  | _ => simp [pinTys] at h
theorem prjPins_ok : ∀ {wt : List BTy} {os : List (Obj G.S)} {b : bxDen G.S wt}, prjPins G wt os = some b → (∀ e t, BTy.ow e t ∈ wt → Ty.fl G t = true) → (callWT.pinsOf wt b).length = wt.length ∧ ∀ (i : Nat) (ob : Obj G.S), (callWT.pinsOf wt b)[i]? = some ob → os[i]? = some ob ∧ OwnOb ob
 | [], os, b, _, _ => ⟨rfl, fun i ob h => by simp [callWT.pinsOf] at h⟩
 | .im t :: r, os, b, h, _ => by simp [prjPins] at h
 | .ow e t :: r, [], b, h, _ => by simp [prjPins] at h
 | .tw e t :: r, [], b, h, _ => by simp [prjPins] at h
 | .ow e t :: r, ob :: os, b, h, hf => by
  cases ob with
  | arr e' t' xs fz =>
   cases fz with
   | true => simp [prjPins] at h
   | false =>
    simp only [prjPins] at h
    split at h
    ·rename_i he
     subst he
     split at h
     ·rename_i ht
      subst ht
      split at h
      ·rename_i y hy
       cases h
       obtain ⟨h1, h2⟩ := prjPins_ok hy (fun e t hm => hf e t (by simp [hm]))
       refine ⟨by simp [callWT.pinsOf, h1], fun i ob hi => ?_⟩
       simp only [callWT.pinsOf] at hi
       cases i with
       | zero => simp at hi; subst hi; exact ⟨rfl, .inl ⟨_, _, _, rfl, hf e' t' (by simp)⟩⟩
       | succ i => simp at hi; exact h2 i ob hi
      ·cases h
     ·cases h
    ·cases h
  | _ => simp [prjPins] at h
 | .tw e t :: r, ob :: os, b, h, hf => by
  cases ob with
  | tr e' t' xs hs =>
   cases hs with
   | cons => simp [prjPins] at h
   | nil =>
    simp only [prjPins] at h
    split at h
    ·rename_i he
     subst he
     split at h
     ·rename_i ht
      subst ht
      split at h
      ·rename_i y hy
       cases h
       obtain ⟨h1, h2⟩ := prjPins_ok hy (fun e t hm => hf e t (by simp [hm]))
       refine ⟨by simp [callWT.pinsOf, h1], fun i ob hi => ?_⟩
       simp only [callWT.pinsOf] at hi
       cases i with
       | zero => simp at hi; subst hi; exact ⟨rfl, .inr ⟨_, _, _, rfl⟩⟩
       | succ i => simp at hi; exact h2 i ob hi
      ·cases h
     ·cases h
    ·cases h
  | _ => simp [prjPins] at h
theorem wback_len : ∀ (m : List (Nat × Nat)) (L os : List (Obj G.S)), (wback L m os).length = L.length
 | [], L, os => rfl
 | (o, i) :: m, L, os => by
  simp only [wback]
  split
  ·rw [wback_len m]; simp
  ·exact wback_len m L os
theorem wback_keep : ∀ (m : List (Nat × Nat)) (L os : List (Obj G.S)) {q : Nat}, q ∉ m.map (·.1) → (wback L m os)[q]? = L[q]?
 | [], L, os, q, _ => rfl
 | (o, i) :: m, L, os, q, h => by
  simp only [List.map_cons, List.mem_cons, not_or] at h
  simp only [wback]
  split
  ·rw [wback_keep m _ _ h.2, List.getElem?_set_ne (fun e => h.1 e.symm)]
  ·exact wback_keep m L os h.2
theorem wback_get : ∀ (m : List (Nat × Nat)) (L os : List (Obj G.S)) {q : Nat} {ob : Obj G.S}, (m.map (·.1)).Nodup → q ∈ m.map (·.1) → (wback L m os)[q]? = some ob → (∃ i, (q, i) ∈ m ∧ os[i]? = some ob) ∨ ∃ i, (q, i) ∈ m ∧ os[i]? = none
  | (o, i) :: m, L, os, q, ob, hn, hq, h => by
    simp only [List.map_cons, List.nodup_cons] at hn
    simp only [wback] at h
    by_cases e : q = o
    · subst e
      cases ho : os[i]? with
      | none => exact .inr ⟨i, by simp, ho⟩
      | some ob1 =>
        rw [ho] at h
        simp only at h
        rw [wback_keep m _ _ hn.1] at h
        rcases set_split h with ⟨_, rfl, _⟩ | ⟨h1, _⟩
        · exact .inl ⟨i, by simp, ho⟩
        · exact (h1 rfl).elim
    · have hq' : q ∈ m.map (·.1) := by
        simp only [List.map_cons, List.mem_cons] at hq
        rcases hq with h1 | h1
        · exact (e h1).elim
        · exact h1
      split at h
      · rcases wback_get m _ _ hn.2 hq' h with ⟨j, h1, h2⟩ | ⟨j, h1, h2⟩
        · exact .inl ⟨j, by simp [h1], h2⟩
        · exact .inr ⟨j, by simp [h1], h2⟩
      · rcases wback_get m _ _ hn.2 hq' h with ⟨j, h1, h2⟩ | ⟨j, h1, h2⟩
        · exact .inl ⟨j, by simp [h1], h2⟩
        · exact .inr ⟨j, by simp [h1], h2⟩
theorem find_mem : ∀ {m : List (Nat × Nat)} {o i : Nat}, (m.map (·.1)).Nodup → (o, i) ∈ m → Rn.find m o = some i
 | (a, b) :: m, o, i, hn, h => by
  simp only [List.map_cons, List.nodup_cons] at hn
  simp only [Rn.find]
  cases h with
  | head => simp
  | tail _ h =>
   rw [if_neg (by rintro rfl; exact hn.1 (List.mem_map.2 ⟨_, h, rfl⟩))]
   exact find_mem hn.2 h
theorem mem_find : ∀ {m : List (Nat × Nat)} {o i : Nat}, Rn.find m o = some i → (o, i) ∈ m
 | (a, b) :: m, o, i, h => by
  simp only [Rn.find] at h
  split at h
  ·rename_i e; cases h; subst e; exact .head _
  ·exact .tail _ (mem_find h)
theorem val_inj : ∀ {m : List (Nat × Nat)} {o o' i : Nat}, (m.map (·.2)).Nodup → (o, i) ∈ m → (o', i) ∈ m → o = o'
 | (a, b) :: m, o, o', i, hn, h, h' => by
  simp only [List.map_cons, List.nodup_cons] at hn
  cases h with
  | head =>
   cases h' with
   | head => rfl
   | tail _ h' => exact (hn.1 (List.mem_map.2 ⟨_, h', rfl⟩)).elim
  | tail _ h =>
   cases h' with
   | head => exact (hn.1 (List.mem_map.2 ⟨_, h, rfl⟩)).elim
   | tail _ h' => exact val_inj hn.2 h h'
theorem callW_ok (hS : SigOk G) (hΦ : PhiOK C Φ) {g : FuncId} {args : List (V G.S)} {st : St G.S} {k : K G} (h : (callWT C g args st k).run G Φ f = some r) :
    ∃ v' st' rd wr, (st'.tm = st.tm ∧ st'.n0 = st.n0 ∧ (wr = [] → st'.L = st.L) ∧ ∀ b, b ∉ wr → b < st.L.length → st'.L[b]? = st.L[b]?) ∧ (∀ (w0 : World) (Fp : Fx) (okA : Okc) (M : Mem) (ok : Okc) (w : World) (vals : List Value), MI C w0 Fp okA M ok st.L w → VRs w ok M args vals →
      (callFunc g vals.toArray).run C.P w = .ok (.enter g vals.toArray) w ∧ Calls C.P g vals.toArray w (fun e w' => ∃ v M' ok', e = .returned v ∧ MI C w0 Fp okA M' ok' st'.L w' ∧ Ex M ok w M' ok' w' ∧ VR w' ok' M' v' v)) ∧
      (k v' st' rd wr).run G Φ f = some r := by
  unfold callWT at h
  split at h
  · exact run_fail h
  · rename_i fn hf
    split at h
    · rename_i rt body hrt hb
      split at h
      · rename_i hc
        obtain ⟨hname, hflat⟩ := hc
        split at h
        · rename_i vs q hmap
          split at h
          · rename_i wt hwt
            split at h
            · rename_i hcond
              obtain ⟨hlen, hnk, hnv, hown⟩ := hcond
              rw [forceO_eq, forceL_eq] at h
              obtain ⟨ret, p, b, hphi, hp, hpb, h⟩ := run_callW h
              simp only [forceO_eq] at h
              have hnk := nodupB_ok hnk
              have hnv := nodupB_ok hnv
              obtain ⟨hwl, hwo, hwf⟩ := pinTys_ok hwt
              obtain ⟨hpl, hpo⟩ := prjPins_ok hpb hwf
              refine ⟨_, _, _, _, ⟨?_, ?_, (fun e => by cases e), fun b hb hlt => wback_keep _ _ _ (fun hm => hb (List.mem_cons_of_mem _ hm))⟩, fun w0 Fp okA M ok w vals hm hv => ⟨callFunc_run hf hname hb _ _, ?_⟩, h⟩
              · rfl
              · rfl
              have hri0 : RI (G := G) w ok st.L M ⟨[], []⟩ Mem.no := ⟨fun o x h => by simp [Mem.no] at h, fun o o' h => by simp [Rn.find] at h, fun o' ob' h => by simp at h⟩
              obtain ⟨M3, ⟨hri, _⟩, hvs⟩ := mapS_ok (rnV_ok hS hm 20) args _ vs q _ hmap hri0
              have hvs1 := hvs vals hv
              have hmR : MI C w0 ⟨Fp.p, fun _ => none⟩ okA M3 ok q.L w := hri.mi hS hm.unpin (fun i x hi => by cases hi)
              refine (calls_of_phiR hΦ hf hb hmR hvs1 hlen hphi).mono ?_
              rintro e w' ⟨v, rfl, Mc, okc, hc, hvr⟩
              -- where things lie
              have hmapped : ∀ o i, (o, i) ∈ q.map → i < q.L.length ∧ (∃ x, M o = some x ∧ Mc i = some x) ∧ (∀ bb, hasB M3 i bb ↔ hasB M o bb) := fun o i hoi => by
                obtain ⟨h1, x, h2, h3, h4⟩ := hri.fnd o i (find_mem hnk hoi)
                exact ⟨h1, ⟨x, h2, hc.pin i x (by simp only [fxOf]; rw [if_pos h1]; exact h3)⟩, fun bb => hasB_congr' (h3.trans h2.symm) (h4 bb)⟩
              have hsrc : ∀ i ob bb, q.L[i]? = some ob → ob.live → hasB M3 i bb → ∃ o, (o, i) ∈ q.map ∧ (∃ ob0, st.L[o]? = some ob0 ∧ ob0.live ∧ ∀ off, ¬ ob0.rd off) ∧ hasB M o bb := fun i ob bb h1 h2 h3 => by
                obtain ⟨o, ob0, f1, f2, f3, f4, f5⟩ := hri.src i ob bb h1 h2 h3
                refine ⟨o, mem_find f1, ⟨ob0, f2, f3, ?_⟩, f4⟩
                have := (hwo i ob h1).rd
                cases f5 <;> exact this
              have hlive : ∀ o i, (o, i) ∈ q.map → ∃ ob, st.L[o]? = some ob ∧ ob.live ∧ ∀ off, ¬ ob.rd off := fun o i hoi => by
                rw [List.all_eq_true] at hown
                have h1 := hown _ hoi
                unfold ownB at h1
                split at h1
                · rename_i h2; exact ⟨_, h2, trivial, fun _ h => by cases h⟩
                · rename_i h2; exact ⟨_, h2, trivial, fun _ h => h⟩
                · cases h1
              let M2 : Mem := ⟨M.hd, fun o bb => (∃ i, (o, i) ∈ q.map ∧ Mc.ft i bb) ∨ (o ∉ q.map.map (·.1) ∧ M.ft o bb)⟩
              have hkey : ∀ o, o ∈ q.map.map (·.1) → ∃ i, (o, i) ∈ q.map := fun o ho => by
                obtain ⟨p, hp, rfl⟩ := List.mem_map.1 ho
                exact ⟨p.2, hp⟩
              have hM2 : ∀ o i, (o, i) ∈ q.map → (∀ bb, hasB M2 o bb ↔ hasB Mc i bb) ∧ M2 o = Mc i ∧ ∀ bb, M2.ft o bb ↔ Mc.ft i bb := fun o i hoi => by
                obtain ⟨_, ⟨x, h2, h3⟩, _⟩ := hmapped o i hoi
                have e1 : M2 o = Mc i := by show M o = Mc i; rw [h2, h3]
                have e2 : ∀ bb, M2.ft o bb ↔ Mc.ft i bb := fun bb => by
                  constructor
                  · rintro (⟨j, h4, h5⟩ | ⟨h4, _⟩)
                    · have : j = i := by have := find_mem hnk h4; rw [find_mem hnk hoi] at this; exact (Option.some.inj this).symm
                      subst this; exact h5
                    · exact (h4 (List.mem_map.2 ⟨_, hoi, rfl⟩)).elim
                  · exact fun h => .inl ⟨i, hoi, h⟩
                exact ⟨fun bb => hasB_congr' e1 (e2 bb), e1, e2⟩
              have hnew : ∀ o ob, o ∈ q.map.map (·.1) → (wback st.L q.map (callWT.pinsOf wt b))[o]? = some ob → ∃ i, (o, i) ∈ q.map ∧ ret.2[i]? = some ob ∧ OwnOb ob := fun o ob ho hob => by
                rcases wback_get _ _ _ hnk ho hob with ⟨i, h1, h2⟩ | ⟨i, h1, h2⟩
                · exact ⟨i, h1, hpo i ob h2⟩
                · obtain ⟨h3, _⟩ := hmapped o i h1
                  rw [List.getElem?_eq_none_iff, hpl, hwl] at h2
                  omega
              have hfx : ∀ bb, (fxOf q.L M3 q.L.length).p bb → ∃ o, o ∈ q.map.map (·.1) ∧ hasB M o bb := by
                rintro bb ⟨i, ob, h1, h2, h3⟩
                obtain ⟨o, h4, _, h5⟩ := hsrc i ob bb h1 h2 h3
                exact ⟨o, List.mem_map.2 ⟨_, h4, rfl⟩, h5⟩
              have hrec := hm.recast (M' := M2) (w' := w') (L' := wback st.L q.map (callWT.pinsOf wt b)) (fun o => o ∈ q.map.map (·.1)) (fun o => o ∈ q.map.map (·.1)) hc.os hc.tape hc.output hc.size (fun o ho => by
                  obtain ⟨i, hi⟩ := hkey o ho
                  exact hlive o i hi) (fun bb hb hn => hc.frame bb hb fun hx => by
                  obtain ⟨o, h1, h2⟩ := hfx bb hx
                  exact hn o h1 h2) (fun _ _ h => h) (fun o x ho => by rw [wback_len]; exact hm.dom o x ho) (fun o ob ho hl => ?_) (fun he o ob ho hl hch => ?_) (fun o ob bb ho hl hch hb => ?_) (fun o1 o2 ob1 ob2 bb h1 h2 l1 l2 c1 c2 b1 b2 => ?_)
              · exact ⟨v, M2, ok, rfl, hrec.1, hrec.2, flat_any rt p v hflat (prjR_ok hS hp hvr)⟩
              · by_cases hk : o ∈ q.map.map (·.1)
                · exact .inr hk
                · rw [wback_keep _ _ _ hk] at ho
                  refine .inl ⟨ho, hk, fun bb => ⟨?_, fun h => .inr ⟨hk, h⟩⟩⟩
                  rintro (⟨i, h1, _⟩ | ⟨_, h1⟩)
                  · exact (hk (List.mem_map.2 ⟨_, h1, rfl⟩)).elim
                  · exact h1
              · obtain ⟨i, h1, h2, h3⟩ := hnew o ob hch ho
                exact h3.or hS (hM2 o i h1).2.1 (fun bb => ((hM2 o i h1).2.2 bb).2) (hc.objs i ob h2)
              · obtain ⟨i, h1, h2, h3⟩ := hnew o ob hch ho
                have hb' := ((hM2 o i h1).1 bb).1 hb
                rcases hc.old i ob bb h2 hl hb' with h4 | h4
                · exact .inl ⟨h4, fun hf => hc.flt i ob bb h2 hl (((hM2 o i h1).2.2 bb).1 hf)⟩
                · exact .inr (hfx bb h4)
              · obtain ⟨i1, p1, p2, p3⟩ := hnew o1 ob1 c1 h1
                obtain ⟨i2, q1, q2, q3⟩ := hnew o2 ob2 c2 h2
                have := hc.dis i1 i2 ob1 ob2 bb p2 q2 l1 l2 (((hM2 o1 i1 p1).1 bb).1 b1) (((hM2 o2 i2 q1).1 bb).1 b2)
                subst this
                exact val_inj hnv p1 q1
            · exact run_fail h
          · exact run_fail h
        · exact run_fail h
      · exact run_fail h
    · exact run_fail h
theorem kill0_eq : ∀ (os : List Nat) (L : List (Obj G.S)), callXT.killAll0 L os = killAll L os
 | [], L => rfl
 | o :: r, L => by simp only [callXT.killAll0, killAll]; exact kill0_eq r _
theorem normX_ok (hS : SigOk G) {w : World} {ok : Okc} {M : Mem} : ∀ {ts : List TypeId} {vs us : List (V G.S)} {l : List Value}, normX ts vs = some us → VRs w ok M vs l → VRs w ok M us l
 | [], vs, us, l, h, hv => by simp [normX] at h; subst h; exact hv
 | t :: ts, [], us, l, h, hv => by simp [normX] at h
 | t :: ts, v :: vs, us, l, h, hv => by
  obtain ⟨u, l', rfl, h1, h2⟩ := hv.inv
  simp only [normX] at h
  split at h
  ·split at h
   ·rename_i l2 hl2; cases h; exact .cons h1 (normX_ok hS hl2 h2)
   ·cases h
  ·split at h
   ·split at h
    ·rename_i ty hty x l2 hx hl2
     cases h
     exact .cons (prj_ok hS hx h1).2 (normX_ok hS hl2 h2)
    ·cases h
   ·split at h
    ·rename_i l2 hl2
     cases h
     exact .cons h1 (normX_ok hS hl2 h2)
    ·cases h
theorem callX_ok (hS : SigOk G) (hΦ : PhiOK C Φ) {g : FuncId} {args : List (V G.S)} {st : St G.S} {k : K G} (h : (callXT C g args st k).run G Φ f = some r) :
    ∃ v' st' rd wr, (st'.tm = st.tm ∧ st'.n0 = st.n0 ∧ (wr = [] → st'.L = st.L) ∧ ∀ b, b ∉ wr → b < st.L.length → st'.L[b]? = st.L[b]?) ∧ (∀ (w0 : World) (Fp : Fx) (okA : Okc) (M : Mem) (ok : Okc) (w : World) (vals : List Value), MI C w0 Fp okA M ok st.L w → VRs w ok M args vals →
      (callFunc g vals.toArray).run C.P w = .ok (.enter g vals.toArray) w ∧ Calls C.P g vals.toArray w (fun e w' => ∃ v M' ok', e = .returned v ∧ MI C w0 Fp okA M' ok' st'.L w' ∧ Ex M ok w M' ok' w' ∧ VR w' ok' M' v' v)) ∧
      (k v' st' rd wr).run G Φ f = some r := by
  unfold callXT at h
  split at h
  · exact run_fail h
  · rename_i fn hf
    split at h
    · rename_i ot body hot hb
      split at h
      · rename_i hname
        simp only at h
        split at h
        · rename_i vs0 q hmap
          split at h
          · rename_i wt vs hwt hnx
            split at h
            · rename_i hcond
              obtain ⟨hlen, hnk, hown, hwf, hwff⟩ := hcond
              rw [forceO_eq, forceL_eq] at h
              obtain ⟨ret, p, hphi, hp, h⟩ := run_callO h
              simp only [forceO_eq, forceL_eq, kill0_eq] at h
              have hnk := nodupB_ok hnk
              obtain ⟨hwl, hwo, hwfl⟩ := pinTys_ok hwt
              refine ⟨_, _, _, _, ⟨?_, ?_, (fun e => by cases e), fun b hb hlt => ?_⟩, fun w0 Fp okA M ok w vals hm hv => ⟨callFunc_run hf hname hb _ _, ?_⟩, h⟩
              · rfl
              · rfl
              · simp only [List.mem_cons, List.mem_append, not_or] at hb
                show (killAll (freeze st.L _) _ ++ _)[b]? = _
                rw [List.getElem?_append_left (by rw [killAll_len, freeze_length]; exact hlt), killAll_keep _ _ hb.2.1, freeze_keep _ hb.2.2]
              obtain ⟨hm1, he1⟩ := hm.freeze hS (reachs st.L (args.filter fun v => !isArrV v))
              have hri0 : RI (G := G) w (okF M ok st.L (reachs st.L (args.filter fun v => !isArrV v))) (freeze st.L (reachs st.L (args.filter fun v => !isArrV v))) M ⟨[], []⟩ Mem.no := ⟨fun o x h => by simp [Mem.no] at h, fun o o' h => by simp [Rn.find] at h, fun o' ob' h => by simp at h⟩
              obtain ⟨M3, ⟨hri, _⟩, hvs⟩ := rargs_ok hS hm1 he1 args ⟨[], []⟩ vs0 q Mem.no hmap hri0 (snaps_reach hS hm args isArrV)
              have hvs1 := normX_ok hS hnx (hvs vals hv)
              have hmR : MI C w0 ⟨Fp.p, fun _ => none⟩ okA M3 (okF M ok st.L (reachs st.L (args.filter fun v => !isArrV v))) q.L w := hri.mi hS hm1.unpin (fun i x hi => by cases hi)
              refine (calls_of_phiR hΦ hf hb hmR hvs1 hlen hphi).mono ?_
              rintro e w' ⟨v, rfl, Mc, okc, hc, hvr⟩
              generalize hfz : freeze st.L (reachs st.L (args.filter fun v => !isArrV v)) = old at *
              have hol : old.length = st.L.length := by rw [← hfz, freeze_length]
              have hsrc : ∀ i ob bb, q.L[i]? = some ob → ob.live → hasB M3 i bb → ∃ o, o ∈ q.map.map (·.1) ∧ hasB M o bb := fun i ob bb h1 h2 h3 => by
                obtain ⟨o, ob0, f1, f2, f3, f4, f5⟩ := hri.src i ob bb h1 h2 h3
                exact ⟨o, List.mem_map.2 ⟨_, mem_find f1, rfl⟩, f4⟩
              have hlive : ∀ o, o ∈ q.map.map (·.1) → ∃ ob, old[o]? = some ob ∧ ob.live ∧ ∀ off, ¬ ob.rd off := fun o ho => by
                obtain ⟨pr, hpr, rfl⟩ := List.mem_map.1 ho
                rw [List.all_eq_true] at hown
                have h1 := hown _ hpr
                unfold ownB at h1
                split at h1
                · rename_i h2; exact ⟨_, h2, trivial, fun _ h => by cases h⟩
                · rename_i h2; exact ⟨_, h2, trivial, fun _ h => h⟩
                · cases h1
              have hfx : ∀ bb, (fxOf q.L M3 0).p bb → ∃ o, o ∈ q.map.map (·.1) ∧ hasB M o bb := by
                rintro bb ⟨i, ob, h1, h2, h3⟩
                exact hsrc i ob bb h1 h2 h3
              -- what came back, behind the caller's objects
              let K := (cellsOs ot p st.L.length).2.length
              let M2 : Mem := ⟨fun o => if o < st.L.length then M o else if o < st.L.length + K then Mc (o - st.L.length) else none, fun o b => if o < st.L.length then M.ft o b else Mc.ft (o - st.L.length) b⟩
              have hM2 : ∀ j x, j < K → Mc j = some x → M2 (st.L.length + j) = some x := fun j x hj hx => by
                simp only [M2]
                rw [if_neg (by omega), if_pos (by omega), Nat.add_sub_cancel_left]; exact hx
              have hlist : ∃ vs1 : List (V G.S), prjOs G ret.2 ot vs1 0 = some p ∧ ((∃ v1, vs1 = [v1] ∧ ret.1 = v1) ∨ (ret.1 = .tup vs1 ∧ vs1.length ≠ 1)) := prjO_list hp
              obtain ⟨vs1, hp1, hret⟩ := hlist
              obtain ⟨g1, g2⟩ := cellsOs_own (w' := w') (okc := okc) (ok := okF M ok st.L (reachs st.L (args.filter fun v => !isArrV v))) (Mc := Mc) (M2 := M2) (N := st.L.length) (K := K) (B := 0) hS (fun j x _ => hM2 j x) ot vs1 0 p (Nat.le_refl _) hp1 hwf (by simp [K])
              simp only [Nat.add_zero, Nat.zero_add] at g1 g2
              have hkl : (killAll old (q.map.map (·.1))).length = st.L.length := (killAll_len _ _).trans hol
              have hn2 : ∀ o ob, st.L.length ≤ o → (killAll old (q.map.map (·.1)) ++ (cellsOs ot p st.L.length).2)[o]? = some ob → ret.2[o - st.L.length]? = some ob ∧ OwnOb ob ∧ o < st.L.length + K := fun o ob ho hob => by
                rw [List.getElem?_append_right (by omega), hkl] at hob
                have := (List.getElem?_eq_some_iff.1 hob).1
                exact ⟨(g1 _ ob hob).1, cellsOs_wff _ _ _ hwff _ (List.mem_of_getElem? hob), by omega⟩
              have hMn : ∀ o, st.L.length ≤ o → o < st.L.length + K → M2 o = Mc (o - st.L.length) ∧ ∀ b, M2.ft o b ↔ Mc.ft (o - st.L.length) b := fun o h1 h2 => by
                constructor
                · simp only [M2]; rw [if_neg (by omega), if_pos h2]
                · intro b; simp only [M2]; rw [if_neg (by omega)]
              have hMo : ∀ o, o < st.L.length → M2 o = M o ∧ ∀ b, M2.ft o b ↔ M.ft o b := fun o h1 => by
                constructor
                · simp only [M2]; rw [if_pos h1]
                · intro b; simp only [M2]; rw [if_pos h1]
              have hrec := hm1.recast (M' := M2) (w' := w') (L' := killAll old (q.map.map (·.1)) ++ (cellsOs ot p st.L.length).2) (fun o => o ∈ q.map.map (·.1)) (fun o => st.L.length ≤ o) hc.os hc.tape hc.output hc.size hlive (fun b hb hn => hc.frame b hb fun hx => by
                  obtain ⟨o, h1, h2⟩ := hfx b hx
                  exact hn o h1 h2) (fun o x ho => by rw [(hMo o (hm.dom o x ho)).1]; exact ho)
                (fun o x ho => ?_) (fun o ob ho hl => ?_) (fun he o ob ho hl hch => ?_) (fun o ob b ho hl hch hb => ?_) (fun o1 o2 ob1 ob2 b h1 h2 l1 l2 c1 c2 b1 b2 => ?_)
              · refine ⟨v, M2, _, rfl, hrec.1, he1.trans hrec.2, ?_⟩
                rcases hret with ⟨v1, rfl, hr1⟩ | ⟨hr1, hl1⟩
                · rw [hr1] at hvr
                  have := g2 [v] (.sing hvr)
                  have hl := this.1
                  match hq : (cellsOs ot p st.L.length).1, hl with
                  | [x], _ => rw [hq] at this; exact this.2 0 x v rfl rfl
                · rw [hr1] at hvr
                  cases hvr with
                  | tup _ l hl hh =>
                    have := g2 l ⟨hl, hh⟩
                    have hl2 : (cellsOs ot p st.L.length).1.length ≠ 1 := by rw [this.1, ← hl]; exact hl1
                    match hq : (cellsOs ot p st.L.length).1 with
                    | [x] => rw [hq] at hl2; simp at hl2
                    | [] => rw [hq] at this; exact .tup _ l this.1 this.2
                    | _ :: _ :: _ => rw [hq] at this; exact .tup _ l this.1 this.2
              · simp only [M2] at ho
                rw [List.length_append, hkl]
                split at ho
                · omega
                · split at ho
                  · assumption
                  · cases ho
              · by_cases hlt : o < st.L.length
                · rw [List.getElem?_append_left (by omega)] at ho
                  obtain ⟨h1, h2⟩ := killAll_live _ _ ho hl
                  exact .inl ⟨h1, h2, (hMo o hlt).2⟩
                · exact .inr (by omega)
              · obtain ⟨h1, h2, h3⟩ := hn2 o ob hch ho
                exact h2.or hS (hMn o hch h3).1 (fun b => ((hMn o hch h3).2 b).2) (hc.objs _ ob h1)
              · obtain ⟨h1, h2, h3⟩ := hn2 o ob hch ho
                have hb' : hasB Mc (o - st.L.length) b := by
                  rcases hb with hb | hb
                  · refine .inl ?_
                    simp only [blk, (hMn o hch h3).1] at hb
                    exact hb
                  · exact .inr (((hMn o hch h3).2 b).1 hb)
                rcases hc.old _ ob b h1 hl hb' with h4 | h4
                · exact .inl ⟨h4, fun hf => hc.flt _ ob b h1 hl (((hMn o hch h3).2 b).1 hf)⟩
                · exact .inr (hfx b h4)
              · obtain ⟨p1, p2, p3⟩ := hn2 o1 ob1 c1 h1
                obtain ⟨q1, q2, q3⟩ := hn2 o2 ob2 c2 h2
                have e1 := (hasB_congr' (hMn o1 c1 p3).1 ((hMn o1 c1 p3).2 b)).1 b1
                have e2 := (hasB_congr' (hMn o2 c2 q3).1 ((hMn o2 c2 q3).2 b)).1 b2
                have := hc.dis _ _ ob1 ob2 b p1 q1 l1 l2 e1 e2
                omega
            · exact run_fail h
          · exact run_fail h
        · exact run_fail h
      · exact run_fail h
    · exact run_fail h
end
end Go.Dv

namespace Go.Dv
open Go
section
variable {G : Sig} {C : Cfg G} {Φ : FuncId → List Item → St G.S → Option (Ret G.S)} {f : FuncId} {r : Ret G.S}
theorem run_call {g : Nat} {todo : List Item} {st : St G.S} {rt : List Ty} {k : rDen G.S rt → Tree G.S} (h : (Tree.call g todo st rt k).run G Φ f = some r) :
  ∃ ret p, Φ g todo st = some ret ∧ prjR G rt ret.1 = some p ∧ (k p).run G Φ f = some r := by
 simp only [Tree.run] at h
 cases h1 : Φ g todo st with
 | none => rw [h1] at h; cases h
 | some ret =>
  rw [h1] at h
  simp only [Option.bind_some] at h
  cases h2 : prjR G rt ret.1 with
  | none => rw [h2] at h; cases h
  | some p => rw [h2] at h; exact ⟨ret, p, rfl, h2, h⟩
theorem callP_ok (hS : SigOk G) (hΦ : PhiOK C Φ) (hE : ExtOK C) {g : FuncId} {args : List (V G.S)} {st : St G.S} {k : K G} (h : (callP C g args st k).run G Φ f = some r) :
  ∃ v' st' rd wr, (st'.tm = st.tm ∧ st'.n0 = st.n0 ∧ (wr = [] → st'.L = st.L) ∧ ∀ b, b ∉ wr → b < st.L.length → st'.L[b]? = st.L[b]?) ∧ (∀ (w0 : World) (Fp : Fx) (okA : Okc) (M : Mem) (ok : Okc) (w : World) (vals : List Value), MI C w0 Fp okA M ok st.L w → VRs w ok M args vals →
   (callFunc g vals.toArray).run C.P w = .ok (.enter g vals.toArray) w ∧ Calls C.P g vals.toArray w (fun e w' => ∃ v M' ok', e = .returned v ∧ MI C w0 Fp okA M' ok' st'.L w' ∧ Ex M ok w M' ok' w' ∧ VR w' ok' M' v' v)) ∧
   (k v' st' rd wr).run G Φ f = some r := by
 unfold callP at h
 split at h
 ·exact run_fail h
 ·rename_i fn hf
  split at h
  ·rename_i rt body hrt hb
   split at h
   ·rename_i hc
    obtain ⟨hname, hnp⟩ := hc
    split at h
    ·rename_i vs hs0
     obtain ⟨vs0, hs, hno⟩ := Option.bind_eq_some_iff.1 hs0
     split at h
     ·rename_i hcl
      obtain ⟨hclo, hlen⟩ := hcl
      have clo : ∀ (w : World) (ok : Okc) (M : Mem) (vals : List Value), VRs w ok M vs vals → VRs w ok Mem.no vs vals := fun w ok M vals hv => ⟨hv.1, fun j y v hj hv' => (hv.2 j y v hj hv').anyM hS _ 20 (by rw [List.all_eq_true] at hclo; exact hclo y (List.mem_of_getElem? hj))⟩
      split at h
      ·rename_i rt2 gx hx
       split at h
       ·rename_i hrt2
        subst hrt2
        rw [forceL_eq] at h
        obtain ⟨p, hg, h⟩ := run_bnd h
        have hk := h
        unfold backT at hk
        have fin : ∃ v' st' rd wr, (v' = injR G rt2 p ∧ st' = (if rt2.all Ty.flat then st else { st with L := freeze st.L (reachs st.L args) })) ∧ ((wr = [] → st'.L = st.L) ∧ ∀ b, b ∉ wr → b < st.L.length → st'.L[b]? = st.L[b]?) ∧ (k v' st' rd wr).run G Φ f = some r := by
         split at hk
         ·rename_i hf; exact ⟨_, _, _, _, ⟨rfl, by rw [if_pos hf]⟩, ⟨fun _ => rfl, fun _ _ _ => rfl⟩, hk⟩
         ·rename_i hf; exact ⟨_, _, _, _, ⟨rfl, by rw [if_neg hf]⟩, ⟨fun e => by simp only [e, freeze_nil], fun b hb _ => freeze_keep _ hb⟩, hk⟩
        obtain ⟨v', st', rd, wr, ⟨hv', hst'⟩, hwr, hfin⟩ := fin
        refine ⟨v', st', rd, wr, ⟨by subst hst'; split <;> rfl, by subst hst'; split <;> rfl, hwr⟩, fun w0 Fp okA M ok w vals hm hv => ⟨callFunc_run hf hname hb _ _, ?_⟩, hfin⟩
        obtain ⟨hm1, he1⟩ := hm.freeze hS (reachs st.L args)
        have hsn := normA_ok hS hno (snaps_ok hS hm (os := reachs st.L args) hs (fun o ho => by simpa using ho) hv)
        obtain ⟨rv, hp, hcall⟩ := hE.ext g _ gx vs p hx hg (okF M ok st.L (reachs st.L args)) w vals hm1.lt hm1.globX (clo _ _ _ _ hsn)
        refine hcall.mono ?_
        rintro e w' ⟨v, rfl, hpost⟩
        obtain ⟨v2, st2, rd2, wr2, ⟨hv2, hst2⟩, ⟨M', ok', h1, h2, h3⟩, _⟩ := back_ok (C := C) (Φ := Φ) (f := f) (r := r) hS hm hnp hpost hp h
        subst hv2; subst hst2; subst hv'; subst hst'
        exact ⟨v, M', ok', rfl, h1, h2, h3⟩
       ·exact run_fail h
      ·rename_i hx
       rw [forceL_eq] at h
       obtain ⟨ret, p, hphi, hp, h⟩ := run_call h
       have hk := h
       unfold backT at hk
       have fin : ∃ v' st' rd wr, (v' = injR G rt p ∧ st' = (if rt.all Ty.flat then st else { st with L := freeze st.L (reachs st.L args) })) ∧ ((wr = [] → st'.L = st.L) ∧ ∀ b, b ∉ wr → b < st.L.length → st'.L[b]? = st.L[b]?) ∧ (k v' st' rd wr).run G Φ f = some r := by
        split at hk
        ·rename_i hf; exact ⟨_, _, _, _, ⟨rfl, by rw [if_pos hf]⟩, ⟨fun _ => rfl, fun _ _ _ => rfl⟩, hk⟩
        ·rename_i hf; exact ⟨_, _, _, _, ⟨rfl, by rw [if_neg hf]⟩, ⟨fun e => by simp only [e, freeze_nil], fun b hb _ => freeze_keep _ hb⟩, hk⟩
       obtain ⟨v', st', rd, wr, ⟨hv', hst'⟩, hwr, hfin⟩ := fin
       refine ⟨v', st', rd, wr, ⟨by subst hst'; split <;> rfl, by subst hst'; split <;> rfl, hwr⟩, fun w0 Fp okA M ok w vals hm hv => ⟨callFunc_run hf hname hb _ _, ?_⟩, hfin⟩
       obtain ⟨hm1, he1⟩ := hm.freeze hS (reachs st.L args)
       have hsn := normA_ok hS hno (snaps_ok hS hm (os := reachs st.L args) hs (fun o ho => by simpa using ho) hv)
       refine (calls_of_phi hΦ hf hb hm1 (clo _ _ _ _ hsn) hlen hphi).mono ?_
       rintro e w' ⟨v, rfl, hpost⟩
       obtain ⟨v2, st2, rd2, wr2, ⟨hv2, hst2⟩, ⟨M', ok', h1, h2, h3⟩, _⟩ := back_ok (C := C) (Φ := Φ) (f := f) (r := r) hS hm hnp hpost hp h
       subst hv2; subst hst2; subst hv'; subst hst'
       exact ⟨v, M', ok', rfl, h1, h2, h3⟩
     ·exact run_fail h
    ·exact run_fail h
   ·exact run_fail h
  ·exact run_fail h
theorem str_enc {w : World} {ok : Okc} {M : Mem} {s : List UInt8} {v : Value} (h : VR (G := G) w ok M (.str s) v) : v = encStr s := by
 cases h with
 | str b => simp [encStr]
theorem enc_str {w : World} {ok : Okc} {M : Mem} (s : List UInt8) : VR (G := G) w ok M (.str s) (encStr s) := by
 have := VR.str (G := G) (w := w) (ok := ok) (M := M) ⟨s.toArray⟩
 exact this
theorem ownsRow_base {w : World} {base : Nat} {e : TypeId} {size : Nat} {v : Value} {n : Nat} {us : List Value} (h : w.ownsRow base e size v n us) : w.ownsRow 0 e size v n us :=
  ⟨h.1, by rcases h.2 with q | ⟨g, cap, cur, q1, q2, q3⟩
           · exact .inl q
           · exact .inr ⟨g, cap, cur, q1, Nat.zero_le _, q3⟩⟩
theorem str_el {w : World} {ok : Okc} {M : Mem} (xs : List (List UInt8)) : ∀ (i : Nat) (x : Ty.den G.S .str) (j : Nat) (y : V G.S) (u : Value), xs[i]? = some x → (Ty.cells G .str x)[j]? = some y → (xs.map encStr)[i * Ty.sz G .str + j]? = some u → VR w ok M y u := by
 intro i x j y u hi hj hu
 have hj0 : j = 0 := by
  have := (List.getElem?_eq_some_iff.1 hj).1
  simp [Ty.cells] at this; exact this
 subst hj0
 simp only [Ty.cells, List.getElem?_cons_zero, Option.some.injEq] at hj
 subst hj
 simp only [Ty.sz, Nat.mul_one, Nat.add_zero] at hu
 rw [List.getElem?_map, hi] at hu
 have hu : encStr x = u := Option.some.inj hu
 subst hu
 exact enc_str x
theorem us_enc {xs : List (List UInt8)} {us : List Value} (hl : us.length = xs.length) (h : ∀ (i : Nat) (x : List UInt8) (u : Value), xs[i]? = some x → us[i]? = some u → u = encStr x) : us = xs.map encStr := by
 apply List.ext_getElem?
 intro i
 rw [List.getElem?_map]
 by_cases hi : i < xs.length
 ·rw [List.getElem?_eq_getElem hi, List.getElem?_eq_getElem (by omega)]
  rw [h i xs[i] (us[i]'(by omega)) (List.getElem?_eq_getElem hi) (List.getElem?_eq_getElem (by omega))]
  rfl
 ·rw [List.getElem?_eq_none (by omega), List.getElem?_eq_none (by omega)]; rfl
theorem callT_ok (hS : SigOk G) (hΦ : PhiOK C Φ) (hE : ExtOK C) {g : FuncId} {args : List (V G.S)} {st : St G.S} {k : K G} (h : (callT C g args st k).run G Φ f = some r) :
    ∃ v' st' rd wr, (st'.tm = st.tm ∧ st'.n0 = st.n0 ∧ (wr = [] → st'.L = st.L) ∧ ∀ b, b ∉ wr → b < st.L.length → st'.L[b]? = st.L[b]?) ∧ (∀ (w0 : World) (Fp : Fx) (okA : Okc) (M : Mem) (ok : Okc) (w : World) (vals : List Value), MI C w0 Fp okA M ok st.L w → VRs w ok M args vals →
      (callFunc g vals.toArray).run C.P w = .ok (.enter g vals.toArray) w ∧ Calls C.P g vals.toArray w (fun e w' => ∃ v M' ok', e = .returned v ∧ MI C w0 Fp okA M' ok' st'.L w' ∧ Ex M ok w M' ok' w' ∧ VR w' ok' M' v' v)) ∧
      (k v' st' rd wr).run G Φ f = some r := by
  unfold callT at h
  split at h
  · rename_i gx hx
    unfold pintT at h
    split at h
    · exact run_fail h
    · rename_i fn hf
      split at h
      · rename_i body hb
        split at h
        · rename_i hname
          split at h
          · rename_i s b z
            split at h
            · rename_i hbz
              obtain ⟨rfl, rfl⟩ := hbz
              obtain ⟨n, hg, hk⟩ := run_bnd h
              refine ⟨.tup [.int .i64 n.1, .er n.2], st, [], [], ⟨rfl, rfl, fun _ => rfl, fun _ _ _ => rfl⟩, fun w0 Fp okA M ok w vals hm hv => ⟨callFunc_run hf hname hb _ _, ?_⟩, hk⟩
              obtain ⟨v1, l1, rfl, hv1, hv2⟩ := hv.inv
              obtain ⟨v2, l2, rfl, hv3, hv4⟩ := hv2.inv
              obtain ⟨v3, l3, rfl, hv5, hv6⟩ := hv4.inv
              obtain ⟨rfl⟩ : l3 = [] := by have := hv6.1; exact List.eq_nil_of_length_eq_zero (by simpa using this.symm)
              obtain rfl := str_enc hv1
              cases hv3
              cases hv5
              refine (hE.pint g gx s n hx hg ok w hm.lt hm.globX).mono ?_
              rintro en w' ⟨ev, rfl, hev, h3⟩
              obtain ⟨h4, h5⟩ := hm.grow (fun _ _ => False) h3.os h3.tape h3.output h3.size (fun k hk => h3.block k hk (by simp)) (fun _ _ h => h.elim)
              exact ⟨_, _, _, rfl, h4, h5, .tup _ [.int .i64 n.1, ev] rfl fun j y v hj hv => by
                match j with
                | 0 => simp at hj hv; subst hj hv; exact .int _ _
                | 1 => simp at hj hv; subst hj hv; exact .er _ _ hev
                | j + 2 => simp at hj⟩
            · exact run_fail h
          · exact run_fail h
        · exact run_fail h
      · exact run_fail h
  split at h
  · rename_i e t hx
    unfold clnT at h
    split at h
    · exact run_fail h
    · rename_i fn hf
      split at h
      · rename_i body hb
        split at h
        · rename_i hname
          split at h
          · rename_i o
            split at h
            · rename_i e' t' xs fz hL
              split at h
              · rename_i he'
                subst he'
                split at h
                · rename_i ht'
                  subst ht'
                  obtain ⟨ys, hg, hk⟩ := run_bnd h
                  have hys : ys = xs ∧ xs.length ≤ big := by
                    unfold cloneL at hg
                    split at hg
                    · rename_i hq; exact ⟨(Option.some.inj hg).symm, hq⟩
                    · cases hg
                  obtain ⟨rfl, hbig⟩ := hys
                  refine ⟨.arr st.L.length, { st with L := st.L ++ [.arr e' t' ys false] }, [o], [st.L.length], ⟨rfl, rfl, (fun e => by cases e), fun b hb hlt => List.getElem?_append_left hlt⟩, fun w0 Fp okA M ok w vals hm hv => ⟨callFunc_run hf hname.1 hb _ _, ?_⟩, hk⟩
                  obtain ⟨v1, l1, rfl, hv1, hv2⟩ := hv.inv
                  obtain ⟨rfl⟩ : l1 = [] := by have := hv2.1; exact List.eq_nil_of_length_eq_zero (by simpa using this.symm)
                  obtain ⟨a, c, us, hM, hown, hz, hel⟩ := hm.objs o _ hL
                  have hval : v1 = .slice a ys.length c := by
                    cases hv1 with
                    | arr o a n c e sz hq =>
                      have hq : M o = _ := hq
                      rw [hM] at hq
                      cases hq
                      rfl
                  subst hval
                  have hone : ∀ u ∈ us, u.oneCell' = true := fun u hu => by
                    obtain ⟨i, hi⟩ := List.mem_iff_getElem?.1 hu
                    have hil : i < ys.length * Ty.sz G t' := by rw [← hown.1]; exact (List.getElem?_eq_some_iff.1 hi).1
                    have hq1 : i / Ty.sz G t' < ys.length := (Nat.div_lt_iff_lt_mul hz).2 hil
                    have hq2 : i % Ty.sz G t' < Ty.sz G t' := Nat.mod_lt _ hz
                    have hq3 : i / Ty.sz G t' * Ty.sz G t' + i % Ty.sz G t' = i := Nat.div_add_mod' _ _
                    have hcl : (Ty.cells G t' ys[i / Ty.sz G t']).length = Ty.sz G t' := cells_len hS _ _
                    have hq4 := List.getElem?_eq_getElem (l := Ty.cells G t' ys[i / Ty.sz G t']) (i := i % Ty.sz G t') (by rw [hcl]; exact hq2)
                    have hy := hel _ _ _ _ u (List.getElem?_eq_getElem hq1) hq4 (by rw [hq3]; exact hi)
                    have hs := fl_cells hS hname.2 _ _ (List.mem_of_getElem? hq4)
                    generalize (Ty.cells G t' ys[i / Ty.sz G t'])[i % Ty.sz G t'] = y at hy hs
                    cases hy <;> first | rfl | cases hs
                  refine (hE.cln g e' t' hx a ys.length c us w hown hone hbig).mono ?_
                  rintro en w' ⟨v', rfl, h2, h3⟩
                  obtain ⟨a2, c2, rfl, hob⟩ := own_slice_of h2
                  have hgk : ∀ k, k < w.heap.size → w'.heap[k]? = w.heap[k]? := fun k hk => h3.block k hk (by simp)
                  have he := hm.ex_push (w' := w') (.arr a2 ys.length c2 e' (Ty.sz G t')) hgk
                  refine ⟨_, _, _, rfl, hm.push (.arr a2 ys.length c2 e' (Ty.sz G t')) (.arr e' t' ys false) h3.os h3.tape h3.output h3.size hgk ?_ ?_, he, ?_⟩
                  · exact ⟨a2, c2, us, updM_same _ _ _, ownsRow_base h2, hz, fun i x j y u p1 p2 p3 => (hel i x j y u p1 p2 p3).mono he⟩
                  · intro b hb'
                    simp only [MB.blk] at hb'
                    rw [← hob] at hb'
                    exact (h2.lt b hb').1
                  · exact .arr _ a2 ys.length c2 e' (Ty.sz G t') (updM_same _ _ _)
                · exact run_fail h
              · exact run_fail h
            · exact run_fail h
          · exact run_fail h
        · exact run_fail h
      · exact run_fail h
  split at h
  · rename_i kd T e hx
    exact bldT_ok hS hE hx h
  split at h
  · rename_i e gx hx
    unfold ctorT at h
    split at h
    · exact run_fail h
    · rename_i fn hf
      split at h
      · rename_i body hb
        split at h
        · rename_i hname
          split at h
          · rename_i vs hs
            split at h
            · rename_i hclo
              split at h
              · rename_i cs hg
                rw [forceL_eq] at h
                refine ⟨.ref st.L.length 0, { st with L := freeze st.L (reachs st.L args) ++ [.box e cs false] }, reachs st.L args, st.L.length :: reachs st.L args, ⟨rfl, rfl, (fun e => by cases e), fun b hb hlt => by
                  simp only [List.mem_cons, not_or] at hb
                  show (freeze st.L (reachs st.L args) ++ _)[b]? = _
                  rw [List.getElem?_append_left (by rw [freeze_length]; exact hlt), freeze_keep _ hb.2]⟩, fun w0 Fp okA M ok w vals hm hv => ⟨callFunc_run hf hname hb _ _, ?_⟩, h⟩
                obtain ⟨hm1, he1⟩ := hm.freeze hS (reachs st.L args)
                have hsn := snaps_ok hS hm (os := reachs st.L args) hs (fun o ho => by simpa using ho) hv
                have clo : VRs w (okF M ok st.L (reachs st.L args)) Mem.no vs vals := ⟨hsn.1, fun j y v hj hv' => (hsn.2 j y v hj hv').anyM hS _ 20 (by rw [List.all_eq_true] at hclo; exact hclo y (List.mem_of_getElem? hj))⟩
                refine (hE.ctor g e gx vs cs hx hg _ w vals hm1.lt hm1.globX clo).mono ?_
                rintro en w' ⟨b, l, rfl, h2, h3, h4, h5⟩
                have hgk : ∀ k, k < w.heap.size → w'.heap[k]? = w.heap[k]? := fun k hk => h5.block k hk (by simp)
                have hlen : (freeze st.L (reachs st.L args)).length = st.L.length := freeze_length _ _
                have he := hm1.ex_push (w' := w') (.box b e) hgk
                have hcl : VRs w (okF M ok st.L (reachs st.L args)) M cs l := h4.mono ⟨fun o x hx => (nomatch (show (none : Option MB) = some x from hx)), fun _ _ _ h1 h2 => ⟨h1, h2⟩⟩
                refine ⟨_, _, _, rfl, hm1.push (.box b e) (.box e cs false) h5.os h5.tape h5.output h5.size hgk ⟨b, l, updM_same _ _ _, h3, hcl.mono he⟩ ?_, he1.trans he, ?_⟩
                · intro b' hb'
                  simp only [MB.blk, Option.some.injEq] at hb'
                  omega
                · rw [hlen]; exact .ref _ 0 b e (updM_same _ _ _)
              · exact run_fail h
            · exact run_fail h
          · exact run_fail h
        · exact run_fail h
      · exact run_fail h
  split at h
  · rename_i e gx hx
    unfold ownT at h
    split at h
    · exact run_fail h
    · rename_i fn hf
      split at h
      · rename_i body hb
        split at h
        · rename_i hname
          split at h
          · rename_i vs hs
            split at h
            · rename_i hclo
              rw [forceL_eq] at h
              obtain ⟨xs, hg, hk⟩ := run_bnd h
              refine ⟨.arr st.L.length, { st with L := freeze st.L (reachs st.L args) ++ [.arr e .str xs false] }, reachs st.L args, st.L.length :: reachs st.L args, ⟨rfl, rfl, (fun e => by cases e), fun b hb hlt => by
                  simp only [List.mem_cons, not_or] at hb
                  show (freeze st.L (reachs st.L args) ++ _)[b]? = _
                  rw [List.getElem?_append_left (by rw [freeze_length]; exact hlt), freeze_keep _ hb.2]⟩, fun w0 Fp okA M ok w vals hm hv => ⟨callFunc_run hf hname hb _ _, ?_⟩, hk⟩
              obtain ⟨hm1, he1⟩ := hm.freeze hS (reachs st.L args)
              have hsn := snaps_ok hS hm (os := reachs st.L args) hs (fun o ho => by simpa using ho) hv
              have clo : VRs w (okF M ok st.L (reachs st.L args)) Mem.no vs vals := ⟨hsn.1, fun j y v hj hv' => (hsn.2 j y v hj hv').anyM hS _ 20 (by rw [List.all_eq_true] at hclo; exact hclo y (List.mem_of_getElem? hj))⟩
              refine (hE.own g e gx vs xs hx hg _ w vals hm1.lt hm1.globX clo).mono ?_
              rintro en w' ⟨v', rfl, h2, h3⟩
              obtain ⟨a, c, rfl, hob⟩ := own_slice_of h2
              have hgk : ∀ k, k < w.heap.size → w'.heap[k]? = w.heap[k]? := fun k hk => h3.block k hk (by simp)
              have hlen : (freeze st.L (reachs st.L args)).length = st.L.length := freeze_length _ _
              have he := hm1.ex_push (w' := w') (.arr a xs.length c e (Ty.sz G .str)) hgk
              refine ⟨_, _, _, rfl, hm1.push (.arr a xs.length c e (Ty.sz G .str)) (.arr e .str xs false) h3.os h3.tape h3.output h3.size hgk ?_ ?_, he1.trans he, ?_⟩
              · exact ⟨a, c, xs.map encStr, updM_same _ _ _, ownsRow_base h2, Nat.one_pos, str_el xs⟩
              · intro b hb'
                simp only [MB.blk] at hb'
                rw [← hob] at hb'
                exact (h2.lt b hb').1
              · rw [hlen]; exact .arr _ a xs.length c e (Ty.sz G .str) (updM_same _ _ _)
            · exact run_fail h
          · exact run_fail h
        · exact run_fail h
      · exact run_fail h
  split at h
  · rename_i e t hx
    unfold growT at h
    split at h
    · exact run_fail h
    · rename_i fn hf
      split at h
      · rename_i body hb
        split at h
        · rename_i hname
          split at h
          · rename_i e' t' n
            obtain ⟨u, hg, hk⟩ := run_bnd h
            have hn : 0 ≤ n ∧ n ≤ big := by
              unfold growN at hg
              split at hg
              · assumption
              · cases hg
            refine ⟨.arr st.L.length, { st with L := st.L ++ [.arr e t [] false] }, [], [st.L.length], ⟨rfl, rfl, (fun e => by cases e), fun b hb hlt => List.getElem?_append_left hlt⟩, fun w0 Fp okA M ok w vals hm hv => ⟨callFunc_run hf hname.1 hb _ _, ?_⟩, hk⟩
            obtain ⟨v1, l1, rfl, hv1, hv2⟩ := hv.inv
            obtain ⟨v2, l2, rfl, hv3, hv4⟩ := hv2.inv
            obtain ⟨rfl⟩ : l2 = [] := by have := hv4.1; exact List.eq_nil_of_length_eq_zero (by simpa using this.symm)
            cases hv1
            cases hv3
            refine (hE.grw g e t hx n w hn.1 hn.2).mono ?_
            rintro en w' ⟨v', rfl, h2, h3⟩
            obtain ⟨a, c, rfl, hob⟩ := own_slice_of h2
            have hgk : ∀ k, k < w.heap.size → w'.heap[k]? = w.heap[k]? := fun k hk => h3.block k hk (by simp)
            have he := hm.ex_push (w' := w') (.arr a 0 c e (Ty.sz G t)) hgk
            refine ⟨_, _, _, rfl, hm.push (.arr a 0 c e (Ty.sz G t)) (.arr e t [] false) h3.os h3.tape h3.output h3.size hgk ?_ ?_, he, ?_⟩
            · exact ⟨a, c, [], updM_same _ _ _, ownsRow_base h2, hname.2, fun i x j y u p1 => by simp at p1⟩
            · intro b hb'
              simp only [MB.blk] at hb'
              rw [← hob] at hb'
              exact (h2.lt b hb').1
            · exact .arr _ a 0 c e (Ty.sz G t) (updM_same _ _ _)
          · exact run_fail h
        · exact run_fail h
      · exact run_fail h
  · split at h
    · rename_i e gx hx
      unfold eatT at h
      split at h
      · exact run_fail h
      · rename_i fn hf
        split at h
        · rename_i body hb
          split at h
          · rename_i hname
            split at h
            · rename_i o
              split at h
              · rename_i e' xs hL
                split at h
                · rename_i he'
                  subst he'
                  obtain ⟨ys, hg, hk⟩ := run_bnd h
                  refine ⟨.arr st.L.length, { st with L := st.L.set o .dead ++ [.arr e' .str ys false] }, [o], [o], ⟨rfl, rfl, (fun e => by cases e), fun b hb hlt => by
                    simp only [List.mem_singleton] at hb
                    show (st.L.set o .dead ++ _)[b]? = _
                    rw [List.getElem?_append_left (by simpa using hlt), List.getElem?_set_ne (fun e => hb e.symm)]⟩, fun w0 Fp okA M ok w vals hm hv => ⟨callFunc_run hf hname hb _ _, ?_⟩, hk⟩
                  obtain ⟨v, l', rfl, hv1, hv2⟩ := hv.inv
                  obtain ⟨rfl⟩ : l' = [] := by have := hv2.1; exact List.eq_nil_of_length_eq_zero (by simpa using this.symm)
                  obtain ⟨rds, hM, hown⟩ := rd_arr hS hm hL hv1
                  have hus : rds.us = (show List (List UInt8) from xs).map encStr := us_enc (by have := hown.1; simp only [Ty.sz, Nat.mul_one] at this; exact this) fun i x u hi hu => by
                    have := rds.el i x 0 (.str x) u hi rfl (by simp only [Ty.sz, Nat.mul_one, Nat.add_zero]; exact hu)
                    exact str_enc this
                  rw [hus] at hown
                  refine (hE.eat g e' gx xs ys hx hg w v hown).mono ?_
                  rintro en w' ⟨v', rfl, h2, h3, h4⟩
                  obtain ⟨a, c, rfl, hob⟩ := own_slice_of h2
                  have hobk : v.ownBlock = blk M o := by
                    rw [rds.val]
                    simp only [blk, hM, MB.blk, Option.bind_some]
                    cases rds.a <;> rfl
                  rw [hobk] at h3
                  have hsub : Ex M ok w (updM M st.L.length (.arr a ys.length c e' (Ty.sz G .str))) ok w' → OR (G := G) w' ok (updM M st.L.length (.arr a ys.length c e' (Ty.sz G .str))) st.L.length (.arr e' .str ys false) := by
                    intro he
                    exact ⟨a, c, ys.map encStr, updM_same _ _ _, h2, Nat.one_pos, str_el ys⟩
                  have hrep := hm.replace (w' := w') (ob0 := .arr e' .str xs false) hL trivial (fun off hr => by simp [Obj.rd] at hr) (.arr a ys.length c e' (Ty.sz G .str)) (.arr e' .str ys false) h3 (fun b hb' => by
                    simp only [MB.blk] at hb'
                    rw [← hobk]
                    exact h4 b (by rw [hob]; exact hb')) hsub
                  exact ⟨_, _, _, rfl, hrep.1, hrep.2, .arr _ a _ c e' (Ty.sz G .str) (updM_same _ _ _)⟩
                · exact run_fail h
              · exact run_fail h
            · exact run_fail h
          · exact run_fail h
        · exact run_fail h
    · split at h
      · split at h
        · exact callY_ok hS hΦ h
        · exact callR_ok hS hΦ h
      · split at h
        · exact callX_ok hS hΦ h
        split at h
        · exact callO_ok hS hΦ h
        · split at h
          · exact callW_ok hS hΦ h
          · exact callP_ok hS hΦ hE h
end
end Go.Dv

namespace Go.Dv
open Go
section
variable {G : Sig} {C : Cfg G} {Φ : FuncId → List Item → St G.S → Option (Ret G.S)} {f : FuncId} {r : Ret G.S}
theorem OpOK.val {o : Oper} {st st' : St G.S} {v : V G.S} (h1 : st'.tm = st.tm) (h2 : st'.n0 = st.n0)
  (h : ∀ (w0 : World) (Fp : Fx) (okA : Okc) (M : Mem) (ok : Okc) (a : Act) (w : World), MI C w0 Fp okA M ok st.L w → TR w ok M st.tm a →
   ∃ val w' M' ok', (execOp a.eval o).run C.P w = .ok (.value val) w' ∧ MI C w0 Fp okA M' ok' st'.L w' ∧ Ex M ok w M' ok' w' ∧ VR w' ok' M' v val) : OpOK C o st v st' := by
 refine ⟨h1, h2, fun w0 Fp okA M ok a w hm ht next Q hk => ?_⟩
 obtain ⟨val, w', M', ok', hr, hm', he, hv⟩ := h w0 Fp okA M ok a w hm ht
 unfold Oper.wp
 rw [hr, Oper.upon_value]
 exact hk val w' M' ok' hm' he hv
theorem unV_run {op : UnOp} {x : V G.S} {k : V G.S → Tree G.S} (h : (unV op x k).run G Φ f = some r) :
  ∃ v, (∀ (w : World) (ok : Okc) (M : Mem) (vx : Value), VR w ok M x vx → ∃ val, (Op.unary op vx).run C.P w = .ok val w ∧ VR w ok M v val) ∧ (k v).run G Φ f = some r := by
 unfold unV at h
 split at h
 ·refine ⟨_, fun w ok M vx hx => ?_, h⟩; cases hx; exact ⟨_, by simp [Op.unary, Op.intArith], .int _ _⟩
 ·refine ⟨_, fun w ok M vx hx => ?_, h⟩; cases hx; exact ⟨_, by simp [Op.unary], .bool _⟩
 ·refine ⟨_, fun w ok M vx hx => ?_, h⟩; cases hx; exact ⟨_, by simp [Op.unary], .lb _⟩
 ·exact run_fail h
theorem fieldOf_run {s : TypeId} {i : Nat} {fd : Field} (h : fieldOf C s i = some fd) : ∃ fs, C.P.underlying s = some (.struct fs) ∧ fs[i]? = some fd := by
 unfold fieldOf at h
 split at h
 ·rename_i fs hu; exact ⟨fs, hu, h⟩
 ·cases h
theorem fieldAt_run {s : TypeId} {i : Nat} {fd : Field} {n : Nat} {b off : Nat} {w : World} (h : fieldOf C s i = some fd) (hs : sizeT C fd.type = some (n + 1)) :
  (Instr.fieldAt s (.pointer (some ⟨b, off, none⟩)) i).run C.P w = .ok (.pointer (some ⟨b, off + fd.offset, none⟩)) w := by
 obtain ⟨fs, hu, hf⟩ := fieldOf_run h
 simp [Instr.fieldAt, run_underlying hu, hf, Instr.sureAddr, fieldPlace, sizeT_run hs, addr_add]
theorem lenV_run (hS : SigOk G) {ts : List TypeId} {ty : TypeId} {x : V G.S} {L : List (Obj G.S)} {n : Int} (h1 : lenOk C ts x = true) (h2 : lenV x L = some n) {w0 : World} {Fp : Fx} {okA : Okc} {M : Mem} {ok : Okc} {w : World} (hm : MI C w0 Fp okA M ok L w) {vx : Value} (hx : VR w ok M x vx) :
  (Builtin.len_ ts.toArray ty #[vx]).run C.P w = .ok (.int .i64 n) w := by
 unfold lenOk at h1
 split at h1
 ·rename_i t
  split at h1
  ·rename_i s hu
   cases hx with
   | str b => simp only [lenV, Option.some.injEq] at h2; subst h2; simp [Builtin.len_, run_underlying hu, goInt]
  ·rename_i e ty' xs hu
   obtain ⟨rd⟩ := rd_sl hS hx
   obtain ⟨a, c, us, rfl, _, _, _, _⟩ := rd
   simp only [lenV, Option.some.injEq] at h2; subst h2; simp [Builtin.len_, run_underlying hu, goInt]
  ·rename_i e e' ty' hu
   cases hx
   simp only [lenV, Option.some.injEq] at h2; subst h2; simp [Builtin.len_, run_underlying hu, goInt]
  ·rename_i e o hu
   simp only [lenV] at h2
   split at h2
   ·rename_i e' t' xs fz hL
    obtain ⟨rd, _, _⟩ := rd_arr hS hm hL hx
    obtain ⟨a, c, us, rfl, _, _, _, _⟩ := rd
    simp only [Option.some.injEq] at h2; subst h2; simp [Builtin.len_, run_underlying hu, goInt]
   ·rename_i e' t' xs hs hL
    obtain ⟨a, c, hM, _⟩ := hm.objs o _ hL
    cases hx with
    | arr _ a' n' c' e2 sz' hM' =>
     rw [hM] at hM'; cases hM'
     simp only [Option.some.injEq] at h2; subst h2; simp [Builtin.len_, run_underlying hu, goInt]
   ·cases h2
  ·cases h1
 ·cases h1
theorem bytes_push : ∀ (l : List Int) (b : ByteArray), (l.foldl (fun r n => r.push (UInt8.ofNat n.toNat)) b).data.toList = b.data.toList ++ l.map (fun n => UInt8.ofNat n.toNat)
 | [], b => by simp
 | n :: l, b => by
  simp only [List.foldl_cons, List.map_cons]
  rw [bytes_push l]
  simp [ByteArray.push]
theorem bytes_vr {w : World} {ok : Okc} {M : Mem} (e : TypeId) (b : ByteArray) (xs : List Int) (hx : ∀ i : Nat, xs[i]? = (b.data.toList[i]?).map fun (x : UInt8) => (x.toNat : Int)) (hl : xs.length = b.size) :
  VR (G := G) (Lib.bytesWorld w e b) (fun b' off => ok b' off ∨ b' = w.heap.size) M (.sl (.int .u8) xs) (.slice (some ⟨w.heap.size, 0, none⟩) b.size (grownCap w b.size 0 e)) := by
 rw [← hl]
 refine .sl1 (.int .u8) xs w.heap.size 0 _ (fun i _ => .int .u8 (b.data.toList.getD i 0).toNat) ?_ (fun i x j y hi hj => ?_) (fun i x j y hi hj => ?_)
 ·show xs.length ≤ _
  rw [hl]; exact grownCap_ge _ _ _ _
 ·have hjl : j = 0 := by have := (List.getElem?_eq_some_iff.1 hj).1; simp [Ty.cells] at this; exact this
  subst hjl
  have hil : i < b.size := by rw [← hl]; exact (List.getElem?_eq_some_iff.1 hi).1
  refine ⟨?_, .inr rfl⟩
  have := Lib.bytesWorld_cell w e b i hil
  simpa [Ty.sz] using this
 ·have hjl : j = 0 := by have := (List.getElem?_eq_some_iff.1 hj).1; simp [Ty.cells] at this; exact this
  subst hjl
  simp only [Ty.cells, List.getElem?_cons_zero, Option.some.injEq] at hj
  subst hj
  have hi' : xs[i]? = some x := hi
  rw [hx] at hi'
  cases hbi : b.data.toList[i]? with
  | none => rw [hbi] at hi'; cases hi'
  | some q =>
   rw [hbi] at hi'
   cases hi'
   rw [List.getD_eq_getElem?_getD, hbi]
   exact .int _ _
theorem ints_map (us : List Value) (ys : List Int) (hl : us.length = ys.length) (h : ∀ (i : Nat) (q : Int) (u : Value), ys[i]? = some q → us[i]? = some u → u = .int .u8 q) : us = ys.map (Value.int .u8) := by
 apply List.ext_getElem?
 intro i
 rw [List.getElem?_map]
 cases hyi : ys[i]? with
 | none =>
  have : us.length ≤ i := by rw [hl]; exact List.getElem?_eq_none_iff.1 hyi
  rw [List.getElem?_eq_none this]; rfl
 | some q =>
  have hlt : i < us.length := by rw [hl]; exact (List.getElem?_eq_some_iff.1 hyi).1
  rw [List.getElem?_eq_getElem hlt, h i q _ hyi (List.getElem?_eq_getElem hlt)]
  rfl
theorem str_vr (ys : List Int) (w : World) (ok : Okc) (M : Mem) : VR (G := G) w ok M (.str (ys.map fun n => UInt8.ofNat n.toNat)) (.string (ys.foldl (fun r n => r.push (UInt8.ofNat n.toNat)) ByteArray.empty)) := by
 have := bytes_push ys ByteArray.empty
 have e0 : ByteArray.empty.data.toList = [] := rfl
 rw [e0, List.nil_append] at this
 rw [← this]
 exact .str _
theorem convT_run (hS : SigOk G) {src dst : TypeId} {x : V G.S} {st : St G.S} {k : K G} (h : (convT C src dst x st k).run G Φ f = some r) :
  ∃ v rd wr, (∀ (w0 : World) (Fp : Fx) (okA : Okc) (M : Mem) (ok : Okc) (w : World) (vx : Value), MI C w0 Fp okA M ok st.L w → VR w ok M x vx →
   ∃ val w' M' ok', (convert src dst vx).run C.P w = .ok val w' ∧ MI C w0 Fp okA M' ok' st.L w' ∧ Ex M ok w M' ok' w' ∧ VR w' ok' M' v val) ∧ (k v st rd wr).run G Φ f = some r := by
 unfold convT at h
 split at h
 ·rename_i k1 k2 k3 n hs hd
  refine ⟨_, _, _, fun w0 Fp okA M ok w vx hm hx => ?_, h⟩
  cases hx
  exact ⟨_, w, M, ok, by simp [convert, run_underlying hs, run_underlying hd, Conv.intToInt], hm, Ex.refl _ _ _, .int _ _⟩
 ·rename_i s hs hd
  refine ⟨_, _, _, fun w0 Fp okA M ok w vx hm hx => ?_, h⟩
  cases hx
  exact ⟨_, w, M, ok, by simp [convert, run_underlying hs, run_underlying hd], hm, Ex.refl _ _ _, .str _⟩
 ·rename_i e s hs hd
  split at h
  ·rename_i he
   refine ⟨_, _, _, fun w0 Fp okA M ok w vx hm hx => ?_, h⟩
   cases hx with
   | str b =>
    have hg : ∀ k, k < w.heap.size → (Lib.bytesWorld w e b).heap[k]? = w.heap[k]? := fun k hk => Lib.bytesWorld_at_old w e b k hk
    have hsz := Lib.bytesWorld_size w e b
    obtain ⟨hm2, he2⟩ := hm.grow (w' := Lib.bytesWorld w e b) (fun b' off => b' = w.heap.size) (by simp [Lib.bytesWorld, World.freeze]; rfl) (by first | rfl | (simp [Lib.bytesWorld, World.freeze]; done) | (simp [Lib.bytesWorld, World.freeze]; rfl)) (by simp [Lib.bytesWorld, World.freeze]; rfl) (by omega) hg (fun b' off hb => by omega)
    exact ⟨_, _, M, _, Lib.run_convert_string_bytes w src dst e b hs hd he, hm2, he2, bytes_vr e b (b.data.toList.map fun (x : UInt8) => (x.toNat : Int)) (fun i => List.getElem?_map) (by simp)⟩
  ·exact run_fail h
 ·rename_i e hs hd
  split at h
  ·rename_i he
   split at h
   ·rename_i ys hys
    refine ⟨_, _, _, fun w0 Fp okA M ok w vx hm hx => ?_, h⟩
    obtain ⟨rd⟩ := ysOf_rd hS hm hys hx
    obtain ⟨a, c, us, rfl, hl, hcell, _, hel⟩ := rd
    have hl' : us.length = ys.length := by simpa [Ty.sz] using hl
    have hus := ints_map us ys hl' (fun i q u hq hu => by
     have h1 := hel i q 0 _ u hq rfl (by simpa [Ty.sz] using hu)
     cases h1
     rfl)
    refine ⟨.string (ys.foldl (fun r n => r.push (UInt8.ofNat n.toNat)) ByteArray.empty), w, M, ok, ?_, hm, Ex.refl _ _ _, ?_⟩
    ·rw [run_convert_bytes_string w src dst e a ys.length c hs he hd]
     cases a with
     | none =>
      have : ys = [] := by
       cases ys with
       | nil => rfl
       | cons q qs => 
        have hlt : 0 < us.length := by rw [hl']; simp
        obtain ⟨ad, h1, _⟩ := hcell 0 us[0] (List.getElem?_eq_getElem hlt)
        cases h1
      subst this
      simp [Conv.bytesToString]
     | some ad =>
      have hld := run_loadCells_list (P := C.P) w ad us (fun j v hj => by obtain ⟨ad', h1, h2⟩ := hcell j v hj; cases h1; exact h2)
      rw [hl', hus] at hld
      exact run_bytesToString w ad ys.length c ys hld
    ·exact str_vr ys _ _ _
   ·exact run_fail h
  ·exact run_fail h
 ·rename_i k1 k2 n hs hd
  obtain ⟨s, hc, h⟩ := run_bnd h
  refine ⟨_, _, _, fun w0 Fp okA M ok w vx hm hx => ?_, h⟩
  cases hx
  unfold chr at hc
  split at hc
  ·rename_i hn
   cases hc
   refine ⟨_, w, M, ok, run_convert_int_string w src dst _ n (by rw [hs]; rfl) hd, hm, Ex.refl _ _ _, ?_⟩
   have : (Utf8.encode n).data.toList = [UInt8.ofNat n.toNat] := by
    have hv : Utf8.valid n = true := by simp only [Utf8.valid, Bool.or_eq_true, Bool.and_eq_true, decide_eq_true_eq]; left; omega
    unfold Utf8.encode
    simp only [if_pos hv]
    have hlt : n.toNat < 0x80 := by omega
    simp only [if_pos hlt]
   rw [← this]
   exact .str _
  ·cases hc
 ·exact run_fail h
end
end Go.Dv

namespace Go.Dv
open Go
section
variable {G : Sig} {C : Cfg G} {Φ : FuncId → List Item → St G.S → Option (Ret G.S)} {f : FuncId} {r : Ret G.S}
theorem indexAt_run {P : Program} {w : World} {t e : TypeId} {sz n b off len c : Nat} {k : IntKind} (hu : P.underlying t = some (.slice e)) (hs : (sizeOf e).run P w = .ok sz w) (hn : n < len) :
  (Instr.indexAt t (.slice (some ⟨b, off, none⟩) len c) (.int k (n : Int))).run P w = .ok (.pointer (some ⟨b, off + n * sz, none⟩)) w := by
 simp [Instr.indexAt, asIntOf, run_underlying hu, hs, addr_add]
 intro h; omega
theorem indexAddrT_run (hS : SigOk G) {t : TypeId} {x i : V G.S} {st : St G.S} {k : K G} (h : (indexAddrT C t x i st k).run G Φ f = some r) :
  ∃ v rd wr, (∀ (w0 : World) (Fp : Fx) (okA : Okc) (M : Mem) (ok : Okc) (w : World) (vx vi : Value), MI C w0 Fp okA M ok st.L w → VR w ok M x vx → VR w ok M i vi →
   ∃ val, (Instr.indexAt t vx vi).run C.P w = .ok val w ∧ VR w ok M v val) ∧ (k v st rd wr).run G Φ f = some r := by
 unfold indexAddrT at h
 split at h
 ·rename_i ki n
  split at h
  ·rename_i e he
   have hu := elemId_eq he
   split at h
   ·rename_i sz ty xs hs
    split at h
    ·rename_i hz
     subst hz
     obtain ⟨x, hx, h'⟩ := run_bnd h
     obtain ⟨m, rfl, hm⟩ := idx_ok hx
     refine ⟨_, _, _, fun w0 Fp okA M ok w vx vi hmi hvx hvi => ?_, h'⟩
     cases hvi
     cases hvx with
     | sl0 => simp at hm
     | sl1 _ _ b off c u hc h1 h2 =>
      have hlt := (List.getElem?_eq_some_iff.1 hm).1
      refine ⟨_, indexAt_run hu (sizeT_run hs) hlt, .pc _ b _ (fun j => u m j) (fun j y hj => ?_) (fun j y hj => h2 m x j y hm hj)⟩
      have := h1 m x j y hm hj
      rw [Nat.add_assoc]; exact this
    ·exact run_fail h
   ·rename_i sz o hs
    split at h
    ·rename_i e' ty xs fz hL
     split at h
     ·rename_i hz
      subst hz
      obtain ⟨x, hx, h'⟩ := run_bnd h
      obtain ⟨m, rfl, hm⟩ := idx_ok hx
      refine ⟨_, _, _, fun w0 Fp okA M ok w vx vi hmi hvx hvi => ?_, h'⟩
      cases hvi
      obtain ⟨⟨a, c, us, rfl, _, _, _, _⟩, hM, hown⟩ := rd_arr hS hmi hL hvx
      dsimp only at hM hown
      have hlt := (List.getElem?_eq_some_iff.1 hm).1
      rcases hown.2 with ⟨_, h2⟩ | ⟨g, cap, cur, h1, _⟩
      ·rw [h2] at hlt; omega
      ·simp only [Value.slice.injEq, true_and] at h1
       obtain ⟨rfl, rfl⟩ := h1
       refine ⟨_, indexAt_run hu (sizeT_run hs) hlt, ?_⟩
       rw [Nat.zero_add]
       exact .pe o m 0 g xs.length c e' (Ty.sz G ty) hM
     ·exact run_fail h
    ·rename_i e' ty xs hs' hL
     split at h
     ·rename_i hz
      subst hz
      obtain ⟨x, hx, h'⟩ := run_bnd h
      obtain ⟨m, rfl, hm⟩ := idx_ok hx
      refine ⟨_, _, _, fun w0 Fp okA M ok w vx vi hmi hvx hvi => ?_, h'⟩
      cases hvi
      obtain ⟨a, c, hM, us, FF, hown, _⟩ := hmi.objs o _ hL
      cases hvx with
      | arr _ a' n' c' e2 sz' hM' =>
       rw [hM] at hM'; cases hM'
       have hlt := (List.getElem?_eq_some_iff.1 hm).1
       rcases hown.2 with ⟨_, h2⟩ | ⟨g, cap, cur, h1, _⟩
       ·rw [h2] at hlt; omega
       ·simp only [Value.slice.injEq, true_and] at h1
        obtain ⟨rfl, rfl⟩ := h1
        refine ⟨_, indexAt_run hu (sizeT_run hs) hlt, ?_⟩
        rw [Nat.zero_add]
        exact .pe o m 0 g xs.length c e' (Ty.sz G ty) hM
     ·exact run_fail h
    ·exact run_fail h
   ·exact run_fail h
  ·exact run_fail h
 ·exact run_fail h
theorem indexAt_arr {P : Program} {w : World} {t e : TypeId} {sz n b off len : Nat} {k : IntKind} (hu : P.underlying t = some (.array len e)) (hs : (sizeOf e).run P w = .ok sz w) (hn : n < len) :
  (Instr.indexAt t (.pointer (some ⟨b, off, none⟩)) (.int k (n : Int))).run P w = .ok (.pointer (some ⟨b, off + n * sz, none⟩)) w := by
 simp [Instr.indexAt, asIntOf, run_underlying hu, hs, addr_add, Instr.sureAddr]
 intro h; omega
theorem indexBoxT_run (hS : SigOk G) {t : TypeId} {x i : V G.S} {st : St G.S} {k : K G} (h : (indexBoxT C t x i st k).run G Φ f = some r) :
  ∃ v st' rd wr, st'.tm = st.tm ∧ st'.n0 = st.n0 ∧ (wr = [] → st'.L = st.L) ∧ (∀ (w0 : World) (Fp : Fx) (okA : Okc) (M : Mem) (ok : Okc) (w : World) (vx vi : Value), MI C w0 Fp okA M ok st.L w → VR w ok M x vx → VR w ok M i vi →
   ∃ val ok', (Instr.indexAt t vx vi).run C.P w = .ok val w ∧ MI C w0 Fp okA M ok' st'.L w ∧ Ex M ok w M ok' w ∧ VR w ok' M v val) ∧ (k v st' rd wr).run G Φ f = some r := by
 unfold indexBoxT at h
 split at h
 ·rename_i m e hu
  split at h
  ·rename_i o off ki n
   split at h
   ·rename_i ty sz cs hty hsz hsn
    split at h
    ·rename_i hc
     obtain ⟨rfl, hsc, hlen⟩ := hc
     split at h
     ·rename_i xs hxs
      obtain ⟨y, hy, h'⟩ := run_bnd h
      obtain ⟨j, rfl, hj⟩ := idx_ok hy
      refine ⟨_, _, _, _, ?_, ?_, fun e => ?_, fun w0 Fp okA M ok w vx vi hm hx hi => ?_, h'⟩
      ·rfl
      ·rfl
      ·simp only [e, freeze_nil]
      obtain ⟨hm1, he1⟩ := hm.freeze hS (reach st.L 2 (.ref o off))
      have hv := snap_ok hS hm 2 _ _ _ (reach st.L 2 (.ref o off)) hsn (fun o ho => by simpa using ho) hx
      cases hi
      obtain ⟨hl, hg⟩ := mapO_get hxs
      obtain ⟨c, hcj, hpc⟩ := hg j y hj
      have hjm : j < m := by rw [← hlen]; exact (List.getElem?_eq_some_iff.1 hcj).1
      cases hv with
      | pc _ b off' u h1 h2 =>
       refine ⟨_, _, indexAt_arr hu (sizeT_run hsz) hjm, hm1, he1, ?_⟩
       refine .pc _ b _ (fun q => u (j + q)) (fun q z hq => ?_) (fun q z hq => ?_)
       ·cases q with
        | zero => have := h1 j c hcj; rw [Nat.mul_one]; exact this
        | succ q => simp at hq
       ·cases q with
        | zero =>
         simp at hq
         subst hq
         exact (prj_ok hS hpc (h2 j c hcj)).2
        | succ q => simp at hq
     ·exact run_fail h
    ·exact run_fail h
   ·exact run_fail h
  ·exact run_fail h
 ·exact run_fail h
theorem fill_mono {p q : Nat → Option (Nat × Nat)} (hpq : ∀ i x, p i = some x → q i = some x) : ∀ (l : List (Nat × Value)) (z r : Array Value), Instr.fill p z l = some r → Instr.fill q z l = some r
 | [], z, r, h => h
 | (i, v) :: l, z, r, h => by
  unfold Instr.fill at h ⊢
  cases hp : p i with
  | none => simp [hp] at h
  | some x =>
   rw [hpq i x hp]
   rw [hp] at h
   obtain ⟨off, size⟩ := x
   simp only at h ⊢
   split at h
   ·cases h
   ·rename_i hc
    rw [if_neg hc]
    exact fill_mono hpq l _ r h
theorem places_go : ∀ (fs : List Field) (l : List (TypeId × Nat × Nat)), places.go C fs = some l → ∀ w, (fs.mapM fun f => do pure (f.offset, ← sizeOf f.type) : Sem (List (Nat × Nat))).run C.P w = .ok (l.map (·.2)) w
 | [], l, h, w => by simp [places.go] at h; subst h; simp
 | fd :: fs, l, h, w => by
  simp only [places.go] at h
  split at h
  ·rename_i s l' hs hl
   cases h
   have ih := places_go fs l' hl w
   simp at ih
   rw [List.mapM_cons]
   simp [sizeT_run hs, ih]
  ·cases h
theorem parts_ok {w0 : World} {Fp : Fx} {okA : Okc} {M : Mem} {ok : Okc} {st : St G.S} {a : Act} {w : World} (hm : MI C w0 Fp okA M ok st.L w) (ht : TR w ok M st.tm a) {pl : List (TypeId × Nat × Nat)} : ∀ (ps : List (Nat × Operand)) (l : List (Nat × V G.S)), parts C st pl ps = some l →
  l.map (·.1) = (ps.map fun (i, x) => (i, a.eval x)).map (·.1) ∧ VRs w ok M (l.map (·.2)) ((ps.map fun (i, x) => (i, a.eval x)).map (·.2))
 | [], l, h => by simp [parts] at h; subst h; exact ⟨rfl, .nil⟩
 | (i, x) :: r, l, h => by
  simp only [parts] at h
  split at h
  ·rename_i t q l' h1 h2
   cases h
   obtain ⟨g1, g2⟩ := parts_ok hm ht r l' h2
   refine ⟨by simp only [List.map_cons, g1], ?_⟩
   exact .cons (opd_ok hm ht t x) g2
  ·cases h
theorem build_run {w0 : World} {Fp : Fx} {okA : Okc} {M : Mem} {ok : Okc} {st : St G.S} {a : Act} {w : World} (hm : MI C w0 Fp okA M ok st.L w) (ht : TR w ok M st.tm a) {t : TypeId} {ps : Array (Nat × Operand)}
  {z cs : List (V G.S)} {pl : List (TypeId × Nat × Nat)} {l : List (Nat × V G.S)} (hz : zeros C t = some z) (hp : places C t = some pl) (hl : parts C st pl ps.toList = some l) (hf : fillV (fun i => (pl[i]?).map (·.2)) z l = some cs) :
  ∃ val, (Instr.build t (ps.map fun (i, x) => (i, a.eval x))).run C.P w = .ok val w ∧ VR w ok M (.ag cs) val := by
 obtain ⟨zv, hzr, hzv⟩ := zeros_ok hz
 obtain ⟨h1, h2⟩ := parts_ok hm ht _ _ hl
 obtain ⟨zs', hfill, hcs⟩ := fillV_ok hf (hzv w ok M) h1 h2
 rw [Array.toArray_toList] at hfill
 refine ⟨.agg zs', ?_, by have := VR.ag (w := w) (ok := ok) (M := M) cs zs'.toList hcs.1 hcs.2; simpa using this⟩
 unfold places at hp
 split at hp
 ·rename_i fs hu
  have hg := places_go _ _ hp w
  have hfill' : Instr.fill (fun i => (pl.map (·.2)).toArray[i]?) zv.cells (ps.map fun (i, x) => (i, a.eval x)).toList = some zs' := by
   rw [Array.toList_map, ← hfill]
   congr 1
   funext i
   simp
  have hmap : (fs.mapM fun f => do pure (f.offset, ← sizeOf f.type) : Sem (Array (Nat × Nat))).run C.P w = .ok (pl.map (·.2)).toArray w := by
   simp at hg
   rw [Array.mapM_eq_mapM_toList]
   simp [hg]
  simp at hmap
  simp [Instr.build, hzr, run_underlying hu, hmap]
  simp at hfill'
  simp [hfill']
 ·rename_i n e hu
  split at hp
  ·rename_i s hs
   cases hp
   have hfill' : Instr.fill (fun i => some (i * s, s)) zv.cells (ps.map fun (i, x) => (i, a.eval x)).toList = some zs' := by
    rw [Array.toList_map]
    refine fill_mono (fun i x hx => ?_) _ _ _ hfill
    simp only [List.getElem?_map, Option.map_map] at hx
    cases hr : (List.range n)[i]? with
    | none => rw [hr] at hx; cases hx
    | some j =>
     rw [hr] at hx
     have hj : j = i := by
      obtain ⟨hlt, he⟩ := List.getElem?_eq_some_iff.1 hr
      simp at he; exact he.symm
     subst hj
     exact hx
   simp at hfill'
   simp [Instr.build, hzr, run_underlying hu, sizeT_run hs, hfill']
  ·cases hp
 ·cases hp
theorem index_str_run {P : Program} {w : World} {t : TypeId} {s : ByteArray} {k : IntKind} {n : Nat} {b : UInt8} (hu : P.underlying t = some .string) (hb : s.data.toList[n]? = some b) :
  (Instr.index t (.string s) (.int k (n : Int))).run P w = .ok (.int .u8 b.toNat) w := by
 have hb' : s[n]? = some b := by
  obtain ⟨h1, h2⟩ := List.getElem?_eq_some_iff.1 hb
  have hlt : n < s.size := by simpa using h1
  rw [getElem?_pos s n hlt]
  simp only [Option.some.injEq]
  rw [← h2]
  rfl
 simp [Instr.index, asIntOf, run_underlying hu, hb']
theorem index_arr_run {P : Program} {w : World} {t e : TypeId} {m n : Nat} {l : Array Value} {k : IntKind} {v : Value} (hu : P.underlying t = some (.array m e)) (hs : (sizeOf e).run P w = .ok 1 w) (ha : (isAgg e).run P w = .ok false w) (hn : n < m) (hv : l[n]? = some v) :
  (Instr.index t (.agg l) (.int k (n : Int))).run P w = .ok v w := by
 simp [Instr.index, asIntOf, run_underlying hu, hs, Go.part, ha, hv, hn]
theorem zips_one : ∀ {ts : List TypeId} {vs : List Value} {cs : List (V G.S)}, zips C ts vs = some cs → cs.all V.one = true
  | [], [], cs, h => by simp [zips] at h; subst h; rfl
  | t :: ts, v :: vs, cs, h => by
    simp only [zips] at h
    split at h
    · rename_i x y hx hy
      cases h
      have : x.one = true := by
        unfold zeroV at hx
        split at hx
        all_goals first
          | (cases hx; rfl)
          | (split at hx <;> first
              | (split at hx <;> first | (cases hx; rfl) | (cases hx; done))
              | (cases hx; done))
          | (cases hx; done)
      simp only [List.all_cons, this, zips_one hy, Bool.and_self]
    · cases h
  | [], _ :: _, cs, h => by simp [zips] at h
  | _ :: _, [], cs, h => by simp [zips] at h
theorem zeros_one {t : TypeId} {cs : List (V G.S)} (h : zeros C t = some cs) : cs.all V.one = true := by
 unfold zeros at h
 split at h
 ·split at h
  ·exact zips_one h
  ·cases h
 ·cases h
theorem ex_okF0 {M : Mem} {ok : Okc} {L : List (Obj G.S)} {w : World} : Ex M (okF M ok L []) w M ok w :=
 ⟨fun _ _ h => h, fun b off u h hc => ⟨by
  rcases h with h | ⟨o, ob, h1, _⟩
  ·exact h
  ·simp at h1, hc⟩⟩
theorem made_get (z : Array Value) (n i j : Nat) (hj : j < z.size) (hi : i < n) : (madeCells z (n * z.size)).toList[i * z.size + j]? = z.toList[j]? := by
  have hlt : i * z.size + j < n * z.size := by
    calc i * z.size + j < i * z.size + z.size := by omega
      _ = (i + 1) * z.size := by rw [Nat.add_mul, Nat.one_mul]
      _ ≤ n * z.size := Nat.mul_le_mul_right _ hi
  have hmod : (i * z.size + j) % z.size = j := by rw [Nat.mul_comm, Nat.mul_add_mod]; exact Nat.mod_eq_of_lt hj
  simp [madeCells, hlt, hmod, hj]
theorem makeSlice_run (hS : SigOk G) {t e : TypeId} {ty : Ty} {z : List (V G.S)} {x : ty.den G.S} {n : Nat} (hu : C.P.underlying t = some (.slice e)) (hb : bytesOk C e = true) (hs : sizeT C e = some (Ty.sz G ty)) (hz : zeros C e = some z) (hn : n ≤ big)
    {st : St G.S} (hre : (reachs st.L z) = []) (hx : newEl st.L ty z = some x) {w0 : World} {Fp : Fx} {okA : Okc} {M : Mem} {ok : Okc} {w : World} (hm : MI C w0 Fp okA M ok st.L w) (k1 k2 : IntKind) :
    ∃ val w' M', (Instr.makeSlice t (.int k1 (n : Int)) (.int k2 (n : Int))).run C.P w = .ok val w' ∧ MI C w0 Fp okA M' ok (st.L ++ [.arr e ty (List.replicate n x) false]) w' ∧ Ex M ok w M' ok w' ∧ VR (G := G) w' ok M' (.arr st.L.length) val := by
  obtain ⟨i, zv, hi, hzi, h128, hpos, hzc⟩ := bytesOk_info hb
  obtain ⟨i', hi', his⟩ := sizeT_info hs
  rw [hi] at hi'; cases hi'
  obtain ⟨i2, zv2, hi2, hz2, hzv⟩ := zeros_info hz
  rw [hi] at hi2; cases hi2
  rw [hzi] at hz2; cases hz2
  have hbb : big = 68719476736 := rfl
  obtain ⟨w', hr, hown, hgrow⟩ := run_make_full (P := C.P) w 0 t e i zv (Ty.sz G ty) hu hi hzi his k1 k2 n (by
    calc i.bytes * n ≤ 2048 * big := Nat.mul_le_mul h128 hn
      _ ≤ 281474976710656 := by rw [hbb]; omega) (by unfold maxLen; omega) (Nat.zero_le _)
  have hg : ∀ k, k < w.heap.size → w'.heap[k]? = w.heap[k]? := fun k hk => hgrow.block k hk (by simp)
  have he := hm.ex_push (w' := w') (.arr (some ⟨w.heap.size, 0, none⟩) n n e (Ty.sz G ty)) hg
  have hel := (newEl_ok hS hm (os := []) hx (fun o ho => by rw [hre] at ho; cases ho) ((hzv w ok M).one (zeros_one hz)) (hzv w ok M)).mono ex_okF0
  have hzs : zv.cells.size = Ty.sz G ty := by rw [hzc, his]
  refine ⟨_, w', _, hr, hm.push (.arr (some ⟨w.heap.size, 0, none⟩) n n e (Ty.sz G ty)) (.arr e ty (List.replicate n x) false) hgrow.os hgrow.tape hgrow.output hgrow.size hg ?_ ?_, he, .arr _ _ n n e (Ty.sz G ty) (updM_same _ _ _)⟩
  · refine ⟨some ⟨w.heap.size, 0, none⟩, n, _, by rw [List.length_replicate]; exact updM_same _ _ _, by rw [List.length_replicate]; exact hown, by rw [← his]; exact hpos, fun i y j c u h1 h2 h3 => ?_⟩
    have hil := (List.getElem?_eq_some_iff.1 h1).1
    rw [List.length_replicate] at hil
    rw [List.getElem?_replicate, if_pos hil] at h1
    cases h1
    have hjl := (List.getElem?_eq_some_iff.1 h2).1
    rw [cells_len hS] at hjl
    rw [← hzs, made_get _ _ _ _ (by rw [hzs]; exact hjl) hil] at h3
    exact (hel.2 j c u h2 h3).mono he
  · intro b hb
    simp [MB.blk] at hb
    omega
theorem makeTr_run (hS : SigOk G) {t e : TypeId} {ty : Ty} {z us : List (V G.S)} {x : ty.den G.S} {n : Nat} (hu : C.P.underlying t = some (.slice e)) (hb : bytesOk C e = true) (hs : sizeT C e = some (Ty.sz G ty)) (hz : zeros C e = some z) (hn : n ≤ big)
    {st : St G.S} (hoc : ownCells st.L z = some (us, [])) (hx : mkEl ty us = some x) {w0 : World} {Fp : Fx} {okA : Okc} {M : Mem} {ok : Okc} {w : World} (hm : MI C w0 Fp okA M ok st.L w) (k1 k2 : IntKind) :
    ∃ val w' M', (Instr.makeSlice t (.int k1 (n : Int)) (.int k2 (n : Int))).run C.P w = .ok val w' ∧ MI C w0 Fp okA M' ok (st.L ++ [.tr e ty (List.replicate n x) []]) w' ∧ Ex M ok w M' ok w' ∧ VR (G := G) w' ok M' (.arr st.L.length) val := by
  obtain ⟨i, zv, hi, hzi, h128, hpos, hzc⟩ := bytesOk_info hb
  obtain ⟨i', hi', his⟩ := sizeT_info hs
  rw [hi] at hi'; cases hi'
  obtain ⟨i2, zv2, hi2, hz2, hzv⟩ := zeros_info hz
  rw [hi] at hi2; cases hi2
  rw [hzi] at hz2; cases hz2
  have hbb : big = 68719476736 := rfl
  obtain ⟨w', hr, hown, hgrow⟩ := run_make_full (P := C.P) w 0 t e i zv (Ty.sz G ty) hu hi hzi his k1 k2 n (by
    calc i.bytes * n ≤ 2048 * big := Nat.mul_le_mul h128 hn
      _ ≤ 281474976710656 := by rw [hbb]; omega) (by unfold maxLen; omega) (Nat.zero_le _)
  have hg : ∀ k, k < w.heap.size → w'.heap[k]? = w.heap[k]? := fun k hk => hgrow.block k hk (by simp)
  have he := hm.ex_push (w' := w') (.arr (some ⟨w.heap.size, 0, none⟩) n n e (Ty.sz G ty)) hg
  obtain ⟨q1, q2, _, own, q4, _, q6⟩ := ownCells_ot hS hm hoc
  have hcx : Ty.cells G ty x = us := mkEl_cells hS hx q2
  have hzs : zv.cells.size = Ty.sz G ty := by rw [hzc, his]
  refine ⟨_, w', _, hr, hm.push (.arr (some ⟨w.heap.size, 0, none⟩) n n e (Ty.sz G ty)) (.tr e ty (List.replicate n x) []) hgrow.os hgrow.tape hgrow.output hgrow.size hg ?_ ?_, he, .arr _ _ n n e (Ty.sz G ty) (updM_same _ _ _)⟩
  · refine ⟨some ⟨w.heap.size, 0, none⟩, n, by rw [List.length_replicate]; exact updM_same _ _ _, _, fun _ _ _ => False, by rw [List.length_replicate]; exact hown, by rw [← his]; exact hpos, fun i y j c u h1 h2 h3 => .inl ⟨fun o' h => (by cases h), ?_⟩, fun _ _ _ _ _ h => h.elim, fun _ _ _ h => h.elim, fun _ _ _ _ h => h⟩
    have hil := (List.getElem?_eq_some_iff.1 h1).1
    rw [List.length_replicate] at hil
    rw [List.getElem?_replicate, if_pos hil] at h1
    cases h1
    have hjl := (List.getElem?_eq_some_iff.1 h2).1
    rw [cells_len hS] at hjl
    rw [← hzs, made_get _ _ _ _ (by rw [hzs]; exact hjl) hil] at h3
    rw [hcx] at h2
    have hno : ∀ b, ¬ ∃ q ∈ own j, hasB M q b := fun b ⟨q, h4, _⟩ => by have := q4 j q h4; cases this
    exact ((q6 _ (hzv w ok M) j c u h2 h3).mono fun b hb => (hno b hb).elim).more fun b hb => hno b hb
  · intro b hb
    simp [MB.blk] at hb
    omega
end
end Go.Dv
