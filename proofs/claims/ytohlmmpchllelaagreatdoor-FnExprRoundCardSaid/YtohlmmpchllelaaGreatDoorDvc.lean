/- An evaluator over the program text and its soundness: what a function returns, as plain equations. It holds for every program that the configuration describes. -/
import Derived.Test.YtohlmmpchllelaaGreatDoorDvb
set_option linter.all false
set_option linter.unusedVariables false
set_option linter.unusedSimpArgs false
namespace Go.Dv
open Go
section
variable {G : Sig} {C : Cfg G} {Φ : FuncId → List Item → St G.S → Option (Ret G.S)} {f : FuncId} {r : Ret G.S}
theorem dats_get {L : List (Obj G.S)} {t : Ty} : ∀ {vs : List (V G.S)} {xs : List (t.den G.S)}, dats L t vs = some xs → xs.length = vs.length ∧ ∀ (j : Nat) (x : t.den G.S), xs[j]? = some x → ∃ v, vs[j]? = some v ∧ dat L t v = some x
 | [], xs, h => by simp [dats] at h; subst h; exact ⟨rfl, fun j x hj => by simp at hj⟩
 | v :: vs, xs, h => by
  simp only [dats] at h
  split at h
  ·rename_i x hx
   split at h
   ·rename_i l hl
    cases h
    obtain ⟨h1, h2⟩ := dats_get hl
    refine ⟨by simp [h1], fun j y hj => ?_⟩
    cases j with
    | zero => simp at hj; subst hj; exact ⟨v, rfl, hx⟩
    | succ j => simp at hj; exact h2 j y hj
   ·cases h
  ·cases h
theorem reachs_mem {L : List (Obj G.S)} {o : Nat} : ∀ {vs : List (V G.S)} {v : V G.S}, v ∈ vs → o ∈ reach L 20 v → o ∈ reachs L vs
 | a :: vs, v, hv, ho => by
  simp only [reachs, List.mem_append]
  cases hv with
  | head => exact .inl ho
  | tail _ hv => exact .inr (reachs_mem hv ho)
theorem zip_range : ∀ (ps : List (Nat × Value)) (k : Nat), ps.map (·.1) = List.range' k ps.length → ps = ((ps.map (·.2)).zipIdx k).map fun x => (x.2, x.1)
 | [], k, _ => rfl
 | (i, v) :: ps, k, h => by
  simp only [List.map_cons, List.length_cons, List.range'_succ, List.cons.injEq] at h
  obtain ⟨rfl, h⟩ := h
  simp only [List.map_cons, List.zipIdx_cons, List.cons.injEq, true_and]
  exact zip_range ps (i + 1) h
theorem buildSlice_run0 (hS : SigOk G) {w0 : World} {Fp : Fx} {okA : Okc} {M : Mem} {ok : Okc} {st : St G.S} {a : Act} {w : World} (hm : MI C w0 Fp okA M ok st.L w) (ht : TR w ok M st.tm a) {t e : TypeId} {ty : Ty} {n : Nat} {ps : Array (Nat × Operand)}
    {xs : List (ty.den G.S)} (hu : C.P.underlying t = some (.slice e)) (hs : sizeT C e = some (Ty.sz G ty)) (hbig : n * Ty.sz G ty ≤ 16777216) (hb : bytesOk C e = true) (hps : ps.toList.map (·.1) = List.range n)
    (hx : dats st.L ty (ps.toList.map fun (_, x) => opd C st e x) = some xs) :
    ∃ val w' M', (Instr.buildSlice t n (ps.map fun (i, x) => (i, a.eval x))).run C.P w = .ok val w' ∧
      MI C w0 Fp okA M' (okF M ok st.L (reachs st.L (ps.toList.map fun (_, x) => opd C st e x))) (freeze st.L (reachs st.L (ps.toList.map fun (_, x) => opd C st e x)) ++ [.arr e ty xs false]) w' ∧ Ex M ok w M' (okF M ok st.L (reachs st.L (ps.toList.map fun (_, x) => opd C st e x))) w' ∧ VR (G := G) w' (okF M ok st.L (reachs st.L (ps.toList.map fun (_, x) => opd C st e x))) M' (.arr st.L.length) val ∧
      (∀ b, hasB M' st.L.length b → b = w.heap.size) ∧ ∃ cells, w' = w.alloc (.cells cells e) := by
  obtain ⟨i, zv, hi, hzi, h128, hpos, hzc⟩ := bytesOk_info hb
  obtain ⟨i', hi', his⟩ := sizeT_info hs
  rw [hi] at hi'; cases hi'
  obtain ⟨hm2, he2⟩ := hm.freeze hS (reachs st.L (ps.toList.map fun (_, x) => opd C st e x))
  obtain ⟨hxl, hxg⟩ := dats_get hx
  have hlen : ps.toList.length = n := by have := congrArg List.length hps; simpa using this
  rw [List.length_map, hlen] at hxl
  -- the values
  have hvals : ∀ (j : Nat) (x : ty.den G.S), xs[j]? = some x → ∃ v, (ps.toList.map fun p => a.eval p.2)[j]? = some v ∧ VRs w (okF M ok st.L (reachs st.L (ps.toList.map fun (_, x) => opd C st e x))) M (Ty.cells G ty x) v.cells.toList := by
    intro j x hj
    obtain ⟨v, hv, hd⟩ := hxg j x hj
    rw [List.getElem?_map] at hv
    cases hp : ps.toList[j]? with
    | none => rw [hp] at hv; cases hv
    | some p =>
      rw [hp] at hv
      simp only [Option.map_some, Option.some.injEq] at hv
      subst hv
      refine ⟨a.eval p.2, by rw [List.getElem?_map, hp]; rfl, ?_⟩
      exact (dat_ok hS hm hd (fun o ho => by rw [List.contains_iff_mem]; exact reachs_mem (List.mem_map.2 ⟨p, List.mem_of_getElem? hp, rfl⟩) ho) (opd_ok hm ht e p.2)).1
  have hvl : (ps.toList.map fun p => a.eval p.2).length = n := by simpa using hlen
  have hsz : ∀ v ∈ (ps.toList.map fun p => a.eval p.2), v.cells.size = Ty.sz G ty := by
    intro v hv
    obtain ⟨j, hj⟩ := List.mem_iff_getElem?.1 hv
    have hjl : j < xs.length := by rw [hxl, ← hvl]; exact (List.getElem?_eq_some_iff.1 hj).1
    obtain ⟨v', h1, h2⟩ := hvals j xs[j] (List.getElem?_eq_getElem hjl)
    rw [hj] at h1; cases h1
    rw [← Array.length_toList, ← h2.1, cells_len hS]
  have hpl : (ps.map fun (i, x) => (i, a.eval x)).toList = ((ps.toList.map fun p => a.eval p.2).zipIdx 0).map fun x => (x.2, x.1) := by
    rw [Array.toList_map]
    have := zip_range (ps.toList.map fun (i, x) => (i, a.eval x)) 0 (by
      rw [List.map_map, List.length_map, hlen, ← List.range_eq_range', ← hps]
      rfl)
    rw [this]
    congr 2
    rw [List.map_map]
    rfl
  have hspos : 0 < Ty.sz G ty := by rw [← his]; exact hpos
  -- the run
  have hrun : ∃ cells : Array Value, (Instr.buildSlice t n (ps.map fun (i, x) => (i, a.eval x))).run C.P w = .ok (.slice (some ⟨w.heap.size, 0, none⟩) n n) (w.alloc (.cells cells e)) ∧ cells.size = n * Ty.sz G ty ∧
      ∀ (j : Nat) (v : Value) (c : Nat), (ps.toList.map fun p => a.eval p.2)[j]? = some v → c < Ty.sz G ty → cells.toList[j * Ty.sz G ty + c]? = v.cells.toList[c]? := by
    obtain ⟨cells, h1, h2, h3⟩ := Great.fill_dense hspos (ps.toList.map fun p => a.eval p.2) 0 ((Array.range (n * Ty.sz G ty)).map (zv.cells[· % zv.cells.size]!)) hsz (by rw [Nat.zero_add, hvl]; simp)
    have hcs : cells.size = n * Ty.sz G ty := by rw [h2]; simp
    refine ⟨cells, ?_, hcs, fun j v c hj hc => ?_⟩
    · rcases Nat.eq_zero_or_pos n with hn | hn
      · subst hn
        have hps0 : ps.toList = [] := List.eq_nil_of_length_eq_zero hlen
        have hps1 : ps = #[] := by rw [← Array.toArray_toList (xs := ps), hps0]
        have hc0 : cells = #[] := by apply Array.eq_empty_of_size_eq_zero; rw [hcs, Nat.zero_mul]
        subst hps1; subst hc0
        simp [Instr.buildSlice, run_underlying hu, sizeOf, typeInfo, hi, Instr.fill, newRow]
        rw [show Array.range 0 = #[] from Array.eq_empty_of_size_eq_zero (by simp), Array.map_empty]
      · rw [← his] at h1
        exact run_buildSlice w t e n _ cells i zv hu hi hzi (by rw [his]; omega) (by rw [his]; have := Nat.mul_pos hn hspos; omega) (by rw [hpl]; exact h1)
    · have hjl : j < n := by rw [← hvl]; exact (List.getElem?_eq_some_iff.1 hj).1
      have hlt : j * Ty.sz G ty + c < n * Ty.sz G ty := by
        calc j * Ty.sz G ty + c < j * Ty.sz G ty + Ty.sz G ty := by omega
          _ = (j + 1) * Ty.sz G ty := by rw [Nat.add_mul, Nat.one_mul]
          _ ≤ n * Ty.sz G ty := Nat.mul_le_mul_right _ hjl
      have := h3 (j * Ty.sz G ty + c)
      rw [if_pos ⟨by omega, by rw [Nat.zero_add, hvl]; exact hlt⟩] at this
      have e1 : (j * Ty.sz G ty + c) / Ty.sz G ty = j := by
        rw [Nat.mul_comm, Nat.mul_add_div hspos]; simp [Nat.div_eq_of_lt hc]
      have e2 : (j * Ty.sz G ty + c) % Ty.sz G ty = c := by
        rw [Nat.mul_comm, Nat.mul_add_mod]; exact Nat.mod_eq_of_lt hc
      rw [e1, e2, Nat.sub_zero, hj] at this
      simp only [Option.bind_some] at this
      rw [Array.getElem?_toList, Array.getElem?_toList]
      exact this
  obtain ⟨cells, hr, hcs, hcg⟩ := hrun
  have hg : ∀ k, k < w.heap.size → (w.alloc (.cells cells e)).heap[k]? = w.heap[k]? := fun k hk => heap_push w _ k hk
  have he := hm2.ex_push (w' := w.alloc (.cells cells e)) (.arr (some ⟨w.heap.size, 0, none⟩) n n e (Ty.sz G ty)) hg
  rw [freeze_length] at he
  have hbb : maxLen = 9223372036854775807 := rfl
  have hnb : n ≤ 16777216 := by
    calc n = n * 1 := (Nat.mul_one n).symm
      _ ≤ n * Ty.sz G ty := Nat.mul_le_mul_left _ hspos
      _ ≤ _ := hbig
  have hpush := hm2.push (w' := w.alloc (.cells cells e)) (.arr (some ⟨w.heap.size, 0, none⟩) n n e (Ty.sz G ty)) (.arr e ty xs false) rfl rfl rfl (by simp) hg (by
      rw [freeze_length]
      refine ⟨some ⟨w.heap.size, 0, none⟩, n, cells.toList, by rw [hxl]; exact updM_same _ _ _, by rw [hxl]; exact World.ownsRow_lit w cells n (Nat.zero_le _) (by omega) hcs, hspos, fun i x j y u h1 h2 h3 => ?_⟩
      obtain ⟨v, hv, hvr⟩ := hvals i x h1
      have hjl := (List.getElem?_eq_some_iff.1 h2).1
      rw [cells_len hS] at hjl
      rw [hcg i v j hv hjl] at h3
      exact (hvr.2 j y u h2 h3).mono he) (fun b hb => by simp [MB.blk] at hb; omega)
  rw [freeze_length] at hpush
  exact ⟨_, _, _, hr, hpush, he2.trans he, .arr _ _ n n e (Ty.sz G ty) (updM_same _ _ _), fun b hb => by rw [hasB_same] at hb; simpa [MB.blk] using hb.symm, cells, rfl⟩
theorem buildSlice_run (hS : SigOk G) {w0 : World} {Fp : Fx} {okA : Okc} {M : Mem} {ok : Okc} {st : St G.S} {a : Act} {w : World} (hm : MI C w0 Fp okA M ok st.L w) (ht : TR w ok M st.tm a) {t e : TypeId} {ty : Ty} {n : Nat} {ps : Array (Nat × Operand)}
  {xs : List (ty.den G.S)} (hu : C.P.underlying t = some (.slice e)) (hs : sizeT C e = some (Ty.sz G ty)) (hbig : n * Ty.sz G ty ≤ 16777216) (hb : bytesOk C e = true) (hps : ps.toList.map (·.1) = List.range n)
  (hx : dats st.L ty (ps.toList.map fun (_, x) => opd C st e x) = some xs) :
  ∃ val w' M' ok', (Instr.buildSlice t n (ps.map fun (i, x) => (i, a.eval x))).run C.P w = .ok val w' ∧
   MI C w0 Fp okA M' ok' (freeze st.L (reachs st.L (ps.toList.map fun (_, x) => opd C st e x)) ++ [.arr e ty xs false]) w' ∧ Ex M ok w M' ok' w' ∧ VR (G := G) w' ok' M' (.arr st.L.length) val := by
 obtain ⟨val, w', M', h1, h2, h3, h4, _⟩ := buildSlice_run0 hS hm ht hu hs hbig hb hps hx
 exact ⟨val, w', M', _, h1, h2, h3, h4⟩
theorem lit_run {w : World} {a : Act} {t e : TypeId} {sz : Nat} {n : Nat} {ps : Array (Nat × Operand)} (hu : C.P.underlying t = some (.slice e)) (hs : sizeT C e = some sz) (hbig : n * sz ≤ 16777216) (hb : bytesOk C e = true) (hps : ps.toList.map (·.1) = List.range n)
    (hsz : ∀ v ∈ (ps.toList.map fun p => a.eval p.2), v.cells.size = sz) :
    ∃ cells : Array Value, (Instr.buildSlice t n (ps.map fun (i, x) => (i, a.eval x))).run C.P w = .ok (.slice (some ⟨w.heap.size, 0, none⟩) n n) (w.alloc (.cells cells e)) ∧ cells.size = n * sz ∧ 0 < sz ∧
      ∀ (j : Nat) (v : Value) (c : Nat), (ps.toList.map fun p => a.eval p.2)[j]? = some v → c < sz → cells.toList[j * sz + c]? = v.cells.toList[c]? := by
  obtain ⟨i, zv, hi, hzi, h128, hpos, hzc⟩ := bytesOk_info hb
  obtain ⟨i', hi', his⟩ := sizeT_info hs
  rw [hi] at hi'; cases hi'
  have hlen : ps.toList.length = n := by have := congrArg List.length hps; simpa using this
  have hvl : (ps.toList.map fun p => a.eval p.2).length = n := by simpa using hlen
  have hpl : (ps.map fun (i, x) => (i, a.eval x)).toList = ((ps.toList.map fun p => a.eval p.2).zipIdx 0).map fun x => (x.2, x.1) := by
    rw [Array.toList_map]
    have := zip_range (ps.toList.map fun (i, x) => (i, a.eval x)) 0 (by
      rw [List.map_map, List.length_map, hlen, ← List.range_eq_range', ← hps]
      rfl)
    rw [this]
    congr 2
    rw [List.map_map]
    rfl
  have hspos : 0 < sz := by rw [← his]; exact hpos
  obtain ⟨cells, h1, h2, h3⟩ := Great.fill_dense hspos (ps.toList.map fun p => a.eval p.2) 0 ((Array.range (n * sz)).map (zv.cells[· % zv.cells.size]!)) hsz (by rw [Nat.zero_add, hvl]; simp)
  have hcs : cells.size = n * sz := by rw [h2]; simp
  refine ⟨cells, ?_, hcs, hspos, fun j v c hj hc => ?_⟩
  · rcases Nat.eq_zero_or_pos n with hn | hn
    · subst hn
      have hps0 : ps.toList = [] := List.eq_nil_of_length_eq_zero hlen
      have hps1 : ps = #[] := by rw [← Array.toArray_toList (xs := ps), hps0]
      have hc0 : cells = #[] := by apply Array.eq_empty_of_size_eq_zero; rw [hcs, Nat.zero_mul]
      subst hps1; subst hc0
      simp [Instr.buildSlice, run_underlying hu, sizeOf, typeInfo, hi, Instr.fill, newRow]
      rw [show Array.range 0 = #[] from Array.eq_empty_of_size_eq_zero (by simp), Array.map_empty]
    · rw [← his] at h1
      exact run_buildSlice w t e n _ cells i zv hu hi hzi (by rw [his]; omega) (by rw [his]; have := Nat.mul_pos hn hspos; omega) (by rw [hpl]; exact h1)
  · have hjl : j < n := by rw [← hvl]; exact (List.getElem?_eq_some_iff.1 hj).1
    have hlt : j * sz + c < n * sz := by
      calc j * sz + c < j * sz + sz := by omega
        _ = (j + 1) * sz := by rw [Nat.add_mul, Nat.one_mul]
        _ ≤ n * sz := Nat.mul_le_mul_right _ hjl
    have := h3 (j * sz + c)
    rw [if_pos ⟨by omega, by rw [Nat.zero_add, hvl]; exact hlt⟩] at this
    have e1 : (j * sz + c) / sz = j := by
      rw [Nat.mul_comm, Nat.mul_add_div hspos]; simp [Nat.div_eq_of_lt hc]
    have e2 : (j * sz + c) % sz = c := by
      rw [Nat.mul_comm, Nat.mul_add_mod]; exact Nat.mod_eq_of_lt hc
    rw [e1, e2, Nat.sub_zero, hj] at this
    simp only [Option.bind_some] at this
    rw [Array.getElem?_toList, Array.getElem?_toList]
    exact this
theorem ownEls_ot (hS : SigOk G) {w0 : World} {Fp : Fx} {okA : Okc} {M : Mem} {ok : Okc} {L : List (Obj G.S)} {w : World} (hm : MI C w0 Fp okA M ok L w) {ty : Ty} : ∀ {vs : List (V G.S)} {xs : List (ty.den G.S)} {ids : List Nat}, ownEls L ty vs = some (xs, ids) →
  xs.length = vs.length ∧ (∀ q ∈ ids, ∃ ob, L[q]? = some ob ∧ ob.live ∧ ∀ off, ¬ ob.rd off) ∧ ∃ own : Nat → Nat → List Nat, (∀ i j q, q ∈ own i j → q ∈ ids) ∧ (ids.Nodup → ∀ i j i' j' q, q ∈ own i j → q ∈ own i' j' → i = i' ∧ j = j') ∧
   ∀ l, VRs w ok M vs l → (∀ v ∈ l, v.cells.size = Ty.sz G ty) ∧ ∀ (i : Nat) (x : ty.den G.S) (v : Value) (j : Nat) (y : V G.S) (u : Value), xs[i]? = some x → l[i]? = some v → (Ty.cells G ty x)[j]? = some y → v.cells.toList[j]? = some u → OT w (fun b => ∃ q ∈ own i j, hasB M q b) y u
 | [], xs, ids, h => by
  simp only [ownEls, Option.some.injEq, Prod.mk.injEq] at h
  obtain ⟨rfl, rfl⟩ := h
  exact ⟨rfl, fun q hq => (by cases hq), fun _ _ => [], fun _ _ _ h => (by cases h), fun _ _ _ _ _ _ h => (by cases h), fun l hl => ⟨fun v hv => (by have : l = [] := List.eq_nil_of_length_eq_zero hl.1.symm; subst this; cases hv), fun i x v j y u h => (by simp at h)⟩⟩
 | v :: vs, xs, ids, h => by
  simp only [ownEls] at h
  split at h
  ·rename_i cs hcs
   split at h
   ·rename_i us i1 hoc
    split at h
    ·rename_i x xs' j1 hx hxs
     split at h
     ·rename_i hlen
      simp only [Option.some.injEq, Prod.mk.injEq] at h
      obtain ⟨rfl, rfl⟩ := h
      obtain ⟨p1, p2, p3, own1, p4, p5, p6⟩ := ownCells_ot hS hm hoc
      obtain ⟨q1, q3, own2, q4, q5, q6⟩ := ownEls_ot hS hm hxs
      have hcx : Ty.cells G ty x = us := mkEl_cells hS hx p2
      refine ⟨by simp [q1], fun q hq => ?_, fun i j => match i with | 0 => own1 j | i + 1 => own2 i j, fun i j q hq => ?_, fun hn i j i' j' q hq hq' => ?_, fun l hl => ?_⟩
      ·rw [List.mem_append] at hq
       rcases hq with hq | hq
       ·exact p3 q hq
       ·exact q3 q hq
      ·rw [List.mem_append]
       cases i with
       | zero => exact .inl (p4 j q hq)
       | succ i => exact .inr (q4 i j q hq)
      ·rw [List.nodup_append] at hn
       cases i with
       | zero =>
        cases i' with
        | zero => exact ⟨rfl, p5 hn.1 _ _ q hq hq'⟩
        | succ i' => exact (hn.2.2 q (p4 _ _ hq) q (q4 _ _ _ hq') rfl).elim
       | succ i =>
        cases i' with
        | zero => exact (hn.2.2 q (p4 _ _ hq') q (q4 _ _ _ hq) rfl).elim
        | succ i' => have := q5 hn.2.1 _ _ _ _ q hq hq'; exact ⟨by omega, this.2⟩
      ·obtain ⟨u0, l', rfl, k1, k2⟩ := hl.inv
       obtain ⟨r1, r2⟩ := q6 l' k2
       have hcv := cellsL_ok hcs k1
       refine ⟨fun v' hv' => ?_, fun i x0 v' j y u h1 h2 h3 h4 => ?_⟩
       ·cases hv' with
        | head => rw [← Array.length_toList, ← hcv.1, ← p1, hlen]
        | tail _ hv' => exact r1 v' hv'
       ·cases i with
        | zero =>
         simp at h1 h2
         subst h1; subst h2
         rw [hcx] at h3
         exact p6 _ hcv j y u h3 h4
        | succ i => exact r2 i x0 v' j y u (by simpa using h1) (by simpa using h2) h3 h4
     ·cases h
    ·cases h
   ·cases h
  ·cases h
theorem buildTr_run (hS : SigOk G) {w0 : World} {Fp : Fx} {okA : Okc} {M : Mem} {ok : Okc} {st : St G.S} {a : Act} {w : World} (hm : MI C w0 Fp okA M ok st.L w) (ht : TR w ok M st.tm a) {t e : TypeId} {ty : Ty} {n : Nat} {ps : Array (Nat × Operand)}
    {xs : List (ty.den G.S)} {ids : List Nat} (hu : C.P.underlying t = some (.slice e)) (hs : sizeT C e = some (Ty.sz G ty)) (hbig : n * Ty.sz G ty ≤ 16777216) (hb : bytesOk C e = true) (hps : ps.toList.map (·.1) = List.range n)
    (hx : ownEls st.L ty (ps.toList.map fun (_, x) => opd C st e x) = some (xs, ids)) (hnd : ids.Nodup) :
    ∃ val w' M', (Instr.buildSlice t n (ps.map fun (i, x) => (i, a.eval x))).run C.P w = .ok val w' ∧
      MI C w0 Fp okA M' ok (killAll st.L ids ++ [.tr e ty xs []]) w' ∧ Ex M ok w M' ok w' ∧ VR (G := G) w' ok M' (.arr st.L.length) val := by
  obtain ⟨hxl, hids, own, o1, o2, o3⟩ := ownEls_ot hS hm hx
  have hlen : ps.toList.length = n := by have := congrArg List.length hps; simpa using this
  rw [List.length_map, hlen] at hxl
  have hvrs : VRs w ok M (ps.toList.map fun (_, x) => opd C st e x) (ps.toList.map fun p => a.eval p.2) := by
    refine ⟨by simp, fun j y v hj hv => ?_⟩
    rw [List.getElem?_map] at hj hv
    cases hp : ps.toList[j]? with
    | none => rw [hp] at hj; cases hj
    | some p =>
      rw [hp] at hj hv
      simp only [Option.map_some, Option.some.injEq] at hj hv
      subst hj; subst hv
      exact opd_ok hm ht e p.2
  obtain ⟨s1, s2⟩ := o3 _ hvrs
  obtain ⟨cells, hr, hcs, hspos, hcg⟩ := lit_run (C := C) (w := w) (a := a) hu hs hbig hb hps s1
  have hnb : n ≤ 16777216 := by
    calc n = n * 1 := (Nat.mul_one n).symm
      _ ≤ n * Ty.sz G ty := Nat.mul_le_mul_left _ hspos
      _ ≤ _ := hbig
  have hbb : maxLen = 9223372036854775807 := rfl
  have hg : ∀ k, k < w.heap.size → (w.alloc (.cells cells e)).heap[k]? = w.heap[k]? := fun k hk => heap_push w _ k hk
  have hblt : ∀ q b, q ∈ ids → hasB M q b → b < w.heap.size := fun q b hq hb => by
    obtain ⟨ob, h1, h2, _⟩ := hids q hq
    exact hm.blk_lt h1 h2 hb
  have hrec := hm.recast (M' := updF M st.L.length (.arr (some ⟨w.heap.size, 0, none⟩) n n e (Ty.sz G ty)) fun b => ∃ q ∈ ids, hasB M q b) (w' := w.alloc (.cells cells e)) (L' := killAll st.L ids ++ [.tr e ty xs []]) (fun q => q ∈ ids) (fun q => q = st.L.length) rfl rfl rfl (by simp)
    hids (fun b hb _ => hg b hb) (fun q x hq => by rw [updF_ne _ _ _ (by have := hm.dom q x hq; omega)]; exact hq) (fun q y hq => ?_) (fun q y hq hl => ?_) (fun he q y hq hl e1 => ?_) (fun q y b hq hl e1 hb => ?_) (fun o1 o2 _ _ _ _ _ _ _ e1 e2 _ _ => e1.trans e2.symm)
  · exact ⟨_, _, _, hr, hrec.1, hrec.2, .arr _ _ n n e (Ty.sz G ty) (updF_same _ _ _ _)⟩
  · simp only [List.length_append, killAll_len, List.length_singleton]
    by_cases e1 : q = st.L.length
    · omega
    · rw [updF_ne _ _ _ e1] at hq; have := hm.dom q y hq; omega
  · rcases snoc_split hq with ⟨h1, h2⟩ | ⟨h1, _⟩
    · rw [killAll_len] at h1
      obtain ⟨h3, h4⟩ := killAll_live ids st.L h2 hl
      exact .inl ⟨h3, h4, updF_ft _ _ _ (by omega)⟩
    · rw [killAll_len] at h1; exact .inr h1
  · subst e1
    rcases snoc_split hq with ⟨h1, _⟩ | ⟨_, rfl⟩
    · rw [killAll_len] at h1; omega
    · refine ⟨some ⟨w.heap.size, 0, none⟩, n, by rw [hxl]; exact updF_same _ _ _ _, cells.toList, fun i j b => ∃ q ∈ own i j, hasB M q b, by rw [hxl]; exact World.ownsRow_lit w cells n (Nat.zero_le _) (by omega) hcs, hspos, fun i x j y u h1 h2 h3 => .inl ⟨fun o' h => (by cases h), ?_⟩, ?_, ?_, ?_⟩
      · have hil : i < n := by rw [← hxl]; exact (List.getElem?_eq_some_iff.1 h1).1
        have hvi : i < (ps.toList.map fun p => a.eval p.2).length := by rw [List.length_map]; omega
        have hv := List.getElem?_eq_getElem hvi
        have hjl := (List.getElem?_eq_some_iff.1 h2).1
        rw [cells_len hS] at hjl
        rw [hcg i _ j hv hjl] at h3
        exact (s2 i x _ j y u h1 hv h2 h3).mono fun b hb => hg b (by obtain ⟨q, k1, k2⟩ := hb; exact hblt q b (o1 _ _ _ k1) k2)
      · rintro i j i' j' b ⟨q, k1, k2⟩ ⟨q', k3, k4⟩
        obtain ⟨ob, e1, e2, _⟩ := hids q (o1 _ _ _ k1)
        obtain ⟨ob', e3, e4, _⟩ := hids q' (o1 _ _ _ k3)
        have := hm.dis q q' ob ob' b e1 e3 e2 e4 k2 k4
        subst this
        exact o2 hnd _ _ _ _ q k1 k3
      · rintro i j b ⟨q, k1, k2⟩
        simp only [updF, if_true]
        exact ⟨q, o1 _ _ _ k1, k2⟩
      · rintro b hb i j ⟨q, k1, k2⟩
        simp at hb
        have := hblt q b (o1 _ _ _ k1) k2
        omega
  · subst e1
    rw [hasBF_same] at hb
    rcases hb with hb | ⟨q', k1, k2⟩
    · simp [MB.blk] at hb
      refine .inl ⟨by omega, fun h => ?_⟩
      simp only [updF, if_true] at h
      obtain ⟨q', k1, k2⟩ := h
      have := hblt q' b k1 k2
      omega
    · exact .inr ⟨q', k1, k2⟩
theorem builtinT_run (hS : SigOk G) {b : Builtin} {ts : List TypeId} {ty : TypeId} {cs : Array Bool} {args : List (V G.S)} {st : St G.S} {k : K G} (h : (builtinT C b ts args st k).run G Φ f = some r) :
  ∃ v st' rd wr, st'.tm = st.tm ∧ st'.n0 = st.n0 ∧ (b ≠ .append → st'.L = st.L) ∧ (b = .append → ∀ q, q ∉ wr → q < st.L.length → st'.L[q]? = st.L[q]?) ∧ (∀ (w0 : World) (Fp : Fx) (okA : Okc) (M : Mem) (ok : Okc) (w : World) (vals : List Value), MI C w0 Fp okA M ok st.L w → VRs w ok M args vals →
   ∃ val w' M' ok', (builtin b ts.toArray ty cs vals.toArray).run C.P w = .ok (.value val) w' ∧ MI C w0 Fp okA M' ok' st'.L w' ∧ Ex M ok w M' ok' w' ∧ VR w' ok' M' v val) ∧ (k v st' rd wr).run G Φ f = some r := by
 unfold builtinT at h
 split at h
 ·rename_i x
  split at h
  ·rename_i n h1 h2
   refine ⟨_, st, _, _, rfl, rfl, fun _ => rfl, fun _ _ _ _ => rfl, fun w0 Fp okA M ok w vals hm hv => ?_, h⟩
   obtain ⟨vx, l', rfl, hx, hl⟩ := hv.inv
   have : l' = [] := List.eq_nil_of_length_eq_zero hl.1.symm
   subst this
   have := lenV_run (ty := ty) hS h1 h2 hm hx
   exact ⟨_, w, M, ok, by simp [builtin, this], hm, Ex.refl _ _ _, .int _ _⟩
  ·exact run_fail h
 ·rename_i s x
  split at h
  ·rename_i ta tb
   split at h
   ·rename_i e he
    split at h
    ·rename_i t ht
     split at h
     rotate_left
     ·unfold appStrT at h
      split at h
      ·rename_i bs
       split at h
       ·rename_i htb
        split at h
        ·rename_i hcc
         obtain ⟨hb, hby, hs⟩ := hcc
         split at h
         ·obtain ⟨v, st', rd, wr, h1, h2, h0, h3, h4⟩ := appT_runG (ta := ta) (tb := tb) (ty := ty) (x := .str bs) hS hb (by rw [hs]; rfl) (fun w0 Fp okA M ok w vx hm hx => appStr_src (elemId_eq he) htb hby hx) h
          refine ⟨v, st', rd, wr, h1, h2, fun hne => (hne rfl).elim, fun _ => h0, fun w0 Fp okA M ok w vals hm hv => ?_, h4⟩
          obtain ⟨vs, l', rfl, hsv, hl⟩ := hv.inv
          obtain ⟨vx, l'', rfl, hx, hl2⟩ := hl.inv
          have : l'' = [] := List.eq_nil_of_length_eq_zero hl2.1.symm
          subst this
          obtain ⟨val, w', M', ok', hr, q⟩ := h3 w0 Fp okA M ok w vs vx hm hsv hx
          exact ⟨val, w', M', ok', by simp [builtin, hr], q⟩
         ·exact run_fail h
        ·exact run_fail h
       ·exact run_fail h
      ·exact run_fail h
     ·rename_i hc
      simp only [Bool.and_eq_true, decide_eq_true_eq] at hc
      obtain ⟨⟨hb, hs⟩, rfl⟩ := hc
      split at h
      ·obtain ⟨v, st', rd, wr, h1, h2, h0, h3, h4⟩ := appTrT_run (ty := ty) hS (elemId_eq he) hb hs h
       refine ⟨v, st', rd, wr, h1, h2, fun hne => (hne rfl).elim, fun _ => h0, fun w0 Fp okA M ok w vals hm hv => ?_, h4⟩
       obtain ⟨vs, l', rfl, hsv, hl⟩ := hv.inv
       obtain ⟨vx, l'', rfl, hx, hl2⟩ := hl.inv
       have : l'' = [] := List.eq_nil_of_length_eq_zero hl2.1.symm
       subst this
       obtain ⟨val, w', M', ok', hr, q⟩ := h3 w0 Fp okA M ok w vs vx hm hsv hx
       exact ⟨val, w', M', ok', by simp [builtin, hr], q⟩
      split at h
      ·rename_i ys hys
       obtain ⟨v, st', rd, wr, h1, h2, h0, h3, h4⟩ := appT_run (ty := ty) hS (elemId_eq he) hb hs hys h
       refine ⟨v, st', rd, wr, h1, h2, fun hne => (hne rfl).elim, fun _ => h0, fun w0 Fp okA M ok w vals hm hv => ?_, h4⟩
       obtain ⟨vs, l', rfl, hsv, hl⟩ := hv.inv
       obtain ⟨vx, l'', rfl, hx, hl2⟩ := hl.inv
       have : l'' = [] := List.eq_nil_of_length_eq_zero hl2.1.symm
       subst this
       obtain ⟨val, w', M', ok', hr, q⟩ := h3 w0 Fp okA M ok w vs vx hm hsv hx
       exact ⟨val, w', M', ok', by simp [builtin, hr], q⟩
      ·exact run_fail h
    ·exact run_fail h
   ·exact run_fail h
  ·exact run_fail h
 ·rename_i ka a kb b
  split at h
  ·rename_i hk
   subst hk
   refine ⟨_, st, _, _, rfl, rfl, fun _ => rfl, fun _ _ _ _ => rfl, fun w0 Fp okA M ok w vals hm hv => ?_, h⟩
   obtain ⟨vx, l', rfl, hx, hl⟩ := hv.inv
   obtain ⟨vy, l'', rfl, hy, hl2⟩ := hl.inv
   have : l'' = [] := List.eq_nil_of_length_eq_zero hl2.1.symm
   subst this
   cases hx; cases hy
   exact ⟨_, w, M, ok, by simp [builtin, Builtin.max_, Builtin.max2], hm, Ex.refl _ _ _, .int _ _⟩
  ·exact run_fail h
 ·rename_i ka a kb b
  split at h
  ·rename_i hk
   subst hk
   refine ⟨_, st, _, _, rfl, rfl, fun _ => rfl, fun _ _ _ _ => rfl, fun w0 Fp okA M ok w vals hm hv => ?_, h⟩
   obtain ⟨vx, l', rfl, hx, hl⟩ := hv.inv
   obtain ⟨vy, l'', rfl, hy, hl2⟩ := hl.inv
   have : l'' = [] := List.eq_nil_of_length_eq_zero hl2.1.symm
   subst this
   cases hx; cases hy
   exact ⟨_, w, M, ok, by simp [builtin, Builtin.min_, Builtin.min2], hm, Ex.refl _ _ _, .int _ _⟩
  ·exact run_fail h
 ·exact run_fail h
end
end Go.Dv

namespace Go.Dv
open Go
section
variable {G : Sig} {C : Cfg G} {Φ : FuncId → List Item → St G.S → Option (Ret G.S)} {f : FuncId} {r : Ret G.S}
theorem OpOK.skip {o : Oper} {st st' : St G.S} (h1 : st'.tm = st.tm) (h2 : st'.n0 = st.n0)
  (h : ∀ (w0 : World) (Fp : Fx) (okA : Okc) (M : Mem) (ok : Okc) (a : Act) (w : World), MI C w0 Fp okA M ok st.L w → TR w ok M st.tm a →
   ∃ w' M' ok', (execOp a.eval o).run C.P w = .ok .skip w' ∧ MI C w0 Fp okA M' ok' st'.L w' ∧ Ex M ok w M' ok' w') : OpOK C o st .un st' := by
 refine ⟨h1, h2, fun w0 Fp okA M ok a w hm ht next Q hk => ?_⟩
 obtain ⟨w', M', ok', hr, hm', he⟩ := h w0 Fp okA M ok a w hm ht
 unfold Oper.wp
 rw [hr, Oper.upon_skip]
 exact hk _ w' M' ok' hm' he (.un _)
theorem agg_ok {w : World} {ok : Okc} {M : Mem} {v : V G.S} {val : Value} {cs : List (V G.S)} (hag : isAg v = true) (h : v.cellsL = some cs) (hv : VR w ok M v val) : ∃ l : List Value, val = .agg l.toArray ∧ VRs w ok M cs l := by
 cases hv with
 | st n x l hl hh => simp [V.cellsL] at h; subst h; exact ⟨l, rfl, hl, hh⟩
 | ag cs' l hl hh => simp [V.cellsL] at h; subst h; exact ⟨l, rfl, hl, hh⟩
 | _ => cases hag
theorem evOp_ok (hS : SigOk G) (hΦ : PhiOK C Φ) (hE : ExtOK C) {o : Oper} {st : St G.S} {k : K G} (h : (evOp C o st k).run G Φ f = some r) :
    ∃ v st' rd wr, (OpOK C o st v st' ∧ (chgOp o = false → wr = [] → st'.L = st.L)) ∧ (k v st' rd wr).run G Φ f = some r := by
  unfold evOp at h
  simp only at h
  split at h
  · rename_i x hop
    exact ⟨_, _, _, _, ⟨.pure fun w0 Fp okA M ok a w hm ht => ⟨_, by simp [execOp, hop], opd_ok hm ht _ x⟩, fun _ _ => rfl⟩, h⟩
  · rename_i x hop
    exact ⟨_, _, _, _, ⟨.pure fun w0 Fp okA M ok a w hm ht => ⟨_, by simp [execOp, hop], opd_ok hm ht _ x⟩, fun _ _ => rfl⟩, h⟩
  · rename_i c x y hop
    obtain ⟨b, hb, h⟩ := asB_run h
    refine ⟨_, _, _, _, ⟨.pure fun w0 Fp okA M ok a w hm ht => ⟨if b then a.eval x else a.eval y, ?_, ?_⟩, fun _ _ => rfl⟩, h⟩
    · have := hb w ok M _ (opd_ok hm ht _ c)
      simp [execOp, hop, this, asBool]
    · cases b
      · exact opd_ok hm ht _ y
      · exact opd_ok hm ht _ x
  · rename_i t hop
    split at h
    · rename_i cs hz
      obtain ⟨z, hzr, hzv⟩ := zeros_ok hz
      refine ⟨_, _, _, _, ⟨.val ?_ ?_ fun w0 Fp okA M ok a w hm ht => ?_, fun hcg => by simp [chgOp, hop] at hcg⟩, h⟩
      · rfl
      · rfl
      obtain ⟨h1, h2⟩ := hm.box cs z.cells.toList t (hzv w ok M)
      rw [Array.toArray_toList] at h1 h2
      exact ⟨_, _, _, _, by simp [execOp, hop, Instr.alloc, hzr, newVar, newRow], h1, h2, .ref _ _ _ _ (updM_same _ _ _)⟩
    · exact run_fail h
  · rename_i t x hop
    split at h
    · rename_i cs n hc hs
      split at h
      · rename_i hl
        refine ⟨_, _, _, _, ⟨.val ?_ ?_ fun w0 Fp okA M ok a w hm ht => ?_, fun hcg => by simp [chgOp, hop] at hcg⟩, h⟩
        · rfl
        · rfl
        obtain ⟨h1, h2⟩ := hm.box cs (a.eval x).cells.toList t (cellsL_ok hc (opd_ok hm ht _ x))
        rw [Array.toArray_toList] at h1 h2
        exact ⟨_, _, _, _, by simp [execOp, hop, Instr.box, newVar, newRow], h1, h2, .ref _ _ _ _ (updM_same _ _ _)⟩
      · exact run_fail h
    · exact run_fail h
  · rename_i t ps hop
    split at h
    · rename_i z pl hz hp
      split at h
      · rename_i l hl
        split at h
        · rename_i cs hf
          refine ⟨_, _, _, _, ⟨.pure fun w0 Fp okA M ok a w hm ht => ?_, fun _ _ => rfl⟩, h⟩
          obtain ⟨val, h1, h2⟩ := build_run hm ht hz hp hl hf
          exact ⟨val, by simp only [execOp, hop]; exact run_v h1, h2⟩
        · exact run_fail h
      · exact run_fail h
    · exact run_fail h
  · rename_i t n ps hop
    split at h
    · rename_i e he
      split at h
      · rename_i ty sz hty hs
        split at h
        · rename_i hc
          obtain ⟨rfl, hbig, hb, hps⟩ := hc
          split at h
          · rename_i xs ids hxs
            have hxs : ownEls st.L ty (ps.toList.map fun (_, x) => opd C st e x) = some (xs, ids) := by
              split at hxs
              · exact hxs
              · cases hxs
            split at h
            · rename_i hnd
              refine ⟨_, _, _, _, ⟨.val ?_ ?_ fun w0 Fp okA M ok a w hm ht => ?_, fun hcg => by simp [chgOp, hop] at hcg⟩, h⟩
              · rfl
              · rfl
              obtain ⟨val, w', M', h1, h2⟩ := buildTr_run hS hm ht (elemId_eq he) hs hbig hb hps hxs (nodupB_ok hnd)
              refine ⟨val, w', M', ok, ?_, h2⟩
              simp only [execOp, hop]
              exact run_v h1
            · exact run_fail h
          split at h
          · rename_i xs hxs
            refine ⟨_, _, _, _, ⟨.val ?_ ?_ fun w0 Fp okA M ok a w hm ht => ?_, fun hcg => by simp [chgOp, hop] at hcg⟩, h⟩
            · rfl
            · rfl
            obtain ⟨val, w', M', ok', h1, h2⟩ := buildSlice_run hS hm ht (elemId_eq he) hs hbig hb hps hxs
            refine ⟨val, w', M', ok', ?_, h2⟩
            simp only [execOp, hop]
            exact run_v h1
          · exact run_fail h
        · exact run_fail h
      · exact run_fail h
    · exact run_fail h
  · rename_i t x hop
    obtain ⟨v, st', rd, wr, ⟨e1, e2, e3, _⟩, h1, h2⟩ := loadT_runT hS forceO_eq h
    refine ⟨v, st', rd, wr, ⟨.val e1 e2 fun w0 Fp okA M ok a w hm ht => ?_, fun _ hw => by rw [e3 hw]⟩, h2⟩
    obtain ⟨val, h3, M', h4, h5, h6⟩ := h1 w0 Fp okA M ok w _ hm (opd_ok hm ht 0 x)
    exact ⟨val, w, M', ok, by simp [execOp, hop, h3], h4, h5, h6⟩
  · rename_i t x y hop
    obtain ⟨st', rd, wr, h1, h2, _, h3, h4⟩ := storeT_run hS forceO_eq h
    refine ⟨_, st', rd, wr, ⟨.skip h1 h2 fun w0 Fp okA M ok a w hm ht => ?_, fun hcg => by simp [chgOp, hop] at hcg⟩, h4⟩
    obtain ⟨w', M', ok', h5, h6, h7⟩ := h3 w0 Fp okA M ok w _ _ hm (opd_ok hm ht 0 x) (opd_ok hm ht t y)
    exact ⟨w', M', ok', by simp [execOp, hop, h5], h6, h7⟩
  · rename_i x hop
    have nil : ∀ (w0 : World) (Fp : Fx) (okA : Okc) (M : Mem) (ok : Okc) (a : Act) (w : World), MI C w0 Fp okA M ok st.L w → TR w ok M st.tm a → (∃ ad, a.eval x = .pointer (some ad)) → ∃ val, (execOp a.eval o).run C.P w = .ok (.value val) w ∧ VR w ok M (opd C st 0 x) val := by
      intro w0 Fp okA M ok a w hm ht ⟨ad, hv⟩
      have := opd_ok hm ht 0 x
      exact ⟨_, by simp [execOp, hop, hv], this⟩
    split at h
    · rename_i o' off hx
      refine ⟨_, _, _, _, ⟨.pure fun w0 Fp okA M ok a w hm ht => ?_, fun _ _ => rfl⟩, h⟩
      rw [← hx]
      refine nil w0 Fp okA M ok a w hm ht ?_
      have := opd_ok hm ht 0 x
      rw [hx] at this
      generalize a.eval x = vx at this
      cases this; exact ⟨_, rfl⟩
    · rename_i cs hx
      refine ⟨_, _, _, _, ⟨.pure fun w0 Fp okA M ok a w hm ht => ?_, fun _ _ => rfl⟩, h⟩
      rw [← hx]
      refine nil w0 Fp okA M ok a w hm ht ?_
      have := opd_ok hm ht 0 x
      rw [hx] at this
      generalize a.eval x = vx at this
      cases this; exact ⟨_, rfl⟩
    · rename_i o' i off hx
      refine ⟨_, _, _, _, ⟨.pure fun w0 Fp okA M ok a w hm ht => ?_, fun _ _ => rfl⟩, h⟩
      rw [← hx]
      refine nil w0 Fp okA M ok a w hm ht ?_
      have := opd_ok hm ht 0 x
      rw [hx] at this
      generalize a.eval x = vx at this
      cases this; exact ⟨_, rfl⟩
    · exact run_fail h
  · rename_i op t x y yt hop
    split at h
    · rename_i b hb
      refine ⟨_, _, _, _, ⟨.pure fun w0 Fp okA M ok a w hm ht => ⟨.bool b, ?_, .bool _⟩, fun _ _ => rfl⟩, h⟩
      simp only [execOp, hop]
      exact run_v (erB_run hb (opd_ok hm ht t x) x a)
    obtain ⟨v, h1, h2⟩ := binV_run h
    refine ⟨v, _, _, _, ⟨.pure fun w0 Fp okA M ok a w hm ht => ?_, fun _ _ => rfl⟩, h2⟩
    obtain ⟨val, h3, h4⟩ := h1 w ok M _ _ x y (opd_ok hm ht t x) (opd_ok hm ht yt y)
    refine ⟨val, ?_, h4⟩
    simp only [execOp, hop]
    exact run_v h3
  · rename_i op t x hop
    obtain ⟨v, h1, h2⟩ := unV_run (C := C) h
    refine ⟨v, _, _, _, ⟨.pure fun w0 Fp okA M ok a w hm ht => ?_, fun _ _ => rfl⟩, h2⟩
    obtain ⟨val, h3, h4⟩ := h1 w ok M _ (opd_ok hm ht t x)
    exact ⟨val, by simp [execOp, hop, h3], h4⟩
  · rename_i src dst x hop
    obtain ⟨v, rd, wr, h1, h2⟩ := convT_run hS h
    refine ⟨v, _, _, _, ⟨.val ?_ ?_ fun w0 Fp okA M ok a w hm ht => ?_, fun _ _ => rfl⟩, h2⟩
    · rfl
    · rfl
    obtain ⟨val, w', M', ok', h3, h4⟩ := h1 w0 Fp okA M ok w _ hm (opd_ok hm ht src x)
    exact ⟨val, w', M', ok', by simp [execOp, hop, h3], h4⟩
  · rename_i g first cap hop
    split at h
    · rename_i hfe
      split at h
      · rename_i vs hvs
        refine ⟨_, _, _, _, ⟨.pure fun w0 Fp okA M ok a w hm ht => ?_, fun _ _ => rfl⟩, h⟩
        have hv := opds_ok hm ht _ _ _ hvs
        simp only [Bool.and_eq_true] at hfe
        have hfirst : first = #[] := by simpa using hfe.1
        have := VR.fn (w := w) (ok := ok) (M := M) g vs _ hv.1 hv.2
        simp only [fv, hfe.2, if_true] at this
        refine ⟨_, ?_, this⟩
        simp [execOp, hop, Instr.makeFunc, hfirst]
        rw [← Array.toList_map, Array.toArray_toList]
      · exact run_fail h
    · split at h
      · rename_i hce
        split at h
        · rename_i vs hvs
          refine ⟨_, _, _, _, ⟨.pure fun w0 Fp okA M ok a w hm ht => ?_, fun _ _ => rfl⟩, h⟩
          have hv := opds_ok hm ht _ _ _ hvs
          have hcap : cap = #[] := by simpa using hce
          have := VR.fn (w := w) (ok := ok) (M := M) (g + 1000000) vs _ hv.1 hv.2
          have hb : Nat.blt (g + 1000000) 1000000 = false := blt_add g
          simp only [fv, hb, Bool.false_eq_true, if_false, Nat.add_sub_cancel] at this
          refine ⟨_, ?_, this⟩
          simp [execOp, hop, Instr.makeFunc, hcap]
          rw [← Array.toList_map, Array.toArray_toList]
        · exact run_fail h
      · exact run_fail h
  · rename_i t l c hop
    split at h
    · rename_i k1 n k2 n2 e hl hc he
      have key : (∀ (w0 : World) (Fp : Fx) (okA : Okc) (M : Mem) (ok : Okc) (a : Act) (w : World), MI C w0 Fp okA M ok st.L w → TR w ok M st.tm a → a.eval l = .int k1 n ∧ a.eval c = .int k2 n) → (makeT C e n st k).run G Φ f = some r →
          ∃ v st' rd wr, (OpOK C o st v st' ∧ (chgOp o = false → wr = [] → st'.L = st.L)) ∧ (k v st' rd wr).run G Φ f = some r := by
        intro hev h
        unfold makeT at h
        split at h
        · rename_i ty z sz hty hz hs
          split at h
          · rename_i hcond
            simp only [Bool.and_eq_true, decide_eq_true_eq, List.isEmpty_iff] at hcond
            obtain ⟨⟨hb, rfl⟩, hre⟩ := hcond
            split at h
            · rename_i x hx
              split at h
              · split at h
                · rename_i us hoc
                  split at h
                  · rename_i x hx
                    obtain ⟨xs, hxs, h'⟩ := run_bnd h
                    unfold mk at hxs
                    split at hxs
                    · rename_i hn
                      cases hxs
                      obtain ⟨m, rfl⟩ : ∃ m : Nat, n = m := ⟨n.toNat, by omega⟩
                      refine ⟨_, _, _, _, ⟨.val ?_ ?_ fun w0 Fp okA M ok a w hm ht => ?_, fun hcg => by simp [chgOp, hop] at hcg⟩, h'⟩
                      · rfl
                      · rfl
                      obtain ⟨hv1, hv2⟩ := hev w0 Fp okA M ok a w hm ht
                      obtain ⟨val, w', M', h2, h3, h4, h5⟩ := makeTr_run hS (elemId_eq he) hb hs hz (n := m) (by have := hn.2; exact_mod_cast this) hoc hx hm k1 k2
                      exact ⟨val, w', M', ok, by simp [execOp, hop, hv1, hv2, h2], h3, h4, h5⟩
                    · cases hxs
                  · exact run_fail h
                · exact run_fail h
              obtain ⟨xs, hxs, h'⟩ := run_bnd h
              unfold mk at hxs
              split at hxs
              · rename_i hn
                cases hxs
                obtain ⟨m, rfl⟩ : ∃ m : Nat, n = m := ⟨n.toNat, by omega⟩
                refine ⟨_, _, _, _, ⟨.val ?_ ?_ fun w0 Fp okA M ok a w hm ht => ?_, fun hcg => by simp [chgOp, hop] at hcg⟩, h'⟩
                · rfl
                · rfl
                obtain ⟨hv1, hv2⟩ := hev w0 Fp okA M ok a w hm ht
                obtain ⟨val, w', M', h2, h3, h4, h5⟩ := makeSlice_run hS (elemId_eq he) hb hs hz (n := m) (by have := hn.2; exact_mod_cast this) hre hx hm k1 k2
                exact ⟨val, w', M', ok, by simp [execOp, hop, hv1, hv2, h2], h3, h4, h5⟩
              · cases hxs
            · exact run_fail h
          · exact run_fail h
        · exact run_fail h
      have evl : ∀ (w0 : World) (Fp : Fx) (okA : Okc) (M : Mem) (ok : Okc) (a : Act) (w : World) (x : Operand) (kx : IntKind) (m : Int), MI C w0 Fp okA M ok st.L w → TR w ok M st.tm a → opd C st 0 x = .int kx m → a.eval x = .int kx m := by
        intro w0 Fp okA M ok a w x kx m hm ht hx
        have h1 := opd_ok hm ht 0 x
        rw [hx] at h1
        generalize a.eval x = vx at h1
        cases h1; rfl
      split at h
      · rename_i i j
        split at h
        · rename_i hij
          subst hij
          refine key (fun w0 Fp okA M ok a w hm ht => ?_) h
          have e1 := evl w0 Fp okA M ok a w _ _ _ hm ht hl
          have e2 := evl w0 Fp okA M ok a w _ _ _ hm ht hc
          have e3 := e1.symm.trans e2
          cases e3
          exact ⟨e1, e1⟩
        · exact run_fail h
      · rename_i ka x kb y
        split at h
        · rename_i hab
          obtain ⟨rfl, rfl⟩ := hab
          refine key (fun w0 Fp okA M ok a w hm ht => ?_) h
          have e1 := evl w0 Fp okA M ok a w _ _ _ hm ht hl
          have e2 := evl w0 Fp okA M ok a w _ _ _ hm ht hc
          refine ⟨e1, ?_⟩
          rw [e2]
          have e3 : n2 = y := by
            have : a.eval (.const (.int kb y)) = .int kb y := rfl
            rw [this] at e2
            cases e2; rfl
          rw [e3]
        · exact run_fail h
      · exact run_fail h
    · exact run_fail h
  · rename_i t x lo hi mx hop
    split at h
    · obtain ⟨v, st', rd, wr, h1, h2, h3, h4⟩ := sliceT_run hS h
      refine ⟨v, st', rd, wr, ⟨.val h1 h2 fun w0 Fp okA M ok a w hm ht => ?_, fun hcg => by simp [chgOp, hop] at hcg⟩, h4⟩
      have bd : ∀ b : Option Operand, BdR w ok M (b.map (opd C st 0)) (b.map a.eval) := by
        intro b
        cases b with
        | none => trivial
        | some b => exact opd_ok hm ht 0 b
      obtain ⟨val, ok', h5, h6, h7, h8⟩ := h3 w0 Fp okA M ok w _ _ _ hm (opd_ok hm ht t x) (bd lo) (bd hi)
      exact ⟨val, w, M, ok', by simp [execOp, hop, h5], h6, h7, h8⟩
    · exact run_fail h
  · rename_i s x i hop
    split at h
    · rename_i fd hfd
      split at h
      · rename_i n hs
        split at h
        · rename_i o' off hx
          refine ⟨_, _, _, _, ⟨.pure fun w0 Fp okA M ok a w hm ht => ?_, fun _ _ => rfl⟩, h⟩
          have h1 := opd_ok hm ht 0 x
          rw [hx] at h1
          generalize hv : a.eval x = vx at h1
          cases h1 with
          | ref _ _ b te hM => exact ⟨_, by simp [execOp, hop, hv, fieldAt_run hfd hs], .ref _ _ _ _ hM⟩
        · rename_i cs hx
          refine ⟨_, _, _, _, ⟨.pure fun w0 Fp okA M ok a w hm ht => ?_, fun _ _ => rfl⟩, h⟩
          have h1 := opd_ok hm ht 0 x
          rw [hx] at h1
          generalize hv : a.eval x = vx at h1
          cases h1 with
          | pc _ b off u g1 g2 => 
            refine ⟨_, by simp [execOp, hop, hv, fieldAt_run hfd hs]; rfl, .pc _ b _ (fun j => u (fd.offset + j)) (fun j y hj => ?_) (fun j y hj => ?_)⟩
            · rw [List.getElem?_drop] at hj
              have := g1 _ y hj
              rw [Nat.add_assoc]; exact this
            · rw [List.getElem?_drop] at hj
              exact g2 _ y hj
        · rename_i o' i' off hx
          refine ⟨_, _, _, _, ⟨.pure fun w0 Fp okA M ok a w hm ht => ?_, fun _ _ => rfl⟩, h⟩
          have h1 := opd_ok hm ht 0 x
          rw [hx] at h1
          generalize hv : a.eval x = vx at h1
          cases h1 with
          | pe _ _ _ b n c e sz hM =>
            refine ⟨.pointer (some ⟨b, i' * sz + (off + fd.offset), none⟩), ?_, .pe _ _ _ _ _ _ _ _ hM⟩
            rw [← Nat.add_assoc]
            simp [execOp, hop, hv, fieldAt_run hfd hs]
        · exact run_fail h
      · exact run_fail h
    · exact run_fail h
  · rename_i s x i hop
    split at h
    · rename_i fd cs hfd hcs
      split at h
      · rename_i v hp
        refine ⟨_, _, _, _, ⟨.pure fun w0 Fp okA M ok a w hm ht => ?_, fun _ _ => rfl⟩, h⟩
        split at hcs
        · rename_i hag
          obtain ⟨l, hv, hvs⟩ := agg_ok hag hcs (opd_ok hm ht s x)
          obtain ⟨fs, hu, hf⟩ := fieldOf_run hfd
          obtain ⟨val, h1, h2⟩ := partV_part (w := w) (ok := ok) (M := M) hp hvs
          exact ⟨val, by simp [execOp, hop, Instr.field, run_underlying hu, hf, hv, asAgg, h1], h2⟩
        · cases hcs
      · exact run_fail h
    · exact run_fail h
  · rename_i t x i hop
    split at h
    · obtain ⟨v, rd, wr, h1, h2⟩ := indexAddrT_run hS h
      refine ⟨v, _, rd, wr, ⟨.pure fun w0 Fp okA M ok a w hm ht => ?_, fun _ _ => rfl⟩, h2⟩
      obtain ⟨val, h3, h4⟩ := h1 w0 Fp okA M ok w _ _ hm (opd_ok hm ht t x) (opd_ok hm ht 0 i)
      exact ⟨val, by simp [execOp, hop, h3], h4⟩
    · obtain ⟨v, st', rd, wr, h1, h2, hne, h3, h4⟩ := indexBoxT_run hS h
      refine ⟨v, st', rd, wr, ⟨.val h1 h2 fun w0 Fp okA M ok a w hm ht => ?_, fun _ => hne⟩, h4⟩
      obtain ⟨val, ok', h5, h6, h7, h8⟩ := h3 w0 Fp okA M ok w _ _ hm (opd_ok hm ht t x) (opd_ok hm ht 0 i)
      exact ⟨val, w, M, ok', by simp [execOp, hop, h5], h6, h7, h8⟩
  · rename_i t x i hop
    split at h
    · rename_i ki n s hi hx hu
      obtain ⟨b, hb, h'⟩ := run_bnd h
      obtain ⟨m, rfl, hm'⟩ := idx_ok hb
      refine ⟨_, _, _, _, ⟨.pure fun w0 Fp okA M ok a w hm ht => ?_, fun _ _ => rfl⟩, h'⟩
      have h1 := opd_ok hm ht t x
      have h2 := opd_ok hm ht 0 i
      rw [hx] at h1; rw [hi] at h2
      generalize hv1 : a.eval x = vx at h1
      generalize hv2 : a.eval i = vi at h2
      cases h1; cases h2
      exact ⟨_, by simp [execOp, hop, hv1, hv2, index_str_run hu hm'], .int _ _⟩
    · rename_i ki n cs m e hi hx hu
      split at h
      · rename_i ty hty hs ha
        split at h
        · rename_i xs hxs
          split at h
          · rename_i hlen
            obtain ⟨y, hy, h'⟩ := run_bnd h
            obtain ⟨q, rfl, hq⟩ := idx_ok hy
            refine ⟨_, _, _, _, ⟨.pure fun w0 Fp okA M ok a w hm ht => ?_, fun _ _ => rfl⟩, h'⟩
            have h1 := opd_ok hm ht t x
            have h2 := opd_ok hm ht 0 i
            rw [hx] at h1; rw [hi] at h2
            generalize hv1 : a.eval x = vx at h1
            generalize hv2 : a.eval i = vi at h2
            obtain ⟨hxl, hxg⟩ := mapO_get hxs
            obtain ⟨c, hc, hpc⟩ := hxg q y hq
            cases h2
            cases h1 with
            | ag _ l hl hh =>
              have hql : q < l.length := by rw [← hl]; exact (List.getElem?_eq_some_iff.1 hc).1
              have hlq := List.getElem?_eq_getElem hql
              have hvr := hh q c _ hc hlq
              refine ⟨l[q], ?_, (prj_ok hS hpc hvr).2⟩
              have := index_arr_run (P := C.P) (w := w) (l := l.toArray) (k := ki) (v := l[q]) hu (sizeT_run hs) (isAgg_run ha) (n := q) (by omega) (by simp [hql])
              simp [execOp, hop, hv1, hv2, this]
          · exact run_fail h
        · exact run_fail h
      · exact run_fail h
    · exact run_fail h
  · rename_i x i hop
    split at h
    · rename_i vs hx
      split at h
      · rename_i v hv
        refine ⟨_, _, _, _, ⟨.pure fun w0 Fp okA M ok a w hm ht => ?_, fun _ _ => rfl⟩, h⟩
        have h1 := opd_ok hm ht 0 x
        rw [hx] at h1
        generalize hv1 : a.eval x = vx at h1
        cases h1 with
        | tup _ l hl hh =>
          have hql : i < l.length := by rw [← hl]; exact (List.getElem?_eq_some_iff.1 hv).1
          refine ⟨l[i], by simp [execOp, hop, hv1, Instr.extract, hql], hh i v _ hv (List.getElem?_eq_getElem hql)⟩
      · exact run_fail h
    · exact run_fail h
  · rename_i c hop
    split at h
    · rename_i b hb
      split at h
      · rename_i vs hvs
        obtain ⟨v, st', rd, wr, h1, h2, hne, _, h3, h4⟩ := builtinT_run (ty := o.type) (cs := (c.args.map fun | .const _ => true | _ => false)) hS h
        refine ⟨v, st', rd, wr, ⟨.val h1 h2 fun w0 Fp okA M ok a w hm ht => ?_, fun hcg _ => hne (fun e => by subst e; simp [chgOp, hop, hb] at hcg)⟩, h4⟩
        obtain ⟨val, w', M', ok', h5, h6⟩ := h3 w0 Fp okA M ok w _ hm (opds_ok hm ht _ _ _ hvs)
        refine ⟨val, w', M', ok', ?_, h6⟩
        rw [Array.toArray_toList, ← Array.toList_map, Array.toArray_toList] at h5
        simp only [execOp, hop, resolve, hb]
        simp [invoke]
        exact h5
      · exact run_fail h
    · rename_i g hg
      split at h
      · rename_i vs hvs
        split at h
        · rename_i q caps hq
          split at h
          · rename_i hbl
            obtain ⟨v, st', rd, wr, ⟨h1, h2, hwr⟩, h3, h4⟩ := callT_ok hS hΦ hE h
            refine ⟨v, st', rd, wr, ⟨⟨h1, h2, fun w0 Fp okA M ok a w hm ht next Q hk => ?_⟩, fun _ => hwr.1⟩, h4⟩
            have h5 := opd_ok hm ht 0 g
            rw [hq] at h5
            generalize hv1 : a.eval g = vg at h5
            cases h5 with
            | fn _ _ l hl hh =>
              simp only [fv, hbl, if_true] at hv1
              have hv := opds_ok hm ht _ _ _ hvs
              obtain ⟨h6, h7⟩ := h3 w0 Fp okA M ok w (c.args.toList.map a.eval ++ l) hm (hv.append ⟨hl, hh⟩)
              have hargs : (c.args.toList.map a.eval ++ l).toArray = c.args.map a.eval ++ l.toArray := by
                rw [← Array.toList_map]; simp
              have hr : (execOp a.eval o).run C.P w = .ok (.enter q (c.args.toList.map a.eval ++ l).toArray) w := by
                rw [hargs]
                rw [hargs] at h6
                simp [execOp, hop, resolve, hg, hv1, Deferred.ofValue, invoke, h6]
              unfold Oper.wp
              rw [hr, Oper.upon_enter]
              refine h7.mono ?_
              rintro e w' ⟨v', M', ok', rfl, h8, h9, h10⟩
              exact hk v' w' M' ok' h8 h9 h10
          · rename_i hbl
            obtain ⟨v, st', rd, wr, ⟨h1, h2, hwr⟩, h3, h4⟩ := callT_ok hS hΦ hE h
            refine ⟨v, st', rd, wr, ⟨⟨h1, h2, fun w0 Fp okA M ok a w hm ht next Q hk => ?_⟩, fun _ => hwr.1⟩, h4⟩
            have h5 := opd_ok hm ht 0 g
            rw [hq] at h5
            generalize hv1 : a.eval g = vg at h5
            cases h5 with
            | fn _ _ l hl hh =>
              simp only [fv, hbl, if_false] at hv1
              have hv := opds_ok hm ht _ _ _ hvs
              obtain ⟨h6, h7⟩ := h3 w0 Fp okA M ok w (l ++ c.args.toList.map a.eval) hm (VRs.append ⟨hl, hh⟩ hv)
              have hargs : (l ++ c.args.toList.map a.eval).toArray = l.toArray ++ c.args.map a.eval := by
                rw [← Array.toList_map]; simp
              have hr : (execOp a.eval o).run C.P w = .ok (.enter (q - 1000000) (l ++ c.args.toList.map a.eval).toArray) w := by
                rw [hargs]
                rw [hargs] at h6
                simp [execOp, hop, resolve, hg, hv1, Deferred.ofValue, invoke, h6]
              unfold Oper.wp
              rw [hr, Oper.upon_enter]
              refine h7.mono ?_
              rintro e w' ⟨v', M', ok', rfl, h8, h9, h10⟩
              exact hk v' w' M' ok' h8 h9 h10
        · exact run_fail h
      · exact run_fail h
    · exact run_fail h
  · exact run_fail h
theorem evCall_ok (hS : SigOk G) (hΦ : PhiOK C Φ) (hE : ExtOK C) {o : Oper} (hcv : isCallV o = true) {st : St G.S} {k : K G} (h : (evOp C o st k).run G Φ f = some r) :
  ∃ v st' rd wr, (OpOK C o st v st' ∧ (chgOp o = false → wr = [] → st'.L = st.L) ∧ ∀ b, b ∉ wr → b < st.L.length → st'.L[b]? = st.L[b]?) ∧ (k v st' rd wr).run G Φ f = some r := by
 cases hop : o.op
 all_goals first
  | (simp [isCallV, hop] at hcv; done)
  | skip
 case alloc =>
  rename_i t
  simp only [evOp, hop] at h
  split at h
  ·rename_i cs hz
   obtain ⟨z, hzr, hzv⟩ := zeros_ok hz
   refine ⟨_, _, _, _, ⟨.val ?_ ?_ fun w0 Fp okA M ok a w hm ht => ?_, fun hcg => by simp [chgOp, hop] at hcg, fun b _ hlt => by simp [List.getElem?_append_left hlt]⟩, h⟩
   ·rfl
   ·rfl
   obtain ⟨h1, h2⟩ := hm.box cs z.cells.toList t (hzv w ok M)
   rw [Array.toArray_toList] at h1 h2
   exact ⟨_, _, _, _, by simp [execOp, hop, Instr.alloc, hzr, newVar, newRow], h1, h2, .ref _ _ _ _ (updM_same _ _ _)⟩
  ·exact run_fail h
 case box =>
  rename_i t x
  simp only [evOp, hop] at h
  split at h
  ·rename_i cs n hc hs
   split at h
   ·rename_i hl
    refine ⟨_, _, _, _, ⟨.val ?_ ?_ fun w0 Fp okA M ok a w hm ht => ?_, fun hcg => by simp [chgOp, hop] at hcg, fun b _ hlt => by simp [List.getElem?_append_left hlt]⟩, h⟩
    ·rfl
    ·rfl
    obtain ⟨h1, h2⟩ := hm.box cs (a.eval x).cells.toList t (cellsL_ok hc (opd_ok hm ht _ x))
    rw [Array.toArray_toList] at h1 h2
    exact ⟨_, _, _, _, by simp [execOp, hop, Instr.box, newVar, newRow], h1, h2, .ref _ _ _ _ (updM_same _ _ _)⟩
   ·exact run_fail h
  ·exact run_fail h
 case store =>
  rename_i t x y
  simp only [evOp, hop] at h
  obtain ⟨st', rd, wr, h1, h2, hkp, h3, h4⟩ := storeT_run hS forceO_eq h
  have hop2 : OpOK C o st .un st' := .skip h1 h2 fun w0 Fp okA M ok a w hm ht => by
   obtain ⟨w', M', ok', h5, h6, h7⟩ := h3 w0 Fp okA M ok w _ _ hm (opd_ok hm ht 0 x) (opd_ok hm ht t y)
   exact ⟨w', M', ok', by simp [execOp, hop, h5], h6, h7⟩
  exact ⟨_, st', rd, wr, ⟨hop2, fun hcg => by simp [chgOp, hop] at hcg, fun b hb _ => hkp b hb⟩, h4⟩
 case buildSlice =>
  rename_i t n ps
  simp only [evOp, hop] at h
  split at h
  ·rename_i e he
   split at h
   ·rename_i ty sz hty hs
    split at h
    ·rename_i hc
     obtain ⟨rfl, hbig, hb, hps⟩ := hc
     split at h
     ·rename_i xs ids hxs
      split at h
      ·rename_i hnd
       have hxs : ownEls st.L ty (ps.toList.map fun (_, x) => opd C st e x) = some (xs, ids) := by
        split at hxs
        ·exact hxs
        ·cases hxs
       refine ⟨_, _, _, _, ⟨.val ?_ ?_ fun w0 Fp okA M ok a w hm ht => ?_, fun hcg => by simp [chgOp, hop] at hcg, fun b hb hlt => ?_⟩, h⟩
       ·rfl
       ·rfl
       ·obtain ⟨val, w', M', h1, h2⟩ := buildTr_run hS hm ht (elemId_eq he) hs hbig hb hps hxs (nodupB_ok hnd)
        refine ⟨val, w', M', ok, ?_, h2⟩
        simp only [execOp, hop]
        exact run_v h1
       ·show (killAll st.L ids ++ _)[b]? = _
        rw [List.getElem?_append_left (by rw [killAll_len]; exact hlt), killAll_keep _ _ hb]
      ·exact run_fail h
     split at h
     ·rename_i xs hxs
      refine ⟨_, _, _, _, ⟨.val ?_ ?_ fun w0 Fp okA M ok a w hm ht => ?_, fun hcg => by simp [chgOp, hop] at hcg, fun b hb hlt => ?_⟩, h⟩
      ·rfl
      ·rfl
      ·obtain ⟨val, w', M', ok', h1, h2⟩ := buildSlice_run hS hm ht (elemId_eq he) hs hbig hb hps hxs
       refine ⟨val, w', M', ok', ?_, h2⟩
       simp only [execOp, hop]
       exact run_v h1
      ·show (freeze st.L _ ++ _)[b]? = _
       rw [List.getElem?_append_left (by rw [freeze_length]; exact hlt), freeze_keep _ hb]
     ·exact run_fail h
    ·exact run_fail h
   ·exact run_fail h
  ·exact run_fail h
 case call =>
  rename_i c
  simp only [evOp, hop] at h
  split at h
  ·rename_i b hb
   have hba : b = .append := by
    cases b <;> first | rfl | (simp [isCallV, hop, hb] at hcv; done)
   split at h
   ·rename_i vs hvs
    obtain ⟨v, st', rd, wr, h1, h2, hne, hkp, h3, h4⟩ := builtinT_run (ty := o.type) (cs := (c.args.map fun | .const _ => true | _ => false)) hS h
    refine ⟨v, st', rd, wr, ⟨.val h1 h2 fun w0 Fp okA M ok a w hm ht => ?_, fun hcg _ => hne (fun e => by subst e; simp [chgOp, hop, hb] at hcg), hkp hba⟩, h4⟩
    obtain ⟨val, w', M', ok', h5, h6⟩ := h3 w0 Fp okA M ok w _ hm (opds_ok hm ht _ _ _ hvs)
    refine ⟨val, w', M', ok', ?_, h6⟩
    rw [Array.toArray_toList, ← Array.toList_map, Array.toArray_toList] at h5
    simp only [execOp, hop, resolve, hb]
    simp [invoke]
    exact h5
   ·exact run_fail h
  ·rename_i g hg
   split at h
   ·rename_i vs hvs
    split at h
    ·rename_i q caps hq
     split at h
     ·rename_i hbl
      obtain ⟨v, st', rd, wr, ⟨h1, h2, hwr⟩, h3, h4⟩ := callT_ok hS hΦ hE h
      refine ⟨v, st', rd, wr, ⟨⟨h1, h2, fun w0 Fp okA M ok a w hm ht next Q hk => ?_⟩, (fun _ => hwr.1), hwr.2⟩, h4⟩
      have h5 := opd_ok hm ht 0 g
      rw [hq] at h5
      generalize hv1 : a.eval g = vg at h5
      cases h5 with
      | fn _ _ l hl hh =>
       simp only [fv, hbl, if_true] at hv1
       have hv := opds_ok hm ht _ _ _ hvs
       obtain ⟨h6, h7⟩ := h3 w0 Fp okA M ok w (c.args.toList.map a.eval ++ l) hm (hv.append ⟨hl, hh⟩)
       have hargs : (c.args.toList.map a.eval ++ l).toArray = c.args.map a.eval ++ l.toArray := by
        rw [← Array.toList_map]; simp
       have hr : (execOp a.eval o).run C.P w = .ok (.enter q (c.args.toList.map a.eval ++ l).toArray) w := by
        rw [hargs]
        rw [hargs] at h6
        simp [execOp, hop, resolve, hg, hv1, Deferred.ofValue, invoke, h6]
       unfold Oper.wp
       rw [hr, Oper.upon_enter]
       refine h7.mono ?_
       rintro e w' ⟨v', M', ok', rfl, h8, h9, h10⟩
       exact hk v' w' M' ok' h8 h9 h10
     ·rename_i hbl
      obtain ⟨v, st', rd, wr, ⟨h1, h2, hwr⟩, h3, h4⟩ := callT_ok hS hΦ hE h
      refine ⟨v, st', rd, wr, ⟨⟨h1, h2, fun w0 Fp okA M ok a w hm ht next Q hk => ?_⟩, (fun _ => hwr.1), hwr.2⟩, h4⟩
      have h5 := opd_ok hm ht 0 g
      rw [hq] at h5
      generalize hv1 : a.eval g = vg at h5
      cases h5 with
      | fn _ _ l hl hh =>
       simp only [fv, hbl, if_false] at hv1
       have hv := opds_ok hm ht _ _ _ hvs
       obtain ⟨h6, h7⟩ := h3 w0 Fp okA M ok w (l ++ c.args.toList.map a.eval) hm (VRs.append ⟨hl, hh⟩ hv)
       have hargs : (l ++ c.args.toList.map a.eval).toArray = l.toArray ++ c.args.map a.eval := by
        rw [← Array.toList_map]; simp
       have hr : (execOp a.eval o).run C.P w = .ok (.enter (q - 1000000) (l ++ c.args.toList.map a.eval).toArray) w := by
        rw [hargs]
        rw [hargs] at h6
        simp [execOp, hop, resolve, hg, hv1, Deferred.ofValue, invoke, h6]
       unfold Oper.wp
       rw [hr, Oper.upon_enter]
       refine h7.mono ?_
       rintro e w' ⟨v', M', ok', rfl, h8, h9, h10⟩
       exact hk v' w' M' ok' h8 h9 h10
    ·exact run_fail h
   ·exact run_fail h
  ·exact run_fail h
theorem evOp_okX (hS : SigOk G) (hΦ : PhiOK C Φ) (hE : ExtOK C) {o : Oper} {st : St G.S} {k : K G} (h : (evOp C o st k).run G Φ f = some r) :
  ∃ v st' rd wr, (OpOK C o st v st' ∧ (chgOp o = false → wr = [] → st'.L = st.L) ∧ (isCallV o = true → ∀ b, b ∉ wr → b < st.L.length → st'.L[b]? = st.L[b]?)) ∧ (k v st' rd wr).run G Φ f = some r := by
 by_cases hc : isCallV o = true
 ·obtain ⟨v, st', rd, wr, ⟨h1, h2, h3⟩, h4⟩ := evCall_ok hS hΦ hE hc h
  exact ⟨v, st', rd, wr, ⟨h1, h2, fun _ => h3⟩, h4⟩
 ·obtain ⟨v, st', rd, wr, ⟨h1, h2⟩, h4⟩ := evOp_ok hS hΦ hE h
  exact ⟨v, st', rd, wr, ⟨h1, h2, fun h => (hc h).elim⟩, h4⟩
end
end Go.Dv

namespace Go.Dv
open Go
section
variable {G : Sig} {C : Cfg G} {Φ : FuncId → List Item → St G.S → Option (Ret G.S)} {f : FuncId} {r : Ret G.S}
theorem TR.lb {w : World} {ok : Okc} {M : Mem} {st : St G.S} {a : Act} {i : Nat} {b : Bool} (ht : TR w ok M st.tm a) (hb : st.get i = .bool b) : TR w ok M (st.put (some i) (.lb b)).tm a := by
 refine ⟨by simpa [St.put] using ht.1, fun j y hj => ?_⟩
 simp only [St.put] at hj
 rw [List.getElem?_set] at hj
 by_cases e : i = j
 ·rw [if_pos e] at hj
  split at hj
  ·cases hj
   have := ht.get i
   rw [hb, e] at this
   generalize a.tmps.getD j undef = u at this
   cases this
   exact .lb _
  ·cases hj
 ·rw [if_neg e] at hj
  exact ht.2 j y hj
theorem part_run {d : Nat} {st : St G.S} {k : Bool → St G.S → Tree G.S} (h : (part (.tmp d) (st.get d) st k).run G Φ f = some r) :
  ∃ b st', st'.L = st.L ∧ st'.n0 = st.n0 ∧ (∀ w ok M a, TR w ok M st.tm a → TR w ok M st'.tm a ∧ a.eval (.tmp d) = .bool b) ∧ (k b st').run G Φ f = some r := by
 unfold part at h
 split at h
 ·rename_i b hb
  refine ⟨b, st, rfl, rfl, fun w ok M a ht => ⟨ht, ?_⟩, h⟩
  have := ht.get d
  rw [hb] at this
  show a.tmps.getD d undef = _
  generalize a.tmps.getD d undef = u at this
  cases this; rfl
 ·rename_i b hb
  have val : ∀ w ok M a, TR w ok M st.tm a → a.eval (.tmp d) = .bool b := by
   intro w ok M a ht
   have := ht.get d
   rw [hb] at this
   show a.tmps.getD d undef = _
   generalize a.tmps.getD d undef = u at this
   cases this; rfl
  simp only [putF_eq] at h
  rcases run_br h with ⟨rfl, h'⟩ | ⟨rfl, h'⟩
  ·exact ⟨true, st.put (some d) (.lb true), rfl, rfl, fun w ok M a ht => ⟨ht.lb hb, val w ok M a ht⟩, h'⟩
  ·exact ⟨false, st.put (some d) (.lb false), rfl, rfl, fun w ok M a ht => ⟨ht.lb hb, val w ok M a ht⟩, h'⟩
 ·exact run_fail h
theorem part_opd {c : Operand} {st : St G.S} {k : Bool → St G.S → Tree G.S} (h : (part c (opd C st 0 c) st k).run G Φ f = some r) :
    ∃ b st', st'.L = st.L ∧ st'.n0 = st.n0 ∧ (∀ w0 Fp okA w ok M a, MI C w0 Fp okA M ok st.L w → TR w ok M st.tm a → TR w ok M st'.tm a ∧ a.eval c = .bool b) ∧ (k b st').run G Φ f = some r := by
  by_cases hc : ∃ d, c = .tmp d
  · obtain ⟨d, rfl⟩ := hc
    obtain ⟨b, st', h1, h2, h3, h4⟩ := part_run h
    exact ⟨b, st', h1, h2, fun _ _ _ w ok M a _ ht => h3 w ok M a ht, h4⟩
  · have val : ∀ (b : Bool), opd C st 0 c = .lb b ∨ opd C st 0 c = .bool b → ∀ w0 Fp okA w ok M a, MI C w0 Fp okA M ok st.L w → TR w ok M st.tm a → TR w ok M st.tm a ∧ a.eval c = .bool b := by
      intro b hb w0 Fp okA w ok M a hm ht
      refine ⟨ht, ?_⟩
      have := opd_ok hm ht 0 c
      generalize a.eval c = u at this ⊢
      rcases hb with hb | hb
      · rw [hb] at this; cases this; rfl
      · rw [hb] at this; cases this; rfl
    unfold part at h
    split at h
    · rename_i b hb
      exact ⟨b, st, rfl, rfl, val b (.inl hb), h⟩
    · rename_i b hb
      split at h
      · exact (hc ⟨_, rfl⟩).elim
      · rcases run_br h with ⟨rfl, h'⟩ | ⟨rfl, h'⟩
        · exact ⟨true, st, rfl, rfl, val true (.inr hb), h'⟩
        · exact ⟨false, st, rfl, rfl, val false (.inr hb), h'⟩
    · exact run_fail h
theorem TR.putv {w : World} {ok : Okc} {M : Mem} {st st' : St G.S} {a : Act} (htm : st'.tm = st.tm) (ht : TR w ok M st.tm a) (d : Option Nat) {v : V G.S} {u : Value} (hv : VR w ok M v u) : TR w ok M (st'.put d v).tm (a.put d u) :=
 TR.put (by rw [htm]; exact ht) d hv
theorem guard_run {ops : Array Oper} {o : Oper} {st : St G.S} {k : Bool → St G.S → Tree G.S} (h : (guardT ops o st k).run G Φ f = some r) :
  ∃ b st', st'.L = st.L ∧ st'.n0 = st.n0 ∧ (∀ w ok M a, TR w ok M st.tm a → TR w ok M st'.tm a ∧ Region.wanted o (yielded ops a.tmps) = b) ∧ (k b st').run G Φ f = some r := by
 unfold guardT at h
 split at h
 ·rename_i hg
  exact ⟨true, st, rfl, rfl, fun w ok M a ht => ⟨ht, by simp [Region.wanted, hg]⟩, h⟩
 ·rename_i j want hg
  split at h
  ·rename_i d hd
   split at h
   ·rename_i hu
    refine ⟨false, st, rfl, rfl, fun w ok M a ht => ⟨ht, ?_⟩, h⟩
    have h7 := ht.get d
    rw [hu] at h7
    have h8 : ∀ b, a.tmps[d]? ≠ some (.bool b) := by
     intro b hb
     rw [Array.getD_eq_getD_getElem?, hb] at h7
     cases h7
    simp only [Region.wanted, hg, yielded, hd, Option.bind_some]
    cases hq : a.tmps[d]? with
    | none => cases want <;> rfl
    | some x =>
     cases x with
     | bool b => exact (h8 b hq).elim
     | _ => cases want <;> rfl
   ·obtain ⟨b, st', h1, h2, h3, h4⟩ := part_run h
    refine ⟨b == want, st', h1, h2, fun w ok M a ht => ?_, h4⟩
    obtain ⟨h5, h6⟩ := h3 w ok M a ht
    refine ⟨h5, ?_⟩
    have h7 : a.tmps.getD d undef = .bool b := h6
    have h8 : a.tmps[d]? = some (.bool b) := by
     rw [Array.getD_eq_getD_getElem?] at h7
     cases hq : a.tmps[d]? with
     | none => rw [hq] at h7; simp [undef] at h7
     | some x => rw [hq] at h7; simp at h7; rw [h7]
    simp only [Region.wanted, hg, yielded, hd, Option.bind_some, h8]
    cases b <;> cases want <;> rfl
  ·exact run_fail h
theorem evOps_ok (hS : SigOk G) (hΦ : PhiOK C Φ) (hE : ExtOK C) {ops : Array Oper} : ∀ (l : List Oper) (i : Nat) (st : St G.S) (k : St G.S → Tree G.S), l = ops.toList.drop i → (evOps C ops l st k).run G Φ f = some r →
  ∃ st', st'.n0 = st.n0 ∧ (k st').run G Φ f = some r ∧ ∀ (w0 : World) (Fp : Fx) (okA : Okc) (M : Mem) (ok : Okc) (a : Act) (w : World), MI C w0 Fp okA M ok st.L w → TR w ok M st.tm a → ∀ Q : Exit → Act → World → Prop,
   (∀ M' ok' a' w', MI C w0 Fp okA M' ok' st'.L w' → TR w' ok' M' st'.tm a' → a'.defers = a.defers → Q .normal a' w') → wpOps C.P ops Q (List.range' i l.length) a w
 | [], i, st, k, hl, h => ⟨st, rfl, h, fun w0 Fp okA M ok a w hm ht Q hQ => hQ M ok a w hm ht rfl⟩
 | o :: rest, i, st, k, hl, h => by
  have hoi : ops[i]? = some o := by
   have := congrArg (·[0]?) hl
   simp at this
   exact this.symm
  have hrest : rest = ops.toList.drop (i + 1) := by
   have := congrArg List.tail hl
   simpa using this
  unfold evOps at h
  obtain ⟨b, st1, hL1, hn1, hg, h⟩ := guard_run h
  cases b with
  | true =>
   simp only at h
   obtain ⟨v, st2, rd, wr, ⟨⟨htm, hn0, hop⟩, _⟩, h⟩ := evOp_ok hS hΦ hE h
   rw [putF_eq] at h
   obtain ⟨st3, hn3, hk, hw⟩ := evOps_ok hS hΦ hE rest (i + 1) _ k hrest h
   refine ⟨st3, by rw [hn3]; simp only [St.put]; split <;> simp [hn0, hn1], hk, fun w0 Fp okA M ok a w hm ht Q hQ => ?_⟩
   obtain ⟨ht1, hwant⟩ := hg w ok M a ht
   rw [List.length_cons, List.range'_succ]
   simp only [wpOps, hoi, hwant, if_true]
   refine .inl (hop w0 Fp okA M ok a w (by rw [hL1]; exact hm) ht1 _ _ fun val w' M' ok' hm' he hv => ?_)
   refine hw w0 Fp okA M' ok' _ w' ?_ (TR.putv htm (ht1.mono he) _ hv) Q fun M'' ok'' a'' w'' h1 h2 h3 => hQ M'' ok'' a'' w'' h1 h2 (h3.trans ?_)
   ·simp only [St.put]; split <;> exact hm'
   ·unfold Act.put; split <;> rfl
  | false =>
   simp only at h
   rw [putF_eq] at h
   obtain ⟨st3, hn3, hk, hw⟩ := evOps_ok hS hΦ hE rest (i + 1) _ k hrest h
   refine ⟨st3, by rw [hn3]; simp only [St.put]; split <;> simp [hn1], hk, fun w0 Fp okA M ok a w hm ht Q hQ => ?_⟩
   obtain ⟨ht1, hwant⟩ := hg w ok M a ht
   rw [List.length_cons, List.range'_succ]
   simp only [wpOps, hoi, hwant, Bool.false_eq_true, if_false]
   refine hw w0 Fp okA M ok _ w ?_ (ht1.put _ (.tup [] [] rfl (fun j y v hj => by simp at hj))) Q fun M'' ok'' a'' w'' h1 h2 h3 => hQ M'' ok'' a'' w'' h1 h2 (h3.trans ?_)
   ·simp only [St.put]; split <;> (simp only [hL1]; exact hm)
   ·unfold Act.put; split <;> rfl
end
end Go.Dv

namespace Go.Dv
open Go
section
variable {G : Sig} {C : Cfg G} {Φ : FuncId → List Item → St G.S → Option (Ret G.S)} {f : FuncId} {r : Ret G.S}
theorem clo_mono : ∀ (n : Nat) (v : V G.S), v.clo n = true → v.clo (n + 1) = true
 | 0, v, h => by simp [V.clo] at h
 | n + 1, v, h => by
  have all : ∀ cs : List (V G.S), cs.all (V.clo n) = true → cs.all (V.clo (n + 1)) = true := by
   intro cs h
   rw [List.all_eq_true] at h ⊢
   exact fun v hv => clo_mono n v (h v hv)
  cases v <;> first
   | exact h
   | (simp only [V.clo] at h ⊢; exact all _ h)
def resF (a : Act) : ResultVar → Sem Value
 | .tmp t => pure (a.tmps.getD t undef)
 | .cell b t => do loadVar t (← asAddr (a.tmps.getD b undef))
theorem retVs_run (hS : SigOk G) {w0 : World} {Fp : Fx} {okA : Okc} {M : Mem} {ok : Okc} {st : St G.S} {a : Act} {w : World} (hm : MI C w0 Fp okA M ok st.L w) (ht : TR w ok M st.tm a) {os : List Nat} :
  ∀ (rs : List ResultVar) (vs : List (V G.S)), retVs C st rs = some vs → (∀ o ∈ retReach C st rs, os.contains o = true) →
  ∃ vals, (rs.mapM (resF a)).run C.P w = .ok vals w ∧ VRs w (okF M ok st.L os) M vs vals
 | [], vs, h, _ => by simp [retVs] at h; subst h; exact ⟨[], by simp, .nil⟩
 | x :: rs, vs, h, ho => by
  simp only [retVs] at h
  split at h
  ·rename_i v vs' hv hvs
   cases h
   obtain ⟨vals, h1, h2⟩ := retVs_run hS hm ht rs vs' hvs (fun o hoo => ho o (by simp [retReach, hoo]))
   rw [List.mapM_cons]
   cases x with
   | tmp t =>
    have := snap_ok hS hm 20 _ _ _ os hv (fun o hoo => ho o (by simp [retReach, hoo])) (ht.get t)
    refine ⟨a.tmps.getD t undef :: vals, ?_, .cons this h2⟩
    have hx : (resF a (.tmp t)).run C.P w = .ok (a.tmps.getD t undef) w := rfl
    simp only [Sem.run_bind, hx, h1, Result.andThen, Sem.run_pure]
   | cell b t =>
    simp only at hv
    split at hv
    ·rename_i o off hb
     split at hv
     ·rename_i cs fz hL
      split at hv
      ·rename_i v0 hp
       obtain ⟨bb, l, hM, hh, hvs0⟩ := hm.objs o _ hL
       have hbv := ht.get b
       rw [hb] at hbv
       generalize hval : a.tmps.getD b undef = vb at hbv
       cases hbv with
       | ref _ _ b' te' hM' =>
        rw [hM] at hM'; cases hM'
        obtain ⟨val, g1, g2⟩ := partV_load (w := w) (ok := ok) (M := M) (b := bb) (off := off) hp (u := fun j => l.getD (off + j) undef) (fun j y hj => by
         obtain ⟨u, hu, _⟩ := (hvs0.drop off).get hj
         rw [List.getElem?_drop] at hu
         simp [World.cell?, hh, List.getD_eq_getElem?_getD, hu]) (fun j y hj => by
         obtain ⟨u, hu, hvu⟩ := (hvs0.drop off).get hj
         rw [List.getElem?_drop] at hu
         rw [List.getD_eq_getElem?_getD, hu]
         exact hvu)
        have := snap_ok hS hm 20 _ _ _ os hv (fun o hoo => ho o (by simp [retReach, hb, hL, hp, hoo])) g2
        refine ⟨val :: vals, ?_, .cons this h2⟩
        have hx : (resF a (.cell b t)).run C.P w = .ok val w := by
         simp only [resF, hval]
         simp [asAddr, g1]
        simp only [Sem.run_bind, hx, h1, Result.andThen, Sem.run_pure]
      ·cases hv
     ·cases hv
    ·cases hv
  ·cases h
theorem retT_ok (hS : SigOk G) {st : St G.S} (h : (retT C f st).run G Φ f = some r) {w0 : World} {Fp : Fx} {okA : Okc} {M : Mem} {ok : Okc} {b : Frame} {cs : List Frame} {a : Act} {w : World} {todo : List Item}
  (hnp : ∀ i x, Fp.pin i = some x → i < st.n0) (hb : b.fn = f) (hk : b.kind = .normal) (hd : a.defers = []) (hm : MI C w0 Fp okA M ok st.L w) (ht : TR w ok M st.tm a)
  (hs : step C.P (lone (b.at a todo) cs w) = .next (lone { b.at a todo with mode := .returning } cs w)) : Runs C.P b cs a todo w (PostM C w0 Fp okA r) := by
 unfold retT at h
 split at h
 ·exact run_fail h
 ·rename_i fn hf
  split at h
  ·rename_i vs q hvs hq
   split at h
   ·rename_i hclo
    obtain ⟨hm2, he2⟩ := hm.freeze hS (retReach C st fn.results.toList)
    obtain ⟨vals, h1, h2⟩ := retVs_run hS hm ht (os := retReach C st fn.results.toList) _ vs hvs (fun o ho => by simpa using ho)
    rw [List.all_eq_true] at hclo
    obtain ⟨M2, hri, hpin⟩ := carryP_ok hS hm2 hq List.nodup_range
    have hm3 : MI C w0 Fp okA M2 _ q.L w := hri.mi hS hm2 (fun i x hi => by
     have hx := hm2.pin i x hi
     obtain ⟨_, y, a1, a2⟩ := hpin i i (by simp [hnp i x hi])
     rw [a1] at hx; cases hx; exact a2)
    have post : ∀ (u : V G.S) (v : Value), VR w (okF M ok st.L (retReach C st fn.results.toList)) M u v → u.clo 21 = true → PostM C w0 Fp okA (u, q.L) v w := fun u v hv hc =>
     ⟨M2, _, hm3, hv.anyM hS _ 21 hc⟩
    have hres : ∀ v, (if h : vals.toArray.size = 1 then vals.toArray[0] else .tuple vals.toArray) = v → (results fn a.tmps).run C.P w = .ok v w := by
     intro v hv
     have e : results fn a.tmps = (do let vs ← fn.results.mapM (resF a); pure (if h : vs.size = 1 then vs[0] else .tuple vs)) := by
      unfold results
      congr 2
     rw [e, Array.mapM_eq_mapM_toList]
     simp [h1]
     simpa using hv
    have lv : ∀ v, (if h : vals.toArray.size = 1 then vals.toArray[0] else .tuple vals.toArray) = v → Frame.leaving C.P { b.at a todo with mode := .returning } w (.returned v) := fun v hv =>
     ⟨rfl, hd, hk, fn, by rw [show ({ b.at a todo with mode := .returning } : Frame).fn = f from hb]; exact hf, hres v hv⟩
    split at h
    ·rename_i v
     rw [deep_eq] at h
     simp only [Tree.run, Option.some.injEq] at h
     subst h
     obtain ⟨val, l', rfl, hv, hl⟩ := h2.inv
     have : l' = [] := List.eq_nil_of_length_eq_zero hl.1.symm
     subst this
     exact ⟨val, w, _, post v val hv (clo_mono 20 v (hclo v (by simp))), .one hs, rfl, lv val (by simp)⟩
    ·rename_i hne
     rw [forceL_eq] at h
     simp only [Tree.run, Option.some.injEq] at h
     subst h
     refine ⟨.tuple vals.toArray, w, _, post _ _ (.tup vs vals h2.1 h2.2) (by simp only [V.clo]; rw [List.all_eq_true]; exact hclo), .one hs, rfl, lv _ ?_⟩
     rw [dif_neg]
     intro he
     have : vs.length = 1 := by rw [h2.1]; simpa using he
     match vs, this, hne with
     | [v], _, hne => exact hne v rfl
   ·exact run_fail h
  ·exact run_fail h
theorem retRaw_run {w0 : World} {Fp : Fx} {okA : Okc} {M : Mem} {ok : Okc} {st : St G.S} {a : Act} {w : World} (hm : MI C w0 Fp okA M ok st.L w) (ht : TR w ok M st.tm a) :
  ∀ (rs : List ResultVar) (vs : List (V G.S)), retRaw C st rs = some vs → ∃ vals, (rs.mapM (resF a)).run C.P w = .ok vals w ∧ VRs w ok M vs vals
 | [], vs, h => by simp [retRaw] at h; subst h; exact ⟨[], by simp, .nil⟩
 | x :: rs, vs, h => by
  simp only [retRaw] at h
  split at h
  ·rename_i v vs' hv hvs
   cases h
   obtain ⟨vals, h1, h2⟩ := retRaw_run hm ht rs vs' hvs
   rw [List.mapM_cons]
   cases x with
   | tmp t =>
    simp only [Option.some.injEq] at hv
    subst hv
    refine ⟨a.tmps.getD t undef :: vals, ?_, .cons (ht.get t) h2⟩
    have hx : (resF a (.tmp t)).run C.P w = .ok (a.tmps.getD t undef) w := rfl
    simp only [Sem.run_bind, hx, h1, Result.andThen, Sem.run_pure]
   | cell b t =>
    simp only at hv
    split at hv
    ·rename_i o off hb
     split at hv
     ·rename_i cs fz hL
      obtain ⟨bb, l, hM, hh, hvs0⟩ := hm.objs o _ hL
      have hbv := ht.get b
      rw [hb] at hbv
      generalize hval : a.tmps.getD b undef = vb at hbv
      cases hbv with
      | ref _ _ b' te' hM' =>
       rw [hM] at hM'; cases hM'
       obtain ⟨val, g1, g2⟩ := partV_load (w := w) (ok := ok) (M := M) (b := bb) (off := off) hv (u := fun j => l.getD (off + j) undef) (fun j y hj => by
        obtain ⟨u, hu, _⟩ := (hvs0.drop off).get hj
        rw [List.getElem?_drop] at hu
        simp [World.cell?, hh, List.getD_eq_getElem?_getD, hu]) (fun j y hj => by
        obtain ⟨u, hu, hvu⟩ := (hvs0.drop off).get hj
        rw [List.getElem?_drop] at hu
        rw [List.getD_eq_getElem?_getD, hu]
        exact hvu)
       refine ⟨val :: vals, ?_, .cons g2 h2⟩
       have hx : (resF a (.cell b t)).run C.P w = .ok val w := by
        simp only [resF, hval]
        simp [asAddr, g1]
       simp only [Sem.run_bind, hx, h1, Result.andThen, Sem.run_pure]
     ·cases hv
    ·cases hv
  ·cases h
theorem retOT_ok (hS : SigOk G) {st : St G.S} (h : (retOT C f st).run G Φ f = some r) {w0 : World} {Fp : Fx} {okA : Okc} {M : Mem} {ok : Okc} {b : Frame} {cs : List Frame} {a : Act} {w : World} {todo : List Item}
  (hnp : ∀ i x, Fp.pin i = some x → i < st.n0) (hb : b.fn = f) (hk : b.kind = .normal) (hd : a.defers = []) (hm : MI C w0 Fp okA M ok st.L w) (ht : TR w ok M st.tm a)
  (hs : step C.P (lone (b.at a todo) cs w) = .next (lone { b.at a todo with mode := .returning } cs w)) : Runs C.P b cs a todo w (PostM C w0 Fp okA r) := by
 unfold retOT at h
 split at h
 ·exact run_fail h
 ·rename_i fn hf
  split at h
  ·rename_i vs q0 hvs hq0
   ·split at h
    ·rename_i us q hmap
     rw [forceO_eq] at h
     obtain ⟨vals, h1, h2⟩ := retRaw_run hm ht _ vs hvs
     obtain ⟨M1, hri0, hpin⟩ := carryP_ok hS hm hq0 List.nodup_range
     obtain ⟨M2, ⟨hri, hle, _⟩, hvs2⟩ := mapS_ok (rnV_ok hS hm 20) vs _ us q _ hmap hri0
     have h3 := hvs2 vals h2
     have hm3 : MI C w0 Fp okA M2 ok q.L w := hri.mi hS hm (fun i x hi => by
      have hx := hm.pin i x hi
      obtain ⟨_, y, a1, a2⟩ := hpin i i (by simp [hnp i x hi])
      rw [a1] at hx; cases hx; exact hle.hd _ _ a2)
     have hres : ∀ v, (if h : vals.toArray.size = 1 then vals.toArray[0] else .tuple vals.toArray) = v → (results fn a.tmps).run C.P w = .ok v w := by
      intro v hv
      have e : results fn a.tmps = (do let vs ← fn.results.mapM (resF a); pure (if h : vs.size = 1 then vs[0] else .tuple vs)) := by
       unfold results
       congr 2
      rw [e, Array.mapM_eq_mapM_toList]
      simp [h1]
      simpa using hv
     have lv : ∀ v, (if h : vals.toArray.size = 1 then vals.toArray[0] else .tuple vals.toArray) = v → Frame.leaving C.P { b.at a todo with mode := .returning } w (.returned v) := fun v hv =>
      ⟨rfl, hd, hk, fn, by rw [show ({ b.at a todo with mode := .returning } : Frame).fn = f from hb]; exact hf, hres v hv⟩
     split at h
     ·rename_i v
      rw [deep_eq] at h
      simp only [Tree.run, Option.some.injEq] at h
      subst h
      obtain ⟨val, l', rfl, hv, hl⟩ := h3.inv
      have : l' = [] := List.eq_nil_of_length_eq_zero hl.1.symm
      subst this
      exact ⟨val, w, _, ⟨M2, ok, hm3, hv⟩, .one hs, rfl, lv val (by simp)⟩
     ·rename_i hne
      rw [forceL_eq] at h
      simp only [Tree.run, Option.some.injEq] at h
      subst h
      refine ⟨.tuple vals.toArray, w, _, ⟨M2, ok, hm3, .tup us vals h3.1 h3.2⟩, .one hs, rfl, lv _ ?_⟩
      rw [dif_neg]
      intro he
      have : us.length = 1 := by rw [h3.1]; simpa using he
      match us, this, hne with
      | [v], _, hne => exact hne v rfl
    ·exact run_fail h
  ·exact run_fail h
theorem retN_ok (hS : SigOk G) {st : St G.S} (h : (retN C f st).run G Φ f = some r) {w0 : World} {Fp : Fx} {okA : Okc} {M : Mem} {ok : Okc} {b : Frame} {cs : List Frame} {a : Act} {w : World} {todo : List Item}
  (hnp : ∀ i x, Fp.pin i = some x → i < st.n0) (hb : b.fn = f) (hk : b.kind = .normal) (hd : a.defers = []) (hm : MI C w0 Fp okA M ok st.L w) (ht : TR w ok M st.tm a)
  (hs : step C.P (lone (b.at a todo) cs w) = .next (lone { b.at a todo with mode := .returning } cs w)) : Runs C.P b cs a todo w (PostM C w0 Fp okA r) := by
 unfold retN at h
 split at h
 ·exact retOT_ok hS h hnp hb hk hd hm ht hs
 ·obtain ⟨st', h1, h2, h3, h4⟩ := normT_ok (C := C) hS forceO_eq h
  obtain ⟨M1, k1, k2⟩ := h4 w0 Fp okA M ok w hm
  have ht1 : TR w ok M1 st'.tm a := by rw [h2]; exact ht.mono k2
  exact retT_ok hS h1 (by rw [h3]; exact hnp) hb hk hd k1 ht1 hs
end
end Go.Dv

namespace Go.Dv
open Go
section
variable {G : Sig} {C : Cfg G}
section
variable {w0 w : World} {Fp : Fx} {okA ok : Okc} {M : Mem} {old : List (Obj G.S)}
theorem TR.set {w : World} {ok : Okc} {M : Mem} {tm : List (V G.S)} {a : Act} (h : TR w ok M tm a) (i : Nat) {v : V G.S} (hv : VR w ok M v (a.tmps.getD i undef)) : TR w ok M (tm.set i v) a := by
 refine ⟨by simpa using h.1, fun j y hj => ?_⟩
 rw [List.getElem?_set] at hj
 by_cases e : i = j
 ·rw [if_pos e] at hj
  split at hj
  ·cases hj; subst e; exact hv
  ·cases hj
 ·rw [if_neg e] at hj; exact h.2 j y hj
theorem keepTm_ok (hS : SigOk G) (hm : MI C w0 Fp okA M ok old w) {tm : List (V G.S)} {a : Act} (ht : TR w ok M tm a) : ∀ (ks : List (Nat × Option Ty)) (acc : List (V G.S)) (r : Rn G.S) (tm' : List (V G.S)) (r' : Rn G.S) (M1 : Mem),
  (∀ i ty v', (i, some ty) ∈ ks → snap old 20 (tm.getD i .un) = some v' → VR w ok M v' (a.tmps.getD i undef)) →
  keepTm old tm ks acc r = some (tm', r') → RI w ok old M r M1 → TR w ok M1 acc a → ∃ M2, RnOK w ok old M r r' M1 M2 ∧ TR w ok M2 tm' a
 | [], acc, r, tm', r', M1, _, h, hri, hacc => by
  simp only [keepTm, Option.some.injEq, Prod.mk.injEq] at h
  obtain ⟨rfl, rfl⟩ := h
  exact ⟨M1, .refl hri, hacc⟩
 | (i, im) :: ks, acc, r, tm', r', M1, him, h, hri, hacc => by
  have hget : VR w ok M (tm.getD i .un) (a.tmps.getD i undef) := TR.get (st := ⟨tm, old, 0⟩) ht i
  simp only [keepTm] at h
  split at h
  ·rename_i ty
   split at h
   ·rename_i v' hs
    split at h
    ·rename_i x hx
     split at h
     ·rename_i hc
      have := him i ty v' (by simp) hs
      exact keepTm_ok hS hm ht ks _ r tm' r' M1 (fun j ty v hj => him j ty v (by simp [hj])) h hri (hacc.set i ((prj_ok hS hx this).2.anyM hS _ 20 hc))
     ·cases h
    ·cases h
   ·cases h
  ·split at h
   ·rename_i v' r1 hs
    obtain ⟨M2, g1, g2⟩ := rnV_ok hS hm 20 _ r v' r1 M1 hs hri
    obtain ⟨M3, g3, g4⟩ := keepTm_ok hS hm ht ks _ r1 tm' r' M2 (fun j ty v hj => him j ty v (by simp [hj])) h g1.1 ((hacc.mono (g1.2.1.ex w ok)).set i (g2 _ hget))
    exact ⟨M3, g1.trans g3, g4⟩
   ·cases h
theorem imIds_mem {L : List (Obj G.S)} {tm : List (V G.S)} : ∀ {ks : List (Nat × Option Ty)} {i : Nat} {ty : Ty} {o : Nat}, (i, some ty) ∈ ks → o ∈ reach L 20 (tm.getD i .un) → o ∈ imIds L tm ks
 | (j, im) :: ks, i, ty, o, h, ho => by
  simp only [imIds, List.mem_append]
  cases h with
  | head => simp only [Option.isSome_some, if_true]; exact .inl ho
  | tail _ h => exact .inr (imIds_mem h ho)
theorem restrict_ok (hS : SigOk G) {keep : List (Nat × Option Ty)} {st st' : St G.S} (h : restrict keep st = some st') (hnp : ∀ i x, Fp.pin i = some x → i < st.n0) {a : Act} (hm : MI C w0 Fp okA M ok st.L w) (ht : TR w ok M st.tm a) :
  st'.n0 = st.n0 ∧ ∃ M' ok', MI C w0 Fp okA M' ok' st'.L w ∧ TR w ok' M' st'.tm a := by
 unfold restrict at h
 simp only at h
 obtain ⟨hm2, he2⟩ := hm.freeze hS (imIds st.L st.tm keep)
 split at h
 ·rename_i r hp
  split at h
  ·rename_i tm r' hk
   cases h
   obtain ⟨M1, g1, hpin⟩ := carryP_ok hS hm2 hp List.nodup_range
   have hacc : TR w (okF M ok st.L (imIds st.L st.tm keep)) M1 (List.replicate st.tm.length (.un : V G.S)) a := by
    refine ⟨by simpa using ht.1, fun i y hi => ?_⟩
    rw [List.getElem?_replicate] at hi
    split at hi
    ·cases hi; exact .un _
    ·cases hi
   obtain ⟨M2, g2, g3⟩ := keepTm_ok hS hm2 (ht.mono he2) keep _ r tm r' M1 (fun i ty v' hi hs => by
    rw [snap_freeze] at hs
    exact snap_ok hS hm 20 _ _ _ _ hs (fun o ho => by rw [List.contains_iff_mem]; exact imIds_mem hi ho) (ht.get i)) hk g1 hacc
   exact ⟨rfl, M2, _, g2.1.mi hS hm2 (fun i x hi => by
    have hx := hm2.pin i x hi
    obtain ⟨_, y, a1, a2⟩ := hpin i i (by simp [hnp i x hi])
    rw [a1] at hx; cases hx
    exact g2.2.1.hd _ _ a2), g3⟩
  ·cases h
 ·cases h
end
end
end Go.Dv

namespace Go.Dv
open Go
section
variable {G : Sig} {C : Cfg G} {Φ : FuncId → List Item → St G.S → Option (Ret G.S)} {f : FuncId} {r : Ret G.S}
theorem opd_okL {w0 : World} {Fp : Fx} {okA : Okc} {M : Mem} {ok : Okc} {L : List (Obj G.S)} {st : St G.S} {a : Act} {w : World} (hm : MI C w0 Fp okA M ok L w) (ht : TR w ok M st.tm a) (t : TypeId) (x : Operand) : VR w ok M (opd C st t x) (a.eval x) := by
 have := opd_ok (st := ⟨st.tm, L, st.n0⟩) hm ht t x
 cases x <;> exact this
theorem opds_okL {w0 : World} {Fp : Fx} {okA : Okc} {M : Mem} {ok : Okc} {L : List (Obj G.S)} {st : St G.S} {a : Act} {w : World} (hm : MI C w0 Fp okA M ok L w) (ht : TR w ok M st.tm a) : ∀ (ts : List TypeId) (xs : List Operand) (vs : List (V G.S)), opds C st ts xs = some vs → VRs w ok M vs (xs.map a.eval)
 | [], [], vs, h => by simp [opds] at h; subst h; exact .nil
 | t :: ts, x :: xs, vs, h => by
  simp only [opds] at h
  split at h
  ·rename_i l hl
   cases h
   exact .cons (opd_okL hm ht t x) (opds_okL hm ht ts xs l hl)
  ·cases h
 | [], _ :: _, vs, h => by simp [opds] at h
 | _ :: _, [], vs, h => by simp [opds] at h
def OpPure (C : Cfg G) (o : Oper) (st : St G.S) (v : V G.S) : Prop :=
 ∀ (w0 : World) (Fp : Fx) (okA : Okc) (M : Mem) (ok : Okc) (L : List (Obj G.S)) (a : Act) (w : World), MI C w0 Fp okA M ok L w → TR w ok M st.tm a →
  ∃ val, (execOp a.eval o).run C.P w = .ok (.value val) w ∧ VR w ok M v val
theorem opd_L (st : St G.S) (L : List (Obj G.S)) (t : TypeId) (x : Operand) : opd C (⟨st.tm, L, st.n0⟩ : St G.S) t x = opd C st t x := by cases x <;> rfl
theorem parts_L (st : St G.S) (L : List (Obj G.S)) (pl : List (TypeId × Nat × Nat)) : ∀ l : List (Nat × Operand), parts C (⟨st.tm, L, st.n0⟩ : St G.S) pl l = parts C st pl l
 | [] => rfl
 | (i, x) :: l => by simp only [parts, opd_L, parts_L st L pl l]
theorem evPure_ok (hS : SigOk G) {o : Oper} (hp : pureOp o = true) {st : St G.S} {k : K G} (h : (evOp C o st k).run G Φ f = some r) : ∃ v, OpPure C o st v ∧ (k v st [] []).run G Φ f = some r := by
 cases hop : o.op
 all_goals first
  | (simp [pureOp, hop] at hp; done)
  | simp only [evOp, hop] at h
 case move =>
  rename_i x
  exact ⟨_, fun w0 Fp okA M ok L a w hm ht => ⟨_, by simp [execOp, hop], opd_okL hm ht _ x⟩, h⟩
 case assign =>
  rename_i x
  exact ⟨_, fun w0 Fp okA M ok L a w hm ht => ⟨_, by simp [execOp, hop], opd_okL hm ht _ x⟩, h⟩
 case pick =>
  rename_i c x y
  obtain ⟨b, hb, h⟩ := asB_run h
  refine ⟨_, fun w0 Fp okA M ok L a w hm ht => ⟨if b then a.eval x else a.eval y, ?_, ?_⟩, h⟩
  ·have := hb w ok M _ (opd_okL hm ht _ c)
   simp [execOp, hop, this, asBool]
  ·cases b
   ·exact opd_okL hm ht _ y
   ·exact opd_okL hm ht _ x
 case build =>
  rename_i t ps
  split at h
  ·rename_i z pl hz hp
   split at h
   ·rename_i l hl
    split at h
    ·rename_i cs hf
     refine ⟨_, fun w0 Fp okA M ok L a w hm ht => ?_, h⟩
     obtain ⟨val, h1, h2⟩ := build_run (st := ⟨st.tm, L, st.n0⟩) hm ht hz hp (by rw [parts_L]; exact hl) hf
     exact ⟨val, by simp only [execOp, hop]; exact run_v h1, h2⟩
    ·exact run_fail h
   ·exact run_fail h
  ·exact run_fail h
 case nilCheck =>
  rename_i x
  have nil : ∀ (w0 : World) (Fp : Fx) (okA : Okc) (M : Mem) (ok : Okc) (L : List (Obj G.S)) (a : Act) (w : World), MI C w0 Fp okA M ok L w → TR w ok M st.tm a → (∃ ad, a.eval x = .pointer (some ad)) → ∃ val, (execOp a.eval o).run C.P w = .ok (.value val) w ∧ VR w ok M (opd C st 0 x) val := by
   intro w0 Fp okA M ok L a w hm ht ⟨ad, hv⟩
   have := opd_okL hm ht 0 x
   exact ⟨_, by simp [execOp, hop, hv], this⟩
  split at h
  ·rename_i o' off hx
   refine ⟨_, fun w0 Fp okA M ok L a w hm ht => ?_, h⟩
   rw [← hx]
   refine nil w0 Fp okA M ok L a w hm ht ?_
   have := opd_okL hm ht 0 x
   rw [hx] at this
   generalize a.eval x = vx at this
   cases this; exact ⟨_, rfl⟩
  ·rename_i cs hx
   refine ⟨_, fun w0 Fp okA M ok L a w hm ht => ?_, h⟩
   rw [← hx]
   refine nil w0 Fp okA M ok L a w hm ht ?_
   have := opd_okL hm ht 0 x
   rw [hx] at this
   generalize a.eval x = vx at this
   cases this; exact ⟨_, rfl⟩
  ·rename_i o' i off hx
   refine ⟨_, fun w0 Fp okA M ok L a w hm ht => ?_, h⟩
   rw [← hx]
   refine nil w0 Fp okA M ok L a w hm ht ?_
   have := opd_okL hm ht 0 x
   rw [hx] at this
   generalize a.eval x = vx at this
   cases this; exact ⟨_, rfl⟩
  ·exact run_fail h
 case binOp =>
  rename_i op t x y yt
  split at h
  ·rename_i b hb
   refine ⟨_, fun w0 Fp okA M ok L a w hm ht => ⟨.bool b, ?_, .bool _⟩, h⟩
   simp only [execOp, hop]
   exact run_v (erB_run hb (opd_okL hm ht t x) x a)
  obtain ⟨v, h1, h2⟩ := binV_run h
  refine ⟨v, fun w0 Fp okA M ok L a w hm ht => ?_, h2⟩
  obtain ⟨val, h3, h4⟩ := h1 w ok M _ _ x y (opd_okL hm ht t x) (opd_okL hm ht yt y)
  refine ⟨val, ?_, h4⟩
  simp only [execOp, hop]
  exact run_v h3
 case unOp =>
  rename_i op t x
  obtain ⟨v, h1, h2⟩ := unV_run (C := C) h
  refine ⟨v, fun w0 Fp okA M ok L a w hm ht => ?_, h2⟩
  obtain ⟨val, h3, h4⟩ := h1 w ok M _ (opd_okL hm ht t x)
  exact ⟨val, by simp [execOp, hop, h3], h4⟩
 case makeFunc =>
  rename_i fn first cap
  cases fn <;> first | (exact run_fail h) | skip
  rename_i g
  simp only at h
  split at h
  ·rename_i hfe
   split at h
   ·rename_i vs hvs
    refine ⟨_, fun w0 Fp okA M ok L a w hm ht => ?_, h⟩
    have hv := opds_okL hm ht _ _ _ hvs
    simp only [Bool.and_eq_true] at hfe
    have hfirst : first = #[] := by simpa using hfe.1
    have := VR.fn (w := w) (ok := ok) (M := M) g vs _ hv.1 hv.2
    simp only [fv, hfe.2, if_true] at this
    refine ⟨_, ?_, this⟩
    simp [execOp, hop, Instr.makeFunc, hfirst]
    rw [← Array.toList_map, Array.toArray_toList]
   ·exact run_fail h
  ·split at h
   ·rename_i hce
    split at h
    ·rename_i vs hvs
     refine ⟨_, fun w0 Fp okA M ok L a w hm ht => ?_, h⟩
     have hv := opds_okL hm ht _ _ _ hvs
     have hcap : cap = #[] := by simpa using hce
     have := VR.fn (w := w) (ok := ok) (M := M) (g + 1000000) vs _ hv.1 hv.2
     have hb : Nat.blt (g + 1000000) 1000000 = false := blt_add g
     simp only [fv, hb, Bool.false_eq_true, if_false, Nat.add_sub_cancel] at this
     refine ⟨_, ?_, this⟩
     simp [execOp, hop, Instr.makeFunc, hcap]
     rw [← Array.toList_map, Array.toArray_toList]
    ·exact run_fail h
   ·exact run_fail h
 case fieldAddr =>
  rename_i s x i
  split at h
  ·rename_i fd hfd
   split at h
   ·rename_i n hs
    split at h
    ·rename_i o' off hx
     refine ⟨_, fun w0 Fp okA M ok L a w hm ht => ?_, h⟩
     have h1 := opd_okL hm ht 0 x
     rw [hx] at h1
     generalize hv : a.eval x = vx at h1
     cases h1 with
     | ref _ _ b te hM => exact ⟨_, by simp [execOp, hop, hv, fieldAt_run hfd hs], .ref _ _ _ _ hM⟩
    ·rename_i cs hx
     refine ⟨_, fun w0 Fp okA M ok L a w hm ht => ?_, h⟩
     have h1 := opd_okL hm ht 0 x
     rw [hx] at h1
     generalize hv : a.eval x = vx at h1
     cases h1 with
     | pc _ b off u g1 g2 => 
      refine ⟨_, by simp [execOp, hop, hv, fieldAt_run hfd hs]; rfl, .pc _ b _ (fun j => u (fd.offset + j)) (fun j y hj => ?_) (fun j y hj => ?_)⟩
      ·rw [List.getElem?_drop] at hj
       have := g1 _ y hj
       rw [Nat.add_assoc]; exact this
      ·rw [List.getElem?_drop] at hj
       exact g2 _ y hj
    ·rename_i o' i' off hx
     refine ⟨_, fun w0 Fp okA M ok L a w hm ht => ?_, h⟩
     have h1 := opd_okL hm ht 0 x
     rw [hx] at h1
     generalize hv : a.eval x = vx at h1
     cases h1 with
     | pe _ _ _ b n c e sz hM =>
      refine ⟨.pointer (some ⟨b, i' * sz + (off + fd.offset), none⟩), ?_, .pe _ _ _ _ _ _ _ _ hM⟩
      rw [← Nat.add_assoc]
      simp [execOp, hop, hv, fieldAt_run hfd hs]
    ·exact run_fail h
   ·exact run_fail h
  ·exact run_fail h
 case field =>
  rename_i s x i
  split at h
  ·rename_i fd cs hfd hcs
   split at h
   ·rename_i v hp
    refine ⟨_, fun w0 Fp okA M ok L a w hm ht => ?_, h⟩
    split at hcs
    ·rename_i hag
     obtain ⟨l, hv, hvs⟩ := agg_ok hag hcs (opd_okL hm ht s x)
     obtain ⟨fs, hu, hf⟩ := fieldOf_run hfd
     obtain ⟨val, h1, h2⟩ := partV_part (w := w) (ok := ok) (M := M) hp hvs
     exact ⟨val, by simp [execOp, hop, Instr.field, run_underlying hu, hf, hv, asAgg, h1], h2⟩
    ·cases hcs
   ·exact run_fail h
  ·exact run_fail h
 case index =>
  rename_i t x i
  split at h
  ·rename_i ki n s hi hx hu
   obtain ⟨b, hb, h'⟩ := run_bnd h
   obtain ⟨m, rfl, hm'⟩ := idx_ok hb
   refine ⟨_, fun w0 Fp okA M ok L a w hm ht => ?_, h'⟩
   have h1 := opd_okL hm ht t x
   have h2 := opd_okL hm ht 0 i
   rw [hx] at h1; rw [hi] at h2
   generalize hv1 : a.eval x = vx at h1
   generalize hv2 : a.eval i = vi at h2
   cases h1; cases h2
   exact ⟨_, by simp [execOp, hop, hv1, hv2, index_str_run hu hm'], .int _ _⟩
  ·rename_i ki n cs m e hi hx hu
   split at h
   ·rename_i ty hty hs ha
    split at h
    ·rename_i xs hxs
     split at h
     ·rename_i hlen
      obtain ⟨y, hy, h'⟩ := run_bnd h
      obtain ⟨q, rfl, hq⟩ := idx_ok hy
      refine ⟨_, fun w0 Fp okA M ok L a w hm ht => ?_, h'⟩
      have h1 := opd_okL hm ht t x
      have h2 := opd_okL hm ht 0 i
      rw [hx] at h1; rw [hi] at h2
      generalize hv1 : a.eval x = vx at h1
      generalize hv2 : a.eval i = vi at h2
      obtain ⟨hxl, hxg⟩ := mapO_get hxs
      obtain ⟨c, hc, hpc⟩ := hxg q y hq
      cases h2
      cases h1 with
      | ag _ l hl hh =>
       have hql : q < l.length := by rw [← hl]; exact (List.getElem?_eq_some_iff.1 hc).1
       have hlq := List.getElem?_eq_getElem hql
       have hvr := hh q c _ hc hlq
       refine ⟨l[q], ?_, (prj_ok hS hpc hvr).2⟩
       have := index_arr_run (P := C.P) (w := w) (l := l.toArray) (k := ki) (v := l[q]) hu (sizeT_run hs) (isAgg_run ha) (n := q) (by omega) (by simp [hql])
       simp [execOp, hop, hv1, hv2, this]
     ·exact run_fail h
    ·exact run_fail h
   ·exact run_fail h
  ·exact run_fail h
 case extract =>
  rename_i x i
  split at h
  ·rename_i vs hx
   split at h
   ·rename_i v hv
    refine ⟨_, fun w0 Fp okA M ok L a w hm ht => ?_, h⟩
    have h1 := opd_okL hm ht 0 x
    rw [hx] at h1
    generalize hv1 : a.eval x = vx at h1
    cases h1 with
    | tup _ l hl hh =>
     have hql : i < l.length := by rw [← hl]; exact (List.getElem?_eq_some_iff.1 hv).1
     refine ⟨l[i], by simp [execOp, hop, hv1, Instr.extract, hql], hh i v _ hv (List.getElem?_eq_getElem hql)⟩
   ·exact run_fail h
  ·exact run_fail h
theorem evImm_ok (hS : SigOk G) {o : Oper} {st : St G.S} (hi : immB C o st = true) {k : K G} (h : (evOp C o st k).run G Φ f = some r) : ∃ v, OpPure C o st v ∧ ∃ rd, (k v st rd []).run G Φ f = some r := by
 cases hop : o.op
 all_goals first
  | (simp [immB, hop] at hi; done)
  | skip
 case load =>
  rename_i t x
  simp only [immB, hop] at hi
  split at hi
  ·rename_i cs hx
   simp only [evOp, hop, hx, loadT] at h
   split at h
   ·rename_i v hp
    refine ⟨v, fun w0 Fp okA M ok L a w hm ht => ?_, [], h⟩
    have hr : (loadT C t (.pc cs) (⟨st.tm, L, st.n0⟩ : St G.S) (fun v _ _ _ => .ret (v, []))).run G Φ f = some (v, []) := by simp only [loadT, hp, Tree.run]
    obtain ⟨v2, rd, wr, h1, h2⟩ := loadT_run hS (fun _ _ _ e => by cases e) hr
    simp only [Tree.run, Option.some.injEq, Prod.mk.injEq] at h2
    obtain ⟨rfl, _⟩ := h2
    have hv := opd_okL (C := C) hm ht 0 x
    rw [hx] at hv
    obtain ⟨val, h3, h4⟩ := h1 w0 Fp okA M ok w _ hm hv
    exact ⟨val, by simp [execOp, hop, h3], h4⟩
   ·exact run_fail h
  ·cases hi
 case slice =>
  rename_i t x lo hi' mx
  cases mx with
  | some _ => simp [immB, hop] at hi
  | none =>
   simp only [immB, hop] at hi
   have hx0 : (∃ ty xs, opd C st t x = .sl ty xs) ∨ ∃ s, opd C st t x = .str s := by
    split at hi
    ·rename_i ty xs hx; exact .inl ⟨ty, xs, hx⟩
    ·rename_i s hx; exact .inr ⟨s, hx⟩
    ·cases hi
   simp only [evOp, hop] at h
   obtain ⟨v, h1, h2⟩ := sliceP_run hS hx0 h
   refine ⟨v, fun w0 Fp okA M ok L a w hm ht => ?_, [], h2⟩
   have bd : ∀ b : Option Operand, BdR w ok M (b.map (opd C st 0)) (b.map a.eval) := by
    intro b
    cases b with
    | none => trivial
    | some b => exact opd_okL (C := C) hm ht 0 b
   have hv := opd_okL (C := C) hm ht t x
   obtain ⟨val, h5, h6⟩ := h1 w ok M _ _ _ hv (bd lo) (bd hi')
   exact ⟨val, by simp [execOp, hop, h5], h6⟩
 case indexAddr =>
  rename_i t x i
  simp only [immB, hop] at hi
  split at hi
  ·rename_i ty xs hx
   simp only [evOp, hop, hx] at h
   split at h
   rotate_left
   ·unfold indexBoxT at h
    split at h
    ·exact run_fail h
    ·exact run_fail h
   have key : ∀ (k : K G) (r : Ret G.S), (indexAddrT C t (.sl ty xs) (opd C st 0 i) st k).run G Φ f = some r → ∃ v, (∀ (L : List (Obj G.S)) (k' : K G), (k' v ⟨st.tm, L, st.n0⟩ [] []).run G Φ f = (indexAddrT C t (.sl ty xs) (opd C st 0 i) ⟨st.tm, L, st.n0⟩ k').run G Φ f) ∧ (k v st [] []).run G Φ f = some r := by
    intro k r h
    unfold indexAddrT at h
    split at h
    ·rename_i ki n hn
     split at h
     ·rename_i e he
      split at h
      ·rename_i sz ty' xs' hs hxx
       cases hxx
       split at h
       ·rename_i hz
        obtain ⟨y, hy, h⟩ := run_bnd h
        refine ⟨_, fun L k' => ?_, h⟩
        unfold indexAddrT
        simp only [hn, he, hs, if_pos hz, Tree.run, hy, Option.bind_some]
       ·exact run_fail h
      ·rename_i hxx; cases hxx
      ·exact run_fail h
     ·exact run_fail h
    ·exact run_fail h
   obtain ⟨v, hv, hk⟩ := key k r h
   refine ⟨v, fun w0 Fp okA M ok L a w hm ht => ?_, [], hk⟩
   have hr := hv L (fun v _ _ _ => .ret (v, []))
   simp only [Tree.run] at hr
   obtain ⟨v2, rd, wr, h1, h2⟩ := indexAddrT_run (st := ⟨st.tm, L, st.n0⟩) hS hr.symm
   simp only [Tree.run, Option.some.injEq, Prod.mk.injEq] at h2
   obtain ⟨rfl, _⟩ := h2
   have hvx := opd_okL (C := C) hm ht t x
   rw [hx] at hvx
   obtain ⟨val, h3, h4⟩ := h1 w0 Fp okA M ok w _ _ hm hvx (opd_okL (C := C) hm ht 0 i)
   exact ⟨val, by simp [execOp, hop, h3], h4⟩
  ·cases hi
end
end Go.Dv

namespace Go.Dv
open Go
section
variable {G : Sig} {C : Cfg G}
section
variable {w0 w w' : World} {Fp : Fx} {okA ok ok' : Okc} {M M' : Mem} {L L' : List (Obj G.S)}
def fxU (L : List (Obj G.S)) (M : Mem) (Fp : Fx) : Fx := ⟨fun b => ∃ (o : Nat) (ob : Obj G.S), L[o]? = some ob ∧ ob.live ∧ hasB M o b, Fp.pin⟩
theorem MI.rebase (h : MI C w0 Fp okA M ok L w) : MI C w (fxU L M Fp) ok M ok L w := by
 refine ⟨h.objs, h.dom, h.dis, h.own, fun o ob b ho hl hb => .inr ⟨o, ob, ho, hl, hb⟩, h.flt, fun _ _ h => h, h.lt, fun _ _ h => .inl h, h.glob, rfl, rfl, rfl, Nat.le_refl _, fun _ _ _ => rfl, fun g cs hg => ?_, h.pin⟩
 obtain ⟨h1, h2, e, z, h3⟩ := h.gt g cs hg
 refine ⟨Nat.lt_of_lt_of_le h1 h.size, ?_, e, z, (h.frame g h1 h2).trans h3⟩
 rintro ⟨o, ob, ho, hl, hb⟩
 rcases h.old o ob g ho hl hb with h4 | h4
 ·omega
 ·exact h2 h4
theorem MI.unbase (h : MI C w0 Fp okA M ok L w) (k : MI C w (fxU L M Fp) ok M' ok' L' w') : MI C w0 Fp okA M' ok' L' w' := by
 have hx : ∀ b, (fxU L M Fp).p b → w0.heap.size ≤ b ∨ Fp b := by
  rintro b ⟨o, ob, ho, hl, hb⟩
  exact h.old o ob b ho hl hb
 refine ⟨k.objs, k.dom, k.dis, k.own, fun o ob b ho hl hb => ?_, k.flt, fun b off hb => k.rdA b off (h.rdA b off hb), k.lt, fun b off hb => ?_, k.glob, k.os.trans h.os, k.tape.trans h.tape, k.output.trans h.output, Nat.le_trans h.size k.size, fun b hb hf => ?_, h.gt, k.pin⟩
 ·rcases k.old o ob b ho hl hb with h1 | h1
  ·exact .inl (Nat.le_trans h.size h1)
  ·exact hx b h1
 ·rcases k.okN b off hb with h1 | h1 | h1
  ·exact h.okN b off h1
  ·exact .inr (.inl (Nat.le_trans h.size h1))
  ·exact .inr (hx b h1)
 ·refine (k.frame b (Nat.lt_of_lt_of_le hb h.size) fun hq => ?_).trans (h.frame b hb hf)
  rcases hx b hq with h1 | h1
  ·omega
  ·exact hf h1
def NB (L : List (Obj G.S)) (M : Mem) (ok : Okc) (b : Nat) : Prop := (∀ (o : Nat) (ob : Obj G.S), L[o]? = some ob → ob.live → ¬ hasB M o b) ∧ ∀ off, ¬ ok b off
theorem NB.step (k : MI C w (fxU L M Fp) ok M' ok' L' w') {b : Nat} (hlt : b < w.heap.size) (h : NB L M ok b) : NB L' M' ok' b ∧ w'.heap[b]? = w.heap[b]? ∧ b < w'.heap.size := by
 have hx : ¬ (fxU L M Fp).p b := by
  rintro ⟨o, ob, ho, hl, hb⟩
  exact h.1 o ob ho hl hb
 refine ⟨⟨fun o ob ho hl hb => ?_, fun off hok => ?_⟩, k.frame b hlt hx, Nat.lt_of_lt_of_le hlt k.size⟩
 ·rcases k.old o ob b ho hl hb with h1 | h1
  ·omega
  ·exact hx h1
 ·rcases k.okN b off hok with h1 | h1 | h1
  ·exact h.2 off h1
  ·omega
  ·exact hx h1
def FNow (w0 w : World) (L : List (Obj G.S)) (M : Mem) (ok : Okc) (p : Flt G.S) (u : Value) : Prop :=
 ∃ a c us, u = .slice a p.xs.length c ∧ w.ownsRow 0 p.e (Ty.sz G p.ty) (.slice a p.xs.length c) p.xs.length us ∧ 0 < Ty.sz G p.ty ∧
  (∀ (i : Nat) (x : p.ty.den G.S) (j : Nat) (y : V G.S) (v : Value), p.xs[i]? = some x → (Ty.cells G p.ty x)[j]? = some y → us[i * Ty.sz G p.ty + j]? = some v → VR w ok M y v) ∧
  ∀ b, u.ownBlock = some b → w0.heap.size ≤ b ∧ b < w.heap.size ∧ NB L M ok b
theorem own_map (a : Option Addr) (n c : Nat) : (Value.slice a n c).ownBlock = a.map (·.block) := by cases a <;> rfl
theorem FNow.step (k : MI C w (fxU L M Fp) ok M' ok' L' w') (hex : Ex M ok w M' ok' w') {p : Flt G.S} {u : Value} (h : FNow w0 w L M ok p u) : FNow w0 w' L' M' ok' p u := by
 obtain ⟨a, c, us, rfl, h1, h2, h3, h4⟩ := h
 refine ⟨a, c, us, rfl, row_mono (fun b hb => ?_) h1, h2, fun i x j y v q1 q2 q3 => (h3 i x j y v q1 q2 q3).mono hex, fun b hb => ?_⟩
 ·obtain ⟨_, h5, h6⟩ := h4 b (by rw [own_map]; exact hb)
  exact (h6.step k h5).2.1
 ·obtain ⟨h7, h5, h6⟩ := h4 b hb
  obtain ⟨h8, _, h9⟩ := h6.step k h5
  exact ⟨h7, h9, h8⟩
theorem MI.adopt (h : MI C w0 Fp okA M ok L w) {p : Flt G.S} {u : Value} (hf : FNow w0 w L M ok p u) :
  ∃ x : MB, MI C w0 Fp okA (updM M L.length x) ok (L ++ [.arr p.e p.ty p.xs false]) w ∧ Ex M ok w (updM M L.length x) ok w ∧ VR (G := G) w ok (updM M L.length x) (.arr L.length) u ∧ x.blk = u.ownBlock := by
 obtain ⟨a, c, us, rfl, ho, hz, hel, hb⟩ := hf
 have he := h.ex_push (w' := w) (.arr a p.xs.length c p.e (Ty.sz G p.ty)) (fun _ _ => rfl)
 have hbk : (MB.arr a p.xs.length c p.e (Ty.sz G p.ty)).blk = (Value.slice a p.xs.length c).ownBlock := by rw [own_map]; rfl
 refine ⟨.arr a p.xs.length c p.e (Ty.sz G p.ty), ⟨fun o ob hob => ?_, fun o y ho => ?_, fun o1 o2 ob1 ob2 b h1 h2 l1 l2 b1 b2 => ?_, fun o ob b off hob hl hbb hok => ?_, fun o ob b hob hl hbb => ?_, fun o ob b hob hl hbb => ?_, h.rdA, h.lt, h.okN, h.glob, h.os, h.tape, h.output, h.size, h.frame, h.gt, fun i y hi => he.mem _ _ (h.pin i y hi)⟩, he, .arr _ a _ c _ _ (updM_same _ _ _), hbk⟩
 ·rcases snoc_split hob with ⟨h1, h2⟩ | ⟨rfl, rfl⟩
  ·exact (h.objs o ob h2).mono he (fun b hb => (updM_ft _ _ (by omega) b).2 hb) (fun _ _ => rfl)
  ·exact ⟨a, c, us, updM_same _ _ _, ho, hz, fun i x j y v h1 h2 h3 => (hel i x j y v h1 h2 h3).mono he⟩
 ·simp only [List.length_append, List.length_cons, List.length_nil]
  by_cases e : o = L.length
  ·omega
  ·rw [updM_ne _ _ e] at ho; have := h.dom o y ho; omega
 ·rcases snoc_split h1 with ⟨k1, k2⟩ | ⟨rfl, rfl⟩ <;> rcases snoc_split h2 with ⟨m1, m2⟩ | ⟨rfl, rfl⟩
  ·rw [hasB_ne _ _ _ (by omega)] at b1 b2
   exact h.dis o1 o2 ob1 ob2 b k2 m2 l1 l2 b1 b2
  ·rw [hasB_ne _ _ _ (by omega)] at b1
   rw [hasB_same, hbk] at b2
   exact ((hb b b2).2.2.1 o1 ob1 k2 l1 b1).elim
  ·rw [hasB_ne _ _ _ (by omega)] at b2
   rw [hasB_same, hbk] at b1
   exact ((hb b b1).2.2.1 o2 ob2 m2 l2 b2).elim
  ·rfl
 ·rcases snoc_split hob with ⟨k1, k2⟩ | ⟨rfl, rfl⟩
  ·rw [hasB_ne _ _ _ (by omega)] at hbb
   exact h.own o ob b off k2 hl hbb hok
  ·rw [hasB_same, hbk] at hbb
   exact ((hb b hbb).2.2.2 off hok).elim
 ·rcases snoc_split hob with ⟨k1, k2⟩ | ⟨rfl, rfl⟩
  ·rw [hasB_ne _ _ _ (by omega)] at hbb
   exact h.old o ob b k2 hl hbb
  ·rw [hasB_same, hbk] at hbb
   exact .inl (hb b hbb).1
 ·rcases snoc_split hob with ⟨k1, k2⟩ | ⟨rfl, rfl⟩
  ·rw [updM_ft _ _ (by omega)] at hbb
   exact h.flt o ob b k2 hl hbb
  ·simp [updM] at hbb
theorem FNow.adopt (x : MB) (hex : Ex M ok w (updM M L.length x) ok w) {p q : Flt G.S} {u : Value} (h : FNow w0 w L M ok q u) (hd : ∀ b, u.ownBlock = some b → x.blk ≠ some b) : FNow w0 w (L ++ [.arr p.e p.ty p.xs false]) (updM M L.length x) ok q u := by
 obtain ⟨a, c, us, rfl, h1, h2, h3, h4⟩ := h
 refine ⟨a, c, us, rfl, h1, h2, fun i x' j y v q1 q2 q3 => (h3 i x' j y v q1 q2 q3).mono hex, fun b hb => ?_⟩
 obtain ⟨h5, h6, h7⟩ := h4 b hb
 refine ⟨h5, h6, fun o ob hob hl hbb => ?_, h7.2⟩
 rcases snoc_split hob with ⟨k1, k2⟩ | ⟨rfl, rfl⟩
 ·rw [hasB_ne _ _ _ (by omega)] at hbb
  exact h7.1 o ob k2 hl hbb
 ·rw [hasB_same] at hbb
  exact hd b hb hbb
end
theorem mapO_imp {α β : Type} {f g : α → Option β} : ∀ {cs : List α} {ds : List β}, mapO f cs = some ds → (∀ c ∈ cs, ∀ d, f c = some d → g c = some d) → mapO g cs = some ds
 | [], ds, h, _ => h
 | c :: cs, ds, h, hi => by
  simp only [mapO] at h ⊢
  cases hc : f c with
  | none => rw [hc] at h; cases h
  | some d =>
   rw [hc] at h
   cases hr : mapO f cs with
   | none => rw [hr] at h; cases h
   | some e =>
    rw [hr] at h
    rw [hi c (by simp) d hc, mapO_imp hr (fun c' h' => hi c' (by simp [h']))]
    exact h
theorem mapO_mem {α β : Type} {f : α → Option β} : ∀ {cs : List α} {ds : List β}, mapO f cs = some ds → ∀ c ∈ cs, ∃ d, f c = some d
 | c :: cs, ds, h, x, hx => by
  simp only [mapO] at h
  cases hc : f c with
  | none => rw [hc] at h; cases h
  | some d =>
   rw [hc] at h
   cases hr : mapO f cs with
   | none => rw [hr] at h; cases h
   | some e =>
    cases hx with
    | head => exact ⟨d, hc⟩
    | tail _ hx => exact mapO_mem hr x hx
theorem catL_nil {α : Type} {f : α → List Nat} : ∀ {l : List α}, (∀ a ∈ l, f a = []) → catL f l = []
 | [], _ => rfl
 | a :: l, h => by
  simp only [catL, h a (by simp), List.nil_append]
  exact catL_nil fun b hb => h b (by simp [hb])
theorem snap_none : ∀ (n : Nat) (v v' : V G.S), snap [] n v = some v' → ∀ L : List (Obj G.S), snap L n v = some v' ∧ reach L n v = []
 | 0, v, v', h, _ => by simp [snap] at h
 | n + 1, v, v', h, L => by
  have lst : ∀ (cs ds : List (V G.S)), mapO (snap [] n) cs = some ds → mapO (snap L n) cs = some ds ∧ catL (reach L n) cs = [] := fun cs ds hm =>
   ⟨mapO_imp hm fun c _ d hd => (snap_none n c d hd L).1, catL_nil fun c hc => by
    obtain ⟨d, hd⟩ := mapO_mem hm c hc
    exact (snap_none n c d hd L).2⟩
  cases v with
  | arr o => simp [snap] at h
  | ref o off => simp [snap] at h
  | ag cs =>
   simp only [snap, Option.map_eq_some_iff] at h ⊢
   obtain ⟨ds, h1, h2⟩ := h
   exact ⟨⟨ds, (lst cs ds h1).1, h2⟩, (lst cs ds h1).2⟩
  | tup cs =>
   simp only [snap, Option.map_eq_some_iff] at h ⊢
   obtain ⟨ds, h1, h2⟩ := h
   exact ⟨⟨ds, (lst cs ds h1).1, h2⟩, (lst cs ds h1).2⟩
  | fn f cs =>
   simp only [snap, Option.map_eq_some_iff] at h ⊢
   obtain ⟨ds, h1, h2⟩ := h
   exact ⟨⟨ds, (lst cs ds h1).1, h2⟩, (lst cs ds h1).2⟩
  | pe => simp [snap] at h
  | un => simp [snap] at h
  | _ => exact ⟨h, rfl⟩
theorem dats_none {t : Ty} : ∀ {vs : List (V G.S)} {xs : List (t.den G.S)}, dats [] t vs = some xs → ∀ L : List (Obj G.S), dats L t vs = some xs ∧ reachs L vs = []
 | [], xs, h, _ => ⟨h, rfl⟩
 | v :: vs, xs, h, L => by
  simp only [dats] at h
  split at h
  ·rename_i x hx
   split at h
   ·rename_i l hl
    obtain ⟨h1, h2⟩ := dats_none hl L
    unfold dat at hx
    split at hx
    ·rename_i v' hs
     obtain ⟨h3, h4⟩ := snap_none 20 v v' hs L
     refine ⟨?_, ?_⟩
     ·simp only [dats, dat, h3, hx, h1]; exact h
     ·simp only [reachs, h4, h2, List.append_nil]
    ·cases hx
   ·cases h
  ·cases h
def FlOp (C : Cfg G) (o : Oper) (tm : List (V G.S)) (p : Flt G.S) : Prop :=
 ∀ (w0 : World) (Fp : Fx) (okA : Okc) (M : Mem) (ok : Okc) (L : List (Obj G.S)) (a : Act) (w : World), MI C w0 Fp okA M ok L w → TR w ok M tm a →
  ∃ val w', (execOp a.eval o).run C.P w = .ok (.value val) w' ∧ MI C w0 Fp okA M ok L w' ∧ Ex M ok w M ok w' ∧ FNow w0 w' L M ok p val ∧ (∀ b, val.ownBlock = some b → b = w.heap.size) ∧ MI C w (fxU L M Fp) ok M ok L w'
variable {Φ : FuncId → List Item → St G.S → Option (Ret G.S)} {f : FuncId} {r : Ret G.S}
theorem okF_nil (M : Mem) (ok : Okc) (L : List (Obj G.S)) : ∀ b off, okF M ok L [] b off → ok b off := by
 intro b off h
 rcases h with h | ⟨o, ob, h1, _⟩
 ·exact h
 ·simp at h1
theorem evFl_ok (hS : SigOk G) {o : Oper} {tm : List (V G.S)} {n0 i d : Nat} {k : TypeId → (ty : Ty) → List (ty.den G.S) → Tree G.S} (h : (evFl C o ⟨tm, [], n0⟩ k).run G Φ f = some r) :
  ∃ e ty xs, FlOp C o tm ⟨i, d, e, ty, xs⟩ ∧ (k e ty xs).run G Φ f = some r := by
 unfold evFl at h
 split at h
 ·rename_i t n ps hop
  split at h
  ·rename_i e he
   split at h
   ·rename_i ty sz hty hs
    split at h
    ·rename_i hc
     obtain ⟨rfl, hbig, hb, hps, hfl⟩ := hc
     split at h
     ·rename_i xs hxs
      refine ⟨e, ty, xs, fun w0 Fp okA M ok L a w hm ht => ?_, h⟩
      obtain ⟨hx1, hx2⟩ := dats_none hxs L
      obtain ⟨val, w', M', h1, h2, h3, h4, h5, cells, rfl⟩ := buildSlice_run0 (st := ⟨tm, L, n0⟩) hS hm ht (elemId_eq he) hs hbig hb hps hx1
      have grow : ∀ {w1 : World} {Fq : Fx} {okB : Okc}, MI C w1 Fq okB M ok L w → MI C w1 Fq okB M ok L (w.alloc (.cells cells e)) ∧ Ex M ok w M ok (w.alloc (.cells cells e)) := fun hq => by
       have := hq.grow (w' := w.alloc (.cells cells e)) (fun _ _ => False) rfl rfl rfl (by simp) (fun k hk => heap_push w _ k hk) (fun _ _ h => h.elim)
       have e1 : (fun b off => ok b off ∨ False) = ok := by funext b off; simp
       rw [e1] at this
       exact this
      have hidx : (freeze L (reachs L (ps.toList.map fun (_, x) => opd C (⟨tm, L, n0⟩ : St G.S) e x)) ++ [Obj.arr e ty xs false])[L.length]? = some (.arr e ty xs false) := by
       rw [List.getElem?_append_right (by rw [freeze_length]; exact Nat.le_refl _), freeze_length, Nat.sub_self]; rfl
      obtain ⟨a1, c1, us, g1, g2, g3, g4⟩ := h2.objs _ _ hidx
      have hval : val = .slice a1 xs.length c1 := by
       cases h4 with
       | arr o a n c e sz hq =>
        have hq : M' L.length = _ := hq
        rw [g1] at hq
        cases hq
        rfl
      have hblk : ∀ b, val.ownBlock = some b → b = w.heap.size := fun b hbb => by
       refine h5 b (.inl ?_)
       show (M' L.length).bind MB.blk = some b
       rw [g1, ← hbb, hval, own_map]; rfl
      refine ⟨val, w.alloc (.cells cells e), by simp only [execOp, hop]; exact run_v h1, (grow hm).1, (grow hm).2, ⟨a1, c1, us, hval, g2, g3, fun i x j y v q1 q2 q3 => ?_, fun b hbb => ?_⟩, hblk, (grow hm.rebase).1⟩
      ·have hy : VR _ (okF M ok L (reachs L (ps.toList.map fun (_, x) => opd C (⟨tm, L, n0⟩ : St G.S) e x))) M' y v := g4 i x j y v q1 q2 q3
       rw [show reachs L (ps.toList.map fun (_, x) => opd C (⟨tm, L, n0⟩ : St G.S) e x) = [] from hx2] at hy
       exact (hy.anyM hS M 20 (scal_clo (List.all_eq_true.1 (cells_scal hS hfl x) y (List.mem_of_getElem? q2)))).mono ⟨fun _ _ h => h, fun b off u hb hc => ⟨okF_nil M ok L b off hb, hc⟩⟩
      ·have := hblk b hbb
       subst this
       refine ⟨hm.size, by simp, fun o ob ho hl hbb => ?_, fun off hok => ?_⟩
       ·have := hm.blk_lt ho hl hbb; omega
       ·have := hm.lt _ off hok; omega
     ·exact run_fail h
    ·exact run_fail h
   ·exact run_fail h
  ·exact run_fail h
 ·exact run_fail h
end
end Go.Dv

namespace Go.Dv
open Go
theorem pureR_pure {G : Sig} {C : Cfg G} {ops : Array Oper} {o : Oper} (h : pureR C ops o = true) : pureOp o = true := by
 unfold pureR at h; rw [Bool.and_eq_true] at h; exact h.1
section
variable {G : Sig} {C : Cfg G} {Φ : FuncId → List Item → St G.S → Option (Ret G.S)} {f : FuncId} {r : Ret G.S}
def Eqv (u v : V G.S) : Prop := ∀ (w : World) (ok : Okc) (M : Mem) (val : Value), VR w ok M u val ↔ VR w ok M v val
theorem Eqv.refl (u : V G.S) : Eqv u u := fun _ _ _ _ => Iff.rfl
theorem Eqv.trans {u v x : V G.S} (h : Eqv u v) (k : Eqv v x) : Eqv u x := fun w ok M val => (h w ok M val).trans (k w ok M val)
theorem Eqv.lb (b : Bool) : Eqv (G := G) (.lb b) (.bool b) := fun w ok M val => ⟨fun h => by cases h; exact .bool _, fun h => by cases h; exact .lb _⟩
theorem get_put (st : St G.S) (d : Nat) (v : V G.S) (t : Nat) : (st.put (some d) v).get t = if d = t ∧ t < st.tm.length then v else st.get t := by
 simp only [St.put, St.get, List.getD_eq_getElem?_getD]
 rw [List.getElem?_set]
 by_cases e : d = t
 ·subst e
  by_cases hl : d < st.tm.length
  ·simp [hl]
  ·simp [hl]
 ·simp [e]
theorem guard_draw {ops : Array Oper} {o : Oper} {st : St G.S} {k : Bool → St G.S → Tree G.S} (h : (guardT ops o st k).run G Φ f = some r) :
  ∃ b cur, cur.L = st.L ∧ cur.n0 = st.n0 ∧ cur.tm.length = st.tm.length ∧ (∀ t, Eqv (cur.get t) (st.get t)) ∧
   (∀ (w : World) (ok : Okc) (M : Mem) (a : Act), (∀ t ∈ o.looksAt ops, VR w ok M (cur.get t) (a.tmps.getD t undef)) → Region.wanted o (yielded ops a.tmps) = b) ∧ (k b cur).run G Φ f = some r := by
 unfold guardT at h
 split at h
 ·rename_i hg
  exact ⟨true, st, rfl, rfl, rfl, fun t => .refl _, fun w ok M a ht => by simp [Region.wanted, hg], h⟩
 ·rename_i j want hg
  split at h
  ·rename_i d hd
   have hlook : d ∈ o.looksAt ops := by simp [Oper.looksAt, hg, hd]
   have yes : ∀ (b : Bool) (a : Act), a.tmps.getD d undef = .bool b → Region.wanted o (yielded ops a.tmps) = (b == want) := by
    intro b a h7
    have h8 : a.tmps[d]? = some (.bool b) := by
     rw [Array.getD_eq_getD_getElem?] at h7
     cases hq : a.tmps[d]? with
     | none => rw [hq] at h7; simp [undef] at h7
     | some x => rw [hq] at h7; simp at h7; rw [h7]
    simp only [Region.wanted, hg, yielded, hd, Option.bind_some, h8]
    cases b <;> cases want <;> rfl
   split at h
   ·rename_i hu
    refine ⟨false, st, rfl, rfl, rfl, fun t => .refl _, fun w ok M a ht => ?_, h⟩
    have h7 := ht d hlook
    rw [hu] at h7
    have h8 : ∀ b, a.tmps[d]? ≠ some (.bool b) := by
     intro b hb
     rw [Array.getD_eq_getD_getElem?, hb] at h7
     cases h7
    simp only [Region.wanted, hg, yielded, hd, Option.bind_some]
    cases hq : a.tmps[d]? with
    | none => cases want <;> rfl
    | some x =>
     cases x with
     | bool b => exact (h8 b hq).elim
     | _ => cases want <;> rfl
   ·unfold part at h
    split at h
    ·rename_i b hb
     refine ⟨b == want, st, rfl, rfl, rfl, fun t => .refl _, fun w ok M a ht => yes b a ?_, h⟩
     have := ht d hlook
     rw [hb] at this
     generalize a.tmps.getD d undef = u at this
     cases this; rfl
    ·rename_i b hb
     simp only [putF_eq] at h
     have key : ∀ b', b = b' → (∀ t, Eqv ((st.put (some d) (.lb b')).get t) (st.get t)) ∧ (∀ (w : World) (ok : Okc) (M : Mem) (a : Act), (∀ t ∈ o.looksAt ops, VR w ok M ((st.put (some d) (.lb b')).get t) (a.tmps.getD t undef)) → Region.wanted o (yielded ops a.tmps) = (b' == want)) := by
      intro b' hbb
      subst hbb
      have eqv : ∀ t, Eqv ((st.put (some d) (.lb b)).get t) (st.get t) := by
       intro t
       rw [get_put]
       split
       ·rename_i hc
        rw [← hc.1, hb]
        exact .lb b
       ·exact .refl _
      refine ⟨eqv, fun w ok M a ht => yes b a ?_⟩
      have := (eqv d w ok M _).1 (ht d hlook)
      rw [hb] at this
      generalize a.tmps.getD d undef = u at this
      cases this; rfl
     rcases run_br h with ⟨hb', h'⟩ | ⟨hb', h'⟩
     ·obtain ⟨k1, k2⟩ := key true hb'
      exact ⟨true == want, st.put (some d) (.lb true), rfl, rfl, by simp [St.put], k1, k2, h'⟩
     ·obtain ⟨k1, k2⟩ := key false hb'
      exact ⟨false == want, st.put (some d) (.lb false), rfl, rfl, by simp [St.put], k1, k2, h'⟩
    ·exact run_fail h
  ·exact run_fail h
theorem opds_L (st : St G.S) (L : List (Obj G.S)) : ∀ (ts : List TypeId) (xs : List Operand), opds C (⟨st.tm, L, st.n0⟩ : St G.S) ts xs = opds C st ts xs
 | [], [] => rfl
 | t :: ts, x :: xs => by simp only [opds, opd_L, opds_L st L ts xs]
 | [], _ :: _ => rfl
 | _ :: _, [] => rfl
def OpSoft (C : Cfg G) (o : Oper) (st : St G.S) (bx : Nat) (ob : Obj G.S) (v : V G.S) : Prop :=
 ∀ (w0 : World) (Fp : Fx) (okA : Okc) (M : Mem) (ok : Okc) (L : List (Obj G.S)) (a : Act) (w : World), L[bx]? = some ob → MI C w0 Fp okA M ok L w → TR w ok M st.tm a →
  ∃ val, (execOp a.eval o).run C.P w = .ok (.value val) w ∧ VR w ok M v val
theorem evSoft_ok (hS : SigOk G) {o : Oper} {st : St G.S} {b : Nat} (hi : softB C o st b = true) {k : V G.S → Tree G.S} (h : (evOp C o st fun v _ _ _ => k v).run G Φ f = some r) : ∃ v ob, st.L[b]? = some ob ∧ OpSoft C o st b ob v ∧ (k v).run G Φ f = some r := by
 cases hop : o.op
 all_goals first
  | (simp [softB, hop] at hi; done)
  | skip
 case load =>
  rename_i t x
  simp only [softB, hop] at hi
  split at hi
  ·rename_i b' off hx
   simp only [Bool.and_eq_true_iff, beq_iff_eq] at hi
   obtain ⟨rfl, hi⟩ := hi
   split at hi
   ·rename_i te cs fz hL
    simp only [evOp, hop, hx, loadT, hL] at h
    split at h
    ·rename_i v hp
     refine ⟨v, _, hL, fun w0 Fp okA M ok L a w hLb hm ht => ?_, h⟩
     have hr : (loadT C t (.ref b' off) (⟨st.tm, L, st.n0⟩ : St G.S) (fun v _ _ _ => .ret (v, []))).run G Φ f = some (v, []) := by simp only [loadT, hLb, hp, Tree.run]
     obtain ⟨v2, rd, wr, h1, h2⟩ := loadT_run hS (fun _ _ _ e => by cases e) hr
     simp only [Tree.run, Option.some.injEq, Prod.mk.injEq] at h2
     obtain ⟨rfl, _⟩ := h2
     have hv := opd_okL (C := C) hm ht 0 x
     rw [hx] at hv
     obtain ⟨val, h3, h4⟩ := h1 w0 Fp okA M ok w _ hm hv
     exact ⟨val, by simp [execOp, hop, h3], h4⟩
    ·exact run_fail h
   ·cases hi
  ·cases hi
 case call =>
  rename_i c
  simp only [softB, hop] at hi
  split at hi
  ·rename_i hco
   split at hi
   ·rename_i b' hvs
    simp only [Bool.and_eq_true_iff, beq_iff_eq] at hi
    obtain ⟨rfl, hi⟩ := hi
    split at hi
    ·rename_i ob hL
     simp only [evOp, hop, hco, hvs, builtinT] at h
     split at h
     ·rename_i n h1 h2
      refine ⟨_, ob, hL, fun w0 Fp okA M ok L a w hLb hm ht => ?_, h⟩
      have hvs' : opds C (⟨st.tm, L, st.n0⟩ : St G.S) c.argTypes.toList c.args.toList = some [.arr b'] := by rw [← hvs]; exact opds_L _ _ _ _
      have hv := opds_ok (st := (⟨st.tm, L, st.n0⟩ : St G.S)) hm ht _ _ _ hvs'
      have h2' : lenV (.arr b' : V G.S) L = some n := by
       simp only [lenV, hL] at h2
       simp only [lenV, hLb]
       exact h2
      obtain ⟨vx, l', hl0, hx, hl⟩ := hv.inv
      have hl1 : l' = [] := List.eq_nil_of_length_eq_zero hl.1.symm
      have h5 := lenV_run (ty := o.type) hS h1 h2' hm hx
      refine ⟨.int .i64 n, ?_, .int _ _⟩
      have h6 : (builtin .len c.argTypes.toList.toArray o.type (c.args.map fun | .const _ => true | _ => false) (c.args.toList.map a.eval).toArray).run C.P w = .ok (.value (.int .i64 n)) w := by
       rw [hl0, hl1]; simp [builtin, h5]
      rw [Array.toArray_toList, ← Array.toList_map, Array.toArray_toList] at h6
      simp only [execOp, hop, resolve, hco]
      simp [invoke]
      exact h6
     ·exact run_fail h
    ·cases hi
   ·cases hi
  ·cases hi
theorem soft_flo {ops : Array Oper} {bf : List (List Nat)} {pu : List Nat} {i : Nat} {o : Oper} {st : St G.S} {b : Nat} (h : softB C o st b = true) : floB C ops bf pu i o = false := by
 unfold softB at h
 split at h
 ·rename_i t a hop
  simp [floB, lax, isLit, hop]
 ·rename_i c hop
  simp [floB, lax, isLit, hop]
 ·cases h
def OpFree (C : Cfg G) (o : Oper) (st : St G.S) (v : V G.S) : Prop := ∀ L : List (Obj G.S), OpOK C o ⟨st.tm, L, st.n0⟩ v ⟨st.tm, L, st.n0⟩
theorem OpPure.free {o : Oper} {st : St G.S} {v : V G.S} (h : OpPure C o st v) : OpFree C o st v := fun L => .pure fun w0 Fp okA M ok a w hm ht => h w0 Fp okA M ok L a w hm ht
theorem snaps_none : ∀ {vs us : List (V G.S)}, snaps [] vs = some us → ∀ L : List (Obj G.S), snaps L vs = some us ∧ reachs L vs = []
 | [], us, h, L => ⟨h, rfl⟩
 | v :: vs, us, h, L => by
  simp only [snaps] at h
  split at h
  ·rename_i a b ha hb
   cases h
   obtain ⟨h1, h2⟩ := snap_none 20 v a ha L
   obtain ⟨h3, h4⟩ := snaps_none hb L
   exact ⟨by simp only [snaps, h1, h3], by simp only [reachs, h2, h4, List.append_nil]⟩
  ·cases h
theorem callP_free {g : FuncId} {args : List (V G.S)} {st : St G.S} {k : V G.S → Tree G.S} (h : (callP C g args st fun v _ _ _ => k v).run G Φ f = some r) {us : List (V G.S)} (hs0 : snaps [] args = some us) :
  ∃ v, (k v).run G Φ f = some r ∧ ∀ L : List (Obj G.S), (callP C g args ⟨st.tm, L, st.n0⟩ fun v st' _ _ => .ret (v, st'.L)).run G Φ f = some (v, L) := by
 unfold callP at h
 split at h
 ·exact run_fail h
 ·rename_i fn hf
  split at h
  ·rename_i rt body hrt hb
   split at h
   ·rename_i hc
    split at h
    ·rename_i vs hs
     rw [(snaps_none hs0 st.L).1] at hs
     have hs2 : ∀ L : List (Obj G.S), (snaps L args).bind (normA fn.params.toList) = some vs := fun L => by rw [(snaps_none hs0 L).1]; exact hs
     have back : ∀ (p : rDen G.S rt), (backT rt (reachs st.L args) p st fun v _ _ _ => k v).run G Φ f = some r → (k (injR G rt p)).run G Φ f = some r ∧ ∀ L : List (Obj G.S), (backT rt (reachs L args) p ⟨st.tm, L, st.n0⟩ fun v st' _ _ => .ret (v, st'.L)).run G Φ f = some (injR G rt p, L) := by
      intro p hp
      refine ⟨?_, fun L => ?_⟩
      ·unfold backT at hp
       split at hp <;> exact hp
      ·unfold backT
       rw [(snaps_none hs0 L).2]
       split
       ·rfl
       ·simp only [Tree.run, freeze_nil]
     split at h
     ·rename_i hcl
      split at h
      ·rename_i rt2 gx hx
       split at h
       ·rename_i hrt2
        subst hrt2
        rw [forceL_eq] at h
        obtain ⟨p, hg, h⟩ := run_bnd h
        obtain ⟨h1, h2⟩ := back p h
        refine ⟨_, h1, fun L => ?_⟩
        unfold callP
        simp only [hf, hrt, hb, hc, hs2 L, hcl, hx, and_self, if_true, dif_pos, forceL_eq, Tree.run]
        rw [show gx vs = some p from hg]
        exact h2 L
       ·exact run_fail h
      ·rename_i hx
       rw [forceL_eq] at h
       obtain ⟨ret, p, hphi, hp, h⟩ := run_call h
       obtain ⟨h1, h2⟩ := back p h
       refine ⟨_, h1, fun L => ?_⟩
       unfold callP
       simp only [hf, hrt, hb, hc, hs2 L, hcl, hx, and_self, if_true, forceL_eq, Tree.run]
       rw [hphi, Option.bind_some, hp]
       exact h2 L
     ·exact run_fail h
    ·exact run_fail h
   ·exact run_fail h
  ·exact run_fail h
theorem callT_free {g : FuncId} (hc : callFree C g = true) (args : List (V G.S)) (st : St G.S) (k : K G) : callT C g args st k = callP C g args st k := by
 unfold callFree at hc
 simp only [Bool.and_eq_true, Option.isNone_iff_eq_none, Bool.not_eq_true'] at hc
 obtain ⟨⟨⟨⟨⟨⟨⟨⟨⟨⟨h1, h2⟩, h3⟩, h4⟩, h5⟩, h6⟩, h7⟩, h8⟩, h9⟩, h10⟩, h11⟩ := hc
 unfold callT
 simp only [h1, h2, h3, h4, h5, h6, h7, h8, h9, h10, h11, Bool.false_eq_true, if_false]
theorem evFree_ok (hS : SigOk G) (hΦ : PhiOK C Φ) (hE : ExtOK C) {o : Oper} {st : St G.S} (hnl : isLit o = false) (hi : freeB C o st = true) {k : V G.S → Tree G.S} (h : (evOp C o st fun v _ _ _ => k v).run G Φ f = some r) : ∃ v, OpFree C o st v ∧ (k v).run G Φ f = some r := by
 cases hop : o.op
 all_goals first
  | (simp [isLit, hop] at hnl; done)
  | (simp [freeB, hop] at hi; done)
  | skip
 rename_i c
 simp only [freeB, hop] at hi
 split at hi
 ·rename_i fo hco
  split at hi
  ·rename_i vs g caps hvs hg
   simp only [Bool.and_eq_true, Option.isSome_iff_exists] at hi
   obtain ⟨⟨hlt, hcf⟩, us, hus⟩ := hi
   simp only [evOp, hop, hco, hvs, hg, hlt, if_true] at h
   rw [callT_free hcf] at h
   obtain ⟨v, h1, h2⟩ := callP_free h hus
   refine ⟨v, fun L => ?_, h1⟩
   have hr : (evOp C o (⟨st.tm, L, st.n0⟩ : St G.S) fun v st' _ _ => .ret (v, st'.L)).run G Φ f = some (v, L) := by
    simp only [evOp, hop, hco, opds_L, opd_L, hvs, hg, hlt, if_true]
    rw [callT_free hcf]
    exact h2 L
   obtain ⟨v2, st2, rd, wr, ⟨⟨q1, q2, q3⟩, _⟩, h4⟩ := evOp_ok hS hΦ hE hr
   simp only [Tree.run, Option.some.injEq, Prod.mk.injEq] at h4
   obtain ⟨rfl, hL⟩ := h4
   have e : st2 = ⟨st.tm, L, st.n0⟩ := by
    cases st2
    simp only at q1 q2 hL
    subst q1; subst q2; subst hL; rfl
   subst e
   exact ⟨rfl, rfl, q3⟩
  ·cases hi
 ·cases hi
structure StepF (C : Cfg G) (ops : Array Oper) (bf : List (List Nat)) (pu : List Nat) (sf : List (Nat × Nat)) (i : Nat) (o : Oper) (st cur : St G.S) (b : Bool) (v : V G.S) (cg : Bool) (fl : Nat → Option (Flt G.S)) (ad : Nat → Option Nat) (st2 : St G.S) : Prop where
 curL : cur.L = st.L
 len : cur.tm.length = st.tm.length
 eqv : ∀ t, Eqv (cur.get t) (st.get t)
 want : ∀ (w : World) (ok : Okc) (M : Mem) (a : Act), (∀ t ∈ o.looksAt ops, VR w ok M (cur.get t) (a.tmps.getD t undef)) → Region.wanted o (yielded ops a.tmps) = b
 fix : cg = true → (∀ (j : Nat) (p : Oper), ops[j]? = some p → j ≠ i → (pureR C ops p || pu.contains j) = false → ltB bf i j = true ∨ ltB bf j i = true ∨ floB C ops bf pu j p = true ∨ ∃ b, sf.lookup j = some b ∧ st2.L[b]? = st.L[b]?) ∧ (pureR C ops o || pu.contains i) = false ∧ sf.lookup i = none ∧ floB C ops bf pu i o = false
 stp : (b = false ∧ v = .tup [] ∧ cg = false ∧ fl i = none ∧ ad i = none) ∨ (b = true ∧ cg = false ∧ fl i = none ∧ ad i = none ∧ (pureR C ops o || pu.contains i) = false ∧ floB C ops bf pu i o = false ∧ ∃ bx ob, sf.lookup i = some bx ∧ cur.L[bx]? = some ob ∧ OpSoft C o ⟨maskTm (o.looksAt ops) 0 cur.tm, cur.L, cur.n0⟩ bx ob v) ∨ (b = true ∧ (pureR C ops o || pu.contains i) = true ∧ cg = false ∧ fl i = none ∧ ad i = none ∧ OpFree C o ⟨maskTm (o.looksAt ops) 0 cur.tm, cur.L, cur.n0⟩ v) ∨
  (b = true ∧ (pureR C ops o || pu.contains i) = false ∧ sf.lookup i = none ∧ floB C ops bf pu i o = false ∧ fl i = none ∧ ad i = none ∧ ∃ st1, OpOK C o ⟨maskTm (o.looksAt ops) 0 cur.tm, cur.L, cur.n0⟩ v st1 ∧ st1.L = st2.L) ∨
  (b = true ∧ (pureR C ops o || pu.contains i) = false ∧ sf.lookup i = none ∧ cg = false ∧ v = .un ∧ ad i = none ∧ ∃ p, fl i = some p ∧ o.dst = some p.d ∧ p.d < cur.tm.length ∧ FlOp C o (maskTm (o.looksAt ops) 0 cur.tm) p) ∨
  (b = true ∧ (pureR C ops o || pu.contains i) = false ∧ sf.lookup i = none ∧ floB C ops bf pu i o = false ∧ cg = true ∧ fl i = none ∧ ∃ i' p st1, ad i = some i' ∧ i' < i ∧ fl i' = some p ∧ p.d ∈ o.looksAt ops ∧ OpOK C o ⟨(maskTm (o.looksAt ops) 0 cur.tm).set p.d (.arr cur.L.length), cur.L ++ [.arr p.e p.ty p.xs false], cur.n0⟩ v st1 ∧ st1.L = st2.L)
 keep : cg = false → st2.L = st.L
 n0 : st2.n0 = st.n0
 tm : st2.tm = (cur.put o.dst v).tm
theorem StepF.congr {ops : Array Oper} {bf : List (List Nat)} {pu : List Nat} {sf : List (Nat × Nat)} {i : Nat} {o : Oper} {st cur : St G.S} {b : Bool} {v : V G.S} {cg : Bool} {fl fl' : Nat → Option (Flt G.S)} {ad ad' : Nat → Option Nat} {st2 : St G.S} (h : StepF C ops bf pu sf i o st cur b v cg fl ad st2)
  (e1 : fl' i = fl i) (e2 : ad' i = ad i) (e3 : ∀ i', ad i = some i' → fl' i' = fl i') : StepF C ops bf pu sf i o st cur b v cg fl' ad' st2 := by
 refine ⟨h.curL, h.len, h.eqv, h.want, h.fix, ?_, h.keep, h.n0, h.tm⟩
 rw [e1, e2]
 rcases h.stp with h1 | h1 | h1 | h1 | h1 | ⟨h1, h2, h3, h4, h5, h6, i', p, st1, h7, h8, h9, h10, h11⟩
 ·exact .inl h1
 ·exact .inr (.inl h1)
 ·exact .inr (.inr (.inl h1))
 ·exact .inr (.inr (.inr (.inl h1)))
 ·exact .inr (.inr (.inr (.inr (.inl h1))))
 ·exact .inr (.inr (.inr (.inr (.inr ⟨h1, h2, h3, h4, h5, h6, i', p, st1, h7, h8, (e3 i' h7).trans h9, h10, h11⟩))))
theorem pw_eq : ∀ {fs : List (Flt G.S)} {p q : Flt G.S}, fs.Pairwise (fun p q => p.i ≠ q.i) → p ∈ fs → q ∈ fs → p.i = q.i → p = q
 | x :: fs, p, q, hpw, hp, hq, e => by
  rw [List.pairwise_cons] at hpw
  cases hp with
  | head =>
   cases hq with
   | head => rfl
   | tail _ hq => exact (hpw.1 q hq e).elim
  | tail _ hp =>
   cases hq with
   | head => exact (hpw.1 p hp e.symm).elim
   | tail _ hq => exact pw_eq hpw.2 hp hq e
structure FlAd (fs : List (Flt G.S)) (i : Nat) (fl : Nat → Option (Flt G.S)) (ad : Nat → Option Nat) : Prop where
 q1 : ∀ p ∈ fs, fl p.i = some p
 q2 : ∀ j, j < i → (∀ p ∈ fs, p.i ≠ j) → fl j = none
 q3 : ∀ j, j < i → ad j = none
 q4 : ∀ j i', ad j = some i' → i ≤ i' ∨ ∃ p ∈ fs, p.i = i'
 q5 : ∀ j j' i', ad j = some i' → ad j' = some i' → j = j'
theorem evIm_ok (hS : SigOk G) {o : Oper} {st : St G.S} {k : K G} (h : (evIm C o st k).run G Φ f = some r) : ∃ v, OpOK C o st v st ∧ (k v st [] []).run G Φ f = some r := by
 unfold evIm at h
 split at h
 ·rename_i t n ps hop
  split at h
  ·rename_i e he
   split at h
   ·rename_i ty sz hty hs
    split at h
    ·rename_i hc
     obtain ⟨rfl, hbig, hb, hps, hfl⟩ := hc
     simp only at h
     split at h
     ·rename_i xs hxs
      split at h
      ·rename_i hre
       refine ⟨_, .val rfl rfl fun w0 Fp okA M ok a w hm ht => ?_, h⟩
       obtain ⟨val, w', M', h1, h2, h3, h4, h5, cells, rfl⟩ := buildSlice_run0 hS hm ht (elemId_eq he) hs hbig hb hps hxs
       obtain ⟨hm2, he2⟩ := hm.grow (w' := w.alloc (.cells cells e)) (fun b off => b = w.heap.size) rfl rfl rfl (by simp) (fun k hk => heap_push w _ k hk) (fun b off hb => by subst hb; simp)
       refine ⟨val, _, M, _, by simp only [execOp, hop]; exact run_v h1, hm2, he2, ?_⟩
       have hidx : (freeze st.L (reachs st.L (ps.toList.map fun (_, x) => opd C st e x)) ++ [Obj.arr e ty xs false])[st.L.length]? = some (.arr e ty xs false) := by
        rw [List.getElem?_append_right (by rw [freeze_length]; exact Nat.le_refl _), freeze_length, Nat.sub_self]; rfl
       have hsl := arr_sl hS h2 hidx h4 (os := [st.L.length]) (by simp)
       have hnp : (V.sl (S := G.S) ty xs).scal = true := hfl
       refine (hsl.anyS hS M hnp).mono ⟨fun _ _ h => h, fun b off u hk hcell => ⟨?_, hcell⟩⟩
       rcases hk with (hk | ⟨o1, ob1, p1, _⟩) | ⟨o1, ob1, p1, p2, p3, p4, _⟩
       ·exact .inl hk
       ·rw [hre] at p1; simp at p1
       ·have : o1 = st.L.length := by simpa using p1
        subst this
        exact .inr (h5 _ p4)
      ·exact run_fail h
     ·exact run_fail h
    ·exact run_fail h
   ·exact run_fail h
  ·exact run_fail h
 ·exact run_fail h
theorem lit_not_imm {o : Oper} {st : St G.S} (h : isLit o = true) : immB C o st = false := by
 unfold isLit at h
 split at h
 ·rename_i hop; simp [immB, hop]
 ·cases h
theorem evImFree_ok (hS : SigOk G) {o : Oper} {st : St G.S} (hl : isLit o = true) (hi : freeB C o st = true) {k : V G.S → Tree G.S} (h : (evIm C o st fun v _ _ _ => k v).run G Φ f = some r) : ∃ v, OpFree C o st v ∧ (k v).run G Φ f = some r := by
 have h0 := h
 unfold evIm at h
 split at h
 ·rename_i t n ps hop
  simp only [freeB, hop] at hi
  split at h
  ·rename_i e he
   rw [he] at hi
   simp only at hi
   split at h
   ·rename_i ty sz hty hs
    rw [hty] at hi
    simp only [Option.isSome_iff_exists] at hi
    obtain ⟨xs0, hx0⟩ := hi
    split at h
    ·rename_i hc
     simp only at h
     obtain ⟨hxL, hrL⟩ := dats_none hx0 st.L
     rw [hxL] at h
     simp only [hrL, if_true] at h
     refine ⟨_, fun L => ?_, h⟩
     obtain ⟨gx, gr⟩ := dats_none hx0 L
     have hr : (evIm C o (⟨st.tm, L, st.n0⟩ : St G.S) fun v st' _ _ => .ret (v, st'.L)).run G Φ f = some (V.sl ty xs0, L) := by
      unfold evIm
      simp only [hop, he, hty, hs]
      rw [if_pos hc]
      have gx' : dats L ty (ps.toList.map fun (_, x) => opd C (⟨st.tm, L, st.n0⟩ : St G.S) e x) = some xs0 := gx
      have gr' : reachs L (ps.toList.map fun (_, x) => opd C (⟨st.tm, L, st.n0⟩ : St G.S) e x) = [] := gr
      simp only [gx', gr', if_true]
      rfl
     obtain ⟨v2, g1, g2⟩ := evIm_ok hS hr
     simp only [Tree.run, Option.some.injEq, Prod.mk.injEq] at g2
     obtain ⟨rfl, _⟩ := g2
     exact g1
    ·exact run_fail h
   ·exact run_fail h
  ·exact run_fail h
 ·exact run_fail h
theorem put_L (st : St G.S) (d : Option Nat) (v : V G.S) : (st.put d v).L = st.L := by cases d <;> rfl
theorem put_n0 (st : St G.S) (d : Option Nat) (v : V G.S) : (st.put d v).n0 = st.n0 := by cases d <;> rfl
theorem put_tm (st : St G.S) (L : List (Obj G.S)) (n : Nat) (d : Option Nat) (v : V G.S) : ((⟨st.tm, L, n⟩ : St G.S).put d v).tm = (st.put d v).tm := by cases d <;> rfl
theorem fixedS_spec {ops : Array Oper} {bf : List (List Nat)} {pu : List Nat} {sf : List (Nat × Nat)} {i n : Nat} {o : Oper} {wr : List Nat} (h : fixedS C ops bf pu sf i o n wr = true) : ∀ (j : Nat) (p : Oper), ops[j]? = some p → j ≠ i → (pureR C ops p || pu.contains j) = false →
  ltB bf i j = true ∨ ltB bf j i = true ∨ floB C ops bf pu j p = true ∨ (isCallV o = true ∧ ∃ b, sf.lookup j = some b ∧ b ∉ wr ∧ b < n) := by
 unfold fixedS at h
 rw [List.all_eq_true] at h
 intro j p hj hne hp
 have h2 : (p, j) ∈ ops.toList.zipIdx := by
  rw [List.mem_zipIdx_iff_getElem?]; simpa using hj
 have := h _ h2
 simp only [hp, Bool.or_false] at this
 simp only [Bool.or_eq_true, beq_iff_eq] at this
 rcases this with (((h3 | h3) | h3) | h3) | h3
 ·exact (hne h3).elim
 ·exact .inl h3
 ·exact .inr (.inl h3)
 ·exact .inr (.inr (.inl h3))
 ·rw [Bool.and_eq_true_iff] at h3
  obtain ⟨h4, h5⟩ := h3
  split at h5
  ·rename_i b hb
   simp only [Bool.and_eq_true_iff, Bool.not_eq_true', decide_eq_true_eq] at h5
   exact .inr (.inr (.inr ⟨h4, b, hb, by simpa using h5.1, h5.2⟩))
  ·cases h5
theorem evDraw_fun (hS : SigOk G) (hΦ : PhiOK C Φ) (hE : ExtOK C) {ops : Array Oper} {bf : List (List Nat)} {pu : List Nat} {sf : List (Nat × Nat)} : ∀ (l : List Oper) (fs : List (Flt G.S)) (i : Nat) (st : St G.S) (k : St G.S → Tree G.S), (∀ p ∈ fs, p.i < i) → fs.Pairwise (fun p q => p.i ≠ q.i) → (evDraw C ops bf pu sf fs l i st k).run G Φ f = some r →
    ∃ (sts curs : Nat → St G.S) (bs : Nat → Bool) (vs : Nat → V G.S) (cg : Nat → Bool) (fl : Nat → Option (Flt G.S)) (ad : Nat → Option Nat), sts i = st ∧ (k (sts (i + l.length))).run G Φ f = some r ∧ FlAd fs i fl ad ∧
      ∀ j o, l[j]? = some o → StepF C ops bf pu sf (i + j) o (sts (i + j)) (curs (i + j)) (bs (i + j)) (vs (i + j)) (cg (i + j)) fl ad (sts (i + j + 1))
  | [], fs, i, st, k, hlt, hpw, h => by
    refine ⟨fun _ => st, fun _ => st, fun _ => true, fun _ => .un, fun _ => false, fun j => fs.find? fun p => p.i == j, fun _ => none, rfl, by unfold evDraw at h; exact h, ⟨fun p hp => ?_, fun j _ hj => ?_, fun _ _ => rfl, fun j i' h => (by cases h), fun j j' i' h => (by cases h)⟩, fun j o hj => by simp at hj⟩
    · cases hq : fs.find? (fun q => q.i == p.i) with
      | none =>
        rw [List.find?_eq_none] at hq
        have := hq p hp
        simp at this
      | some q =>
        have h1 := List.mem_of_find?_eq_some hq
        have h2 : q.i = p.i := by simpa using List.find?_some hq
        exact congrArg some (pw_eq hpw h1 hp h2)
    · rw [List.find?_eq_none]
      intro p hp
      simpa using hj p hp
  | o :: rest, fs, i, st, k, hlt, hpw, h => by
    unfold evDraw at h
    obtain ⟨b, cur, g1, g2, g3, g4, g5, h⟩ := guard_draw h
    have glue : ∀ (v : V G.S) (c : Bool) (st2 : St G.S) (sts curs : Nat → St G.S) (bs : Nat → Bool) (vs : Nat → V G.S) (cg : Nat → Bool) (fl : Nat → Option (Flt G.S)) (ad : Nat → Option Nat), sts (i + 1) = st2 → (k (sts (i + 1 + rest.length))).run G Φ f = some r → FlAd fs i fl ad →
        StepF C ops bf pu sf i o st cur b v c fl ad st2 → (∀ j o, rest[j]? = some o → StepF C ops bf pu sf (i + 1 + j) o (sts (i + 1 + j)) (curs (i + 1 + j)) (bs (i + 1 + j)) (vs (i + 1 + j)) (cg (i + 1 + j)) fl ad (sts (i + 1 + j + 1))) →
        ∃ (sts curs : Nat → St G.S) (bs : Nat → Bool) (vs : Nat → V G.S) (cg : Nat → Bool) (fl : Nat → Option (Flt G.S)) (ad : Nat → Option Nat), sts i = st ∧ (k (sts (i + (o :: rest).length))).run G Φ f = some r ∧ FlAd fs i fl ad ∧
          ∀ j o', (o :: rest)[j]? = some o' → StepF C ops bf pu sf (i + j) o' (sts (i + j)) (curs (i + j)) (bs (i + j)) (vs (i + j)) (cg (i + j)) fl ad (sts (i + j + 1)) := by
      intro v c st2 sts curs bs vs cg fl ad k1 k2 hfa hst k3
      refine ⟨fun m => if m = i then st else sts m, fun m => if m = i then cur else curs m, fun m => if m = i then b else bs m, fun m => if m = i then v else vs m, fun m => if m = i then c else cg m, fl, ad, by simp, ?_, hfa, fun j o' hj => ?_⟩
      · have e : i + (o :: rest).length = i + 1 + rest.length := by simp; omega
        rw [e]
        simp only
        rw [if_neg (by omega)]
        exact k2
      · cases j with
        | zero =>
          simp only [List.getElem?_cons_zero, Option.some.injEq] at hj
          subst hj
          simp only [Nat.add_zero, if_true]
          rw [if_neg (by omega), k1]
          exact hst
        | succ j =>
          simp only [List.getElem?_cons_succ] at hj
          have := k3 j o' hj
          have e : i + (j + 1) = i + 1 + j := by omega
          rw [e]
          simp only
          rw [if_neg (by omega), if_neg (by omega), if_neg (by omega), if_neg (by omega), if_neg (by omega), if_neg (by omega)]
          exact this
    have hlt1 : ∀ p ∈ fs, p.i < i + 1 := fun p hp => Nat.lt_succ_of_lt (hlt p hp)
    have down : ∀ fl ad, FlAd fs (i + 1) fl ad → FlAd fs i fl ad ∧ fl i = none ∧ ad i = none := fun fl ad hq =>
      ⟨⟨hq.q1, fun j hj => hq.q2 j (by omega), fun j hj => hq.q3 j (by omega), fun j i' ha => by
        rcases hq.q4 j i' ha with h1 | h1
        · exact .inl (by omega)
        · exact .inr h1, hq.q5⟩, hq.q2 i (by omega) (fun p hp => by have := hlt p hp; omega), hq.q3 i (by omega)⟩
    have fin : ∀ (v : V G.S) (c : Bool) (st2 : St G.S), (∀ fl ad, fl i = none → ad i = none → StepF C ops bf pu sf i o st cur b v c fl ad st2) → (evDraw C ops bf pu sf fs rest (i + 1) st2 k).run G Φ f = some r →
        ∃ (sts curs : Nat → St G.S) (bs : Nat → Bool) (vs : Nat → V G.S) (cg : Nat → Bool) (fl : Nat → Option (Flt G.S)) (ad : Nat → Option Nat), sts i = st ∧ (k (sts (i + (o :: rest).length))).run G Φ f = some r ∧ FlAd fs i fl ad ∧
          ∀ j o', (o :: rest)[j]? = some o' → StepF C ops bf pu sf (i + j) o' (sts (i + j)) (curs (i + j)) (bs (i + j)) (vs (i + j)) (cg (i + j)) fl ad (sts (i + j + 1)) := by
      intro v c st2 hst hk
      obtain ⟨sts, curs, bs, vs, cg, fl, ad, k1, k2, kq, k3⟩ := evDraw_fun hS hΦ hE rest fs (i + 1) st2 k hlt1 hpw hk
      obtain ⟨d1, d2, d3⟩ := down fl ad kq
      exact glue v c st2 sts curs bs vs cg fl ad k1 k2 d1 (hst fl ad d2 d3) k3
    cases b with
    | false =>
      simp only at h
      rw [putF_eq] at h
      exact fin (.tup []) false _ (fun fl ad d2 d3 => ⟨g1, g3, g4, g5, fun e => (by cases e), .inl ⟨rfl, rfl, rfl, d2, d3⟩, fun _ => by rw [put_L, g1], by rw [put_n0, g2], rfl⟩) h
    | true =>
      simp only at h
      rw [forceL_eq] at h
      split at h
      · exact run_fail h
      rename_i him
      split at h
      · rename_i bx hbx
        split at h
        · rename_i hsb
          rw [Bool.and_eq_true_iff, Bool.not_eq_true'] at hsb
          obtain ⟨v, ob, h1, h2, h3⟩ := evSoft_ok hS (k := fun v => putF cur o.dst v fun st => evDraw C ops bf pu sf fs rest (i + 1) st k) hsb.1 h
          simp only [putF_eq] at h3
          exact fin v false _ (fun fl ad d2 d3 => ⟨g1, g3, g4, g5, fun e => (by cases e), .inr (.inl ⟨rfl, rfl, d2, d3, hsb.2, soft_flo hsb.1, bx, ob, hbx, h1, h2⟩), fun _ => by rw [put_L, g1], by rw [put_n0, g2], rfl⟩) h3
        · exact run_fail h
      rename_i hsf
      by_cases hfb : floB C ops bf pu i o = true
      · rw [if_pos hfb] at h
        have hp' : (pureR C ops o || pu.contains i) = false := by
          unfold floB lax at hfb
          simp only [Bool.and_eq_true, Bool.not_eq_true'] at hfb
          exact hfb.1.1.2
        split at h
        · rename_i d hd
          by_cases hdl : Nat.blt d cur.tm.length = true
          case neg => rw [if_neg hdl] at h; exact run_fail h
          rw [if_pos hdl] at h
          rw [Nat.blt_eq] at hdl
          obtain ⟨e, ty, xs, hfo, h⟩ := evFl_ok (i := i) (d := d) hS h
          rw [putF_eq] at h
          obtain ⟨sts, curs, bs, vs, cg, fl, ad, k1, k2, kq, k3⟩ := evDraw_fun hS hΦ hE rest (⟨i, d, e, ty, xs⟩ :: fs) (i + 1) _ k (fun p hp => by
            cases hp with
            | head => exact Nat.lt_succ_self i
            | tail _ hp => exact hlt1 p hp) (List.pairwise_cons.2 ⟨fun q hq e => absurd (show i = q.i from e) (by have := hlt q hq; omega), hpw⟩) h
          refine glue .un false _ sts curs bs vs cg fl ad k1 k2 ⟨fun p hp => kq.q1 p (by simp [hp]), fun j hj hn => kq.q2 j (by omega) (fun p hp => ?_), fun j hj => kq.q3 j (by omega), fun j i' ha => ?_, kq.q5⟩ ?_ k3
          · cases hp with
            | head => simp only; omega
            | tail _ hp => exact hn p hp
          · rcases kq.q4 j i' ha with h1 | ⟨p, h1, h2⟩
            · exact .inl (by omega)
            · cases h1 with
              | head => exact .inl (Nat.le_of_eq h2)
              | tail _ h1 => exact .inr ⟨p, h1, h2⟩
          · exact ⟨g1, g3, g4, g5, fun e => (by cases e), .inr (.inr (.inr (.inr (.inl ⟨rfl, hp', hsf, rfl, rfl, kq.q3 i (by omega), _, kq.q1 _ List.mem_cons_self, hd, hdl, hfo⟩)))), fun _ => by rw [put_L, g1], by rw [put_n0, g2], by rw [hd]⟩
        · exact run_fail h
      have hfb' : floB C ops bf pu i o = false := by simpa using hfb
      rw [if_neg hfb] at h
      split at h
      · rename_i p hpf
        have hpu : (pureR C ops o || pu.contains i) = false := by
          split at hpf
          · cases hpf
          · rename_i hq; simpa using hq
        rw [if_neg (by rw [hpu]; simp)] at hpf
        have hpm := List.mem_of_find?_eq_some hpf
        have hpl : p.d ∈ o.looksAt ops := by have := List.find?_some hpf; simpa using this
        rw [setF_eq, forceO_eq] at h
        obtain ⟨v, st1, rd, wr, ⟨hop, hne, hkp⟩, h⟩ := evOp_okX hS hΦ hE h
        split at h
        · rename_i hfx
          rw [putF_eq] at h
          obtain ⟨sts, curs, bs, vs, cg, fl, ad, k1, k2, kq, k3⟩ := evDraw_fun hS hΦ hE rest (fs.filter fun q => q.i != p.i) (i + 1) _ k (fun q hq => hlt1 q (List.mem_filter.1 hq).1) (hpw.filter _) h
          have hpi := hlt p hpm
          refine glue v true _ sts curs bs vs cg (fun j => if j = p.i then some p else fl j) (fun j => if j = i then some p.i else ad j) k1 k2 ⟨fun q hq => ?_, fun j hj hn => ?_, fun j hj => ?_, fun j i' ha => ?_, fun j j' i' ha ha' => ?_⟩ ?_ fun j o' hj => (k3 j o' hj).congr ?_ ?_ fun i' ha => ?_
          · by_cases e : q.i = p.i
            · rw [pw_eq hpw hq hpm e]; simp
            · simp only [e, if_false]; exact kq.q1 q (List.mem_filter.2 ⟨hq, by simpa using e⟩)
          · rw [if_neg (fun e => hn p hpm e.symm)]
            exact kq.q2 j (by omega) fun q hq => hn q (List.mem_filter.1 hq).1
          · show (if _ then _ else _) = _
            rw [if_neg (by omega)]; exact kq.q3 j (by omega)
          · replace ha : (if j = i then some p.i else ad j) = some i' := ha
            split at ha
            · cases ha; exact .inr ⟨p, hpm, rfl⟩
            · rcases kq.q4 j i' ha with h1 | ⟨q, h1, h2⟩
              · exact .inl (by omega)
              · exact .inr ⟨q, (List.mem_filter.1 h1).1, h2⟩
          · have no : ∀ j, ad j ≠ some p.i := fun j hj => by
              rcases kq.q4 j p.i hj with h1 | ⟨q, h1, h2⟩
              · omega
              · have := (List.mem_filter.1 h1).2
                simp [h2] at this
            replace ha : (if j = i then some p.i else ad j) = some i' := ha
            replace ha' : (if j' = i then some p.i else ad j') = some i' := ha'
            split at ha <;> split at ha'
            · omega
            · cases ha; exact (no _ ha').elim
            · cases ha'; exact (no _ ha).elim
            · exact kq.q5 j j' i' ha ha'
          · refine ⟨g1, g3, g4, g5, fun _ => ⟨fun j q hj hji hpp => ?_, hpu, hsf, hfb'⟩, .inr (.inr (.inr (.inr (.inr ⟨rfl, hpu, hsf, hfb', rfl, ?_, p.i, p, st1, by simp, hpi, by simp, hpl, hop, by rw [put_L]⟩)))), fun e => (by cases e), by rw [put_n0]; exact g2, put_tm _ _ _ _ _⟩
            · rcases fixedS_spec hfx j q hj hji hpp with h5 | h5 | h5 | ⟨h5, b', h6, h7, h8⟩
              · exact .inl h5
              · exact .inr (.inl h5)
              · exact .inr (.inr (.inl h5))
              · refine .inr (.inr (.inr ⟨b', h6, ?_⟩))
                rw [put_L]
                refine (hkp h5 b' h7 (by simp; omega)).trans ?_
                simp only
                rw [List.getElem?_append_left h8, g1]
            · show (if _ then _ else _) = _
              rw [if_neg (by omega)]
              exact kq.q2 i (by omega) fun q hq => by have := hlt q (List.mem_filter.1 hq).1; omega
          · show (if _ then _ else _) = _
            rw [if_neg (by omega)]
          · show (if _ then _ else _) = _
            rw [if_neg (by omega)]
          · show (if _ then _ else _) = _
            rw [if_neg]
            rintro rfl
            rcases kq.q4 _ _ ha with h1 | ⟨q, h1, h2⟩
            · omega
            · have := (List.mem_filter.1 h1).2
              simp [h2] at this
        · exact run_fail h
      by_cases hp : (pureR C ops o || pu.contains i) = true
      · have hcd : (lax C ops bf pu i o || (pu.contains i && isLit o)) = (pu.contains i && isLit o) := by simp only [lax, hp]; simp
        rw [hcd] at h
        have hpv : ∃ v, OpFree C o ⟨maskTm (o.looksAt ops) 0 cur.tm, cur.L, cur.n0⟩ v ∧ (evDraw C ops bf pu sf fs rest (i + 1) (cur.put o.dst v) k).run G Φ f = some r := by
          by_cases hlit : (pu.contains i && isLit o) = true
          · rw [if_pos hlit] at h
            simp only [Bool.and_eq_true] at hlit
            rw [hlit.1] at him
            simp only [Bool.true_and, Bool.not_eq_true', Bool.not_eq_false] at him
            simp only [if_pos hp] at h
            obtain ⟨v, hv, h⟩ := evImFree_ok hS hlit.2 (by simpa [lit_not_imm hlit.2] using him) (k := fun v => putF cur o.dst v fun st => evDraw C ops bf pu sf fs rest (i + 1) st k) h
            rw [putF_eq] at h
            exact ⟨v, hv, h⟩
          rw [if_neg hlit] at h
          by_cases hpo : pureR C ops o = true
          · obtain ⟨v, hv, h⟩ := evPure_ok hS (pureR_pure hpo) h
            rw [if_pos hp, putF_eq] at h
            exact ⟨v, hv.free, h⟩
          · have hpu : pu.contains i = true := by simpa [hpo] using hp
            rw [hpu] at him
            simp only [Bool.true_and, Bool.not_eq_true', Bool.not_eq_false] at him
            by_cases hib : immB C o ⟨maskTm (o.looksAt ops) 0 cur.tm, cur.L, cur.n0⟩ = true
            · obtain ⟨v, hv, rd, h⟩ := evImm_ok hS hib h
              rw [if_pos hp, putF_eq] at h
              exact ⟨v, hv.free, h⟩
            · simp only [if_pos hp] at h
              obtain ⟨v, hv, h⟩ := evFree_ok hS hΦ hE (by rw [hpu] at hlit; simpa using hlit) (by simpa [hib] using him) (k := fun v => putF cur o.dst v fun st => evDraw C ops bf pu sf fs rest (i + 1) st k) h
              rw [putF_eq] at h
              exact ⟨v, hv, h⟩
        obtain ⟨v, hv, h⟩ := hpv
        exact fin v false _ (fun fl ad d2 d3 => ⟨g1, g3, g4, g5, fun e => (by cases e), .inr (.inr (.inl ⟨rfl, hp, rfl, d2, d3, hv⟩)), fun _ => by rw [put_L, g1], by rw [put_n0, g2], rfl⟩) h
      · have hp' : (pureR C ops o || pu.contains i) = false := by simpa using hp
        have hcd : (lax C ops bf pu i o || (pu.contains i && isLit o)) = lax C ops bf pu i o := by
          have : pu.contains i = false := by simp only [Bool.or_eq_false_iff] at hp'; exact hp'.2
          rw [this]; simp
        rw [hcd] at h
        by_cases hlx : lax C ops bf pu i o = true
        · rw [if_pos hlx] at h
          obtain ⟨v, hop, h⟩ := evIm_ok hS h
          rw [if_neg hp, if_neg (by simp [hlx]), putF_eq] at h
          exact fin v false _ (fun fl ad d2 d3 => ⟨g1, g3, g4, g5, fun e => (by cases e), .inr (.inr (.inr (.inl ⟨rfl, hp', hsf, hfb', d2, d3, _, hop, by rw [put_L]⟩))), fun _ => by rw [put_L, g1], by rw [put_n0, g2], rfl⟩) h
        rw [if_neg hlx] at h
        obtain ⟨v, st1, rd, wr, ⟨hop, hne, hkp⟩, h⟩ := evOp_okX hS hΦ hE h
        rw [if_neg hp] at h
        split at h
        · split at h
          · rename_i hfx
            rw [putF_eq] at h
            refine fin v true _ (fun fl ad d2 d3 => ⟨g1, g3, g4, g5, fun _ => ⟨fun j p hj hji hpp => ?_, hp', hsf, hfb'⟩, .inr (.inr (.inr (.inl ⟨rfl, hp', hsf, hfb', d2, d3, st1, hop, by rw [put_L]⟩))), fun e => (by cases e), by rw [put_n0]; exact g2, put_tm _ _ _ _ _⟩) h
            rcases fixedS_spec hfx j p hj hji hpp with h5 | h5 | h5 | ⟨h5, b', h6, h7, h8⟩
            · exact .inl h5
            · exact .inr (.inl h5)
            · exact .inr (.inr (.inl h5))
            · exact .inr (.inr (.inr ⟨b', h6, by rw [put_L]; exact (hkp h5 b' h7 h8).trans (by rw [← g1])⟩))
          · exact run_fail h
        · rename_i hc
          simp only [Bool.or_eq_true, not_or] at hc
          have hwr : wr = [] := by simpa using hc.2
          have hL := hne (by have := hc.1; simpa [hlx] using this) hwr
          rw [putF_eq] at h
          exact fin v false _ (fun fl ad d2 d3 => ⟨g1, g3, g4, g5, fun e => (by cases e), .inr (.inr (.inr (.inl ⟨rfl, hp', hsf, hfb', d2, d3, st1, hop, by rw [put_L, hL]⟩))), fun _ => by rw [put_L, g1], by rw [put_n0, g2], rfl⟩) h
end
end Go.Dv

namespace Go.Dv
open Go
section
variable {G : Sig} {C : Cfg G}
theorem catL_congr {α : Type} {g h : α → List Nat} : ∀ {l : List α}, (∀ a ∈ l, g a = h a) → catL g l = catL h l
 | [], _ => rfl
 | a :: l, hh => by
  have ih := catL_congr (l := l) (fun b hb => hh b (List.mem_cons_of_mem _ hb))
  simp only [catL, hh a List.mem_cons_self, ih]
theorem catL_mem_inv {α : Type} {g : α → List Nat} {x : Nat} : ∀ {l : List α}, x ∈ catL g l → ∃ a ∈ l, x ∈ g a
 | a :: l, h => by
  simp only [catL, List.mem_append] at h
  rcases h with h | h
  ·exact ⟨a, by simp, h⟩
  ·obtain ⟨b, h1, h2⟩ := catL_mem_inv h
   exact ⟨b, by simp [h1], h2⟩
theorem befs_ok : ∀ (l : List Oper) (acc bf : List (List Nat)), befs l acc = some bf → bf.length = acc.length + l.length ∧ (∀ j, j < acc.length → bf[j]? = acc[j]?) ∧
  ∀ (j : Nat) (o : Oper), l[j]? = some o → (∀ e ∈ edgesOf o, e < acc.length + j) ∧ bf[acc.length + j]? = some (edgesOf o ++ catL (fun e => bf.getD e []) (edgesOf o))
 | [], acc, bf, h => by
  simp only [befs, Option.some.injEq] at h; subst h
  exact ⟨by simp, fun j _ => rfl, fun j o hj => by simp at hj⟩
 | o :: r, acc, bf, h => by
  simp only [befs] at h
  split at h
  ·rename_i hall
   rw [List.all_eq_true] at hall
   obtain ⟨h1, h2, h3⟩ := befs_ok r _ bf h
   simp only [List.length_append, List.length_singleton] at h1 h2 h3
   refine ⟨by simp only [List.length_cons]; omega, fun j hj => ?_, fun j o' hj => ?_⟩
   ·rw [h2 j (by omega), List.getElem?_append_left hj]
   ·cases j with
    | zero =>
     simp only [List.getElem?_cons_zero, Option.some.injEq] at hj
     subst hj
     refine ⟨fun e he => by have := hall e he; simp at this; omega, ?_⟩
     rw [Nat.add_zero, h2 acc.length (by omega), List.getElem?_append_right (Nat.le_refl _)]
     simp only [Nat.sub_self, List.getElem?_cons_zero, Option.some.injEq]
     congr 1
     refine catL_congr fun e he => ?_
     have hlt : e < acc.length := by have := hall e he; simpa using this
     rw [List.getD_eq_getElem?_getD, List.getD_eq_getElem?_getD, h2 e (by omega), List.getElem?_append_left hlt]
    | succ j =>
     simp only [List.getElem?_cons_succ] at hj
     obtain ⟨k1, k2⟩ := h3 j o' hj
     have e : acc.length + (j + 1) = acc.length + 1 + j := by omega
     rw [e]
     exact ⟨k1, k2⟩
  ·cases h
section
variable {ops : Array Oper} {bf : List (List Nat)}
structure Bf (ops : Array Oper) (bf : List (List Nat)) : Prop where
 lt : ∀ (i : Nat) (o : Oper), ops[i]? = some o → ∀ e ∈ edgesOf o, e < i
 eq : ∀ (i : Nat) (o : Oper), ops[i]? = some o → bf[i]? = some (edgesOf o ++ catL (fun e => bf.getD e []) (edgesOf o))
theorem bf_of (h : befs ops.toList [] = some bf) : Bf ops bf := by
 obtain ⟨_, _, h3⟩ := befs_ok _ _ _ h
 refine ⟨fun i o ho => ?_, fun i o ho => ?_⟩
 ·have := (h3 i o (by simpa using ho)).1
  simpa using this
 ·have := (h3 i o (by simpa using ho)).2
  simpa using this
theorem Bf.cases (h : Bf ops bf) {i j : Nat} {o : Oper} (ho : ops[i]? = some o) (hj : ltB bf j i = true) : ∃ e ∈ edgesOf o, j = e ∨ ltB bf j e = true := by
 unfold ltB at hj
 rw [List.getD_eq_getElem?_getD, h.eq i o ho] at hj
 simp only [Option.getD_some, List.contains_iff_mem, List.mem_append] at hj
 rcases hj with hj | hj
 ·exact ⟨j, hj, .inl rfl⟩
 ·obtain ⟨e, h1, h2⟩ := catL_mem_inv hj
  exact ⟨e, h1, .inr (by unfold ltB; rw [List.contains_iff_mem]; exact h2)⟩
theorem ops_lt {i : Nat} (h : i < ops.size) : ∃ o, ops[i]? = some o := ⟨ops[i], Array.getElem?_eq_getElem h⟩
theorem ops_size {i : Nat} {o : Oper} (h : ops[i]? = some o) : i < ops.size := (Array.getElem?_eq_some_iff.1 h).1
theorem Bf.less (h : Bf ops bf) : ∀ (i j : Nat), i < ops.size → ltB bf j i = true → j < i := by
 intro i
 induction i using Nat.strongRecOn with
 | _ i ih =>
  intro j hi hj
  obtain ⟨o, ho⟩ := ops_lt hi
  obtain ⟨e, he, h1⟩ := h.cases ho hj
  have hei := h.lt i o ho e he
  rcases h1 with rfl | h1
  ·exact hei
  ·have := ih e hei j (by omega) h1
   omega
theorem mask_get (keep : List Nat) : ∀ (tm : List (V G.S)) (i t : Nat), (maskTm keep i tm)[t]? = (tm[t]?).map fun v => if keep.contains (i + t) then v else .un
 | [], i, t => by simp [maskTm]
 | v :: r, i, t => by
  cases t with
  | zero => simp [maskTm]
  | succ t =>
   simp only [maskTm, List.getElem?_cons_succ]
   rw [mask_get keep r (i + 1) t]
   have : i + 1 + t = i + (t + 1) := by omega
   rw [this]
theorem mask_len (keep : List Nat) : ∀ (tm : List (V G.S)) (i : Nat), (maskTm keep i tm).length = tm.length
 | [], i => rfl
 | v :: r, i => by simp [maskTm, mask_len keep r]
theorem mask_tr {w : World} {ok : Okc} {M : Mem} {st : St G.S} {a : Act} {keep : List Nat} (hl : st.tm.length = a.tmps.size) (h : ∀ t ∈ keep, VR w ok M (st.get t) (a.tmps.getD t undef)) : TR w ok M (maskTm keep 0 st.tm) a := by
 refine ⟨by rw [mask_len]; exact hl, fun i y hi => ?_⟩
 rw [mask_get] at hi
 cases hq : st.tm[i]? with
 | none => rw [hq] at hi; cases hi
 | some v =>
  rw [hq] at hi
  simp only [Option.map_some, Option.some.injEq, Nat.zero_add] at hi
  split at hi
  ·rename_i hc
   subst hi
   have := h i (by simpa using hc)
   unfold St.get at this
   rw [List.getD_eq_getElem?_getD, hq] at this
   exact this
  ·subst hi; exact .un _
theorem drawOk_spec {mixed : Bool} (h : drawOk mixed ops bf = true) : (mixed = true ∨ Region.departs ops = false) ∧
  ∀ (i j : Nat) (o p : Oper), ops[i]? = some o → ops[j]? = some p → i ≠ j → ∀ d, o.dst = some d → p.dst ≠ some d ∧ (d ∈ p.looksAt ops → ltB bf i j = true ∨ ltB bf j i = true) := by
 unfold drawOk at h
 simp only [Bool.and_eq_true, List.all_eq_true, Bool.or_eq_true, Bool.not_eq_true'] at h
 refine ⟨h.1, fun i j o p hi hj hne d hd => ?_⟩
 have h1 : (o, i) ∈ ops.toList.zipIdx := by
  rw [List.mem_zipIdx_iff_getElem?]; simpa using hi
 have h2 : (p, j) ∈ ops.toList.zipIdx := by
  rw [List.mem_zipIdx_iff_getElem?]; simpa using hj
 have := h.2 _ h1 _ h2
 simp only [beq_iff_eq] at this
 rcases this with h3 | h3
 ·exact (hne h3).elim
 ·rw [hd] at h3
  simp only [Bool.and_eq_true, bne_iff_ne, ne_eq, Bool.or_eq_true, Bool.not_eq_true'] at h3
  refine ⟨h3.1, fun hm => ?_⟩
  rcases h3.2 with (h4 | h4) | h4
  ·rw [List.contains_iff_mem.2 hm] at h4; cases h4
  ·exact .inl h4
  ·exact .inr h4
end
end
end Go.Dv

namespace Go.Dv
open Go
section
variable {G : Sig} {C : Cfg G} {ops : Array Oper} {bf : List (List Nat)} {pu : List Nat} {sf : List (Nat × Nat)} {sts curs : Nat → St G.S} {bs : Nat → Bool} {vs : Nat → V G.S} {cg : Nat → Bool} {fl : Nat → Option (Flt G.S)} {ad : Nat → Option Nat}
def AllSteps (C : Cfg G) (ops : Array Oper) (bf : List (List Nat)) (pu : List Nat) (sf : List (Nat × Nat)) (sts curs : Nat → St G.S) (bs : Nat → Bool) (vs : Nat → V G.S) (cg : Nat → Bool) (fl : Nat → Option (Flt G.S)) (ad : Nat → Option Nat) : Prop :=
 ∀ (j : Nat) (o : Oper), ops[j]? = some o → StepF C ops bf pu sf j o (sts j) (curs j) (bs j) (vs j) (cg j) fl ad (sts (j + 1))
theorem sts_len (hst : AllSteps C ops bf pu sf sts curs bs vs cg fl ad) : ∀ i, i ≤ ops.size → (sts i).tm.length = (sts 0).tm.length
 | 0, _ => rfl
 | i + 1, h => by
  obtain ⟨o, ho⟩ := ops_lt (ops := ops) (i := i) (by omega)
  have hs := hst i o ho
  rw [hs.tm]
  have : ∀ (st : St G.S) d v, (st.put d v).tm.length = st.tm.length := by
   intro st d v; cases d <;> simp [St.put]
  rw [this, hs.len, sts_len hst i (by omega)]
theorem get_tm {a b : St G.S} (h : a.tm = b.tm) (t : Nat) : a.get t = b.get t := by unfold St.get; rw [h]
theorem sts_get (hst : AllSteps C ops bf pu sf sts curs bs vs cg fl ad) {t : Nat} (ht : t < (sts 0).tm.length) : ∀ i, i ≤ ops.size →
    (∃ (j : Nat) (o : Oper), j < i ∧ ops[j]? = some o ∧ o.dst = some t ∧ Eqv ((sts i).get t) (vs j)) ∨ ((∀ (j : Nat) (o : Oper), j < i → ops[j]? = some o → o.dst ≠ some t) ∧ Eqv ((sts i).get t) ((sts 0).get t))
  | 0, _ => .inr ⟨fun j o h => by omega, .refl _⟩
  | i + 1, h => by
    obtain ⟨o, ho⟩ := ops_lt (ops := ops) (i := i) (by omega)
    have hs := hst i o ho
    have hcl : t < (curs i).tm.length := by rw [hs.len, sts_len hst i (by omega)]; exact ht
    rw [get_tm hs.tm]
    by_cases hd : o.dst = some t
    · refine .inl ⟨i, o, by omega, ho, hd, ?_⟩
      rw [hd, get_put, if_pos ⟨rfl, hcl⟩]
      exact .refl _
    · have e : ((curs i).put o.dst (vs i)).get t = (curs i).get t := by
        cases hq : o.dst with
        | none => rfl
        | some d =>
          rw [get_put, if_neg]
          rintro ⟨rfl, _⟩
          exact hd hq
      rw [e]
      rcases sts_get hst ht i (by omega) with ⟨j, p, h1, h2, h3, h4⟩ | ⟨h1, h2⟩
      · exact .inl ⟨j, p, by omega, h2, h3, (hs.eqv t).trans h4⟩
      · refine .inr ⟨fun j p hj hp => ?_, (hs.eqv t).trans h2⟩
        by_cases e : j = i
        · subst e; rw [ho] at hp; cases hp; exact hd
        · exact h1 j p (by omega) hp
theorem sts_L (hst : AllSteps C ops bf pu sf sts curs bs vs cg fl ad) : ∀ (d m : Nat), m + d ≤ ops.size → (∀ j, m ≤ j → j < m + d → cg j = false) → (sts (m + d)).L = (sts m).L
 | 0, m, _, _ => rfl
 | d + 1, m, h, hc => by
  obtain ⟨o, ho⟩ := ops_lt (ops := ops) (i := m + d) (by omega)
  have hs := hst (m + d) o ho
  have := hs.keep (hc (m + d) (by omega) (by omega))
  rw [show m + (d + 1) = m + d + 1 by omega, this]
  exact sts_L hst d m (by omega) (fun j h1 h2 => hc j h1 (by omega))
theorem sts_box (hst : AllSteps C ops bf pu sf sts curs bs vs cg fl ad) (b : Nat) : ∀ (d m : Nat), m + d ≤ ops.size → (∀ j, m ≤ j → j < m + d → cg j = true → (sts (j + 1)).L[b]? = (sts j).L[b]?) → (sts (m + d)).L[b]? = (sts m).L[b]?
 | 0, m, _, _ => rfl
 | d + 1, m, h, hc => by
  obtain ⟨o, ho⟩ := ops_lt (ops := ops) (i := m + d) (by omega)
  have hs := hst (m + d) o ho
  have ih := sts_box hst b d m (by omega) (fun j h1 h2 => hc j h1 (by omega))
  rw [← ih]
  show (sts (m + d + 1)).L[b]? = _
  cases hcg : cg (m + d) with
  | false => rw [hs.keep hcg]
  | true => exact hc (m + d) (by omega) (by omega) hcg
structure Flo (fl : Nat → Option (Flt G.S)) (ad : Nat → Option Nat) (w0 : World) (S : Nat → Bool) (a : Act) (w : World) (M : Mem) (ok : Okc) (L : List (Obj G.S)) : Prop where
 now : ∀ (i : Nat) (p : Flt G.S), fl i = some p → S i = true → (∀ j, ad j = some i → S j = false) → FNow w0 w L M ok p (a.tmps.getD p.d undef)
 dis : ∀ (i i' : Nat) (p p' : Flt G.S) (b : Nat), fl i = some p → fl i' = some p' → S i = true → S i' = true → (∀ j, ad j = some i → S j = false) → (∀ j, ad j = some i' → S j = false) → (a.tmps.getD p.d undef).ownBlock = some b → (a.tmps.getD p'.d undef).ownBlock = some b → i = i'
structure DInv (C : Cfg G) (ops : Array Oper) (bf : List (List Nat)) (sts : Nat → St G.S) (vs : Nat → V G.S) (cg : Nat → Bool) (fl : Nat → Option (Flt G.S)) (ad : Nat → Option Nat) (w0 : World) (Fp : Fx) (okA : Okc) (d0 : List Deferred) (S : Nat → Bool) (a : Act) (w : World) (M : Mem) (ok : Okc) : Prop where
 mem : ∃ m, m ≤ ops.size ∧ MI C w0 Fp okA M ok (sts m).L w ∧ Flo fl ad w0 S a w M ok (sts m).L ∧ (∀ j, j < m → cg j = true → S j = true) ∧ (∀ j, m ≤ j → j < ops.size → cg j = true → S j = false)
 dfr : a.defers = d0
 len : a.tmps.size = (sts 0).tm.length
 unw : ∀ t, t < (sts 0).tm.length → (∀ (j : Nat) (o : Oper), ops[j]? = some o → S j = true → o.dst ≠ some t) → VR w ok M ((sts 0).get t) (a.tmps.getD t undef)
 wrt : ∀ (j : Nat) (o : Oper) (t : Nat), t < (sts 0).tm.length → ops[j]? = some o → S j = true → o.dst = some t → VR w ok M (vs j) (a.tmps.getD t undef)
 cl : ∀ (i : Nat) (o : Oper), ops[i]? = some o → S i = true → ∀ j, ltB bf j i = true → S j = true
section
variable {mixed : Bool} (hb : Bf ops bf) (hd : drawOk mixed ops bf = true) (hst : AllSteps C ops bf pu sf sts curs bs vs cg fl ad) {w0 : World} {Fp : Fx} {okA : Okc} {d0 : List Deferred} {S : Nat → Bool} {a : Act} {w : World} {M : Mem} {ok : Okc}
include hb hd hst
theorem DInv.reads (h : DInv C ops bf sts vs cg fl ad w0 Fp okA d0 S a w M ok) {i : Nat} {o : Oper} (ho : ops[i]? = some o) (hi : S i = false) (hbe : ∀ j, ltB bf j i = true → S j = true) :
    ∀ t ∈ o.looksAt ops, VR w ok M ((curs i).get t) (a.tmps.getD t undef) := by
  intro t ht
  have hs := hst i o ho
  have hil := ops_size ho
  obtain ⟨_, hdr⟩ := drawOk_spec hd
  by_cases hl : t < (sts 0).tm.length
  · rcases sts_get hst hl i (by omega) with ⟨j, p, h1, h2, h3, h4⟩ | ⟨h1, h2⟩
    · have hord := (hdr j i p o h2 ho (by omega) t h3).2 ht
      have hSj : S j = true := by
        rcases hord with h5 | h5
        · exact hbe j h5
        · have := hb.less j i (ops_size h2) h5; omega
      exact (((hs.eqv t).trans h4) w ok M _).2 (h.wrt j p t hl h2 hSj h3)
    · refine (((hs.eqv t).trans h2) w ok M _).2 (h.unw t hl fun j p hp hSj hdst => ?_)
      have hji : j ≠ i := by rintro rfl; rw [hi] at hSj; cases hSj
      have hge : ¬ j < i := fun hlt => h1 j p hlt hp hdst
      have hord := (hdr j i p o hp ho hji t hdst).2 ht
      rcases hord with h5 | h5
      · have := hb.less i j hil h5; omega
      · have := h.cl j p hp hSj i h5
        rw [hi] at this; cases this
  · have e : (curs i).get t = .un := by
      unfold St.get
      rw [List.getD_eq_getElem?_getD, List.getElem?_eq_none (by rw [hs.len, sts_len hst i (by omega)]; exact Nat.le_of_not_lt hl)]
      rfl
    rw [e]; exact .un _

omit hd in
theorem DInv.level (h : DInv C ops bf sts vs cg fl ad w0 Fp okA d0 S a w M ok) {i : Nat} {o : Oper} (ho : ops[i]? = some o) (hi : S i = false) (hbe : ∀ j, ltB bf j i = true → S j = true) (hp : (pureR C ops o || pu.contains i) = false) (hsf : sf.lookup i = none) (hfb : floB C ops bf pu i o = false) :
    MI C w0 Fp okA M ok (sts i).L w ∧ Flo fl ad w0 S a w M ok (sts i).L := by
  obtain ⟨m, hm, hmi, hfo, h1, h2⟩ := h.mem
  have hil := ops_size ho
  have fix : ∀ j, j < ops.size → j ≠ i → cg j = true → ltB bf j i = true ∨ ltB bf i j = true := by
    intro j hj hne hc
    obtain ⟨p, hpj⟩ := ops_lt hj
    rcases ((hst j p hpj).fix hc).1 i o ho (Ne.symm hne) hp with h5 | h5 | h5 | ⟨b, h5, _⟩
    · exact .inl h5
    · exact .inr h5
    · rw [hfb] at h5; cases h5
    · rw [hsf] at h5; cases h5
  rcases Nat.le_total m i with hle | hle
  · have := sts_L hst (i - m) m (by omega) (fun j hj1 hj2 => by
      cases hc : cg j with
      | false => rfl
      | true =>
        rcases fix j (by omega) (by omega) hc with h5 | h5
        · have := hbe j h5
          rw [h2 j hj1 (by omega) hc] at this; cases this
        · have := hb.less j i (by omega) h5; omega)
    rw [show m + (i - m) = i by omega] at this
    rw [this]; exact ⟨hmi, hfo⟩
  · have := sts_L hst (m - i) i (by omega) (fun j hj1 hj2 => by
      cases hc : cg j with
      | false => rfl
      | true =>
        have hSj := h1 j (by omega) hc
        have hne : j ≠ i := by rintro rfl; rw [hi] at hSj; cases hSj
        rcases fix j (by omega) hne hc with h5 | h5
        · have := hb.less i j hil h5; omega
        · obtain ⟨p, hpj⟩ := ops_lt (ops := ops) (i := j) (by omega)
          have := h.cl j p hpj hSj i h5
          rw [hi] at this; cases this)
    rw [show i + (m - i) = m by omega] at this
    rw [← this]; exact ⟨hmi, hfo⟩

omit hd in
theorem DInv.levelS (h : DInv C ops bf sts vs cg fl ad w0 Fp okA d0 S a w M ok) {i : Nat} {o : Oper} (ho : ops[i]? = some o) (hi : S i = false) (hbe : ∀ j, ltB bf j i = true → S j = true) (hp : (pureR C ops o || pu.contains i) = false) {b : Nat} (hsf : sf.lookup i = some b) (hfb : floB C ops bf pu i o = false) (hcg : cg i = false) :
    ∃ m, MI C w0 Fp okA M ok (sts m).L w ∧ (sts m).L[b]? = (sts i).L[b]? := by
  obtain ⟨m, hm, hmi, hfo, h1, h2⟩ := h.mem
  have hil := ops_size ho
  have fix : ∀ j, j < ops.size → j ≠ i → cg j = true → ltB bf j i = true ∨ ltB bf i j = true ∨ (sts (j + 1)).L[b]? = (sts j).L[b]? := by
    intro j hj hne hc
    obtain ⟨p, hpj⟩ := ops_lt hj
    rcases ((hst j p hpj).fix hc).1 i o ho (Ne.symm hne) hp with h5 | h5 | h5 | ⟨b', h5, h6⟩
    · exact .inl h5
    · exact .inr (.inl h5)
    · rw [hfb] at h5; cases h5
    · rw [hsf] at h5; cases h5; exact .inr (.inr h6)
  refine ⟨m, hmi, ?_⟩
  rcases Nat.le_total m i with hle | hle
  · have := sts_box hst b (i - m) m (by omega) (fun j hj1 hj2 hc => by
      rcases fix j (by omega) (by omega) hc with h5 | h5 | h5
      · have := hbe j h5
        rw [h2 j hj1 (by omega) hc] at this; cases this
      · have := hb.less j i (by omega) h5; omega
      · exact h5)
    rw [show m + (i - m) = i by omega] at this
    exact this.symm
  · have := sts_box hst b (m - i) i (by omega) (fun j hj1 hj2 hc => by
      have hSj := h1 j (by omega) hc
      have hne : j ≠ i := by rintro rfl; rw [hi] at hSj; cases hSj
      rcases fix j (by omega) hne hc with h5 | h5 | h5
      · have := hb.less i j hil h5; omega
      · obtain ⟨p, hpj⟩ := ops_lt (ops := ops) (i := j) (by omega)
        have := h.cl j p hpj hSj i h5
        rw [hi] at this; cases this
      · exact h5)
    rw [show i + (m - i) = m by omega] at this
    exact this

omit hb hd hst in
theorem getD_put {a : Act} {d : Option Nat} {val : Value} {t : Nat} (h : d ≠ some t) : (a.put d val).tmps.getD t undef = a.tmps.getD t undef := by
 cases d with
 | none => rfl
 | some d =>
  have : d ≠ t := fun e => h (by rw [e])
  simp [Act.put, Array.getD_eq_getD_getElem?, Array.getElem?_setIfInBounds_ne this]
omit hb hst in
theorem DInv.next (h : DInv C ops bf sts vs cg fl ad w0 Fp okA d0 S a w M ok) {i : Nat} {o : Oper} (ho : ops[i]? = some o) (hi : S i = false) (hbe : ∀ j, ltB bf j i = true → S j = true)
  {val : Value} {w' : World} {M' : Mem} {ok' : Okc} (he : Ex M ok w M' ok' w') (hv : VR w' ok' M' (vs i) val) (hmem : ∃ m, m ≤ ops.size ∧ MI C w0 Fp okA M' ok' (sts m).L w' ∧ Flo fl ad w0 (fun j => S j || decide (j = i)) (a.put o.dst val) w' M' ok' (sts m).L ∧ (∀ j, j < m → cg j = true → (S j || decide (j = i)) = true) ∧ (∀ j, m ≤ j → j < ops.size → cg j = true → (S j || decide (j = i)) = false)) :
  DInv C ops bf sts vs cg fl ad w0 Fp okA d0 (fun j => S j || decide (j = i)) (a.put o.dst val) w' M' ok' := by
 obtain ⟨_, hdr⟩ := drawOk_spec hd
 have hil := ops_size ho
 refine ⟨hmem, ?_, ?_, fun t ht hun => ?_, fun j p t ht hp hS hdst => ?_, fun k p hk hS j hj => ?_⟩
 ·cases hq : o.dst <;> exact h.dfr
 ·cases hq : o.dst <;> simp [Act.put, h.len]
 ·have hne := hun i o ho (by simp)
  rw [getD_put hne]
  exact (h.unw t ht fun j p hp hSj => hun j p hp (by simp [hSj])).mono he
 ·by_cases e : j = i
  ·subst e
   rw [ho] at hp; cases hp
   rw [hdst]
   have hlt : t < a.tmps.size := by rw [h.len]; exact ht
   have : (a.put (some t) val).tmps.getD t undef = val := by
    simp [Act.put, Array.getD_eq_getD_getElem?, hlt]
   rw [this]; exact hv
  ·have hSj : S j = true := by simpa [e] using hS
   have hne := (hdr j i p o hp ho e t hdst).1
   rw [getD_put hne]
   exact (h.wrt j p t ht hp hSj hdst).mono he
 ·by_cases e : k = i
  ·subst e
   simp [hbe j hj]
  ·have hSk : S k = true := by simpa [e] using hS
   simp [h.cl k p hk hSk j hj]
omit hb in
theorem fl_dst {i : Nat} {p : Flt G.S} (h : fl i = some p) (hi : i < ops.size) : ∃ o, ops[i]? = some o ∧ o.dst = some p.d := by
 obtain ⟨o, ho⟩ := ops_lt hi
 refine ⟨o, ho, ?_⟩
 rcases (hst i o ho).stp with h1 | h1 | h1 | h1 | ⟨_, _, _, _, _, _, q, h2, h3, _⟩ | h1
 ·rw [h1.2.2.2.1] at h; cases h
 ·rw [h1.2.2.1] at h; cases h
 ·rw [h1.2.2.2.1] at h; cases h
 ·rw [h1.2.2.2.2.1] at h; cases h
 ·rw [h] at h2; cases h2; exact h3
 ·rw [h1.2.2.2.2.2.1] at h; cases h
omit hb in
theorem fl_tmp (hSz : ∀ j, S j = true → j < ops.size) {i i' : Nat} {o : Oper} {p : Flt G.S} (ho : ops[i]? = some o) (h : fl i' = some p) (hS : S i' = true) (hne : i' ≠ i) (val : Value) : (a.put o.dst val).tmps.getD p.d undef = a.tmps.getD p.d undef := by
 obtain ⟨o', ho', hd'⟩ := fl_dst hd hst h (hSz i' hS)
 exact getD_put ((drawOk_spec hd).2 i' i o' o ho' ho hne p.d hd').1
omit hb in
theorem Flo.step (hSz : ∀ j, S j = true → j < ops.size) {L L' : List (Obj G.S)} {w' : World} {M' : Mem} {ok' : Okc} (h : Flo fl ad w0 S a w M ok L) (k : MI C w (fxU L M Fp) ok M' ok' L' w') (hex : Ex M ok w M' ok' w') {i : Nat} {o : Oper} (ho : ops[i]? = some o) (hfl : fl i = none) (val : Value) :
  Flo fl ad w0 (fun j => S j || decide (j = i)) (a.put o.dst val) w' M' ok' L' := by
 have hne : ∀ i' p, fl i' = some p → i' ≠ i := fun i' p h1 e => by subst e; rw [hfl] at h1; cases h1
 have hS' : ∀ i', i' ≠ i → (S i' || decide (i' = i)) = true → S i' = true := fun i' h1 h2 => by simpa [h1] using h2
 have hpd : ∀ i', (∀ j, ad j = some i' → (S j || decide (j = i)) = false) → ∀ j, ad j = some i' → S j = false := fun i' h1 j hj => by
  have := h1 j hj
  simp only [Bool.or_eq_false_iff] at this
  exact this.1
 refine ⟨fun i' p h1 h2 h3 => ?_, fun i1 i2 p1 p2 b h1 h2 h3 h4 h5 h6 h7 h8 => ?_⟩
 ·have e := hne i' p h1
  rw [fl_tmp hd hst hSz ho h1 (hS' i' e h2) e]
  exact (h.now i' p h1 (hS' i' e h2) (hpd i' h3)).step k hex
 ·have e1 := hne i1 p1 h1
  have e2 := hne i2 p2 h2
  rw [fl_tmp hd hst hSz ho h1 (hS' i1 e1 h3) e1] at h7
  rw [fl_tmp hd hst hSz ho h2 (hS' i2 e2 h4) e2] at h8
  exact h.dis i1 i2 p1 p2 b h1 h2 (hS' i1 e1 h3) (hS' i2 e2 h4) (hpd i1 h5) (hpd i2 h6) h7 h8
omit hb in
theorem Flo.laid (hSz : ∀ j, S j = true → j < ops.size) {L : List (Obj G.S)} {w' : World} (h : Flo fl ad w0 S a w M ok L) (k : MI C w (fxU L M Fp) ok M ok L w') (hex : Ex M ok w M ok w') {i : Nat} {o : Oper} {p : Flt G.S} (ho : ops[i]? = some o) (hi : S i = false) (hfl : fl i = some p) (hod : o.dst = some p.d) (hpl : p.d < a.tmps.size) {val : Value}
  (hn : FNow w0 w' L M ok p val) (hb : ∀ b, val.ownBlock = some b → b = w.heap.size) : Flo fl ad w0 (fun j => S j || decide (j = i)) (a.put o.dst val) w' M ok L := by
 have hS' : ∀ i', i' ≠ i → (S i' || decide (i' = i)) = true → S i' = true := fun i' h1 h2 => by simpa [h1] using h2
 have hpd : ∀ i', (∀ j, ad j = some i' → (S j || decide (j = i)) = false) → ∀ j, ad j = some i' → S j = false := fun i' h1 j hj => by
  have := h1 j hj
  simp only [Bool.or_eq_false_iff] at this
  exact this.1
 have hval : (a.put o.dst val).tmps.getD p.d undef = val := by
  rw [hod]
  simp [Act.put, Array.getD_eq_getD_getElem?, hpl]
 have hnew : ∀ i' q b, i' ≠ i → fl i' = some q → S i' = true → (∀ j, ad j = some i' → S j = false) → (a.tmps.getD q.d undef).ownBlock = some b → val.ownBlock ≠ some b := fun i' q b _ h1 h2 h3 h4 h5 => by
  obtain ⟨_, _, _, _, _, _, _, h6⟩ := h.now i' q h1 h2 h3
  have := (h6 b h4).2.1
  have := hb b h5
  omega
 refine ⟨fun i' q h1 h2 h3 => ?_, fun i1 i2 p1 p2 b h1 h2 h3 h4 h5 h6 h7 h8 => ?_⟩
 ·by_cases e : i' = i
  ·subst e
   rw [hfl] at h1; cases h1
   rw [hval]; exact hn
  ·rw [fl_tmp hd hst hSz ho h1 (hS' i' e h2) e]
   exact (h.now i' q h1 (hS' i' e h2) (hpd i' h3)).step k hex
 ·by_cases e1 : i1 = i
  ·by_cases e2 : i2 = i
   ·omega
   ·subst e1
    rw [hfl] at h1; cases h1
    rw [hval] at h7
    rw [fl_tmp hd hst hSz ho h2 (hS' i2 e2 h4) e2] at h8
    exact (hnew i2 p2 b e2 h2 (hS' i2 e2 h4) (hpd i2 h6) h8 h7).elim
  ·by_cases e2 : i2 = i
   ·subst e2
    rw [hfl] at h2; cases h2
    rw [hval] at h8
    rw [fl_tmp hd hst hSz ho h1 (hS' i1 e1 h3) e1] at h7
    exact (hnew i1 p1 b e1 h1 (hS' i1 e1 h3) (hpd i1 h5) h7 h8).elim
   ·rw [fl_tmp hd hst hSz ho h1 (hS' i1 e1 h3) e1] at h7
    rw [fl_tmp hd hst hSz ho h2 (hS' i2 e2 h4) e2] at h8
    exact h.dis i1 i2 p1 p2 b h1 h2 (hS' i1 e1 h3) (hS' i2 e2 h4) (hpd i1 h5) (hpd i2 h6) h7 h8
omit hb in
theorem Flo.taken (hSz : ∀ j, S j = true → j < ops.size) {L L' : List (Obj G.S)} {w' : World} {M' : Mem} {ok' : Okc} {p : Flt G.S} {x : MB} (h : Flo fl ad w0 S a w M ok L) (k : MI C w (fxU (L ++ [.arr p.e p.ty p.xs false]) (updM M L.length x) Fp) ok M' ok' L' w') (hex0 : Ex M ok w (updM M L.length x) ok w) (hex : Ex (updM M L.length x) ok w M' ok' w') {i i0 : Nat} {o : Oper} (ho : ops[i]? = some o) (hfl : fl i = none)
  (had : ad i = some i0) (hf0 : fl i0 = some p) (hs0 : S i0 = true) (hp0 : ∀ j, ad j = some i0 → S j = false) (hx : x.blk = (a.tmps.getD p.d undef).ownBlock) (val : Value) :
  Flo fl ad w0 (fun j => S j || decide (j = i)) (a.put o.dst val) w' M' ok' L' := by
 have hne : ∀ i' p, fl i' = some p → i' ≠ i := fun i' p h1 e => by subst e; rw [hfl] at h1; cases h1
 have hS' : ∀ i', i' ≠ i → (S i' || decide (i' = i)) = true → S i' = true := fun i' h1 h2 => by simpa [h1] using h2
 have hpd : ∀ i', (∀ j, ad j = some i' → (S j || decide (j = i)) = false) → ∀ j, ad j = some i' → S j = false := fun i' h1 j hj => by
  have := h1 j hj
  simp only [Bool.or_eq_false_iff] at this
  exact this.1
 have hn0 : ∀ i', (∀ j, ad j = some i' → (S j || decide (j = i)) = false) → i' ≠ i0 := fun i' h1 e => by
  subst e
  have := h1 i had
  simp at this
 refine ⟨fun i' q h1 h2 h3 => ?_, fun i1 i2 p1 p2 b h1 h2 h3 h4 h5 h6 h7 h8 => ?_⟩
 ·have e := hne i' q h1
  rw [fl_tmp hd hst hSz ho h1 (hS' i' e h2) e]
  refine ((h.now i' q h1 (hS' i' e h2) (hpd i' h3)).adopt x hex0 (p := p) fun b hb hxb => ?_).step k hex
  rw [hx] at hxb
  exact hn0 i' h3 (h.dis i' i0 q p b h1 hf0 (hS' i' e h2) hs0 (hpd i' h3) hp0 hb hxb)
 ·have e1 := hne i1 p1 h1
  have e2 := hne i2 p2 h2
  rw [fl_tmp hd hst hSz ho h1 (hS' i1 e1 h3) e1] at h7
  rw [fl_tmp hd hst hSz ho h2 (hS' i2 e2 h4) e2] at h8
  exact h.dis i1 i2 p1 p2 b h1 h2 (hS' i1 e1 h3) (hS' i2 e2 h4) (hpd i1 h5) (hpd i2 h6) h7 h8
omit hb hd hst in
theorem filter_less {α : Type} {p q : α → Bool} : ∀ {l : List α} {x : α}, x ∈ l → (∀ y, q y = true → p y = true) → p x = true → q x = false → (l.filter q).length + 1 ≤ (l.filter p).length
 | b :: l, x, hx, hqp, hp, hq => by
  have mono : ∀ l : List α, (l.filter q).length ≤ (l.filter p).length := by
   intro l
   induction l with
   | nil => simp
   | cons c l ih =>
    rw [List.filter_cons, List.filter_cons]
    cases hqc : q c with
    | true => simp [hqp c hqc]; exact ih
    | false => cases p c <;> simp <;> omega
  rw [List.filter_cons, List.filter_cons]
  cases hx with
  | head => have := mono l; simp [hp, hq]; exact this
  | tail _ hx =>
   have ih := filter_less hx hqp hp hq
   cases hqb : q b with
   | true => simp [hqp b hqb]; exact ih
   | false => cases p b <;> simp <;> omega
end
end
end Go.Dv

namespace Go.Dv
open Go
section
variable {G : Sig} {C : Cfg G} {ops : Array Oper} {bf : List (List Nat)} {pu : List Nat} {sf : List (Nat × Nat)} {sts curs : Nat → St G.S} {bs : Nat → Bool} {vs : Nat → V G.S} {cg : Nat → Bool} {fl : Nat → Option (Flt G.S)} {ad : Nat → Option Nat}
  {mixed : Bool} {w0 : World} {Fp : Fx} {okA : Okc} {d0 : List Deferred}
theorem ready_iff {listed : Array Bool} {i : Nat} (hi : i ∈ Region.ready .any ops listed) : ∃ o, ops[i]? = some o ∧ listed.getD i true = false ∧ ∀ e ∈ edgesOf o, listed.getD e false = true := by
 unfold Region.ready at hi
 simp only [List.mem_filter, List.mem_range, Bool.and_eq_true, Bool.not_eq_true'] at hi
 obtain ⟨h1, h2, h3⟩ := hi
 obtain ⟨o, ho⟩ := ops_lt h1
 refine ⟨o, ho, h2, fun e he => ?_⟩
 rw [ho] at h3
 simp only [Option.map_some, Option.getD_some] at h3
 simp only [edgesOf, List.mem_map, List.mem_filter] at he
 obtain ⟨x, ⟨hx1, hx2⟩, rfl⟩ := he
 rw [← Array.all_toList, List.all_eq_true] at h3
 have := h3 x hx1
 simpa [hx2] using this
theorem ready_of {listed : Array Bool} {i : Nat} {o : Oper} (ho : ops[i]? = some o) (hl : listed.getD i true = false) (he : ∀ e ∈ edgesOf o, listed.getD e false = true) : i ∈ Region.ready .any ops listed := by
 unfold Region.ready
 simp only [List.mem_filter, List.mem_range, Bool.and_eq_true, Bool.not_eq_true']
 refine ⟨ops_size ho, hl, ?_⟩
 rw [ho]
 simp only [Option.map_some, Option.getD_some]
 rw [← Array.all_toList, List.all_eq_true]
 intro x hx
 cases hb : Region.binds .any x with
 | false => rfl
 | true =>
  have := he x.on (by simp only [edgesOf, List.mem_map, List.mem_filter]; exact ⟨x, ⟨hx, hb⟩, rfl⟩)
  simp [this]
theorem getD_tf {listed : Array Bool} {i : Nat} (h : i < listed.size) : listed.getD i true = listed.getD i false := by
 simp [Array.getD_eq_getD_getElem?, h]
theorem getD_set {listed : Array Bool} {i : Nat} (h : i < listed.size) : (fun j => (listed.setIfInBounds i true).getD j false) = fun j => listed.getD j false || decide (j = i) := by
 funext j
 by_cases e : j = i
 ·subst e; simp [Array.getD_eq_getD_getElem?, h]
 ·simp [Array.getD_eq_getD_getElem?, Array.getElem?_setIfInBounds_ne (Ne.symm e), e]
theorem draw_done (hst : AllSteps C ops bf pu sf sts curs bs vs cg fl ad) {S : Nat → Bool} {a : Act} {w : World} {M : Mem} {ok : Okc} (h : DInv C ops bf sts vs cg fl ad w0 Fp okA d0 S a w M ok) (hall : ∀ i, i < ops.size → S i = true) :
  MI C w0 Fp okA M ok (sts ops.size).L w ∧ TR w ok M (sts ops.size).tm a ∧ a.defers = d0 := by
 obtain ⟨m, hm, hmi, _, h1, h2⟩ := h.mem
 have hL := sts_L hst (ops.size - m) m (by omega) (fun j hj1 hj2 => by
  cases hc : cg j with
  | false => rfl
  | true =>
   have := h2 j hj1 (by omega) hc
   rw [hall j (by omega)] at this; cases this)
 rw [show m + (ops.size - m) = ops.size by omega] at hL
 have hlen := sts_len hst ops.size (Nat.le_refl _)
 refine ⟨by rw [hL]; exact hmi, ⟨by rw [hlen, h.len], fun t y hy => ?_⟩, h.dfr⟩
 have ht : t < (sts 0).tm.length := by rw [← hlen]; exact (List.getElem?_eq_some_iff.1 hy).1
 have hget : (sts ops.size).get t = y := by unfold St.get; rw [List.getD_eq_getElem?_getD, hy]; rfl
 rw [← hget]
 rcases sts_get hst ht ops.size (Nat.le_refl _) with ⟨j, p, k1, k2, k3, k4⟩ | ⟨k1, k2⟩
 ·exact (k4 w ok M _).2 (h.wrt j p t ht k2 (hall j k1) k3)
 ·exact (k2 w ok M _).2 (h.unw t ht fun j p hp _ => k1 j p (ops_size hp) hp)
theorem draw_sim (hb : Bf ops bf) (hd : drawOk mixed ops bf = true) (hst : AllSteps C ops bf pu sf sts curs bs vs cg fl ad) {Q : Exit → Act → World → Prop} (hq5 : ∀ j j' i', ad j = some i' → ad j' = some i' → j = j')
    (hQ : ∀ M ok a w, MI C w0 Fp okA M ok (sts ops.size).L w → TR w ok M (sts ops.size).tm a → a.defers = d0 → Q .normal a w) :
    ∀ (fuel : Nat) (listed : Array Bool) (a : Act) (w : World), listed.size = ops.size → ((List.range ops.size).filter fun j => !listed.getD j false).length ≤ fuel →
      (∃ M ok, DInv C ops bf sts vs cg fl ad w0 Fp okA d0 (fun j => listed.getD j false) a w M ok) → wpAny C.P .any ops Q fuel listed a w
  | 0, listed, a, w, hsz, hf, ⟨M, ok, h⟩ => by
    have hall : ∀ i, i < ops.size → listed.getD i false = true := by
      intro i hi
      have hnil : (List.range ops.size).filter (fun j => !listed.getD j false) = [] := List.eq_nil_of_length_eq_zero (by omega)
      cases hq : listed.getD i false with
      | true => rfl
      | false =>
        have : i ∈ (List.range ops.size).filter (fun j => !listed.getD j false) := by
          simp only [List.mem_filter, List.mem_range, hq]; exact ⟨hi, rfl⟩
        rw [hnil] at this; cases this
    obtain ⟨h1, h2, h3⟩ := draw_done hst h hall
    refine ⟨?_, hQ M ok a w h1 h2 h3⟩
    cases hr : Region.ready .any ops listed with
    | nil => rfl
    | cons i l =>
      obtain ⟨o, ho, hl, _⟩ := ready_iff (ops := ops) (listed := listed) (i := i) (by rw [hr]; exact List.mem_cons_self)
      have hi := ops_size ho
      rw [getD_tf (by omega), hall i hi] at hl; cases hl
  | fuel + 1, listed, a, w, hsz, hf, ⟨M, ok, h⟩ => by
    refine ⟨fun hr => ?_, fun i hi => ?_⟩
    · have hall : ∀ i, i < ops.size → listed.getD i false = true := by
        intro i
        induction i using Nat.strongRecOn with
        | _ i ih =>
          intro hi
          cases hq : listed.getD i false with
          | true => rfl
          | false =>
            obtain ⟨o, ho⟩ := ops_lt hi
            have := ready_of (listed := listed) ho (by rw [getD_tf (by omega)]; exact hq) (fun e he => ih e (hb.lt i o ho e he) (by have := hb.lt i o ho e he; omega))
            rw [hr] at this; cases this
      obtain ⟨h1, h2, h3⟩ := draw_done hst h hall
      exact hQ M ok a w h1 h2 h3
    · obtain ⟨o, ho, hl, hed⟩ := ready_iff hi
      have hil := ops_size ho
      have hSi : (fun j => listed.getD j false) i = false := by
        show listed.getD i false = false
        rw [← getD_tf (by omega)]; exact hl
      have hbe : ∀ j, ltB bf j i = true → (fun j => listed.getD j false) j = true := by
        intro j hj
        obtain ⟨e, he, h1⟩ := hb.cases ho hj
        rcases h1 with rfl | h1
        · exact hed j he
        · have hei := hb.lt i o ho e he
          obtain ⟨p, hp⟩ := ops_lt (ops := ops) (i := e) (by omega)
          exact h.cl e p hp (hed e he) j h1
      have hs := hst i o ho
      have hreads := h.reads hb hd hst ho hSi hbe
      have hwant := hs.want w ok M a hreads
      have hlen : (curs i).tm.length = a.tmps.size := by rw [hs.len, sts_len hst i (by omega), h.len]
      have htr := mask_tr hlen hreads
      have hless : ((List.range ops.size).filter fun j => !(listed.setIfInBounds i true).getD j false).length ≤ fuel := by
        have hg := getD_set (listed := listed) (i := i) (by omega)
        have hgy : ∀ y, (listed.setIfInBounds i true).getD y false = (listed.getD y false || decide (y = i)) := fun y => congrFun hg y
        have hq0 : listed.getD i false = false := hSi
        have := filter_less (p := fun j => !listed.getD j false) (q := fun j => !(listed.setIfInBounds i true).getD j false) (l := List.range ops.size) (x := i) (by simpa using hil) (fun y hy => by
          rw [hgy y] at hy
          simp only [Bool.not_or, Bool.and_eq_true] at hy
          exact hy.1) (by rw [hq0]; rfl) (by rw [hgy i]; simp)
        omega
      have hSz : ∀ j, listed.getD j false = true → j < ops.size := fun j hj => by
        rw [← hsz]
        rcases Nat.lt_or_ge j listed.size with h1 | h1
        · exact h1
        · simp [Array.getD_eq_getD_getElem?, h1] at hj
      have more : ∀ (val : Value) (w' : World) (M' : Mem) (ok' : Okc), Ex M ok w M' ok' w' → VR w' ok' M' (vs i) val →
          (∃ m, m ≤ ops.size ∧ MI C w0 Fp okA M' ok' (sts m).L w' ∧ Flo fl ad w0 (fun j => listed.getD j false || decide (j = i)) (a.put o.dst val) w' M' ok' (sts m).L ∧ (∀ j, j < m → cg j = true → (listed.getD j false || decide (j = i)) = true) ∧ (∀ j, m ≤ j → j < ops.size → cg j = true → (listed.getD j false || decide (j = i)) = false)) →
          wpAny C.P .any ops Q fuel (listed.setIfInBounds i true) (a.put o.dst val) w' := by
        intro val w' M' ok' he hv hmem
        have hn := h.next hd ho hSi hbe he hv hmem
        refine draw_sim hb hd hst hq5 hQ fuel _ _ _ (by simpa using hsz) hless ⟨M', ok', ?_⟩
        rw [getD_set (by omega)]
        exact hn
      -- an operation that changes no objects
      have stay : ∀ (m : Nat), cg i = false → (∀ j, j < m → cg j = true → listed.getD j false = true) → (∀ j, m ≤ j → j < ops.size → cg j = true → listed.getD j false = false) →
          (∀ j, j < m → cg j = true → (listed.getD j false || decide (j = i)) = true) ∧ (∀ j, m ≤ j → j < ops.size → cg j = true → (listed.getD j false || decide (j = i)) = false) := by
        intro m hc h1 h2
        refine ⟨fun j hj hcj => by rw [h1 j hj hcj]; rfl, fun j hj1 hj2 hcj => ?_⟩
        have hne : j ≠ i := by rintro rfl; rw [hc] at hcj; cases hcj
        rw [h2 j hj1 hj2 hcj]; simp [hne]
      have same : ∀ (val : Value) (hc : cg i = false) (hfl : fl i = none),
          ∃ m, m ≤ ops.size ∧ MI C w0 Fp okA M ok (sts m).L w ∧ Flo fl ad w0 (fun j => listed.getD j false || decide (j = i)) (a.put o.dst val) w M ok (sts m).L ∧ (∀ j, j < m → cg j = true → (listed.getD j false || decide (j = i)) = true) ∧ (∀ j, m ≤ j → j < ops.size → cg j = true → (listed.getD j false || decide (j = i)) = false) := by
        intro val hc hfl
        obtain ⟨m, hm, hmi, hfo, h1, h2⟩ := h.mem
        exact ⟨m, hm, hmi, hfo.step hd hst hSz hmi.rebase (Ex.refl _ _ _) ho hfl val, stay m hc h1 h2⟩
      -- an operation that has its place in the order
      have placed : ∀ (hc : cg i = true), (∀ j, j < i + 1 → cg j = true → (listed.getD j false || decide (j = i)) = true) ∧ (∀ j, i + 1 ≤ j → j < ops.size → cg j = true → (listed.getD j false || decide (j = i)) = false) := by
        intro hc
        have hfx := (hs.fix hc).1
        refine ⟨fun j hj hcj => ?_, fun j hj1 hj2 hcj => ?_⟩
        · by_cases e : j = i
          · simp [e]
          · obtain ⟨p, hp⟩ := ops_lt (ops := ops) (i := j) (by omega)
            have hpp := ((hst j p hp).fix hcj).2
            rcases hfx j p hp e hpp.1 with h5 | h5 | h5 | ⟨b, h5, _⟩
            · have := hb.less j i (by omega) h5; omega
            · have h6 : listed.getD j false = true := hbe j h5
              rw [h6]; rfl
            · rw [hpp.2.2] at h5; cases h5
            · rw [hpp.2.1] at h5; cases h5
        · have e : j ≠ i := by omega
          obtain ⟨p, hp⟩ := ops_lt (ops := ops) (i := j) (by omega)
          have hpp := ((hst j p hp).fix hcj).2
          simp only [e, decide_false, Bool.or_false]
          cases hq : listed.getD j false with
          | false => rfl
          | true =>
            rcases hfx j p hp e hpp.1 with h5 | h5 | h5 | ⟨b, h5, _⟩
            · have h6 : listed.getD i false = true := h.cl j p hp hq i h5
              have h7 : listed.getD i false = false := hSi
              rw [h7] at h6; cases h6
            · have := hb.less i j hil h5; omega
            · rw [hpp.2.2] at h5; cases h5
            · rw [hpp.2.1] at h5; cases h5
      unfold wpOp
      simp only [ho]
      rw [hwant]
      rcases hs.stp with ⟨hbf, hvt, hcf, hfl, _⟩ | ⟨hbt, hcf, hfl, _, hpu, hfb, bx, ob, hsf, hob, hsoft⟩ | ⟨hbt, hpu, hcf, hfl, _, hpure⟩ | ⟨hbt, hpu, hsf, hfb, hfl, _, st1, hop, hL1⟩ | ⟨hbt, hpu, hsf, hcf, hvu, _, p, hfl, hod, hpl, hfop⟩ | ⟨hbt, hpu, hsf, hfb, hct, hfl, i0, p, st1, had, hi0, hf0, hlk, hop, hL1⟩
      · rw [hbf]
        simp only [Bool.false_eq_true, if_false]
        refine more undef w M ok (Ex.refl _ _ _) ?_ (same _ hcf hfl)
        rw [hvt]
        exact .tup [] [] rfl (fun j y v hj => by simp at hj)
      · rw [hbt]
        simp only [if_true]
        obtain ⟨m, hmi, hmb⟩ := h.levelS hb hst ho hSi hbe hpu hsf hfb hcf
        rw [hs.curL, ← hmb] at hob
        obtain ⟨val, hr, hv⟩ := hsoft w0 Fp okA M ok (sts m).L a w hob hmi htr
        refine .inl ?_
        unfold Oper.wp
        rw [hr, Oper.upon_value]
        exact more val w M ok (Ex.refl _ _ _) hv (same _ hcf hfl)
      · rw [hbt]
        simp only [if_true]
        refine .inl ?_
        obtain ⟨m, hm, hmi, hfo, h1, h2⟩ := h.mem
        refine (hpure (sts m).L).2.2 w _ ok M ok a w hmi.rebase htr _ _ fun val w' M' ok' hk he hv => more val w' M' ok' he hv ?_
        exact ⟨m, hm, hmi.unbase hk, hfo.step hd hst hSz hk he ho hfl val, stay m hcf h1 h2⟩
      · rw [hbt]
        simp only [if_true]
        refine .inl ?_
        obtain ⟨hmi, hfo⟩ := h.level hb hst ho hSi hbe hpu hsf hfb
        have hmi2 : MI C w (fxU (sts i).L M Fp) ok M ok (⟨maskTm (o.looksAt ops) 0 (curs i).tm, (curs i).L, (curs i).n0⟩ : St G.S).L w := by
          simp only; rw [hs.curL]; exact hmi.rebase
        refine hop.2.2 w _ ok M ok a w hmi2 htr _ _ fun val w' M' ok' hk he hv => more val w' M' ok' he hv ?_
        rw [hL1] at hk
        have hm' := hmi.unbase hk
        have hfo' := hfo.step hd hst hSz hk he ho hfl val
        cases hc : cg i with
        | true => exact ⟨i + 1, by omega, hm', hfo', placed hc⟩
        | false =>
          -- the level stays
          obtain ⟨m, hm, hmi0, _, h1, h2⟩ := h.mem
          have hkeep := hs.keep hc
          rw [hkeep] at hm' hfo'
          -- both levels carry the same list
          have hL : (sts m).L = (sts i).L := by
            have fix : ∀ j, j < ops.size → j ≠ i → cg j = true → ltB bf j i = true ∨ ltB bf i j = true := by
              intro j hj hne hcj
              obtain ⟨p, hpj⟩ := ops_lt hj
              rcases ((hst j p hpj).fix hcj).1 i o ho (Ne.symm hne) hpu with h5 | h5 | h5 | ⟨b, h5, _⟩
              · exact .inl h5
              · exact .inr h5
              · rw [hfb] at h5; cases h5
              · rw [hsf] at h5; cases h5
            rcases Nat.le_total m i with hle | hle
            · have := sts_L hst (i - m) m (by omega) (fun j hj1 hj2 => by
                cases hcj : cg j with
                | false => rfl
                | true =>
                  rcases fix j (by omega) (by omega) hcj with h5 | h5
                  · exact Bool.noConfusion ((hbe j h5).symm.trans (h2 j hj1 (by omega) hcj))
                  · have := hb.less j i (by omega) h5; omega)
              rw [show m + (i - m) = i by omega] at this
              exact this.symm
            · have := sts_L hst (m - i) i (by omega) (fun j hj1 hj2 => by
                cases hcj : cg j with
                | false => rfl
                | true =>
                  have hSj := h1 j (by omega) hcj
                  have hne : j ≠ i := by rintro rfl; exact Bool.noConfusion (hSj.symm.trans hSi)
                  rcases fix j (by omega) hne hcj with h5 | h5
                  · have := hb.less i j hil h5; omega
                  · obtain ⟨p, hpj⟩ := ops_lt (ops := ops) (i := j) (by omega)
                    exact Bool.noConfusion ((h.cl j p hpj hSj i h5).symm.trans hSi))
              rw [show i + (m - i) = m by omega] at this
              exact this
          exact ⟨m, hm, by rw [hL]; exact hm', by rw [hL]; exact hfo', stay m hc h1 h2⟩
      · rw [hbt]
        simp only [if_true]
        refine .inl ?_
        obtain ⟨m, hm, hmi, hfo, h1, h2⟩ := h.mem
        obtain ⟨val, w', hr, hmi', hex, hfn, hblk, hk⟩ := hfop w0 Fp okA M ok (sts m).L a w hmi htr
        unfold Oper.wp
        rw [hr, Oper.upon_value]
        refine more val w' M ok hex ?_ ⟨m, hm, hmi', hfo.laid hd hst hSz hk hex ho hSi hfl hod (by rw [← hlen]; exact hpl) hfn hblk, stay m hcf h1 h2⟩
        rw [hvu]
        exact .un _
      · rw [hbt]
        simp only [if_true]
        refine .inl ?_
        obtain ⟨hmi, hfo⟩ := h.level hb hst ho hSi hbe hpu hsf hfb
        obtain ⟨o0, ho0, hd0⟩ := fl_dst hd hst hf0 (by omega)
        have hS0 : listed.getD i0 false = true := by
          rcases ((drawOk_spec hd).2 i0 i o0 o ho0 ho (by omega) p.d hd0).2 hlk with h5 | h5
          · exact hbe i0 h5
          · have := hb.less i0 i (by omega) h5; omega
        have hp0 : ∀ j, ad j = some i0 → listed.getD j false = false := fun j hj => by
          have := hq5 j i i0 hj had
          subst this
          exact hSi
        obtain ⟨x, hmA, hexA, hvA, hxb⟩ := hmi.adopt (hfo.now i0 p hf0 hS0 hp0)
        have hmA2 : MI C w (fxU ((sts i).L ++ [.arr p.e p.ty p.xs false]) (updM M (sts i).L.length x) Fp) ok (updM M (sts i).L.length x) ok (⟨(maskTm (o.looksAt ops) 0 (curs i).tm).set p.d (.arr (curs i).L.length), (curs i).L ++ [.arr p.e p.ty p.xs false], (curs i).n0⟩ : St G.S).L w := by
          simp only; rw [hs.curL]; exact hmA.rebase
        have htr2 : TR w ok (updM M (sts i).L.length x) (⟨(maskTm (o.looksAt ops) 0 (curs i).tm).set p.d (.arr (curs i).L.length), (curs i).L ++ [.arr p.e p.ty p.xs false], (curs i).n0⟩ : St G.S).tm a := by
          simp only; rw [hs.curL]; exact (htr.mono hexA).set p.d hvA
        refine hop.2.2 w _ ok _ ok a w hmA2 htr2 _ _ fun val w' M' ok' hk he hv => more val w' M' ok' (hexA.trans he) hv ?_
        rw [hL1] at hk
        exact ⟨i + 1, by omega, hmA.unbase hk, hfo.taken hd hst hSz hk hexA he ho hfl had hf0 hS0 hp0 hxb val, placed hct⟩
end
section
variable {G : Sig} {C : Cfg G} {Φ : FuncId → List Item → St G.S → Option (Ret G.S)} {f : FuncId} {r : Ret G.S}
theorem MI.frzBox (hS : SigOk G) {w0 : World} {Fp : Fx} {okA : Okc} {M : Mem} {ok : Okc} {L : List (Obj G.S)} {w : World} (hm : MI C w0 Fp okA M ok L w) (o : Nat) : ∃ ok', MI C w0 Fp okA M ok' (Dv.frzBox L o) w ∧ Ex M ok w M ok' w := by
 have same : ∃ ok', MI C w0 Fp okA M ok' L w ∧ Ex M ok w M ok' w := ⟨ok, hm, fun _ _ h => h, fun _ _ _ h1 h2 => ⟨h1, h2⟩⟩
 unfold Dv.frzBox
 split
 ·rename_i te cs fz hL
  split
  ·rename_i ds hds
   split
   ·exact same
   ·rename_i hno
    obtain ⟨hf, he⟩ := hm.freeze hS (catL (reach L 20) cs)
    have hno' : o ∉ catL (reach L 20) cs := fun h => hno (List.contains_iff_mem.2 h)
    have hFo : (Dv.freeze L (catL (reach L 20) cs))[o]? = some (.box te cs fz) := (freeze_keep _ hno').trans hL
    have hlt : o < (Dv.freeze L (catL (reach L 20) cs)).length := (List.getElem?_eq_some_iff.1 hFo).1
    have inv : ∀ (q : Nat) (ob : Obj G.S), ((Dv.freeze L (catL (reach L 20) cs)).set o (.box te ds fz))[q]? = some ob → ∃ ob0, (Dv.freeze L (catL (reach L 20) cs))[q]? = some ob0 ∧ (ob.live → ob0.live) ∧ ∀ off, ob0.rd off → ob.rd off := by
     intro q ob hq
     by_cases e : q = o
     ·subst e
      rw [List.getElem?_set_self hlt] at hq
      cases hq
      exact ⟨_, hFo, fun _ => trivial, fun _ h => h⟩
     ·rw [List.getElem?_set_ne (Ne.symm e)] at hq
      exact ⟨ob, hq, id, fun _ h => h⟩
    refine ⟨_, ⟨fun q ob hq => ?_, fun q x hx => ?_, fun o1 o2 ob1 ob2 b h1 h2 l1 l2 b1 b2 => ?_, fun q ob b off hq hl hb hk => ?_, fun q ob b hq hl hb => ?_, fun q ob b hq hl hb => ?_, hf.rdA, hf.lt, hf.okN, hf.glob, hf.os, hf.tape, hf.output, hf.size, hf.frame, hf.gt, hf.pin⟩, he⟩
    ·by_cases e : q = o
     ·subst e
      rw [List.getElem?_set_self hlt] at hq
      cases hq
      obtain ⟨b, l, k1, k2, k3⟩ := hm.objs q _ hL
      refine ⟨b, l, k1, k2, ?_⟩
      obtain ⟨g1, g2⟩ := mapO_get hds
      refine ⟨g1.trans k3.1, fun j y u hj hu => ?_⟩
      obtain ⟨x, hx, hsn⟩ := g2 j y hj
      refine snap_ok hS hm 20 x y u _ hsn (fun p hp => ?_) (k3.2 j x u hx hu)
      rw [List.contains_iff_mem]
      exact catL_mem (List.mem_of_getElem? hx) hp
     ·rw [List.getElem?_set_ne (Ne.symm e)] at hq
      exact hf.objs q ob hq
    ·rw [List.length_set]; exact hf.dom q x hx
    ·obtain ⟨_, h1, k1, _⟩ := inv _ _ h1
     obtain ⟨_, h2, k2, _⟩ := inv _ _ h2
     exact hf.dis o1 o2 _ _ b h1 h2 (k1 l1) (k2 l2) b1 b2
    ·obtain ⟨_, h1, k1, k2⟩ := inv _ _ hq
     exact k2 off (hf.own q _ b off h1 (k1 hl) hb hk)
    ·obtain ⟨_, h1, k1, _⟩ := inv _ _ hq
     exact hf.old q _ b h1 (k1 hl) hb
    ·obtain ⟨_, h1, k1, _⟩ := inv _ _ hq
     exact hf.flt q _ b h1 (k1 hl) hb
  ·exact same
 ·exact same
theorem MI.frzBoxes (hS : SigOk G) {w0 : World} {Fp : Fx} {okA : Okc} {M : Mem} {w : World} : ∀ (bs : List Nat) {ok : Okc} {L : List (Obj G.S)}, MI C w0 Fp okA M ok L w → ∃ ok', MI C w0 Fp okA M ok' (bs.foldl Dv.frzBox L) w ∧ Ex M ok w M ok' w
 | [], ok, L, hm => ⟨ok, hm, fun _ _ h => h, fun _ _ _ h1 h2 => ⟨h1, h2⟩⟩
 | b :: bs, ok, L, hm => by
  obtain ⟨ok1, h1, e1⟩ := hm.frzBox hS b
  obtain ⟨ok2, h2, e2⟩ := MI.frzBoxes hS bs h1
  exact ⟨ok2, h2, e1.trans e2⟩
theorem drawT0_ok (hS : SigOk G) (hΦ : PhiOK C Φ) (hE : ExtOK C) {ops : Array Oper} {st : St G.S} {k : St G.S → Tree G.S} (h : (drawT0 C ops st k).run G Φ f = some r) :
  ∃ st', st'.n0 = st.n0 ∧ (k st').run G Φ f = some r ∧ ∀ (w0 : World) (Fp : Fx) (okA : Okc) (M : Mem) (ok : Okc) (a : Act) (w : World) (id : Nat), MI C w0 Fp okA M ok st.L w → TR w ok M st.tm a →
   (Code.region id ops true).wp C.P (fun e a' w' => e = .normal ∧ ∃ M' ok', MI C w0 Fp okA M' ok' st'.L w' ∧ TR w' ok' M' st'.tm a' ∧ a'.defers = a.defers) a w := by
 unfold drawT0 at h
 split at h
 ·rename_i bf hbf
  split at h
  ·rename_i hd
   obtain ⟨sts, curs, bs, vs, cg, fl, ad, h0, hk, hfa, hst⟩ := evDraw_fun hS hΦ hE ops.toList [] 0 st k (fun p hp => by cases hp) List.Pairwise.nil h
   have hst' : AllSteps C ops bf (puS C st ops bf) ((sfGo (arOf st.L) (refT 0 st.tm) [] ops.toList 0).filter fun p => !fixedB C ops bf (puS C st ops bf) p.1) sts curs bs vs cg fl ad := by
    intro j o ho
    have := hst j o (by simpa using ho)
    rw [Nat.zero_add] at this
    exact this
   rw [Nat.zero_add, Array.length_toList] at hk
   have hn0 : ∀ i, i ≤ ops.size → (sts i).n0 = st.n0 := by
    intro i
    induction i with
    | zero => intro _; rw [h0]
    | succ i ih =>
     intro hi
     obtain ⟨o, ho⟩ := ops_lt (ops := ops) (i := i) (by omega)
     rw [(hst' i o ho).n0, ih (by omega)]
   refine ⟨sts ops.size, hn0 _ (Nat.le_refl _), hk, fun w0 Fp okA M ok a w id hm ht => wp_region_draw fun t => ?_⟩
   have hsched : Region.schedule (C.P.follows .mixedOrders) ops t = Region.linearise .any ops t := by
    unfold Region.schedule
    rcases (drawOk_spec hd).1 with h1 | h1
    ·simp [h1]
    ·simp [h1]
   rw [hsched]
   have hx : Ex M ok w M ok { w with drawn := w.drawn + 1 } := ⟨fun _ _ h => h, fun _ _ _ h1 h2 => ⟨h1, h2⟩⟩
   have hxx : ∀ M', Ex M' ok w M' ok { w with drawn := w.drawn + 1 } := fun M' => ⟨fun _ _ h => h, fun _ _ _ h1 h2 => ⟨h1, h2⟩⟩
   have hm' : MI C w0 Fp okA M ok st.L { w with drawn := w.drawn + 1 } :=
    ⟨fun o ob h => (hm.objs o ob h).mono hx (fun _ h => h) (fun _ _ => rfl), hm.dom, hm.dis, hm.own, hm.old, hm.flt, hm.rdA, hm.lt, hm.okN, hm.glob.mono (hxx M).rd, hm.os, hm.tape, hm.output, hm.size, hm.frame, hm.gt, hm.pin⟩
   have ht' : TR { w with drawn := w.drawn + 1 } ok M st.tm a := ht.mono hx
   refine wpAny_sound ops.size t _ a _ (draw_sim (w0 := w0) (Fp := Fp) (okA := okA) (d0 := a.defers) (bf_of hbf) hd hst' hfa.q5 (fun M ok a w h1 h2 h3 => ⟨rfl, M, ok, h1, h2, h3⟩) ops.size _ a _ (by simp) (by
    have := List.length_filter_le (fun j => !(Array.replicate ops.size false).getD j false) (List.range ops.size)
    simpa using this) ⟨M, ok, ⟨0, by omega, by rw [h0]; exact hm', ⟨fun i p _ hS _ => ?_, fun i i' p p' b _ _ hS _ _ _ _ _ => ?_⟩, fun j hj => by omega, fun j _ hj _ => by simp [Array.getD_eq_getD_getElem?, hj]⟩, rfl, by rw [h0]; exact ht'.1.symm, fun t ht0 _ => by rw [h0]; exact ht'.get t, fun j o t _ ho hS _ => ?_, fun i o ho hS => ?_⟩)
   ·rcases Nat.lt_or_ge i ops.size with h1 | h1 <;> simp [Array.getD_eq_getD_getElem?, h1] at hS
   ·rcases Nat.lt_or_ge i ops.size with h1 | h1 <;> simp [Array.getD_eq_getD_getElem?, h1] at hS
   ·have := ops_size ho
    simp [Array.getD_eq_getD_getElem?, this] at hS
   ·have := ops_size ho
    simp [Array.getD_eq_getD_getElem?, this] at hS
  ·exact run_fail h
 ·exact run_fail h
theorem drawT_ok (hS : SigOk G) (hΦ : PhiOK C Φ) (hE : ExtOK C) {ops : Array Oper} {st : St G.S} {k : St G.S → Tree G.S} (h : (drawT C ops st k).run G Φ f = some r) :
  ∃ st', st'.n0 = st.n0 ∧ (k st').run G Φ f = some r ∧ ∀ (w0 : World) (Fp : Fx) (okA : Okc) (M : Mem) (ok : Okc) (a : Act) (w : World) (id : Nat), MI C w0 Fp okA M ok st.L w → TR w ok M st.tm a →
   (Code.region id ops true).wp C.P (fun e a' w' => e = .normal ∧ ∃ M' ok', MI C w0 Fp okA M' ok' st'.L w' ∧ TR w' ok' M' st'.tm a' ∧ a'.defers = a.defers) a w := by
 unfold drawT at h
 split at h
 ·split at h
  ·exact drawT0_ok hS hΦ hE h
  ·rw [forceO_eq] at h
   obtain ⟨st', h1, h2, h3⟩ := drawT0_ok hS hΦ hE h
   refine ⟨st', h1, h2, fun w0 Fp okA M ok a w id hm ht => ?_⟩
   obtain ⟨ok', hm', he⟩ := hm.frzBoxes hS _
   exact h3 w0 Fp okA M ok' a w id hm' (ht.mono he)
 ·exact run_fail h
end
end Go.Dv

namespace Go.Dv
open Go
section
variable {G : Sig} {C : Cfg G} {Φ : FuncId → List Item → St G.S → Option (Ret G.S)} {f : FuncId} {r : Ret G.S}
theorem Runs.of_steps {P : Program} {b : Frame} {cs : List Frame} {a a' : Act} {todo todo' : List Item} {w w' : World} {R : Value → World → Prop} (h : Steps P (lone (b.at a todo) cs w) (lone (b.at a' todo') cs w')) (k : Runs P b cs a' todo' w' R) : Runs P b cs a todo w R := by
 obtain ⟨v, w2, fr, h1, h2, h3, h4⟩ := k
 exact ⟨v, w2, fr, h1, h.trans h2, h3, h4⟩
theorem Runs.head {P : Program} {b : Frame} {cs : List Frame} {a a' : Act} {todo todo' : List Item} {w w' : World} {R : Value → World → Prop} (h : step P (lone (b.at a todo) cs w) = .next (lone (b.at a' todo') cs w')) (k : Runs P b cs a' todo' w' R) : Runs P b cs a todo w R :=
 .of_steps (.one h) k
theorem ev_ok (hS : SigOk G) (hΦ : PhiOK C Φ) (hE : ExtOK C) : ∀ (n : Nat) (q : Bool) (todo : List Item) (st : St G.S), (ev C f n q todo st).run G Φ f = some r →
  ∀ (w0 : World) (Fp : Fx) (okA : Okc) (M : Mem) (ok : Okc) (b : Frame) (cs : List Frame) (a : Act) (w : World),
  (∀ i x, Fp.pin i = some x → i < st.n0) → b.fn = f → b.kind = .normal → a.defers = [] → MI C w0 Fp okA M ok st.L w → TR w ok M st.tm a → Runs C.P b cs a todo w (PostM C w0 Fp okA r)
 | 0, q, todo, st, h => run_fail h
 | n + 1, q, todo, st, h => by
  intro w0 Fp okA M ok b cs a w hnp hb hk hd hm ht
  have ih := ev_ok hS hΦ hE n
  unfold ev at h
  split at h
  ·exact retN_ok hS h hnp hb hk hd hm ht step_end
  ·exact retN_ok hS h hnp hb hk hd hm ht step_ret
  ·exact .head step_skip (ih _ _ _ h w0 Fp okA M ok b cs a w hnp hb hk hd hm ht)
  ·exact .head step_seq (ih _ _ _ h w0 Fp okA M ok b cs a w hnp hb hk hd hm ht)
  ·rename_i c x y k
   obtain ⟨t, st', hL, hn, hp, h⟩ := part_opd h
   obtain ⟨ht', hc⟩ := hp w0 Fp okA w ok M a hm ht
   exact .head (step_cond hc) (ih _ _ _ h w0 Fp okA M ok b cs a w (by rw [hn]; exact hnp) hb hk hd (by rw [hL]; exact hm) ht')
  ·exact .head step_block (ih _ _ _ h w0 Fp okA M ok b cs a w hnp hb hk hd hm ht)
  ·exact .head step_inBlock (ih _ _ _ h w0 Fp okA M ok b cs a w hnp hb hk hd hm ht)
  ·exact .head step_loop (ih _ _ _ h w0 Fp okA M ok b cs a w hnp hb hk hd hm ht)
  ·exact .head step_inLoop (ih _ _ _ h w0 Fp okA M ok b cs a w hnp hb hk hd hm ht)
  ·rename_i id k
   split at h
   ·rename_i k' hx
    exact .head (step_exit hx) (ih _ _ _ h w0 Fp okA M ok b cs a w hnp hb hk hd hm ht)
   ·exact run_fail h
  ·rename_i id ops draw k
   split at h
   ·rename_i keep hcut
    obtain ⟨st1, h, e1, e2, e3⟩ := normT_ok (C := C) hS forceO_eq h
    obtain ⟨M1, k1, k2⟩ := e3 w0 Fp okA M ok w hm
    have ht1 : TR w ok M1 st1.tm a := by rw [e1]; exact ht.mono k2
    split at h
    ·rename_i st' hr
     rw [forceO_eq, forceL_eq] at h
     have un : (unnS (C.unl f) st1).tm = st1.tm ∧ (unnS (C.unl f) st1).n0 = st1.n0 := by unfold unnS; split <;> exact ⟨rfl, rfl⟩
     obtain ⟨hn, M', ok', hm', ht'⟩ := restrict_ok hS hr (by rw [un.2, e2]; exact hnp) (k1.unn (C.unl f) st1 rfl) (by rw [un.1]; exact ht1)
     rw [un.2] at hn
     simp only [Tree.run] at h
     exact hΦ f _ _ r h w0 Fp okA M' ok' b cs a w (by rw [e2]; exact hnp) hb hk hd hm' ht'
    ·exact run_fail h
   ·split at h
    ·rename_i hdr
     subst hdr
     obtain ⟨st', hn, h', hw⟩ := drawT_ok hS hΦ hE h
     obtain ⟨e, a', w', ⟨rfl, M', ok', h1, h2, h3⟩, harr⟩ := hw w0 Fp okA M ok a w id hm ht b k cs
     exact .of_steps harr (ih _ _ _ h' w0 Fp okA M' ok' b cs a' w' (by rw [hn]; exact hnp) hb hk (by rw [h3, hd]) h1 h2)
    ·rename_i hdr
     have hdr' : draw = false := by simpa using hdr
     subst hdr'
     obtain ⟨st', hn, h', hw⟩ := evOps_ok hS hΦ hE ops.toList 0 st _ (by simp) h
     have hwp := hw w0 Fp okA M ok a w hm ht (fun e a' w' => e = .normal ∧ ∃ M' ok', MI C w0 Fp okA M' ok' st'.L w' ∧ TR w' ok' M' st'.tm a' ∧ a'.defers = a.defers) (fun M' ok' a' w' h1 h2 h3 => ⟨rfl, M', ok', h1, h2, h3⟩)
     rw [Array.length_toList, ← List.range_eq_range'] at hwp
     obtain ⟨e, a', w', ⟨rfl, M', ok', h1, h2, h3⟩, harr⟩ := wp_ops _ a w hwp b k cs
     exact .of_steps (.head step_region harr) (ih _ _ _ h' w0 Fp okA M' ok' b cs a' w' (by rw [hn]; exact hnp) hb hk (by rw [h3, hd]) h1 h2)
  ·exact run_fail h
theorem phi_ok (hS : SigOk G) (hE : ExtOK C) : ∀ n, PhiOK C (Phi C n)
 | 0 => fun f todo st r h => by cases h
 | n + 1 => fun f todo st r h w0 Fp okA M ok b cs a w hnp hb hk hd hm ht =>
  ev_ok hS (phi_ok hS hE n) hE 4000 (start todo) todo st h w0 Fp okA M ok b cs a w hnp hb hk hd hm ht
end
end Go.Dv

namespace Go.Dv
open Go
section
variable {G : Sig} {C : Cfg G} {f : FuncId}
def Ple (Φ Ψ : FuncId → List Item → St G.S → Option (Ret G.S)) : Prop := ∀ f todo st r, Φ f todo st = some r → Ψ f todo st = some r
theorem run_mono {Φ Ψ : FuncId → List Item → St G.S → Option (Ret G.S)} (h : Ple Φ Ψ) : ∀ (t : Tree G.S) (r : Ret G.S), t.run G Φ f = some r → t.run G Ψ f = some r := by
 intro t
 induction t with
 | ret q => intro r hr; exact hr
 | fail n => intro r hr; exact hr
 | br b t e iht ihe =>
  intro r hr
  simp only [Tree.run] at hr ⊢
  split at hr
  ·rename_i hb; rw [if_pos hb]; exact iht r hr
  ·rename_i hb; rw [if_neg hb]; exact ihe r hr
 | bnd o k ih =>
  intro r hr
  simp only [Tree.run] at hr ⊢
  cases o with
  | none => cases hr
  | some x => exact ih x r hr
 | call g todo st rt k ih =>
  intro r hr
  simp only [Tree.run] at hr ⊢
  cases hp : Φ g todo st with
  | none => rw [hp] at hr; cases hr
  | some q =>
   rw [hp] at hr
   rw [h g todo st q hp]
   simp only [Option.bind_some] at hr ⊢
   cases hq : prjR G rt q.1 with
   | none => rw [hq] at hr; cases hr
   | some p => rw [hq] at hr; simp only [Option.bind_some] at hr ⊢; exact ih p r hr
 | callR g todo st rt bt k ih =>
  intro r hr
  simp only [Tree.run] at hr ⊢
  cases hp : Φ g todo st with
  | none => rw [hp] at hr; cases hr
  | some q =>
   rw [hp] at hr
   rw [h g todo st q hp]
   simp only [Option.bind_some] at hr ⊢
   cases hq : prjRB G rt bt q with
   | none => rw [hq] at hr; cases hr
   | some p => rw [hq] at hr; simp only [Option.bind_some] at hr ⊢; exact ih p.1 p.2 r hr
 | callO g todo st ot k ih =>
  intro r hr
  simp only [Tree.run] at hr ⊢
  cases hp : Φ g todo st with
  | none => rw [hp] at hr; cases hr
  | some q =>
   rw [hp] at hr
   rw [h g todo st q hp]
   simp only [Option.bind_some] at hr ⊢
   cases hq : prjO G ot q with
   | none => rw [hq] at hr; cases hr
   | some p => rw [hq] at hr; simp only [Option.bind_some] at hr ⊢; exact ih p r hr
 | callW g todo st rt wt k ih =>
  intro r hr
  simp only [Tree.run] at hr ⊢
  cases hp : Φ g todo st with
  | none => rw [hp] at hr; cases hr
  | some q =>
   rw [hp] at hr
   rw [h g todo st q hp]
   simp only [Option.bind_some] at hr ⊢
   cases hq : prjW G rt wt q with
   | none => rw [hq] at hr; cases hr
   | some p => rw [hq] at hr; simp only [Option.bind_some] at hr ⊢; exact ih p.1 p.2 r hr
 | callY g todo st ot bt k ih =>
  intro r hr
  simp only [Tree.run] at hr ⊢
  cases hp : Φ g todo st with
  | none => rw [hp] at hr; cases hr
  | some q =>
   rw [hp] at hr
   rw [h g todo st q hp]
   simp only [Option.bind_some] at hr ⊢
   cases hq : prjY G ot bt q with
   | none => rw [hq] at hr; cases hr
   | some p => rw [hq] at hr; simp only [Option.bind_some] at hr ⊢; exact ih p.1 p.2 r hr
 | jump todo st => intro r hr; exact h _ _ _ _ hr
theorem phi_step : ∀ n, Ple (Phi C n) (Phi C (n + 1))
 | 0 => fun f todo st r h => by cases h
 | n + 1 => fun f todo st r h => run_mono (phi_step n) _ r h
theorem phi_le {m n : Nat} (h : m ≤ n) : Ple (Phi C m) (Phi C n) := by
 induction h with
 | refl => exact fun _ _ _ _ h => h
 | step _ ih => exact fun f todo st r h => phi_step _ f todo st r (ih f todo st r h)
open Classical in
noncomputable def Den (C : Cfg G) (f : FuncId) (todo : List Item) (st : St G.S) : Option (Ret G.S) :=
 if h : ∃ r, ∃ n, Phi C n f todo st = some r then some h.choose else none
theorem den_of {n : Nat} {todo : List Item} {st : St G.S} {r : Ret G.S} (h : Phi C n f todo st = some r) : Den C f todo st = some r := by
 have hex : ∃ r, ∃ n, Phi C n f todo st = some r := ⟨r, n, h⟩
 unfold Den
 rw [dif_pos hex]
 obtain ⟨m, hm⟩ := hex.choose_spec
 have h1 := phi_le (Nat.le_max_left n m) f todo st _ h
 have h2 := phi_le (Nat.le_max_right n m) f todo st _ hm
 rw [h1] at h2
 exact h2.symm
theorem den_ex {todo : List Item} {st : St G.S} {r : Ret G.S} (h : Den C f todo st = some r) : ∃ n, Phi C n f todo st = some r := by
 unfold Den at h
 split at h
 ·rename_i hex
  cases h
  exact hex.choose_spec
 ·cases h
theorem run_den : ∀ (t : Tree G.S) (r : Ret G.S), t.run G (Den C) f = some r → ∃ n, t.run G (Phi C n) f = some r := by
 intro t
 induction t with
 | ret q => intro r hr; exact ⟨0, hr⟩
 | fail n => intro r hr; cases hr
 | br b t e iht ihe =>
  intro r hr
  simp only [Tree.run] at hr ⊢
  split at hr
  ·rename_i hb; simp only [if_pos hb]; exact iht r hr
  ·rename_i hb; simp only [if_neg hb]; exact ihe r hr
 | bnd o k ih =>
  intro r hr
  simp only [Tree.run] at hr ⊢
  cases o with
  | none => cases hr
  | some x => exact ih x r hr
 | call g todo st rt k ih =>
  intro r hr
  simp only [Tree.run] at hr ⊢
  cases hp : Den C g todo st with
  | none => rw [hp] at hr; cases hr
  | some q =>
   rw [hp] at hr
   simp only [Option.bind_some] at hr
   cases hq : prjR G rt q.1 with
   | none => rw [hq] at hr; cases hr
   | some p =>
    rw [hq] at hr
    simp only [Option.bind_some] at hr
    obtain ⟨n, hn⟩ := den_ex hp
    obtain ⟨m, hm⟩ := ih p r hr
    refine ⟨max n m, ?_⟩
    rw [phi_le (Nat.le_max_left n m) _ _ _ _ hn]
    simp only [Option.bind_some, hq]
    exact run_mono (phi_le (Nat.le_max_right n m)) _ r hm
 | callR g todo st rt bt k ih =>
  intro r hr
  simp only [Tree.run] at hr ⊢
  cases hp : Den C g todo st with
  | none => rw [hp] at hr; cases hr
  | some q =>
   rw [hp] at hr
   simp only [Option.bind_some] at hr
   cases hq : prjRB G rt bt q with
   | none => rw [hq] at hr; cases hr
   | some p =>
    rw [hq] at hr
    simp only [Option.bind_some] at hr
    obtain ⟨n, hn⟩ := den_ex hp
    obtain ⟨m, hm⟩ := ih p.1 p.2 r hr
    refine ⟨max n m, ?_⟩
    rw [phi_le (Nat.le_max_left n m) _ _ _ _ hn]
    simp only [Option.bind_some, hq]
    exact run_mono (phi_le (Nat.le_max_right n m)) _ r hm
 | callO g todo st ot k ih =>
  intro r hr
  simp only [Tree.run] at hr ⊢
  cases hp : Den C g todo st with
  | none => rw [hp] at hr; cases hr
  | some q =>
   rw [hp] at hr
   simp only [Option.bind_some] at hr
   cases hq : prjO G ot q with
   | none => rw [hq] at hr; cases hr
   | some p =>
    rw [hq] at hr
    simp only [Option.bind_some] at hr
    obtain ⟨n, hn⟩ := den_ex hp
    obtain ⟨m, hm⟩ := ih p r hr
    refine ⟨max n m, ?_⟩
    rw [phi_le (Nat.le_max_left n m) _ _ _ _ hn]
    simp only [Option.bind_some, hq]
    exact run_mono (phi_le (Nat.le_max_right n m)) _ r hm
 | callW g todo st rt wt k ih =>
  intro r hr
  simp only [Tree.run] at hr ⊢
  cases hp : Den C g todo st with
  | none => rw [hp] at hr; cases hr
  | some q =>
   rw [hp] at hr
   simp only [Option.bind_some] at hr
   cases hq : prjW G rt wt q with
   | none => rw [hq] at hr; cases hr
   | some p =>
    rw [hq] at hr
    simp only [Option.bind_some] at hr
    obtain ⟨n, hn⟩ := den_ex hp
    obtain ⟨m, hm⟩ := ih p.1 p.2 r hr
    refine ⟨max n m, ?_⟩
    rw [phi_le (Nat.le_max_left n m) _ _ _ _ hn]
    simp only [Option.bind_some, hq]
    exact run_mono (phi_le (Nat.le_max_right n m)) _ r hm
 | callY g todo st ot bt k ih =>
  intro r hr
  simp only [Tree.run] at hr ⊢
  cases hp : Den C g todo st with
  | none => rw [hp] at hr; cases hr
  | some q =>
   rw [hp] at hr
   simp only [Option.bind_some] at hr
   cases hq : prjY G ot bt q with
   | none => rw [hq] at hr; cases hr
   | some p =>
    rw [hq] at hr
    simp only [Option.bind_some] at hr
    obtain ⟨n, hn⟩ := den_ex hp
    obtain ⟨m, hm⟩ := ih p.1 p.2 r hr
    refine ⟨max n m, ?_⟩
    rw [phi_le (Nat.le_max_left n m) _ _ _ _ hn]
    simp only [Option.bind_some, hq]
    exact run_mono (phi_le (Nat.le_max_right n m)) _ r hm
 | jump todo st =>
  intro r hr
  exact den_ex hr
theorem den_eq (C : Cfg G) (f : FuncId) (todo : List Item) (st : St G.S) : Den C f todo st = (ev C f 4000 (start todo) todo st).run G (Den C) f := by
 cases h : (ev C f 4000 (start todo) todo st).run G (Den C) f with
 | some r =>
  obtain ⟨n, hn⟩ := run_den _ r h
  exact den_of (n := n + 1) hn
 | none =>
  cases hd : Den C f todo st with
  | none => rfl
  | some r =>
   obtain ⟨n, hn⟩ := den_ex hd
   cases n with
   | zero => cases hn
   | succ n =>
    have := run_mono (Ψ := Den C) (fun f todo st r h => den_of h) _ r hn
    rw [h] at this; cases this
theorem den_ok (hS : SigOk G) (hE : ExtOK C) : PhiOK C (Den C) := fun f todo st r h => by
 obtain ⟨n, hn⟩ := den_ex h
 exact phi_ok hS hE n f todo st r hn
theorem runP_eq {Φ : FuncId → List Item → St G.S → Option (Ret G.S)} {α : Type} (p : Ret G.S → Option α) : ∀ t : Tree G.S, (t.run G Φ f).bind p = t.runP G Φ f p := by
 intro t
 induction t with
 | ret r => rfl
 | fail n => rfl
 | br b t e iht ihe =>
  simp only [Tree.run, Tree.runP]
  split
  ·exact iht
  ·exact ihe
 | bnd o k ih =>
  simp only [Tree.run, Tree.runP]
  cases o with
  | none => rfl
  | some x => exact ih x
 | call g todo st rt k ih =>
  simp only [Tree.run, Tree.runP]
  cases (Φ g todo st).bind fun q => prjR G rt q.1 with
  | none => rfl
  | some x => exact ih x
 | callR g todo st rt bt k ih =>
  simp only [Tree.run, Tree.runP]
  cases (Φ g todo st).bind fun q => prjRB G rt bt q with
  | none => rfl
  | some x => exact ih x.1 x.2
 | callO g todo st ot k ih =>
  simp only [Tree.run, Tree.runP]
  cases (Φ g todo st).bind fun q => prjO G ot q with
  | none => rfl
  | some x => exact ih x
 | callW g todo st rt wt k ih =>
  simp only [Tree.run, Tree.runP]
  cases (Φ g todo st).bind fun q => prjW G rt wt q with
  | none => rfl
  | some x => exact ih x.1 x.2
 | callY g todo st ot bt k ih =>
  simp only [Tree.run, Tree.runP]
  cases (Φ g todo st).bind fun q => prjY G ot bt q with
  | none => rfl
  | some x => exact ih x.1 x.2
 | jump todo st => rfl
theorem den_run (C : Cfg G) (f : FuncId) (todo : List Item) (st : St G.S) {α : Type} (p : Ret G.S → Option α) :
  (Den C f todo st).bind p = (ev C f 4000 (start todo) todo st).runP G (Den C) f p := by
 rw [den_eq, runP_eq]
def lblIn (id : Nat) : Code → List Item → Option (List Item)
 | .region i ops d, k => if i = id then some (.code (.region i ops d) :: k) else none
 | .seq x y, k => match lblIn id x (.code y :: k) with
  | some t => some t
  | none => lblIn id y k
 | .cond _ x y, k => match lblIn id x k with
  | some t => some t
  | none => lblIn id y k
 | .block i x, k => lblIn id x (.inBlock i :: k)
 | .loop x, k => lblIn id x (.inLoop x :: k)
 | _, _ => none
def bodyT (C : Cfg G) (f : FuncId) : List Item := match C.P.funcs[f]? with
 | some fn => match fn.body with
  | some c => [.code c]
  | none => []
 | none => []
def lbl (C : Cfg G) (f : FuncId) (id : Nat) : List Item := match C.P.funcs[f]? with
 | some fn => match fn.body with
  | some c => (lblIn id c []).getD []
  | none => []
 | none => []
def ntmps (C : Cfg G) (f : FuncId) : Nat := match C.P.funcs[f]? with
 | some fn => fn.ntmps
 | none => 0
noncomputable def Fn (C : Cfg G) (f : FuncId) (rt : List Ty) (vs : List (V G.S)) : Option (rDen G.S rt) :=
 (Den C f (bodyT C f) ⟨vs ++ List.replicate (ntmps C f - vs.length) .un, [], 0⟩).bind fun r => prjR G rt r.1
theorem fn_calls (hS : SigOk G) (hE : ExtOK C) {g : FuncId} {fn : Func} {body : Code} (hf : C.P.funcs[g]? = some fn) (hb : fn.body = some body) {rt : List Ty} {vs : List (V G.S)} {p : rDen G.S rt} (h : Fn C g rt vs = some p)
  (hn : vs.length ≤ fn.ntmps) {w : World} {ok : Okc} {vals : List Value} (hlt : ∀ b off, ok b off → b < w.heap.size) (hg : GlobX C w ok) (hv : VRs w ok Mem.no vs vals) :
  Calls C.P g vals.toArray w (fun e w' => ∃ v, e = .returned v ∧ (∃ M' ok', VR w' ok' M' (injR G rt p) v ∧ ∀ b off, ok' b off → ok b off ∨ w.heap.size ≤ b) ∧
   w'.os = w.os ∧ w'.tape = w.tape ∧ w'.output = w.output ∧ w.heap.size ≤ w'.heap.size ∧ ∀ b, b < w.heap.size → w'.heap[b]? = w.heap[b]?) := by
 unfold Fn at h
 have hbt : bodyT C g = [.code body] := by simp [bodyT, hf, hb]
 have hnt : ntmps C g = fn.ntmps := by simp [ntmps, hf]
 rw [hbt, hnt] at h
 cases hd : Den C g [.code body] ⟨vs ++ List.replicate (fn.ntmps - vs.length) .un, [], 0⟩ with
 | none => rw [hd] at h; cases h
 | some r =>
  rw [hd] at h
  simp only [Option.bind_some] at h
  have hm : MI C w Fx.no ok Mem.no ok [] w :=
   ⟨fun o ob h => by simp at h, fun o x h => by simp [Mem.no] at h, fun o1 o2 ob1 ob2 b h => by simp at h, fun o ob b off h => by simp at h, fun o ob b h => by simp at h, fun o ob b h => by simp at h, fun _ _ h => h, hlt, fun _ _ h => .inl h, hg.1, rfl, rfl, rfl, Nat.le_refl _, fun _ _ _ => rfl, hg.2, fun i x h => by cases h⟩
  refine (calls_of_phi (den_ok hS hE) hf hb hm hv hn hd).mono ?_
  rintro e w' ⟨v, rfl, hp⟩
  obtain ⟨M', ok', h1, h2, _⟩ := hp.res
  refine ⟨v, rfl, ⟨M', ok', prjR_ok hS h h1, fun b off hk => ?_⟩, hp.os, hp.tape, hp.output, hp.size, fun b hb => hp.frame b hb (fun h => h)⟩
  rcases h2 b off hk with h | h | h
  ·exact .inl h
  ·exact .inr h
  ·exact h.elim
end
end Go.Dv

namespace Go.Dv
open Go
section
variable {G : Sig}
def WfV (G : Sig) : Nat → V G.S → Prop
 | 0, _ => True
 | k + 1, v => match v with
  | .int t n => (Lit.int t n).wf = true
  | .str s => s.length ≤ maxLen
  | .sl t xs => xs.length ≤ maxLen ∧ ∀ x ∈ xs, ∀ c ∈ Ty.cells G t x, WfV G k c
  | .st n x => ∀ c ∈ G.cells n x, WfV G k c
  | _ => True
inductive Leaves (G : Sig) : List Ty → List (V G.S) → Prop
 | nil : Leaves G [] []
 | cons (t : Ty) (x : t.den G.S) (ts : List Ty) (vs : List (V G.S)) (h : Leaves G ts vs) : Leaves G (t :: ts) (inj G t x :: vs)
theorem Leaves.append {a b : List Ty} {u v : List (V G.S)} (h : Leaves G a u) (k : Leaves G b v) : Leaves G (a ++ b) (u ++ v) := by
 induction h with
 | nil => exact k
 | cons t x ts vs h ih => exact .cons t x _ _ ih
structure Opn (G : Sig) where
 P : Program
 tab : List (TypeId × Ty)
 cty : Nat → List Ty
def find2 (t : TypeId) : List (TypeId × Ty) → Option Ty
 | [] => none
 | (a, b) :: r => if a = t then some b else find2 t r
theorem find2_mem {t : TypeId} {ty : Ty} : ∀ {l : List (TypeId × Ty)}, find2 t l = some ty → (t, ty) ∈ l
 | (a, b) :: r, h => by
  simp only [find2] at h
  split at h
  ·rename_i e; cases h; subst e; exact List.mem_cons_self
  ·exact List.mem_cons_of_mem _ (find2_mem h)
section
variable (O : Opn G)
mutual
def flat : Nat → TypeId → Option (List Ty)
 | 0, _ => none
 | m + 1, t => match O.P.underlying t with
  | some (.struct fs) => match flatFs m fs.toList 0 with
   | some l => if l.length = O.P.cellsOf t then some l else none
   | none => none
  | some (.int k) => some [.int k]
  | some .bool => some [.bool]
  | some .string => some [.str]
  | some (.slice e) => match find2 e O.tab with
   | some ty => some [.sl ty]
   | none => none
  | _ => none
def flatFs : Nat → List Field → Nat → Option (List Ty)
 | 0, _, _ => none
 | _ + 1, [], _ => some []
 | m + 1, f :: r, off => if f.offset = off then match flat m f.type with
  | some l => if l.length = O.P.cellsOf f.type then match flatFs m r (off + l.length) with
   | some l' => some (l ++ l')
   | none => none
   else none
  | none => none
  else none
end
def ctys (O : Opn G) : Ty → List Ty
 | .st n => O.cty n
 | t => [t]
def aggB (P : Program) (t : TypeId) : Bool := match P.underlying t with
 | some (.struct _) => true
 | some (.array _ _) => true
 | _ => false
def Ty.isSt : Ty → Bool
 | .st _ => true
 | _ => false
def closedT : Bool := O.tab.all fun p => decide (flat O 40 p.1 = some (ctys O p.2)) && decide (O.P.cellsOf p.1 = Ty.sz G p.2) && decide (0 < Ty.sz G p.2) && (aggB O.P p.1 == p.2.isSt)
end
structure OpnOk (O : Opn G) : Prop where
 closed : closedT O = true
 tot : ∀ n vs, Leaves G (O.cty n) vs → ∃ x, G.make n vs = some x ∧ G.cells n x = vs
theorem OpnOk.get {O : Opn G} (hO : OpnOk O) {t : TypeId} {ty : Ty} (h : find2 t O.tab = some ty) : flat O 40 t = some (ctys O ty) ∧ O.P.cellsOf t = Ty.sz G ty ∧ 0 < Ty.sz G ty ∧ aggB O.P t = ty.isSt := by
 have := hO.closed
 unfold closedT at this
 rw [List.all_eq_true] at this
 have h1 := this _ (find2_mem h)
 simp only [Bool.and_eq_true, decide_eq_true_eq, beq_iff_eq] at h1
 exact ⟨h1.1.1.1, h1.1.1.2, h1.1.2, h1.2⟩
section
variable {O : Opn G} {H : Type} {enc : TypeId × Value → H} {w : World} {spare : Nat → Bool} {held : Bool}
def okOld (w : World) : Okc := fun b _ => b < w.heap.size
theorem spot_none {w : World} {a : Addr} {v : Value} (h : w.cell? a = some v) : a.spot = none := by
 unfold World.cell? at h
 split at h
 ·cases hs : a.spot with
  | none => rfl
  | some s => rw [hs] at h; simp at h
 ·cases h
theorem cells?_get {w : World} {base : Nat} {a : Addr} {n : Nat} {cs : List Value} (h : w.cells? base a n = some cs) : cs.length = n ∧ ∀ j, j < n → w.cell? (a.add j) = cs[j]? := by
 unfold World.cells? at h
 split at h
 ·refine ⟨by simpa using mapM_some_length h, fun j hj => ?_⟩
  have := mapM_some_get h j j (by simp [hj])
  exact this
 ·cases h
theorem leaves_len {ts : List Ty} {vs : List (V G.S)} (h : Leaves G ts vs) : ts.length = vs.length := by
 induction h with
 | nil => rfl
 | cons t x ts vs h ih => simp [ih]
theorem find_ty (hO : OpnOk O) {ty : Ty} {e : TypeId} (h : find2 e O.tab = some ty) {vs : List (V G.S)} (hl : Leaves G (ctys O ty) vs) : ∃ x : ty.den G.S, Ty.cells G ty x = vs := by
 cases ty with
 | st n => obtain ⟨x, _, h2⟩ := hO.tot n vs hl; exact ⟨x, h2⟩
 | int k => cases hl with | cons t x ts vs h => cases h; exact ⟨x, rfl⟩
 | bool => cases hl with | cons t x ts vs h => cases h; exact ⟨x, rfl⟩
 | str => cases hl with | cons t x ts vs h => cases h; exact ⟨x, rfl⟩
 | sl t => cases hl with | cons t x ts vs h => cases h; exact ⟨x, rfl⟩
 | ptr t => cases hl with | cons t x ts vs h => cases h; exact ⟨x, rfl⟩
theorem choose_list {α β : Type} {p : Nat → α → β → Prop} : ∀ (n : Nat), (∀ i, i < n → ∃ x c, p i x c) → ∃ xs : List α, xs.length = n ∧ ∀ i x, xs[i]? = some x → ∃ c, p i x c
 | 0, _ => ⟨[], rfl, fun i x h => by simp at h⟩
 | n + 1, h => by
  obtain ⟨xs, h1, h2⟩ := choose_list n (fun i hi => h i (by omega))
  obtain ⟨x, c, hx⟩ := h n (by omega)
  refine ⟨xs ++ [x], by simp [h1], fun i y hi => ?_⟩
  by_cases hlt : i < xs.length
  ·rw [List.getElem?_append_left hlt] at hi; exact h2 i y hi
  ·rw [List.getElem?_append_right (by omega)] at hi
   have : i - xs.length = 0 := by have := (List.getElem?_eq_some_iff.1 hi).1; simp at this; omega
   rw [this] at hi
   simp at hi; subst hi
   have : i = n := by omega
   subst this
   exact ⟨c, hx⟩
theorem open_ok (hO : OpnOk O) : ∀ (fuel : Nat),
    (∀ (m : Nat) (t : TypeId) (tys : List Ty) (cs : List Value) (y : DataW H × List MemPlace), flat O m t = some tys → DataW.trod enc O.P w 0 spare held fuel t cs = some y →
      ∃ vs, Leaves G tys vs ∧ VRs w (okOld w) Mem.no vs cs ∧ ∀ k, ∀ v ∈ vs, WfV G k v) := by
  intro fuel
  induction fuel with
  | zero => intro m t tys cs y _ h; simp [DataW.trod] at h
  | succ n ih =>
    intro m t tys cs y hf h
    cases m with
    | zero => simp [flat] at hf
    | succ m =>
      unfold flat at hf
      split at hf
      · rename_i fs hu
        have hf0 : flatFs O m fs.toList 0 = some tys ∧ tys.length = O.P.cellsOf t := by
          split at hf
          · rename_i l hl
            split at hf
            · rename_i hlen; cases hf; exact ⟨hl, hlen⟩
            · cases hf
          · cases hf
        clear hf
        obtain ⟨hf, hcl⟩ := hf0
        obtain ⟨xs, n', hn, _, hlen, hxl, hget⟩ := DataW.trod_struct hu h
        cases hn
        have key : ∀ (m : Nat) (l : List Field) (off : Nat) (tys : List Ty), flatFs O m l off = some tys → (∀ f ∈ l, ∃ x, DataW.trod enc O.P w 0 spare held n f.type ((cs.drop f.offset).take (O.P.cellsOf f.type)) = some x) →
            ∃ vs, Leaves G tys vs ∧ VRs w (okOld w) Mem.no vs ((cs.drop off).take tys.length) ∧ ∀ k, ∀ v ∈ vs, WfV G k v := by
          intro m
          induction m with
          | zero => intro l off tys h; simp [flatFs] at h
          | succ m ihm =>
            intro l off tys h hall
            cases l with
            | nil => simp [flatFs] at h; subst h; exact ⟨[], .nil, by simp; exact .nil, fun k v hv => by cases hv⟩
            | cons f r =>
              simp only [flatFs] at h
              split at h
              · rename_i hoff
                split at h
                · rename_i l1 h1
                  split at h
                  · rename_i hl1
                    split at h
                    · rename_i l2 h2
                      cases h
                      obtain ⟨x, hx⟩ := hall f (by simp)
                      obtain ⟨vs1, a1, a2, a3⟩ := ih m f.type l1 _ x h1 hx
                      obtain ⟨vs2, b1, b2, b3⟩ := ihm r (off + l1.length) l2 h2 (fun g hg => hall g (by simp [hg]))
                      refine ⟨vs1 ++ vs2, a1.append b1, ?_, fun k v hv => ?_⟩
                      · have := a2.append b2
                        rw [hoff, ← hl1] at this
                        have e : (cs.drop off).take (l1 ++ l2).length = (cs.drop off).take l1.length ++ (cs.drop (off + l1.length)).take l2.length := by
                          rw [List.length_append, List.take_add, List.drop_drop]
                        rw [e]
                        exact this
                      · rw [List.mem_append] at hv
                        rcases hv with hv | hv
                        · exact a3 k v hv
                        · exact b3 k v hv
                    · cases h
                  · cases h
                · cases h
              · cases h
        obtain ⟨vs, h1, h2, h3⟩ := key m fs.toList 0 tys hf (fun f hf => by
          obtain ⟨i, hi⟩ := List.mem_iff_getElem?.1 hf
          have hi' : fs[i]? = some f := by simpa using hi
          have hil : i < xs.length := by rw [hxl]; exact (Array.getElem?_eq_some_iff.1 hi').1
          exact ⟨xs[i], by rw [hget i f hi']; exact List.getElem?_eq_getElem hil⟩)
        refine ⟨vs, h1, ?_, h3⟩
        rw [List.drop_zero, List.take_of_length_le (by rw [hlen, hcl]; exact Nat.le_refl _)] at h2
        exact h2
      · rename_i k hu
        cases hf
        obtain ⟨z, rfl, _, hw⟩ := DataW.trod_int hu h
        refine ⟨[.int k z], .cons (.int k) z [] [] .nil, .sing (.int _ _), fun q v hv => ?_⟩
        simp at hv; subst hv
        cases q with
        | zero => trivial
        | succ q => exact hw
      · rename_i hu
        cases hf
        obtain ⟨z, rfl, _⟩ := DataW.trod_bool hu h
        refine ⟨[.bool z], .cons .bool z [] [] .nil, .sing (.bool _), fun q v hv => ?_⟩
        simp at hv; subst hv
        cases q <;> trivial
      · rename_i hu
        cases hf
        obtain ⟨z, rfl, _, hw⟩ := DataW.trod_string hu h
        refine ⟨[.str z.data.toList], .cons .str z.data.toList [] [] .nil, .sing (.str _), fun q v hv => ?_⟩
        simp at hv; subst hv
        cases q with
        | zero => trivial
        | succ q => show z.data.toList.length ≤ _; simpa using hw
      · rename_i e hu
        split at hf
        · rename_i ty hty
          cases hf
          obtain ⟨hfl, hsz, hpos, _⟩ := hO.get hty
          rcases DataW.trod_slice hu h with ⟨rfl, _⟩ | ⟨a, len, cap, elems, rest, n', hn, rfl, _, _, hlc, hcm, hel, hget, _⟩
          · refine ⟨[.sl ty []], .cons (.sl ty) [] [] [] .nil, .sing (.sl0 _ _ _), fun q v hv => ?_⟩
            simp at hv; subst hv
            cases q with
            | zero => trivial
            | succ q => exact ⟨Nat.zero_le _, fun x hx => by cases hx⟩
          · cases hn
            have hone : ∀ i, i < len → ∃ (x : ty.den G.S) (cs : List Value), w.cells? 0 (a.add (i * Ty.sz G ty)) (Ty.sz G ty) = some cs ∧ VRs w (okOld w) Mem.no (Ty.cells G ty x) cs ∧ ∀ k, ∀ c ∈ Ty.cells G ty x, WfV G k c := by
              intro i hi
              have := hget i hi
              rw [hsz] at this
              have hel' : elems[i]? = some elems[i] := List.getElem?_eq_getElem (by rw [hel]; exact hi)
              rw [hel'] at this
              simp only [Option.bind_eq_some_iff] at this
              obtain ⟨cs, h1, h2⟩ := this
              obtain ⟨vs, g1, g2, g3⟩ := ih 40 e _ cs _ hfl h2
              obtain ⟨x, hx⟩ := find_ty hO hty g1
              subst hx
              exact ⟨x, cs, h1, g2, g3⟩
            obtain ⟨xs, hxl, hxs⟩ := choose_list len hone
            rcases Nat.eq_zero_or_pos len with hl0 | hl0
            · subst hl0
              refine ⟨[.sl ty []], .cons (.sl ty) [] [] [] .nil, .sing (.sl0 _ _ _), fun q v hv => ?_⟩
              simp at hv; subst hv
              cases q with
              | zero => trivial
              | succ q => exact ⟨Nat.zero_le _, fun x hx => by cases hx⟩
            · obtain ⟨b, off, sp⟩ := a
              have hsp : sp = none := by
                obtain ⟨x, cs, h1, h2, _⟩ := hone 0 hl0
                have h3 := (cells?_get h1).2 0 hpos
                have hcl : 0 < cs.length := by rw [(cells?_get h1).1]; exact hpos
                rw [List.getElem?_eq_getElem hcl] at h3
                have h4 := spot_none h3
                simpa [Addr.add] using h4
              subst hsp
              refine ⟨[.sl ty xs], .cons (.sl ty) xs [] [] .nil, .sing ?_, fun q v hv => ?_⟩
              · have hget' : ∀ (i : Nat) (x : ty.den G.S) (j : Nat) (y : V G.S), xs[i]? = some x → (Ty.cells G ty x)[j]? = some y → ∃ v, w.cell? ⟨b, off + (i * Ty.sz G ty + j), none⟩ = some v ∧ VR w (okOld w) Mem.no y v := by
                  intro i x j y hi hj
                  obtain ⟨cs, h1, h2, _⟩ := hxs i x hi
                  obtain ⟨v, hv, hvr⟩ := h2.get hj
                  have hjl : j < Ty.sz G ty := by rw [← (cells?_get h1).1]; exact (List.getElem?_eq_some_iff.1 hv).1
                  have h3 := (cells?_get h1).2 j hjl
                  rw [addr_add, addr_add, hv, Nat.add_assoc] at h3
                  exact ⟨v, h3, hvr⟩
                rw [← hxl]
                refine .sl1 ty xs b off cap (fun i j => (w.cell? ⟨b, off + (i * Ty.sz G ty + j), none⟩).getD undef) (by rw [hxl]; exact hlc) (fun i x j y hi hj => ?_) (fun i x j y hi hj => ?_)
                · obtain ⟨v, h1, h2⟩ := hget' i x j y hi hj
                  rw [h1]
                  exact ⟨rfl, World.block_lt_of_cell? w _ h1⟩
                · obtain ⟨v, h1, h2⟩ := hget' i x j y hi hj
                  rw [h1]
                  exact h2
              · simp at hv; subst hv
                cases q with
                | zero => trivial
                | succ q =>
                  refine ⟨by rw [hxl]; omega, fun x hx c hc => ?_⟩
                  obtain ⟨i, hi⟩ := List.mem_iff_getElem?.1 hx
                  obtain ⟨cs, _, _, h3⟩ := hxs i x hi
                  exact h3 q c hc
        · cases hf
      · cases hf
end
end
end Go.Dv

namespace Go.Dv
open Go Go.RowKit Go.ChangeShapes
section
variable {G : Sig} {C : Cfg G} {O : Opn G}
section
variable {H : Type} {enc : TypeId × Value → H} {w : World} {spare : Nat → Bool} {held : Bool} {base : Nat} {P : Program}
theorem cell_one {P : Program} {w : World} {r : Reach} {base : Nat} {t : TypeId} {v : Value} (h : Value.okWide P w r base t v) (hu : (∀ fs, P.underlying t ≠ some (.struct fs)) ∧ ∀ n e, P.underlying t ≠ some (.array n e)) : ∀ cs, v ≠ .agg cs := by
 intro cs e
 subst e
 unfold Value.okWide at h
 split at h
 ·rename_i fs hu'; exact hu.1 _ hu'
 ·rename_i n e hu'; exact hu.2 _ _ hu'
 ·unfold Cell.okWide at h
  split at h <;> simp_all [Cell.ok]
theorem cells_non {v : Value} (h : ∀ cs, v ≠ .agg cs) : v.cells = #[v] := by
 cases v <;> first | rfl | exact (h _ rfl).elim
theorem arg_ok (hO : OpnOk O) {t : TypeId} {ty : Ty} (hf : find2 t O.tab = some ty) {v : Value} {d : DataW H} {p : List MemPlace} (h : DataW.Trod enc O.P w 0 spare held t v d p) (hok : Value.okWide O.P w .any base t v) :
    ∃ x : ty.den G.S, VR w (okOld w) Mem.no (inj G ty x) v ∧ ∀ k, WfV G k (inj G ty x) := by
  obtain ⟨fuel, h⟩ := h
  obtain ⟨hfl, hsz, hpos, hag⟩ := hO.get hf
  obtain ⟨vs, h1, h2, h3⟩ := open_ok hO fuel 40 t _ _ _ hfl h
  obtain ⟨x, hx⟩ := find_ty hO hf h1
  subst hx
  by_cases hst : ty.isSt = true
  · cases ty with
    | st n =>
      have hagg : ∃ cs, v = .agg cs := by
        rw [hst] at hag
        unfold aggB at hag
        unfold Value.okWide at hok
        split at hok
        · obtain ⟨cs, h, _⟩ := hok; exact ⟨cs, h⟩
        · obtain ⟨cs, h, _⟩ := hok; exact ⟨cs, h⟩
        · split at hag <;> simp_all
      obtain ⟨cs, rfl⟩ := hagg
      refine ⟨x, ?_, fun k => ?_⟩
      · have := VR.st n x cs.toList h2.1 h2.2
        rw [Array.toArray_toList] at this
        exact this
      · cases k with
        | zero => trivial
        | succ k => exact h3 k
    | _ => cases hst
  · have hnag := cell_one hok (by
      have hf : ty.isSt = false := by simpa using hst
      rw [hf] at hag
      unfold aggB at hag
      refine ⟨fun fs e => ?_, fun n e' e => ?_⟩
      · rw [e] at hag; cases hag
      · rw [e] at hag; cases hag)
    rw [cells_non hnag] at h2
    have hlist : ∀ (y : V G.S), VRs w (okOld w) Mem.no [y] #[v].toList → VR w (okOld w) Mem.no y v := fun y hy => hy.2 0 y v rfl rfl
    cases ty with
    | st n => exact (hst rfl).elim
    | int k => exact ⟨x, hlist _ h2, fun q => h3 q _ (by simp [Ty.cells, inj])⟩
    | bool => exact ⟨x, hlist _ h2, fun q => h3 q _ (by simp [Ty.cells, inj])⟩
    | str => exact ⟨x, hlist _ h2, fun q => h3 q _ (by simp [Ty.cells, inj])⟩
    | sl t => exact ⟨x, hlist _ h2, fun q => h3 q _ (by simp [Ty.cells, inj])⟩
    | ptr t => exact ⟨x, hlist _ h2, fun q => h3 q _ (by simp [Ty.cells, inj])⟩
theorem args_ok (hO : OpnOk O) : ∀ {ts : List TypeId} {tys : List Ty}, ts.map (find2 · O.tab) = tys.map some → ∀ {vs : List Value} {ds : List (DataW H)} {p : List MemPlace}, DataW.TrodAll enc O.P w 0 spare held ts vs ds p →
  (∀ (j : Nat) t v, ts[j]? = some t → vs[j]? = some v → Value.okWide O.P w .any base t v) →
  ∃ us, Leaves G tys us ∧ VRs w (okOld w) Mem.no us vs ∧ (∀ k, ∀ u ∈ us, WfV G k u) ∧ ds.length = ts.length
 | [], [], _, vs, ds, p, h, _ => by
  obtain ⟨rfl, rfl, rfl⟩ := trodAll_nil h
  exact ⟨[], .nil, .nil, fun k u hu => (List.not_mem_nil hu).elim, rfl⟩
 | t :: ts, ty :: tys, hm, vs, ds, p, h, hok => by
  obtain ⟨v, vs', d, ds', p1, q, rfl, rfl, rfl, h1, h2⟩ := trodAll_cons h
  simp only [List.map_cons, List.cons.injEq] at hm
  obtain ⟨x, g1, g2⟩ := arg_ok hO hm.1 h1 (hok 0 t v rfl rfl)
  obtain ⟨us, k1, k2, k3, k4⟩ := args_ok hO hm.2 h2 (fun j t' v' hj hv => hok (j + 1) t' v' (by simpa using hj) (by simpa using hv))
  refine ⟨inj G ty x :: us, .cons ty x _ _ k1, .cons g1 k2, fun k u hu => ?_, by simp [k4]⟩
  cases hu with
  | head => exact g2 k
  | tail _ hu => exact k3 k u hu
 | [], _ :: _, hm, _, _, _, _, _ => by simp at hm
 | _ :: _, [], hm, _, _, _, _, _ => by simp at hm
theorem carry_all {P : Program} (hl : laidOutB P = true) {W W' : World} (hb : Below W.heap.size W W') : ∀ {ts : List TypeId}, (∀ t ∈ ts, P.readableRec t = true ∧ t < P.types.size) → ∀ {vs : List Value} {ds : List (DataW H)} {p : List MemPlace},
  DataW.TrodAll enc P W 0 (fun _ => true) true ts vs ds p → (∀ x ∈ p, x.block < W.heap.size) → DataW.TrodAll enc P W' 0 (fun b => decide (b < W.heap.size)) true ts vs ds p
 | [], _, vs, ds, p, h, _ => by
  obtain ⟨rfl, rfl, rfl⟩ := trodAll_nil h
  exact rfl
 | t :: ts, hr, vs, ds, p, h, hlt => by
  obtain ⟨v, vs', d, ds', p1, q, rfl, rfl, rfl, h1, h2⟩ := trodAll_cons h
  refine ⟨p1, q, Below.trod hl (hr t (by simp)).1 (hr t (by simp)).2 h1 hb (fun x hx => hlt x (by simp [hx])), carry_all hl hb (fun t ht => hr t (by simp [ht])) h2 (fun x hx => hlt x (by simp [hx])), rfl⟩
end
theorem row_calls (hS : SigOk G) (hE : ExtOK C) (hO : OpnOk O) (hP : O.P = C.P) {f : FuncId} {fn : Func} {body : Code} (hf : C.P.funcs[f]? = some fn) (hb : fn.body = some body)
  {tys : List Ty} (htys : fn.params.toList.map (find2 · O.tab) = tys.map some) (hnt : fn.params.size ≤ fn.ntmps) {tb : TypeId} (hrt : fn.resultTypes = #[tb]) (hbool : C.P.underlying tb = some .bool)
  (hlaid : laidOutB C.P = true) (hrd : ∀ t ∈ fn.params.toList, C.P.readableRec t = true ∧ t < C.P.types.size) {s : ChangeSpec} (hs : s.vars = [])
  (hsf : ∀ (H : Type) (ds : List (DataW H)), ds.length = fn.params.size → s.fn H ds = { results := [.lit (.bool true)], args := ds })
  (hpure : ∀ us, Leaves G tys us → (∀ k, ∀ u ∈ us, WfV G k u) → Fn C f [.bool] us = some true)
  {H : Type} {enc : TypeId × Value → H} {apart handsOn : Bool} (W : World) (base : Nat) (args : Array Value) (ds gs : List (DataW H)) (before : List MemPlace)
  (hglob : GlobX C W (okOld W)) (hval : ∀ (j : Nat) t v, fn.params[j]? = some t → args[j]? = some v → Value.okWide C.P W .any base t v)
  (hW : DataW.Whole enc C.P fn.params.toList s.vars apart W args.toList ds gs before) :
  Calls C.P f args W fun e W' => ∃ v, e = .returned v ∧ s.post enc C.P fn apart true handsOn false W args v W' := by
 have hW' := hW
 obtain ⟨p, q, hA, hV, rfl, hfz, hnd⟩ := hW
 have hA' : DataW.TrodAll enc O.P W 0 (fun _ => true) true fn.params.toList args.toList ds p := by rw [hP]; exact hA
 obtain ⟨us, h1, h2, h3, h4⟩ := args_ok (base := base) hO htys hA' (fun j t v hj hv => by rw [hP]; exact hval j t v (by simpa using hj) (by simpa using hv))
 have hfn := hpure us h1 h3
 have hul : us.length = fn.params.size := by
  have := congrArg List.length htys
  simp only [List.length_map, Array.length_toList] at this
  rw [← leaves_len h1, ← this]
 have hc := fn_calls hS hE hf hb hfn (by rw [hul]; exact hnt) (w := W) (ok := okOld W) (fun b off h => h) hglob h2
 rw [Array.toArray_toList] at hc
 refine hc.mono ?_
 rintro e W' ⟨v, rfl, ⟨M', ok', hv, _⟩, hos, htape, hout, hsz, hfr⟩
 have hvb : v = .bool true := by
  generalize hgen : injR G [Ty.bool] (true : Bool) = u at hv
  have : u = .bool true := hgen.symm
  subst this
  cases hv; rfl
 subst hvb
 have hbel : Below W.heap.size W W' := ⟨hos, htape, hout, hsz, hfr⟩
 have hgs : gs = [] ∧ q = [] := by
  rw [hs] at hV
  cases gs with
  | nil => exact ⟨rfl, hV⟩
  | cons _ _ => exact hV.elim
 obtain ⟨rfl, rfl⟩ := hgs
 have hds : ds.length = fn.params.size := by rw [h4, Array.length_toList]
 refine ⟨_, rfl, ds, [], p ++ [], [], p, [], hW', ?_, ?_, ?_, hbel.frame _, fun h => by cases h⟩
 ·rw [List.append_nil, hsf H ds hds, hrt]
  exact trodAll_mk1 ⟨1, by simp [DataW.trod, hbool, Value.cells]⟩
 ·rw [List.append_nil, hsf H ds hds]
  exact carry_all hlaid hbel hrd hA (fun x hx => by have := hW'.lt x (by simp [hx]); exact this)
 ·rw [List.append_nil, hsf H ds hds, hs]
  rfl
end
end Go.Dv

namespace Go.Dv
open Go
section
variable (S : Nat → Type)
def Ty.leaf : Ty → Bool
 | .st _ => false
 | .ptr _ => false
 | .sl t => t.np
 | _ => true
def cellOf : (t : Ty) → t.den S → V S
 | .int k, n => .int k n
 | .bool, b => .bool b
 | .str, s => .str s
 | .sl t, xs => .sl t xs
 | .st n, x => .st n x
 | .ptr _, _ => .un
def lDen : List Ty → Type
 | [] => Unit
 | t :: r => t.den S × lDen r
def cellsL : (ts : List Ty) → lDen S ts → List (V S)
 | [], _ => []
 | t :: r, p => cellOf S t p.1 :: cellsL r p.2
def pl0 : (t : Ty) → V S → Option (t.den S)
 | .int k, .int k' n => if k' = k then some n else none
 | .bool, .bool b => some b
 | .bool, .lb b => some b
 | .str, .str s => some s
 | .sl t, .sl t' xs => if h : t' = t then some (h ▸ xs) else none
 | .sl _, .nil _ _ => some []
 | _, _ => none
def prjL : (ts : List Ty) → List (V S) → Option (lDen S ts)
 | [], [] => some ()
 | t :: r, c :: cs => match pl0 S t c with
  | some x => match prjL r cs with
   | some y => some (x, y)
   | none => none
  | none => none
 | _, _ => none
end
section
variable {G : Sig}
theorem pl0_ok {t : Ty} {c : V G.S} {x : t.den G.S} (h : pl0 G.S t c = some x) {w : World} {ok : Okc} {M : Mem} {v : Value} (hv : VR w ok M c v) : VR w ok M (cellOf G.S t x) v := by
 cases t with
 | int k =>
  cases c <;> first | (cases h; done) | skip
  rename_i k' n
  simp only [pl0] at h
  split at h
  ·rename_i e; cases h; subst e; exact hv
  ·cases h
 | bool =>
  cases c <;> first | (cases h; done) | skip
  ·have h' := Option.some.inj h; subst h'; exact hv
  ·have h' := Option.some.inj h; subst h'; cases hv; exact .bool _
 | str =>
  cases c <;> first | (cases h; done) | skip
  have h' := Option.some.inj h; subst h'; exact hv
 | sl t =>
  cases c <;> first | (cases h; done) | skip
  ·rename_i t' xs
   simp only [pl0] at h
   split at h
   ·rename_i e; subst e; cases h; exact hv
   ·cases h
  ·have h' := Option.some.inj h; subst h'; cases hv; exact .sl0 _ _ _
 | st n => cases c <;> cases h
 | ptr t => cases c <;> cases h
theorem prjL_ok : ∀ {ts : List Ty} {cs : List (V G.S)} {p : lDen G.S ts}, prjL G.S ts cs = some p → ∀ {w : World} {ok : Okc} {M : Mem} {l : List Value}, VRs w ok M cs l → VRs w ok M (cellsL G.S ts p) l
 | [], [], p, h, w, ok, M, l, hv => hv
 | [], _ :: _, p, h, _, _, _, _, _ => by cases h
 | t :: ts, [], p, h, _, _, _, _, _ => by cases h
 | t :: ts, c :: cs, p, h, w, ok, M, l, hv => by
  obtain ⟨v, l', rfl, h1, h2⟩ := hv.inv
  simp only [prjL] at h
  split at h
  ·rename_i x hx
   split at h
   ·rename_i y hy
    cases h
    exact .cons (pl0_ok hx h1) (prjL_ok hy h2)
   ·cases h
  ·cases h
theorem cellsL_len : ∀ (ts : List Ty) (p : lDen G.S ts), (cellsL G.S ts p).length = ts.length
 | [], _ => rfl
 | t :: ts, p => by simp [cellsL, cellsL_len ts p.2]
theorem cellsL_scal : ∀ (ts : List Ty) (p : lDen G.S ts), ts.all Ty.leaf = true → (cellsL G.S ts p).all V.scal = true
 | [], _, _ => rfl
 | t :: ts, p, h => by
  simp only [List.all_cons, Bool.and_eq_true] at h
  simp only [cellsL, List.all_cons, cellsL_scal ts p.2 h.2, Bool.and_true]
  cases t with
  | sl t => exact h.1
  | st n => cases h.1
  | ptr t => cases h.1
  | _ => rfl
theorem pl0_inj {t : Ty} (x : t.den G.S) (h : t.leaf = true) : pl0 G.S t (inj G t x) = some x ∧ cellOf G.S t x = inj G t x := by
 cases t with
 | int k => exact ⟨by simp [pl0, inj], rfl⟩
 | bool => exact ⟨rfl, rfl⟩
 | str => exact ⟨rfl, rfl⟩
 | sl t => exact ⟨by simp [pl0, inj], rfl⟩
 | st n => cases h
 | ptr t => cases h
theorem prjL_leaves : ∀ {ts : List Ty} {vs : List (V G.S)}, ts.all Ty.leaf = true → Leaves G ts vs → ∃ p, prjL G.S ts vs = some p ∧ cellsL G.S ts p = vs
 | [], vs, _, h => by cases h; exact ⟨(), rfl, rfl⟩
 | t :: ts, vs, hl, h => by
  cases h with
  | cons _ x _ vs h =>
   simp only [List.all_cons, Bool.and_eq_true] at hl
   obtain ⟨p, h1, h2⟩ := prjL_leaves hl.2 h
   obtain ⟨h3, h4⟩ := pl0_inj x hl.1
   exact ⟨(x, p), by simp [prjL, h3, h1], by simp only [cellsL, h4, h2]⟩
theorem pl0_canon {t : Ty} {c : V G.S} {x : t.den G.S} (h : pl0 G.S t c = some x) (hc : c.scal = true) : cellOf G.S t x = c := by
 cases t with
 | int k =>
  cases c <;> first | (cases h; done) | skip
  rename_i k' n
  simp only [pl0] at h
  split at h
  ·rename_i e; cases h; subst e; rfl
  ·cases h
 | bool =>
  cases c <;> first | (cases h; done) | (cases hc; done) | skip
  have h' := Option.some.inj h; subst h'; rfl
 | str =>
  cases c <;> first | (cases h; done) | skip
  have h' := Option.some.inj h; subst h'; rfl
 | sl t =>
  cases c <;> first | (cases h; done) | (cases hc; done) | skip
  rename_i t' xs
  simp only [pl0] at h
  split at h
  ·rename_i e; subst e; cases h; rfl
  ·cases h
 | st n => cases c <;> cases h
 | ptr t => cases c <;> cases h
theorem prjL_canon : ∀ {ts : List Ty} {cs : List (V G.S)} {p : lDen G.S ts}, prjL G.S ts cs = some p → cs.all V.scal = true → cellsL G.S ts p = cs
 | [], [], p, h, _ => rfl
 | [], c :: cs, p, h, _ => by cases h
 | t :: ts, [], p, h, _ => by cases h
 | t :: ts, c :: cs, p, h, hc => by
  simp only [List.all_cons, Bool.and_eq_true] at hc
  simp only [prjL] at h
  split at h
  ·rename_i x hx
   split at h
   ·rename_i y hy
    cases h
    simp only [cellsL]
    rw [pl0_canon hx hc.1, prjL_canon hy hc.2]
   ·cases h
  ·cases h
theorem cellsL_scl : ∀ (ts : List Ty) (p : lDen G.S ts), ts.all Ty.flat = true → (cellsL G.S ts p).all V.scl = true
 | [], p, _ => rfl
 | t :: ts, p, h => by
  simp only [List.all_cons, Bool.and_eq_true] at h
  simp only [cellsL, List.all_cons, cellsL_scl ts p.2 h.2, Bool.and_true]
  cases t <;> first | rfl | cases h.1
structure SOk (G : Sig) (n : Nat) (ts : List Ty) (to : G.S n → lDen G.S ts) (of : lDen G.S ts → G.S n) : Prop where
 csz : G.csz n = ts.length
 cells : ∀ x, G.cells n x = cellsL G.S ts (to x)
 make : ∀ cs, G.make n cs = (prjL G.S ts cs).map of
 leaf : ts.all Ty.leaf = true
 inv : ∀ p, to (of p) = p
 fl : G.fl n = ts.all Ty.flat
structure SLaw (G : Sig) (n : Nat) : Prop where
 len : ∀ x, (G.cells n x).length = G.csz n
 make : ∀ cs x, G.make n cs = some x → ∀ w ok M l, VRs (G := G) w ok M cs l → VRs w ok M (G.cells n x) l
 imm : ∀ x, (G.cells n x).all V.scal = true
 fl : ∀ x, G.fl n = true → (G.cells n x).all V.scl = true
 mkc : ∀ cs x, G.make n cs = some x → cs.all V.scal = true → G.cells n x = cs
theorem SOk.law {n : Nat} {ts : List Ty} {to : G.S n → lDen G.S ts} {of : lDen G.S ts → G.S n} (h : SOk G n ts to of) : SLaw G n := by
 refine ⟨fun x => ?_, fun cs x hx w ok M l hv => ?_, fun x => ?_, fun x hf => ?_, fun cs x hx hc => ?_⟩
 ·rw [h.cells, cellsL_len, h.csz]
 ·rw [h.make] at hx
  cases hp : prjL G.S ts cs with
  | none => rw [hp] at hx; cases hx
  | some p =>
   rw [hp] at hx
   cases hx
   rw [h.cells, h.inv]
   exact prjL_ok hp hv
 ·rw [h.cells]; exact cellsL_scal _ _ h.leaf
 ·rw [h.cells]; exact cellsL_scl _ _ (by rw [← h.fl]; exact hf)
 ·rw [h.make] at hx
  cases hp : prjL G.S ts cs with
  | none => rw [hp] at hx; cases hx
  | some p =>
   rw [hp] at hx
   cases hx
   rw [h.cells, h.inv]
   exact prjL_canon hp hc
theorem SOk.tot {n : Nat} {ts : List Ty} {to : G.S n → lDen G.S ts} {of : lDen G.S ts → G.S n} (h : SOk G n ts to of) {vs : List (V G.S)} (hl : Leaves G ts vs) : ∃ x, G.make n vs = some x ∧ G.cells n x = vs := by
 obtain ⟨p, h1, h2⟩ := prjL_leaves h.leaf hl
 exact ⟨of p, by rw [h.make, h1]; rfl, by rw [h.cells, h.inv, h2]⟩
theorem SLaw.empty {n : Nat} (h : G.S n → False) : SLaw G n := ⟨fun x => (h x).elim, fun _ x _ => (h x).elim, fun x => (h x).elim, fun x => (h x).elim, fun _ x => (h x).elim⟩
theorem sigOk_of (h : ∀ n, SLaw G n) : SigOk G := ⟨fun n => (h n).len, fun n cs x hx => (h n).make cs x hx, fun n => (h n).imm, fun n => (h n).fl, fun n => (h n).mkc⟩
theorem leaves_st {n : Nat} {vs : List (V G.S)} (h : Leaves G [.st n] vs) : Nonempty (G.S n) := by
 cases h with
 | cons _ x _ _ _ => exact ⟨x⟩
def tmOf {S : Nat → Type} (l : List (Nat × V S)) : Nat → Nat → List (V S)
 | _, 0 => []
 | i, n + 1 => (match l with
  | (j, v) :: r => if j = i then v :: tmOf r (i + 1) n else .un :: tmOf l (i + 1) n
  | [] => .un :: tmOf [] (i + 1) n)
end
end Go.Dv

namespace Go.Dv
open Go
def w64 (n : Int) : Int := IntKind.i64.wrap n
def len {α : Type} (l : List α) : Int := Int.ofNat l.length
def ib (b : UInt8) : Int := Int.ofNat b.toNat
end Go.Dv

namespace Go.Dv
open Go Go.Proofs Go.Shelf Go.RowKit
variable {P : Program} {ρ : Ren} {G : Sig}
end Go.Dv

namespace Go.Dv
open Go
variable {G : Sig}
def joinS (xs : List (List UInt8)) (sep : List UInt8) : Option (List UInt8) := if xs.length ≤ big ∧ (Lib.join xs sep).length ≤ big then some (Lib.join xs sep) else none
def containsS (s t : List UInt8) : Option Bool := if s.length < 4294967281 then some (Lib.contains s t) else none
def indexByteS (s : List UInt8) (c : Int) : Option Int := some (Lib.indexByte s c.toNat.toUInt8)
def itoaS (n b : Int) : Option (List UInt8) := if b = 10 ∧ -9223372036854775808 ≤ n ∧ n ≤ 9223372036854775807 then some (Lib.itoa n) else none
def joinV : List (V G.S) → Option (List UInt8)
 | [.sl .str xs, .str sep] => joinS xs sep
 | [.nil _ .str, .str sep] => joinS [] sep
 | _ => none
def containsV : List (V G.S) → Option Bool
 | [.str s, .str t] => containsS s t
 | _ => none
def indexByteV : List (V G.S) → Option Int
 | [.str s, .int .u8 c] => indexByteS s c
 | _ => none
def itoaV : List (V G.S) → Option (List UInt8)
 | [.int .i64 n, .int .i64 b] => itoaS n b
 | _ => none
def numD (s : List UInt8) (a : Nat) : Nat := s.foldl (fun a b => a * 10 + (b.toNat - 48)) a
def digB (b : UInt8) : Bool := decide (48 ≤ b.toNat) && decide (b.toNat ≤ 57)
theorem numD_lt : ∀ (l : List UInt8) (acc k : Nat), l.all digB = true → acc < 10 ^ k → numD l acc < 10 ^ (k + l.length)
 | [], acc, k, _, ha => by simpa [numD] using ha
 | c :: r, acc, k, h, ha => by
  simp only [List.all_cons, Bool.and_eq_true_iff] at h
  have hd := h.1
  unfold digB at hd
  simp only [Bool.and_eq_true_iff, decide_eq_true_eq] at hd
  have hs : 10 ^ (k + 1) = 10 ^ k * 10 := Nat.pow_succ _ _
  have := numD_lt r (acc * 10 + (c.toNat - 48)) (k + 1) h.2 (by omega)
  simp only [List.length_cons]
  rw [show k + (r.length + 1) = k + 1 + r.length by omega]
  exact this
def readIntS (s : List UInt8) : Option (Int × Bool) := if 13 < s.length then some (0, false) else if s ≠ [] ∧ s.all digB = true then some ((numD s 0 : Nat), decide (numD s 0 ≤ 1000000000000)) else none
def readIntV : List (V G.S) → Option (Int × Bool)
 | [.str s] => readIntS s
 | _ => none
def srcV : List (V G.S) → Option (List (V G.S))
 | [.sl (.int .u8) xs] => some [.sl (.int .u8) xs, .int .i64 0, .int .u64 0]
 | _ => none
end Go.Dv

namespace Go.Dv
open Go Go.Proofs Go.Shelf Go.RowKit
variable {P : Program} {ρ : Ren} {G : Sig}
theorem ext_flat {f : FuncId} {vals : Array Value} {w : World} {okA : Okc} {r : V G.S} {val : Value} (hv : ∀ w ok M, VR w ok M r val) (hc : r.clo 21 = true) (h : Calls P f vals w fun e w' => e = .returned val ∧ Below w.heap.size w w') :
  Calls P f vals w (fun e w' => ∃ v, e = .returned v ∧ Post w (fun _ => False) okA (r, []) v w') := by
 refine h.mono ?_
 rintro e w' ⟨rfl, hb⟩
 exact ⟨_, rfl, ⟨⟨Mem.no, fun _ _ => False, hv _ _ _, fun _ _ h => h.elim, fun _ _ h => h.elim⟩, hb.os, hb.tape, hb.output, hb.size, fun b hlt _ => hb.block b hlt⟩⟩
theorem tabIs_of {C : Cfg G} {w : World} {Fp : Nat → Prop} (h : GT C w Fp) {g : Nat} {name : String} {k : IntKind} {zs : List Int} (hg : C.gtab g = some ((zs.map fun z => Value.int k z).toArray)) (hn : C.P.globalNamed name = some g) : Lib.TabIs C.P w name k zs := by
 obtain ⟨_, _, e, z, h3⟩ := h g _ hg
 unfold Lib.TabIs World.var?
 rw [hn]
 simp [h3]
theorem below_refl (w : World) : Below w.heap.size w w := Below.refl _ _
theorem vr_str {w : World} {ok : Okc} {M : Mem} (s : List UInt8) : VR (G := G) w ok M (.str s) (.string ⟨s.toArray⟩) := enc_str s
theorem vrs_two {w : World} {ok : Okc} {M : Mem} {a b : V G.S} {vals : List Value} (h : VRs w ok M [a, b] vals) : ∃ x y, vals = [x, y] ∧ VR w ok M a x ∧ VR w ok M b y := by
 obtain ⟨x, l, rfl, h1, h2⟩ := h.inv
 obtain ⟨y, l', rfl, h3, h4⟩ := h2.inv
 have : l' = [] := by have := h4.1; exact List.eq_nil_of_length_eq_zero (by simpa using this.symm)
 subst this
 exact ⟨x, y, rfl, h1, h3⟩
theorem str_ba {w : World} {ok : Okc} {M : Mem} {s : List UInt8} {v : Value} (h : VR (G := G) w ok M (.str s) v) : ∃ b : ByteArray, v = .string b ∧ b.data.toList = s := by
 cases h with
 | str b => exact ⟨b, rfl, rfl⟩
theorem ba_size (b : ByteArray) : b.size = b.data.toList.length := (Array.length_toList (xs := b.data)).symm
theorem itoa_calls (L : LaysM.n173 P ρ) {vs : List (V G.S)} {p : List UInt8} (h : itoaV vs = some p) {okA : Okc} {w : World} {vals : List Value} (htab : Lib.TabIs P w "internal/strconv.uint64pow10" .u64 Lib.pow10Tab) (hv : VRs w okA Mem.no vs vals) :
  ∃ r, prjR G [.str] r = some p ∧ Calls P (ρ.f 173) vals.toArray w (fun e w' => ∃ v, e = .returned v ∧ Post w (fun _ => False) okA (r, []) v w') := by
 unfold itoaV at h
 split at h
 ·rename_i n b
  unfold itoaS at h
  split at h
  ·rename_i hn
   obtain ⟨rfl, hn⟩ := hn
   have h := Option.some.inj h
   subst h
   obtain ⟨x, y, rfl, h1, h2⟩ := vrs_two hv
   cases h1; cases h2
   refine ⟨.str (Lib.itoa n), rfl, ?_⟩
   refine ext_flat (fun w ok M => vr_str _) rfl ((Any.strconv_FormatInt_10 L n hn.1 hn.2 w htab).mono ?_)
   rintro e w' ⟨rfl, k, os, rfl⟩
   refine ⟨rfl, ⟨rfl, rfl, rfl, by simp [Go.Sort.grow, World.drewN], fun j hj => ?_⟩⟩
   rw [Go.Sort.heap_grow_old _ _ (show j < (w.drewN k).heap.size from hj)]
   rfl
  ·cases h
 ·cases h
theorem indexByte_calls (L : Lays.n137 P ρ) {vs : List (V G.S)} {p : Int} (h : indexByteV vs = some p) {okA : Okc} {w : World} {vals : List Value} (hv : VRs w okA Mem.no vs vals) :
  ∃ r, prjR G [.int .i64] r = some p ∧ Calls P (ρ.f 137) vals.toArray w (fun e w' => ∃ v, e = .returned v ∧ Post w (fun _ => False) okA (r, []) v w') := by
 unfold indexByteV at h
 split at h
 ·rename_i s c
  have h := Option.some.inj h
  subst h
  obtain ⟨x, y, rfl, h1, h2⟩ := vrs_two hv
  obtain ⟨b, rfl, rfl⟩ := str_ba h1
  cases h2
  refine ⟨.int .i64 (Lib.indexByte b.data.toList c.toNat.toUInt8), rfl, ?_⟩
  refine ext_flat (fun w ok M => .int _ _) rfl ((Any.strings_IndexByte L b c w).mono ?_)
  rintro e w' ⟨rfl, rfl⟩
  exact ⟨rfl, below_refl _⟩
 ·cases h
theorem contains_calls (L : Lays.n144 P ρ) {vs : List (V G.S)} {p : Bool} (h : containsV vs = some p) {okA : Okc} {w : World} {vals : List Value} {m : Int} (hm : w.cell? ⟨(ρ.g 1), 0, none⟩ = some (.int .i64 m)) (hv : VRs w okA Mem.no vs vals) :
  ∃ r, prjR G [.bool] r = some p ∧ Calls P (ρ.f 144) vals.toArray w (fun e w' => ∃ v, e = .returned v ∧ Post w (fun _ => False) okA (r, []) v w') := by
 unfold containsV at h
 split at h
 ·rename_i s t
  unfold containsS at h
  split at h
  ·rename_i hs
   have h := Option.some.inj h
   subst h
   obtain ⟨x, y, rfl, h1, h2⟩ := vrs_two hv
   obtain ⟨b, rfl, rfl⟩ := str_ba h1
   obtain ⟨b2, rfl, rfl⟩ := str_ba h2
   refine ⟨.bool (Lib.contains b.data.toList b2.data.toList), rfl, ?_⟩
   refine ext_flat (fun w ok M => .bool _) rfl ((Any.strings_Contains L b b2 m w (by rw [ba_size]; exact hs) hm).mono ?_)
   rintro e w' ⟨rfl, rfl⟩
   exact ⟨rfl, below_refl _⟩
  ·cases h
 ·cases h
theorem join_calls (L : Lays.n156 P ρ) (X : Builder.Extra P ρ) {vs : List (V G.S)} {p : List UInt8} (h : joinV vs = some p) {okA : Okc} {w : World} {vals : List Value} (hlt : ∀ b off, okA b off → b < w.heap.size) (hv : VRs w okA Mem.no vs vals) :
    ∃ r, prjR G [.str] r = some p ∧ Calls P (ρ.f 156) vals.toArray w (fun e w' => ∃ v, e = .returned v ∧ Post w (fun _ => False) okA (r, []) v w') := by
  have hbb : big = 68719476736 := rfl
  have none0 : ∀ (a : Option Addr) (c : Nat) (b : ByteArray), Calls P (ρ.f 156) #[.slice a 0 c, .string b] w (fun e w' => ∃ v, e = .returned v ∧ Post w (fun _ => False) okA ((.str (Lib.join [] b.data.toList) : V G.S), []) v w') := by
    intro a c b
    refine ext_flat (val := .string ⟨#[]⟩) (fun w ok M => ?_) rfl ((Any.strings_Join_none L X a c b w).mono ?_)
    · have : Lib.join [] b.data.toList = [] := rfl
      rw [this]; exact vr_str []
    · rintro e w' ⟨rfl, rfl⟩
      exact ⟨rfl, below_refl _⟩
  unfold joinV at h
  split at h
  · rename_i xs sep
    unfold joinS at h
    split at h
    · rename_i hl
      have h := Option.some.inj h
      subst h
      obtain ⟨x, y, rfl, h1, h2⟩ := vrs_two hv
      obtain ⟨b, rfl, rfl⟩ := str_ba h2
      refine ⟨.str (Lib.join xs b.data.toList), rfl, ?_⟩
      generalize hs : V.sl .str xs = s at h1
      cases h1 with
      | sl0 t a c => cases hs; exact none0 a c b
      | sl1 t zs bk o c u hc g1 g2 =>
        cases hs
        have hcells : ∀ (j : Nat) x, (xs.map fun s => (⟨s.toArray⟩ : ByteArray))[j]? = some x → w.cell? ⟨bk, o + j, none⟩ = some (.string x) := by
          intro j x hj
          rw [List.getElem?_map] at hj
          cases hx : xs[j]? with
          | none => rw [hx] at hj; cases hj
          | some s =>
            rw [hx] at hj
            have hj := Option.some.inj hj
            subst hj
            have q1 := (g1 j s 0 (.str s) hx rfl).1
            have q2 := str_enc (g2 j s 0 (.str s) hx rfl)
            simp only [Ty.sz, Nat.mul_one, Nat.add_zero] at q1
            rw [q1, q2]; rfl
        by_cases h0 : xs.length = 0
        · have hx0 : xs = [] := List.eq_nil_of_length_eq_zero h0
          subst hx0
          exact none0 _ c b
        · have hbk : bk < w.heap.size := by
            have hx : xs[0]? = some (xs[0]'(by omega)) := List.getElem?_eq_getElem (by omega)
            exact hlt _ _ (g1 0 _ 0 (.str _) hx rfl).2
          have e1 : ((xs.map fun s => (⟨s.toArray⟩ : ByteArray)).map (·.data.toList)) = xs := by
            rw [List.map_map]; exact List.map_id _
          have hj := Any.strings_Join L X bk o c (xs.map fun s => (⟨s.toArray⟩ : ByteArray)) b w hcells hbk (by rw [List.length_map]; exact Nat.le_trans hl.1 (by decide)) (by rw [List.length_map]; exact hc) (by rw [e1]; exact Nat.le_trans hl.2 (by decide))
          rw [e1, List.length_map] at hj
          exact ext_flat (fun w ok M => vr_str _) rfl hj
      | _ => cases hs
    · cases h
  · rename_i e sep
    unfold joinS at h
    split at h
    · have h := Option.some.inj h
      subst h
      obtain ⟨x, y, rfl, h1, h2⟩ := vrs_two hv
      obtain ⟨b, rfl, rfl⟩ := str_ba h2
      cases h1
      exact ⟨.str (Lib.join [] b.data.toList), rfl, none0 none 0 b⟩
    · cases h
  · cases h
theorem vrs_three {w : World} {ok : Okc} {M : Mem} {a b c : V G.S} {x y z : Value} (h1 : VR w ok M a x) (h2 : VR w ok M b y) (h3 : VR w ok M c z) : VRs w ok M [a, b, c] [x, y, z] := by
 refine ⟨rfl, fun j u v hj hv => ?_⟩
 match j with
 | 0 => cases hj; cases hv; exact h1
 | 1 => cases hj; cases hv; exact h2
 | 2 => cases hj; cases hv; exact h3
 | j + 3 => cases hj
theorem parseM_ok (M : Nat) : ∀ (l : List UInt8) (acc k : Nat), l.all digB = true → acc < 10 ^ k → l.length + k ≤ 18 → 1000000000000000000 ≤ M → Lib.parseUintM M acc l = .ok (numD l acc)
 | [], acc, k, _, _, _, _ => rfl
 | c :: r, acc, k, h, ha, hl, hM => by
  simp only [List.all_cons, Bool.and_eq_true_iff] at h
  have hd := h.1
  unfold digB at hd
  simp only [Bool.and_eq_true_iff, decide_eq_true_eq] at hd
  simp only [List.length_cons] at hl
  have hp : 10 ^ (k + 1) ≤ 10 ^ 18 := Nat.pow_le_pow_right (by decide) (by omega)
  have hs : 10 ^ (k + 1) = 10 ^ k * 10 := Nat.pow_succ _ _
  unfold Lib.parseUintM
  rw [if_pos hd, if_neg (by omega), if_neg (by omega), parseM_ok M r _ (k + 1) h.2 (by omega) (by omega) hM]
  rfl
theorem parseInt_ok {l : List UInt8} (hne : l ≠ []) (hd : l.all digB = true) (hl : l.length ≤ 13) : Lib.parseIntB 64 l = .ok (numD l 0 : Nat) := by
 cases l with
 | nil => exact absurd rfl hne
 | cons c r =>
  have h0 := hd
  simp only [List.all_cons, Bool.and_eq_true_iff] at h0
  have hc := h0.1
  unfold digB at hc
  simp only [Bool.and_eq_true_iff, decide_eq_true_eq] at hc
  have hlt := numD_lt (c :: r) 0 0 hd (by decide)
  have hp : 10 ^ (0 + (c :: r).length) ≤ 10 ^ 13 := Nat.pow_le_pow_right (by decide) (by omega)
  unfold Lib.parseIntB
  simp only
  rw [if_neg (by omega)]
  unfold Lib.parseUintB
  rw [if_neg (by simp), parseM_ok _ (c :: r) 0 0 hd (by decide) (by omega) (by decide)]
  simp only
  rw [if_neg (by rintro ⟨_, h⟩; simp at h; omega), if_neg (by rintro ⟨h, _⟩; omega), if_neg (by omega)]
theorem vr_two {w : World} {ok : Okc} {M : Mem} {a b : V G.S} {x y : Value} (h1 : VR w ok M a x) (h2 : VR w ok M b y) : VR w ok M (.tup [a, b]) (.tuple #[x, y]) := by
 refine .tup [a, b] [x, y] rfl fun j u v hj hv => ?_
 match j with
 | 0 => cases hj; cases hv; exact h1
 | 1 => cases hj; cases hv; exact h2
 | j + 2 => cases hj
theorem readInt_ext {f : FuncId} (hw : ∀ (s : ByteArray) (p : Int × Bool), readIntS s.data.toList = some p → ∀ w : World, Calls P f #[.string s] w fun e w' => e = .returned (.tuple #[.int .i64 p.1, .bool p.2]) ∧ Below w.heap.size w w')
  {vs : List (V G.S)} {p : Int × Bool} (h : readIntV vs = some p) {okA : Okc} {w : World} {vals : List Value} (hv : VRs w okA Mem.no vs vals) :
  ∃ r, prjR G [.int .i64, .bool] r = some p ∧ Calls P f vals.toArray w (fun e w' => ∃ v, e = .returned v ∧ Post w (fun _ => False) okA (r, []) v w') := by
 unfold readIntV at h
 split at h
 ·rename_i s
  obtain ⟨x, l, rfl, h1, h2⟩ := hv.inv
  have hl : l = [] := by have := h2.1; exact List.eq_nil_of_length_eq_zero (by simpa using this.symm)
  subst hl
  obtain ⟨b, rfl, rfl⟩ := str_ba h1
  exact ⟨.tup [.int .i64 p.1, .bool p.2], rfl, ext_flat (fun w ok M => vr_two (.int _ _) (.bool _)) rfl (hw b p h w)⟩
 ·cases h
end Go.Dv

namespace Go.Dv
open Go Go.Proofs Go.Shelf Go.RowKit
variable {P : Program} {ρ : Ren}
theorem app_block {w : World} {t u ty e : TypeId} {i : TypeInfo} (ht : P.underlying t = some (.slice e)) (hu : P.underlying u = some .string) (hi : P.info? e = some i) (hz : i.zero = some (.int .u8 0)) (hsize : i.size = 1) (hby : i.bytes = 1)
  {v : Value} {n : Nat} {xs : List Value} (hown : w.ownsRow 0 e 1 v n xs) {s : ByteArray} (h63 : n + s.size ≤ maxLen) (hbytes : n + s.size ≤ 140737488355328) {v' : Value} {w' : World} (hr : (Builtin.append_ #[t, u] ty #[v, .string s]).run P w = .ok v' w') {g : Nat} (hg : v'.ownBlock = some g) : w.heap.size ≤ g ∨ v.ownBlock = some g := by
 have hsmall : n + s.size ≤ 9223372036854775807 := by simp only [maxLen] at h63; omega
 have hxl : xs.length = n := by simpa using hown.1
 rcases hown.2 with ⟨rfl, rfl⟩ | ⟨g0, cap, cur, rfl, hbg, hg0, hnc, hcm, hcs, htake⟩
 ·have hx : xs = [] := List.eq_nil_of_length_eq_zero hxl
  subst hx
  obtain ⟨v2, w2, h1, h2, _, _⟩ := Lib.run_append_own_string (P := P) w w.heap.size t u ty e i ht hu hi hz hsize hby (.slice none 0 0) 0 [] (World.ownsRow_nil w _ e 1) s h63 hbytes (Nat.le_refl _)
  rw [h1] at hr
  cases hr
  exact .inl (h2.lt g hg).1
 ·by_cases hroom : n + s.size ≤ cap
  ·have hcs' : cur.size = cap := by simpa using hcs
   have h1 := Lib.run_append_room_string (P := P) w t u ty e i ht hu hi hsize g0 n cap cur hg0 s hroom (by omega)
   rw [h1] at hr
   cases hr
   exact .inr hg
  ·have holds : ∀ j u, xs[j]? = some u → w.cell? ((⟨g0, 0, none⟩ : Addr).add j) = some u := hown.cells (g := g0) rfl
   have h1 := Lib.run_append_grow_string (P := P) w t u ty e i (.int .u8 0) ht hu hi hz ⟨g0, 0, none⟩ n cap xs (by rw [hsize]; simpa using hxl) holds s (by omega) (by omega) (by rw [hby]; exact growslice_fits (by omega) (by omega))
   rw [h1] at hr
   cases hr
   simp only [Value.ownBlock, Option.map_some, Option.some.injEq] at hg
   exact .inl (by omega)
theorem wpList_app_str {w : World} {ops : Array Oper} {rest : List Oper} {o : Oper} {a : Act} {Q : Exit → Act → World → Prop} (hgd : o.guard = none) (sl x : Operand) (t u : TypeId)
  (ho : o.op = .call { callee := .builtin .append, args := #[sl, x], argTypes := #[t, u] })
  (e : TypeId) (i : TypeInfo) (ht : P.underlying t = some (.slice e)) (hu : P.underlying u = some .string) (hi : P.info? e = some i) (hz : i.zero = some (.int .u8 0)) (hsize : i.size = 1) (hby : i.bytes = 1)
  (v : Value) (n : Nat) (xs : List Value) (hs : a.eval sl = v) (hown : w.ownsRow 0 e 1 v n xs) (s : ByteArray) (hx : a.eval x = .string s) (h63 : n + s.size ≤ maxLen) (hbytes : n + s.size ≤ 140737488355328)
  (h : ∀ v' w', w'.ownsRow 0 e 1 v' (n + s.size) (xs ++ Lib.strCells s) → w.grownBy w' v.ownBlock → (∀ g, v'.ownBlock = some g → w.heap.size ≤ g ∨ v.ownBlock = some g) → wpList P ops Q rest (a.put o.dst v') w') : wpList P ops Q (o :: rest) a w := by
 obtain ⟨v', w', hr, h2, h3, _⟩ := Lib.run_append_own_string (P := P) w 0 t u o.type e i ht hu hi hz hsize hby v n xs hown s h63 hbytes (Nat.zero_le _)
 have hblk := fun g hg => app_block ht hu hi hz hsize hby hown h63 hbytes hr (g := g) hg
 refine wpList_plain hgd fun K hK => ?_
 unfold Oper.wp execOp
 simp only [ho, resolve, invoke, builtin, Sem.run_bind, Sem.run_pure, Result.andThen_ok, List.map_toArray, List.map_cons, List.map_nil, hs, hx, hr]
 exact hK _ _ (h v' w' h2 h3 hblk)
theorem lt_of_heap {w : World} {b : Nat} {o : Go.Obj} (h : w.heap[b]? = some o) : b < w.heap.size := (Array.getElem?_eq_some_iff.1 h).1
theorem copyCheck_calls (L : Lays.n240 P ρ) (X : Builder.X72 P ρ) {w : World} {b : Nat} {v : Value} {bs : List Value} (h : BldAt (ρ.t 72) (ρ.t 5) w b v bs) :
  Calls P (ρ.f 240) #[.pointer (some ⟨b, 0, none⟩)] w fun e w' => e = .returned (.tuple #[]) ∧ w'.heap[b]? = some (.cells #[.pointer (some ⟨b, 0, none⟩), v] (ρ.t 72) (0, 0)) ∧ w'.os = w.os ∧ w'.tape = w.tape ∧ w'.output = w.output ∧ w'.heap.size = w.heap.size ∧ ∀ k, k ≠ b → w'.heap[k]? = w.heap[k]? := by
 rcases h.cell with h1 | h1
 ·have hb : Lib.BuilderAt (ρ.t 72) (ρ.t 5) 0 b (.pointer none) bs w := ⟨Nat.zero_le _, v, h1, h.own, h.ne⟩
  refine (Any.Builder_copyCheck_fresh L X b w hb.cell0 hb.shape hb.frozen0).mono ?_
  rintro e w' ⟨rfl, rfl⟩
  refine ⟨rfl, ?_, rfl, rfl, rfl, by simp [World.setCell], fun k hk => Below.heap_setCell _ _ _ _ hk⟩
  simp [World.setCell, Array.getElem?_modify, h1]
 ·have hb : Lib.BuilderAt (ρ.t 72) (ρ.t 5) 0 b (.pointer (some ⟨b, 0, none⟩)) bs w := ⟨Nat.zero_le _, v, h1, h.own, h.ne⟩
  refine (Any.Builder_copyCheck_used L X b w hb.cell0).mono ?_
  rintro e w' ⟨rfl, rfl⟩
  exact ⟨rfl, h1, rfl, rfl, rfl, rfl, fun _ _ => rfl⟩
set_option maxHeartbeats 2000000 in
set_option maxRecDepth 100000 in
theorem writeString_calls (L : Lays.n166 P ρ) (X : Builder.Extra P ρ) {w : World} {b : Nat} {v : Value} {bs : List Value} (h : BldAt (ρ.t 72) (ρ.t 5) w b v bs) (s : ByteArray) (hlen : bs.length + s.size ≤ 140737488355328) :
    Calls P (ρ.f 166) #[.pointer (some ⟨b, 0, none⟩), .string s] w fun e w' => e = .returned (.tuple #[.int .i64 s.size, .nilIface]) ∧ ∃ v', Wrote (ρ.t 72) (ρ.t 5) w b v (bs ++ Lib.strCells s) w' v' := by
  obtain ⟨i0, hi, hz0, hz1, hz2⟩ := info_parts X.infoByte
  have mixed := L.mixed
  have t72 := L.t72; have a72 := L.a72; have z72 := L.z72; have v72 := L.v72; have u72 := run_underlying L.t72
  have t70 := L.t70; have a70 := L.a70; have z70 := L.z70; have v70 := L.v70; have u70 := run_underlying L.t70
  have t37 := L.t37; have a37 := L.a37; have z37 := L.z37; have v37 := L.v37; have u37 := run_underlying L.t37
  have t3 := L.t3; have a3 := L.a3; have z3 := L.z3; have v3 := L.v3; have u3 := run_underlying L.t3
  have t9 := L.t9; have a9 := L.a9; have z9 := L.z9; have v9 := L.v9; have u9 := run_underlying L.t9
  have t4 := L.t4; have a4 := L.a4; have z4 := L.z4; have v4 := L.v4; have u4 := run_underlying L.t4
  have t164 := L.t164; have a164 := L.a164; have z164 := L.z164; have v164 := L.v164; have u164 := run_underlying L.t164
  have t5 := X.t5; have a5 := X.a5; have z5 := X.z5; have v5 := X.v5; have u5 := run_underlying X.t5
  have e240 : ∀ args w, (callFunc (ρ.f 240) args).run P w = .ok (.enter (ρ.f 240) args) w := enters_of L.f240 (by kernel_rfl) rfl
  have hcc := copyCheck_calls (P := P) { L with } X.toX72 h
  have hbw : b < w.heap.size := by rcases h.cell with h1 | h1 <;> exact lt_of_heap h1
  have hown0 := h.own
  have hne := h.ne
  clear h
  go_enter L.f166, Body.n166_ntmps ρ
  go_wp2_with (go_at_fn (ρ.f 240); refine hcc.mono ?_)
  rintro e w1 ⟨rfl, hbk, q1, q2, q3, q4, q5⟩
  have hown : w1.ownsRow 0 (ρ.t 5) 1 v bs.length bs := by
    refine hown0.kept (row := some b) ⟨q1, q2, q3, by omega, fun k _ hk => q5 k (fun e => hk (by simp [e]))⟩ (.inr hne)
  have c0 : w1.cell? ⟨b, 0, none⟩ = some (.pointer (some ⟨b, 0, none⟩)) := by rw [Lib.cell_of_heap hbk]; rfl
  have c1 : w1.cell? ⟨b, 1, none⟩ = some v := by rw [Lib.cell_of_heap hbk]; rfl
  go_wp2_with (at_builtin; refine wpList_app_str rfl _ _ (ρ.t 37) (ρ.t 9) rfl (ρ.t 5) i0 L.t37 L.t9 hi hz0 hz1 hz2 _ _ _ rfl hown s rfl ?c3 ?c4 ?_)
  case c3 => unfold maxLen; omega
  case c4 => omega
  intro v' w2 hown' hgrow hblk
  have hlt : b < w1.heap.size := by omega
  have hb2 : w2.heap[b]? = some (.cells #[.pointer (some ⟨b, 0, none⟩), v] (ρ.t 72) (0, 0)) := by
    rw [hgrow.block b hlt (fun e => hne e.symm)]
    exact hbk
  have d0 : w2.cell? ⟨b, 0, none⟩ = some (.pointer (some ⟨b, 0, none⟩)) := by rw [Lib.cell_of_heap hb2]; rfl
  have d1 : w2.cell? ⟨b, 1, none⟩ = some v := by rw [Lib.cell_of_heap hb2]; rfl
  have f1 : w2.frozen? ⟨b, 1, none⟩ = false := Lib.frozen_of_heap hb2 1
  have hne' : v'.ownBlock ≠ some b := by
    intro e
    rcases hblk b e with h1 | h1
    · omega
    · exact hne h1
  obtain ⟨ao, n', cap, rfl⟩ : ∃ ao n' cap, v' = .slice ao n' cap := by
    rcases hown'.2 with ⟨hv, _⟩ | ⟨g, cap, cur, hv, _⟩
    · exact ⟨_, _, _, hv⟩
    · exact ⟨_, _, _, hv⟩
  go_wp2
  go_ret2
  refine ⟨rfl, _, ?_, ?_, hne', fun g hg => ?_, hgrow.os.trans q1, hgrow.tape.trans q2, hgrow.output.trans q3, ?_, fun k hk hkb hkv => ?_⟩
  · simp [World.setCell, Array.getElem?_modify, hb2]
  · have hl : (bs ++ Lib.strCells s).length = bs.length + s.size := by simp [Lib.strCells_length]
    rw [hl]
    exact hown'.kept (row := some b) ⟨rfl, rfl, rfl, by simp [World.setCell], fun k _ hk => Below.heap_setCell _ _ _ _ (fun e => hk (by simp [e]))⟩ (.inr hne')
  · rcases hblk g hg with h1 | h1
    · exact .inl (by omega)
    · exact .inr h1
  · have := hgrow.size
    simp [World.setCell]; omega
  · rw [Below.heap_setCell _ _ _ _ hkb, hgrow.block k (by omega) (fun e => hkv e.symm), q5 k hkb]
theorem said_below {w w' : World} {v : Value} (h : Below w.heap.size w w') : Said w v w' := ⟨h.os, h.tape, h.output, h.size, fun k hk _ => h.block k hk⟩
theorem said_freeze (w : World) {v : Value} {g : Nat} (hg : v.ownBlock = some g) (n : Nat) : Said w v (w.drew.freeze ⟨g, 0, none⟩ n) := by
 unfold World.freeze
 split
 ·exact ⟨rfl, rfl, rfl, Nat.le_refl _, fun _ _ _ => rfl⟩
 ·refine ⟨rfl, rfl, rfl, by simp, fun k hk hne => ?_⟩
  simp only [Array.getElem?_modify]
  rw [if_neg (fun e => hne (hg.trans (congrArg some e)))]
  rfl
set_option maxHeartbeats 2000000 in
set_option maxRecDepth 100000 in
theorem string_calls (L : Lays.n169 P ρ) (X : Builder.Extra P ρ) {w : World} {b : Nat} {v : Value} {l : List UInt8} (h : BldAt (ρ.t 72) (ρ.t 5) w b v (Lib.byteCells l)) :
    Calls P (ρ.f 169) #[.pointer (some ⟨b, 0, none⟩)] w fun e w' => e = .returned (.string ⟨l.toArray⟩) ∧ Said w v w' := by
  obtain ⟨p, hbk⟩ : ∃ p, w.heap[b]? = some (.cells #[p, v] (ρ.t 72) (0, 0)) := by
    rcases h.cell with h1 | h1
    · exact ⟨_, h1⟩
    · exact ⟨_, h1⟩
  have hown := h.own
  by_cases h0 : l = []
  · subst h0
    have hown : w.ownsRow 0 (ρ.t 5) 1 v 0 [] := hown
    rcases hown.2 with ⟨rfl, _⟩ | ⟨g, cap, cur, rfl, hbg, hg, _, _, _, _⟩
    · refine (Any.Builder_String_nil L X w.heap.size b p w hbk).mono ?_
      rintro e w' ⟨rfl, hb⟩
      exact ⟨rfl, said_below hb⟩
    · by_cases hc0 : cap = 0
      · subst hc0
        refine (Any.Builder_String_noroom L X w.heap.size b g p cur w (Nat.le_refl _) hbk hg).mono ?_
        rintro e w' ⟨rfl, hb⟩
        exact ⟨rfl, said_below hb⟩
      · refine (Any.Builder_String_room L X w.heap.size b g cap p w hc0 hbk).mono ?_
        rintro e w' ⟨rfl, hb⟩
        exact ⟨rfl, said_below hb⟩
  · clear h
    have hl0 : l.length ≠ 0 := by simpa using h0
    rw [Lib.byteCells_length] at hown
    obtain ⟨g, cap, cur, rfl, hbg, hg, hnc, hcm, hcs, htake⟩ : ∃ g cap cur, v = .slice (some ⟨g, 0, none⟩) l.length cap ∧ 0 ≤ g ∧ w.heap[g]? = some (.cells cur (ρ.t 5) (0, 0)) ∧ l.length ≤ cap ∧ cap ≤ maxLen ∧ cur.size = cap * 1 ∧ cur.toList.take (l.length * 1) = Lib.byteCells l := by
      rcases hown.2 with ⟨_, hz⟩ | ⟨g, cap, cur, hv, r⟩
      · exact absurd hz hl0
      · exact ⟨g, cap, cur, hv, r⟩
    have c1 : w.drew.cell? ⟨b, 1, none⟩ = some (.slice (some ⟨g, 0, none⟩) l.length cap) := by
      have : w.drew.heap[b]? = some (.cells #[p, .slice (some ⟨g, 0, none⟩) l.length cap] (ρ.t 72) (0, 0)) := hbk
      rw [Lib.cell_of_heap this]; rfl
    have hSD : (Builtin.unsafeSliceData_ #[(ρ.t 37)] (ρ.t 127) #[.slice (some ⟨g, 0, none⟩) l.length cap]).run P w.drew = .ok (.pointer (some ⟨g, 0, none⟩)) w.drew :=
      Lib.run_unsafeSliceData_row _ _ _ _ _ _ (by omega)
    have hUS : (Builtin.unsafeString_ #[(ρ.t 127), (ρ.t 3)] (ρ.t 9) #[.pointer (some ⟨g, 0, none⟩), .int .i64 l.length]).run P w.drew = .ok (.string ⟨l.toArray⟩) (w.drew.freeze ⟨g, 0, none⟩ l.length) := by
      refine Lib.run_unsafeString_row w.drew (ρ.t 127) (ρ.t 3) (ρ.t 9) (ρ.t 5) L.t127 X.cellsByte g cur.size (by have hg' : w.drew.heap[g]? = some (.cells cur (ρ.t 5) (0, 0)) := hg; simp [World.shape?, hg']) l h0 (by omega) (by unfold maxLen at hcm; omega) ?_
      intro j x hx
      exact hown.cells (g := g) rfl j (.int .u8 x.toNat) (by simp [Lib.byteCells, hx])
    have mixed := L.mixed
    have t72 := L.t72; have a72 := L.a72; have z72 := L.z72; have v72 := L.v72; have u72 := run_underlying L.t72
    have t70 := L.t70; have a70 := L.a70; have z70 := L.z70; have v70 := L.v70; have u70 := run_underlying L.t70
    have t37 := L.t37; have a37 := L.a37; have z37 := L.z37; have v37 := L.v37; have u37 := run_underlying L.t37
    have t127 := L.t127; have a127 := L.a127; have z127 := L.z127; have v127 := L.v127; have u127 := run_underlying L.t127
    have t3 := L.t3; have a3 := L.a3; have z3 := L.z3; have v3 := L.v3; have u3 := run_underlying L.t3
    have t9 := L.t9; have a9 := L.a9; have z9 := L.z9; have v9 := L.v9; have u9 := run_underlying L.t9
    have t5 := X.t5; have a5 := X.a5; have z5 := X.z5; have v5 := X.v5; have u5 := run_underlying X.t5
    go_enter L.f169, Body.n169_ntmps ρ
    go_wp2
    go_region_o
    all_goals (go_wp2; go_ret; exact ⟨rfl, said_freeze w rfl _⟩)
end Go.Dv

namespace Go.Dv
open Go Go.RowKit Go.ChangeShapes Go.WideShapes Go.ChangeAt
theorem returns_and_shaped {H : Type} {enc : TypeId × Value → H} {a : Assume} {C : Checked} {os : Os} {f : FuncId} {fn : Func} {s : ChangeSpec} {conds : List PathCond} {apart fresh handsOn again : Bool} {X : World → Array Value → Prop}
  (hX : ∀ (w w' : World) (args : Array Value), w.heap = w'.heap → X w args → X w' args)
  (own : ownKnob C.prog.godebug = none) (started : os.Started) (noInit : C.prog.inits.idxOf? f = none) (hfn : C.prog.funcs[f]? = some fn)
  (witness : ∃ (w : World) (tape : Tape) (i : Input), w.os = os ∧ (w.forCall tape i).Shaped C.prog ∧ i.vars = [] ∧ Input.okWide C.prog (w.forCall tape i) .any w.heap.size f i ∧
   ((s.pre enc C.prog fn conds apart (w.forCall tape i).memory i.args ∧ X (w.forCall tape i).memory i.args) ∧ sizedMet enc C.prog fn (OpenSpec.ofChange s) apart (w.forCall tape i).memory i.args) ∧ a.holds C.prog (lone (Frame.enter C.prog f i.args .normal) [] (w.forCall tape i)))
  (contract : ∀ (W : World) (base : Nat) (args : Array Value) (ds gs : List (DataW H)) (before : List MemPlace),
   (∀ (j : Nat) t v, fn.params[j]? = some t → args[j]? = some v → Value.okWide C.prog W .any base t v) →
   DataW.Whole enc C.prog fn.params.toList s.vars apart W args.toList ds gs before → X W args → W.ShapedOpen C.prog →
   Calls C.prog f args W fun e W' => ∃ v, e = .returned v ∧ s.post enc C.prog fn apart fresh handsOn again W args v W') :
  ReturnsInHanded a C os f .any (fun w args => (s.pre enc C.prog fn conds apart w args ∧ X w args) ∧ sizedMet enc C.prog fn (OpenSpec.ofChange s) apart w args) (s.post enc C.prog fn apart fresh handsOn again) := by
 refine returnsInHanded_of_calls own started noInit witness ?_
 intro w tape i _ hsh _ hok hpre hholds
 obtain ⟨_, _, _, fn', hfn', _, _, _, _, hval⟩ := hok
 have e : fn' = fn := Option.some.inj (hfn'.symm.trans hfn)
 subst e
 obtain ⟨⟨⟨ds, gs, before, hw, hc⟩, hx⟩, hz⟩ := hpre
 have hw' := DataW.Whole.of_heap (w' := w.forCall tape i) (by rfl) hw
 refine (contract (w.forCall tape i) w.heap.size i.args ds gs before hval hw' (hX _ _ _ (by rfl) hx) hsh).mono fun e W' ⟨v, he, hp⟩ => ?_
 subst he
 exact ChangeSpec.post_blind hp
theorem block_of_tab {P : Program} {w : World} {name : String} {k : IntKind} {zs : List Int} {g : Nat} (hn : P.globalNamed name = some g) (h : Lib.TabIs P w name k zs) :
  g < w.heap.size ∧ ¬ (fun _ : Nat => False) g ∧ ∃ e z, w.heap[g]? = some (.cells (zs.map fun z => Value.int k z).toArray e z) := by
 unfold Lib.TabIs World.var? at h
 rw [hn] at h
 simp only [Option.bind_some] at h
 split at h
 ·rename_i cs e z hc
  have h := Option.some.inj h
  subst h
  exact ⟨(Array.getElem?_eq_some_iff.1 hc).1, fun h => h, _, _, hc⟩
 ·cases h
theorem int_cell {w : World} {g : Nat} (h : ∃ m, w.cell? ⟨g, 0, none⟩ = some (.int .i64 m)) : okOld w g 0 ∧ ∃ m, w.cell? ⟨g, 0, none⟩ = some (.int .i64 m) := by
 refine ⟨?_, h⟩
 obtain ⟨m, hm⟩ := h
 unfold World.cell? at hm
 cases hb : w.heap[g]? with
 | none => simp [hb] at hm
 | some b => exact (Array.getElem?_eq_some_iff.1 hb).1
end Go.Dv

namespace Go.Dv
open Go
theorem wfv_int {G : Sig} {n : Int} (h : WfV G 1 (.int .i64 n)) : -9223372036854775808 ≤ n ∧ n ≤ 9223372036854775807 := by
 have h : (Lit.int .i64 n).wf = true := h
 simp only [Lit.wf, Bool.and_eq_true_iff, decide_eq_true_eq] at h
 exact h
theorem wfv_str {G : Sig} {s : List UInt8} (h : WfV G 1 (.str s)) : s.length ≤ 9223372036854775807 := by
 have h : s.length ≤ maxLen := h
 exact h
theorem wfv_sl {G : Sig} {t : Ty} {xs : List (t.den G.S)} (h : ∀ k, WfV G k (.sl t xs)) : xs.length ≤ 9223372036854775807 ∧ ∀ x ∈ xs, ∀ c ∈ Ty.cells G t x, ∀ k, WfV G k c :=
 ⟨(h 1).1, fun x hx c hc k => (h (k + 1)).2 x hx c hc⟩
theorem wfv_sl_int {G : Sig} {xs : List Int} (h : ∀ k, WfV G k (.sl (.int .i64) xs)) : xs.length ≤ 9223372036854775807 ∧ ∀ y ∈ xs, -9223372036854775808 ≤ y ∧ y ≤ 9223372036854775807 :=
 ⟨(h 1).1, fun y hy => wfv_int ((h 2).2 y hy (.int .i64 y) (by simp [Ty.cells, inj]))⟩
theorem wfv_st {G : Sig} {n : Nat} {x : G.S n} (h : ∀ k, WfV G k (.st n x)) : ∀ c ∈ G.cells n x, ∀ k, WfV G k c := fun c hc k => h (k + 1) c hc
theorem lvs_cons {G : Sig} {t : Ty} {ts : List Ty} {us : List (V G.S)} (h : Leaves G (t :: ts) us) : ∃ (x : t.den G.S) (vs : List (V G.S)), us = inj G t x :: vs ∧ Leaves G ts vs := by
 cases h with
 | cons _ x _ vs h => exact ⟨x, vs, rfl, h⟩
theorem lvs_nil {G : Sig} {us : List (V G.S)} (h : Leaves G [] us) : us = [] := by
 cases h; rfl
theorem le_of_b {a b : Nat} (h : Nat.ble a b = true) : a ≤ b := Nat.le_of_ble_eq_true h
theorem rd_of_b {P : Program} {l : List TypeId} (h : (l.all fun t => P.readableRec t && Nat.blt t P.types.size) = true) : ∀ t ∈ l, P.readableRec t = true ∧ t < P.types.size := by
 intro t ht
 have := List.all_eq_true.1 h t ht
 rw [Bool.and_eq_true_iff] at this
 exact ⟨this.1, Nat.le_of_ble_eq_true this.2⟩
theorem wfv_u8 {G : Sig} {n : Int} (h : WfV G 1 (.int .u8 n)) : 0 ≤ n ∧ n ≤ 255 := by
 have h : (Lit.int .u8 n).wf = true := h
 simp only [Lit.wf, Bool.and_eq_true_iff, decide_eq_true_eq] at h
 exact h
def BytesOk (xs : List Int) : Prop := xs.length ≤ 9223372036854775807 ∧ ∀ y ∈ xs, 0 ≤ y ∧ y ≤ 255
theorem BytesOk.of {G : Sig} {xs : List Int} (h : ∀ k, WfV G k (inj G (.sl (.int .u8)) xs)) : BytesOk xs :=
 ⟨(h 1).1, fun y hy => wfv_u8 ((h 2).2 y hy (.int .u8 y) (by simp [Ty.cells, inj]))⟩
def IntOk (n : Int) : Prop := -9223372036854775808 ≤ n ∧ n ≤ 9223372036854775807
theorem IntOk.of {G : Sig} {n : Int} (h : ∀ k, WfV G k (inj G (.int .i64) n)) : IntOk n := wfv_int (h 1)
end Go.Dv
