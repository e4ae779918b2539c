/- What the library functions of the program that are met by contract return: the layings of the shelf in plain words, and the contracts of the evaluator. -/
import Derived.Test.YthifliapgmalpaaSga
import Derived.WalkKit
import Derived.Ground.Names2Prog
import Derived.Ground.Names8Prog
import Derived.Ground.NamesProg
import Derived.Shelf.LaysC
import Derived.Shelf.Strconv.ParseIntPublic10
set_option linter.all false
set_option linter.unusedVariables false
set_option linter.unusedSimpArgs false
namespace Go.Proofs

open Go.Shelf

def Try.laysCompact_ren : Go.Shelf.Ren := ⟨fun | 194 => 37 | n => n, fun | 31 => 26 | 9 => 9 | 3 => 3 | 4 => 4 | 0 => 0 | n => n, fun | n => n⟩

theorem Try.laysCompact : Go.Proofs.Lays.n194 Try.prog Try.laysCompact_ren := {
  mixed := by kernel_rfl
  f194 := Try.func37.trans (congrArg some (by kernel_rfl))
  t0 := Try.underlying0
  a0 := Try.isAgg0
  z0 := Try.sizeOf0
  v0 := Try.zeroValue0
  t3 := Try.underlying3
  a3 := Try.isAgg3
  z3 := Try.sizeOf3
  v3 := Try.zeroValue3
  t4 := Try.underlying4
  a4 := Try.isAgg4
  z4 := Try.sizeOf4
  v4 := Try.zeroValue4
  t9 := Try.underlying9
  a9 := Try.isAgg9
  z9 := Try.sizeOf9
  v9 := Try.zeroValue9
  t31 := Try.underlying26
  a31 := Try.isAgg26
  z31 := Try.sizeOf26
  v31 := Try.zeroValue26 }

def Try.laysSort_ren : Go.Shelf.Ren := ⟨fun | 190 => 36 | 125 => 46 | 258 => 45 | 128 => 64 | 129 => 65 | 302 => 55 | 303 => 56 | 304 => 57 | 305 => 58 | 306 => 59 | 307 => 60 | 308 => 61 | 309 => 62 | 310 => 63 | 333 => 71 | 329 => 72 | 330 => 73 | 334 => 74 | 335 => 75 | 336 => 76 | 344 => 78 | n => n, fun | 31 => 26 | 9 => 9 | 3 => 3 | 46 => 60 | 0 => 0 | 51 => 76 | 53 => 78 | 4 => 4 | 183 => 69 | 182 => 68 | 131 => 73 | 5 => 5 | 218 => 80 | 222 => 84 | 228 => 86 | 229 => 87 | n => n, fun | n => n⟩

theorem Try.laysSort : Go.Proofs.Lays.n190 Try.prog Try.laysSort_ren := {
  mixed := by kernel_rfl
  f125 := Try.func46.trans (congrArg some (by kernel_rfl))
  f128 := Try.func64.trans (congrArg some (by kernel_rfl))
  f129 := Try.func65.trans (congrArg some (by kernel_rfl))
  f190 := Try.func36.trans (congrArg some (by kernel_rfl))
  f258 := Try.func45.trans (congrArg some (by kernel_rfl))
  f302 := Try.func55.trans (congrArg some (by kernel_rfl))
  f303 := Try.func56.trans (congrArg some (by kernel_rfl))
  f304 := Try.func57.trans (congrArg some (by kernel_rfl))
  f305 := Try.func58.trans (congrArg some (by kernel_rfl))
  f306 := Try.func59.trans (congrArg some (by kernel_rfl))
  f307 := Try.func60.trans (congrArg some (by kernel_rfl))
  f308 := Try.func61.trans (congrArg some (by kernel_rfl))
  f309 := Try.func62.trans (congrArg some (by kernel_rfl))
  f310 := Try.func63.trans (congrArg some (by kernel_rfl))
  f329 := Try.func72.trans (congrArg some (by kernel_rfl))
  f330 := Try.func73.trans (congrArg some (by kernel_rfl))
  f333 := Try.func71.trans (congrArg some (by kernel_rfl))
  f334 := Try.func74.trans (congrArg some (by kernel_rfl))
  f335 := Try.func75.trans (congrArg some (by kernel_rfl))
  f336 := Try.func76.trans (congrArg some (by kernel_rfl))
  f344 := Try.func78.trans (congrArg some (by kernel_rfl))
  t0 := Try.underlying0
  a0 := Try.isAgg0
  z0 := Try.sizeOf0
  v0 := Try.zeroValue0
  t3 := Try.underlying3
  a3 := Try.isAgg3
  z3 := Try.sizeOf3
  v3 := Try.zeroValue3
  t4 := Try.underlying4
  a4 := Try.isAgg4
  z4 := Try.sizeOf4
  v4 := Try.zeroValue4
  t5 := Try.underlying5
  a5 := Try.isAgg5
  z5 := Try.sizeOf5
  v5 := Try.zeroValue5
  t9 := Try.underlying9
  a9 := Try.isAgg9
  z9 := Try.sizeOf9
  v9 := Try.zeroValue9
  t31 := Try.underlying26
  a31 := Try.isAgg26
  z31 := Try.sizeOf26
  v31 := Try.zeroValue26
  t46 := Try.underlying60
  a46 := Try.isAgg60
  z46 := Try.sizeOf60
  v46 := Try.zeroValue60
  t51 := Try.underlying76
  a51 := Try.isAgg76
  z51 := Try.sizeOf76
  v51 := Try.zeroValue76
  t53 := Try.underlying78
  a53 := Try.isAgg78
  z53 := Try.sizeOf78
  v53 := Try.zeroValue78
  t131 := Try.underlying73
  a131 := Try.isAgg73
  z131 := Try.sizeOf73
  v131 := Try.zeroValue73
  t182 := Try.underlying68
  a182 := Try.isAgg68
  z182 := Try.sizeOf68
  v182 := Try.zeroValue68
  t183 := Try.underlying69
  a183 := Try.isAgg69
  z183 := Try.sizeOf69
  v183 := Try.zeroValue69
  t218 := Try.underlying80
  a218 := Try.isAgg80
  z218 := Try.sizeOf80
  v218 := Try.zeroValue80
  t222 := Try.underlying84
  a222 := Try.isAgg84
  z222 := Try.sizeOf84
  v222 := Try.zeroValue84
  t228 := Try.underlying86
  a228 := Try.isAgg86
  z228 := Try.sizeOf86
  v228 := Try.zeroValue86
  t229 := Try.underlying87
  a229 := Try.isAgg87
  z229 := Try.sizeOf87
  v229 := Try.zeroValue87 }

def Try.lays144_ren : Go.Shelf.Ren := ⟨fun | 144 => 51 | 143 => 69 | 219 => 77 | 217 => 79 | 225 => 80 | 224 => 81 | 267 => 82 | 266 => 83 | 314 => 84 | n => n, fun | 9 => 9 | 4 => 4 | 3 => 3 | 5 => 5 | 46 => 60 | 146 => 91 | 51 => 76 | n => n, fun | 1 => 0 | n => n⟩

theorem Try.lays144 : Go.Proofs.Lays.n144 Try.prog Try.lays144_ren := {
  mixed := by kernel_rfl
  f143 := Try.func69.trans (congrArg some (by kernel_rfl))
  f144 := Try.func51.trans (congrArg some (by kernel_rfl))
  f217 := Try.func79.trans (congrArg some (by kernel_rfl))
  f219 := Try.func77.trans (congrArg some (by kernel_rfl))
  f224 := Try.func81.trans (congrArg some (by kernel_rfl))
  f225 := Try.func80.trans (congrArg some (by kernel_rfl))
  f266 := Try.func83.trans (congrArg some (by kernel_rfl))
  f267 := Try.func82.trans (congrArg some (by kernel_rfl))
  f314 := Try.func84.trans (congrArg some (by kernel_rfl))
  t3 := Try.underlying3
  a3 := Try.isAgg3
  z3 := Try.sizeOf3
  v3 := Try.zeroValue3
  t4 := Try.underlying4
  a4 := Try.isAgg4
  z4 := Try.sizeOf4
  v4 := Try.zeroValue4
  t5 := Try.underlying5
  a5 := Try.isAgg5
  z5 := Try.sizeOf5
  v5 := Try.zeroValue5
  t9 := Try.underlying9
  a9 := Try.isAgg9
  z9 := Try.sizeOf9
  v9 := Try.zeroValue9
  t46 := Try.underlying60
  a46 := Try.isAgg60
  z46 := Try.sizeOf60
  v46 := Try.zeroValue60
  t51 := Try.underlying76
  a51 := Try.isAgg76
  z51 := Try.sizeOf76
  v51 := Try.zeroValue76
  t146 := Try.underlying91
  a146 := Try.isAgg91
  z146 := Try.sizeOf91
  v146 := Try.zeroValue91
  g1 := by kernel_rfl }

end Go.Proofs

namespace Go.Dv.U

open Go Go.Dv Go.Proofs Go.Shelf Go.RowKit Go.Lib Go.Sort

set_option maxHeartbeats 2000000 in
set_option maxRecDepth 100000 in
theorem sorted_some (g n cap : Nat) (xs : List (List UInt8)) (w : World) (hl : xs.length = n) (hbig : n < 4611686018427387904) (hlt : g < w.heap.size) (hcap : n ≤ cap) (hH : Holds Go.Proofs.encStr w g 0 xs.toArray) :
    Calls Try.prog 32 #[.slice (some ⟨g, 0, none⟩) n cap] w fun e w' => e = .returned (.slice (some ⟨g, 0, none⟩) (Lib.compact (xs.mergeSort fun x y => decide (x ≤ y))).length cap) ∧ ∃ nn os q, w' = putRow Go.Proofs.encStr (Sort.ahead (grow (putRow Go.Proofs.encStr (Sort.ahead w nn) g 0 (xs.mergeSort fun x y => decide (x ≤ y)).toArray) os) q) g 0 (Lib.compact (xs.mergeSort fun x y => decide (x ≤ y)) ++ List.replicate (n - (Lib.compact (xs.mergeSort fun x y => decide (x ≤ y))).length) []).toArray := by
  have hsort := Any.slices_Sort_string Try.laysSort g 0 cap xs w hH hlt (by omega)
  rw [hl] at hsort
  have hl2 : (xs.mergeSort fun x y => decide (x ≤ y)).length = n := by rw [List.length_mergeSort]; exact hl
  have X : Aside (g < w.heap.size ∧ n ≤ cap ∧ n < 4611686018427387904 ∧ xs.length = n ∧ Holds Go.Proofs.encStr w g 0 xs.toArray) := ⟨hlt, hcap, hbig, hl, hH⟩
  clear hH hl
  go_enter Try.func32, Try.ntmps32
  go_wp2_with (first
    | (go_at_call 36; refine hsort.mono ?_; rintro e w2 ⟨rfl, nn, os, rfl⟩
       have hH2 : Holds Go.Proofs.encStr (grow (putRow Go.Proofs.encStr (Sort.ahead w nn) g 0 (xs.mergeSort fun x y => decide (x ≤ y)).toArray) os) g 0 (xs.mergeSort fun x y => decide (x ≤ y)).toArray :=
         holds_grow Go.Proofs.encStr _ os g 0 _ (by simpa [putRow, mapBlock, Sort.ahead] using X.out.1) (holds_putRow Go.Proofs.encStr _ g 0 _ _ (holds_ahead Go.Proofs.encStr w nn g 0 _ X.out.2.2.2.2) (by simp))
       have hcomp := Any.slices_Compact_string Try.laysCompact g 0 cap (xs.mergeSort fun x y => decide (x ≤ y)) _ hH2 (by have := X.out.2.2.1; omega) (by have := X.out.2.1; omega)
       rw [hl2] at hcomp
       clear hH2 hsort)
    | (go_at_call 37; refine hcomp.mono ?_; rintro e w3 ⟨rfl, q, rfl⟩))
  go_ret
  exact ⟨rfl, nn, os, q, rfl⟩

set_option maxHeartbeats 2000000 in
theorem sorted_none (w : World) : Calls Try.prog 32 #[.slice none 0 0] w fun e w' => e = .returned (.slice none 0 0) ∧ w' = w := by
  go_enter Try.func32, Try.ntmps32
  go_wp2_with (first
    | (go_at_call 36; refine (Any.slices_Sort_string_none Try.laysSort none 0 _).mono ?_; rintro e w' ⟨rfl, rfl⟩)
    | (go_at_call 37; refine (Any.slices_Compact_string_empty Try.laysCompact none 0 _).mono ?_; rintro e w' ⟨rfl, rfl⟩))
  go_ret
  exact ⟨rfl, rfl⟩

theorem sorted_calls {xs ys : List (List UInt8)} (h : sortS xs = some ys) {w : World} {v : Value} (hown : w.ownsRow 0 9 1 v xs.length (xs.map Go.Dv.encStr)) :
    Calls Try.prog 32 #[v] w (fun en w' => ∃ v', en = .returned v' ∧ w'.ownsRow 0 9 1 v' ys.length (ys.map Go.Dv.encStr) ∧ w.grownBy w' v.ownBlock ∧ ∀ b, v'.ownBlock = some b → w.heap.size ≤ b ∨ v.ownBlock = some b) := by
  unfold sortS at h
  split at h
  · rename_i hl
    have h := Option.some.inj h
    subst h
    have hbb : big = 68719476736 := rfl
    rw [hbb] at hl
    have hl2 : (xs.mergeSort fun x y => decide (x ≤ y)).length = xs.length := List.length_mergeSort xs
    have hle := Lib.compact_length_le (xs.mergeSort fun x y => decide (x ≤ y))
    by_cases hv : v = .slice none 0 0
    · subst hv
      have hx : xs = [] := by
        rcases hown.2 with ⟨_, h0⟩ | ⟨g, cap, cur, h0, _⟩
        · exact List.eq_nil_of_length_eq_zero h0
        · cases h0
      subst hx
      refine (sorted_none w).mono ?_
      rintro e w' ⟨rfl, rfl⟩
      have e0 : Lib.compact (([] : List (List UInt8)).mergeSort fun x y => decide (x ≤ y)) = [] := by simp [Lib.compact, Lib.compactUpTo]
      rw [e0]
      exact ⟨_, rfl, hown, ⟨rfl, rfl, rfl, Nat.le_refl _, fun _ _ _ => rfl⟩, fun b hb => .inr hb⟩
    · obtain ⟨g, cap, rfl, hb, hlt, hnc, hcm, _, hH⟩ := Lib.holds_of_ownsRow (enc := Go.Proofs.encStr) hown hv
      refine (sorted_some g xs.length cap xs w rfl (by omega) hlt hnc hH).mono ?_
      rintro e w' ⟨rfl, nn, os, q, rfl⟩
      rcases hown.2 with ⟨h0, _⟩ | ⟨g', cap', cur, hv', hbase, hb', h1, h2, h3, h4⟩
      · cases h0
      cases hv'
      have hs := ownsRow_sorted (n := nn) (os := os) (ts := xs.mergeSort fun x y => decide (x ≤ y)) hl2 hbase hb' h1 h2 h3
      have hc := Lib.ownsRow_putRow (q := q) (k := (Lib.compact (xs.mergeSort fun x y => decide (x ≤ y))).length) (ys := Lib.compact (xs.mergeSort fun x y => decide (x ≤ y)) ++ List.replicate (xs.length - (Lib.compact (xs.mergeSort fun x y => decide (x ≤ y))).length) []) hs (by simp; omega) (by omega)
      rw [List.take_left] at hc
      refine ⟨_, rfl, hc, ?_, fun b hb => .inr hb⟩
      have hg := grownBy_sorted (w := w) (g := g) (n := nn) (os := os) (xs.mergeSort fun x y => decide (x ≤ y)).toArray
      refine ⟨hg.os, hg.tape, hg.output, by simp [putRow, mapBlock, Sort.ahead], fun k hk hne => ?_⟩
      have hgk : g ≠ k := fun e => hne (by simp [Value.ownBlock, e])
      have hold := hg.block k hk (fun e => hgk (by cases e; rfl))
      rw [← hold]
      simp [putRow, mapBlock, Sort.ahead, Array.getElem?_modify, hgk]
  · cases h

theorem CC.ext : ExtOK CC := by
  refine ⟨fun f rt g vs p h hg okA w vals hlt hgl hv => ?_, fun f e g vs xs h hg okA w vals hlt hgl hv => ?_, fun f e g vs cs h hg okA w vals hlt hgl hv => ?_, fun f T e h w b v us s hB hlen => ?_, fun f T e h w b v l hB => ?_, fun f e g xs ys h hg w v hown => ?_⟩
  · change U.extT f = some ⟨rt, g⟩ at h
    unfold U.extT at h
    split at h
    · cases h
      obtain ⟨m, hm⟩ := (hgl.1.2 0 rfl).2; exact contains_calls Try.lays144 hg hm hv
    · cases h
  · cases h
  · cases h
  · cases h
  · cases h
  · change U.eatT f = some (e, g) at h
    unfold U.eatT at h
    split at h
    · cases h
      exact sorted_calls hg hown
    · cases h

end Go.Dv.U
