/- What the library functions of the program that are met by contract return: the layings of the shelf in plain words, and the contracts of the evaluator. -/
import Derived.Test.YthifliapgmalpaaGreatSga
import Derived.WalkKit
import Derived.Ground.Names2Prog
import Derived.Ground.Names8Prog
import Derived.Ground.NamesProg
import Derived.Shelf.LaysC
import Derived.Shelf.Strconv.ParseIntPublic10
set_option linter.all false
set_option linter.unusedVariables false
set_option linter.unusedSimpArgs false
namespace Go.Proofs

open Go.Shelf

def Tryz.laysClone_ren : Go.Shelf.Ren := ⟨fun | 16 => 71 | n => n, fun | 24 => 66 | 9 => 9 | 4 => 4 | n => n, fun | n => n⟩

theorem Tryz.laysClone : Go.Proofs.Lays2.n16 Tryz.prog Tryz.laysClone_ren := {
  mixed := by kernel_rfl
  f16 := Tryz.func71.trans (congrArg some (by kernel_rfl))
  t4 := Tryz.underlying4
  a4 := Tryz.isAgg4
  z4 := Tryz.sizeOf4
  v4 := Tryz.zeroValue4
  t9 := Tryz.underlying9
  a9 := Tryz.isAgg9
  z9 := Tryz.sizeOf9
  v9 := Tryz.zeroValue9
  t24 := Tryz.underlying66
  a24 := Tryz.isAgg66
  z24 := Tryz.sizeOf66
  v24 := Tryz.zeroValue66
  i9 := by kernel_rfl }

def Tryz.laysCompact_ren : Go.Shelf.Ren := ⟨fun | 194 => 85 | n => n, fun | 31 => 66 | 9 => 9 | 3 => 3 | 4 => 4 | 0 => 0 | n => n, fun | n => n⟩

theorem Tryz.laysCompact : Go.Proofs.Lays.n194 Tryz.prog Tryz.laysCompact_ren := {
  mixed := by kernel_rfl
  f194 := Tryz.func85.trans (congrArg some (by kernel_rfl))
  t0 := Tryz.underlying0
  a0 := Tryz.isAgg0
  z0 := Tryz.sizeOf0
  v0 := Tryz.zeroValue0
  t3 := Tryz.underlying3
  a3 := Tryz.isAgg3
  z3 := Tryz.sizeOf3
  v3 := Tryz.zeroValue3
  t4 := Tryz.underlying4
  a4 := Tryz.isAgg4
  z4 := Tryz.sizeOf4
  v4 := Tryz.zeroValue4
  t9 := Tryz.underlying9
  a9 := Tryz.isAgg9
  z9 := Tryz.sizeOf9
  v9 := Tryz.zeroValue9
  t31 := Tryz.underlying66
  a31 := Tryz.isAgg66
  z31 := Tryz.sizeOf66
  v31 := Tryz.zeroValue66 }

def Tryz.laysSort_ren : Go.Shelf.Ren := ⟨fun | 190 => 84 | 125 => 89 | 258 => 88 | 128 => 99 | 129 => 100 | 302 => 90 | 303 => 91 | 304 => 92 | 305 => 93 | 306 => 94 | 307 => 95 | 308 => 96 | 309 => 97 | 310 => 98 | 333 => 101 | 329 => 102 | 330 => 103 | 334 => 104 | 335 => 105 | 336 => 106 | 344 => 107 | n => n, fun | 31 => 66 | 9 => 9 | 3 => 3 | 46 => 118 | 0 => 0 | 51 => 129 | 53 => 131 | 4 => 4 | 183 => 121 | 182 => 120 | 131 => 126 | 5 => 5 | 218 => 132 | 222 => 136 | 228 => 138 | 229 => 139 | n => n, fun | n => n⟩

theorem Tryz.laysSort : Go.Proofs.Lays.n190 Tryz.prog Tryz.laysSort_ren := {
  mixed := by kernel_rfl
  f125 := Tryz.func89.trans (congrArg some (by kernel_rfl))
  f128 := Tryz.func99.trans (congrArg some (by kernel_rfl))
  f129 := Tryz.func100.trans (congrArg some (by kernel_rfl))
  f190 := Tryz.func84.trans (congrArg some (by kernel_rfl))
  f258 := Tryz.func88.trans (congrArg some (by kernel_rfl))
  f302 := Tryz.func90.trans (congrArg some (by kernel_rfl))
  f303 := Tryz.func91.trans (congrArg some (by kernel_rfl))
  f304 := Tryz.func92.trans (congrArg some (by kernel_rfl))
  f305 := Tryz.func93.trans (congrArg some (by kernel_rfl))
  f306 := Tryz.func94.trans (congrArg some (by kernel_rfl))
  f307 := Tryz.func95.trans (congrArg some (by kernel_rfl))
  f308 := Tryz.func96.trans (congrArg some (by kernel_rfl))
  f309 := Tryz.func97.trans (congrArg some (by kernel_rfl))
  f310 := Tryz.func98.trans (congrArg some (by kernel_rfl))
  f329 := Tryz.func102.trans (congrArg some (by kernel_rfl))
  f330 := Tryz.func103.trans (congrArg some (by kernel_rfl))
  f333 := Tryz.func101.trans (congrArg some (by kernel_rfl))
  f334 := Tryz.func104.trans (congrArg some (by kernel_rfl))
  f335 := Tryz.func105.trans (congrArg some (by kernel_rfl))
  f336 := Tryz.func106.trans (congrArg some (by kernel_rfl))
  f344 := Tryz.func107.trans (congrArg some (by kernel_rfl))
  t0 := Tryz.underlying0
  a0 := Tryz.isAgg0
  z0 := Tryz.sizeOf0
  v0 := Tryz.zeroValue0
  t3 := Tryz.underlying3
  a3 := Tryz.isAgg3
  z3 := Tryz.sizeOf3
  v3 := Tryz.zeroValue3
  t4 := Tryz.underlying4
  a4 := Tryz.isAgg4
  z4 := Tryz.sizeOf4
  v4 := Tryz.zeroValue4
  t5 := Tryz.underlying5
  a5 := Tryz.isAgg5
  z5 := Tryz.sizeOf5
  v5 := Tryz.zeroValue5
  t9 := Tryz.underlying9
  a9 := Tryz.isAgg9
  z9 := Tryz.sizeOf9
  v9 := Tryz.zeroValue9
  t31 := Tryz.underlying66
  a31 := Tryz.isAgg66
  z31 := Tryz.sizeOf66
  v31 := Tryz.zeroValue66
  t46 := Tryz.underlying118
  a46 := Tryz.isAgg118
  z46 := Tryz.sizeOf118
  v46 := Tryz.zeroValue118
  t51 := Tryz.underlying129
  a51 := Tryz.isAgg129
  z51 := Tryz.sizeOf129
  v51 := Tryz.zeroValue129
  t53 := Tryz.underlying131
  a53 := Tryz.isAgg131
  z53 := Tryz.sizeOf131
  v53 := Tryz.zeroValue131
  t131 := Tryz.underlying126
  a131 := Tryz.isAgg126
  z131 := Tryz.sizeOf126
  v131 := Tryz.zeroValue126
  t182 := Tryz.underlying120
  a182 := Tryz.isAgg120
  z182 := Tryz.sizeOf120
  v182 := Tryz.zeroValue120
  t183 := Tryz.underlying121
  a183 := Tryz.isAgg121
  z183 := Tryz.sizeOf121
  v183 := Tryz.zeroValue121
  t218 := Tryz.underlying132
  a218 := Tryz.isAgg132
  z218 := Tryz.sizeOf132
  v218 := Tryz.zeroValue132
  t222 := Tryz.underlying136
  a222 := Tryz.isAgg136
  z222 := Tryz.sizeOf136
  v222 := Tryz.zeroValue136
  t228 := Tryz.underlying138
  a228 := Tryz.isAgg138
  z228 := Tryz.sizeOf138
  v228 := Tryz.zeroValue138
  t229 := Tryz.underlying139
  a229 := Tryz.isAgg139
  z229 := Tryz.sizeOf139
  v229 := Tryz.zeroValue139 }

def Tryz.laysGrow_ren : Go.Shelf.Ren := ⟨fun | 4 => 83 | n => n, fun | 22 => 66 | 25 => 9 | 3 => 3 | 4 => 4 | 9 => 9 | 20 => 20 | 0 => 0 | n => n, fun | n => n⟩

theorem Tryz.laysGrow : Go.Proofs.Lays8.n4 Tryz.prog Tryz.laysGrow_ren := {
  mixed := by kernel_rfl
  f4 := ⟨Tryz.f83.name, by decide, Tryz.func83.trans (congrArg some (by kernel_rfl))⟩
  t0 := Tryz.underlying0
  a0 := Tryz.isAgg0
  z0 := Tryz.sizeOf0
  v0 := Tryz.zeroValue0
  t3 := Tryz.underlying3
  a3 := Tryz.isAgg3
  z3 := Tryz.sizeOf3
  v3 := Tryz.zeroValue3
  t4 := Tryz.underlying4
  a4 := Tryz.isAgg4
  z4 := Tryz.sizeOf4
  v4 := Tryz.zeroValue4
  t9 := Tryz.underlying9
  a9 := Tryz.isAgg9
  z9 := Tryz.sizeOf9
  v9 := Tryz.zeroValue9
  t20 := Tryz.underlying20
  a20 := Tryz.isAgg20
  z20 := Tryz.sizeOf20
  v20 := Tryz.zeroValue20
  t22 := Tryz.underlying66
  a22 := Tryz.isAgg66
  z22 := Tryz.sizeOf66
  v22 := Tryz.zeroValue66 }

end Go.Proofs

namespace Go.Dv.U

open Go Go.Dv Go.Proofs Go.Shelf Go.RowKit Go.Lib Go.Sort

set_option maxHeartbeats 2000000 in
set_option maxRecDepth 100000 in
theorem sorted_some (g n cap : Nat) (xs : List (List UInt8)) (w : World) (hl : xs.length = n) (hbig : n < 4611686018427387904) (hlt : g < w.heap.size) (hcap : n ≤ cap) (hH : Holds Go.Proofs.encStr w g 0 xs.toArray) :
    Calls Tryz.prog 70 #[.slice (some ⟨g, 0, none⟩) n cap] w fun e w' => e = .returned (.slice (some ⟨g, 0, none⟩) (Lib.compact (xs.mergeSort fun x y => decide (x ≤ y))).length cap) ∧ ∃ nn os q, w' = putRow Go.Proofs.encStr (Sort.ahead (grow (putRow Go.Proofs.encStr (Sort.ahead w nn) g 0 (xs.mergeSort fun x y => decide (x ≤ y)).toArray) os) q) g 0 (Lib.compact (xs.mergeSort fun x y => decide (x ≤ y)) ++ List.replicate (n - (Lib.compact (xs.mergeSort fun x y => decide (x ≤ y))).length) []).toArray := by
  have hsort := Any.slices_Sort_string Tryz.laysSort g 0 cap xs w hH hlt (by omega)
  rw [hl] at hsort
  have hl2 : (xs.mergeSort fun x y => decide (x ≤ y)).length = n := by rw [List.length_mergeSort]; exact hl
  have X : Aside (g < w.heap.size ∧ n ≤ cap ∧ n < 4611686018427387904 ∧ xs.length = n ∧ Holds Go.Proofs.encStr w g 0 xs.toArray) := ⟨hlt, hcap, hbig, hl, hH⟩
  clear hH hl
  go_enter Tryz.func70, Tryz.ntmps70
  go_wp2_with (first
    | (go_at_call 84; refine hsort.mono ?_; rintro e w2 ⟨rfl, nn, os, rfl⟩
       have hH2 : Holds Go.Proofs.encStr (grow (putRow Go.Proofs.encStr (Sort.ahead w nn) g 0 (xs.mergeSort fun x y => decide (x ≤ y)).toArray) os) g 0 (xs.mergeSort fun x y => decide (x ≤ y)).toArray :=
         holds_grow Go.Proofs.encStr _ os g 0 _ (by simpa [putRow, mapBlock, Sort.ahead] using X.out.1) (holds_putRow Go.Proofs.encStr _ g 0 _ _ (holds_ahead Go.Proofs.encStr w nn g 0 _ X.out.2.2.2.2) (by simp))
       have hcomp := Any.slices_Compact_string Tryz.laysCompact g 0 cap (xs.mergeSort fun x y => decide (x ≤ y)) _ hH2 (by have := X.out.2.2.1; omega) (by have := X.out.2.1; omega)
       rw [hl2] at hcomp
       clear hH2 hsort)
    | (go_at_call 85; refine hcomp.mono ?_; rintro e w3 ⟨rfl, q, rfl⟩))
  go_ret
  exact ⟨rfl, nn, os, q, rfl⟩

set_option maxHeartbeats 2000000 in
theorem sorted_none (w : World) : Calls Tryz.prog 70 #[.slice none 0 0] w fun e w' => e = .returned (.slice none 0 0) ∧ w' = w := by
  go_enter Tryz.func70, Tryz.ntmps70
  go_wp2_with (first
    | (go_at_call 84; refine (Any.slices_Sort_string_none Tryz.laysSort none 0 _).mono ?_; rintro e w' ⟨rfl, rfl⟩)
    | (go_at_call 85; refine (Any.slices_Compact_string_empty Tryz.laysCompact none 0 _).mono ?_; rintro e w' ⟨rfl, rfl⟩))
  go_ret
  exact ⟨rfl, rfl⟩

theorem sorted_calls {xs ys : List (List UInt8)} (h : sortS xs = some ys) {w : World} {v : Value} (hown : w.ownsRow 0 9 1 v xs.length (xs.map Go.Dv.encStr)) :
    Calls Tryz.prog 70 #[v] w (fun en w' => ∃ v', en = .returned v' ∧ w'.ownsRow 0 9 1 v' ys.length (ys.map Go.Dv.encStr) ∧ w.grownBy w' v.ownBlock ∧ ∀ b, v'.ownBlock = some b → w.heap.size ≤ b ∨ v.ownBlock = some b) := by
  unfold sortS at h
  split at h
  · rename_i hl
    have h := Option.some.inj h
    subst h
    have hbb : big = 68719476736 := rfl
    rw [hbb] at hl
    have hl2 : (xs.mergeSort fun x y => decide (x ≤ y)).length = xs.length := List.length_mergeSort xs
    have hle := Lib.compact_length_le (xs.mergeSort fun x y => decide (x ≤ y))
    by_cases hv : v = .slice none 0 0
    · subst hv
      have hx : xs = [] := by
        rcases hown.2 with ⟨_, h0⟩ | ⟨g, cap, cur, h0, _⟩
        · exact List.eq_nil_of_length_eq_zero h0
        · cases h0
      subst hx
      refine (sorted_none w).mono ?_
      rintro e w' ⟨rfl, rfl⟩
      have e0 : Lib.compact (([] : List (List UInt8)).mergeSort fun x y => decide (x ≤ y)) = [] := by simp [Lib.compact, Lib.compactUpTo]
      rw [e0]
      exact ⟨_, rfl, hown, ⟨rfl, rfl, rfl, Nat.le_refl _, fun _ _ _ => rfl⟩, fun b hb => .inr hb⟩
    · obtain ⟨g, cap, rfl, hb, hlt, hnc, hcm, _, hH⟩ := Lib.holds_of_ownsRow (enc := Go.Proofs.encStr) hown hv
      refine (sorted_some g xs.length cap xs w rfl (by omega) hlt hnc hH).mono ?_
      rintro e w' ⟨rfl, nn, os, q, rfl⟩
      rcases hown.2 with ⟨h0, _⟩ | ⟨g', cap', cur, hv', hbase, hb', h1, h2, h3, h4⟩
      · cases h0
      cases hv'
      have hs := ownsRow_sorted (n := nn) (os := os) (ts := xs.mergeSort fun x y => decide (x ≤ y)) hl2 hbase hb' h1 h2 h3
      have hc := Lib.ownsRow_putRow (q := q) (k := (Lib.compact (xs.mergeSort fun x y => decide (x ≤ y))).length) (ys := Lib.compact (xs.mergeSort fun x y => decide (x ≤ y)) ++ List.replicate (xs.length - (Lib.compact (xs.mergeSort fun x y => decide (x ≤ y))).length) []) hs (by simp; omega) (by omega)
      rw [List.take_left] at hc
      refine ⟨_, rfl, hc, ?_, fun b hb => .inr hb⟩
      have hg := grownBy_sorted (w := w) (g := g) (n := nn) (os := os) (xs.mergeSort fun x y => decide (x ≤ y)).toArray
      refine ⟨hg.os, hg.tape, hg.output, by simp [putRow, mapBlock, Sort.ahead], fun k hk hne => ?_⟩
      have hgk : g ≠ k := fun e => hne (by simp [Value.ownBlock, e])
      have hold := hg.block k hk (fun e => hgk (by cases e; rfl))
      rw [← hold]
      simp [putRow, mapBlock, Sort.ahead, Array.getElem?_modify, hgk]
  · cases h

theorem CC.ext : ExtOK CC := by
  refine ⟨fun f rt g vs p h hg okA w vals hlt hgl hv => ?_, fun f e g vs xs h hg okA w vals hlt hgl hv => ?_, fun f e g vs cs h hg okA w vals hlt hgl hv => ?_, fun f T e h w b v us s hB hlen => ?_, fun f T e h w b v l hB => ?_, fun f e g xs ys h hg w v hown => ?_⟩
  · cases h
  · change U.ownT f = some (e, g) at h
    unfold U.ownT at h
    split at h
    · cases h
      exact clone_calls Tryz.laysClone hg hv
    · cases h
      exact grow_calls' Tryz.laysGrow (by kernel_rfl) hg hv
    · cases h
  · cases h
  · cases h
  · cases h
  · change U.eatT f = some (e, g) at h
    unfold U.eatT at h
    split at h
    · cases h
      exact sorted_calls hg hown
    · cases h

end Go.Dv.U
