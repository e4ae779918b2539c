/- What the library functions of the program that are met by contract return: the layings of the shelf in plain words, and the contracts of the evaluator. -/
import Derived.Test.YtfgdcolakpfjhaaGreatSga
import Derived.WalkKit
import Derived.Ground.Names2Prog
import Derived.Ground.Names8Prog
import Derived.Ground.NamesProg
import Derived.Ground.SlgnProg
import Derived.Shelf.SlicesE.Clone
import Derived.Shelf.LaysC
import Derived.Shelf.Strconv.ParseIntPublic10
set_option linter.all false
set_option linter.unusedVariables false
set_option linter.unusedSimpArgs false
namespace Go.Proofs

open Go.Shelf

def Tryz.laysClone_ren : Go.Shelf.Ren := ⟨fun | 16 => 212 | n => n, fun | 24 => 70 | 9 => 9 | 4 => 4 | n => n, fun | n => n⟩

theorem Tryz.laysClone : Go.Proofs.Lays2.n16 Tryz.prog Tryz.laysClone_ren := {
  mixed := by kernel_rfl
  f16 := Tryz.func212.trans (congrArg some (by kernel_rfl))
  t4 := Tryz.underlying4
  a4 := Tryz.isAgg4
  z4 := Tryz.sizeOf4
  v4 := Tryz.zeroValue4
  t9 := Tryz.underlying9
  a9 := Tryz.isAgg9
  z9 := Tryz.sizeOf9
  v9 := Tryz.zeroValue9
  t24 := Tryz.underlying70
  a24 := Tryz.isAgg70
  z24 := Tryz.sizeOf70
  v24 := Tryz.zeroValue70
  i9 := by kernel_rfl }

def Tryz.laysCompact_ren : Go.Shelf.Ren := ⟨fun | 194 => 248 | n => n, fun | 31 => 70 | 9 => 9 | 3 => 3 | 4 => 4 | 0 => 0 | n => n, fun | n => n⟩

theorem Tryz.laysCompact : Go.Proofs.Lays.n194 Tryz.prog Tryz.laysCompact_ren := {
  mixed := by kernel_rfl
  f194 := Tryz.func248.trans (congrArg some (by kernel_rfl))
  t0 := Tryz.underlying0
  a0 := Tryz.isAgg0
  z0 := Tryz.sizeOf0
  v0 := Tryz.zeroValue0
  t3 := Tryz.underlying3
  a3 := Tryz.isAgg3
  z3 := Tryz.sizeOf3
  v3 := Tryz.zeroValue3
  t4 := Tryz.underlying4
  a4 := Tryz.isAgg4
  z4 := Tryz.sizeOf4
  v4 := Tryz.zeroValue4
  t9 := Tryz.underlying9
  a9 := Tryz.isAgg9
  z9 := Tryz.sizeOf9
  v9 := Tryz.zeroValue9
  t31 := Tryz.underlying70
  a31 := Tryz.isAgg70
  z31 := Tryz.sizeOf70
  v31 := Tryz.zeroValue70 }

def Tryz.laysSort_ren : Go.Shelf.Ren := ⟨fun | 190 => 247 | 125 => 256 | 258 => 255 | 128 => 266 | 129 => 267 | 302 => 257 | 303 => 258 | 304 => 259 | 305 => 260 | 306 => 261 | 307 => 262 | 308 => 263 | 309 => 264 | 310 => 265 | 333 => 268 | 329 => 269 | 330 => 270 | 334 => 271 | 335 => 272 | 336 => 273 | 344 => 274 | n => n, fun | 31 => 70 | 9 => 9 | 3 => 3 | 46 => 312 | 0 => 0 | 51 => 325 | 53 => 327 | 4 => 4 | 183 => 319 | 182 => 318 | 131 => 289 | 5 => 5 | 218 => 328 | 222 => 332 | 228 => 334 | 229 => 335 | n => n, fun | n => n⟩

theorem Tryz.laysSort : Go.Proofs.Lays.n190 Tryz.prog Tryz.laysSort_ren := {
  mixed := by kernel_rfl
  f125 := Tryz.func256.trans (congrArg some (by kernel_rfl))
  f128 := Tryz.func266.trans (congrArg some (by kernel_rfl))
  f129 := Tryz.func267.trans (congrArg some (by kernel_rfl))
  f190 := Tryz.func247.trans (congrArg some (by kernel_rfl))
  f258 := Tryz.func255.trans (congrArg some (by kernel_rfl))
  f302 := Tryz.func257.trans (congrArg some (by kernel_rfl))
  f303 := Tryz.func258.trans (congrArg some (by kernel_rfl))
  f304 := Tryz.func259.trans (congrArg some (by kernel_rfl))
  f305 := Tryz.func260.trans (congrArg some (by kernel_rfl))
  f306 := Tryz.func261.trans (congrArg some (by kernel_rfl))
  f307 := Tryz.func262.trans (congrArg some (by kernel_rfl))
  f308 := Tryz.func263.trans (congrArg some (by kernel_rfl))
  f309 := Tryz.func264.trans (congrArg some (by kernel_rfl))
  f310 := Tryz.func265.trans (congrArg some (by kernel_rfl))
  f329 := Tryz.func269.trans (congrArg some (by kernel_rfl))
  f330 := Tryz.func270.trans (congrArg some (by kernel_rfl))
  f333 := Tryz.func268.trans (congrArg some (by kernel_rfl))
  f334 := Tryz.func271.trans (congrArg some (by kernel_rfl))
  f335 := Tryz.func272.trans (congrArg some (by kernel_rfl))
  f336 := Tryz.func273.trans (congrArg some (by kernel_rfl))
  f344 := Tryz.func274.trans (congrArg some (by kernel_rfl))
  t0 := Tryz.underlying0
  a0 := Tryz.isAgg0
  z0 := Tryz.sizeOf0
  v0 := Tryz.zeroValue0
  t3 := Tryz.underlying3
  a3 := Tryz.isAgg3
  z3 := Tryz.sizeOf3
  v3 := Tryz.zeroValue3
  t4 := Tryz.underlying4
  a4 := Tryz.isAgg4
  z4 := Tryz.sizeOf4
  v4 := Tryz.zeroValue4
  t5 := Tryz.underlying5
  a5 := Tryz.isAgg5
  z5 := Tryz.sizeOf5
  v5 := Tryz.zeroValue5
  t9 := Tryz.underlying9
  a9 := Tryz.isAgg9
  z9 := Tryz.sizeOf9
  v9 := Tryz.zeroValue9
  t31 := Tryz.underlying70
  a31 := Tryz.isAgg70
  z31 := Tryz.sizeOf70
  v31 := Tryz.zeroValue70
  t46 := Tryz.underlying312
  a46 := Tryz.isAgg312
  z46 := Tryz.sizeOf312
  v46 := Tryz.zeroValue312
  t51 := Tryz.underlying325
  a51 := Tryz.isAgg325
  z51 := Tryz.sizeOf325
  v51 := Tryz.zeroValue325
  t53 := Tryz.underlying327
  a53 := Tryz.isAgg327
  z53 := Tryz.sizeOf327
  v53 := Tryz.zeroValue327
  t131 := Tryz.underlying289
  a131 := Tryz.isAgg289
  z131 := Tryz.sizeOf289
  v131 := Tryz.zeroValue289
  t182 := Tryz.underlying318
  a182 := Tryz.isAgg318
  z182 := Tryz.sizeOf318
  v182 := Tryz.zeroValue318
  t183 := Tryz.underlying319
  a183 := Tryz.isAgg319
  z183 := Tryz.sizeOf319
  v183 := Tryz.zeroValue319
  t218 := Tryz.underlying328
  a218 := Tryz.isAgg328
  z218 := Tryz.sizeOf328
  v218 := Tryz.zeroValue328
  t222 := Tryz.underlying332
  a222 := Tryz.isAgg332
  z222 := Tryz.sizeOf332
  v222 := Tryz.zeroValue332
  t228 := Tryz.underlying334
  a228 := Tryz.isAgg334
  z228 := Tryz.sizeOf334
  v228 := Tryz.zeroValue334
  t229 := Tryz.underlying335
  a229 := Tryz.isAgg335
  z229 := Tryz.sizeOf335
  v229 := Tryz.zeroValue335 }

def Tryz.laysGrow_ren : Go.Shelf.Ren := ⟨fun | 4 => 246 | n => n, fun | 22 => 70 | 25 => 9 | 3 => 3 | 4 => 4 | 9 => 9 | 20 => 20 | 0 => 0 | n => n, fun | n => n⟩

theorem Tryz.laysGrow : Go.Proofs.Lays8.n4 Tryz.prog Tryz.laysGrow_ren := {
  mixed := by kernel_rfl
  f4 := ⟨Tryz.f246.name, by decide, Tryz.func246.trans (congrArg some (by kernel_rfl))⟩
  t0 := Tryz.underlying0
  a0 := Tryz.isAgg0
  z0 := Tryz.sizeOf0
  v0 := Tryz.zeroValue0
  t3 := Tryz.underlying3
  a3 := Tryz.isAgg3
  z3 := Tryz.sizeOf3
  v3 := Tryz.zeroValue3
  t4 := Tryz.underlying4
  a4 := Tryz.isAgg4
  z4 := Tryz.sizeOf4
  v4 := Tryz.zeroValue4
  t9 := Tryz.underlying9
  a9 := Tryz.isAgg9
  z9 := Tryz.sizeOf9
  v9 := Tryz.zeroValue9
  t20 := Tryz.underlying20
  a20 := Tryz.isAgg20
  z20 := Tryz.sizeOf20
  v20 := Tryz.zeroValue20
  t22 := Tryz.underlying70
  a22 := Tryz.isAgg70
  z22 := Tryz.sizeOf70
  v22 := Tryz.zeroValue70 }

def Tryz.laysGrow241_ren : Go.Shelf.Ren := ⟨fun | 4 => 241 | n => n, fun | 22 => 55 | 25 => 50 | 3 => 3 | 4 => 4 | 9 => 9 | 20 => 20 | 0 => 0 | n => n, fun | n => n⟩

theorem Tryz.laysGrow241 : Go.Proofs.Lays8.n4 Tryz.prog Tryz.laysGrow241_ren := {
  mixed := by kernel_rfl
  f4 := ⟨Tryz.f241.name, by decide, Tryz.func241.trans (congrArg some (by kernel_rfl))⟩
  t0 := Tryz.underlying0
  a0 := Tryz.isAgg0
  z0 := Tryz.sizeOf0
  v0 := Tryz.zeroValue0
  t3 := Tryz.underlying3
  a3 := Tryz.isAgg3
  z3 := Tryz.sizeOf3
  v3 := Tryz.zeroValue3
  t4 := Tryz.underlying4
  a4 := Tryz.isAgg4
  z4 := Tryz.sizeOf4
  v4 := Tryz.zeroValue4
  t9 := Tryz.underlying9
  a9 := Tryz.isAgg9
  z9 := Tryz.sizeOf9
  v9 := Tryz.zeroValue9
  t20 := Tryz.underlying20
  a20 := Tryz.isAgg20
  z20 := Tryz.sizeOf20
  v20 := Tryz.zeroValue20
  t22 := Tryz.underlying55
  a22 := Tryz.isAgg55
  z22 := Tryz.sizeOf55
  v22 := Tryz.zeroValue55 }

end Go.Proofs

namespace Go.Dv.U

open Go Go.Dv Go.Proofs Go.Shelf Go.RowKit Go.Lib Go.Sort

set_option maxHeartbeats 2000000 in
set_option maxRecDepth 100000 in
theorem sorted_some (g n cap : Nat) (xs : List (List UInt8)) (w : World) (hl : xs.length = n) (hbig : n < 4611686018427387904) (hlt : g < w.heap.size) (hcap : n ≤ cap) (hH : Holds Go.Proofs.encStr w g 0 xs.toArray) :
    Calls Tryz.prog 211 #[.slice (some ⟨g, 0, none⟩) n cap] w fun e w' => e = .returned (.slice (some ⟨g, 0, none⟩) (Lib.compact (xs.mergeSort fun x y => decide (x ≤ y))).length cap) ∧ ∃ nn os q, w' = putRow Go.Proofs.encStr (Sort.ahead (grow (putRow Go.Proofs.encStr (Sort.ahead w nn) g 0 (xs.mergeSort fun x y => decide (x ≤ y)).toArray) os) q) g 0 (Lib.compact (xs.mergeSort fun x y => decide (x ≤ y)) ++ List.replicate (n - (Lib.compact (xs.mergeSort fun x y => decide (x ≤ y))).length) []).toArray := by
  have hsort := Any.slices_Sort_string Tryz.laysSort g 0 cap xs w hH hlt (by omega)
  rw [hl] at hsort
  have hl2 : (xs.mergeSort fun x y => decide (x ≤ y)).length = n := by rw [List.length_mergeSort]; exact hl
  have X : Aside (g < w.heap.size ∧ n ≤ cap ∧ n < 4611686018427387904 ∧ xs.length = n ∧ Holds Go.Proofs.encStr w g 0 xs.toArray) := ⟨hlt, hcap, hbig, hl, hH⟩
  clear hH hl
  go_enter Tryz.func211, Tryz.ntmps211
  go_wp2_with (first
    | (go_at_call 247; refine hsort.mono ?_; rintro e w2 ⟨rfl, nn, os, rfl⟩
       have hH2 : Holds Go.Proofs.encStr (grow (putRow Go.Proofs.encStr (Sort.ahead w nn) g 0 (xs.mergeSort fun x y => decide (x ≤ y)).toArray) os) g 0 (xs.mergeSort fun x y => decide (x ≤ y)).toArray :=
         holds_grow Go.Proofs.encStr _ os g 0 _ (by simpa [putRow, mapBlock, Sort.ahead] using X.out.1) (holds_putRow Go.Proofs.encStr _ g 0 _ _ (holds_ahead Go.Proofs.encStr w nn g 0 _ X.out.2.2.2.2) (by simp))
       have hcomp := Any.slices_Compact_string Tryz.laysCompact g 0 cap (xs.mergeSort fun x y => decide (x ≤ y)) _ hH2 (by have := X.out.2.2.1; omega) (by have := X.out.2.1; omega)
       rw [hl2] at hcomp
       clear hH2 hsort)
    | (go_at_call 248; refine hcomp.mono ?_; rintro e w3 ⟨rfl, q, rfl⟩))
  go_ret
  exact ⟨rfl, nn, os, q, rfl⟩

set_option maxHeartbeats 2000000 in
theorem sorted_none (w : World) : Calls Tryz.prog 211 #[.slice none 0 0] w fun e w' => e = .returned (.slice none 0 0) ∧ w' = w := by
  go_enter Tryz.func211, Tryz.ntmps211
  go_wp2_with (first
    | (go_at_call 247; refine (Any.slices_Sort_string_none Tryz.laysSort none 0 _).mono ?_; rintro e w' ⟨rfl, rfl⟩)
    | (go_at_call 248; refine (Any.slices_Compact_string_empty Tryz.laysCompact none 0 _).mono ?_; rintro e w' ⟨rfl, rfl⟩))
  go_ret
  exact ⟨rfl, rfl⟩

theorem sorted_calls {xs ys : List (List UInt8)} (h : sortS xs = some ys) {w : World} {v : Value} (hown : w.ownsRow 0 9 1 v xs.length (xs.map Go.Dv.encStr)) :
    Calls Tryz.prog 211 #[v] w (fun en w' => ∃ v', en = .returned v' ∧ w'.ownsRow 0 9 1 v' ys.length (ys.map Go.Dv.encStr) ∧ w.grownBy w' v.ownBlock ∧ ∀ b, v'.ownBlock = some b → w.heap.size ≤ b ∨ v.ownBlock = some b) := by
  unfold sortS at h
  split at h
  · rename_i hl
    have h := Option.some.inj h
    subst h
    have hbb : big = 68719476736 := rfl
    rw [hbb] at hl
    have hl2 : (xs.mergeSort fun x y => decide (x ≤ y)).length = xs.length := List.length_mergeSort xs
    have hle := Lib.compact_length_le (xs.mergeSort fun x y => decide (x ≤ y))
    by_cases hv : v = .slice none 0 0
    · subst hv
      have hx : xs = [] := by
        rcases hown.2 with ⟨_, h0⟩ | ⟨g, cap, cur, h0, _⟩
        · exact List.eq_nil_of_length_eq_zero h0
        · cases h0
      subst hx
      refine (sorted_none w).mono ?_
      rintro e w' ⟨rfl, rfl⟩
      have e0 : Lib.compact (([] : List (List UInt8)).mergeSort fun x y => decide (x ≤ y)) = [] := by simp [Lib.compact, Lib.compactUpTo]
      rw [e0]
      exact ⟨_, rfl, hown, ⟨rfl, rfl, rfl, Nat.le_refl _, fun _ _ _ => rfl⟩, fun b hb => .inr hb⟩
    · obtain ⟨g, cap, rfl, hb, hlt, hnc, hcm, _, hH⟩ := Lib.holds_of_ownsRow (enc := Go.Proofs.encStr) hown hv
      refine (sorted_some g xs.length cap xs w rfl (by omega) hlt hnc hH).mono ?_
      rintro e w' ⟨rfl, nn, os, q, rfl⟩
      rcases hown.2 with ⟨h0, _⟩ | ⟨g', cap', cur, hv', hbase, hb', h1, h2, h3, h4⟩
      · cases h0
      cases hv'
      have hs := ownsRow_sorted (n := nn) (os := os) (ts := xs.mergeSort fun x y => decide (x ≤ y)) hl2 hbase hb' h1 h2 h3
      have hc := Lib.ownsRow_putRow (q := q) (k := (Lib.compact (xs.mergeSort fun x y => decide (x ≤ y))).length) (ys := Lib.compact (xs.mergeSort fun x y => decide (x ≤ y)) ++ List.replicate (xs.length - (Lib.compact (xs.mergeSort fun x y => decide (x ≤ y))).length) []) hs (by simp; omega) (by omega)
      rw [List.take_left] at hc
      refine ⟨_, rfl, hc, ?_, fun b hb => .inr hb⟩
      have hg := grownBy_sorted (w := w) (g := g) (n := nn) (os := os) (xs.mergeSort fun x y => decide (x ≤ y)).toArray
      refine ⟨hg.os, hg.tape, hg.output, by simp [putRow, mapBlock, Sort.ahead], fun k hk hne => ?_⟩
      have hgk : g ≠ k := fun e => hne (by simp [Value.ownBlock, e])
      have hold := hg.block k hk (fun e => hgk (by cases e; rfl))
      rw [← hold]
      simp [putRow, mapBlock, Sort.ahead, Array.getElem?_modify, hgk]
  · cases h

theorem CC.ext : ExtOK CC := by
  refine ⟨fun f rt g vs p h hg okA w vals hlt hgl hv => ?_, fun f e g vs xs h hg okA w vals hlt hgl hv => ?_, fun f e g vs cs h hg okA w vals hlt hgl hv => ?_, fun f T e h w b v us s hB hlen => ?_, fun f T e h w b v l hB => ?_, fun f e t h n w h0 h1 => ?_, fun f g s n h hg okA w hlt hgl => ?_, fun f e t h a n c us w hown h1 hn => ?_, fun f e g xs ys h hg w v hown => ?_⟩
  · cases h
  · change U.ownT f = some (e, g) at h
    unfold U.ownT at h
    split at h
    · cases h
      exact clone_calls Tryz.laysClone hg hv
    · cases h
      exact grow_calls' Tryz.laysGrow (by kernel_rfl) hg hv
    · cases h
  · cases h
  · cases h
  · cases h
  · change U.grwT f = some (e, t) at h
    unfold U.grwT at h
    split at h
    · cases h
      exact grow_gen Tryz.laysGrow241 (by kernel_rfl) h0 h1
    · cases h
  · cases h
  · cases h
  · change U.eatT f = some (e, g) at h
    unfold U.eatT at h
    split at h
    · cases h
      exact sorted_calls hg hown
    · cases h

end Go.Dv.U
