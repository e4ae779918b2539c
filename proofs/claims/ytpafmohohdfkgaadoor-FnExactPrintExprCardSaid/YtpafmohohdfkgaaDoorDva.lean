/- An evaluator over the program text and its soundness: what a function returns, as plain equations. It holds for every program that the configuration describes. -/
import Derived.Calls
import Derived.Laws.OwnMore
import Derived.Laws.World
import Derived.Orders
import Derived.Laws.Strings
import Derived.Laws.StructEq
import Derived.Laws.Slices
import Derived.Laws.BytesString
import Derived.Laws.CopyRow
import Derived.Lib.ConvBytes
import Derived.Laws.Runes
import Derived.Great.BuildSlice
import Derived.ProofKit
import Derived.ChangeArms
import Derived.Lib.SlicesCompact
import Derived.Shelf.Slices.Clone
import Derived.Shelf.Slices.CompactS
import Derived.Shelf.Sort.Plain
import Derived.Shelf.Slices.In.SortNone
import Derived.Shelf.Spec.SlicesGrow
import Derived.Lib.OwnBridge
import Derived.Sort.OwnSorted
import Derived.Lib.Bytealg
import Derived.Lib.IndexMore
import Derived.Lib.ItoaNum
import Derived.Lib.Join
import Derived.Lib.Replace
import Derived.Shelf.Strconv.Itoa4
import Derived.Shelf.Strings.OnBuilder
import Derived.Shelf.Strings.Replace
import Derived.Shelf.Strings.Trim
import Derived.Shelf.Strings.Search3
import Derived.Shelf.Small.Strs
import Derived.Lib.SplitLaws
import Derived.Lib.LaidTab
import Derived.Handed
import Derived.HandedShaped
import Derived.LaidMore
import Derived.MakeChecks
import Derived.Stop.LaidErr
import Derived.Shelf.Vars
import Derived.Sort.Walk0
set_option linter.all false
set_option linter.unusedVariables false
set_option linter.unusedSimpArgs false
namespace Go.Dv

open Go

inductive Ty where
  | int (k : IntKind) | bool | str | sl (t : Ty) | st (n : Nat) | ptr (t : Ty)
  deriving DecidableEq

def Ty.den (S : Nat → Type) : Ty → Type
  | .int _ => Int
  | .bool => Bool
  | .str => List UInt8
  | .sl t => List (t.den S)
  | .st n => S n
  | .ptr t => t.den S

inductive V (S : Nat → Type) : Type where
  | un
  | int (k : IntKind) (n : Int)
  | bool (b : Bool)
  | lb (b : Bool)
  | str (s : List UInt8)
  | sl (t : Ty) (xs : List (t.den S))
  | st (n : Nat) (x : S n)
  | pc (cs : List (V S))
  | nilp
  | nil (e : TypeId) (t : Ty)
  | ref (o off : Nat)
  | arr (o : Nat)
  | pe (o i off : Nat)
  | ag (cs : List (V S))
  | tup (vs : List (V S))
  | fn (f : Nat) (caps : List (V S))

inductive Obj (S : Nat → Type) : Type where
  | box (cs : List (V S)) (fz : Bool)
  | arr (e : TypeId) (t : Ty) (xs : List (t.den S)) (fz : Bool)
  | dead

/-- the value of one cell -/
def V.one {S : Nat → Type} : V S → Bool
  | .un | .st .. | .ag _ | .tup _ => false
  | _ => true

/-- no pointer inside -/
def Ty.np : Ty → Bool
  | .sl t => t.np
  | .ptr _ => false
  | _ => true

/-- a plain cell of a struct -/
def V.scal {S : Nat → Type} : V S → Bool
  | .int .. | .bool _ | .str _ => true
  | .sl t _ => t.np
  | _ => false

/-- nothing of the call's own inside -/
def V.clo {S : Nat → Type} : Nat → V S → Bool
  | 0, _ => false
  | n + 1, v => match v with
    | .int .. | .bool _ | .lb _ | .str _ | .nil .. | .nilp | .st .. => true
    | .sl t _ => t.np
    | .pc cs => cs.all (V.clo n)
    | .ag cs => cs.all (V.clo n)
    | .tup cs => cs.all (V.clo n)
    | .fn _ cs => cs.all (V.clo n)
    | _ => false

structure St (S : Nat → Type) : Type where
  tm : List (V S)
  L : List (Obj S)
  n0 : Nat

structure Sig where
  S : Nat → Type
  csz : Nat → Nat
  cells : (n : Nat) → S n → List (V S)
  make : (n : Nat) → List (V S) → Option (S n)
  tyOf : TypeId → Option Ty

/-- a cell of a box that is passed -/
inductive BV (S : Nat → Type) : Type where
  | im (v : V S)
  | ow (e : TypeId) (t : Ty) (xs : List (t.den S))

inductive BTy where
  | im (t : Ty)
  | ow (e : TypeId) (t : Ty)
  deriving DecidableEq

def BTy.den (S : Nat → Type) : BTy → Type
  | .im t => t.den S
  | .ow _ t => List (t.den S)

def bxDen (S : Nat → Type) : List BTy → Type
  | [] => Unit
  | b :: r => b.den S × bxDen S r

def bxsDen (S : Nat → Type) : List (List BTy) → Type
  | [] => Unit
  | b :: r => bxDen S b × bxsDen S r

def rDen (S : Nat → Type) : List Ty → Type
  | [] => Unit
  | [t] => t.den S
  | t :: r => t.den S × rDen S r

abbrev Ret (S : Nat → Type) := V S × List (List (BV S))

inductive Tree (S : Nat → Type) : Type 1 where
  | ret (r : Ret S)
  | fail (why : Nat)
  | br (b : Bool) (t e : Tree S)
  | bnd {α : Type} (o : Option α) (k : α → Tree S)
  | call (f : Nat) (todo : List Item) (st : St S) (rt : List Ty) (k : rDen S rt → Tree S)
  | jump (todo : List Item) (st : St S)

section

variable (G : Sig)

def Ty.sz : Ty → Nat
  | .st n => G.csz n
  | _ => 1

def Ty.cells : (t : Ty) → t.den G.S → List (V G.S)
  | .int k, n => [.int k n]
  | .bool, b => [.bool b]
  | .str, s => [.str s]
  | .sl t, xs => [.sl t xs]
  | .st n, x => G.cells n x
  | .ptr t, x => [.pc (Ty.cells t x)]

def inj : (t : Ty) → t.den G.S → V G.S
  | .int k, n => .int k n
  | .bool, b => .bool b
  | .str, s => .str s
  | .sl t, xs => .sl t xs
  | .st n, x => .st n x
  | .ptr t, x => .pc (Ty.cells G t x)

def injR : (rt : List Ty) → rDen G.S rt → V G.S
  | [], _ => .tup []
  | [t], x => inj G t x
  | t :: u :: r, p => .tup (inj G t p.1 :: go (u :: r) p.2)
where
  go : (rt : List Ty) → rDen G.S rt → List (V G.S)
  | [], _ => []
  | [t], x => [inj G t x]
  | t :: u :: r, p => inj G t p.1 :: go (u :: r) p.2

def prj0 : (t : Ty) → V G.S → Option (t.den G.S)
  | .int k, v => match v with
    | .int k' n => if k' = k then some n else none
    | _ => none
  | .bool, v => match v with
    | .bool b => some b
    | .lb b => some b
    | _ => none
  | .str, v => match v with
    | .str s => some s
    | _ => none
  | .sl t, v => match v with
    | .sl t' xs => if h : t' = t then some (h ▸ xs) else none
    | .nil _ _ => some []
    | _ => none
  | .st n, v => match v with
    | .st m x => if h : m = n then some (h ▸ x) else none
    | .ag cs => G.make n cs
    | _ => none
  | .ptr _, _ => none

def prj (t : Ty) (v : V G.S) : Option (t.den G.S) := match t with
  | .ptr (.st n) => match v with
    | .pc cs => G.make n (cs.take (G.csz n))
    | _ => none
  | .ptr _ => none
  | .int k => prj0 G (.int k) v
  | .bool => prj0 G .bool v
  | .str => prj0 G .str v
  | .sl t => prj0 G (.sl t) v
  | .st n => prj0 G (.st n) v

def prjs : (rt : List Ty) → List (V G.S) → Option (rDen G.S rt)
  | [], [] => some ()
  | [t], [v] => prj G t v
  | t :: u :: r, v :: vs => match prj G t v with
    | some x => match prjs (u :: r) vs with
      | some y => some (x, y)
      | none => none
    | none => none
  | _, _ => none

def prjR : (rt : List Ty) → V G.S → Option (rDen G.S rt)
  | [], .tup [] => some ()
  | [t], v => prj G t v
  | t :: u :: r, .tup vs => prjs G (t :: u :: r) vs
  | _, _ => none

def prjB : (b : BTy) → BV G.S → Option (b.den G.S)
  | .im t, .im v => prj G t v
  | .ow e t, .ow e' t' xs => if e' = e then (if h : t' = t then some (h ▸ xs) else none) else none
  | _, _ => none

def prjBx : (b : List BTy) → List (BV G.S) → Option (bxDen G.S b)
  | [], [] => some ()
  | b :: r, v :: vs => match prjB G b v with
    | some x => match prjBx r vs with
      | some y => some (x, y)
      | none => none
    | none => none
  | _, _ => none

def prjBxs : (b : List (List BTy)) → List (List (BV G.S)) → Option (bxsDen G.S b)
  | [], [] => some ()
  | b :: r, v :: vs => match prjBx G b v with
    | some x => match prjBxs r vs with
      | some y => some (x, y)
      | none => none
    | none => none
  | _, _ => none

def Tree.run (Φ : FuncId → List Item → St G.S → Option (Ret G.S)) (fn : FuncId) : Tree G.S → Option (Ret G.S)
  | .ret r => some r
  | .fail _ => none
  | .br b t e => if b = true then t.run Φ fn else e.run Φ fn
  | .bnd o k => o.bind fun x => (k x).run Φ fn
  | .call f todo st rt k => ((Φ f todo st).bind fun q => prjR G rt q.1).bind fun p => (k p).run Φ fn
  | .jump todo st => Φ fn todo st

/-- the same, with the result read -/
def Tree.runP (Φ : FuncId → List Item → St G.S → Option (Ret G.S)) (fn : FuncId) {α : Type} (p : Ret G.S → Option α) : Tree G.S → Option α
  | .ret r => p r
  | .fail _ => none
  | .br b t e => if b = true then t.runP Φ fn p else e.runP Φ fn p
  | .bnd o k => o.bind fun x => (k x).runP Φ fn p
  | .call f todo st rt k => ((Φ f todo st).bind fun q => prjR G rt q.1).bind fun x => (k x).runP Φ fn p
  | .jump todo st => (Φ fn todo st).bind p

def idx {α : Type} (xs : List α) (i : Int) : Option α := if 0 ≤ i then xs[i.toNat]? else none

def cut {α : Type} (xs : List α) (lo hi : Int) : Option (List α) := if 0 ≤ lo ∧ lo ≤ hi ∧ hi ≤ xs.length then some ((xs.take hi.toNat).drop lo.toNat) else none

def big : Nat := 68719476736

def app {α : Type} (xs ys : List α) : Option (List α) := if xs.length + ys.length ≤ big then some (xs ++ ys) else none

def mk {α : Type} (n : Int) (z : α) : Option (List α) := if 0 ≤ n ∧ n ≤ big then some (List.replicate n.toNat z) else none

def upd {α : Type} (xs : List α) (i : Nat) (x : α) : List α := xs.set i x

def quo (k : IntKind) (x y : Int) : Option Int := if y = 0 then none else some (k.wrap (x.tdiv y))

def rem (x y : Int) : Option Int := if y = 0 then none else some (x.tmod y)

def bitsOp (op : BinOp) (k : IntKind) (x y : Int) : Int :=
  let a := BitVec.ofInt k.bits x
  let b := BitVec.ofInt k.bits y
  match op with
  | .and => k.wrap (a &&& b).toNat
  | .or => k.wrap (a ||| b).toNat
  | .xor => k.wrap (a ^^^ b).toNat
  | .andNot => k.wrap (a &&& ~~~b).toNat
  | _ => 0

def shl (k : IntKind) (x y : Int) : Option Int := if y < 0 then none else some (k.wrap (x * 2 ^ (min y.toNat k.bits)))

def shr (k : IntKind) (x y : Int) : Option Int := if y < 0 then none else some (x.fdiv (2 ^ (min y.toNat k.bits)))

def chr (n : Int) : Option (List UInt8) := if 0 ≤ n ∧ n < 128 then some [UInt8.ofNat n.toNat] else none

def mapO {α β : Type} (f : α → Option β) : List α → Option (List β)
  | [] => some []
  | a :: r => match f a with
    | some b => match mapO f r with
      | some c => some (b :: c)
      | none => none
    | none => none

def mapS {α β σ : Type} (f : α → σ → Option (β × σ)) : List α → σ → Option (List β × σ)
  | [], s => some ([], s)
  | a :: r, s => match f a s with
    | some (b, s1) => match mapS f r s1 with
      | some (c, s2) => some (b :: c, s2)
      | none => none
    | none => none

def catL {α : Type} (f : α → List Nat) : List α → List Nat
  | [] => []
  | a :: r => f a ++ catL f r

variable {G}

def St.get (st : St G.S) (t : Nat) : V G.S := st.tm.getD t .un

def St.put (st : St G.S) (d : Option Nat) (v : V G.S) : St G.S :=
  match d with
  | some d => { st with tm := st.tm.set d v }
  | none => st

structure Cfg (G : Sig) where
  P : Program
  refs : FuncId → Bool
  ext : FuncId → Option (Sigma fun rt : List Ty => List (V G.S) → Option (rDen G.S rt))
  cut : FuncId → Nat → Option (List (Nat × Option Ty))
  glob : Nat → Option (List (V G.S))
  gint : Nat → Bool
  gtab : Nat → Option (Array Value)
  own : FuncId → Option (TypeId × (List (V G.S) → Option (List (List UInt8))))
  eat : FuncId → Option (TypeId × (List (List UInt8) → Option (List (List UInt8))))

variable (C : Cfg G)

def elemId (t : TypeId) : Option TypeId := match C.P.underlying t with | some (.slice e) => some e | _ => none

def ofConst (t : TypeId) : Value → V G.S
  | .int k n => .int k n
  | .bool b => .lb b
  | .string s => .str s.data.toList
  | .slice none 0 0 => match elemId C t with
    | some e => match G.tyOf e with
      | some ty => .nil e ty
      | none => .un
    | none => .un
  | .pointer none => .nilp
  | _ => .un

def opd (st : St G.S) (t : TypeId) : Operand → V G.S
  | .tmp i => st.get i
  | .const v => ofConst C t v
  | .global g => match C.glob g with | some cs => .pc cs | none => .un
  | .func f => if Nat.blt f 1000000 then .fn f [] else .un

def V.cellsL : V G.S → Option (List (V G.S))
  | .st n x => some (G.cells n x)
  | .ag cs => some cs
  | .tup _ => none
  | .un => none
  | v => some [v]

def isAggT (t : TypeId) : Option Bool := match C.P.underlying t with
  | some (.struct _) => some true
  | some (.array _ _) => some true
  | some _ => some false
  | none => none

def sizeT (t : TypeId) : Option Nat := (C.P.info? t).map (·.size)

/-- the zero cells of a type, held against the program's table -/
def zeroV (t : TypeId) : Value → Option (V G.S)
  | .int k n => some (.int k n)
  | .bool b => some (.lb b)
  | .string s => some (.str s.data.toList)
  | .slice none 0 0 => match elemId C t with
    | some e => match G.tyOf e with
      | some ty => some (.nil e ty)
      | none => none
    | none => none
  | .pointer none => some .nilp
  | _ => none

/-- the types of a type's cells -/
def cellTys : Nat → TypeId → Option (List TypeId)
  | 0, _ => none
  | n + 1, t => match C.P.underlying t with
    | some (.struct fs) => (mapO (fun f => cellTys n f.type) fs.toList).map List.flatten
    | some (.array len e) => match cellTys n e with
      | some l => some (List.replicate len l).flatten
      | none => none
    | some _ => some [t]
    | none => none

def zips : List TypeId → List Value → Option (List (V G.S))
  | [], [] => some []
  | t :: ts, v :: vs => match zeroV C t v, zips ts vs with
    | some x, some y => some (x :: y)
    | _, _ => none
  | _, _ => none

def zeros (t : TypeId) : Option (List (V G.S)) :=
  match C.P.info? t with
  | some i => match i.zero, cellTys C 20 t with
    | some z, some ts => zips C ts z.cells.toList
    | _, _ => none
  | none => none

def snap (L : List (Obj G.S)) : Nat → V G.S → Option (V G.S)
  | 0, _ => none
  | n + 1, v => match v with
    | .arr o => match L[o]? with
      | some (.arr _ t xs _) => some (.sl t xs)
      | _ => none
    | .ref o off => match L[o]? with
      | some (.box cs _) => (mapO (snap L n) (cs.drop off)).map .pc
      | _ => none
    | .ag cs => (mapO (snap L n) cs).map .ag
    | .tup cs => (mapO (snap L n) cs).map .tup
    | .fn f cs => (mapO (snap L n) cs).map (.fn f)
    | .pe .. => none
    | .un => none
    | v => some v

/-- the objects that a snapshot reads -/
def reach (L : List (Obj G.S)) : Nat → V G.S → List Nat
  | 0, _ => []
  | n + 1, v => match v with
    | .arr o => [o]
    | .ref o _ => match L[o]? with
      | some (.box cs _) => o :: catL (reach L n) cs
      | _ => [o]
    | .ag cs => catL (reach L n) cs
    | .tup cs => catL (reach L n) cs
    | .fn _ cs => catL (reach L n) cs
    | _ => []

def freeze (L : List (Obj G.S)) (os : List Nat) : List (Obj G.S) := go 0 os L
where
  go (i : Nat) (os : List Nat) : List (Obj G.S) → List (Obj G.S)
  | [] => []
  | ob :: r => (match ob with
      | .arr e t xs _ => if os.contains i then .arr e t xs true else ob
      | .box cs _ => if os.contains i then .box cs true else ob
      | _ => ob) :: go (i + 1) os r

def Ty.flat : Ty → Bool
  | .int _ | .bool | .str => true
  | _ => false

structure Rn (S : Nat → Type) where
  map : List (Nat × Nat)
  L : List (Obj S)

def Rn.find (r : List (Nat × Nat)) (o : Nat) : Option Nat := match r with
  | [] => none
  | (a, b) :: t => if a = o then some b else Rn.find t o

/-- immutable: 'im' says whether own slices are to be turned into read ones -/
def rnV (old : List (Obj G.S)) : Nat → V G.S → Rn G.S → Option (V G.S × Rn G.S)
  | 0, _, _ => none
  | n + 1, v, r => match v with
    | .arr o => match Rn.find r.map o with
      | some o' => some (.arr o', r)
      | none => match old[o]? with
        | some (.arr e t xs fz) => if t.np = true then some (.arr r.L.length, { map := (o, r.L.length) :: r.map, L := r.L ++ [.arr e t xs fz] }) else none
        | _ => none
    | .nil e t => if 0 < Ty.sz G t then some (.arr r.L.length, { r with L := r.L ++ [.arr e t [] false] }) else none
    | .ref o off => match Rn.find r.map o with
      | some o' => some (.ref o' off, r)
      | none => match old[o]? with
        | some (.box cs fz) => match mapS (rnV old n) cs { map := (o, r.L.length) :: r.map, L := r.L ++ [.dead] } with
          | some (ds, r') => some (.ref r.L.length off, { r' with L := r'.L.set r.L.length (.box ds fz) })
          | none => none
        | _ => none
    | .ag cs => (mapS (rnV old n) cs r).map fun p => (.ag p.1, p.2)
    | .fn f cs => (mapS (rnV old n) cs r).map fun p => (.fn f p.1, p.2)
    | .tup cs => if cs.isEmpty then some (.un, r) else none
    | .pe .. => none
    | .un => some (.un, r)
    | .lb b => some (.bool b, r)
    | v => if v.clo 20 = true then some (v, r) else none

/-- the kept temporaries; the passed objects first -/
def keepTm (old : List (Obj G.S)) (tm : List (V G.S)) : List (Nat × Option Ty) → List (V G.S) → Rn G.S → Option (List (V G.S) × Rn G.S)
  | [], acc, r => some (acc, r)
  | (i, im) :: ks, acc, r =>
    let v := tm.getD i .un
    match im with
    | some ty => match snap old 20 v with
      | some v' => match prj G ty v' with
        | some x => if (inj G ty x).clo 20 = true then keepTm old tm ks (acc.set i (inj G ty x)) r else none
        | none => none
      | none => none
    | none => match rnV old 20 v r with
      | some (v', r') => keepTm old tm ks (acc.set i v') r'
      | none => none

def passed (old : List (Obj G.S)) : Nat → Nat → Rn G.S → Option (Rn G.S)
  | 0, _, r => some r
  | n + 1, i, r => match rnV old 20 (.ref i 0) r with
    | some (_, r') => passed old n (i + 1) r'
    | none => none

/-- arrays that have been seen as immutable are frozen in what goes on -/
def imIds (old : List (Obj G.S)) (tm : List (V G.S)) : List (Nat × Option Ty) → List Nat
  | [] => []
  | (i, im) :: ks => (if im.isSome then reach old 20 (tm.getD i .un) else []) ++ imIds old tm ks

def restrict (keep : List (Nat × Option Ty)) (st : St G.S) : Option (St G.S) :=
  let old := freeze st.L (imIds st.L st.tm keep)
  match passed old st.n0 0 ⟨[], []⟩ with
  | some r => match keepTm old st.tm keep (List.replicate st.tm.length .un) r with
    | some (tm, r') => some { tm, L := r'.L, n0 := st.n0 }
    | none => none
  | none => none

end

end Go.Dv

namespace Go.Dv

open Go

section

variable {G : Sig} (C : Cfg G)

abbrev K (G : Sig) := V G.S → St G.S → List Nat → List Nat → Tree G.S

def asB (b : V G.S) (k : Bool → Tree G.S) : Tree G.S := match b with
  | .lb b => k b
  | .bool b => .br b (k true) (k false)
  | _ => (.fail 1)

/-- for the kernel: a value's head is reckoned before it is handed on -/
def V.force (v : V G.S) (k : V G.S → Tree G.S) : Tree G.S := match v with
  | .un => k .un
  | .int x n => k (.int x n)
  | .bool b => k (.bool b)
  | .lb true => k (.lb true)
  | .lb false => k (.lb false)
  | .str s => k (.str s)
  | .sl t xs => k (.sl t xs)
  | .st n x => k (.st n x)
  | .pc cs => k (.pc cs)
  | .nilp => k .nilp
  | .nil e t => k (.nil e t)
  | .ref o off => k (.ref o off)
  | .arr o => k (.arr o)
  | .pe o i off => k (.pe o i off)
  | .ag cs => k (.ag cs)
  | .tup vs => k (.tup vs)
  | .fn f caps => k (.fn f caps)

def forceL (l : List (V G.S)) (k : List (V G.S) → Tree G.S) : Tree G.S := match l with
  | [] => k []
  | v :: r => v.force fun v => forceL r fun r => k (v :: r)

def forceO (l : List (Obj G.S)) (k : List (Obj G.S) → Tree G.S) : Tree G.S := match l with
  | [] => k []
  | .box cs true :: r => forceL cs fun cs => forceO r fun r => k (.box cs true :: r)
  | .box cs false :: r => forceL cs fun cs => forceO r fun r => k (.box cs false :: r)
  | .arr e t xs true :: r => forceO r fun r => k (.arr e t xs true :: r)
  | .arr e t xs false :: r => forceO r fun r => k (.arr e t xs false :: r)
  | .dead :: r => forceO r fun r => k (.dead :: r)

def V.deep (v : V G.S) (k : V G.S → Tree G.S) : Tree G.S := match v with
  | .pc cs => forceL cs fun cs => k (.pc cs)
  | .ag cs => forceL cs fun cs => k (.ag cs)
  | .tup cs => forceL cs fun cs => k (.tup cs)
  | .fn f cs => forceL cs fun cs => k (.fn f cs)
  | v => v.force k

def setF : List (V G.S) → Nat → V G.S → (List (V G.S) → Tree G.S) → Tree G.S
  | [], _, _, k => k []
  | _ :: r, 0, v, k => k (v :: r)
  | a :: r, d + 1, v, k => setF r d v fun r => k (a :: r)

def putF (st : St G.S) (d : Option Nat) (v : V G.S) (k : St G.S → Tree G.S) : Tree G.S :=
  match st with
  | ⟨tm, L, n0⟩ => forceO L fun L => match d with
    | some d => v.deep fun v => setF tm d v fun tm => k ⟨tm, L, n0⟩
    | none => k ⟨tm, L, n0⟩

/-- part on a bool that may stand in a temporary; there it is known behind -/
def part (x : Operand) (b : V G.S) (st : St G.S) (k : Bool → St G.S → Tree G.S) : Tree G.S := match b with
  | .lb b => k b st
  | .bool b => match x with
    | .tmp i => .br b (putF st (some i) (.lb true) (k true)) (putF st (some i) (.lb false) (k false))
    | _ => .br b (k true st) (k false st)
  | _ => (.fail 2)

def eqB : V G.S → V G.S → Option Bool
  | .bool a, .bool b => some (a == b)
  | .lb a, .bool b => some (a == b)
  | .bool a, .lb b => some (a == b)
  | .lb a, .lb b => some (a == b)
  | _, _ => none

def eqT (t : TypeId) (a b : V G.S) : Option Bool := match C.P.underlying t with
  | some (.int _) => match a, b with
    | .int k m, .int k' n => if k = k' then some (m == n) else none
    | _, _ => none
  | some .bool => eqB a b
  | some .string => match a, b with
    | .str x, .str y => some (x == y)
    | _, _ => none
  | _ => none

def eqFs : List Field → Nat → List (V G.S) → List (V G.S) → Option Bool
  | [], _, [], [] => some true
  | f :: r, i, a :: x, b :: y => if f.name ≠ "_" ∧ f.offset = i then match eqT C f.type a b with
      | some p => match eqFs r (i + 1) x y with
        | some q => some (p && q)
        | none => none
      | none => none
    else none
  | _, _, _, _ => none

def eqS (t : TypeId) (x y : V G.S) : Option Bool := match C.P.underlying t with
  | some (.struct fs) => if C.P.eqGuardType C.P.depth t = false ∧ C.P.stoodInHeld t = false then match x.cellsL, y.cellsL with
      | some a, some b => eqFs C fs.toList 0 a b
      | _, _ => none
    else none
  | _ => none

def isAg : V G.S → Bool
  | .st .. | .ag _ => true
  | _ => false

def binV (t : TypeId) (op : BinOp) (x y : V G.S) (k : V G.S → Tree G.S) : Tree G.S :=
  match x, y with
  | .int kx a, .int ky b =>
    match op with
    | .shl => .bnd (shl kx a b) fun r => k (.int kx r)
    | .shr => .bnd (shr kx a b) fun r => k (.int kx r)
    | _ => if kx = ky then match op with
      | .add => k (.int kx (kx.wrap (a + b)))
      | .sub => k (.int kx (kx.wrap (a - b)))
      | .mul => k (.int kx (kx.wrap (a * b)))
      | .quo => .bnd (quo kx a b) fun r => k (.int kx r)
      | .rem => .bnd (rem a b) fun r => k (.int kx r)
      | .and => k (.int kx (bitsOp .and kx a b))
      | .or => k (.int kx (bitsOp .or kx a b))
      | .xor => k (.int kx (bitsOp .xor kx a b))
      | .andNot => k (.int kx (bitsOp .andNot kx a b))
      | .eql => k (.bool (a == b))
      | .neq => k (.bool (a != b))
      | .lss => k (.bool (decide (a < b)))
      | .leq => k (.bool (decide (a ≤ b)))
      | .gtr => k (.bool (decide (a > b)))
      | .geq => k (.bool (decide (a ≥ b)))
      | _ => (.fail 3)
      else (.fail 4)
  | .str a, .str b => match op with
    | .add => .bnd (app a b) fun r => k (.str r)
    | .eql => k (.bool (a == b))
    | .neq => k (.bool !(a == b))
    | .lss => k (.bool (Op.bytesLess a b))
    | .leq => k (.bool (Op.bytesLess a b || a == b))
    | .gtr => k (.bool !(Op.bytesLess a b || a == b))
    | .geq => k (.bool !(Op.bytesLess a b))
    | _ => (.fail 5)
  | x, y => if isAg x && isAg y then match op with
      | .eql => match eqS C t x y with | some b => k (.bool b) | none => (.fail 6)
      | .neq => match eqS C t x y with | some b => k (.bool !b) | none => (.fail 7)
      | _ => (.fail 8)
    else match op with
      | .eql => match eqT C t x y with | some b => k (.bool b) | none => (.fail 9)
      | .neq => match eqT C t x y with | some b => k (.bool !b) | none => (.fail 10)
      | _ => (.fail 11)

def unV (op : UnOp) (x : V G.S) (k : V G.S → Tree G.S) : Tree G.S :=
  match op, x with
  | .neg, .int kx a => k (.int kx (kx.wrap (0 - a)))
  | .not, .bool b => k (.bool !b)
  | .not, .lb b => k (.lb !b)
  | _, _ => (.fail 12)

def fieldOf (s : TypeId) (f : Nat) : Option Field := match C.P.underlying s with
  | some (.struct fs) => fs[f]?
  | _ => none

def lenV : V G.S → List (Obj G.S) → Option Int
  | .str s, _ => some (s.length : Int)
  | .sl _ xs, _ => some (xs.length : Int)
  | .nil _ _, _ => some 0
  | .arr o, L => match L[o]? with
    | some (.arr _ _ xs _) => some (xs.length : Int)
    | _ => none
  | _, _ => none

/-- a part's value out of cells -/
def partV (t : TypeId) (cs : List (V G.S)) : Option (V G.S) := match isAggT C t, sizeT C t with
  | some true, some n => if n ≤ cs.length then some (.ag (cs.take n)) else none
  | some false, _ => cs.head?
  | _, _ => none

/-- what a value of a type is as a plain datum; what own slices it reads -/
def dat (L : List (Obj G.S)) (t : Ty) (v : V G.S) : Option (t.den G.S) := match snap L 20 v with
  | some v' => prj G t v'
  | none => none

def fillV (place : Nat → Option (Nat × Nat)) (cells : List (V G.S)) : List (Nat × V G.S) → Option (List (V G.S))
  | [] => some cells
  | (i, v) :: rest => match place i, v.cellsL with
    | some (off, size), some cs => if cs.length = size ∧ off + size ≤ cells.length then fillV place (cells.take off ++ cs ++ cells.drop (off + size)) rest else none
    | _, _ => none

def places (t : TypeId) : Option (List (TypeId × Nat × Nat)) := match C.P.underlying t with
  | some (.struct fs) => go fs.toList
  | some (.array n e) => match sizeT C e with
    | some s => some ((List.range n).map fun i => (e, i * s, s))
    | none => none
  | _ => none
where
  go : List Field → Option (List (TypeId × Nat × Nat))
  | [] => some []
  | f :: r => match sizeT C f.type, go r with
    | some s, some l => some ((f.type, f.offset, s) :: l)
    | _, _ => none

def opds (st : St G.S) : List TypeId → List Operand → Option (List (V G.S))
  | [], [] => some []
  | t :: ts, x :: xs => match opds st ts xs with
    | some l => some (opd C st t x :: l)
    | none => none
  | _, _ => none

def parts (st : St G.S) (ps : List (TypeId × Nat × Nat)) : List (Nat × Operand) → Option (List (Nat × V G.S))
  | [] => some []
  | (i, x) :: r => match ps[i]?, parts st ps r with
    | some (t, _), some l => some ((i, opd C st t x) :: l)
    | _, _ => none

/-- elements of a slice literal -/
def dats (L : List (Obj G.S)) (t : Ty) : List (V G.S) → Option (List (t.den G.S))
  | [] => some []
  | v :: r => match dat L t v with
    | some x => match dats L t r with
      | some l => some (x :: l)
      | none => none
    | none => none

def bytesOk (e : TypeId) : Bool := match C.P.info? e with
  | some i => match i.zero with
    | some z => decide (i.bytes ≤ 2048) && decide (0 < i.size) && decide (z.cells.size = i.size)
    | none => false
  | none => false

def rtys : List TypeId → Option (List Ty)
  | [] => some []
  | t :: r => match G.tyOf t, rtys r with
    | some a, some b => some (a :: b)
    | _, _ => none

def snaps (L : List (Obj G.S)) : List (V G.S) → Option (List (V G.S))
  | [] => some []
  | v :: r => match snap L 20 v, snaps L r with
    | some a, some b => some (a :: b)
    | _, _ => none

def reachs (L : List (Obj G.S)) : List (V G.S) → List Nat
  | [] => []
  | v :: r => reach L 20 v ++ reachs L r

/-- arguments of a call by reference: pointers to boxes stay -/
def rargs (old : List (Obj G.S)) : List (V G.S) → Rn G.S → Option (List (V G.S) × Rn G.S)
  | [], r => some ([], r)
  | v :: vs, r =>
    let v' := match v with
      | .ref .. => rnV old 20 v r
      | .fn .. => rnV old 20 v r
      | _ => match snap old 20 v with | some u => some (u, r) | none => none
    match v' with
    | some (a, r1) => match rargs old vs r1 with
      | some (l, r2) => some (a :: l, r2)
      | none => none
    | none => none

def btyOf : V G.S → List (Obj G.S) → Option BTy
  | .int k _, _ => some (.im (.int k))
  | .bool _, _ => some (.im .bool)
  | .lb _, _ => some (.im .bool)
  | .str _, _ => some (.im .str)
  | .sl t _, _ => some (.im (.sl t))
  | .arr o, L => match L[o]? with | some (.arr e t _ _) => some (.ow e t) | _ => none
  | _, _ => none

def btys (L : List (Obj G.S)) : List (V G.S) → Option (List BTy)
  | [] => some []
  | v :: r => match btyOf v L, btys L r with
    | some a, some b => some (a :: b)
    | _, _ => none

/-- the boxes of a new numbering come first: their cells' types -/
def boxTys (L : List (Obj G.S)) : List (Obj G.S) → Option (List (List BTy))
  | [] => some []
  | .box cs false :: r => match btys L cs, boxTys L r with
    | some a, some b => some (a :: b)
    | _, _ => none
  | .arr .. :: r => boxTys L r
  | _ :: _ => none

/-- what came back is written into the caller's box -/
def unbox (L : List (Obj G.S)) : (b : List BTy) → bxDen G.S b → List (V G.S) × List (Obj G.S)
  | [], _ => ([], L)
  | .im t :: r, p => let q := unbox L r p.2; (inj G t p.1 :: q.1, q.2)
  | .ow e t :: r, p => let q := unbox (L ++ [.arr e t p.1 false]) r p.2; (.arr L.length :: q.1, q.2)

def unboxs (L : List (Obj G.S)) : List Nat → (b : List (List BTy)) → bxsDen G.S b → List (Obj G.S)
  | o :: os, b :: r, p => let q := unbox L b p.1; unboxs (q.2.set o (.box q.1 false)) os r p.2
  | _, _, _ => L

def kill (L : List (Obj G.S)) : List Nat → List (Obj G.S)
  | [] => L
  | o :: os => kill (L.set o .dead) os

/-- the boxes' old numbers, in the new order; the arrays' old numbers -/
def boxIds (old : List (Obj G.S)) : List (Nat × Nat) → List Nat
  | [] => []
  | (o, _) :: r => match old[o]? with
    | some (.box _ _) => boxIds old r ++ [o]
    | _ => boxIds old r

def arrIds (old : List (Obj G.S)) : List (Nat × Nat) → List Nat
  | [] => []
  | (o, _) :: r => match old[o]? with
    | some (.arr ..) => o :: arrIds old r
    | _ => arrIds old r

/-- boxes first: only such numberings are let in -/
def boxesFirst : List (Obj G.S) → Nat → Bool
  | [], n => n == 0
  | .box _ _ :: r, n + 1 => boxesFirst r n
  | .arr .. :: r, 0 => boxesFirst r 0
  | _, _ => false

/-- what a call hands back, to the caller -/
def backT (rt : List Ty) (os : List Nat) (p : rDen G.S rt) (st : St G.S) (k : K G) : Tree G.S :=
  if rt.all Ty.flat then k (injR G rt p) st os []
  else k (injR G rt p) { st with L := freeze st.L os } os os

/-- the arguments as plain data of the parameters' types -/
def normA : List TypeId → List (V G.S) → Option (List (V G.S))
  | t :: ts, v :: vs => match G.tyOf t with
    | some ty => match prj G ty v, normA ts vs with
      | some x, some l => some (inj G ty x :: l)
      | _, _ => none
    | none => match normA ts vs with
      | some l => some (v :: l)
      | none => none
  | [], vs => some vs
  | _ :: _, [] => none

def callP (f : FuncId) (args : List (V G.S)) (st : St G.S) (k : K G) : Tree G.S :=
  match C.P.funcs[f]? with
  | none => (.fail 13)
  | some fn => match rtys (G := G) fn.resultTypes.toList, fn.body with
    | some rt, some body =>
      if (fn.name == "runtime.NumGoroutine") = false ∧ rt.all Ty.np = true then
        match (snaps st.L args).bind (normA fn.params.toList) with
        | some vs => if vs.all (V.clo 20) = true ∧ vs.length ≤ fn.ntmps then
          match C.ext f with
          | some ⟨rt2, g⟩ => if h : rt2 = rt then forceL vs fun vs => .bnd (h ▸ g vs : Option (rDen G.S rt)) fun p => backT rt (reachs st.L args) p st k else (.fail 122)
          | none => forceL (vs ++ List.replicate (fn.ntmps - vs.length) .un) fun tm => .call f [.code body] ⟨tm, [], 0⟩ rt fun p => backT rt (reachs st.L args) p st k
          else (.fail 14)
        | none => (.fail 15)
      else (.fail 16)
    | _, _ => (.fail 17)

/-- a call whose result is a new slice of strings, by its contract -/
def ownT (f : FuncId) (e : TypeId) (g : List (V G.S) → Option (List (List UInt8))) (args : List (V G.S)) (st : St G.S) (k : K G) : Tree G.S :=
  match C.P.funcs[f]? with
  | none => (.fail 111)
  | some fn => match fn.body with
    | some _ => if (fn.name == "runtime.NumGoroutine") = false then match snaps st.L args with
        | some vs => if vs.all (V.clo 20) = true then forceL vs fun vs => .bnd (g vs) fun xs => k (.arr st.L.length) { st with L := freeze st.L (reachs st.L args) ++ [.arr e .str xs false] } (reachs st.L args) [st.L.length] else (.fail 112)
        | none => (.fail 113)
      else (.fail 114)
    | none => (.fail 115)

/-- a call that turns its slice of strings into its result, by its contract -/
def eatT (f : FuncId) (e : TypeId) (g : List (List UInt8) → Option (List (List UInt8))) (args : List (V G.S)) (st : St G.S) (k : K G) : Tree G.S :=
  match C.P.funcs[f]? with
  | none => (.fail 116)
  | some fn => match fn.body with
    | some _ => if (fn.name == "runtime.NumGoroutine") = false then match args with
        | [.arr o] => match st.L[o]? with
          | some (.arr e' .str xs false) => if e' = e then .bnd (g xs) fun ys => k (.arr st.L.length) { st with L := st.L.set o .dead ++ [.arr e .str ys false] } [o] [o] else (.fail 117)
          | _ => (.fail 118)
        | _ => (.fail 119)
      else (.fail 120)
    | none => (.fail 121)

def callT (f : FuncId) (args : List (V G.S)) (st : St G.S) (k : K G) : Tree G.S :=
  match C.own f with
  | some (e, g) => ownT C f e g args st k
  | none => match C.eat f with
    | some (e, g) => eatT C f e g args st k
    | none => callP C f args st k

def appT (e : TypeId) (t : Ty) (s : V G.S) (ys : List (t.den G.S)) (st : St G.S) (rd : List Nat) (k : K G) : Tree G.S :=
  match s with
  | .nil e' t' => if e' = e ∧ t' = t then .bnd (app ([] : List (t.den G.S)) ys) fun zs => k (.arr st.L.length) { st with L := st.L ++ [.arr e t zs false] } rd [] else (.fail 18)
  | .arr o => match st.L[o]? with
    | some (.arr e' t' xs false) => if e' = e then (if h : t' = t then .bnd (app (h ▸ xs : List (t.den G.S)) ys) fun zs => k (.arr st.L.length) { st with L := st.L.set o .dead ++ [.arr e t zs false] } (o :: rd) [o] else (.fail 19)) else (.fail 20)
    | _ => (.fail 21)
  | _ => (.fail 22)

def ysOf (L : List (Obj G.S)) (t : Ty) (v : V G.S) : Option (List (t.den G.S)) := prj G (.sl t) (match snap L 1 v with | some u => u | none => .un)

def loadT (t : TypeId) (a : V G.S) (st : St G.S) (k : K G) : Tree G.S :=
  match a with
  | .ref o off => match st.L[o]? with
    | some (.box cs _) => match partV C t (cs.drop off) with
      | some v => k v st [o] []
      | none => (.fail 23)
    | _ => (.fail 24)
  | .pc cs => match partV C t cs with
    | some v => k v st [] []
    | none => (.fail 25)
  | .pe o i off => match st.L[o]? with
    | some (.arr _ ty xs _) => .bnd xs[i]? fun x => match partV C t ((Ty.cells G ty x).drop off) with
      | some v => k v st [o] []
      | none => (.fail 26)
    | _ => (.fail 27)
  | _ => (.fail 28)

/-- an element of a slice out of cells -/
def newEl (L : List (Obj G.S)) (ty : Ty) (cs : List (V G.S)) : Option (ty.den G.S) := match ty with
  | .st m => (snaps L cs).bind (G.make m)
  | .int k => match cs with | [c] => dat L (.int k) c | _ => none
  | .bool => match cs with | [c] => dat L .bool c | _ => none
  | .str => match cs with | [c] => dat L .str c | _ => none
  | .sl t => match cs with | [c] => dat L (.sl t) c | _ => none
  | .ptr t => match cs with | [c] => dat L (.ptr t) c | _ => none

def storeT (t : TypeId) (a v : V G.S) (st : St G.S) (k : K G) : Tree G.S :=
  match v.cellsL, sizeT C t with
  | some vs, some n => if vs.length = n ∧ vs.all V.one = true then match a with
    | .ref o off => match st.L[o]? with
      | some (.box cs false) => if off + n ≤ cs.length then k .un { st with L := st.L.set o (.box (cs.take off ++ vs ++ cs.drop (off + n)) false) } [] [o] else (.fail 29)
      | _ => (.fail 30)
    | .pe o i off => match st.L[o]? with
      | some (.arr e ty xs false) => .bnd xs[i]? fun x =>
        let cs := Ty.cells G ty x
        let ds := cs.take off ++ vs ++ cs.drop (off + n)
        if off + n ≤ cs.length ∧ (reachs st.L ds).contains o = false then
          match newEl st.L ty ds with
          | some x' => k .un { st with L := (freeze st.L (reachs st.L ds)).set o (.arr e ty (upd xs i x') false) } [] (o :: reachs st.L ds)
          | none => (.fail 31)
        else (.fail 32)
      | _ => (.fail 33)
    | _ => (.fail 34)
    else (.fail 35)
  | _, _ => (.fail 36)

def sliceT (t : TypeId) (x : V G.S) (lo hi : Option (V G.S)) (st : St G.S) (k : K G) : Tree G.S :=
  match (match lo with | none => some 0 | some (.int _ n) => some n | _ => none : Option Int) with
  | none => (.fail 37)
  | some l => match hi with
    | none => go l none
    | some (.int _ n) => go l (some n)
    | _ => (.fail 38)
where
  go (l : Int) (h : Option Int) : Tree G.S := match C.P.underlying t, x with
    | some .string, .str s => .bnd (cut s l (h.getD s.length)) fun r => k (.str r) st [] []
    | some (.slice e), .sl ty xs => if sizeT C e = some (Ty.sz G ty) then .bnd (cut xs l (h.getD xs.length)) fun r => k (.sl ty r) st [] [] else (.fail 39)
    | some (.slice e), .arr o => match st.L[o]? with
      | some (.arr _ ty xs _) => if sizeT C e = some (Ty.sz G ty) then .bnd (cut xs l (h.getD xs.length)) fun r => k (.sl ty r) { st with L := freeze st.L [o] } [o] [o] else (.fail 40)
      | _ => (.fail 41)
    | _, _ => (.fail 42)

def indexAddrT (t : TypeId) (x i : V G.S) (st : St G.S) (k : K G) : Tree G.S :=
  match i with
  | .int _ n => match elemId C t with
    | some e => match sizeT C e, x with
      | some sz, .sl ty xs => if sz = Ty.sz G ty then .bnd (idx xs n) fun x => k (.pc (Ty.cells G ty x)) st [] [] else (.fail 43)
      | some sz, .arr o => match st.L[o]? with
        | some (.arr _ ty xs _) => if sz = Ty.sz G ty then .bnd (idx xs n) fun _ => k (.pe o n.toNat 0) st [] [] else (.fail 44)
        | _ => (.fail 45)
      | _, _ => (.fail 46)
    | none => (.fail 47)
  | _ => (.fail 48)

def scal : Ty → Bool
  | .int _ => true
  | .bool => true
  | .str => true
  | _ => false

/-- an element of an array that stands in a local variable -/
def indexBoxT (t : TypeId) (x i : V G.S) (st : St G.S) (k : K G) : Tree G.S :=
  match C.P.underlying t with
  | some (.array m e) => match x, i with
    | .ref o off, .int _ n => match G.tyOf e, sizeT C e, snap st.L 2 (.ref o off) with
      | some ty, some sz, some (.pc cs) => if sz = 1 ∧ scal ty = true ∧ cs.length = m then match mapO (prj G ty) cs with
          | some xs => .bnd (idx xs n) fun y => k (.pc [inj G ty y]) { st with L := freeze st.L (reach st.L 2 (.ref o off)) } (reach st.L 2 (.ref o off)) (reach st.L 2 (.ref o off))
          | none => (.fail 123)
        else (.fail 124)
      | _, _, _ => (.fail 125)
    | _, _ => (.fail 126)
  | _ => (.fail 47)

def lenOk (ts : List TypeId) (x : V G.S) : Bool := match ts with
  | [t] => match C.P.underlying t, x with
    | some .string, .str _ => true
    | some (.slice _), .sl _ _ => true
    | some (.slice _), .nil _ _ => true
    | some (.slice _), .arr _ => true
    | _, _ => false
  | _ => false

def builtinT (b : Builtin) (argTypes : List TypeId) (args : List (V G.S)) (st : St G.S) (k : K G) : Tree G.S :=
  match b, args with
  | .len, [x] => match lenOk C argTypes x, lenV x st.L with
    | true, some n => k (.int .i64 n) st [] []
    | _, _ => (.fail 49)
  | .append, [s, x] => match argTypes with
    | [ta, tb] => match elemId C ta with
      | some e => match G.tyOf e with
        | some t => if bytesOk C e && decide (sizeT C e = some (Ty.sz G t)) && decide (ta = tb) then match ysOf st.L t x with
          | some ys => appT e t s ys st (reach st.L 1 x) k
          | none => (.fail 50)
          else (.fail 51)
        | none => (.fail 52)
      | none => (.fail 53)
    | _ => (.fail 54)
  | .max, [.int ka a, .int kb b] => if ka = kb then k (.int ka (if b > a then b else a)) st [] [] else (.fail 55)
  | .min, [.int ka a, .int kb b] => if ka = kb then k (.int ka (if b < a then b else a)) st [] [] else (.fail 56)
  | _, _ => (.fail 57)

def convT (src dst : TypeId) (x : V G.S) (st : St G.S) (k : K G) : Tree G.S :=
  match C.P.underlying src, C.P.underlying dst, x with
  | some (.int _), some (.int kd), .int _ n => k (.int kd (kd.wrap n)) st [] []
  | some .string, some .string, .str s => k (.str s) st [] []
  | some .string, some (.slice e), .str s => match C.P.underlying e with
    | some (.int .u8) => k (.sl (.int .u8) (s.map fun b => (b.toNat : Int))) st [] []
    | _ => (.fail 58)
  | some (.slice e), some .string, x => match C.P.underlying e with
    | some (.int .u8) => match ysOf st.L (.int .u8) x with
      | some ys => k (.str (ys.map fun n => UInt8.ofNat n.toNat)) st (reach st.L 1 x) []
      | none => (.fail 59)
    | _ => (.fail 60)
  | some (.int _), some .string, .int _ n => .bnd (chr n) fun s => k (.str s) st [] []
  | _, _, _ => (.fail 61)

def evOp (o : Oper) (st : St G.S) (k : K G) : Tree G.S :=
  let pure (v : V G.S) : Tree G.S := k v st [] []
  match o.op with
  | .move x => pure (opd C st o.type x)
  | .assign x => pure (opd C st o.type x)
  | .pick c a b => asB (opd C st o.type c) fun c => pure (if c then opd C st o.type a else opd C st o.type b)
  | .alloc t => match zeros C t with
    | some cs => k (.ref st.L.length 0) { st with L := st.L ++ [.box cs false] } [] []
    | none => (.fail 62)
  | .box t x => match (opd C st t x).cellsL, sizeT C t with
    | some cs, some n => if cs.length = n then k (.ref st.L.length 0) { st with L := st.L ++ [.box cs false] } [] [] else (.fail 63)
    | _, _ => (.fail 64)
  | .build t ps => match zeros C t, places C t with
    | some z, some pl => match parts C st pl ps.toList with
      | some l => match fillV (fun i => (pl[i]?).map (·.2)) z l with
        | some cs => pure (.ag cs)
        | none => (.fail 65)
      | none => (.fail 66)
    | _, _ => (.fail 67)
  | .buildSlice t n ps => match elemId C t with
    | some e => match G.tyOf e, sizeT C e with
      | some ty, some sz => if sz = Ty.sz G ty ∧ n * sz ≤ 16777216 ∧ bytesOk C e = true ∧ ps.toList.map (·.1) = List.range n then
        let vs := ps.toList.map fun (_, x) => opd C st e x
        match dats st.L ty vs with
        | some xs => k (.arr st.L.length) { st with L := freeze st.L (reachs st.L vs) ++ [.arr e ty xs false] } (reachs st.L vs) (reachs st.L vs)
        | none => (.fail 68)
        else (.fail 69)
      | _, _ => (.fail 70)
    | none => (.fail 71)
  | .load t a => loadT C t (opd C st 0 a) st k
  | .store t a x => storeT C t (opd C st 0 a) (opd C st t x) st k
  | .nilCheck x => match opd C st 0 x with
    | .ref o off => pure (.ref o off)
    | .pc cs => pure (.pc cs)
    | .pe a i off => pure (.pe a i off)
    | _ => (.fail 72)
  | .binOp op t x y yt => binV C t op (opd C st t x) (opd C st yt y) pure
  | .unOp op t x => unV op (opd C st t x) pure
  | .convert src dst x => convT C src dst (opd C st src x) st k
  | .makeFunc (.func f) first cap => if first.isEmpty && Nat.blt f 1000000 then match opds C st (cap.toList.map fun _ => 0) cap.toList with
      | some vs => pure (.fn f vs)
      | none => (.fail 73)
    else if cap.isEmpty then match opds C st (first.toList.map fun _ => 0) first.toList with
      | some vs => pure (.fn (f + 1000000) vs)
      | none => (.fail 73)
    else (.fail 74)
  | .makeSlice t l c => match opd C st 0 l, opd C st 0 c, elemId C t with
    | .int _ n, .int _ _, some e => match l, c with
      | .tmp i, .tmp j => if i = j then match G.tyOf e, zeros C e, sizeT C e with
        | some ty, some z, some sz => if bytesOk C e && decide (sz = Ty.sz G ty) && (reachs st.L z).isEmpty then match newEl st.L ty z with
          | some x => .bnd (mk n x) fun xs => k (.arr st.L.length) { st with L := st.L ++ [.arr e ty xs false] } [] []
          | none => (.fail 75)
          else (.fail 76)
        | _, _, _ => (.fail 77)
        else (.fail 78)
      | _, _ => (.fail 79)
    | _, _, _ => (.fail 80)
  | .slice t x lo hi mx => match mx with
    | none => sliceT C t (opd C st t x) (lo.map (opd C st 0)) (hi.map (opd C st 0)) st k
    | some _ => (.fail 81)
  | .fieldAddr s x f => match fieldOf C s f with
    | some fd => match sizeT C fd.type with
      | some (_ + 1) => match opd C st 0 x with
        | .ref o off => pure (.ref o (off + fd.offset))
        | .pc cs => pure (.pc (cs.drop fd.offset))
        | .pe o i off => pure (.pe o i (off + fd.offset))
        | _ => (.fail 82)
      | _ => (.fail 83)
    | none => (.fail 84)
  | .field s x f => match fieldOf C s f, (if isAg (opd C st s x) then (opd C st s x).cellsL else none) with
    | some fd, some cs => match partV C fd.type (cs.drop fd.offset) with
      | some v => pure v
      | none => (.fail 85)
    | _, _ => (.fail 86)
  | .indexAddr t x i => match elemId C t with
    | some _ => indexAddrT C t (opd C st t x) (opd C st 0 i) st k
    | none => indexBoxT C t (opd C st t x) (opd C st 0 i) st k
  | .index t x i => match opd C st 0 i, opd C st t x, C.P.underlying t with
    | .int _ n, .str s, some .string => .bnd (idx s n) fun b => pure (.int .u8 (b.toNat : Int))
    | .int _ n, .ag cs, some (.array m e) => match G.tyOf e, sizeT C e, isAggT C e with
      | some ty, some 1, some false => match mapO (prj G ty) cs with
        | some xs => if cs.length = m then .bnd (idx xs n) fun x => pure (inj G ty x) else (.fail 87)
        | none => (.fail 88)
      | _, _, _ => (.fail 89)
    | _, _, _ => (.fail 91)
  | .extract x i => match opd C st 0 x with
    | .tup vs => match vs[i]? with | some v => pure v | none => (.fail 92)
    | _ => (.fail 93)
  | .call c => match c.callee with
    | .builtin b => match opds C st c.argTypes.toList c.args.toList with
      | some vs => builtinT C b c.argTypes.toList vs st k
      | none => (.fail 94)
    | .value f => match opds C st c.argTypes.toList c.args.toList with
      | some vs => match opd C st 0 f with
        | .fn g caps => if Nat.blt g 1000000 then callT C g (vs ++ caps) st k else callT C (g - 1000000) (caps ++ vs) st k
        | _ => (.fail 95)
      | none => (.fail 96)
    | _ => (.fail 97)
  | _ => (.fail 98)

def guardT (ops : Array Oper) (o : Oper) (st : St G.S) (k : Bool → St G.S → Tree G.S) : Tree G.S :=
  match o.guard with
  | none => k true st
  | some (j, want) => match (ops[j]?).bind (·.dst) with
    | some d => match st.get d with
      | .tup [] => k false st
      | v => part (.tmp d) v st fun b st => k (b == want) st
    | none => (.fail 99)

def evOps (ops : Array Oper) : List Oper → St G.S → (St G.S → Tree G.S) → Tree G.S
  | [], st, k => k st
  | o :: rest, st, k => guardT ops o st fun w st => (match w with
    | true => evOp C o st fun v st' _ _ => putF st' o.dst v fun st => evOps ops rest st k
    | false => putF st o.dst (.tup []) fun st => evOps ops rest st k)

def edgesOf (o : Oper) : List Nat := (o.after.toList.filter (Region.binds .any)).map (·.on)

/-- what must be ahead of each operation -/
def befs : List Oper → List (List Nat) → Option (List (List Nat))
  | [], acc => some acc
  | o :: r, acc => if (edgesOf o).all (fun e => decide (e < acc.length)) then befs r (acc ++ [edgesOf o ++ catL (fun e => acc.getD e []) (edgesOf o)]) else none

def ltB (bf : List (List Nat)) (j i : Nat) : Bool := (bf.getD i []).contains j

def pureOp (o : Oper) : Bool := match o.op with
  | .move _ | .assign _ | .pick .. | .nilCheck _ | .binOp .. | .unOp .. | .makeFunc .. | .fieldAddr .. | .field .. | .index .. | .extract .. => true
  | _ => false

def chgOp (o : Oper) : Bool := match o.op with
  | .alloc _ | .box .. | .buildSlice .. | .makeSlice .. | .store .. | .slice .. => true
  | .call c => (match c.callee with | .builtin .append => true | _ => false)
  | _ => false

def drawOk (mixed : Bool) (ops : Array Oper) (bf : List (List Nat)) : Bool :=
  (mixed || !Region.departs ops) &&
  ops.toList.zipIdx.all fun p => ops.toList.zipIdx.all fun q => p.2 == q.2 || (match p.1.dst with
    | some d => q.1.dst != some d && (!(q.1.looksAt ops).contains d || ltB bf p.2 q.2 || ltB bf q.2 p.2)
    | none => true)

def fixedB (ops : Array Oper) (bf : List (List Nat)) (pu : List Nat) (i : Nat) : Bool :=
  ops.toList.zipIdx.all fun q => q.2 == i || (pureOp q.1 || pu.contains q.2) || ltB bf i q.2 || ltB bf q.2 i

/-- reads immutable memory alone -/
def immB (o : Oper) (st : St G.S) : Bool := match o.op with
  | .load _ a => match opd C st 0 a with | .pc _ => true | _ => false
  | .indexAddr t x _ => match opd C st t x with | .sl _ _ => true | _ => false
  | .slice t x _ _ none => match opd C st t x with | .sl _ _ => true | _ => false
  | _ => false

/-- those that seem to -/
def puGo (fl : List Nat) : List Oper → Nat → List Nat
  | [], _ => []
  | o :: r, i =>
    let isF (x : Operand) : Bool := match x with | .tmp j => fl.contains j | _ => false
    let fl' := match o.dst with | some d => d :: fl | none => fl
    match o.op with
    | .fieldAddr _ x _ => puGo (if isF x then fl' else fl) r (i + 1)
    | .move x => puGo (if isF x then fl' else fl) r (i + 1)
    | .nilCheck x => puGo (if isF x then fl' else fl) r (i + 1)
    | .load _ x => if isF x then i :: puGo fl' r (i + 1) else puGo fl r (i + 1)
    | .indexAddr _ x _ => if isF x then i :: puGo fl' r (i + 1) else puGo fl r (i + 1)
    | .slice _ x _ _ none => if isF x then i :: puGo fl' r (i + 1) else puGo fl r (i + 1)
    | _ => puGo fl r (i + 1)

def immT : Nat → List (V G.S) → List Nat
  | _, [] => []
  | i, .pc _ :: r => i :: immT (i + 1) r
  | i, .sl _ _ :: r => i :: immT (i + 1) r
  | i, _ :: r => immT (i + 1) r

def maskTm (keep : List Nat) : Nat → List (V G.S) → List (V G.S)
  | _, [] => []
  | i, v :: r => (if keep.contains i then v else .un) :: maskTm keep (i + 1) r

def evDraw (ops : Array Oper) (bf : List (List Nat)) (pu : List Nat) : List Oper → Nat → St G.S → (St G.S → Tree G.S) → Tree G.S
  | [], _, st, k => k st
  | o :: rest, i, st, k => guardT ops o st fun w st => (match w with
    | true => forceL (maskTm (o.looksAt ops) 0 st.tm) fun tm => if pu.contains i && !immB C o ⟨tm, st.L, st.n0⟩ then (.fail 122) else evOp C o ⟨tm, st.L, st.n0⟩ fun v st' _ wr =>
      if pureOp o || pu.contains i then putF st o.dst v fun st => evDraw ops bf pu rest (i + 1) st k
      else if chgOp o || !wr.isEmpty then (if fixedB ops bf pu i then putF ⟨st.tm, st'.L, st.n0⟩ o.dst v fun st => evDraw ops bf pu rest (i + 1) st k else (.fail 108))
      else putF st o.dst v fun st => evDraw ops bf pu rest (i + 1) st k
    | false => putF st o.dst (.tup []) fun st => evDraw ops bf pu rest (i + 1) st k)

def drawT (ops : Array Oper) (st : St G.S) (k : St G.S → Tree G.S) : Tree G.S :=
  match befs ops.toList [] with
  | some bf => if drawOk (C.P.follows .mixedOrders) ops bf then evDraw C ops bf (puGo (immT 0 st.tm) ops.toList 0) ops.toList 0 st k else (.fail 109)
  | none => (.fail 110)

def bvs (L : List (Obj G.S)) : List (V G.S) → Option (List (BV G.S))
  | [] => some []
  | v :: r => match (match v with
      | .arr o => match L[o]? with | some (.arr e t xs false) => some (BV.ow e t xs) | _ => none
      | .nil e t => some (BV.ow e t [])
      | v => match snap L 1 v with | some u => some (BV.im u) | none => none), bvs L r with
    | some a, some b => some (a :: b)
    | _, _ => none

def bxs (L : List (Obj G.S)) : Nat → List (Obj G.S) → Option (List (List (BV G.S)))
  | 0, _ => some []
  | n + 1, .box cs false :: r => match bvs L cs, bxs L n r with
    | some a, some b => some (a :: b)
    | _, _ => none
  | _, _ => none

def retVs (st : St G.S) : List ResultVar → Option (List (V G.S))
  | [] => some []
  | x :: r => match (match x with
      | .tmp t => snap st.L 20 (st.get t)
      | .cell a t => match st.get a with
        | .ref o off => match st.L[o]? with
          | some (.box cs _) => match partV C t (cs.drop off) with
            | some v => snap st.L 20 v
            | none => none
          | _ => none
        | _ => none), retVs st r with
    | some a, some b => some (a :: b)
    | _, _ => none

def retT (f : FuncId) (st : St G.S) : Tree G.S :=
  match C.P.funcs[f]? with
  | none => (.fail 100)
  | some fn => match retVs C st fn.results.toList, bxs st.L st.n0 st.L with
    | some vs, some bs => if vs.all (V.clo 20) = true then match vs with
        | [v] => v.deep fun v => .ret (v, bs)
        | vs => forceL vs fun vs => .ret (.tup vs, bs)
      else (.fail 101)
    | _, _ => (.fail 102)

def ev (f : FuncId) : Nat → Bool → List Item → St G.S → Tree G.S
  | 0, _, _, _ => (.fail 103)
  | n + 1, b, todo, st => match todo with
    | [] => retT C f st
    | .code .ret :: _ => retT C f st
    | .code .skip :: k => ev f n b k st
    | .code (.seq x y) :: k => ev f n b (.code x :: .code y :: k) st
    | .code (.cond c x y) :: k => part c (opd C st 0 c) st fun t st => ev f n true (.code (if t then x else y) :: k) st
    | .code (.block id x) :: k => ev f n b (.code x :: .inBlock id :: k) st
    | .inBlock _ :: k => ev f n b k st
    | .code (.loop x) :: k => ev f n b (.code x :: .inLoop x :: k) st
    | .inLoop x :: k => ev f n b (.code x :: .inLoop x :: k) st
    | .code (.exit id) :: k => match exitTo id k with
      | some k' => ev f n b k' st
      | none => (.fail 104)
    | .code (.region id ops draw) :: k => match b, C.cut f id with
      | true, some keep => match restrict keep st with
        | some st' => forceO st'.L fun L => forceL st'.tm fun tm => .jump todo ⟨tm, L, st.n0⟩
        | none => (.fail 105)
      | _, _ => if draw then drawT C ops st fun st => ev f n true k st else evOps C ops ops.toList st fun st => ev f n true k st
    | _ => (.fail 106)

def start : List Item → Bool
  | .code (.region ..) :: _ => false
  | _ => true

def Phi : Nat → FuncId → List Item → St G.S → Option (Ret G.S)
  | 0, _, _, _ => none
  | n + 1, f, todo, st => (ev C f 4000 (start todo) todo st).run G (Phi n) f

end

end Go.Dv

namespace Go.Dv

open Go

inductive MB where
  | box (b : Nat)
  | arr (a : Option Addr) (n c : Nat) (e : TypeId) (sz : Nat)

abbrev Mem := Nat → Option MB

abbrev Okc := Nat → Nat → Prop

section

variable {G : Sig}

/-- a function value: bound arguments stand last; from 1000000 on: first -/
def fv (f : Nat) (l : Array Value) : Value := if Nat.blt f 1000000 then .func (.func f) #[] l else .func (.func (f - 1000000)) l #[]

inductive VR (w : World) (ok : Okc) (M : Mem) : V G.S → Value → Prop
  | un (v : Value) : VR w ok M .un v
  | int (k : IntKind) (n : Int) : VR w ok M (.int k n) (.int k n)
  | bool (b : Bool) : VR w ok M (.bool b) (.bool b)
  | lb (b : Bool) : VR w ok M (.lb b) (.bool b)
  | str (b : ByteArray) : VR w ok M (.str b.data.toList) (.string b)
  | sl0 (t : Ty) (a : Option Addr) (c : Nat) : VR w ok M (.sl t []) (.slice a 0 c)
  | sl1 (t : Ty) (xs : List (t.den G.S)) (b off c : Nat) (u : Nat → Nat → Value) (hc : xs.length ≤ c)
      (h1 : ∀ (i : Nat) (x : t.den G.S) (j : Nat) (y : V G.S), xs[i]? = some x → (Ty.cells G t x)[j]? = some y → w.cell? ⟨b, off + (i * Ty.sz G t + j), none⟩ = some (u i j) ∧ ok b (off + (i * Ty.sz G t + j)))
      (h2 : ∀ (i : Nat) (x : t.den G.S) (j : Nat) (y : V G.S), xs[i]? = some x → (Ty.cells G t x)[j]? = some y → VR w ok M y (u i j)) : VR w ok M (.sl t xs) (.slice (some ⟨b, off, none⟩) xs.length c)
  | st (n : Nat) (x : G.S n) (l : List Value) (hl : (G.cells n x).length = l.length)
      (h : ∀ (j : Nat) (y : V G.S) (v : Value), (G.cells n x)[j]? = some y → l[j]? = some v → VR w ok M y v) : VR w ok M (.st n x) (.agg l.toArray)
  | ag (cs : List (V G.S)) (l : List Value) (hl : cs.length = l.length)
      (h : ∀ (j : Nat) (y : V G.S) (v : Value), cs[j]? = some y → l[j]? = some v → VR w ok M y v) : VR w ok M (.ag cs) (.agg l.toArray)
  | tup (cs : List (V G.S)) (l : List Value) (hl : cs.length = l.length)
      (h : ∀ (j : Nat) (y : V G.S) (v : Value), cs[j]? = some y → l[j]? = some v → VR w ok M y v) : VR w ok M (.tup cs) (.tuple l.toArray)
  | fn (f : Nat) (cs : List (V G.S)) (l : List Value) (hl : cs.length = l.length)
      (h : ∀ (j : Nat) (y : V G.S) (v : Value), cs[j]? = some y → l[j]? = some v → VR w ok M y v) : VR w ok M (.fn f cs) (fv f l.toArray)
  | pc (cs : List (V G.S)) (b off : Nat) (u : Nat → Value)
      (h1 : ∀ (j : Nat) (y : V G.S), cs[j]? = some y → w.cell? ⟨b, off + j, none⟩ = some (u j) ∧ ok b (off + j))
      (h2 : ∀ (j : Nat) (y : V G.S), cs[j]? = some y → VR w ok M y (u j)) : VR w ok M (.pc cs) (.pointer (some ⟨b, off, none⟩))
  | nilp : VR w ok M .nilp (.pointer none)
  | nil (e : TypeId) (t : Ty) : VR w ok M (.nil e t) (.slice none 0 0)
  | ref (o off b : Nat) (h : M o = some (.box b)) : VR w ok M (.ref o off) (.pointer (some ⟨b, off, none⟩))
  | arr (o : Nat) (a : Option Addr) (n c : Nat) (e : TypeId) (sz : Nat) (h : M o = some (.arr a n c e sz)) : VR w ok M (.arr o) (.slice a n c)
  | pe (o i off b n c : Nat) (e : TypeId) (sz : Nat) (h : M o = some (.arr (some ⟨b, 0, none⟩) n c e sz)) : VR w ok M (.pe o i off) (.pointer (some ⟨b, i * sz + off, none⟩))

/-- what was read is read still -/
structure Ex (M : Mem) (ok : Okc) (w : World) (M' : Mem) (ok' : Okc) (w' : World) : Prop where
  mem : ∀ o x, M o = some x → M' o = some x
  rd : ∀ b off u, ok b off → w.cell? ⟨b, off, none⟩ = some u → ok' b off ∧ w'.cell? ⟨b, off, none⟩ = some u

theorem Ex.refl (M : Mem) (ok : Okc) (w : World) : Ex M ok w M ok w := ⟨fun _ _ h => h, fun _ _ _ h k => ⟨h, k⟩⟩

theorem Ex.trans {M M1 M2 : Mem} {ok ok1 ok2 : Okc} {w w1 w2 : World} (h : Ex M ok w M1 ok1 w1) (k : Ex M1 ok1 w1 M2 ok2 w2) : Ex M ok w M2 ok2 w2 :=
  ⟨fun o x e => k.mem o x (h.mem o x e), fun b off u e c => let ⟨p, q⟩ := h.rd b off u e c; k.rd b off u p q⟩

theorem VR.mono {w w' : World} {ok ok' : Okc} {M M' : Mem} (hx : Ex M ok w M' ok' w') {y : V G.S} {v : Value} (h : VR w ok M y v) : VR w' ok' M' y v := by
  induction h with
  | un v => exact .un v
  | int k n => exact .int k n
  | bool b => exact .bool b
  | lb b => exact .lb b
  | str b => exact .str b
  | sl0 t a c => exact .sl0 t a c
  | sl1 t xs b off c u hc h1 h2 ih =>
    refine .sl1 t xs b off c u hc (fun i x j y hi hj => ?_) (fun i x j y hi hj => ih i x j y hi hj)
    obtain ⟨p, q⟩ := h1 i x j y hi hj
    obtain ⟨r, s⟩ := hx.rd _ _ _ q p
    exact ⟨s, r⟩
  | st n x l hl h ih => exact .st n x l hl fun j y v hj hv => ih j y v hj hv
  | ag cs l hl h ih => exact .ag cs l hl fun j y v hj hv => ih j y v hj hv
  | tup cs l hl h ih => exact .tup cs l hl fun j y v hj hv => ih j y v hj hv
  | fn f cs l hl h ih => exact .fn f cs l hl fun j y v hj hv => ih j y v hj hv
  | pc cs b off u h1 h2 ih =>
    refine .pc cs b off u (fun j y hj => ?_) (fun j y hj => ih j y hj)
    obtain ⟨p, q⟩ := h1 j y hj
    obtain ⟨r, s⟩ := hx.rd _ _ _ q p
    exact ⟨s, r⟩
  | nilp => exact .nilp
  | nil e t => exact .nil e t
  | ref o off b h => exact .ref o off b (hx.mem _ _ h)
  | arr o a n c e sz h => exact .arr o a n c e sz (hx.mem _ _ h)
  | pe o i off b n c e sz h => exact .pe o i off b n c e sz (hx.mem _ _ h)

/-- lists of values -/
def VRs (w : World) (ok : Okc) (M : Mem) (cs : List (V G.S)) (l : List Value) : Prop :=
  cs.length = l.length ∧ ∀ (j : Nat) (y : V G.S) (v : Value), cs[j]? = some y → l[j]? = some v → VR w ok M y v

theorem VRs.nil {w : World} {ok : Okc} {M : Mem} : VRs (G := G) w ok M [] [] := ⟨rfl, fun j y v h => by simp at h⟩

theorem VRs.cons {w : World} {ok : Okc} {M : Mem} {y : V G.S} {v : Value} {cs : List (V G.S)} {l : List Value} (h : VR w ok M y v) (k : VRs w ok M cs l) : VRs w ok M (y :: cs) (v :: l) := by
  refine ⟨by simp [k.1], fun j z u hj hu => ?_⟩
  cases j with
  | zero => simp at hj hu; subst hj; subst hu; exact h
  | succ j => simp at hj hu; exact k.2 j z u hj hu

theorem VRs.inv {w : World} {ok : Okc} {M : Mem} {y : V G.S} {cs : List (V G.S)} {l : List Value} (h : VRs w ok M (y :: cs) l) : ∃ v l', l = v :: l' ∧ VR w ok M y v ∧ VRs w ok M cs l' := by
  obtain ⟨hl, hh⟩ := h
  cases l with
  | nil => simp at hl
  | cons v l' => exact ⟨v, l', rfl, hh 0 y v rfl rfl, by simpa using hl, fun j z u hj hu => hh (j + 1) z u (by simpa using hj) (by simpa using hu)⟩

theorem VRs.mono {w w' : World} {ok ok' : Okc} {M M' : Mem} (hx : Ex M ok w M' ok' w') {cs : List (V G.S)} {l : List Value} (h : VRs w ok M cs l) : VRs w' ok' M' cs l :=
  ⟨h.1, fun j y v hj hv => (h.2 j y v hj hv).mono hx⟩

theorem VRs.append {w : World} {ok : Okc} {M : Mem} {cs ds : List (V G.S)} {l m : List Value} (h : VRs w ok M cs l) (k : VRs w ok M ds m) : VRs w ok M (cs ++ ds) (l ++ m) := by
  refine ⟨by simp [h.1, k.1], fun j y v hj hv => ?_⟩
  by_cases hlt : j < cs.length
  · rw [List.getElem?_append_left hlt] at hj
    rw [List.getElem?_append_left (by have := h.1; omega)] at hv
    exact h.2 j y v hj hv
  · rw [List.getElem?_append_right (by omega)] at hj
    rw [List.getElem?_append_right (by have := h.1; omega)] at hv
    rw [← h.1] at hv
    exact k.2 _ y v hj hv

theorem VRs.take {w : World} {ok : Okc} {M : Mem} {cs : List (V G.S)} {l : List Value} (h : VRs w ok M cs l) (n : Nat) : VRs w ok M (cs.take n) (l.take n) := by
  refine ⟨by simp [h.1], fun j y v hj hv => ?_⟩
  rw [List.getElem?_take] at hj hv
  split at hj
  · rename_i hlt; rw [if_pos hlt] at hv; exact h.2 j y v hj hv
  · cases hj

theorem VRs.drop {w : World} {ok : Okc} {M : Mem} {cs : List (V G.S)} {l : List Value} (h : VRs w ok M cs l) (n : Nat) : VRs w ok M (cs.drop n) (l.drop n) := by
  refine ⟨by simp [h.1], fun j y v hj hv => ?_⟩
  rw [List.getElem?_drop] at hj hv
  exact h.2 _ y v hj hv

theorem VRs.get {w : World} {ok : Okc} {M : Mem} {cs : List (V G.S)} {l : List Value} (h : VRs w ok M cs l) {j : Nat} {y : V G.S} (hj : cs[j]? = some y) : ∃ v, l[j]? = some v ∧ VR w ok M y v := by
  have hlt : j < l.length := by
    have := (List.getElem?_eq_some_iff.1 hj).1
    rw [← h.1]; exact this
  exact ⟨l[j], List.getElem?_eq_getElem hlt, h.2 j y _ hj (List.getElem?_eq_getElem hlt)⟩

theorem VRs.sing {w : World} {ok : Okc} {M : Mem} {y : V G.S} {v : Value} (h : VR w ok M y v) : VRs w ok M [y] [v] := .cons h .nil

/-- the laws of a signature -/
structure SigOk (G : Sig) : Prop where
  len : ∀ n x, (G.cells n x).length = G.csz n
  make : ∀ n cs x, G.make n cs = some x → ∀ w ok M l, VRs (G := G) w ok M cs l → VRs w ok M (G.cells n x) l
  imm : ∀ n x, (G.cells n x).all V.scal = true

/-- where an object lies -/
def MB.blk : MB → Option Nat
  | .box b => some b
  | .arr a _ _ _ _ => a.map (·.block)

def blk (M : Mem) (o : Nat) : Option Nat := (M o).bind MB.blk

def Obj.live {S : Nat → Type} : Obj S → Prop
  | .dead => False
  | _ => True

/-- what of an object may be read by whoever -/
def Obj.rd (ob : Obj G.S) (off : Nat) : Prop := match ob with
  | .arr _ t xs fz => fz = true ∧ off < xs.length * Ty.sz G t
  | .box _ fz => fz = true
  | .dead => False

def OR (w : World) (ok : Okc) (M : Mem) (o : Nat) : Obj G.S → Prop
  | .box cs _ => ∃ b l e, M o = some (.box b) ∧ w.heap[b]? = some (.cells l.toArray e (0, 0)) ∧ VRs w ok M cs l
  | .arr e t xs _ => ∃ a c us, M o = some (.arr a xs.length c e (Ty.sz G t)) ∧ w.ownsRow 0 e (Ty.sz G t) (.slice a xs.length c) xs.length us ∧ 0 < Ty.sz G t ∧
      ∀ (i : Nat) (x : t.den G.S) (j : Nat) (y : V G.S) (u : Value), xs[i]? = some x → (Ty.cells G t x)[j]? = some y → us[i * Ty.sz G t + j]? = some u → VR w ok M y u
  | .dead => True

/-- what package variables hold: constants; some int -/
def GlobOK (C : Cfg G) (w : World) (ok : Okc) : Prop :=
  (∀ g cs, C.glob g = some cs → ∀ M', VR w ok M' (.pc cs) (.pointer (some ⟨g, 0, none⟩))) ∧ ∀ g, C.gint g = true → ok g 0 ∧ ∃ m, w.cell? ⟨g, 0, none⟩ = some (.int .i64 m)

theorem GlobOK.mono {C : Cfg G} {w w' : World} {ok ok' : Okc} (h : GlobOK C w ok) (hr : ∀ b off u, ok b off → w.cell? ⟨b, off, none⟩ = some u → ok' b off ∧ w'.cell? ⟨b, off, none⟩ = some u) : GlobOK C w' ok' :=
  ⟨fun g cs hg M' => (h.1 g cs hg M').mono ⟨fun _ _ h => h, hr⟩, fun g hg => by
    obtain ⟨h1, m, h2⟩ := h.2 g hg
    exact ⟨(hr g 0 _ h1 h2).1, m, (hr g 0 _ h1 h2).2⟩⟩

/-- package variables that hold a table -/
def GT (C : Cfg G) (w0 : World) (Fp : Nat → Prop) : Prop :=
  ∀ g cs, C.gtab g = some cs → g < w0.heap.size ∧ ¬ Fp g ∧ ∃ e z, w0.heap[g]? = some (.cells cs e z)

def GlobX (C : Cfg G) (w : World) (ok : Okc) : Prop := GlobOK C w ok ∧ GT C w (fun _ => False)

structure MI (C : Cfg G) (w0 : World) (Fp : Nat → Prop) (okA : Okc) (M : Mem) (ok : Okc) (L : List (Obj G.S)) (w : World) : Prop where
  objs : ∀ o ob, L[o]? = some ob → OR w ok M o ob
  dom : ∀ o x, M o = some x → o < L.length
  dis : ∀ o1 o2 ob1 ob2 b, L[o1]? = some ob1 → L[o2]? = some ob2 → ob1.live → ob2.live → blk M o1 = some b → blk M o2 = some b → o1 = o2
  own : ∀ o ob b off, L[o]? = some ob → ob.live → blk M o = some b → ok b off → ob.rd off
  old : ∀ o ob b, L[o]? = some ob → ob.live → blk M o = some b → w0.heap.size ≤ b ∨ Fp b
  rdA : ∀ b off, okA b off → ok b off
  lt : ∀ b off, ok b off → b < w.heap.size
  okN : ∀ b off, ok b off → okA b off ∨ w0.heap.size ≤ b ∨ Fp b
  glob : GlobOK C w ok
  os : w.os = w0.os
  tape : w.tape = w0.tape
  output : w.output = w0.output
  size : w0.heap.size ≤ w.heap.size
  frame : ∀ b, b < w0.heap.size → ¬ Fp b → w.heap[b]? = w0.heap[b]?
  gt : GT C w0 Fp

theorem MI.globX {C : Cfg G} {w0 : World} {Fp : Nat → Prop} {okA : Okc} {M : Mem} {ok : Okc} {L : List (Obj G.S)} {w : World} (h : MI C w0 Fp okA M ok L w) : GlobX C w ok :=
  ⟨h.glob, fun g cs hg => by
    obtain ⟨h1, h2, e, z, h3⟩ := h.gt g cs hg
    exact ⟨Nat.lt_of_lt_of_le h1 h.size, fun h => h, e, z, (h.frame g h1 h2).trans h3⟩⟩

/-- the temporaries -/
def TR (w : World) (ok : Okc) (M : Mem) (tm : List (V G.S)) (a : Act) : Prop :=
  tm.length = a.tmps.size ∧ ∀ i y, tm[i]? = some y → VR w ok M y (a.tmps.getD i undef)

theorem TR.mono {w w' : World} {ok ok' : Okc} {M M' : Mem} (hx : Ex M ok w M' ok' w') {tm : List (V G.S)} {a : Act} (h : TR w ok M tm a) : TR w' ok' M' tm a :=
  ⟨h.1, fun i y hi => (h.2 i y hi).mono hx⟩

theorem TR.get {w : World} {ok : Okc} {M : Mem} {st : St G.S} {a : Act} (h : TR w ok M st.tm a) (i : Nat) : VR w ok M (st.get i) (a.tmps.getD i undef) := by
  unfold St.get
  cases hi : st.tm[i]? with
  | none => rw [List.getD_eq_getElem?_getD, hi]; exact .un _
  | some y => rw [List.getD_eq_getElem?_getD, hi]; exact h.2 i y hi

theorem TR.put {w : World} {ok : Okc} {M : Mem} {st : St G.S} {a : Act} (h : TR w ok M st.tm a) (d : Option Nat) {v : V G.S} {u : Value} (hv : VR w ok M v u) : TR w ok M (st.put d v).tm (a.put d u) := by
  cases d with
  | none => exact h
  | some d =>
    refine ⟨by simp [St.put, Act.put, h.1], fun i y hi => ?_⟩
    simp only [St.put, Act.put] at hi ⊢
    rw [List.getElem?_set] at hi
    by_cases hd : d = i
    · subst hd
      rw [if_pos rfl] at hi
      split at hi
      · rename_i hlt
        simp at hi; subst hi
        have hlt' : d < a.tmps.size := by rw [← h.1]; exact hlt
        simp [Array.getD, hlt']
        exact hv
      · cases hi
    · rw [if_neg hd] at hi
      have := h.2 i y hi
      have he : (a.tmps.setIfInBounds d u).getD i undef = a.tmps.getD i undef := by
        simp [Array.getD_eq_getD_getElem?, hd]
      rw [he]; exact this

end

end Go.Dv

namespace Go.Dv

open Go

section

variable {G : Sig} {C : Cfg G} {w0 : World} {Fp : Nat → Prop} {okA : Okc} {M M' : Mem} {ok ok' : Okc} {L : List (Obj G.S)} {w w' : World}

theorem OR.mono {o : Nat} {ob : Obj G.S} (hx : Ex M ok w M' ok' w') (hb : ∀ b, blk M o = some b → w'.heap[b]? = w.heap[b]?) (h : OR w ok M o ob) : OR w' ok' M' o ob := by
  cases ob with
  | box cs fz =>
    obtain ⟨b, l, e, hm, hh, hv⟩ := h
    exact ⟨b, l, e, hx.mem _ _ hm, (hb b (by simp [blk, hm, MB.blk])).trans hh, hv.mono hx⟩
  | arr e t xs fz =>
    obtain ⟨a, c, us, hm, ho, hs, hv⟩ := h
    refine ⟨a, c, us, hx.mem _ _ hm, ?_, hs, fun i x j y u h1 h2 h3 => (hv i x j y u h1 h2 h3).mono hx⟩
    refine ⟨ho.1, ?_⟩
    rcases ho.2 with h1 | ⟨g, cap, cur, h1, h2, h3, h4⟩
    · exact .inl h1
    · refine .inr ⟨g, cap, cur, h1, h2, ?_, h4⟩
      simp only [Value.slice.injEq, true_and] at h1
      rw [hb g (by simp [blk, hm, MB.blk, h1.1])]
      exact h3
  | dead => trivial

theorem MI.blk_lt (h : MI C w0 Fp okA M ok L w) {o : Nat} {ob : Obj G.S} (ho : L[o]? = some ob) (hl : ob.live) {b : Nat} (hb : blk M o = some b) : b < w.heap.size := by
  have h1 := h.objs o ob ho
  cases ob with
  | box cs fz =>
    obtain ⟨b', l, e, hm, hh, hv⟩ := h1
    simp [blk, hm, MB.blk] at hb
    subst hb
    exact (Array.getElem?_eq_some_iff.1 hh).1
  | arr e t xs fz =>
    obtain ⟨a, c, us, hm, ho', hs, hv⟩ := h1
    simp [blk, hm, MB.blk] at hb
    obtain ⟨ad, rfl, rfl⟩ := hb
    exact (ho'.lt _ rfl).2
  | dead => exact hl.elim

def updM (M : Mem) (o : Nat) (x : MB) : Mem := fun i => if i = o then some x else M i

theorem updM_same (M : Mem) (o : Nat) (x : MB) : updM M o x o = some x := by simp [updM]

theorem updM_ne (M : Mem) {o i : Nat} (x : MB) (h : i ≠ o) : updM M o x i = M i := by simp [updM, h]

theorem blk_updM (M : Mem) (o i : Nat) (x : MB) : blk (updM M o x) i = if i = o then x.blk else blk M i := by
  unfold blk updM
  split <;> simp

theorem cell_of_heap {w w' : World} {b off : Nat} (h : w'.heap[b]? = w.heap[b]?) : w'.cell? ⟨b, off, none⟩ = w.cell? ⟨b, off, none⟩ := World.cell?_of_block (w := w) (a := ⟨b, off, none⟩) h

theorem MI.ex_push (h : MI C w0 Fp okA M ok L w) (x : MB) (hg : ∀ k, k < w.heap.size → w'.heap[k]? = w.heap[k]?) : Ex M ok w (updM M L.length x) ok w' :=
  ⟨fun o y ho => by rw [updM_ne _ _ (by have := h.dom o y ho; omega)]; exact ho, fun b off u hb hc => ⟨hb, by rw [cell_of_heap (hg b (h.lt b off hb))]; exact hc⟩⟩

/-- a new object in new memory -/
theorem MI.push (h : MI C w0 Fp okA M ok L w) (x : MB) (ob : Obj G.S) (hos : w'.os = w.os) (htape : w'.tape = w.tape) (hout : w'.output = w.output) (hsz : w.heap.size ≤ w'.heap.size)
    (hg : ∀ k, k < w.heap.size → w'.heap[k]? = w.heap[k]?) (hob : OR w' ok (updM M L.length x) L.length ob) (hx : ∀ b, x.blk = some b → w.heap.size ≤ b) :
    MI C w0 Fp okA (updM M L.length x) ok (L ++ [ob]) w' := by
  have he := h.ex_push (w' := w') x hg
  have split : ∀ (o : Nat) (ob' : Obj G.S), (L ++ [ob])[o]? = some ob' → (o < L.length ∧ L[o]? = some ob') ∨ (o = L.length ∧ ob' = ob) := by
    intro o ob' ho
    by_cases hlt : o < L.length
    · rw [List.getElem?_append_left hlt] at ho; exact .inl ⟨hlt, ho⟩
    · rw [List.getElem?_append_right (by omega)] at ho
      have : o - L.length = 0 := by
        rcases Nat.eq_zero_or_pos (o - L.length) with h0 | h0
        · exact h0
        · rw [List.getElem?_eq_none (by simp; omega)] at ho; cases ho
      rw [this] at ho
      simp at ho
      exact .inr ⟨by omega, ho.symm⟩
  have hbk : ∀ o, o < L.length → blk (updM M L.length x) o = blk M o := fun o ho => by rw [blk_updM, if_neg (by omega)]
  have hbn : blk (updM M L.length x) L.length = x.blk := by rw [blk_updM, if_pos rfl]
  refine ⟨?_, ?_, ?_, ?_, ?_, h.rdA, fun b off hb => Nat.lt_of_lt_of_le (h.lt b off hb) hsz, h.okN, h.glob.mono he.rd, hos.trans h.os, htape.trans h.tape, hout.trans h.output, Nat.le_trans h.size hsz, fun b hb hf => (hg b (Nat.lt_of_lt_of_le hb h.size)).trans (h.frame b hb hf), h.gt⟩
  · intro o ob' ho
    rcases split o ob' ho with ⟨hlt, ho'⟩ | ⟨rfl, rfl⟩
    · cases ob' with
      | dead => trivial
      | box cs fz => exact (h.objs o _ ho').mono he fun b hb => hg b (h.blk_lt ho' trivial hb)
      | arr e t xs fz => exact (h.objs o _ ho').mono he fun b hb => hg b (h.blk_lt ho' trivial hb)
    · exact hob
  · intro o y ho
    simp only [List.length_append, List.length_cons, List.length_nil]
    by_cases e : o = L.length
    · omega
    · rw [updM_ne _ _ e] at ho; have := h.dom o y ho; omega
  · intro o1 o2 ob1 ob2 b h1 h2 l1 l2 b1 b2
    rcases split o1 ob1 h1 with ⟨q1, k1⟩ | ⟨q1, k1⟩ <;> rcases split o2 ob2 h2 with ⟨q2, k2⟩ | ⟨q2, k2⟩
    · rw [hbk _ q1] at b1; rw [hbk _ q2] at b2; exact h.dis o1 o2 ob1 ob2 b k1 k2 l1 l2 b1 b2
    · subst q2; rw [hbk _ q1] at b1; rw [hbn] at b2; have := h.blk_lt k1 l1 b1; have := hx b b2; omega
    · subst q1; rw [hbk _ q2] at b2; rw [hbn] at b1; have := h.blk_lt k2 l2 b2; have := hx b b1; omega
    · omega
  · intro o ob' b off ho hl hb hok
    rcases split o ob' ho with ⟨q, k⟩ | ⟨q, k⟩
    · rw [hbk _ q] at hb; exact h.own o ob' b off k hl hb hok
    · subst q; rw [hbn] at hb; have := hx b hb; have := h.lt b off hok; omega
  · intro o ob' b ho hl hb
    rcases split o ob' ho with ⟨q, k⟩ | ⟨q, k⟩
    · rw [hbk _ q] at hb; exact h.old o ob' b k hl hb
    · subst q; rw [hbn] at hb; exact .inl (Nat.le_trans h.size (hx b hb))

theorem heap_push (w : World) (o : Go.Obj) (k : Nat) (h : k < w.heap.size) : (w.alloc o).heap[k]? = w.heap[k]? := by
  show (w.heap.push o)[k]? = _
  rw [Array.getElem?_push, if_neg (by omega)]

theorem MI.box (h : MI C w0 Fp okA M ok L w) (cs : List (V G.S)) (l : List Value) (e : TypeId) (hv : VRs w ok M cs l) :
    MI C w0 Fp okA (updM M L.length (.box w.heap.size)) ok (L ++ [.box cs false]) (w.alloc (.cells l.toArray e)) ∧ Ex M ok w (updM M L.length (.box w.heap.size)) ok (w.alloc (.cells l.toArray e)) := by
  have he := h.ex_push (w' := w.alloc (.cells l.toArray e)) (.box w.heap.size) (fun k hk => heap_push w _ k hk)
  refine ⟨h.push _ _ rfl rfl rfl (by simp) (fun k hk => heap_push w _ k hk) ⟨w.heap.size, l, e, updM_same _ _ _, heap_alloc_new w _, hv.mono he⟩ (fun b hb => by simp [MB.blk] at hb; omega), he⟩

/-- what lies in a frozen object may be read by whoever -/
def Obj.rd' (ob : Obj G.S) (off : Nat) : Prop := match ob with
  | .arr _ t xs _ => off < xs.length * Ty.sz G t
  | .box _ _ => True
  | .dead => False

def Obj.fr (ob : Obj G.S) (b : Bool) : Obj G.S := match ob with
  | .arr e t xs fz => .arr e t xs (b || fz)
  | .box cs fz => .box cs (b || fz)
  | .dead => .dead

def okF (M : Mem) (ok : Okc) (L : List (Obj G.S)) (os : List Nat) : Okc := fun b off => ok b off ∨ ∃ o ob, os.contains o = true ∧ L[o]? = some ob ∧ ob.live ∧ blk M o = some b ∧ ob.rd' off

theorem freeze_go (os : List Nat) : ∀ (L : List (Obj G.S)) (i o : Nat), (freeze.go i os L)[o]? = (L[o]?).map fun ob => ob.fr (os.contains (i + o)) := by
  intro L
  induction L with
  | nil => intro i o; simp [freeze.go]
  | cons a r ih =>
    intro i o
    cases o with
    | zero =>
      simp only [freeze.go, List.getElem?_cons_zero, Option.map_some, Nat.add_zero]
      cases a <;> dsimp only [Obj.fr] <;> (try split) <;> simp_all
    | succ o =>
      simp only [freeze.go, List.getElem?_cons_succ]
      rw [ih (i + 1) o]
      simp only [show i + 1 + o = i + (o + 1) by omega]

theorem freeze_get (L : List (Obj G.S)) (os : List Nat) (o : Nat) : (freeze L os)[o]? = (L[o]?).map fun ob => ob.fr (os.contains o) := by
  have := freeze_go os L 0 o
  simpa [freeze] using this

theorem freeze_length (L : List (Obj G.S)) (os : List Nat) : (freeze L os).length = L.length := by
  have : ∀ (L : List (Obj G.S)) (i : Nat), (freeze.go i os L).length = L.length := by
    intro L
    induction L with
    | nil => intro i; rfl
    | cons a r ih => intro i; simp [freeze.go, ih]
  exact this L 0

theorem MI.freeze (h : MI C w0 Fp okA M ok L w) (os : List Nat) : MI C w0 Fp okA M (okF M ok L os) (freeze L os) w ∧ Ex M ok w M (okF M ok L os) w := by
  have he : Ex M ok w M (okF M ok L os) w := ⟨fun _ _ h => h, fun b off u hb hc => ⟨.inl hb, hc⟩⟩
  have inv : ∀ (o : Nat) (ob : Obj G.S), (Dv.freeze L os)[o]? = some ob → ∃ ob0 : Obj G.S, L[o]? = some ob0 ∧ (ob.live → ob0.live) ∧ ob = ob0.fr (os.contains o) := by
    intro o ob ho
    rw [freeze_get] at ho
    cases hL : L[o]? with
    | none => rw [hL] at ho; cases ho
    | some ob0 =>
      rw [hL] at ho
      simp only [Option.map_some, Option.some.injEq] at ho
      refine ⟨ob0, rfl, ?_, ho.symm⟩
      subst ho
      cases ob0 <;> exact id
  refine ⟨⟨?_, ?_, ?_, ?_, ?_, fun b off hb => .inl (h.rdA b off hb), ?_, ?_, h.glob.mono he.rd, h.os, h.tape, h.output, h.size, h.frame, h.gt⟩, he⟩
  · intro o ob ho
    obtain ⟨ob0, h0, _, rfl⟩ := inv o ob ho
    have := (h.objs o _ h0).mono (w' := w) he (fun _ _ => rfl)
    cases ob0 <;> exact this
  · intro o x ho; rw [freeze_length]; exact h.dom o x ho
  · intro o1 o2 ob1 ob2 b h1 h2 l1 l2 b1 b2
    obtain ⟨x1, q1, r1, _⟩ := inv o1 ob1 h1
    obtain ⟨x2, q2, r2, _⟩ := inv o2 ob2 h2
    exact h.dis o1 o2 x1 x2 b q1 q2 (r1 l1) (r2 l2) b1 b2
  · intro o ob b off ho hl hb hok
    obtain ⟨ob0, h0, hl0, rfl⟩ := inv o ob ho
    rcases hok with hok | ⟨o', ob', hos, hL, hl', hbo, hlt⟩
    · have := h.own o ob0 b off h0 (hl0 hl) hb hok
      cases ob0 <;> simp_all [Obj.rd, Obj.fr]
    · have : o' = o := h.dis o' o _ _ b hL h0 hl' (hl0 hl) hbo hb
      subst this
      rw [hL] at h0
      cases h0
      cases ob0 <;> simp_all [Obj.rd, Obj.fr, Obj.rd']
  · intro o ob b ho hl hb
    obtain ⟨ob0, h0, hl0, _⟩ := inv o ob ho
    exact h.old o ob0 b h0 (hl0 hl) hb
  · rintro b off (hb | ⟨o, ob, _, hL, hlo, hbo, _⟩)
    · exact h.lt b off hb
    · exact h.blk_lt hL hlo hbo
  · rintro b off (hb | ⟨o, ob, _, hL, hlo, hbo, hlt⟩)
    · exact h.okN b off hb
    · rcases h.old o _ b hL hlo hbo with h1 | h1
      · exact .inr (.inl h1)
      · exact .inr (.inr h1)

/-- one object's block is written -/
theorem MI.upd (h : MI C w0 Fp okA M ok L w) {o : Nat} {ob : Obj G.S} (ob' : Obj G.S) {b : Nat} (ho : L[o]? = some ob) (hl : ob.live) (hb : blk M o = some b)
    (hos : w'.os = w.os) (htape : w'.tape = w.tape) (hout : w'.output = w.output) (hsz : w'.heap.size = w.heap.size) (hg : ∀ k, k ≠ b → w'.heap[k]? = w.heap[k]?)
    (hrd : ∀ off u, ok b off → w.cell? ⟨b, off, none⟩ = some u → w'.cell? ⟨b, off, none⟩ = some u)
    (hob : Ex M ok w M ok w' → OR w' ok M o ob') (hown : ∀ off, ok b off → ob'.rd off) :
    MI C w0 Fp okA M ok (L.set o ob') w' ∧ Ex M ok w M ok w' := by
  have he : Ex M ok w M ok w' := ⟨fun _ _ h => h, fun b' off u hk hc => ⟨hk, by
    by_cases e : b' = b
    · subst e; exact hrd off u hk hc
    · rw [cell_of_heap (hg b' e)]; exact hc⟩⟩
  have hlt : o < L.length := (List.getElem?_eq_some_iff.1 ho).1
  have split : ∀ (i : Nat) (x : Obj G.S), (L.set o ob')[i]? = some x → (i = o ∧ x = ob') ∨ (i ≠ o ∧ L[i]? = some x) := by
    intro i x hi
    rw [List.getElem?_set] at hi
    by_cases e : o = i
    · subst e; rw [if_pos rfl, if_pos hlt] at hi; exact .inl ⟨rfl, (Option.some.inj hi).symm⟩
    · rw [if_neg e] at hi; exact .inr ⟨fun h => e h.symm, hi⟩
  have hne : ∀ (i : Nat) (x : Obj G.S) (k : Nat), i ≠ o → L[i]? = some x → x.live → blk M i = some k → k ≠ b := by
    intro i x k hi hx hlx hk e
    subst e
    exact hi (h.dis i o x ob k hx ho hlx hl hk hb)
  refine ⟨⟨?_, ?_, ?_, ?_, ?_, h.rdA, fun b off hk => by rw [hsz]; exact h.lt b off hk, h.okN, h.glob.mono he.rd, hos.trans h.os, htape.trans h.tape, hout.trans h.output, by rw [hsz]; exact h.size, fun k hk hf => ?_, h.gt⟩, he⟩
  · intro i x hi
    rcases split i x hi with ⟨rfl, rfl⟩ | ⟨hn, hx⟩
    · exact hob he
    · cases x with
      | dead => trivial
      | box cs fz => exact (h.objs i _ hx).mono he fun k hk => hg k (hne i _ k hn hx trivial hk)
      | arr e t xs fz => exact (h.objs i _ hx).mono he fun k hk => hg k (hne i _ k hn hx trivial hk)
  · intro i x hi; rw [List.length_set]; exact h.dom i x hi
  · intro o1 o2 ob1 ob2 k h1 h2 l1 l2 b1 b2
    rcases split o1 ob1 h1 with ⟨q1, k1⟩ | ⟨q1, k1⟩ <;> rcases split o2 ob2 h2 with ⟨q2, k2⟩ | ⟨q2, k2⟩
    · omega
    · subst q1; rw [hb] at b1; cases b1; exact (hne o2 _ _ q2 k2 l2 b2 rfl).elim
    · subst q2; rw [hb] at b2; cases b2; exact (hne o1 _ _ q1 k1 l1 b1 rfl).elim
    · exact h.dis o1 o2 ob1 ob2 k k1 k2 l1 l2 b1 b2
  · intro i x k off hi hlx hk hok
    rcases split i x hi with ⟨q, rfl⟩ | ⟨q, k1⟩
    · subst q; rw [hb] at hk; cases hk; exact hown off hok
    · exact h.own i x k off k1 hlx hk hok
  · intro i x k hi hlx hk
    rcases split i x hi with ⟨q, rfl⟩ | ⟨q, k1⟩
    · subst q; rw [hb] at hk; cases hk; exact h.old i ob b ho hl hb
    · exact h.old i x k k1 hlx hk
  · by_cases e : k = b
    · subst e
      rcases h.old o ob k ho hl hb with h1 | h1
      · omega
      · exact (hf h1).elim
    · exact (hg k e).trans (h.frame k hk hf)

/-- an object is let go -/
theorem MI.kill (h : MI C w0 Fp okA M ok L w) (o : Nat) : MI C w0 Fp okA M ok (L.set o .dead) w := by
  have split : ∀ (i : Nat) (x : Obj G.S), (L.set o .dead)[i]? = some x → x = .dead ∨ (i ≠ o ∧ L[i]? = some x) := by
    intro i x hi
    rw [List.getElem?_set] at hi
    by_cases e : o = i
    · subst e
      rw [if_pos rfl] at hi
      split at hi
      · exact .inl (Option.some.inj hi).symm
      · cases hi
    · rw [if_neg e] at hi; exact .inr ⟨fun h => e h.symm, hi⟩
  refine ⟨?_, ?_, ?_, ?_, ?_, h.rdA, h.lt, h.okN, h.glob, h.os, h.tape, h.output, h.size, h.frame, h.gt⟩
  · intro i x hi
    rcases split i x hi with rfl | ⟨_, hx⟩
    · trivial
    · exact h.objs i x hx
  · intro i x hi; rw [List.length_set]; exact h.dom i x hi
  · intro o1 o2 ob1 ob2 k h1 h2 l1 l2 b1 b2
    rcases split o1 ob1 h1 with rfl | ⟨_, k1⟩
    · exact l1.elim
    · rcases split o2 ob2 h2 with rfl | ⟨_, k2⟩
      · exact l2.elim
      · exact h.dis o1 o2 ob1 ob2 k k1 k2 l1 l2 b1 b2
  · intro i x k off hi hlx hk hok
    rcases split i x hi with rfl | ⟨_, k1⟩
    · exact hlx.elim
    · exact h.own i x k off k1 hlx hk hok
  · intro i x k hi hlx hk
    rcases split i x hi with rfl | ⟨_, k1⟩
    · exact hlx.elim
    · exact h.old i x k k1 hlx hk

/-- more may be read, where nobody owns -/
theorem MI.grow (h : MI C w0 Fp okA M ok L w) (N : Okc) (hos : w'.os = w.os) (htape : w'.tape = w.tape) (hout : w'.output = w.output) (hsz : w.heap.size ≤ w'.heap.size)
    (hg : ∀ k, k < w.heap.size → w'.heap[k]? = w.heap[k]?) (hN : ∀ b off, N b off → w.heap.size ≤ b ∧ b < w'.heap.size) :
    MI C w0 Fp okA M (fun b off => ok b off ∨ N b off) L w' ∧ Ex M ok w M (fun b off => ok b off ∨ N b off) w' := by
  have he : Ex M ok w M (fun b off => ok b off ∨ N b off) w' := ⟨fun _ _ h => h, fun b off u hb hc => ⟨.inl hb, by rw [cell_of_heap (hg b (h.lt b off hb))]; exact hc⟩⟩
  refine ⟨⟨?_, h.dom, h.dis, ?_, h.old, fun b off hb => .inl (h.rdA b off hb), ?_, ?_, h.glob.mono he.rd, hos.trans h.os, htape.trans h.tape, hout.trans h.output, Nat.le_trans h.size hsz, fun b hb hf => (hg b (Nat.lt_of_lt_of_le hb h.size)).trans (h.frame b hb hf), h.gt⟩, he⟩
  · intro i x hx
    cases x with
    | dead => trivial
    | box cs fz => exact (h.objs i _ hx).mono he fun k hk => hg k (h.blk_lt hx trivial hk)
    | arr e t xs fz => exact (h.objs i _ hx).mono he fun k hk => hg k (h.blk_lt hx trivial hk)
  · rintro i x k off hi hlx hk (hok | hok)
    · exact h.own i x k off hi hlx hk hok
    · have := h.blk_lt hi hlx hk; have := (hN k off hok).1; omega
  · rintro b off (hb | hb)
    · exact Nat.lt_of_lt_of_le (h.lt b off hb) hsz
    · exact (hN b off hb).2
  · rintro b off (hb | hb)
    · exact h.okN b off hb
    · exact .inr (.inl (Nat.le_trans h.size (hN b off hb).1))

end

end Go.Dv

namespace Go.Dv

open Go

section

variable {G : Sig} (C : Cfg G)

def OpOK (o : Oper) (st : St G.S) (v : V G.S) (st' : St G.S) : Prop :=
  st'.tm = st.tm ∧ st'.n0 = st.n0 ∧
  ∀ (w0 : World) (Fp : Nat → Prop) (okA : Okc) (M : Mem) (ok : Okc) (a : Act) (w : World), MI C w0 Fp okA M ok st.L w → TR w ok M st.tm a →
    ∀ (next : Act → World → Prop) (Q : Exit → Act → World → Prop),
      (∀ val w' M' ok', MI C w0 Fp okA M' ok' st'.L w' → Ex M ok w M' ok' w' → VR w' ok' M' v val → next (a.put o.dst val) w') → o.wp C.P a w next Q

variable {C}

theorem OpOK.pure {o : Oper} {st : St G.S} {v : V G.S}
    (h : ∀ (w0 : World) (Fp : Nat → Prop) (okA : Okc) (M : Mem) (ok : Okc) (a : Act) (w : World), MI C w0 Fp okA M ok st.L w → TR w ok M st.tm a →
      ∃ val, (execOp a.eval o).run C.P w = .ok (.value val) w ∧ VR w ok M v val) : OpOK C o st v st := by
  refine ⟨rfl, rfl, fun w0 Fp okA M ok a w hm ht next Q hk => ?_⟩
  obtain ⟨val, hr, hv⟩ := h w0 Fp okA M ok a w hm ht
  unfold Oper.wp
  rw [hr, Oper.upon_value]
  exact hk val w M ok hm (Ex.refl _ _ _) hv

section

variable {w0 : World} {Fp : Nat → Prop} {okA : Okc} {M : Mem} {ok : Okc} {st : St G.S} {a : Act} {w : World}

theorem ofConst_ok (t : TypeId) (v : Value) : VR w ok M (ofConst C t v) v := by
  unfold ofConst
  split
  · exact .int _ _
  · exact .lb _
  · exact .str _
  · split
    · split
      · exact .nil _ _
      · exact .un _
    · exact .un _
  · exact .nilp
  · exact .un _

theorem blt_add (g : Nat) : Nat.blt (g + 1000000) 1000000 = false :=
  Bool.eq_false_iff.2 fun h => by have := Nat.le_of_ble_eq_true (show Nat.ble (g + 1000000 + 1) 1000000 = true from h); omega

theorem fv_cells (f : Nat) (l : Array Value) : (fv f l).cells.toList = [fv f l] := by unfold fv; split <;> rfl

theorem fv_one (f : Nat) (l : Array Value) : (fv f l).oneCell' = true := by unfold fv; split <;> rfl

theorem opd_ok (hm : MI C w0 Fp okA M ok st.L w) (ht : TR w ok M st.tm a) (t : TypeId) (x : Operand) : VR w ok M (opd C st t x) (a.eval x) := by
  cases x with
  | tmp i => exact ht.get i
  | const v => exact ofConst_ok t v
  | global g =>
    simp only [opd, Act.eval]
    split
    · rename_i cs hg; exact hm.glob.1 g cs hg M
    · exact .un _
  | func f =>
    show VR w ok M (if Nat.blt f 1000000 then V.fn f [] else V.un) _
    split
    · rename_i hlt
      have := VR.fn (G := G) (w := w) (ok := ok) (M := M) f [] [] rfl (fun j y v h => by simp at h)
      simp only [fv, hlt, if_true] at this
      exact this
    · exact .un _

theorem opds_ok (hm : MI C w0 Fp okA M ok st.L w) (ht : TR w ok M st.tm a) : ∀ (ts : List TypeId) (xs : List Operand) (vs : List (V G.S)), opds C st ts xs = some vs → VRs w ok M vs (xs.map a.eval)
  | [], [], vs, h => by simp [opds] at h; subst h; exact .nil
  | t :: ts, x :: xs, vs, h => by
    simp only [opds] at h
    split at h
    · rename_i l hl
      cases h
      exact .cons (opd_ok hm ht t x) (opds_ok hm ht ts xs l hl)
    · cases h
  | [], _ :: _, vs, h => by simp [opds] at h
  | _ :: _, [], vs, h => by simp [opds] at h

theorem cellsL_ok {v : V G.S} {val : Value} {cs : List (V G.S)} (h : v.cellsL = some cs) (hv : VR w ok M v val) : VRs w ok M cs val.cells.toList := by
  cases hv with
  | st n x l hl hh => simp [V.cellsL] at h; subst h; exact ⟨by simpa [Value.cells] using hl, by simpa [Value.cells] using hh⟩
  | ag cs' l hl hh => simp [V.cellsL] at h; subst h; exact ⟨by simpa [Value.cells] using hl, by simpa [Value.cells] using hh⟩
  | un v => simp [V.cellsL] at h
  | tup => simp [V.cellsL] at h
  | int k n => simp [V.cellsL] at h; subst h; exact .sing (.int k n)
  | bool b => simp [V.cellsL] at h; subst h; exact .sing (.bool b)
  | lb b => simp [V.cellsL] at h; subst h; exact .sing (.lb b)
  | str b => simp [V.cellsL] at h; subst h; exact .sing (.str b)
  | sl0 t a c => simp [V.cellsL] at h; subst h; exact .sing (.sl0 t a c)
  | sl1 t xs b off c u hc h1 h2 => simp [V.cellsL] at h; subst h; exact .sing (.sl1 t xs b off c u hc h1 h2)
  | fn f cs' l hl hh => simp [V.cellsL] at h; subst h; rw [fv_cells]; exact .sing (.fn f cs' l hl hh)
  | pc cs' b off u h1 h2 => simp [V.cellsL] at h; subst h; exact .sing (.pc cs' b off u h1 h2)
  | nilp => simp [V.cellsL] at h; subst h; exact .sing .nilp
  | nil e t => simp [V.cellsL] at h; subst h; exact .sing (.nil e t)
  | ref o off b hh => simp [V.cellsL] at h; subst h; exact .sing (.ref o off b hh)
  | arr o a n c e sz hh => simp [V.cellsL] at h; subst h; exact .sing (.arr o a n c e sz hh)
  | pe o i off b n c e sz hh => simp [V.cellsL] at h; subst h; exact .sing (.pe o i off b n c e sz hh)

theorem one_ok {v : V G.S} {val : Value} (h : v.one = true) (hv : VR w ok M v val) : val.oneCell' = true := by
  cases hv <;> first | rfl | exact fv_one _ _ | (simp [V.one] at h)

theorem isAgg_run {t : TypeId} {b : Bool} (h : isAggT C t = some b) : (isAgg t).run C.P w = .ok b w := by
  unfold isAggT at h
  unfold isAgg
  split at h
  · rename_i fs hu; cases h; simp [run_underlying hu]
  · rename_i n e hu; cases h; simp [run_underlying hu]
  · rename_i d h1 h2 hu
    cases h
    cases d <;> simp [run_underlying hu] <;> first | exact (h1 _ rfl).elim | exact (h2 _ _ rfl).elim
  · cases h

theorem sizeT_run {t : TypeId} {n : Nat} (h : sizeT C t = some n) : (sizeOf t).run C.P w = .ok n w := by
  unfold sizeT at h
  cases hi : C.P.info? t with
  | none => simp [hi] at h
  | some i => simp [hi] at h; simp [sizeOf, typeInfo, hi, h]

theorem sizeT_info {t : TypeId} {n : Nat} (h : sizeT C t = some n) : ∃ i, C.P.info? t = some i ∧ i.size = n := by
  unfold sizeT at h
  cases hi : C.P.info? t with
  | none => simp [hi] at h
  | some i => exact ⟨i, rfl, by simpa [hi] using h⟩

theorem elemId_eq {t e : TypeId} (h : elemId C t = some e) : C.P.underlying t = some (.slice e) := by
  unfold elemId at h
  split at h
  · rename_i e' hu; cases h; exact hu
  · cases h

/-- a part of cells, read in memory -/
theorem partV_load {t : TypeId} {cs : List (V G.S)} {v : V G.S} (h : partV C t cs = some v) {b off : Nat} {u : Nat → Value}
    (h1 : ∀ j y, cs[j]? = some y → w.cell? ⟨b, off + j, none⟩ = some (u j)) (h2 : ∀ j y, cs[j]? = some y → VR w ok M y (u j)) :
    ∃ val, (loadVar t ⟨b, off, none⟩).run C.P w = .ok val w ∧ VR w ok M v val := by
  unfold partV at h
  split at h
  · rename_i n ha hs
    split at h
    · rename_i hn
      cases h
      have hl : (loadCells ⟨b, off, none⟩ n).run C.P w = .ok ((List.range n).map u).toArray w := by
        have := run_loadCells_list (P := C.P) w ⟨b, off, none⟩ ((List.range n).map u) (fun j v hj => by
          rw [List.getElem?_map] at hj
          cases hr : (List.range n)[j]? with
          | none => rw [hr] at hj; cases hj
          | some i =>
            rw [hr] at hj
            have hlt : j < n := by have := (List.getElem?_eq_some_iff.1 hr).1; simpa using this
            rw [List.getElem?_range hlt] at hr
            cases hr
            cases hj
            have hc : j < cs.length := by omega
            have := h1 j cs[j] (List.getElem?_eq_getElem hc)
            simpa [Addr.add_lit] using this)
        simpa using this
      refine ⟨.agg ((List.range n).map u).toArray, by simp [loadVar, isAgg_run ha, sizeT_run hs, hl], .ag _ _ (by simp; omega) fun j y v hj hv => ?_⟩
      rw [List.getElem?_take] at hj
      split at hj
      · rename_i hlt
        rw [List.getElem?_map, List.getElem?_range hlt] at hv
        cases hv
        exact h2 j y hj
      · cases hj
    · cases h
  · rename_i ha
    cases cs with
    | nil => cases h
    | cons c r =>
      cases h
      have e1 := h1 0 v rfl
      exact ⟨u 0, by simp [loadVar, isAgg_run ha, run_load, show w.cell? ⟨b, off, none⟩ = some (u 0) by simpa using e1], h2 0 v rfl⟩
  · cases h

theorem partV_part {t : TypeId} {cs : List (V G.S)} {v : V G.S} {l : List Value} {off : Nat} (h : partV C t (cs.drop off) = some v) (hv : VRs w ok M cs l) :
    ∃ val, (Go.part t l.toArray off).run C.P w = .ok val w ∧ VR w ok M v val := by
  unfold partV at h
  split at h
  · rename_i n ha hs
    split at h
    · rename_i hn
      cases h
      have hk := (hv.drop off).take n
      refine ⟨.agg ((l.drop off).take n).toArray, ?_, .ag _ _ hk.1 hk.2⟩
      simp [Go.part, isAgg_run ha, sizeT_run hs]
    · cases h
  · rename_i ha
    rw [List.head?_eq_getElem?, List.getElem?_drop] at h
    obtain ⟨val, h1, h2⟩ := hv.get h
    refine ⟨val, ?_, h2⟩
    simp only [Nat.add_zero] at h1
    simp [Go.part, isAgg_run ha, h1]
  · cases h

end

end

end Go.Dv

namespace Go.Dv

open Go

section

variable {G : Sig} {C : Cfg G} {Φ : FuncId → List Item → St G.S → Option (Ret G.S)} {f : FuncId} {r : Ret G.S}

theorem run_bnd {α : Type} {o : Option α} {k : α → Tree G.S} (h : (Tree.bnd o k).run G Φ f = some r) : ∃ x, o = some x ∧ (k x).run G Φ f = some r := by
  simp only [Tree.run] at h
  cases o with
  | none => cases h
  | some x => exact ⟨x, rfl, h⟩

theorem run_fail {n : Nat} {p : Prop} (h : (Tree.fail n : Tree G.S).run G Φ f = some r) : p := by cases h

theorem run_br {b : Bool} {t e : Tree G.S} (h : (Tree.br b t e).run G Φ f = some r) : (b = true ∧ t.run G Φ f = some r) ∨ (b = false ∧ e.run G Φ f = some r) := by
  simp only [Tree.run] at h
  cases b with
  | true => rw [if_pos rfl] at h; exact .inl ⟨rfl, h⟩
  | false => rw [if_neg (by decide)] at h; exact .inr ⟨rfl, h⟩

/-- what an expression of the evaluator stands for in the machine -/
theorem asB_run {b : V G.S} {k : Bool → Tree G.S} (h : (asB b k).run G Φ f = some r) :
    ∃ t, (∀ w ok M val, VR (G := G) w ok M b val → val = .bool t) ∧ (k t).run G Φ f = some r := by
  unfold asB at h
  split at h
  · rename_i b; exact ⟨b, fun w ok M val hv => by cases hv; rfl, h⟩
  · rename_i b
    rcases run_br h with ⟨rfl, h⟩ | ⟨rfl, h⟩
    · exact ⟨true, fun w ok M val hv => by cases hv; rfl, h⟩
    · exact ⟨false, fun w ok M val hv => by cases hv; rfl, h⟩
  · exact run_fail h

theorem data_append (a b : ByteArray) : (a ++ b).data.toList = a.data.toList ++ b.data.toList := by
  rw [ByteArray.data_append]; simp

theorem eqB_ok {x y : V G.S} {b : Bool} (h : eqB x y = some b) {w : World} {ok : Okc} {M : Mem} {vx vy : Value} (hx : VR w ok M x vx) (hy : VR w ok M y vy) : ∃ m n, vx = .bool m ∧ vy = .bool n ∧ b = (m == n) := by
  unfold eqB at h
  split at h <;> first
    | (cases h; cases hx; cases hy; exact ⟨_, _, rfl, rfl, rfl⟩)
    | cases h

theorem eqT_ok {t : TypeId} {x y : V G.S} {b : Bool} (h : eqT C t x y = some b) {w : World} {ok : Okc} {M : Mem} {vx vy : Value} (hx : VR w ok M x vx) (hy : VR w ok M y vy) (d : Nat) :
    (Op.equalIn (d + 1) t vx vy).run C.P w = .ok b w ∧ vx.oneCell' = true ∧ vx ≠ .nilIface := by
  unfold eqT at h
  split at h
  · rename_i k0 hu
    split at h
    · split at h
      · rename_i k m k' n hk; subst hk; cases h; cases hx; cases hy
        exact ⟨run_equalIn_int w d t _ _ _ _ hu, rfl, by simp⟩
      · cases h
    · cases h
  · rename_i hu
    obtain ⟨m, n, rfl, rfl, rfl⟩ := eqB_ok h hx hy
    exact ⟨run_equalIn_bool' w d t _ _ hu, rfl, by simp⟩
  · rename_i hu
    split at h
    · cases h; cases hx; cases hy
      refine ⟨?_, rfl, by simp⟩
      rw [run_equalIn_string w d t _ _ hu, ByteArray.toList_eq, ByteArray.toList_eq]
    · cases h
  · cases h

theorem eqFs_ok {w : World} {ok : Okc} {M : Mem} (d : Nat) : ∀ (fs : List Field) (i : Nat) (a b : List (V G.S)) (q : Bool) (la lb : List Value), eqFs C fs i a b = some q →
    VRs w ok M a (la.drop i) → VRs w ok M b (lb.drop i) → (Op.eqFields (d + 1) la.toArray lb.toArray fs).run C.P w = .ok q w
  | [], i, [], [], q, la, lb, h, _, _ => by simp [eqFs] at h; subst h; simp [Op.eqFields]
  | fd :: r, i, x :: a, y :: b, q, la, lb, h, ha, hb => by
    simp only [eqFs] at h
    split at h
    · rename_i hc
      obtain ⟨hn, hof⟩ := hc
      split at h
      · rename_i p hp
        split at h
        · rename_i q' hq
          cases h
          obtain ⟨v, l1, e1, hv, h1⟩ := ha.inv
          obtain ⟨u, l2, e2, hu, h2⟩ := hb.inv
          have p1 : la[i]? = some v := by have := congrArg (·[0]?) e1; simpa [List.getElem?_drop] using this
          have p2 : lb[i]? = some u := by have := congrArg (·[0]?) e2; simpa [List.getElem?_drop] using this
          have d1 : la.drop (i + 1) = l1 := by have := congrArg List.tail e1; simpa [List.tail_drop] using this
          have d2 : lb.drop (i + 1) = l2 := by have := congrArg List.tail e2; simpa [List.tail_drop] using this
          obtain ⟨heq, _, _⟩ := eqT_ok hp hv hu d
          have ih := eqFs_ok d r (i + 1) a b q' la lb hq (by rw [d1]; exact h1) (by rw [d2]; exact h2)
          have hag : isAggT C fd.type = some false := by
            unfold eqT at hp
            unfold isAggT
            split at hp <;> simp_all
          have q1 : (Go.part fd.type la.toArray fd.offset).run C.P w = .ok v w := by simp [Go.part, isAgg_run hag, hof, p1]
          have q2 : (Go.part fd.type lb.toArray fd.offset).run C.P w = .ok u w := by simp [Go.part, isAgg_run hag, hof, p2]
          simp only [Op.eqFields, hn, ne_eq, not_false_eq_true, if_true, Sem.run_bind, q1, q2, Result.andThen_ok, heq]
          cases p with
          | true => simpa using ih
          | false => simp
        · cases h
      · cases h
    · cases h
  | [], i, _ :: _, _, q, la, lb, h, _, _ => by simp [eqFs] at h
  | [], i, [], _ :: _, q, la, lb, h, _, _ => by simp [eqFs] at h
  | _ :: _, i, [], _, q, la, lb, h, _, _ => by simp [eqFs] at h
  | _ :: _, i, _ :: _, [], q, la, lb, h, _, _ => by simp [eqFs] at h

theorem eqS_ok {t : TypeId} {x y : V G.S} {b : Bool} (h : eqS C t x y = some b) (hx' : isAg x = true) (hy' : isAg y = true) {w : World} {ok : Okc} {M : Mem} {vx vy : Value} (hx : VR w ok M x vx) (hy : VR w ok M y vy) :
    ∃ la lb, vx = .agg la ∧ vy = .agg lb ∧ C.P.eqGuardType C.P.depth t = false ∧ (Op.equalIn 10000 t vx vy).run C.P w = .ok b w := by
  unfold eqS at h
  split at h
  · rename_i fs hu
    split at h
    · rename_i hc
      split at h
      · rename_i a b' hca hcb
        have h1 := cellsL_ok hca hx
        have h2 := cellsL_ok hcb hy
        have e1 : ∃ la : List Value, vx = .agg la.toArray := by cases hx <;> first | exact ⟨_, rfl⟩ | (simp [isAg] at hx')
        have e2 : ∃ lb : List Value, vy = .agg lb.toArray := by cases hy <;> first | exact ⟨_, rfl⟩ | (simp [isAg] at hy')
        obtain ⟨la, rfl⟩ := e1
        obtain ⟨lb, rfl⟩ := e2
        refine ⟨_, _, rfl, rfl, hc.1, ?_⟩
        have hf : C.P.fieldsOf t = fs := by simp [Program.fieldsOf, hu]
        rw [show (10000 : Nat) = 9999 + 1 from rfl, run_equalIn_struct w 9999 t _ _ (by rw [hf]; exact hu) hc.2, hf]
        exact eqFs_ok 9998 fs.toList 0 a b' b la lb h (by simpa [Value.cells] using h1) (by simpa [Value.cells] using h2)
      · cases h
    · cases h
  · cases h

theorem eqGuard_one {P : Program} {w : World} (op : BinOp) (t : TypeId) (x y : Operand) (a b : Value) (h1 : a ≠ .nilIface) (h2 : a.oneCell' = true) : (eqGuard op t x y a b).run P w = .ok () w := by
  unfold eqGuard
  cases op <;> simp
  all_goals (split <;> simp_all [Value.oneCell'])

theorem eqT_bin {t : TypeId} {x y : V G.S} {b : Bool} (h : eqT C t x y = some b) {w : World} {ok : Okc} {M : Mem} {vx vy : Value} (hx : VR w ok M x vx) (hy : VR w ok M y vy) :
    (binOp .eql t vx vy).run C.P w = .ok (.bool b) w ∧ (binOp .neq t vx vy).run C.P w = .ok (.bool !b) w := by
  have he := eqT_ok h hx hy 9999
  unfold eqT at h
  split at h
  · split at h
    · split at h
      · rename_i k m k' n hk; subst hk; cases h; cases hx; cases hy
        simp only [binOp, ne_eq, not_true, if_false, Op.intCmp]
        exact ⟨rfl, rfl⟩
      · cases h
    · cases h
  · rename_i hu
    obtain ⟨m, n, rfl, rfl, rfl⟩ := eqB_ok h hx hy
    have h1 := he.1
    simp only [show (9999 + 1 : Nat) = Op.maxDepth from rfl] at h1
    exact ⟨by simp [binOp, Op.equal, h1], by simp [binOp, Op.equal, h1]⟩
  · split at h
    · cases h; cases hx; cases hy
      exact ⟨by simp [binOp, Op.stringOp, ByteArray.toList_eq], by simp [binOp, Op.stringOp, ByteArray.toList_eq]⟩
    · cases h
  · cases h

/-- an operation on values -/
def BinOK (C : Cfg G) (t : TypeId) (op : BinOp) (x y v : V G.S) : Prop :=
  ∀ (w : World) (ok : Okc) (M : Mem) (vx vy : Value) (xo yo : Operand), VR w ok M x vx → VR w ok M y vy →
    ∃ val, (do eqGuard op t xo yo vx vy; binOp op t vx vy : Sem Value).run C.P w = .ok val w ∧ VR w ok M v val

theorem bin_int {t : TypeId} {op : BinOp} {kx ky : IntKind} {a b : Int} {v : V G.S} (h : ∀ w ok M, ∃ val, (binOp op t (.int kx a) (.int ky b)).run C.P w = .ok val w ∧ VR (G := G) w ok M v val) : BinOK C t op (.int kx a) (.int ky b) v := by
  intro w ok M vx vy xo yo hx hy
  cases hx; cases hy
  obtain ⟨val, h1, h2⟩ := h w ok M
  refine ⟨val, ?_, h2⟩
  simp only [Sem.run_bind, eqGuard_one op t xo yo (.int kx a) (.int ky b) (by simp) rfl, Result.andThen_ok]
  exact h1

theorem bin_str {t : TypeId} {op : BinOp} {a b : List UInt8} {v : V G.S} (h : ∀ w ok M (x y : ByteArray), x.data.toList = a → y.data.toList = b → ∃ val, (binOp op t (.string x) (.string y)).run C.P w = .ok val w ∧ VR (G := G) w ok M v val) : BinOK C t op (.str a) (.str b) v := by
  intro w ok M vx vy xo yo hx hy
  cases hx; cases hy
  obtain ⟨val, h1, h2⟩ := h w ok M _ _ rfl rfl
  refine ⟨val, ?_, h2⟩
  simp only [Sem.run_bind, eqGuard_one op t xo yo (.string _) (.string _) (by simp) rfl, Result.andThen_ok]
  exact h1

theorem binV_run {t : TypeId} {op : BinOp} {x y : V G.S} {k : V G.S → Tree G.S} (h : (binV C t op x y k).run G Φ f = some r) :
    ∃ v, BinOK C t op x y v ∧ (k v).run G Φ f = some r := by
  unfold binV at h
  split at h
  · rename_i kx a ky b
    split at h
    · obtain ⟨q, hq, h⟩ := run_bnd h
      refine ⟨_, bin_int fun w ok M => ⟨.int kx q, ?_, .int _ _⟩, h⟩
      unfold shl at hq
      split at hq
      · cases hq
      · rename_i hn; cases hq; simp [binOp, Op.shift, hn]
    · obtain ⟨q, hq, h⟩ := run_bnd h
      refine ⟨_, bin_int fun w ok M => ⟨.int kx q, ?_, .int _ _⟩, h⟩
      unfold shr at hq
      split at hq
      · cases hq
      · rename_i hn; cases hq; simp [binOp, Op.shift, hn]
    · split at h
      · rename_i hk
        subst hk
        split at h
        case h_4 =>
          obtain ⟨q, hq, h⟩ := run_bnd h
          refine ⟨_, bin_int fun w ok M => ⟨.int kx q, ?_, .int _ _⟩, h⟩
          unfold quo at hq
          split at hq
          · cases hq
          · rename_i hn; cases hq; simp [binOp, Op.intDiv, hn]
        case h_5 =>
          obtain ⟨q, hq, h⟩ := run_bnd h
          refine ⟨_, bin_int fun w ok M => ⟨.int kx q, ?_, .int _ _⟩, h⟩
          unfold rem at hq
          split at hq
          · cases hq
          · rename_i hn; cases hq; simp [binOp, Op.intDiv, hn]
        all_goals first
          | (refine ⟨_, bin_int fun w ok M => ⟨_, ?_, .int _ _⟩, h⟩; simp [binOp, Op.intArith, Op.intBits, bitsOp]; done)
          | (refine ⟨_, bin_int fun w ok M => ⟨_, ?_, .bool _⟩, h⟩; simp [binOp, Op.intCmp]; done)
          | exact run_fail h
      · exact run_fail h
  · rename_i a b
    split at h
    case h_1 =>
      obtain ⟨q, hq, h⟩ := run_bnd h
      unfold app at hq
      split at hq
      · rename_i hlen
        cases hq
        refine ⟨_, bin_str fun w ok M x y hx hy => ⟨.string (x ++ y), ?_, ?_⟩, h⟩
        · have hs : ¬ (9223372036854775807 < (x.size : Int) + (y.size : Int)) := by
            have h1 : x.size = a.length := by rw [← hx, Array.length_toList]; rfl
            have h2 : y.size = b.length := by rw [← hy, Array.length_toList]; rfl
            unfold big at hlen; omega
          simp [binOp, Op.stringOp, hs]
        · rw [← hx, ← hy, ← data_append]; exact .str _
      · cases hq
    all_goals first
      | (refine ⟨_, bin_str fun w ok M x y hx hy => ⟨_, ?_, .bool _⟩, h⟩; rw [← hx, ← hy]; simp [binOp, Op.stringOp, ByteArray.toList_eq]; done)
      | exact run_fail h
  · split at h
    · rename_i hag
      simp only [Bool.and_eq_true] at hag
      split at h
      · split at h
        · rename_i b hb
          refine ⟨_, fun w ok M vx vy xo yo hx hy => ?_, h⟩
          obtain ⟨la, lb, rfl, rfl, hg, he⟩ := eqS_ok hb hag.1 hag.2 hx hy
          refine ⟨.bool b, ?_, .bool _⟩
          simp only [Sem.run_bind, run_eqGuard_agg w _ t xo yo la lb hg, Result.andThen_ok, run_eql_struct, he]
        · exact run_fail h
      · split at h
        · rename_i b hb
          refine ⟨_, fun w ok M vx vy xo yo hx hy => ?_, h⟩
          obtain ⟨la, lb, rfl, rfl, hg, he⟩ := eqS_ok hb hag.1 hag.2 hx hy
          refine ⟨.bool !b, ?_, .bool _⟩
          simp only [Sem.run_bind, run_eqGuard_agg w _ t xo yo la lb hg, Result.andThen_ok, run_neq_struct, he]
        · exact run_fail h
      · exact run_fail h
    · split at h
      · split at h
        · rename_i b hb
          refine ⟨_, fun w ok M vx vy xo yo hx hy => ?_, h⟩
          obtain ⟨he, h1, h2⟩ := eqT_ok hb hx hy 9999
          refine ⟨.bool b, ?_, .bool _⟩
          simp only [Sem.run_bind, eqGuard_one _ t xo yo vx vy h2 h1, Result.andThen_ok]
          exact (eqT_bin hb hx hy).1
        · exact run_fail h
      · split at h
        · rename_i b hb
          refine ⟨_, fun w ok M vx vy xo yo hx hy => ?_, h⟩
          obtain ⟨he, h1, h2⟩ := eqT_ok hb hx hy 9999
          refine ⟨.bool !b, ?_, .bool _⟩
          simp only [Sem.run_bind, eqGuard_one _ t xo yo vx vy h2 h1, Result.andThen_ok]
          exact (eqT_bin hb hx hy).2
        · exact run_fail h
      · exact run_fail h

end

end Go.Dv

namespace Go.Dv

open Go

section

variable {G : Sig} {C : Cfg G}

theorem cells_len (hS : SigOk G) (t : Ty) (x : t.den G.S) : (Ty.cells G t x).length = Ty.sz G t := by
  cases t <;> first | rfl | exact hS.len _ _

theorem scal_one {v : V G.S} (h : v.scal = true) : v.one = true := by cases v <;> first | rfl | cases h

theorem cells_one (hS : SigOk G) (t : Ty) (x : t.den G.S) : (Ty.cells G t x).all V.one = true := by
  cases t with
  | st n =>
    have := hS.imm n x
    rw [List.all_eq_true] at this ⊢
    exact fun v hv => scal_one (this v hv)
  | _ => rfl

/-- a value without own parts means the same whatever the map of own objects -/
theorem VR.anyS (hS : SigOk G) {w : World} {ok : Okc} {M : Mem} {y : V G.S} {v : Value} (h : VR w ok M y v) (M2 : Mem) : y.scal = true → VR w ok M2 y v := by
  induction h with
  | int k n => exact fun _ => .int k n
  | bool b => exact fun _ => .bool b
  | str b => exact fun _ => .str b
  | sl0 t a c => exact fun _ => .sl0 t a c
  | sl1 t xs b off c u hc h1 h2 ih =>
    intro hs
    refine .sl1 t xs b off c u hc h1 fun i x j y hi hj => ih i x j y hi hj ?_
    have hnp : t.np = true := hs
    cases t with
    | st n => have := hS.imm n x; rw [List.all_eq_true] at this; exact this y (List.mem_of_getElem? hj)
    | ptr t => cases hnp
    | sl t => simp only [Ty.cells] at hj; cases j with
      | zero => simp at hj; subst hj; exact hnp
      | succ j => simp at hj
    | int k => simp only [Ty.cells] at hj; cases j with
      | zero => simp at hj; subst hj; rfl
      | succ j => simp at hj
    | bool => simp only [Ty.cells] at hj; cases j with
      | zero => simp at hj; subst hj; rfl
      | succ j => simp at hj
    | str => simp only [Ty.cells] at hj; cases j with
      | zero => simp at hj; subst hj; rfl
      | succ j => simp at hj
  | _ => exact fun h => by cases h

theorem VR.anyM (hS : SigOk G) {w : World} {ok : Okc} {M : Mem} {y : V G.S} {v : Value} (h : VR w ok M y v) (M2 : Mem) : ∀ n, y.clo n = true → VR w ok M2 y v := by
  induction h with
  | int k n => exact fun _ _ => .int k n
  | bool b => exact fun _ _ => .bool b
  | lb b => exact fun _ _ => .lb b
  | str b => exact fun _ _ => .str b
  | sl0 t a c => exact fun _ _ => .sl0 t a c
  | sl1 t xs b off c u hc h1 h2 ih =>
    intro n hn
    cases n with
    | zero => cases hn
    | succ n => exact VR.anyS hS (.sl1 t xs b off c u hc h1 h2) M2 hn
  | st n x l hl h ih =>
    refine fun _ _ => .st n x l hl fun j y v hj hv => VR.anyS hS (h j y v hj hv) M2 ?_
    have := hS.imm n x; rw [List.all_eq_true] at this; exact this y (List.mem_of_getElem? hj)
  | ag cs l hl h ih =>
    intro n hn
    cases n with
    | zero => cases hn
    | succ n => have hn : cs.all (V.clo n) = true := hn
                rw [List.all_eq_true] at hn
                exact .ag cs l hl fun j y v hj hv => ih j y v hj hv n (hn y (List.mem_of_getElem? hj))
  | tup cs l hl h ih =>
    intro n hn
    cases n with
    | zero => cases hn
    | succ n => have hn : cs.all (V.clo n) = true := hn
                rw [List.all_eq_true] at hn
                exact .tup cs l hl fun j y v hj hv => ih j y v hj hv n (hn y (List.mem_of_getElem? hj))
  | fn f cs l hl h ih =>
    intro n hn
    cases n with
    | zero => cases hn
    | succ n => have hn : cs.all (V.clo n) = true := hn
                rw [List.all_eq_true] at hn
                exact .fn f cs l hl fun j y v hj hv => ih j y v hj hv n (hn y (List.mem_of_getElem? hj))
  | pc cs b off u h1 h2 ih =>
    intro n hn
    cases n with
    | zero => cases hn
    | succ n => have hn : cs.all (V.clo n) = true := hn
                rw [List.all_eq_true] at hn
                exact .pc cs b off u h1 fun j y hj => ih j y hj n (hn y (List.mem_of_getElem? hj))
  | nilp => exact fun _ _ => .nilp
  | nil e t => exact fun _ _ => .nil e t
  | un v => intro n hn; cases n <;> cases hn
  | ref o off b h => intro n hn; cases n <;> cases hn
  | arr o a n c e sz h => intro n hn; cases n <;> cases hn
  | pe o i off b n c e sz h => intro n hn; cases n <;> cases hn

variable {w0 : World} {Fp : Nat → Prop} {okA : Okc} {M : Mem} {ok : Okc} {L : List (Obj G.S)} {w : World}

/-- a slice value that reads as a list: its cells in memory -/
structure Rd (G : Sig) (w : World) (ok : Okc) (M : Mem) (t : Ty) (ys : List (t.den G.S)) (v : Value) where
  a : Option Addr
  c : Nat
  us : List Value
  val : v = .slice a ys.length c
  len : us.length = ys.length * Ty.sz G t
  cell : ∀ j u, us[j]? = some u → ∃ ad, a = some ad ∧ w.cell? (ad.add j) = some u
  one : ∀ u ∈ us, u.oneCell' = true
  el : ∀ (i : Nat) (x : t.den G.S) (j : Nat) (y : V G.S) (u : Value), ys[i]? = some x → (Ty.cells G t x)[j]? = some y → us[i * Ty.sz G t + j]? = some u → VR w ok M y u

theorem el_one (hS : SigOk G) {t : Ty} {ys : List (t.den G.S)} {us : List Value} (hl : us.length = ys.length * Ty.sz G t)
    (el : ∀ (i : Nat) (x : t.den G.S) (j : Nat) (y : V G.S) (u : Value), ys[i]? = some x → (Ty.cells G t x)[j]? = some y → us[i * Ty.sz G t + j]? = some u → VR w ok M y u) : ∀ u ∈ us, u.oneCell' = true := by
  intro u hu
  obtain ⟨p, hp⟩ := List.mem_iff_getElem?.1 hu
  have hlt : p < us.length := (List.getElem?_eq_some_iff.1 hp).1
  rw [hl] at hlt
  have hz : 0 < Ty.sz G t := by
    rcases Nat.eq_zero_or_pos (Ty.sz G t) with h | h
    · rw [h] at hlt; simp at hlt
    · exact h
  have hi : p / Ty.sz G t < ys.length := by rw [Nat.div_lt_iff_lt_mul hz]; omega
  have hj : p % Ty.sz G t < Ty.sz G t := Nat.mod_lt _ hz
  have e : p / Ty.sz G t * Ty.sz G t + p % Ty.sz G t = p := by rw [Nat.mul_comm]; exact Nat.div_add_mod p _
  have hy : (Ty.cells G t ys[p / Ty.sz G t])[p % Ty.sz G t]? = some ((Ty.cells G t ys[p / Ty.sz G t])[p % Ty.sz G t]'(by rw [cells_len hS]; exact hj)) := List.getElem?_eq_getElem _
  have h1 := el _ _ _ _ u (List.getElem?_eq_getElem hi) hy (by rw [e]; exact hp)
  have h2 := cells_one hS t ys[p / Ty.sz G t]
  rw [List.all_eq_true] at h2
  exact one_ok (h2 _ (List.getElem_mem _)) h1

theorem addr_add (b off j : Nat) : (⟨b, off, none⟩ : Addr).add j = ⟨b, off + j, none⟩ := by
  unfold Addr.add
  split
  · subst_vars; rfl
  · rfl

theorem rd_sl (hS : SigOk G) {t : Ty} {xs : List (t.den G.S)} {v : Value} (h : VR (G := G) w ok M (.sl t xs) v) : Nonempty (Rd G w ok M t xs v) := by
  cases h with
  | sl0 _ a c => exact ⟨⟨a, c, [], rfl, by simp, fun j u h => by simp at h, fun u h => by simp at h, fun i x j y u h => by simp at h⟩⟩
  | sl1 _ _ b off c u hc h1 h2 =>
    have hz : Ty.sz G t = 0 ∨ 0 < Ty.sz G t := Nat.eq_zero_or_pos _
    have get : ∀ p v, ((List.range (xs.length * Ty.sz G t)).map (fun p => u (p / Ty.sz G t) (p % Ty.sz G t)))[p]? = some v → p < xs.length * Ty.sz G t ∧ v = u (p / Ty.sz G t) (p % Ty.sz G t) := by
      intro p v hp
      rw [List.getElem?_map] at hp
      have hlt : p < xs.length * Ty.sz G t := by
        rcases Nat.lt_or_ge p (xs.length * Ty.sz G t) with h | h
        · exact h
        · rw [List.getElem?_eq_none (by simpa using h)] at hp; cases hp
      rw [List.getElem?_range hlt] at hp
      exact ⟨hlt, (Option.some.inj hp).symm⟩
    have el : ∀ (i : Nat) (x : t.den G.S) (j : Nat) (y : V G.S) (v : Value), xs[i]? = some x → (Ty.cells G t x)[j]? = some y → ((List.range (xs.length * Ty.sz G t)).map (fun p => u (p / Ty.sz G t) (p % Ty.sz G t)))[i * Ty.sz G t + j]? = some v → VR w ok M y v := by
      intro i x j y v hi hj hv
      obtain ⟨hlt, rfl⟩ := get _ _ hv
      have hjl : j < Ty.sz G t := by have := (List.getElem?_eq_some_iff.1 hj).1; rw [cells_len hS] at this; exact this
      have e1 : (i * Ty.sz G t + j) / Ty.sz G t = i := by
        rw [Nat.mul_comm, Nat.mul_add_div (by omega)]; simp [Nat.div_eq_of_lt hjl]
      have e2 : (i * Ty.sz G t + j) % Ty.sz G t = j := by
        rw [Nat.mul_comm, Nat.mul_add_mod]; exact Nat.mod_eq_of_lt hjl
      rw [e1, e2]
      exact h2 i x j y hi hj
    refine ⟨⟨some ⟨b, off, none⟩, c, (List.range (xs.length * Ty.sz G t)).map (fun p => u (p / Ty.sz G t) (p % Ty.sz G t)), rfl, by simp, ?_, el_one hS (by simp) el, el⟩⟩
    intro j v hj
    obtain ⟨hlt, rfl⟩ := get _ _ hj
    have hz : 0 < Ty.sz G t := by
      rcases Nat.eq_zero_or_pos (Ty.sz G t) with h | h
      · rw [h] at hlt; simp at hlt
      · exact h
    have hi : j / Ty.sz G t < xs.length := by rw [Nat.div_lt_iff_lt_mul hz]; omega
    have hjl : j % Ty.sz G t < (Ty.cells G t xs[j / Ty.sz G t]).length := by rw [cells_len hS]; exact Nat.mod_lt _ hz
    have e : j / Ty.sz G t * Ty.sz G t + j % Ty.sz G t = j := by rw [Nat.mul_comm]; exact Nat.div_add_mod j _
    refine ⟨_, rfl, ?_⟩
    have := (h1 _ _ _ _ (List.getElem?_eq_getElem hi) (List.getElem?_eq_getElem hjl)).1
    rw [addr_add]
    rw [e] at this
    exact this

theorem rd_arr (hS : SigOk G) (hm : MI C w0 Fp okA M ok L w) {o : Nat} {e : TypeId} {t : Ty} {xs : List (t.den G.S)} {fz : Bool} (ho : L[o]? = some (.arr e t xs fz)) {v : Value} (h : VR (G := G) w ok M (.arr o) v) :
    ∃ r : Rd G w ok M t xs v, M o = some (.arr r.a xs.length r.c e (Ty.sz G t)) ∧ w.ownsRow 0 e (Ty.sz G t) v xs.length r.us := by
  obtain ⟨a, c, us, hM, hown, hz, el⟩ := hm.objs o _ ho
  cases h with
  | arr _ a' n' c' e' sz' h' =>
    rw [hM] at h'
    cases h'
    refine ⟨⟨a, c, us, rfl, hown.1, fun j u hj => ?_, el_one hS hown.1 el, el⟩, hM, hown⟩
    cases a with
    | none =>
      rcases hown.2 with ⟨h1, h2⟩ | ⟨g, cap, cur, h1, _⟩
      · have h3 := hown.1; rw [h2] at h3; simp at h3; subst h3; simp at hj
      · simp at h1
    | some ad =>
      refine ⟨ad, rfl, ?_⟩
      rcases hown.2 with ⟨h1, h2⟩ | ⟨g, cap, cur, h1, _⟩
      · simp at h1
      · simp only [Value.slice.injEq, Option.some.injEq, true_and] at h1
        have := hown.cells (g := g) (by simp [Value.ownBlock, h1.1]) j u hj
        rw [h1.1]; exact this

theorem prj_sl_eq (t : Ty) (v : V G.S) : prj G (.sl t) v = (match v with
    | .sl t' xs => if h : t' = t then some (h ▸ xs) else none
    | .nil _ _ => some []
    | _ => none : Option (List (t.den G.S))) := rfl

theorem prj_sl {t : Ty} {v : V G.S} {ys : List (t.den G.S)} (h : prj G (.sl t) v = some ys) : v = .sl t ys ∨ (∃ e t', v = .nil e t' ∧ ys = []) := by
  rw [prj_sl_eq] at h
  split at h
  · rename_i t' xs
    split at h
    · rename_i ht; subst ht; cases h; exact .inl rfl
    · cases h
  · rename_i e t'; cases h; exact .inr ⟨e, t', rfl, rfl⟩
  · cases h

theorem ysOf_cases {t : Ty} {x : V G.S} {ys : List (t.den G.S)} (h : ysOf L t x = some ys) : (∃ o e fz, x = .arr o ∧ L[o]? = some (.arr e t ys fz)) ∨ x = .sl t ys ∨ (∃ e t', x = .nil e t' ∧ ys = []) := by
  unfold ysOf at h
  have h0 := prj_sl h
  cases x with
  | arr o =>
    have e : snap L 1 (.arr o) = (match L[o]? with
      | some (.arr _ t xs _) => some (V.sl t xs)
      | _ => none) := rfl
    rw [e] at h0
    cases ho : L[o]? with
    | none => rw [ho] at h0; rcases h0 with h0 | ⟨_, _, h0, _⟩ <;> cases h0
    | some ob =>
      rw [ho] at h0
      cases ob with
      | arr e t' xs fz =>
        rcases h0 with h0 | ⟨_, _, h0, _⟩
        · cases h0; exact .inl ⟨o, e, fz, rfl, ho⟩
        · cases h0
      | box cs fz => rcases h0 with h0 | ⟨_, _, h0, _⟩ <;> cases h0
      | dead => rcases h0 with h0 | ⟨_, _, h0, _⟩ <;> cases h0
  | sl t' xs => exact .inr (.inl (by rcases h0 with h0 | ⟨_, _, h0, _⟩ <;> first | exact h0 | cases h0))
  | nil e t' => rcases h0 with h0 | ⟨_, _, h0, h1⟩
                · cases h0
                · cases h0; exact .inr (.inr ⟨_, _, rfl, h1⟩)
  | ref o off =>
    have e : snap L 1 (.ref o off) = (match L[o]? with
      | some (.box cs _) => (mapO (snap L 0) (cs.drop off)).map V.pc
      | _ => none) := rfl
    rw [e] at h0
    exfalso
    cases ho : L[o]? with
    | none => rw [ho] at h0; rcases h0 with h0 | ⟨_, _, h0, _⟩ <;> cases h0
    | some ob =>
      rw [ho] at h0
      cases ob with
      | box cs fz => 
        dsimp only at h0
        cases hh : mapO (snap L 0) (cs.drop off) with
        | none => rw [hh] at h0; rcases h0 with h0 | ⟨_, _, h0, _⟩ <;> cases h0
        | some q => rw [hh] at h0; rcases h0 with h0 | ⟨_, _, h0, _⟩ <;> cases h0
      | arr e t' xs fz => rcases h0 with h0 | ⟨_, _, h0, _⟩ <;> cases h0
      | dead => rcases h0 with h0 | ⟨_, _, h0, _⟩ <;> cases h0
  | ag cs =>
    have e : snap L 1 (.ag cs) = (mapO (snap L 0) cs).map V.ag := rfl
    rw [e] at h0
    cases hh : mapO (snap L 0) cs <;> rw [hh] at h0 <;> rcases h0 with h0 | ⟨_, _, h0, _⟩ <;> cases h0
  | tup cs =>
    have e : snap L 1 (.tup cs) = (mapO (snap L 0) cs).map V.tup := rfl
    rw [e] at h0
    cases hh : mapO (snap L 0) cs <;> rw [hh] at h0 <;> rcases h0 with h0 | ⟨_, _, h0, _⟩ <;> cases h0
  | fn f cs =>
    have e : snap L 1 (.fn f cs) = (mapO (snap L 0) cs).map (V.fn f) := rfl
    rw [e] at h0
    cases hh : mapO (snap L 0) cs <;> rw [hh] at h0 <;> rcases h0 with h0 | ⟨_, _, h0, _⟩ <;> cases h0
  | _ => rcases h0 with h0 | ⟨_, _, h0, _⟩ <;> cases h0

theorem ysOf_rd (hS : SigOk G) (hm : MI C w0 Fp okA M ok L w) {t : Ty} {x : V G.S} {ys : List (t.den G.S)} (h : ysOf L t x = some ys) {v : Value} (hv : VR w ok M x v) : Nonempty (Rd G w ok M t ys v) := by
  rcases ysOf_cases h with ⟨o, e, fz, rfl, ho⟩ | rfl | ⟨e, t', rfl, rfl⟩
  · obtain ⟨r, _⟩ := rd_arr hS hm ho hv
    exact ⟨r⟩
  · exact rd_sl hS hv
  · cases hv
    exact ⟨⟨none, 0, [], rfl, by simp, fun j u h => by simp at h, fun u h => by simp at h, fun i x j y u h => by simp at h⟩⟩

end

end Go.Dv

namespace Go.Dv

open Go

section

variable {G : Sig} {C : Cfg G} {Φ : FuncId → List Item → St G.S → Option (Ret G.S)} {f : FuncId} {r : Ret G.S}

theorem run_v {P : Program} {w w' : World} {s : Sem Value} {val : Value} (h : s.run P w = .ok val w') : (do pure (Next.value (← s)) : Sem Next).run P w = .ok (.value val) w' := by
  simp [h]

theorem run_u {P : Program} {w w' : World} {s : Sem Unit} (h : s.run P w = .ok () w') : (do s; pure Next.skip : Sem Next).run P w = .ok .skip w' := by
  simp [h]

theorem loadT_run (hS : SigOk G) {t : TypeId} {x : V G.S} {st : St G.S} {k : K G} (h : (loadT C t x st k).run G Φ f = some r) :
    ∃ v rd wr, (∀ (w0 : World) (Fp : Nat → Prop) (okA : Okc) (M : Mem) (ok : Okc) (w : World) (vx : Value), MI C w0 Fp okA M ok st.L w → VR w ok M x vx → ∃ val, (Instr.loadAt t vx).run C.P w = .ok val w ∧ VR w ok M v val) ∧
      (k v st rd wr).run G Φ f = some r := by
  unfold loadT at h
  split at h
  · rename_i o off
    split at h
    · rename_i cs fz hL
      split at h
      · rename_i v hp
        refine ⟨v, _, _, fun w0 Fp okA M ok w vx hm hx => ?_, h⟩
        obtain ⟨b, l, e, hM, hh, hv⟩ := hm.objs o _ hL
        cases hx with
        | ref _ _ b' hM' =>
          rw [hM] at hM'; cases hM'
          have hv' := hv.drop off
          obtain ⟨val, h1, h2⟩ := partV_load (w := w) (ok := ok) (M := M) (b := b) (off := off) hp (u := fun j => l.getD (off + j) undef) (fun j y hj => by
            obtain ⟨u, hu, _⟩ := hv'.get hj
            rw [List.getElem?_drop] at hu
            simp [World.cell?, hh, hu, List.getD_eq_getElem?_getD]) (fun j y hj => by
            obtain ⟨u, hu, hvu⟩ := hv'.get hj
            rw [List.getElem?_drop] at hu
            simpa [List.getD_eq_getElem?_getD, hu] using hvu)
          exact ⟨val, by simp [Instr.loadAt, Instr.sureAddr, h1], h2⟩
      · exact run_fail h
    · exact run_fail h
  · rename_i cs
    split at h
    · rename_i v hp
      refine ⟨v, _, _, fun w0 Fp okA M ok w vx hm hx => ?_, h⟩
      cases hx with
      | pc _ b off u h1 h2 =>
        obtain ⟨val, h3, h4⟩ := partV_load (w := w) (ok := ok) (M := M) (b := b) (off := off) hp (u := u) (fun j y hj => (h1 j y hj).1) h2
        exact ⟨val, by simp [Instr.loadAt, Instr.sureAddr, h3], h4⟩
    · exact run_fail h
  · rename_i o i off
    split at h
    · rename_i e ty xs fz hL
      obtain ⟨x, hx, h⟩ := run_bnd h
      split at h
      · rename_i v hp
        refine ⟨v, _, _, fun w0 Fp okA M ok w vx hm hv => ?_, h⟩
        obtain ⟨a, c, us, hM, hown, hz, el⟩ := hm.objs o _ hL
        cases hv with
        | pe _ _ _ b n c' e' sz hM' =>
          rw [hM] at hM'; cases hM'
          have hi : i < xs.length := (List.getElem?_eq_some_iff.1 hx).1
          have hus : ∀ j, j < Ty.sz G ty → ∃ u, us[i * Ty.sz G ty + j]? = some u := fun j hj => by
            have : i * Ty.sz G ty + j < us.length := by
              rw [hown.1]
              calc i * Ty.sz G ty + j < i * Ty.sz G ty + Ty.sz G ty := by omega
                _ = (i + 1) * Ty.sz G ty := by rw [Nat.add_mul, Nat.one_mul]
                _ ≤ xs.length * Ty.sz G ty := Nat.mul_le_mul_right _ hi
            exact ⟨_, List.getElem?_eq_getElem this⟩
          obtain ⟨val, h3, h4⟩ := partV_load (w := w) (ok := ok) (M := M) (b := b) (off := i * Ty.sz G ty + off) hp (u := fun j => us.getD (i * Ty.sz G ty + (off + j)) undef) (fun j y hj => by
            rw [List.getElem?_drop] at hj
            have hlt : off + j < Ty.sz G ty := by have := (List.getElem?_eq_some_iff.1 hj).1; rw [cells_len hS] at this; exact this
            obtain ⟨u, hu⟩ := hus _ hlt
            have := hown.cells (g := b) rfl _ u hu
            rw [addr_add, Nat.zero_add] at this
            simp only [List.getD_eq_getElem?_getD, hu, Option.getD_some]
            rw [Nat.add_assoc]; exact this) (fun j y hj => by
            rw [List.getElem?_drop] at hj
            have hlt : off + j < Ty.sz G ty := by have := (List.getElem?_eq_some_iff.1 hj).1; rw [cells_len hS] at this; exact this
            obtain ⟨u, hu⟩ := hus _ hlt
            simp only [List.getD_eq_getElem?_getD, hu, Option.getD_some]
            exact el i x (off + j) y u hx hj hu)
          exact ⟨val, by simp [Instr.loadAt, Instr.sureAddr, h3], h4⟩
      · exact run_fail h
    · exact run_fail h
  · exact run_fail h

theorem cut_ok {α : Type} {xs ys : List α} {lo hi : Int} (h : cut xs lo hi = some ys) : 0 ≤ lo ∧ lo ≤ hi ∧ hi ≤ xs.length ∧ ys = (xs.take hi.toNat).drop lo.toNat := by
  unfold cut at h
  split at h
  · rename_i hc; cases h; exact ⟨hc.1, hc.2.1, hc.2.2, rfl⟩
  · cases h

theorem extract_data (s : ByteArray) (l h : Nat) : (s.extract l h).data.toList = (s.data.toList.take h).drop l := by
  rw [ByteArray.data_extract]
  simp [Array.toList_extract, List.extract_eq_take_drop, List.drop_take]

theorem idx_ok {α : Type} {xs : List α} {i : Int} {x : α} (h : idx xs i = some x) : ∃ n : Nat, i = n ∧ xs[n]? = some x := by
  unfold idx at h
  split at h
  · rename_i hi; exact ⟨i.toNat, by omega, h⟩
  · cases h

end

end Go.Dv

namespace Go.Dv

open Go

section

variable {G : Sig} {C : Cfg G}

theorem mapO_get {α β : Type} {g : α → Option β} : ∀ {l : List α} {l' : List β}, mapO g l = some l' → l'.length = l.length ∧ ∀ (j : Nat) (b : β), l'[j]? = some b → ∃ a, l[j]? = some a ∧ g a = some b
  | [], l', h => by simp [mapO] at h; subst h; exact ⟨rfl, fun j b hj => by simp at hj⟩
  | a :: t, l', h => by
    simp only [mapO] at h
    split at h
    · rename_i b hb
      split at h
      · rename_i c hc
        cases h
        obtain ⟨h1, h2⟩ := mapO_get hc
        refine ⟨by simp [h1], fun j x hj => ?_⟩
        cases j with
        | zero => simp at hj; subst hj; exact ⟨a, rfl, hb⟩
        | succ j => simp at hj; obtain ⟨y, h3, h4⟩ := h2 j x hj; exact ⟨y, by simpa using h3, h4⟩
      · cases h
    · cases h

theorem catL_mem {α : Type} {g : α → List Nat} {x : Nat} : ∀ {l : List α} {a : α}, a ∈ l → x ∈ g a → x ∈ catL g l
  | [], a, h, _ => by cases h
  | b :: t, a, h, hx => by
    simp only [catL, List.mem_append]
    cases h with
    | head => exact .inl hx
    | tail _ h' => exact .inr (catL_mem h' hx)

variable {w0 : World} {Fp : Nat → Prop} {okA : Okc} {M : Mem} {ok : Okc} {L : List (Obj G.S)} {w : World}

theorem okF_ex (os : List Nat) : Ex M ok w M (okF M ok L os) w := ⟨fun _ _ h => h, fun _ _ _ hb hc => ⟨.inl hb, hc⟩⟩

theorem okF_mono {os os' : List Nat} (h : ∀ o, os.contains o = true → os'.contains o = true) : Ex M (okF M ok L os) w M (okF M ok L os') w :=
  ⟨fun _ _ h => h, fun b off u hb hc => ⟨by
    rcases hb with hb | ⟨o, ob, h1, h2⟩
    · exact .inl hb
    · exact .inr ⟨o, ob, h o h1, h2⟩, hc⟩⟩

theorem arr_sl (hS : SigOk G) (hm : MI C w0 Fp okA M ok L w) {o : Nat} {e : TypeId} {t : Ty} {xs : List (t.den G.S)} {fz : Bool} (ho : L[o]? = some (.arr e t xs fz)) {v : Value} (h : VR (G := G) w ok M (.arr o) v)
    {os : List Nat} (hos : os.contains o = true) : VR (G := G) w (okF M ok L os) M (.sl t xs) v := by
  obtain ⟨⟨ra, rc, rus, hval, rlen, rcell, rone, rel⟩, hM, hown⟩ := rd_arr hS hm ho h
  dsimp only at hM hown
  cases xs with
  | nil => rw [hval]; exact .sl0 t _ _
  | cons x0 xs0 =>
    rcases hown.2 with ⟨h1, h2⟩ | ⟨g, cap, cur, h1, h2, h3, h4, h5, h6, h7⟩
    · simp at h2
    · subst hval
      simp only [Value.slice.injEq, true_and] at h1
      obtain ⟨rfl, rfl⟩ := h1
      have hz : 0 < Ty.sz G t := by obtain ⟨_, _, _, _, _, hz, _⟩ := hm.objs o _ ho; exact hz
      have hidx : ∀ (i : Nat) (x : t.den G.S) (j : Nat) (y : V G.S), (x0 :: xs0)[i]? = some x → (Ty.cells G t x)[j]? = some y → i * Ty.sz G t + j < (x0 :: xs0).length * Ty.sz G t := by
        intro i x j y hi hj
        have hi' : i < (x0 :: xs0).length := (List.getElem?_eq_some_iff.1 hi).1
        have hj' : j < Ty.sz G t := by have := (List.getElem?_eq_some_iff.1 hj).1; rw [cells_len hS] at this; exact this
        calc i * Ty.sz G t + j < i * Ty.sz G t + Ty.sz G t := by omega
          _ = (i + 1) * Ty.sz G t := by rw [Nat.add_mul, Nat.one_mul]
          _ ≤ (x0 :: xs0).length * Ty.sz G t := Nat.mul_le_mul_right _ hi'
      have hget : ∀ p, p < (x0 :: xs0).length * Ty.sz G t → rus[p]? = some (rus.getD p undef) := by
        intro p hp
        have : p < rus.length := by rw [rlen]; exact hp
        rw [List.getD_eq_getElem?_getD, List.getElem?_eq_getElem this]; rfl
      refine .sl1 t (x0 :: xs0) g 0 rc (fun i j => rus.getD (i * Ty.sz G t + j) undef) h4 (fun i x j y hi hj => ?_) (fun i x j y hi hj => ?_)
      · have hlt := hidx i x j y hi hj
        refine ⟨?_, .inr ⟨o, _, hos, ho, trivial, ?_, ?_⟩⟩
        · have := hown.cells (g := g) rfl _ _ (hget _ hlt)
          rw [addr_add] at this
          exact this
        · simp [blk, hM, MB.blk]
        · simp only [Obj.rd', Nat.zero_add]; exact hlt
      · exact (rel i x j y _ hi hj (hget _ (hidx i x j y hi hj))).mono (okF_ex os)

theorem snap_ok (hS : SigOk G) (hm : MI C w0 Fp okA M ok L w) : ∀ (n : Nat) (v v' : V G.S) (val : Value) (os : List Nat), snap L n v = some v' → (∀ o ∈ reach L n v, os.contains o = true) → VR w ok M v val → VR w (okF M ok L os) M v' val
  | 0, v, v', val, os, h, _, _ => by simp [snap] at h
  | n + 1, v, v', val, os, h, hr, hv => by
    have lst : ∀ (cs ds : List (V G.S)) (l : List Value), mapO (snap L n) cs = some ds → (∀ o ∈ catL (reach L n) cs, os.contains o = true) → VRs w ok M cs l → VRs w (okF M ok L os) M ds l := by
      intro cs ds l hmap hrc hvs
      obtain ⟨h1, h2⟩ := mapO_get hmap
      refine ⟨h1.trans hvs.1, fun j y u hj hu => ?_⟩
      obtain ⟨c, hc, hs⟩ := h2 j y hj
      exact snap_ok hS hm n c y u os hs (fun o ho => hrc o (catL_mem (List.mem_of_getElem? hc) ho)) (hvs.2 j c u hc hu)
    cases v with
    | arr o =>
      have e : snap L (n + 1) (.arr o) = (match L[o]? with
        | some (.arr _ t xs _) => some (V.sl t xs)
        | _ => none) := rfl
      rw [e] at h
      cases ho : L[o]? with
      | none => rw [ho] at h; cases h
      | some ob =>
        rw [ho] at h
        cases ob with
        | arr e t xs fz => cases h; exact arr_sl hS hm ho hv (hr o (by simp [reach]))
        | box cs fz => cases h
        | dead => cases h
    | ref o off =>
      have e : snap L (n + 1) (.ref o off) = (match L[o]? with
        | some (.box cs _) => (mapO (snap L n) (cs.drop off)).map V.pc
        | _ => none) := rfl
      rw [e] at h
      cases ho : L[o]? with
      | none => rw [ho] at h; cases h
      | some ob =>
        rw [ho] at h
        cases ob with
        | arr e t xs fz => cases h
        | dead => cases h
        | box cs fz =>
          dsimp only at h
          cases hmp : mapO (snap L n) (cs.drop off) with
          | none => rw [hmp] at h; cases h
          | some ds =>
            rw [hmp] at h
            cases h
            have hro : ∀ o' ∈ o :: catL (reach L n) cs, os.contains o' = true := by
              have e2 : reach L (n + 1) (.ref o off : V G.S) = (match L[o]? with
                | some (.box cs _) => o :: catL (reach L n) cs
                | _ => [o]) := rfl
              rw [e2, ho] at hr; exact hr
            obtain ⟨b, l, e, hM, hh, hvs⟩ := hm.objs o _ ho
            cases hv with
            | ref _ _ b' hM' =>
              rw [hM] at hM'; cases hM'
              have hsub : ∀ o' ∈ catL (reach L n) (cs.drop off), os.contains o' = true := by
                intro o' ho'
                have hmem : ∀ (l : List (V G.S)) (k : Nat), o' ∈ catL (reach L n) (l.drop k) → o' ∈ catL (reach L n) l := by
                  intro l
                  induction l with
                  | nil => intro k hk; simpa using hk
                  | cons c r ih =>
                    intro k hk
                    cases k with
                    | zero => exact hk
                    | succ k => simp only [List.drop_succ_cons] at hk; simp only [catL, List.mem_append]; exact .inr (ih k hk)
                exact hro o' (List.mem_cons_of_mem _ (hmem cs off ho'))
              have hl := lst _ _ _ hmp hsub (hvs.drop off)
              refine .pc ds b off (fun j => l.getD (off + j) undef) (fun j y hj => ?_) (fun j y hj => ?_)
              · obtain ⟨u, hu, _⟩ := hl.get hj
                rw [List.getElem?_drop] at hu
                refine ⟨by simp [World.cell?, hh, hu, List.getD_eq_getElem?_getD], .inr ⟨o, _, hro o List.mem_cons_self, ho, trivial, by simp [blk, hM, MB.blk], trivial⟩⟩
              · obtain ⟨u, hu, hvu⟩ := hl.get hj
                rw [List.getElem?_drop] at hu
                simpa [List.getD_eq_getElem?_getD, hu] using hvu
    | ag cs =>
      have e : snap L (n + 1) (.ag cs) = (mapO (snap L n) cs).map V.ag := rfl
      rw [e] at h
      cases hmp : mapO (snap L n) cs with
      | none => rw [hmp] at h; cases h
      | some ds => 
        rw [hmp] at h; cases h
        cases hv with
        | ag _ l hl hh => have := lst _ _ _ hmp (fun o ho => hr o ho) ⟨hl, hh⟩; exact .ag _ _ this.1 this.2
    | tup cs =>
      have e : snap L (n + 1) (.tup cs) = (mapO (snap L n) cs).map V.tup := rfl
      rw [e] at h
      cases hmp : mapO (snap L n) cs with
      | none => rw [hmp] at h; cases h
      | some ds => 
        rw [hmp] at h; cases h
        cases hv with
        | tup _ l hl hh => have := lst _ _ _ hmp (fun o ho => hr o ho) ⟨hl, hh⟩; exact .tup _ _ this.1 this.2
    | fn f cs =>
      have e : snap L (n + 1) (.fn f cs) = (mapO (snap L n) cs).map (V.fn f) := rfl
      rw [e] at h
      cases hmp : mapO (snap L n) cs with
      | none => rw [hmp] at h; cases h
      | some ds => 
        rw [hmp] at h; cases h
        cases hv with
        | fn _ _ l hl hh => have := lst _ _ _ hmp (fun o ho => hr o ho) ⟨hl, hh⟩; exact .fn _ _ _ this.1 this.2
    | pe o i off => cases h
    | un => cases h
    | int k m => cases h; exact hv.mono (okF_ex os)
    | bool b => cases h; exact hv.mono (okF_ex os)
    | lb b => cases h; exact hv.mono (okF_ex os)
    | str s => cases h; exact hv.mono (okF_ex os)
    | sl t xs => cases h; exact hv.mono (okF_ex os)
    | st m x => cases h; exact hv.mono (okF_ex os)
    | pc cs => cases h; exact hv.mono (okF_ex os)
    | nilp => cases h; exact hv.mono (okF_ex os)
    | nil e t => cases h; exact hv.mono (okF_ex os)

theorem snaps_ok (hS : SigOk G) (hm : MI C w0 Fp okA M ok L w) {os : List Nat} : ∀ {cs ds : List (V G.S)} {l : List Value}, snaps L cs = some ds → (∀ o ∈ reachs L cs, os.contains o = true) → VRs w ok M cs l → VRs w (okF M ok L os) M ds l
  | [], ds, l, h, _, hv => by simp [snaps] at h; subst h; exact ⟨hv.1, fun j y v hj => by simp at hj⟩
  | c :: r, ds, l, h, hr, hv => by
    simp only [snaps] at h
    split at h
    · rename_i a b ha hb
      cases h
      obtain ⟨v, l', rfl, h1, h2⟩ := hv.inv
      exact .cons (snap_ok hS hm 20 c a v os ha (fun o ho => hr o (by simp [reachs, ho])) h1) (snaps_ok hS hm hb (fun o ho => hr o (by simp [reachs, ho])) h2)
    · cases h

end

end Go.Dv

namespace Go.Dv

open Go

section

variable {G : Sig} {C : Cfg G}

variable {w0 : World} {Fp : Nat → Prop} {okA : Okc} {M : Mem} {ok : Okc} {L : List (Obj G.S)} {w : World}

theorem prj0_int (k : IntKind) (v : V G.S) : prj0 G (.int k) v = (match v with
    | .int k' n => if k' = k then some n else none
    | _ => none : Option Int) := rfl

theorem prj0_bool (v : V G.S) : prj0 G .bool v = (match v with
    | .bool b => some b
    | .lb b => some b
    | _ => none : Option Bool) := rfl

theorem prj0_str (v : V G.S) : prj0 G .str v = (match v with
    | .str b => some b
    | _ => none : Option (List UInt8)) := rfl

theorem prj0_st (n : Nat) (v : V G.S) : prj0 G (.st n) v = (match v with
    | .st m x => if h : m = n then some (h ▸ x) else none
    | .ag cs => G.make n cs
    | _ => none : Option (G.S n)) := rfl

theorem prj_pst (n : Nat) (v : V G.S) : prj G (.ptr (.st n)) v = (match v with
    | .pc cs => G.make n (cs.take (G.csz n))
    | _ => none : Option (G.S n)) := rfl

theorem prj0_ok (hS : SigOk G) {t : Ty} {v : V G.S} {x : t.den G.S} {val : Value} (h : prj0 G t v = some x) (hv : VR w ok M v val) : VRs w ok M (Ty.cells G t x) val.cells.toList ∧ VR w ok M (inj G t x) val := by
  cases t with
  | int k =>
    rw [prj0_int] at h
    split at h
    · split at h
      · rename_i hk; subst hk; cases h; cases hv; exact ⟨.sing (.int _ _), .int _ _⟩
      · cases h
    · cases h
  | bool =>
    rw [prj0_bool] at h
    split at h
    · cases h; cases hv; exact ⟨.sing (.bool _), .bool _⟩
    · cases h; cases hv; exact ⟨.sing (.bool _), .bool _⟩
    · cases h
  | str =>
    rw [prj0_str] at h
    split at h
    · cases h; cases hv; exact ⟨.sing (.str _), .str _⟩
    · cases h
  | sl t =>
    rcases prj_sl (G := G) (t := t) (v := v) (ys := x) h with rfl | ⟨e, t', rfl, rfl⟩
    · have : val.cells = #[val] := by cases hv <;> rfl
      exact ⟨by rw [this]; exact .sing hv, hv⟩
    · cases hv; exact ⟨.sing (.sl0 _ _ _), .sl0 _ _ _⟩
  | st n =>
    rw [prj0_st] at h
    split at h
    · split at h
      · rename_i hk; subst hk; cases h; cases hv with
        | st _ _ l hl hh => exact ⟨(⟨hl, hh⟩ : VRs w ok M (G.cells _ _) l), .st _ _ l hl hh⟩
      · cases h
    · cases hv with
      | ag _ l hl hh => have := hS.make _ _ _ h w ok M l ⟨hl, hh⟩; exact ⟨this, .st _ _ l this.1 this.2⟩
    · cases h
  | ptr t => cases h

theorem prj_ok (hS : SigOk G) {t : Ty} {v : V G.S} {x : t.den G.S} {val : Value} (h : prj G t v = some x) (hv : VR w ok M v val) : VRs w ok M (Ty.cells G t x) val.cells.toList ∧ VR w ok M (inj G t x) val := by
  cases t with
  | ptr t =>
    cases t with
    | st n =>
      rw [prj_pst] at h
      split at h
      · rename_i cs
        cases hv with
        | pc _ b off u h1 h2 =>
          have hvs : VRs w ok M (cs.take (G.csz n)) ((List.range (cs.take (G.csz n)).length).map u) := by
            refine ⟨by simp, fun j y v hj hv => ?_⟩
            rw [List.getElem?_map] at hv
            have hlt : j < (cs.take (G.csz n)).length := (List.getElem?_eq_some_iff.1 hj).1
            rw [List.getElem?_range hlt] at hv
            cases hv
            rw [List.getElem?_take] at hj
            split at hj
            · exact h2 j y hj
            · cases hj
          have hm := hS.make _ _ _ h w ok M _ hvs
          have hp : VR w ok M (.pc (G.cells n x)) (.pointer (some ⟨b, off, none⟩)) := by
            have hlen : ∀ j, j < (G.cells n x).length → j < (cs.take (G.csz n)).length := fun j hj => by have := hm.1; simp at this; simp; omega
            refine .pc _ b off u (fun j y hj => ?_) (fun j y hj => ?_)
            · have hlt := hlen j (List.getElem?_eq_some_iff.1 hj).1
              have : cs[j]? = some (cs[j]'(by simp at hlt; omega)) := List.getElem?_eq_getElem _
              exact h1 j _ this
            · have hlt := hlen j (List.getElem?_eq_some_iff.1 hj).1
              exact hm.2 j y (u j) hj (by rw [List.getElem?_map, List.getElem?_range hlt]; rfl)
          exact ⟨.sing hp, hp⟩
      · cases h
    | _ => cases h
  | int k => exact prj0_ok hS h hv
  | bool => exact prj0_ok hS h hv
  | str => exact prj0_ok hS h hv
  | sl t => exact prj0_ok hS h hv
  | st n => exact prj0_ok hS h hv

end

end Go.Dv

namespace Go.Dv

open Go

section

variable {G : Sig} {C : Cfg G} {Φ : FuncId → List Item → St G.S → Option (Ret G.S)} {f : FuncId} {r : Ret G.S}

theorem one_cells {v : Value} (h : v.oneCell' = true) : v.cells = #[v] := by cases v <;> first | rfl | cases h

section

variable {w0 : World} {Fp : Nat → Prop} {okA : Okc} {M : Mem} {ok : Okc} {L : List (Obj G.S)} {w : World}

theorem dat_ok (hS : SigOk G) (hm : MI C w0 Fp okA M ok L w) {t : Ty} {v : V G.S} {x : t.den G.S} {val : Value} {os : List Nat} (h : dat L t v = some x) (hr : ∀ o ∈ reach L 20 v, os.contains o = true) (hv : VR w ok M v val) :
    VRs w (okF M ok L os) M (Ty.cells G t x) val.cells.toList ∧ VR w (okF M ok L os) M (inj G t x) val := by
  unfold dat at h
  split at h
  · rename_i v' hs
    exact prj_ok hS h (snap_ok hS hm 20 v v' val os hs hr hv)
  · cases h

theorem newEl_ok (hS : SigOk G) (hm : MI C w0 Fp okA M ok L w) {t : Ty} {cs : List (V G.S)} {x : t.den G.S} {l : List Value} {os : List Nat} (h : newEl L t cs = some x) (hr : ∀ o ∈ reachs L cs, os.contains o = true) (h1 : ∀ u ∈ l, u.oneCell' = true) (hv : VRs w ok M cs l) :
    VRs w (okF M ok L os) M (Ty.cells G t x) l := by
  have one : ∀ {t : Ty} {c : V G.S} {x : t.den G.S} {l : List Value}, dat L t c = some x → (∀ o ∈ reachs L [c], os.contains o = true) → (∀ u ∈ l, u.oneCell' = true) → VRs w ok M [c] l → VRs w (okF M ok L os) M (Ty.cells G t x) l := by
    intro t c x l h hr h1 hv
    obtain ⟨v, l', rfl, hv1, hv2⟩ := hv.inv
    have : l' = [] := List.eq_nil_of_length_eq_zero hv2.1.symm
    subst this
    have := (dat_ok hS hm h (fun o ho => hr o (by simp [reachs, ho])) hv1).1
    rw [one_cells (h1 v (by simp))] at this
    exact this
  cases t with
  | st m =>
    simp only [newEl] at h
    cases hs : snaps L cs with
    | none => rw [hs] at h; cases h
    | some ds => rw [hs] at h; exact hS.make _ _ _ h _ _ _ _ (snaps_ok hS hm hs hr hv)
  | int k => simp only [newEl] at h; split at h; · exact one h hr h1 hv
             · cases h
  | bool => simp only [newEl] at h; split at h; · exact one h hr h1 hv
            · cases h
  | str => simp only [newEl] at h; split at h; · exact one h hr h1 hv
           · cases h
  | sl t => simp only [newEl] at h; split at h; · exact one h hr h1 hv
            · cases h
  | ptr t => simp only [newEl] at h; split at h; · exact one h hr h1 hv
             · cases h

end

theorem VRs.one {w : World} {ok : Okc} {M : Mem} {cs : List (V G.S)} {l : List Value} (h : VRs w ok M cs l) (h1 : cs.all V.one = true) : ∀ u ∈ l, u.oneCell' = true := by
  intro u hu
  obtain ⟨j, hj⟩ := List.mem_iff_getElem?.1 hu
  have hlt : j < cs.length := by have := (List.getElem?_eq_some_iff.1 hj).1; rw [h.1]; exact this
  rw [List.all_eq_true] at h1
  exact one_ok (h1 _ (List.getElem_mem hlt)) (h.2 j _ u (List.getElem?_eq_getElem hlt) hj)

theorem storeVar_run {P : Program} {t : TypeId} {n b off : Nat} {e : TypeId} {v : Value} {cur : Array Value} {w : World} (hs : (sizeOf t).run P w = .ok n w) (hn : v.cells.size = n) (h1 : ∀ u ∈ v.cells.toList, u.oneCell' = true)
    (hh : w.heap[b]? = some (.cells cur e (0, 0))) (hf : off + n ≤ cur.size) :
    (Instr.storeAt t (.pointer (some ⟨b, off, none⟩)) v).run P w = .ok () (w.setRow b (cur.toList.take off ++ v.cells.toList ++ cur.toList.drop (off + n)).toArray) := by
  have hst := run_storeCells_at P b off e v.cells.toList 0 cur w hh (by simp; omega) h1
  simp only [Nat.add_zero, Array.length_toList, hn] at hst
  simp only [Instr.storeAt, Instr.sureAddr, storeVar, Sem.run_bind, Sem.run_pure, Result.andThen_ok, hs]
  simp [hn, hst]

theorem splice_get {α : Type} (A B : List α) (p n q : Nat) (hB : B.length = n) (hp : p + n ≤ A.length) :
    (A.take p ++ B ++ A.drop (p + n))[q]? = if q < p then A[q]? else if q < p + n then B[q - p]? else A[q]? := by
  rw [List.append_assoc]
  by_cases h1 : q < p
  · rw [if_pos h1, List.getElem?_append_left (by simp; omega), List.getElem?_take, if_pos h1]
  · rw [if_neg h1, List.getElem?_append_right (by simp; omega)]
    have e : (A.take p).length = p := by simp; omega
    rw [e]
    by_cases h2 : q < p + n
    · rw [if_pos h2, List.getElem?_append_left (by omega)]
    · rw [if_neg h2, List.getElem?_append_right (by omega), List.getElem?_drop, hB]
      congr 1; omega

theorem splice_len {α : Type} (A B : List α) (p n : Nat) (hB : B.length = n) (hp : p + n ≤ A.length) : (A.take p ++ B ++ A.drop (p + n)).length = A.length := by
  simp; omega

theorem splice_take {α : Type} (A B : List α) (p n m : Nat) (hB : B.length = n) (hp : p + n ≤ m) (hm : m ≤ A.length) :
    (A.take p ++ B ++ A.drop (p + n)).take m = (A.take m).take p ++ B ++ (A.take m).drop (p + n) := by
  apply List.ext_getElem?
  intro q
  rw [List.getElem?_take, splice_get A B p n q hB (by omega), splice_get (A.take m) B p n q hB (by simp; omega), List.getElem?_take]
  by_cases h : q < m
  · simp [h]
  · rw [if_neg h, if_neg (by omega), if_neg (by omega), if_neg h]

theorem storeT_run (hS : SigOk G) {t : TypeId} {x v : V G.S} {st : St G.S} {k : K G} (h : (storeT C t x v st k).run G Φ f = some r) :
    ∃ st' rd wr, st'.tm = st.tm ∧ st'.n0 = st.n0 ∧ (∀ (w0 : World) (Fp : Nat → Prop) (okA : Okc) (M : Mem) (ok : Okc) (w : World) (vx vv : Value), MI C w0 Fp okA M ok st.L w → VR w ok M x vx → VR w ok M v vv →
      ∃ w' ok', (Instr.storeAt t vx vv).run C.P w = .ok () w' ∧ MI C w0 Fp okA M ok' st'.L w' ∧ Ex M ok w M ok' w') ∧ (k .un st' rd wr).run G Φ f = some r := by
  unfold storeT at h
  split at h
  · rename_i vs n hcl hsz
    split at h
    · rename_i hc
      obtain ⟨hlen, hone⟩ := hc
      split at h
      · rename_i o off
        split at h
        · rename_i cs hL
          split at h
          · rename_i hfit
            refine ⟨_, _, _, ?_, ?_, fun w0 Fp okA M ok w vx vv hm hx hv => ?_, h⟩
            · rfl
            · rfl
            obtain ⟨b, l, e, hM, hh, hvs⟩ := hm.objs o _ hL
            cases hx with
            | ref _ _ b' hM' =>
              rw [hM] at hM'; cases hM'
              have hcv := cellsL_ok hcl hv
              have h1 := hcv.one hone
              have hn : vv.cells.size = n := by rw [← hlen, hcv.1, Array.length_toList]
              have hrun := storeVar_run (sizeT_run (w := w) hsz) hn h1 hh (off := off) (by simp only [List.size_toArray]; rw [← hvs.1]; exact hfit)
              refine ⟨_, ok, hrun, ?_⟩
              have hno : ∀ off, ¬ ok b off := fun off' hok => by
                have := hm.own o _ b off' hL trivial (by simp [blk, hM, MB.blk]) hok
                simp [Obj.rd] at this
              have hnew : VRs w ok M (cs.take off ++ vs ++ cs.drop (off + n)) (l.take off ++ vv.cells.toList ++ l.drop (off + n)) := ((hvs.take off).append hcv).append (hvs.drop _)
              refine hm.upd (w' := w.setRow b _) (.box (cs.take off ++ vs ++ cs.drop (off + n)) false) hL trivial (by simp [blk, hM, MB.blk]) rfl rfl rfl (by simp) (fun k hk => setRow_other _ _ _ _ hk) (fun off' u hok => (hno off' hok).elim) (fun he => ?_) (fun off' hok => (hno off' hok).elim)
              exact ⟨b, _, e, hM, setRow_heap w b _ _ e _ hh, hnew.mono he⟩
          · exact run_fail h
        · exact run_fail h
      · rename_i o i off
        split at h
        · rename_i e ty xs hL
          obtain ⟨x0, hx0, h⟩ := run_bnd h
          dsimp only at h
          split at h
          · rename_i hfit
            obtain ⟨hfit, hself⟩ := hfit
            split at h
            · rename_i x' hx'
              refine ⟨_, _, _, ?_, ?_, fun w0 Fp okA M ok w vx vv hm hx hv => ?_, h⟩
              · rfl
              · rfl
              obtain ⟨a, c, us, hM, hown, hz, el⟩ := hm.objs o _ hL
              cases hx with
              | pe _ _ _ b n' c' e' sz' hM' =>
                rw [hM] at hM'; cases hM'
                have hi : i < xs.length := (List.getElem?_eq_some_iff.1 hx0).1
                rw [cells_len hS] at hfit
                have hcv := cellsL_ok hcl hv
                have h1 := hcv.one hone
                have hn : vv.cells.toList.length = n := by rw [← hcv.1]; exact hlen
                have hbase : i * Ty.sz G ty + Ty.sz G ty ≤ xs.length * Ty.sz G ty := by
                  calc i * Ty.sz G ty + Ty.sz G ty = (i + 1) * Ty.sz G ty := by rw [Nat.add_mul, Nat.one_mul]
                    _ ≤ xs.length * Ty.sz G ty := Nat.mul_le_mul_right _ hi
                have hul := hown.1
                rcases hown.2 with ⟨hq, _⟩ | ⟨g, cap, cur, hq, hg0, hh, hlc, hcm, hcs, htk⟩
                · simp at hq
                simp only [Value.slice.injEq, Option.some.injEq, Addr.mk.injEq, and_true, true_and] at hq
                obtain ⟨rfl, rfl⟩ := hq
                have hcap : xs.length * Ty.sz G ty ≤ cur.size := by rw [hcs]; exact Nat.mul_le_mul_right _ hlc
                have hrun := storeVar_run (v := vv) (sizeT_run (w := w) hsz) (by rw [← hn, Array.length_toList]) h1 hh (off := i * Ty.sz G ty + off) (by omega)
                have hl0 : VRs w ok M (Ty.cells G ty x0) ((us.drop (i * Ty.sz G ty)).take (Ty.sz G ty)) := by
                  refine ⟨by rw [cells_len hS]; simp; omega, fun j y u hj hu => ?_⟩
                  rw [List.getElem?_take] at hu
                  split at hu
                  · rw [List.getElem?_drop] at hu; exact el i x0 j y u hx0 hj hu
                  · cases hu
                have hds := ((hl0.take off).append hcv).append (hl0.drop (off + n))
                have hall1 : ∀ u ∈ us, u.oneCell' = true := el_one hS hul el
                have hds1 : ∀ u ∈ ((us.drop (i * Ty.sz G ty)).take (Ty.sz G ty)).take off ++ vv.cells.toList ++ ((us.drop (i * Ty.sz G ty)).take (Ty.sz G ty)).drop (off + n), u.oneCell' = true := by
                  intro u hu
                  simp only [List.mem_append] at hu
                  rcases hu with (hu | hu) | hu
                  · exact hall1 u (List.mem_of_mem_drop (List.mem_of_mem_take (List.mem_of_mem_take hu)))
                  · exact h1 u hu
                  · exact hall1 u (List.mem_of_mem_drop (List.mem_of_mem_take (List.mem_of_mem_drop hu)))
                have hnew := newEl_ok hS hm (os := reachs st.L ((Ty.cells G ty x0).take off ++ vs ++ (Ty.cells G ty x0).drop (off + n))) hx' (fun o ho => by simpa using ho) hds1 hds
                obtain ⟨hm1, he1⟩ := hm.freeze (reachs st.L ((Ty.cells G ty x0).take off ++ vs ++ (Ty.cells G ty x0).drop (off + n)))
                have hL1 : (freeze st.L (reachs st.L ((Ty.cells G ty x0).take off ++ vs ++ (Ty.cells G ty x0).drop (off + n))))[o]? = some (.arr e ty xs false) := by
                  rw [freeze_get, hL]; simp [Obj.fr]; simpa using hself
                have hno : ∀ off', ¬ okF M ok st.L (reachs st.L ((Ty.cells G ty x0).take off ++ vs ++ (Ty.cells G ty x0).drop (off + n))) b off' := fun off' hok => by
                  have := hm1.own o _ b off' hL1 trivial (by simp [blk, hM, MB.blk]) hok
                  simp [Obj.rd] at this
                have hup := hm1.upd (w' := w.setRow b (cur.toList.take (i * Ty.sz G ty + off) ++ vv.cells.toList ++ cur.toList.drop (i * Ty.sz G ty + off + n)).toArray) (.arr e ty (upd xs i x') false) hL1 trivial (by simp [blk, hM, MB.blk]) rfl rfl rfl (by simp) (fun k hk => setRow_other _ _ _ _ hk) (fun off' u hok => (hno off' hok).elim) (fun he => ?_) (fun off' hok => (hno off' hok).elim)
                · exact ⟨_, _, hrun, hup.1, he1.trans hup.2⟩
                · have hlx : (upd xs i x').length = xs.length := by simp [upd]
                  refine ⟨some ⟨b, 0, none⟩, _, us.take (i * Ty.sz G ty + off) ++ vv.cells.toList ++ us.drop (i * Ty.sz G ty + off + n), by rw [hlx]; exact hM, ⟨?_, .inr ⟨b, _, _, by rw [hlx], Nat.zero_le _, setRow_heap w b _ _ e _ hh, by rw [hlx]; exact hlc, hcm, ?_, ?_⟩⟩, hz, ?_⟩
                  · rw [hlx, splice_len _ _ _ n hn (by omega)]; exact hul
                  · rw [List.size_toArray, splice_len _ _ _ n hn (by rw [Array.length_toList]; omega), Array.length_toList]; exact hcs
                  · rw [hlx, splice_take _ _ _ n _ hn (by omega) (by rw [Array.length_toList]; exact hcap), htk]
                  · intro i' x j y u hxi hj hu
                    rw [splice_get us _ _ n _ hn (by omega)] at hu
                    have hjl : j < Ty.sz G ty := by have := (List.getElem?_eq_some_iff.1 hj).1; rw [cells_len hS] at this; exact this
                    by_cases hii : i' = i
                    · subst hii
                      have hxe : x = x' := by
                        rw [upd, List.getElem?_set, if_pos rfl, if_pos hi] at hxi; exact (Option.some.inj hxi).symm
                      subst hxe
                      refine (hnew.2 j y u hj ?_).mono he
                      have hlen0 : ((us.drop (i' * Ty.sz G ty)).take (Ty.sz G ty)).length = Ty.sz G ty := by simp; omega
                      rw [splice_get _ _ off n j hn (by rw [hlen0]; exact hfit), List.getElem?_take, List.getElem?_drop]
                      simp only [hjl, if_true]
                      by_cases c1 : j < off
                      · rw [if_pos c1]; rw [if_pos (by omega)] at hu; exact hu
                      · rw [if_neg c1]; rw [if_neg (by omega)] at hu
                        by_cases c2 : j < off + n
                        · rw [if_pos c2]; rw [if_pos (by omega)] at hu
                          rw [← hu]; congr 1; omega
                        · rw [if_neg c2]; rw [if_neg (by omega)] at hu; exact hu
                    · rw [upd, List.getElem?_set, if_neg (fun h => hii h.symm)] at hxi
                      have hout : ¬ (i * Ty.sz G ty + off ≤ i' * Ty.sz G ty + j ∧ i' * Ty.sz G ty + j < i * Ty.sz G ty + off + n) := by
                        rcases Nat.lt_or_gt_of_ne hii with hlt | hgt
                        · have : i' * Ty.sz G ty + Ty.sz G ty ≤ i * Ty.sz G ty := by
                            calc i' * Ty.sz G ty + Ty.sz G ty = (i' + 1) * Ty.sz G ty := by rw [Nat.add_mul, Nat.one_mul]
                              _ ≤ i * Ty.sz G ty := Nat.mul_le_mul_right _ hlt
                          omega
                        · have : i * Ty.sz G ty + Ty.sz G ty ≤ i' * Ty.sz G ty := by
                            calc i * Ty.sz G ty + Ty.sz G ty = (i + 1) * Ty.sz G ty := by rw [Nat.add_mul, Nat.one_mul]
                              _ ≤ i' * Ty.sz G ty := Nat.mul_le_mul_right _ hgt
                          omega
                      have hu' : us[i' * Ty.sz G ty + j]? = some u := by
                        by_cases c1 : i' * Ty.sz G ty + j < i * Ty.sz G ty + off
                        · rw [if_pos c1] at hu; exact hu
                        · rw [if_neg c1, if_neg (by omega)] at hu; exact hu
                      exact ((el i' x j y u hxi hj hu').mono he1).mono he
            · exact run_fail h
          · exact run_fail h
        · exact run_fail h
      · exact run_fail h
    · exact run_fail h
  · exact run_fail h

end

end Go.Dv

namespace Go.Dv

open Go

section

variable {G : Sig} {C : Cfg G} {Φ : FuncId → List Item → St G.S → Option (Ret G.S)} {f : FuncId} {r : Ret G.S}

theorem cut_vr {w : World} {ok : Okc} {M : Mem} {t : Ty} {xs : List (t.den G.S)} {a : Option Addr} {n c : Nat} (h : VR (G := G) w ok M (.sl t xs) (.slice a n c)) {l hi : Nat} (h1 : l ≤ hi) (h2 : hi ≤ xs.length) :
    n = xs.length ∧ (n ≤ c ∨ n = 0) ∧ VR (G := G) w ok M (.sl t ((xs.take hi).drop l)) (.slice (if c = l then a else a.map (·.add (l * Ty.sz G t))) (hi - l) (c - l)) := by
  cases h with
  | sl0 _ a c =>
    have : hi = 0 := by simpa using h2
    subst this
    have : l = 0 := by omega
    subst this
    refine ⟨rfl, .inr rfl, ?_⟩
    simp only [List.take_nil, List.drop_nil, Nat.sub_self]
    exact .sl0 _ _ _
  | sl1 _ _ b off c u hc h3 h4 =>
    refine ⟨rfl, .inl hc, ?_⟩
    by_cases hlt : l < hi
    · rw [if_neg (by omega)]
      have hlen : ((xs.take hi).drop l).length = hi - l := by simp; omega
      have hget : ∀ (i : Nat) (x : t.den G.S), ((xs.take hi).drop l)[i]? = some x → xs[l + i]? = some x := by
        intro i x hi'
        rw [List.getElem?_drop, List.getElem?_take] at hi'
        split at hi'
        · exact hi'
        · cases hi'
      have hres : VR (G := G) w ok M (.sl t ((xs.take hi).drop l)) (.slice (some ⟨b, off + l * Ty.sz G t, none⟩) ((xs.take hi).drop l).length (c - l)) := by
        refine .sl1 t _ b _ _ (fun i j => u (l + i) j) (by rw [hlen]; omega) (fun i x j y hx hj => ?_) (fun i x j y hx hj => h4 _ _ _ _ (hget i x hx) hj)
        have := h3 _ _ _ _ (hget i x hx) hj
        have e : off + l * Ty.sz G t + (i * Ty.sz G t + j) = off + ((l + i) * Ty.sz G t + j) := by rw [Nat.add_mul]; omega
        rw [e]; exact this
      rw [hlen] at hres
      simp only [Option.map_some, addr_add]
      exact hres
    · have : hi = l := by omega
      subst this
      have : (xs.take hi).drop hi = [] := by apply List.drop_eq_nil_of_le; simp; omega
      rw [this, Nat.sub_self]
      exact .sl0 _ _ _

theorem bound_run {P : Program} {w : World} {k : IntKind} {i : Int} {y : Nat} {code : BoundsCode} (h0 : 0 ≤ i) (h1 : i ≤ y) : (Instr.sliceBound (.int k i) y code).run P w = .ok i.toNat w := by
  simp [Instr.sliceBound, asIntOf, h0, h1]

theorem slice_run {P : Program} {w : World} {t e : TypeId} {sz : Nat} {a : Option Addr} {n c : Nat} {lo hi : Option Value} {l h : Nat} (hu : P.underlying t = some (.slice e)) (hs : (sizeOf e).run P w = .ok sz w)
    (hhi : hi = none ∧ h = n ∨ ∃ k, hi = some (.int k (h : Int))) (hlo : lo = none ∧ l = 0 ∨ ∃ k, lo = some (.int k (l : Int))) (h1 : l ≤ h) (h2 : h ≤ c) :
    (Instr.sliceAt t (.slice a n c) lo hi none).run P w = .ok (.slice (if c = l then a else a.map (·.add (l * sz))) (h - l) (c - l)) w := by
  have hb : (Instr.sliceBounds true n c lo hi none).run P w = .ok (l, h, c) w := by
    rcases hhi with ⟨rfl, rfl⟩ | ⟨k, rfl⟩ <;> rcases hlo with ⟨rfl, rfl⟩ | ⟨k', rfl⟩ <;>
      simp [Instr.sliceBounds, bound_run, h1, h2]
  simp [Instr.sliceAt, Instr.slice, run_underlying hu, hb, hs]

theorem slice_str_run {P : Program} {w : World} {t : TypeId} {s : ByteArray} {lo hi : Option Value} {l h : Nat} (hu : P.underlying t = some .string)
    (hhi : hi = none ∧ h = s.size ∨ ∃ k, hi = some (.int k (h : Int))) (hlo : lo = none ∧ l = 0 ∨ ∃ k, lo = some (.int k (l : Int))) (h1 : l ≤ h) (h2 : h ≤ s.size) :
    (Instr.sliceAt t (.string s) lo hi none).run P w = .ok (.string (s.extract l h)) w := by
  have hb : (Instr.sliceBounds false s.size s.size lo hi none).run P w = .ok (l, h, s.size) w := by
    rcases hhi with ⟨rfl, rfl⟩ | ⟨k, rfl⟩ <;> rcases hlo with ⟨rfl, rfl⟩ | ⟨k', rfl⟩ <;>
      simp [Instr.sliceBounds, bound_run, h1, h2]
  simp [Instr.sliceAt, Instr.slice, run_underlying hu, hb]

/-- bounds of the evaluator and of the machine -/
def BdR (w : World) (ok : Okc) (M : Mem) (x : Option (V G.S)) (v : Option Value) : Prop := match x, v with
  | none, none => True
  | some x, some v => VR w ok M x v
  | _, _ => False

theorem sliceT_run (hS : SigOk G) {t : TypeId} {x : V G.S} {lo hi : Option (V G.S)} {st : St G.S} {k : K G} (h : (sliceT C t x lo hi st k).run G Φ f = some r) :
    ∃ v st' rd wr, st'.tm = st.tm ∧ st'.n0 = st.n0 ∧ (∀ (w0 : World) (Fp : Nat → Prop) (okA : Okc) (M : Mem) (ok : Okc) (w : World) (vx : Value) (vl vh : Option Value), MI C w0 Fp okA M ok st.L w → VR w ok M x vx → BdR w ok M lo vl → BdR w ok M hi vh →
      ∃ val ok', (Instr.sliceAt t vx vl vh none).run C.P w = .ok val w ∧ MI C w0 Fp okA M ok' st'.L w ∧ Ex M ok w M ok' w ∧ VR w ok' M v val) ∧ (k v st' rd wr).run G Φ f = some r := by
  have key : ∀ (l : Int) (h' : Option Int), (∀ (w : World) (ok : Okc) (M : Mem) (vl : Option Value), BdR w ok M lo vl → vl = none ∧ l = 0 ∨ ∃ k, vl = some (.int k l)) → (∀ (w : World) (ok : Okc) (M : Mem) (vh : Option Value), BdR w ok M hi vh → vh = none ∧ h' = none ∨ ∃ k n, vh = some (.int k n) ∧ h' = some n) →
      (sliceT.go C t x st k l h').run G Φ f = some r → ∃ v st' rd wr, st'.tm = st.tm ∧ st'.n0 = st.n0 ∧ (∀ (w0 : World) (Fp : Nat → Prop) (okA : Okc) (M : Mem) (ok : Okc) (w : World) (vx : Value) (vl vh : Option Value), MI C w0 Fp okA M ok st.L w → VR w ok M x vx → BdR w ok M lo vl → BdR w ok M hi vh →
      ∃ val ok', (Instr.sliceAt t vx vl vh none).run C.P w = .ok val w ∧ MI C w0 Fp okA M ok' st'.L w ∧ Ex M ok w M ok' w ∧ VR w ok' M v val) ∧ (k v st' rd wr).run G Φ f = some r := by
    clear h
    intro l h' hlo hhi h
    unfold sliceT.go at h
    split at h
    · rename_i s hu
      obtain ⟨q, hq, h⟩ := run_bnd h
      obtain ⟨c1, c2, c3, rfl⟩ := cut_ok hq
      refine ⟨_, st, _, _, rfl, rfl, fun w0 Fp okA M ok w vx vl vh hm hx hl hh => ?_, h⟩
      cases hx with
      | str b =>
        have hbs : b.data.toList.length = b.size := by rw [Array.length_toList]; rfl
        refine ⟨_, ok, slice_str_run (l := l.toNat) (h := (h'.getD (b.data.toList.length : Int)).toNat) hu ?_ ?_ (by omega) (by omega), hm, Ex.refl _ _ _, ?_⟩
        · rcases hhi w ok M vh hh with ⟨rfl, rfl⟩ | ⟨k, n, rfl, rfl⟩
          · left; simp [hbs]
          · right; simp only [Option.getD_some] at c2 ⊢; exact ⟨k, by congr 2; omega⟩
        · rcases hlo w ok M vl hl with ⟨rfl, rfl⟩ | ⟨k, rfl⟩
          · left; simp
          · right; exact ⟨k, by congr 2; omega⟩
        · rw [← extract_data]; exact .str _
    · rename_i e ty xs hu
      split at h
      · rename_i hsz
        obtain ⟨q, hq, h⟩ := run_bnd h
        obtain ⟨c1, c2, c3, rfl⟩ := cut_ok hq
        refine ⟨_, st, _, _, rfl, rfl, fun w0 Fp okA M ok w vx vl vh hm hx hl hh => ?_, h⟩
        obtain ⟨rd⟩ := rd_sl hS hx
        obtain ⟨a, c, us, rfl, _, _, _, _⟩ := rd
        obtain ⟨hn, hnc, hv⟩ := cut_vr hx (l := l.toNat) (hi := (h'.getD (xs.length : Int)).toNat) (by omega) (by omega)
        refine ⟨_, ok, slice_run (l := l.toNat) (h := (h'.getD (xs.length : Int)).toNat) hu (sizeT_run hsz) ?_ ?_ (by omega) (by omega), hm, Ex.refl _ _ _, hv⟩
        · rcases hhi w ok M vh hh with ⟨rfl, rfl⟩ | ⟨k, n, rfl, rfl⟩
          · left; simp
          · right; simp only [Option.getD_some] at c2 ⊢; exact ⟨k, by congr 2; omega⟩
        · rcases hlo w ok M vl hl with ⟨rfl, rfl⟩ | ⟨k, rfl⟩
          · left; simp
          · right; exact ⟨k, by congr 2; omega⟩
      · exact run_fail h
    · rename_i e o hu
      split at h
      · rename_i e' ty xs fz hL
        split at h
        · rename_i hsz
          obtain ⟨q, hq, h⟩ := run_bnd h
          obtain ⟨c1, c2, c3, rfl⟩ := cut_ok hq
          refine ⟨_, _, _, _, ?_, ?_, fun w0 Fp okA M ok w vx vl vh hm hx hl hh => ?_, h⟩
          · rfl
          · rfl
          obtain ⟨hm1, he1⟩ := hm.freeze [o]
          have hx1 := arr_sl hS hm hL hx (os := [o]) (by simp)
          obtain ⟨rd⟩ := rd_sl hS hx1
          obtain ⟨a, c, us, rfl, _, _, _, _⟩ := rd
          obtain ⟨hn, hnc, hv⟩ := cut_vr hx1 (l := l.toNat) (hi := (h'.getD (xs.length : Int)).toNat) (by omega) (by omega)
          refine ⟨_, _, slice_run (l := l.toNat) (h := (h'.getD (xs.length : Int)).toNat) hu (sizeT_run hsz) ?_ ?_ (by omega) (by omega), hm1, he1, hv⟩
          · rcases hhi w ok M vh hh with ⟨rfl, rfl⟩ | ⟨k, n, rfl, rfl⟩
            · left; simp
            · right; simp only [Option.getD_some] at c2 ⊢; exact ⟨k, by congr 2; omega⟩
          · rcases hlo w ok M vl hl with ⟨rfl, rfl⟩ | ⟨k, rfl⟩
            · left; simp
            · right; exact ⟨k, by congr 2; omega⟩
        · exact run_fail h
      · exact run_fail h
    · exact run_fail h
  unfold sliceT at h
  cases lo with
  | none =>
    dsimp only at h
    cases hi with
    | none => exact key 0 none (fun w ok M vl hb => by cases vl with | none => exact .inl ⟨rfl, rfl⟩ | some v => exact hb.elim) (fun w ok M vh hb => by cases vh with | none => exact .inl ⟨rfl, rfl⟩ | some v => exact hb.elim) h
    | some hv =>
      cases hv with
      | int kk n => exact key 0 (some n) (fun w ok M vl hb => by cases vl with | none => exact .inl ⟨rfl, rfl⟩ | some v => exact hb.elim) (fun w ok M vh hb => by cases vh with | none => exact hb.elim | some v => cases hb; exact .inr ⟨_, _, rfl, rfl⟩) h
      | _ => exact run_fail h
  | some lv =>
    cases lv with
    | int kl nl =>
      dsimp only at h
      cases hi with
      | none => exact key nl none (fun w ok M vl hb => by cases vl with | none => exact hb.elim | some v => cases hb; exact .inr ⟨_, rfl⟩) (fun w ok M vh hb => by cases vh with | none => exact .inl ⟨rfl, rfl⟩ | some v => exact hb.elim) h
      | some hv =>
        cases hv with
        | int kk n => exact key nl (some n) (fun w ok M vl hb => by cases vl with | none => exact hb.elim | some v => cases hb; exact .inr ⟨_, rfl⟩) (fun w ok M vh hb => by cases vh with | none => exact hb.elim | some v => cases hb; exact .inr ⟨_, _, rfl, rfl⟩) h
        | _ => exact run_fail h
    | _ => exact run_fail h

theorem sliceP_run (hS : SigOk G) {ty : Ty} {tt : TypeId} {xs : List (ty.den G.S)} {lo hi : Option (V G.S)} {st : St G.S} {k : K G} (h : (sliceT C tt (.sl ty xs) lo hi st k).run G Φ f = some r) :
    ∃ v, (∀ (w : World) (ok : Okc) (M : Mem) (vx : Value) (vl vh : Option Value), VR w ok M (.sl ty xs) vx → BdR w ok M lo vl → BdR w ok M hi vh →
      ∃ val, (Instr.sliceAt tt vx vl vh none).run C.P w = .ok val w ∧ VR w ok M v val) ∧ (k v st [] []).run G Φ f = some r := by
  have key : ∀ (l : Int) (h' : Option Int), (∀ (w : World) (ok : Okc) (M : Mem) (vl : Option Value), BdR w ok M lo vl → vl = none ∧ l = 0 ∨ ∃ k, vl = some (.int k l)) → (∀ (w : World) (ok : Okc) (M : Mem) (vh : Option Value), BdR w ok M hi vh → vh = none ∧ h' = none ∨ ∃ k n, vh = some (.int k n) ∧ h' = some n) →
      (sliceT.go C tt (.sl ty xs) st k l h').run G Φ f = some r → ∃ v, (∀ (w : World) (ok : Okc) (M : Mem) (vx : Value) (vl vh : Option Value), VR w ok M (.sl ty xs) vx → BdR w ok M lo vl → BdR w ok M hi vh →
      ∃ val, (Instr.sliceAt tt vx vl vh none).run C.P w = .ok val w ∧ VR w ok M v val) ∧ (k v st [] []).run G Φ f = some r := by
    clear h
    intro l h' hlo hhi h
    unfold sliceT.go at h
    split at h
    · rename_i hxx; cases hxx
    · rename_i e ty' xs' hu hxx
      cases hxx
      split at h
      · rename_i hsz
        obtain ⟨q, hq, h⟩ := run_bnd h
        obtain ⟨c1, c2, c3, rfl⟩ := cut_ok hq
        refine ⟨_, fun w ok M vx vl vh hx hl hh => ?_, h⟩
        obtain ⟨rd⟩ := rd_sl hS hx
        obtain ⟨a, c, us, rfl, _, _, _, _⟩ := rd
        obtain ⟨hn, hnc, hv⟩ := cut_vr hx (l := l.toNat) (hi := (h'.getD (xs.length : Int)).toNat) (by omega) (by omega)
        refine ⟨_, slice_run (l := l.toNat) (h := (h'.getD (xs.length : Int)).toNat) hu (sizeT_run hsz) ?_ ?_ (by omega) (by omega), hv⟩
        · rcases hhi w ok M vh hh with ⟨rfl, rfl⟩ | ⟨k, n, rfl, rfl⟩
          · left; simp
          · right; simp only [Option.getD_some] at c2 ⊢; exact ⟨k, by congr 2; omega⟩
        · rcases hlo w ok M vl hl with ⟨rfl, rfl⟩ | ⟨k, rfl⟩
          · left; simp
          · right; exact ⟨k, by congr 2; omega⟩
      · exact run_fail h
    · rename_i hxx; cases hxx
    · exact run_fail h
  unfold sliceT at h
  cases lo with
  | none =>
    dsimp only at h
    cases hi with
    | none => exact key 0 none (fun w ok M vl hb => by cases vl with | none => exact .inl ⟨rfl, rfl⟩ | some v => exact hb.elim) (fun w ok M vh hb => by cases vh with | none => exact .inl ⟨rfl, rfl⟩ | some v => exact hb.elim) h
    | some hv =>
      cases hv with
      | int kk n => exact key 0 (some n) (fun w ok M vl hb => by cases vl with | none => exact .inl ⟨rfl, rfl⟩ | some v => exact hb.elim) (fun w ok M vh hb => by cases vh with | none => exact hb.elim | some v => cases hb; exact .inr ⟨_, _, rfl, rfl⟩) h
      | _ => exact run_fail h
  | some lv =>
    cases lv with
    | int kl nl =>
      dsimp only at h
      cases hi with
      | none => exact key nl none (fun w ok M vl hb => by cases vl with | none => exact hb.elim | some v => cases hb; exact .inr ⟨_, rfl⟩) (fun w ok M vh hb => by cases vh with | none => exact .inl ⟨rfl, rfl⟩ | some v => exact hb.elim) h
      | some hv =>
        cases hv with
        | int kk n => exact key nl (some n) (fun w ok M vl hb => by cases vl with | none => exact hb.elim | some v => cases hb; exact .inr ⟨_, rfl⟩) (fun w ok M vh hb => by cases vh with | none => exact hb.elim | some v => cases hb; exact .inr ⟨_, _, rfl, rfl⟩) h
        | _ => exact run_fail h
    | _ => exact run_fail h

end

end Go.Dv

namespace Go.Dv

open Go

section

variable {G : Sig} {C : Cfg G} {Φ : FuncId → List Item → St G.S → Option (Ret G.S)} {f : FuncId} {r : Ret G.S}

section

variable {w0 : World} {Fp : Nat → Prop} {okA : Okc} {M : Mem} {ok : Okc} {L : List (Obj G.S)} {w w' : World}

/-- one object gives way to a new one, in the same block or in new memory -/
theorem MI.replace (h : MI C w0 Fp okA M ok L w) {o : Nat} {ob0 : Obj G.S} (ho : L[o]? = some ob0) (hl0 : ob0.live) (hnr : ∀ off, ¬ ob0.rd off) (x : MB) (ob : Obj G.S) (hg : w.grownBy w' (blk M o))
    (hx : ∀ b, x.blk = some b → w.heap.size ≤ b ∨ blk M o = some b) (hob : Ex M ok w (updM M L.length x) ok w' → OR w' ok (updM M L.length x) L.length ob) :
    MI C w0 Fp okA (updM M L.length x) ok (L.set o .dead ++ [ob]) w' ∧ Ex M ok w (updM M L.length x) ok w' := by
  have hno : ∀ b off, blk M o = some b → ¬ ok b off := fun b off hb hk => hnr off (h.own o ob0 b off ho hl0 hb hk)
  have he : Ex M ok w (updM M L.length x) ok w' := by
    refine ⟨fun i y hi => by rw [updM_ne _ _ (by have := h.dom i y hi; omega)]; exact hi, fun b off u hb hc => ⟨hb, ?_⟩⟩
    rw [cell_of_heap (hg.block b (h.lt b off hb) (fun e => hno b off e.symm hb))]
    exact hc
  have hlt : o < L.length := (List.getElem?_eq_some_iff.1 ho).1
  have split : ∀ (i : Nat) (y : Obj G.S), (L.set o .dead ++ [ob])[i]? = some y → (i < L.length ∧ i ≠ o ∧ L[i]? = some y) ∨ (i = L.length ∧ y = ob) ∨ (y = .dead) := by
    intro i y hi
    by_cases hil : i < L.length
    · rw [List.getElem?_append_left (by simpa using hil), List.getElem?_set] at hi
      by_cases e : o = i
      · subst e; rw [if_pos rfl, if_pos hlt] at hi; exact .inr (.inr (Option.some.inj hi).symm)
      · rw [if_neg e] at hi; exact .inl ⟨hil, fun q => e q.symm, hi⟩
    · rw [List.getElem?_append_right (by simp; omega)] at hi
      simp only [List.length_set] at hi
      have : i - L.length = 0 := by
        rcases Nat.eq_zero_or_pos (i - L.length) with h0 | h0
        · exact h0
        · rw [List.getElem?_eq_none (by simp; omega)] at hi; cases hi
      rw [this] at hi
      exact .inr (.inl ⟨by omega, by simpa using hi.symm⟩)
  have hbk : ∀ i, i < L.length → blk (updM M L.length x) i = blk M i := fun i hi => by rw [blk_updM, if_neg (by omega)]
  have hbn : blk (updM M L.length x) L.length = x.blk := by rw [blk_updM, if_pos rfl]
  have hne : ∀ (i : Nat) (y : Obj G.S) (k : Nat), i ≠ o → L[i]? = some y → y.live → blk M i = some k → blk M o ≠ some k := by
    intro i y k hi hy hly hk e
    exact hi (h.dis i o y ob0 k hy ho hly hl0 hk e)
  have hkeep : ∀ (i : Nat) (y : Obj G.S), i ≠ o → L[i]? = some y → y.live → ∀ k, blk M i = some k → w'.heap[k]? = w.heap[k]? := by
    intro i y hi hy hly k hk
    exact hg.block k (h.blk_lt hy hly hk) (fun e => hne i y k hi hy hly hk e.symm)
  refine ⟨⟨?_, ?_, ?_, ?_, ?_, h.rdA, fun b off hb => Nat.lt_of_lt_of_le (h.lt b off hb) hg.size, h.okN, h.glob.mono he.rd, hg.os.trans h.os, hg.tape.trans h.tape, hg.output.trans h.output, Nat.le_trans h.size hg.size, fun b hb hf => ?_, h.gt⟩, he⟩
  · intro i y hi
    rcases split i y hi with ⟨q1, q2, q3⟩ | ⟨rfl, rfl⟩ | rfl
    · cases y with
      | dead => trivial
      | box cs fz => exact (h.objs i _ q3).mono he (hkeep i _ q2 q3 trivial)
      | arr e t xs fz => exact (h.objs i _ q3).mono he (hkeep i _ q2 q3 trivial)
    · exact hob he
    · trivial
  · intro i y hi
    simp only [List.length_append, List.length_set, List.length_cons, List.length_nil]
    by_cases e : i = L.length
    · omega
    · rw [updM_ne _ _ e] at hi; have := h.dom i y hi; omega
  · intro o1 o2 ob1 ob2 b h1 h2 l1 l2 b1 b2
    rcases split o1 ob1 h1 with ⟨q1, k1, m1⟩ | ⟨q1, k1⟩ | rfl
    · rcases split o2 ob2 h2 with ⟨q2, k2, m2⟩ | ⟨q2, k2⟩ | rfl
      · rw [hbk _ q1] at b1; rw [hbk _ q2] at b2; exact h.dis o1 o2 ob1 ob2 b m1 m2 l1 l2 b1 b2
      · subst q2; rw [hbk _ q1] at b1; rw [hbn] at b2
        rcases hx b b2 with h3 | h3
        · have := h.blk_lt m1 l1 b1; omega
        · exact (hne o1 _ b k1 m1 l1 b1 h3).elim
      · exact l2.elim
    · rcases split o2 ob2 h2 with ⟨q2, k2, m2⟩ | ⟨q2, k2⟩ | rfl
      · subst q1; rw [hbk _ q2] at b2; rw [hbn] at b1
        rcases hx b b1 with h3 | h3
        · have := h.blk_lt m2 l2 b2; omega
        · exact (hne o2 _ b k2 m2 l2 b2 h3).elim
      · omega
      · exact l2.elim
    · exact l1.elim
  · intro i y b off hi hl hb hok
    rcases split i y hi with ⟨q1, q2, q3⟩ | ⟨rfl, rfl⟩ | rfl
    · rw [hbk _ q1] at hb; exact h.own i y b off q3 hl hb hok
    · rw [hbn] at hb
      rcases hx b hb with h3 | h3
      · have := h.lt b off hok; omega
      · exact (hno b off h3 hok).elim
    · exact hl.elim
  · intro i y b hi hl hb
    rcases split i y hi with ⟨q1, q2, q3⟩ | ⟨rfl, rfl⟩ | rfl
    · rw [hbk _ q1] at hb; exact h.old i y b q3 hl hb
    · rw [hbn] at hb
      rcases hx b hb with h3 | h3
      · exact .inl (Nat.le_trans h.size h3)
      · exact h.old o ob0 b ho hl0 h3
    · exact hl.elim
  · by_cases e : some b = blk M o
    · rcases h.old o ob0 b ho hl0 e.symm with h1 | h1
      · omega
      · exact (hf h1).elim
    · exact (hg.block b (Nat.lt_of_lt_of_le hb h.size) e).trans (h.frame b hb hf)

theorem bytesOk_info {e : TypeId} (h : bytesOk C e = true) : ∃ i z, C.P.info? e = some i ∧ i.zero = some z ∧ i.bytes ≤ 2048 ∧ 0 < i.size ∧ z.cells.size = i.size := by
  unfold bytesOk at h
  split at h
  · rename_i i hi
    split at h
    · rename_i z hz
      simp only [Bool.and_eq_true, decide_eq_true_eq] at h
      exact ⟨i, z, hi, hz, h.1.1, h.1.2, h.2⟩
    · cases h
  · cases h

/-- append, in the machine -/
theorem append_run {ta e : TypeId} {ty : TypeId} {t : Ty} (hu : C.P.underlying ta = some (.slice e)) (hb : bytesOk C e = true) (hsz : sizeT C e = some (Ty.sz G t)) (base : Nat) {v : Value} {n : Nat} {us : List Value}
    (hown : w.ownsRow base e (Ty.sz G t) v n us) (hbase : base ≤ w.heap.size) {ys : List (t.den G.S)} {vy : Value} (rd : Rd G w ok M t ys vy) (hbig : n + ys.length ≤ big) :
    ∃ v' w', (Builtin.append_ #[ta, ta] ty #[v, vy]).run C.P w = .ok v' w' ∧ w'.ownsRow base e (Ty.sz G t) v' (n + ys.length) (us ++ rd.us) ∧ w.grownBy w' v.ownBlock ∧ (∀ b, v'.ownBlock = some b → w.heap.size ≤ b ∨ v.ownBlock = some b) := by
  obtain ⟨i, z, hi, hz, h128, hpos, hzc⟩ := bytesOk_info hb
  obtain ⟨i', hi', his⟩ := sizeT_info hsz
  rw [hi] at hi'; cases hi'
  obtain ⟨a, c, ux, rfl, hlen, hcell, hone, hel⟩ := rd
  dsimp only
  have hbb : big = 68719476736 := rfl
  cases a with
  | none =>
    have hux : ux = [] := by
      cases ux with
      | nil => rfl
      | cons u r => obtain ⟨ad, h1, _⟩ := hcell 0 u rfl; cases h1
    subst hux
    have hy0 : ys.length = 0 := by
      simp only [List.length_nil] at hlen
      rcases Nat.eq_zero_or_pos ys.length with h | h
      · exact h
      · have := Nat.mul_pos h (show 0 < Ty.sz G t by rw [← his]; exact hpos); omega
    rw [hy0]
    refine ⟨v, w, ?_, by simpa using hown, ⟨rfl, rfl, rfl, Nat.le_refl _, fun _ _ _ => rfl⟩, fun b hb => .inr hb⟩
    rcases hown.2 with ⟨rfl, rfl⟩ | ⟨g, cap, cur, rfl, _, _, hnc, _⟩
    · simp [Builtin.append_, run_underlying hu, sizeOf, typeInfo, hi, Builtin.lenOf, Builtin.firstCells]
    · simp [Builtin.append_, run_underlying hu, sizeOf, typeInfo, hi, Builtin.lenOf, Builtin.firstCells, hnc, storeCells]
  | some ad =>
    obtain ⟨v', w', h1, h2, h3, _⟩ := run_append_own (P := C.P) w base ta ty e i z (Ty.sz G t) i.bytes hu hi hz his rfl (by rw [hzc, his]) (by rw [← his]; exact hpos) v n us hown ad ys.length c ux hlen
      (fun j u hj => by obtain ⟨ad', h1, h2⟩ := hcell j u hj; cases h1; exact h2) hone (by unfold maxLen; omega) (by
        calc (n + ys.length) * i.bytes ≤ big * 2048 := Nat.mul_le_mul hbig h128
          _ = 140737488355328 := by rw [hbb]) hbase
    refine ⟨v', w', h1, h2, h3, fun b hb => ?_⟩
    have hnews : ∀ j u, ux[j]? = some u → w.cell? (ad.add j) = some u := fun j u hj => by obtain ⟨ad', h1, h2⟩ := hcell j u hj; cases h1; exact h2
    rw [← his] at hlen hown
    rcases hown.2 with ⟨rfl, rfl⟩ | ⟨g, cap, cur, rfl, hbg, hg, hnc, hcm, hcs, htk⟩
    · by_cases hm : ys.length = 0
      · have hux : ux = [] := List.eq_nil_of_length_eq_zero (by rw [hlen, hm, Nat.zero_mul])
        subst hux
        have : (Builtin.append_ #[ta, ta] ty #[.slice none 0 0, .slice (some ad) ys.length c]).run C.P w = .ok (.slice none 0 0) w := by
          rw [hm]
          simp [Builtin.append_, run_underlying hu, sizeOf, typeInfo, hi, Builtin.lenOf, Builtin.firstCells, loadCells, loadCellsFrom]
        rw [this] at h1
        cases h1
        simp [Value.ownBlock] at hb
      · have hr := run_append_nil (P := C.P) w ta ty e i z hu hi hz ad ys.length c ux hlen hnews (by omega) (by omega) (by
          calc ys.length * i.bytes ≤ big * 2048 := Nat.mul_le_mul (by omega) h128
            _ ≤ 281474976710656 := by rw [hbb]; omega)
        rw [hr] at h1
        cases h1
        simp only [Value.ownBlock, Option.some.injEq] at hb
        exact .inl (by omega)
    · by_cases hroom : n + ys.length ≤ cap
      · obtain ⟨w'', hr, _⟩ := run_append_fits (P := C.P) w base ta ty e i i.size hu hi rfl g n cap us hown ad ys.length c ux hlen hnews hone hroom
        rw [hr] at h1
        cases h1
        exact .inr hb
      · have holds : ∀ j u, us[j]? = some u → w.cell? ((⟨g, 0, none⟩ : Addr).add j) = some u := hown.cells (g := g) rfl
        have hr := run_append_grow (P := C.P) w ta ty e i z hu hi hz ⟨g, 0, none⟩ n cap us hown.1 holds ad ys.length c ux hlen hnews (by omega) (by omega) (growslice_fits (by omega) (by
          calc (n + ys.length) * i.bytes ≤ big * 2048 := Nat.mul_le_mul hbig h128
            _ = 140737488355328 := by rw [hbb]))
        rw [hr] at h1
        cases h1
        simp only [Value.ownBlock, Option.some.injEq] at hb
        exact .inl (by omega)

theorem el_append {t : Ty} {xs ys : List (t.den G.S)} {us vs : List Value} (hS : SigOk G) (hl : us.length = xs.length * Ty.sz G t)
    (h1 : ∀ (i : Nat) (x : t.den G.S) (j : Nat) (y : V G.S) (u : Value), xs[i]? = some x → (Ty.cells G t x)[j]? = some y → us[i * Ty.sz G t + j]? = some u → VR w ok M y u)
    (h2 : ∀ (i : Nat) (x : t.den G.S) (j : Nat) (y : V G.S) (u : Value), ys[i]? = some x → (Ty.cells G t x)[j]? = some y → vs[i * Ty.sz G t + j]? = some u → VR w ok M y u) :
    ∀ (i : Nat) (x : t.den G.S) (j : Nat) (y : V G.S) (u : Value), (xs ++ ys)[i]? = some x → (Ty.cells G t x)[j]? = some y → (us ++ vs)[i * Ty.sz G t + j]? = some u → VR w ok M y u := by
  intro i x j y u hi hj hu
  have hjl : j < Ty.sz G t := by have := (List.getElem?_eq_some_iff.1 hj).1; rw [cells_len hS] at this; exact this
  by_cases hlt : i < xs.length
  · rw [List.getElem?_append_left hlt] at hi
    have : i * Ty.sz G t + j < us.length := by
      rw [hl]
      calc i * Ty.sz G t + j < i * Ty.sz G t + Ty.sz G t := by omega
        _ = (i + 1) * Ty.sz G t := by rw [Nat.add_mul, Nat.one_mul]
        _ ≤ xs.length * Ty.sz G t := Nat.mul_le_mul_right _ hlt
    rw [List.getElem?_append_left this] at hu
    exact h1 i x j y u hi hj hu
  · rw [List.getElem?_append_right (by omega)] at hi
    have hm : xs.length * Ty.sz G t ≤ i * Ty.sz G t := Nat.mul_le_mul_right _ (by omega)
    rw [List.getElem?_append_right (by omega)] at hu
    refine h2 (i - xs.length) x j y u hi hj ?_
    rw [← hu]; congr 1
    rw [Nat.sub_mul, hl]; omega

end

theorem app_ok {α : Type} {xs ys zs : List α} (h : app xs ys = some zs) : xs.length + ys.length ≤ big ∧ zs = xs ++ ys := by
  unfold app at h
  split at h
  · rename_i hc; cases h; exact ⟨hc, rfl⟩
  · cases h

theorem own_slice_of {w : World} {base : Nat} {e : TypeId} {size : Nat} {v : Value} {n : Nat} {us : List Value} (h : w.ownsRow base e size v n us) : ∃ a c, v = .slice a n c ∧ v.ownBlock = a.map (·.block) := by
  rcases h.2 with ⟨rfl, rfl⟩ | ⟨g, cap, cur, rfl, _⟩
  · exact ⟨none, 0, rfl, rfl⟩
  · exact ⟨some ⟨g, 0, none⟩, cap, rfl, rfl⟩

theorem appT_run (hS : SigOk G) {ta e ty : TypeId} {t : Ty} (hu : C.P.underlying ta = some (.slice e)) (hb : bytesOk C e = true) (hsz : sizeT C e = some (Ty.sz G t)) {s x : V G.S} {ys : List (t.den G.S)} {st : St G.S} (hys : ysOf st.L t x = some ys) {rd : List Nat} {k : K G}
    (h : (appT e t s ys st rd k).run G Φ f = some r) :
    ∃ v st' rd wr, st'.tm = st.tm ∧ st'.n0 = st.n0 ∧ (∀ (w0 : World) (Fp : Nat → Prop) (okA : Okc) (M : Mem) (ok : Okc) (w : World) (vs vx : Value), MI C w0 Fp okA M ok st.L w → VR w ok M s vs → VR w ok M x vx →
      ∃ val w' M' ok', (Builtin.append_ #[ta, ta] ty #[vs, vx]).run C.P w = .ok val w' ∧ MI C w0 Fp okA M' ok' st'.L w' ∧ Ex M ok w M' ok' w' ∧ VR w' ok' M' v val) ∧ (k v st' rd wr).run G Φ f = some r := by
  have hzpos : 0 < Ty.sz G t := by
    obtain ⟨i, z, hi, hz, h128, hpos, hzc⟩ := bytesOk_info hb
    obtain ⟨i', hi', his⟩ := sizeT_info hsz
    rw [hi] at hi'; cases hi'; rw [← his]; exact hpos
  unfold appT at h
  split at h
  · rename_i e' t'
    split at h
    · rename_i hc
      obtain ⟨rfl, rfl⟩ := hc
      obtain ⟨zs, hz, hk⟩ := run_bnd h
      clear h
      obtain ⟨hbig, hzs⟩ := app_ok hz
      clear hz
      rw [hzs] at hk
      refine ⟨_, _, _, _, ?_, ?_, fun w0 Fp okA M ok w vs vx hm hs hx => ?_, hk⟩
      · rfl
      · rfl
      cases hs
      obtain ⟨rd⟩ := ysOf_rd hS hm hys hx
      obtain ⟨v', w', h1, h2, h3, _⟩ := append_run (ty := ty) hu hb hsz w.heap.size (World.ownsRow_nil w w.heap.size e' (Ty.sz G t')) (Nat.le_refl _) rd (by simpa using hbig)
      simp only [Nat.zero_add, List.nil_append] at h2
      obtain ⟨a, c, rfl, hob⟩ := own_slice_of h2
      have hg : ∀ k, k < w.heap.size → w'.heap[k]? = w.heap[k]? := fun k hk => h3.block k hk (by simp [Value.ownBlock])
      have he := hm.ex_push (w' := w') (.arr a ys.length c e' (Ty.sz G t')) hg
      refine ⟨_, w', _, _, h1, hm.push (.arr a ys.length c e' (Ty.sz G t')) (.arr e' t' ([] ++ ys) false) h3.os h3.tape h3.output h3.size hg ?_ ?_, he, .arr _ a ys.length c e' (Ty.sz G t') (updM_same _ _ _)⟩
      · refine ⟨a, c, rd.us, updM_same _ _ _, ?_, hzpos, fun i x j y u p1 p2 p3 => (rd.el i x j y u p1 p2 p3).mono he⟩
        exact ⟨h2.1, by rcases h2.2 with q | ⟨g, cap, cur, q1, q2, q3⟩; · exact .inl q
                        · exact .inr ⟨g, cap, cur, q1, Nat.zero_le _, q3⟩⟩
      · intro b hb'
        simp only [MB.blk] at hb'
        rw [← hob] at hb'
        exact (h2.lt b hb').1
    · exact run_fail h
  · rename_i o
    split at h
    · rename_i e' t' xs hL
      split at h
      · rename_i he'
        subst he'
        split at h
        · rename_i ht
          subst ht
          obtain ⟨zs, hz, hk⟩ := run_bnd h
          clear h
          obtain ⟨hbig, hzs⟩ := app_ok hz
          clear hz
          rw [hzs] at hk
          refine ⟨_, _, _, _, ?_, ?_, fun w0 Fp okA M ok w vs vx hm hs hx => ?_, hk⟩
          · rfl
          · rfl
          obtain ⟨rds, hM, hown⟩ := rd_arr hS hm hL hs
          obtain ⟨rd⟩ := ysOf_rd hS hm hys hx
          obtain ⟨v', w', h1, h2, h3, h4⟩ := append_run (ty := ty) hu hb hsz 0 hown (Nat.zero_le _) rd hbig
          obtain ⟨a, c, rfl, hob⟩ := own_slice_of h2
          have hobk : (Value.slice rds.a xs.length rds.c).ownBlock = blk M o := by
            simp only [blk, hM, MB.blk, Option.bind_some]
            cases rds.a <;> rfl
          rw [rds.val, hobk] at h3
          have hsub : Ex M ok w (updM M st.L.length (.arr a (xs.length + ys.length) c e' (Ty.sz G t'))) ok w' → OR w' ok (updM M st.L.length (.arr a (xs.length + ys.length) c e' (Ty.sz G t'))) st.L.length (.arr e' t' (xs ++ ys) false) := by
            intro he
            refine ⟨a, c, rds.us ++ rd.us, by rw [List.length_append]; exact updM_same _ _ _, by rw [List.length_append]; exact h2, hzpos, ?_⟩
            exact el_append hS hown.1 (fun i x j y u p1 p2 p3 => (rds.el i x j y u p1 p2 p3).mono he) (fun i x j y u p1 p2 p3 => (rd.el i x j y u p1 p2 p3).mono he)
          have hrep := hm.replace (w' := w') (ob0 := .arr e' t' xs false) hL trivial (fun off hr => by simp [Obj.rd] at hr) (.arr a (xs.length + ys.length) c e' (Ty.sz G t')) (.arr e' t' (xs ++ ys) false) h3 ?_ hsub
          · exact ⟨_, w', _, _, h1, hrep.1, hrep.2, .arr _ a _ c e' (Ty.sz G t') (updM_same _ _ _)⟩
          · intro b hb'
            simp only [MB.blk] at hb'
            rw [← hobk, ← rds.val]
            exact h4 b (by rw [hob]; exact hb')
        · exact run_fail h
      · exact run_fail h
    · exact run_fail h
  · exact run_fail h

end

end Go.Dv

namespace Go.Dv

open Go

section

variable {G : Sig} {C : Cfg G} {Φ : FuncId → List Item → St G.S → Option (Ret G.S)} {f : FuncId} {r : Ret G.S}

section

variable {w0 : World} {Fp : Nat → Prop} {okA : Okc} {M : Mem} {ok : Okc} {L : List (Obj G.S)} {w w' : World}

theorem zeroV_ok {t : TypeId} {v : Value} {x : V G.S} (h : zeroV C t v = some x) : VR w ok M x v := by
  unfold zeroV at h
  split at h
  · cases h; exact .int _ _
  · cases h; exact .lb _
  · cases h; exact .str _
  · split at h
    · split at h
      · cases h; exact .nil _ _
      · cases h
    · cases h
  · cases h; exact .nilp
  · cases h

theorem zips_ok : ∀ {ts : List TypeId} {vs : List Value} {cs : List (V G.S)}, zips C ts vs = some cs → VRs w ok M cs vs
  | [], [], cs, h => by simp [zips] at h; subst h; exact .nil
  | t :: ts, v :: vs, cs, h => by
    simp only [zips] at h
    split at h
    · rename_i x y hx hy
      cases h
      exact .cons (zeroV_ok hx) (zips_ok hy)
    · cases h
  | [], _ :: _, cs, h => by simp [zips] at h
  | _ :: _, [], cs, h => by simp [zips] at h

theorem zeros_ok {t : TypeId} {cs : List (V G.S)} (h : zeros C t = some cs) : ∃ z, (∀ w, (zeroValue t).run C.P w = .ok z w) ∧ ∀ (w : World) (ok : Okc) (M : Mem), VRs w ok M cs z.cells.toList := by
  unfold zeros at h
  split at h
  · rename_i i hi
    split at h
    · rename_i z ts hz _
      exact ⟨z, fun w => by simp [zeroValue, typeInfo, hi, hz], fun w ok M => zips_ok h⟩
    · cases h
  · cases h

theorem zeros_info {t : TypeId} {cs : List (V G.S)} (h : zeros C t = some cs) : ∃ i z, C.P.info? t = some i ∧ i.zero = some z ∧ ∀ (w : World) (ok : Okc) (M : Mem), VRs w ok M cs z.cells.toList := by
  unfold zeros at h
  split at h
  · rename_i i hi
    split at h
    · rename_i z ts hz _
      exact ⟨i, z, hi, hz, fun w ok M => zips_ok h⟩
    · cases h
  · cases h

theorem foldl_set : ∀ (vs : List Value) (j off : Nat) (cs : Array Value), off + j + vs.length ≤ cs.size →
    ((vs.zipIdx j).foldl (fun (cs : Array Value) (p : Value × Nat) => cs.setIfInBounds (off + p.2) p.1) cs).toList = cs.toList.take (off + j) ++ vs ++ cs.toList.drop (off + j + vs.length)
  | [], j, off, cs, _ => by simp
  | v :: vs, j, off, cs, h => by
    simp only [List.zipIdx_cons, List.foldl_cons]
    rw [foldl_set vs (j + 1) off _ (by simp at h ⊢; omega)]
    simp only [List.length_cons] at h
    apply List.ext_getElem?
    intro q
    have e1 : (cs.setIfInBounds (off + j) v).toList = cs.toList.set (off + j) v := by simp
    rw [e1, show off + (j + 1) + vs.length = off + (j + 1) + vs.length from rfl, splice_get _ _ _ vs.length q rfl (by simp; omega)]
    rw [show off + j + (v :: vs).length = off + j + (vs.length + 1) from rfl, splice_get _ (v :: vs) (off + j) (vs.length + 1) q rfl (by simp; omega)]
    rw [List.getElem?_set]
    by_cases h1 : q < off + j
    · rw [if_pos (by omega), if_pos h1, if_neg (by omega)]
    · rw [if_neg h1]
      by_cases h2 : q = off + j
      · subst h2
        rw [if_pos (by omega), if_pos rfl, if_pos (by simp; omega), if_pos (by omega), Nat.sub_self]; rfl
      · rw [if_neg (by omega)]
        by_cases h3 : q < off + (j + 1) + vs.length
        · rw [if_pos h3, if_pos (by omega)]
          rw [show q - (off + j) = (q - (off + (j + 1))) + 1 by omega]; rfl
        · rw [if_neg h3, if_neg (by omega), if_neg (by omega)]

theorem fill_step {place : Nat → Option (Nat × Nat)} {cells : Array Value} {i off size : Nat} {v : Value} {rest : List (Nat × Value)} (hp : place i = some (off, size)) (hs : v.cells.size = size) (hf : off + size ≤ cells.size) :
    Instr.fill place cells ((i, v) :: rest) = Instr.fill place (cells.toList.take off ++ v.cells.toList ++ cells.toList.drop (off + size)).toArray rest := by
  simp only [Instr.fill, hp, hs]
  rw [if_neg (by simp; omega)]
  congr 1
  apply Array.toList_inj.1
  have := foldl_set v.cells.toList 0 off cells (by rw [Array.length_toList, hs]; omega)
  simp only [Nat.add_zero, Array.length_toList, hs] at this
  rw [← this, ← Array.foldl_toList]
  congr 1
  simp

theorem fillV_ok {place : Nat → Option (Nat × Nat)} : ∀ {l : List (Nat × V G.S)} {cells cs : List (V G.S)} {zs : List Value} {pv : List (Nat × Value)}, fillV place cells l = some cs → VRs w ok M cells zs → l.map (·.1) = pv.map (·.1) → VRs w ok M (l.map (·.2)) (pv.map (·.2)) →
    ∃ zs', Instr.fill place zs.toArray pv = some zs' ∧ VRs w ok M cs zs'.toList
  | [], cells, cs, zs, pv, h, hz, h1, _ => by
    simp [fillV] at h; subst h
    have : pv = [] := by cases pv <;> simp_all
    subst this
    exact ⟨zs.toArray, rfl, hz⟩
  | (i, x) :: rest, cells, cs, zs, pv, h, hz, h1, h2 => by
    cases pv with
    | nil => simp at h1
    | cons p pv =>
      obtain ⟨i', v⟩ := p
      simp only [List.map_cons, List.cons.injEq] at h1
      obtain ⟨rfl, h1⟩ := h1
      obtain ⟨v', l', e, hv, h2⟩ := h2.inv
      simp only [List.map_cons, List.cons.injEq] at e
      obtain ⟨rfl, rfl⟩ := e
      simp only [fillV] at h
      split at h
      · rename_i off size cx hp hc
        split at h
        · rename_i hlen
          have hcv := cellsL_ok hc hv
          have hsz : v.cells.size = size := by rw [← Array.length_toList, ← hcv.1]; exact hlen.1
          rw [fill_step hp hsz (by simp only [List.size_toArray]; rw [← hz.1]; exact hlen.2)]
          exact fillV_ok h (((hz.take off).append hcv).append (hz.drop _)) h1 h2
        · cases h
      · cases h

end

theorem mapM_run {α β : Type} {P : Program} {w : World} (g : α → Sem β) (q : α → β) : ∀ (l : List α), (∀ x ∈ l, (g x).run P w = .ok (q x) w) → (l.mapM g).run P w = .ok (l.map q) w
  | [], _ => by simp
  | x :: l, h => by
    rw [List.mapM_cons]
    simp [h x (by simp), mapM_run g q l (fun y hy => h y (by simp [hy]))]

end

end Go.Dv

namespace Go.Dv

open Go

section

variable {G : Sig}

/-- the machine runs on from here to the function's end -/
def Runs (P : Program) (b : Frame) (cs : List Frame) (a : Act) (todo : List Item) (w : World) (R : Value → World → Prop) : Prop :=
  ∃ v w' fr, R v w' ∧ Steps P (lone (b.at a todo) cs w) (lone fr cs w') ∧ fr.fn = b.fn ∧ fr.leaving P w' (.returned v)

/-- what a call has left -/
structure Post (w0 : World) (Fp : Nat → Prop) (okA : Okc) (r : Ret G.S) (v : Value) (w' : World) : Prop where
  res : ∃ ok', VR w' ok' (fun _ => none) r.1 v ∧ (∀ b off, ok' b off → okA b off ∨ w0.heap.size ≤ b ∨ Fp b) ∧ (∀ b off, ok' b off → b < w'.heap.size) ∧ r.1.clo 21 = true
  os : w'.os = w0.os
  tape : w'.tape = w0.tape
  output : w'.output = w0.output
  size : w0.heap.size ≤ w'.heap.size
  frame : ∀ b, b < w0.heap.size → ¬ Fp b → w'.heap[b]? = w0.heap[b]?

def PhiOK (C : Cfg G) (Φ : FuncId → List Item → St G.S → Option (Ret G.S)) : Prop :=
  ∀ f todo st r, Φ f todo st = some r → ∀ (w0 : World) (Fp : Nat → Prop) (okA : Okc) (M : Mem) (ok : Okc) (b : Frame) (cs : List Frame) (a : Act) (w : World),
    b.fn = f → b.kind = .normal → a.defers = [] → MI C w0 Fp okA M ok st.L w → TR w ok M st.tm a → Runs C.P b cs a todo w (Post w0 Fp okA r)

def encStr (s : List UInt8) : Value := .string ⟨s.toArray⟩

structure ExtOK (C : Cfg G) : Prop where
  ext : ∀ f rt g vs p, C.ext f = some ⟨rt, g⟩ → g vs = some p → ∀ (okA : Okc) (w : World) (vals : List Value), (∀ b off, okA b off → b < w.heap.size) → GlobX C w okA → VRs w okA (fun _ => none) vs vals →
    ∃ r, prjR G rt r = some p ∧ Calls C.P f vals.toArray w (fun e w' => ∃ v, e = .returned v ∧ Post w (fun _ => False) okA (r, []) v w')
  own : ∀ f e g vs xs, C.own f = some (e, g) → g vs = some xs → ∀ (okA : Okc) (w : World) (vals : List Value), (∀ b off, okA b off → b < w.heap.size) → GlobX C w okA → VRs w okA (fun _ => none) vs vals →
    Calls C.P f vals.toArray w (fun en w' => ∃ v', en = .returned v' ∧ w'.ownsRow w.heap.size e 1 v' xs.length (xs.map encStr) ∧ w.grownBy w' none)
  eat : ∀ f e g xs ys, C.eat f = some (e, g) → g xs = some ys → ∀ (w : World) (v : Value), w.ownsRow 0 e 1 v xs.length (xs.map encStr) → 
    Calls C.P f #[v] w (fun en w' => ∃ v', en = .returned v' ∧ w'.ownsRow 0 e 1 v' ys.length (ys.map encStr) ∧ w.grownBy w' v.ownBlock ∧ ∀ b, v'.ownBlock = some b → w.heap.size ≤ b ∨ v.ownBlock = some b)

variable {C : Cfg G} {Φ : FuncId → List Item → St G.S → Option (Ret G.S)} {f : FuncId} {r : Ret G.S}

theorem V.clo_sl (t : Ty) (xs : List (t.den G.S)) (n : Nat) (h : t.np = true) : (V.sl (S := G.S) t xs).clo (n + 1) = true := h

theorem inj_clo (t : Ty) (x : t.den G.S) (n : Nat) (h : t.np = true) : (inj G t x).clo (n + 1) = true := by
  cases t with
  | sl t => exact h
  | ptr t => cases h
  | _ => rfl

theorem injR_clo : ∀ (rt : List Ty) (p : rDen G.S rt), rt.all Ty.np = true → (injR G rt p).clo 21 = true
  | [], p, _ => rfl
  | [t], p, h => inj_clo t p 20 (by simpa using h)
  | t :: u :: r, p, h => by
    have go : ∀ (rt : List Ty) (p : rDen G.S rt), rt.all Ty.np = true → (injR.go G rt p).all (V.clo 20) = true := by
      intro rt
      induction rt with
      | nil => intro p _; rfl
      | cons t r ih =>
        intro p h
        simp only [List.all_cons, Bool.and_eq_true] at h
        cases r with
        | nil => simp only [injR.go, List.all_cons, List.all_nil, Bool.and_true]; exact inj_clo t p 19 h.1
        | cons u r => simp only [injR.go, List.all_cons, Bool.and_eq_true]; exact ⟨inj_clo t p.1 19 h.1, ih p.2 h.2⟩
    simp only [List.all_cons, Bool.and_eq_true] at h
    show (inj G t p.1 :: injR.go G (u :: r) p.2).all (V.clo 20) = true
    simp only [List.all_cons, Bool.and_eq_true]
    exact ⟨inj_clo t p.1 19 h.1, go (u :: r) p.2 (by simpa using h.2)⟩

theorem prjs_one (t : Ty) (v : V G.S) : prjs G [t] [v] = prj G t v := rfl

theorem prjs_cons (t u : Ty) (r : List Ty) (v : V G.S) (vs : List (V G.S)) : prjs G (t :: u :: r) (v :: vs) = (match prj G t v with
    | some x => match prjs G (u :: r) vs with
      | some y => some (x, y)
      | none => none
    | none => none : Option (t.den G.S × rDen G.S (u :: r))) := rfl

theorem prjs_n0 (v : V G.S) (vs : List (V G.S)) : prjs G [] (v :: vs) = none := rfl

theorem prjs_n1 (t : Ty) (r : List Ty) : prjs G (t :: r) [] = none := by cases r <;> rfl

theorem prjs_n2 (t : Ty) (v u : V G.S) (vs : List (V G.S)) : prjs G [t] (v :: u :: vs) = none := rfl

theorem prjs_ok (hS : SigOk G) {w : World} {ok : Okc} {M : Mem} : ∀ (rt : List Ty) (vs : List (V G.S)) (p : rDen G.S rt) (l : List Value), prjs G rt vs = some p → VRs w ok M vs l → VRs w ok M (injR.go G rt p) l := by
  intro rt
  induction rt with
  | nil =>
    intro vs p l h hv
    cases vs with
    | nil => exact hv
    | cons v vs => rw [prjs_n0] at h; cases h
  | cons t r ih =>
    intro vs p l h hv
    cases vs with
    | nil => rw [prjs_n1] at h; cases h
    | cons v vs =>
      obtain ⟨x, l', rfl, h1, h2⟩ := hv.inv
      cases r with
      | nil =>
        cases vs with
        | nil => rw [prjs_one] at h; exact .cons (prj_ok hS h h1).2 h2
        | cons u vs => rw [prjs_n2] at h; cases h
      | cons u r =>
        rw [prjs_cons] at h
        cases hy : prj G t v with
        | none => rw [hy] at h; cases h
        | some y =>
          rw [hy] at h
          cases hz : prjs G (u :: r) vs with
          | none => rw [hz] at h; cases h
          | some z =>
            rw [hz] at h
            cases h
            exact .cons (prj_ok hS hy h1).2 (ih vs z l' hz h2)

theorem prjR_cons (t u : Ty) (r : List Ty) (vs : List (V G.S)) : prjR G (t :: u :: r) (.tup vs) = prjs G (t :: u :: r) vs := rfl

theorem prjR_none (t u : Ty) (r : List Ty) (v : V G.S) (h : ∀ vs, v ≠ .tup vs) : prjR G (t :: u :: r) v = none := by
  cases v <;> first | rfl | exact (h _ rfl).elim

theorem prjR_ok (hS : SigOk G) {w : World} {ok : Okc} {M : Mem} {rt : List Ty} {v : V G.S} {p : rDen G.S rt} {val : Value} (h : prjR G rt v = some p) (hv : VR w ok M v val) : VR w ok M (injR G rt p) val := by
  cases rt with
  | nil =>
    cases v with
    | tup vs =>
      cases vs with
      | nil => exact hv
      | cons => cases h
    | _ => cases h
  | cons t r =>
    cases r with
    | nil => exact (prj_ok hS (show prj G t v = some p from h) hv).2
    | cons u r =>
      by_cases hc : ∃ vs, v = .tup vs
      · obtain ⟨vs, rfl⟩ := hc
        rw [prjR_cons] at h
        cases hv with
        | tup _ l hl hh =>
          have := prjs_ok hS _ _ _ _ h ⟨hl, hh⟩
          exact .tup _ _ this.1 this.2
      · rw [prjR_none t u r v (fun vs e => hc ⟨vs, e⟩)] at h
        cases h

theorem flat_any {w : World} {ok ok' : Okc} {M M' : Mem} {w2 : World} : ∀ (rt : List Ty) (p : rDen G.S rt) (v : Value), rt.all Ty.flat = true → VR w ok M (injR G rt p) v → VR w2 ok' M' (injR G rt p) v
  | [], p, v, _, h => by
    cases h with
    | tup _ l hl hh => exact .tup _ _ hl (fun j y v hj => by simp at hj)
  | [t], p, v, hf, h => by
    have ht : t.flat = true := by simpa using hf
    cases t with
    | int k => cases h; exact .int _ _
    | bool => cases h; exact .bool _
    | str => cases h; exact .str _
    | _ => cases ht
  | t :: u :: r, p, v, hf, h => by
    have one : ∀ (t : Ty) (x : t.den G.S) (v : Value), t.flat = true → VR w ok M (inj G t x) v → VR w2 ok' M' (inj G t x) v := by
      intro t x v ht h
      cases t with
      | int k => cases h; exact .int _ _
      | bool => cases h; exact .bool _
      | str => cases h; exact .str _
      | _ => cases ht
    have go : ∀ (rt : List Ty) (p : rDen G.S rt) (l : List Value), rt.all Ty.flat = true → VRs w ok M (injR.go G rt p) l → VRs w2 ok' M' (injR.go G rt p) l := by
      intro rt
      induction rt with
      | nil => intro p l _ h; exact ⟨h.1, fun j y v hj => by simp [injR.go] at hj⟩
      | cons t r ih =>
        intro p l hf h
        simp only [List.all_cons, Bool.and_eq_true] at hf
        cases r with
        | nil =>
          simp only [injR.go] at h ⊢
          obtain ⟨v, l', rfl, h1, h2⟩ := h.inv
          exact .cons (one t p v hf.1 h1) ⟨h2.1, fun j y v hj => by simp at hj⟩
        | cons u r =>
          simp only [injR.go] at h ⊢
          obtain ⟨v, l', rfl, h1, h2⟩ := h.inv
          exact .cons (one t p.1 v hf.1 h1) (ih p.2 l' hf.2 h2)
    cases h with
    | tup _ l hl hh =>
      have := go (t :: u :: r) p l hf ⟨hl, hh⟩
      exact .tup _ _ this.1 this.2

/-- behind a call: what it hands back, in the caller's state -/
theorem back_ok (hS : SigOk G) {w0 : World} {Fp : Nat → Prop} {okA : Okc} {M : Mem} {ok : Okc} {st : St G.S} {w : World} (hm : MI C w0 Fp okA M ok st.L w) {os : List Nat} {rt : List Ty} (hnp : rt.all Ty.np = true) {ret : Ret G.S} {v : Value} {w' : World}
    (hp : Post w (fun _ => False) (okF M ok st.L os) ret v w') {p : rDen G.S rt} (hr : prjR G rt ret.1 = some p) {k : K G} (h : (backT rt os p st k).run G Φ f = some r) :
    ∃ v' st' rd wr, (v' = injR G rt p ∧ st' = (if rt.all Ty.flat then st else { st with L := freeze st.L os })) ∧ (∃ M' ok', MI C w0 Fp okA M' ok' st'.L w' ∧ Ex M ok w M' ok' w' ∧ VR w' ok' M' v' v) ∧ (k v' st' rd wr).run G Φ f = some r := by
  obtain ⟨ok2, hv, hsub, hlt, hclo⟩ := hp.res
  have hg : ∀ k, k < w.heap.size → w'.heap[k]? = w.heap[k]? := fun k hk => hp.frame k hk (fun h => h)
  have hv2 := prjR_ok hS hr hv
  unfold backT at h
  split at h
  · rename_i hf
    obtain ⟨hm2, he2⟩ := hm.grow (w' := w') (fun _ _ => False) hp.os hp.tape hp.output hp.size hg (fun _ _ h => h.elim)
    exact ⟨_, st, _, _, ⟨rfl, by rw [if_pos hf]⟩, ⟨M, _, hm2, he2, flat_any rt p v hf hv2⟩, h⟩
  · rename_i hf
    obtain ⟨hm1, he1⟩ := hm.freeze os
    obtain ⟨hm2, he2⟩ := hm1.grow (w' := w') (fun b off => ok2 b off ∧ w.heap.size ≤ b) hp.os hp.tape hp.output hp.size hg (fun b off h => ⟨h.2, hlt b off h.1⟩)
    refine ⟨_, _, _, _, ⟨rfl, by rw [if_neg hf]⟩, ⟨M, _, hm2, he1.trans he2, ?_⟩, h⟩
    refine (hv2.anyM hS M 21 (injR_clo rt p hnp)).mono ⟨fun _ _ h => h, fun b off u hb hc => ⟨?_, hc⟩⟩
    rcases hsub b off hb with h1 | h1 | h1
    · exact .inl h1
    · exact .inr ⟨hb, h1⟩
    · exact h1.elim

theorem forceL_eq (l : List (V G.S)) (k : List (V G.S) → Tree G.S) : forceL l k = k l := by
  induction l generalizing k with
  | nil => rfl
  | cons v r ih =>
    have hf : ∀ (v : V G.S) (k : V G.S → Tree G.S), v.force k = k v := by
      intro v k
      cases v with
      | lb b => cases b <;> rfl
      | _ => rfl
    simp only [forceL, hf, ih]

theorem force_eq (v : V G.S) (k : V G.S → Tree G.S) : v.force k = k v := by
  cases v with
  | lb b => cases b <;> rfl
  | _ => rfl

theorem deep_eq (v : V G.S) (k : V G.S → Tree G.S) : v.deep k = k v := by
  cases v <;> simp only [V.deep, forceL_eq, force_eq]

theorem forceO_eq (l : List (Obj G.S)) (k : List (Obj G.S) → Tree G.S) : forceO l k = k l := by
  induction l generalizing k with
  | nil => rfl
  | cons o r ih =>
    cases o with
    | box cs fz => cases fz <;> simp only [forceO, forceL_eq, ih]
    | arr e t xs fz => cases fz <;> simp only [forceO, ih]
    | dead => simp only [forceO, ih]

theorem setF_eq : ∀ (l : List (V G.S)) (d : Nat) (v : V G.S) (k : List (V G.S) → Tree G.S), setF l d v k = k (l.set d v)
  | [], d, v, k => by simp [setF]
  | a :: r, 0, v, k => rfl
  | a :: r, d + 1, v, k => by simp only [setF, setF_eq r d v, List.set_cons_succ]

theorem putF_eq (st : St G.S) (d : Option Nat) (v : V G.S) (k : St G.S → Tree G.S) : putF st d v k = k (st.put d v) := by
  obtain ⟨tm, L, n0⟩ := st
  cases d with
  | none => simp only [putF, forceO_eq, St.put]
  | some d => simp only [putF, forceO_eq, deep_eq, setF_eq, St.put]

/-- the state in which a callee begins -/
theorem enter_mi {w0 : World} {Fp : Nat → Prop} {okA : Okc} {M : Mem} {ok : Okc} {L : List (Obj G.S)} {w : World} (hm : MI C w0 Fp okA M ok L w) : MI C w (fun _ => False) ok (fun _ => none) ok [] w :=
  ⟨fun o ob h => by simp at h, fun o x h => by simp at h, fun o1 o2 ob1 ob2 b h => by simp at h, fun o ob b off h => by simp at h, fun o ob b h => by simp at h, fun _ _ h => h, hm.lt, fun _ _ h => .inl h, hm.glob, rfl, rfl, rfl, Nat.le_refl _, fun _ _ _ => rfl, hm.globX.2⟩

theorem enter_tr {w : World} {ok : Okc} {vs : List (V G.S)} {vals : List Value} {n : Nat} (hv : VRs w ok (fun _ => none) vs vals) (hn : vs.length ≤ n) :
    TR w ok (fun _ => none) (vs ++ List.replicate (n - vs.length) .un) { tmps := vals.toArray ++ Array.replicate (n - vals.toArray.size) undef, defers := [] } := by
  refine ⟨by simp [hv.1], fun i y hi => ?_⟩
  by_cases hlt : i < vs.length
  · rw [List.getElem?_append_left hlt] at hi
    have hl : i < vals.length := by rw [← hv.1]; exact hlt
    have : (vals.toArray ++ Array.replicate (n - vals.toArray.size) undef).getD i undef = vals[i] := by
      simp [Array.getD_eq_getD_getElem?, Array.getElem?_append, hl]
    dsimp only
    rw [this]
    exact hv.2 i y _ hi (List.getElem?_eq_getElem hl)
  · rw [List.getElem?_append_right (by omega)] at hi
    have : y = .un := by
      rw [List.getElem?_replicate] at hi
      split at hi
      · exact (Option.some.inj hi).symm
      · cases hi
    subst this
    exact .un _

theorem calls_of_phi (hΦ : PhiOK C Φ) {g : FuncId} {fn : Func} {body : Code} (hf : C.P.funcs[g]? = some fn) (hb : fn.body = some body) {w0 : World} {Fp : Nat → Prop} {okA : Okc} {M : Mem} {ok : Okc} {L : List (Obj G.S)} {w : World}
    (hm : MI C w0 Fp okA M ok L w) {vs : List (V G.S)} {vals : List Value} (hv : VRs w ok (fun _ => none) vs vals) (hn : vs.length ≤ fn.ntmps) {ret : Ret G.S}
    (h : Φ g [.code body] ⟨vs ++ List.replicate (fn.ntmps - vs.length) .un, [], 0⟩ = some ret) :
    Calls C.P g vals.toArray w (fun e w' => ∃ v, e = .returned v ∧ Post w (fun _ => False) ok ret v w') := by
  intro cs
  let b : Frame := { (default : Frame) with fn := g, kind := .normal }
  have henter : Frame.enter C.P g vals.toArray .normal = b.at { tmps := vals.toArray ++ Array.replicate (fn.ntmps - vals.toArray.size) undef, defers := [] } [.code body] := by
    simp [Frame.enter, Frame.at, hf, hb, b]
  obtain ⟨v, w', fr, hR, hst, hfn, hlv⟩ := hΦ g _ _ ret h w (fun _ => False) ok (fun _ => none) ok b cs _ w rfl rfl rfl (enter_mi hm) (enter_tr hv hn)
  rw [henter]
  exact ⟨.returned v, w', fr, ⟨v, rfl, hR⟩, hst, hfn, hlv⟩

end

end Go.Dv

namespace Go.Dv

open Go

section

variable {G : Sig} {C : Cfg G} {Φ : FuncId → List Item → St G.S → Option (Ret G.S)} {f : FuncId} {r : Ret G.S}

theorem run_call {g : Nat} {todo : List Item} {st : St G.S} {rt : List Ty} {k : rDen G.S rt → Tree G.S} (h : (Tree.call g todo st rt k).run G Φ f = some r) :
    ∃ ret p, Φ g todo st = some ret ∧ prjR G rt ret.1 = some p ∧ (k p).run G Φ f = some r := by
  simp only [Tree.run] at h
  cases h1 : Φ g todo st with
  | none => rw [h1] at h; cases h
  | some ret =>
    rw [h1] at h
    simp only [Option.bind_some] at h
    cases h2 : prjR G rt ret.1 with
    | none => rw [h2] at h; cases h
    | some p => rw [h2] at h; exact ⟨ret, p, rfl, h2, h⟩

theorem callFunc_run {P : Program} {g : FuncId} {fn : Func} (hf : P.funcs[g]? = some fn) (hn : (fn.name == "runtime.NumGoroutine") = false) {body : Code} (hb : fn.body = some body) (args : Array Value) (w : World) : (callFunc g args).run P w = .ok (.enter g args) w := by
  have hn' : ¬ fn.name = "runtime.NumGoroutine" := by simpa using hn
  simp [callFunc, hf, hn', hb]

theorem normA_ok (hS : SigOk G) {w : World} {ok : Okc} {M : Mem} : ∀ {ts : List TypeId} {vs us : List (V G.S)} {l : List Value}, normA ts vs = some us → VRs w ok M vs l → VRs w ok M us l
  | [], vs, us, l, h, hv => by simp [normA] at h; subst h; exact hv
  | t :: ts, [], us, l, h, hv => by simp [normA] at h
  | t :: ts, v :: vs, us, l, h, hv => by
    obtain ⟨u, l', rfl, h1, h2⟩ := hv.inv
    simp only [normA] at h
    split at h
    · split at h
      · rename_i ty hty x l2 hx hl2
        cases h
        exact .cons (prj_ok hS hx h1).2 (normA_ok hS hl2 h2)
      · cases h
    · split at h
      · rename_i l2 hl2
        cases h
        exact .cons h1 (normA_ok hS hl2 h2)
      · cases h

theorem freeze_nil (L : List (Obj G.S)) : freeze L [] = L := by
  apply List.ext_getElem?
  intro o
  rw [freeze_get]
  cases L[o]? with
  | none => rfl
  | some ob => cases ob <;> rfl

theorem callP_ok (hS : SigOk G) (hΦ : PhiOK C Φ) (hE : ExtOK C) {g : FuncId} {args : List (V G.S)} {st : St G.S} {k : K G} (h : (callP C g args st k).run G Φ f = some r) :
    ∃ v' st' rd wr, (st'.tm = st.tm ∧ st'.n0 = st.n0 ∧ (wr = [] → st'.L = st.L)) ∧ (∀ (w0 : World) (Fp : Nat → Prop) (okA : Okc) (M : Mem) (ok : Okc) (w : World) (vals : List Value), MI C w0 Fp okA M ok st.L w → VRs w ok M args vals →
      (callFunc g vals.toArray).run C.P w = .ok (.enter g vals.toArray) w ∧ Calls C.P g vals.toArray w (fun e w' => ∃ v M' ok', e = .returned v ∧ MI C w0 Fp okA M' ok' st'.L w' ∧ Ex M ok w M' ok' w' ∧ VR w' ok' M' v' v)) ∧
      (k v' st' rd wr).run G Φ f = some r := by
  unfold callP at h
  split at h
  · exact run_fail h
  · rename_i fn hf
    split at h
    · rename_i rt body hrt hb
      split at h
      · rename_i hc
        obtain ⟨hname, hnp⟩ := hc
        split at h
        · rename_i vs hs0
          obtain ⟨vs0, hs, hno⟩ := Option.bind_eq_some_iff.1 hs0
          split at h
          · rename_i hcl
            obtain ⟨hclo, hlen⟩ := hcl
            have clo : ∀ (w : World) (ok : Okc) (M : Mem) (vals : List Value), VRs w ok M vs vals → VRs w ok (fun _ => none) vs vals := fun w ok M vals hv => ⟨hv.1, fun j y v hj hv' => (hv.2 j y v hj hv').anyM hS _ 20 (by rw [List.all_eq_true] at hclo; exact hclo y (List.mem_of_getElem? hj))⟩
            split at h
            · rename_i rt2 gx hx
              split at h
              · rename_i hrt2
                subst hrt2
                rw [forceL_eq] at h
                obtain ⟨p, hg, h⟩ := run_bnd h
                have hk := h
                unfold backT at hk
                have fin : ∃ v' st' rd wr, (v' = injR G rt2 p ∧ st' = (if rt2.all Ty.flat then st else { st with L := freeze st.L (reachs st.L args) })) ∧ (wr = [] → st'.L = st.L) ∧ (k v' st' rd wr).run G Φ f = some r := by
                  split at hk
                  · rename_i hf; exact ⟨_, _, _, _, ⟨rfl, by rw [if_pos hf]⟩, fun _ => rfl, hk⟩
                  · rename_i hf; exact ⟨_, _, _, _, ⟨rfl, by rw [if_neg hf]⟩, fun e => by simp only [e, freeze_nil], hk⟩
                obtain ⟨v', st', rd, wr, ⟨hv', hst'⟩, hwr, hfin⟩ := fin
                refine ⟨v', st', rd, wr, ⟨by subst hst'; split <;> rfl, by subst hst'; split <;> rfl, hwr⟩, fun w0 Fp okA M ok w vals hm hv => ⟨callFunc_run hf hname hb _ _, ?_⟩, hfin⟩
                obtain ⟨hm1, he1⟩ := hm.freeze (reachs st.L args)
                have hsn := normA_ok hS hno (snaps_ok hS hm (os := reachs st.L args) hs (fun o ho => by simpa using ho) hv)
                obtain ⟨rv, hp, hcall⟩ := hE.ext g _ gx vs p hx hg (okF M ok st.L (reachs st.L args)) w vals hm1.lt hm1.globX (clo _ _ _ _ hsn)
                refine hcall.mono ?_
                rintro e w' ⟨v, rfl, hpost⟩
                obtain ⟨v2, st2, rd2, wr2, ⟨hv2, hst2⟩, ⟨M', ok', h1, h2, h3⟩, _⟩ := back_ok (C := C) (Φ := Φ) (f := f) (r := r) hS hm hnp hpost hp h
                subst hv2; subst hst2; subst hv'; subst hst'
                exact ⟨v, M', ok', rfl, h1, h2, h3⟩
              · exact run_fail h
            · rename_i hx
              rw [forceL_eq] at h
              obtain ⟨ret, p, hphi, hp, h⟩ := run_call h
              have hk := h
              unfold backT at hk
              have fin : ∃ v' st' rd wr, (v' = injR G rt p ∧ st' = (if rt.all Ty.flat then st else { st with L := freeze st.L (reachs st.L args) })) ∧ (wr = [] → st'.L = st.L) ∧ (k v' st' rd wr).run G Φ f = some r := by
                split at hk
                · rename_i hf; exact ⟨_, _, _, _, ⟨rfl, by rw [if_pos hf]⟩, fun _ => rfl, hk⟩
                · rename_i hf; exact ⟨_, _, _, _, ⟨rfl, by rw [if_neg hf]⟩, fun e => by simp only [e, freeze_nil], hk⟩
              obtain ⟨v', st', rd, wr, ⟨hv', hst'⟩, hwr, hfin⟩ := fin
              refine ⟨v', st', rd, wr, ⟨by subst hst'; split <;> rfl, by subst hst'; split <;> rfl, hwr⟩, fun w0 Fp okA M ok w vals hm hv => ⟨callFunc_run hf hname hb _ _, ?_⟩, hfin⟩
              obtain ⟨hm1, he1⟩ := hm.freeze (reachs st.L args)
              have hsn := normA_ok hS hno (snaps_ok hS hm (os := reachs st.L args) hs (fun o ho => by simpa using ho) hv)
              refine (calls_of_phi hΦ hf hb hm1 (clo _ _ _ _ hsn) hlen hphi).mono ?_
              rintro e w' ⟨v, rfl, hpost⟩
              obtain ⟨v2, st2, rd2, wr2, ⟨hv2, hst2⟩, ⟨M', ok', h1, h2, h3⟩, _⟩ := back_ok (C := C) (Φ := Φ) (f := f) (r := r) hS hm hnp hpost hp h
              subst hv2; subst hst2; subst hv'; subst hst'
              exact ⟨v, M', ok', rfl, h1, h2, h3⟩
          · exact run_fail h
        · exact run_fail h
      · exact run_fail h
    · exact run_fail h

theorem str_enc {w : World} {ok : Okc} {M : Mem} {s : List UInt8} {v : Value} (h : VR (G := G) w ok M (.str s) v) : v = encStr s := by
  cases h with
  | str b => simp [encStr]

theorem enc_str {w : World} {ok : Okc} {M : Mem} (s : List UInt8) : VR (G := G) w ok M (.str s) (encStr s) := by
  have := VR.str (G := G) (w := w) (ok := ok) (M := M) ⟨s.toArray⟩
  exact this

theorem ownsRow_base {w : World} {base : Nat} {e : TypeId} {size : Nat} {v : Value} {n : Nat} {us : List Value} (h : w.ownsRow base e size v n us) : w.ownsRow 0 e size v n us :=
  ⟨h.1, by rcases h.2 with q | ⟨g, cap, cur, q1, q2, q3⟩
           · exact .inl q
           · exact .inr ⟨g, cap, cur, q1, Nat.zero_le _, q3⟩⟩

theorem str_el {w : World} {ok : Okc} {M : Mem} (xs : List (List UInt8)) : ∀ (i : Nat) (x : Ty.den G.S .str) (j : Nat) (y : V G.S) (u : Value), xs[i]? = some x → (Ty.cells G .str x)[j]? = some y → (xs.map encStr)[i * Ty.sz G .str + j]? = some u → VR w ok M y u := by
  intro i x j y u hi hj hu
  have hj0 : j = 0 := by
    have := (List.getElem?_eq_some_iff.1 hj).1
    simp [Ty.cells] at this; exact this
  subst hj0
  simp only [Ty.cells, List.getElem?_cons_zero, Option.some.injEq] at hj
  subst hj
  simp only [Ty.sz, Nat.mul_one, Nat.add_zero] at hu
  rw [List.getElem?_map, hi] at hu
  have hu : encStr x = u := Option.some.inj hu
  subst hu
  exact enc_str x

theorem us_enc {xs : List (List UInt8)} {us : List Value} (hl : us.length = xs.length) (h : ∀ (i : Nat) (x : List UInt8) (u : Value), xs[i]? = some x → us[i]? = some u → u = encStr x) : us = xs.map encStr := by
  apply List.ext_getElem?
  intro i
  rw [List.getElem?_map]
  by_cases hi : i < xs.length
  · rw [List.getElem?_eq_getElem hi, List.getElem?_eq_getElem (by omega)]
    rw [h i xs[i] (us[i]'(by omega)) (List.getElem?_eq_getElem hi) (List.getElem?_eq_getElem (by omega))]
    rfl
  · rw [List.getElem?_eq_none (by omega), List.getElem?_eq_none (by omega)]; rfl

theorem callT_ok (hS : SigOk G) (hΦ : PhiOK C Φ) (hE : ExtOK C) {g : FuncId} {args : List (V G.S)} {st : St G.S} {k : K G} (h : (callT C g args st k).run G Φ f = some r) :
    ∃ v' st' rd wr, (st'.tm = st.tm ∧ st'.n0 = st.n0 ∧ (wr = [] → st'.L = st.L)) ∧ (∀ (w0 : World) (Fp : Nat → Prop) (okA : Okc) (M : Mem) (ok : Okc) (w : World) (vals : List Value), MI C w0 Fp okA M ok st.L w → VRs w ok M args vals →
      (callFunc g vals.toArray).run C.P w = .ok (.enter g vals.toArray) w ∧ Calls C.P g vals.toArray w (fun e w' => ∃ v M' ok', e = .returned v ∧ MI C w0 Fp okA M' ok' st'.L w' ∧ Ex M ok w M' ok' w' ∧ VR w' ok' M' v' v)) ∧
      (k v' st' rd wr).run G Φ f = some r := by
  unfold callT at h
  split at h
  · rename_i e gx hx
    unfold ownT at h
    split at h
    · exact run_fail h
    · rename_i fn hf
      split at h
      · rename_i body hb
        split at h
        · rename_i hname
          split at h
          · rename_i vs hs
            split at h
            · rename_i hclo
              rw [forceL_eq] at h
              obtain ⟨xs, hg, hk⟩ := run_bnd h
              refine ⟨.arr st.L.length, { st with L := freeze st.L (reachs st.L args) ++ [.arr e .str xs false] }, reachs st.L args, [st.L.length], ⟨rfl, rfl, fun e => by cases e⟩, fun w0 Fp okA M ok w vals hm hv => ⟨callFunc_run hf hname hb _ _, ?_⟩, hk⟩
              obtain ⟨hm1, he1⟩ := hm.freeze (reachs st.L args)
              have hsn := snaps_ok hS hm (os := reachs st.L args) hs (fun o ho => by simpa using ho) hv
              have clo : VRs w (okF M ok st.L (reachs st.L args)) (fun _ => none) vs vals := ⟨hsn.1, fun j y v hj hv' => (hsn.2 j y v hj hv').anyM hS _ 20 (by rw [List.all_eq_true] at hclo; exact hclo y (List.mem_of_getElem? hj))⟩
              refine (hE.own g e gx vs xs hx hg _ w vals hm1.lt hm1.globX clo).mono ?_
              rintro en w' ⟨v', rfl, h2, h3⟩
              obtain ⟨a, c, rfl, hob⟩ := own_slice_of h2
              have hgk : ∀ k, k < w.heap.size → w'.heap[k]? = w.heap[k]? := fun k hk => h3.block k hk (by simp)
              have hlen : (freeze st.L (reachs st.L args)).length = st.L.length := freeze_length _ _
              have he := hm1.ex_push (w' := w') (.arr a xs.length c e (Ty.sz G .str)) hgk
              refine ⟨_, _, _, rfl, hm1.push (.arr a xs.length c e (Ty.sz G .str)) (.arr e .str xs false) h3.os h3.tape h3.output h3.size hgk ?_ ?_, he1.trans he, ?_⟩
              · exact ⟨a, c, xs.map encStr, updM_same _ _ _, ownsRow_base h2, Nat.one_pos, str_el xs⟩
              · intro b hb'
                simp only [MB.blk] at hb'
                rw [← hob] at hb'
                exact (h2.lt b hb').1
              · rw [hlen]; exact .arr _ a xs.length c e (Ty.sz G .str) (updM_same _ _ _)
            · exact run_fail h
          · exact run_fail h
        · exact run_fail h
      · exact run_fail h
  · split at h
    · rename_i e gx hx
      unfold eatT at h
      split at h
      · exact run_fail h
      · rename_i fn hf
        split at h
        · rename_i body hb
          split at h
          · rename_i hname
            split at h
            · rename_i o
              split at h
              · rename_i e' xs hL
                split at h
                · rename_i he'
                  subst he'
                  obtain ⟨ys, hg, hk⟩ := run_bnd h
                  refine ⟨.arr st.L.length, { st with L := st.L.set o .dead ++ [.arr e' .str ys false] }, [o], [o], ⟨rfl, rfl, fun e => by cases e⟩, fun w0 Fp okA M ok w vals hm hv => ⟨callFunc_run hf hname hb _ _, ?_⟩, hk⟩
                  obtain ⟨v, l', rfl, hv1, hv2⟩ := hv.inv
                  obtain ⟨rfl⟩ : l' = [] := by have := hv2.1; exact List.eq_nil_of_length_eq_zero (by simpa using this.symm)
                  obtain ⟨rds, hM, hown⟩ := rd_arr hS hm hL hv1
                  have hus : rds.us = (show List (List UInt8) from xs).map encStr := us_enc (by have := hown.1; simp only [Ty.sz, Nat.mul_one] at this; exact this) fun i x u hi hu => by
                    have := rds.el i x 0 (.str x) u hi rfl (by simp only [Ty.sz, Nat.mul_one, Nat.add_zero]; exact hu)
                    exact str_enc this
                  rw [hus] at hown
                  refine (hE.eat g e' gx xs ys hx hg w v hown).mono ?_
                  rintro en w' ⟨v', rfl, h2, h3, h4⟩
                  obtain ⟨a, c, rfl, hob⟩ := own_slice_of h2
                  have hobk : v.ownBlock = blk M o := by
                    rw [rds.val]
                    simp only [blk, hM, MB.blk, Option.bind_some]
                    cases rds.a <;> rfl
                  rw [hobk] at h3
                  have hsub : Ex M ok w (updM M st.L.length (.arr a ys.length c e' (Ty.sz G .str))) ok w' → OR (G := G) w' ok (updM M st.L.length (.arr a ys.length c e' (Ty.sz G .str))) st.L.length (.arr e' .str ys false) := by
                    intro he
                    exact ⟨a, c, ys.map encStr, updM_same _ _ _, h2, Nat.one_pos, str_el ys⟩
                  have hrep := hm.replace (w' := w') (ob0 := .arr e' .str xs false) hL trivial (fun off hr => by simp [Obj.rd] at hr) (.arr a ys.length c e' (Ty.sz G .str)) (.arr e' .str ys false) h3 (fun b hb' => by
                    simp only [MB.blk] at hb'
                    rw [← hobk]
                    exact h4 b (by rw [hob]; exact hb')) hsub
                  exact ⟨_, _, _, rfl, hrep.1, hrep.2, .arr _ a _ c e' (Ty.sz G .str) (updM_same _ _ _)⟩
                · exact run_fail h
              · exact run_fail h
            · exact run_fail h
          · exact run_fail h
        · exact run_fail h
    · exact callP_ok hS hΦ hE h

end

end Go.Dv

namespace Go.Dv

open Go

section

variable {G : Sig} {C : Cfg G} {Φ : FuncId → List Item → St G.S → Option (Ret G.S)} {f : FuncId} {r : Ret G.S}

/-- an operation that ends in a value, in some world -/
theorem OpOK.val {o : Oper} {st st' : St G.S} {v : V G.S} (h1 : st'.tm = st.tm) (h2 : st'.n0 = st.n0)
    (h : ∀ (w0 : World) (Fp : Nat → Prop) (okA : Okc) (M : Mem) (ok : Okc) (a : Act) (w : World), MI C w0 Fp okA M ok st.L w → TR w ok M st.tm a →
      ∃ val w' M' ok', (execOp a.eval o).run C.P w = .ok (.value val) w' ∧ MI C w0 Fp okA M' ok' st'.L w' ∧ Ex M ok w M' ok' w' ∧ VR w' ok' M' v val) : OpOK C o st v st' := by
  refine ⟨h1, h2, fun w0 Fp okA M ok a w hm ht next Q hk => ?_⟩
  obtain ⟨val, w', M', ok', hr, hm', he, hv⟩ := h w0 Fp okA M ok a w hm ht
  unfold Oper.wp
  rw [hr, Oper.upon_value]
  exact hk val w' M' ok' hm' he hv

theorem unV_run {op : UnOp} {x : V G.S} {k : V G.S → Tree G.S} (h : (unV op x k).run G Φ f = some r) :
    ∃ v, (∀ (w : World) (ok : Okc) (M : Mem) (vx : Value), VR w ok M x vx → ∃ val, (Op.unary op vx).run C.P w = .ok val w ∧ VR w ok M v val) ∧ (k v).run G Φ f = some r := by
  unfold unV at h
  split at h
  · refine ⟨_, fun w ok M vx hx => ?_, h⟩; cases hx; exact ⟨_, by simp [Op.unary, Op.intArith], .int _ _⟩
  · refine ⟨_, fun w ok M vx hx => ?_, h⟩; cases hx; exact ⟨_, by simp [Op.unary], .bool _⟩
  · refine ⟨_, fun w ok M vx hx => ?_, h⟩; cases hx; exact ⟨_, by simp [Op.unary], .lb _⟩
  · exact run_fail h

theorem fieldOf_run {s : TypeId} {i : Nat} {fd : Field} (h : fieldOf C s i = some fd) : ∃ fs, C.P.underlying s = some (.struct fs) ∧ fs[i]? = some fd := by
  unfold fieldOf at h
  split at h
  · rename_i fs hu; exact ⟨fs, hu, h⟩
  · cases h

theorem fieldAt_run {s : TypeId} {i : Nat} {fd : Field} {n : Nat} {b off : Nat} {w : World} (h : fieldOf C s i = some fd) (hs : sizeT C fd.type = some (n + 1)) :
    (Instr.fieldAt s (.pointer (some ⟨b, off, none⟩)) i).run C.P w = .ok (.pointer (some ⟨b, off + fd.offset, none⟩)) w := by
  obtain ⟨fs, hu, hf⟩ := fieldOf_run h
  simp [Instr.fieldAt, run_underlying hu, hf, Instr.sureAddr, fieldPlace, sizeT_run hs, addr_add]

theorem data_len (b : ByteArray) : b.data.toList.length = b.size := by rw [Array.length_toList]; rfl

theorem lenV_run (hS : SigOk G) {ts : List TypeId} {ty : TypeId} {x : V G.S} {L : List (Obj G.S)} {n : Int} (h1 : lenOk C ts x = true) (h2 : lenV x L = some n) {w0 : World} {Fp : Nat → Prop} {okA : Okc} {M : Mem} {ok : Okc} {w : World} (hm : MI C w0 Fp okA M ok L w) {vx : Value} (hx : VR w ok M x vx) :
    (Builtin.len_ ts.toArray ty #[vx]).run C.P w = .ok (.int .i64 n) w := by
  unfold lenOk at h1
  split at h1
  · rename_i t
    split at h1
    · rename_i s hu
      cases hx with
      | str b => simp only [lenV, Option.some.injEq] at h2; subst h2; simp [Builtin.len_, run_underlying hu, goInt]
    · rename_i e ty' xs hu
      obtain ⟨rd⟩ := rd_sl hS hx
      obtain ⟨a, c, us, rfl, _, _, _, _⟩ := rd
      simp only [lenV, Option.some.injEq] at h2; subst h2; simp [Builtin.len_, run_underlying hu, goInt]
    · rename_i e e' ty' hu
      cases hx
      simp only [lenV, Option.some.injEq] at h2; subst h2; simp [Builtin.len_, run_underlying hu, goInt]
    · rename_i e o hu
      simp only [lenV] at h2
      split at h2
      · rename_i e' t' xs fz hL
        obtain ⟨rd, _, _⟩ := rd_arr hS hm hL hx
        obtain ⟨a, c, us, rfl, _, _, _, _⟩ := rd
        simp only [Option.some.injEq] at h2; subst h2; simp [Builtin.len_, run_underlying hu, goInt]
      · cases h2
    · cases h1
  · cases h1

theorem bytes_push : ∀ (l : List Int) (b : ByteArray), (l.foldl (fun r n => r.push (UInt8.ofNat n.toNat)) b).data.toList = b.data.toList ++ l.map (fun n => UInt8.ofNat n.toNat)
  | [], b => by simp
  | n :: l, b => by
    simp only [List.foldl_cons, List.map_cons]
    rw [bytes_push l]
    simp [ByteArray.push]

theorem bytes_vr {w : World} {ok : Okc} {M : Mem} (e : TypeId) (b : ByteArray) (xs : List Int) (hx : ∀ i : Nat, xs[i]? = (b.data.toList[i]?).map fun (x : UInt8) => (x.toNat : Int)) (hl : xs.length = b.size) :
    VR (G := G) (Lib.bytesWorld w e b) (fun b' off => ok b' off ∨ b' = w.heap.size) M (.sl (.int .u8) xs) (.slice (some ⟨w.heap.size, 0, none⟩) b.size (grownCap w b.size 0 e)) := by
  rw [← hl]
  refine .sl1 (.int .u8) xs w.heap.size 0 _ (fun i _ => .int .u8 (b.data.toList.getD i 0).toNat) ?_ (fun i x j y hi hj => ?_) (fun i x j y hi hj => ?_)
  · show xs.length ≤ _
    rw [hl]; exact grownCap_ge _ _ _ _
  · have hjl : j = 0 := by have := (List.getElem?_eq_some_iff.1 hj).1; simp [Ty.cells] at this; exact this
    subst hjl
    have hil : i < b.size := by rw [← hl]; exact (List.getElem?_eq_some_iff.1 hi).1
    refine ⟨?_, .inr rfl⟩
    have := Lib.bytesWorld_cell w e b i hil
    simpa [Ty.sz] using this
  · have hjl : j = 0 := by have := (List.getElem?_eq_some_iff.1 hj).1; simp [Ty.cells] at this; exact this
    subst hjl
    simp only [Ty.cells, List.getElem?_cons_zero, Option.some.injEq] at hj
    subst hj
    have hi' : xs[i]? = some x := hi
    rw [hx] at hi'
    cases hbi : b.data.toList[i]? with
    | none => rw [hbi] at hi'; cases hi'
    | some q =>
      rw [hbi] at hi'
      cases hi'
      rw [List.getD_eq_getElem?_getD, hbi]
      exact .int _ _

theorem ints_map (us : List Value) (ys : List Int) (hl : us.length = ys.length) (h : ∀ (i : Nat) (q : Int) (u : Value), ys[i]? = some q → us[i]? = some u → u = .int .u8 q) : us = ys.map (Value.int .u8) := by
  apply List.ext_getElem?
  intro i
  rw [List.getElem?_map]
  cases hyi : ys[i]? with
  | none =>
    have : us.length ≤ i := by rw [hl]; exact List.getElem?_eq_none_iff.1 hyi
    rw [List.getElem?_eq_none this]; rfl
  | some q =>
    have hlt : i < us.length := by rw [hl]; exact (List.getElem?_eq_some_iff.1 hyi).1
    rw [List.getElem?_eq_getElem hlt, h i q _ hyi (List.getElem?_eq_getElem hlt)]
    rfl

theorem str_vr (ys : List Int) (w : World) (ok : Okc) (M : Mem) : VR (G := G) w ok M (.str (ys.map fun n => UInt8.ofNat n.toNat)) (.string (ys.foldl (fun r n => r.push (UInt8.ofNat n.toNat)) ByteArray.empty)) := by
  have := bytes_push ys ByteArray.empty
  have e0 : ByteArray.empty.data.toList = [] := rfl
  rw [e0, List.nil_append] at this
  rw [← this]
  exact .str _

theorem convT_run (hS : SigOk G) {src dst : TypeId} {x : V G.S} {st : St G.S} {k : K G} (h : (convT C src dst x st k).run G Φ f = some r) :
    ∃ v rd wr, (∀ (w0 : World) (Fp : Nat → Prop) (okA : Okc) (M : Mem) (ok : Okc) (w : World) (vx : Value), MI C w0 Fp okA M ok st.L w → VR w ok M x vx →
      ∃ val w' M' ok', (convert src dst vx).run C.P w = .ok val w' ∧ MI C w0 Fp okA M' ok' st.L w' ∧ Ex M ok w M' ok' w' ∧ VR w' ok' M' v val) ∧ (k v st rd wr).run G Φ f = some r := by
  unfold convT at h
  split at h
  · rename_i k1 k2 k3 n hs hd
    refine ⟨_, _, _, fun w0 Fp okA M ok w vx hm hx => ?_, h⟩
    cases hx
    exact ⟨_, w, M, ok, by simp [convert, run_underlying hs, run_underlying hd, Conv.intToInt], hm, Ex.refl _ _ _, .int _ _⟩
  · rename_i s hs hd
    refine ⟨_, _, _, fun w0 Fp okA M ok w vx hm hx => ?_, h⟩
    cases hx
    exact ⟨_, w, M, ok, by simp [convert, run_underlying hs, run_underlying hd], hm, Ex.refl _ _ _, .str _⟩
  · rename_i e s hs hd
    split at h
    · rename_i he
      refine ⟨_, _, _, fun w0 Fp okA M ok w vx hm hx => ?_, h⟩
      cases hx with
      | str b =>
        have hg : ∀ k, k < w.heap.size → (Lib.bytesWorld w e b).heap[k]? = w.heap[k]? := fun k hk => Lib.bytesWorld_at_old w e b k hk
        have hsz := Lib.bytesWorld_size w e b
        obtain ⟨hm2, he2⟩ := hm.grow (w' := Lib.bytesWorld w e b) (fun b' off => b' = w.heap.size) (by simp [Lib.bytesWorld, World.freeze]; rfl) (by first | rfl | (simp [Lib.bytesWorld, World.freeze]; done) | (simp [Lib.bytesWorld, World.freeze]; rfl)) (by simp [Lib.bytesWorld, World.freeze]; rfl) (by omega) hg (fun b' off hb => by omega)
        exact ⟨_, _, M, _, Lib.run_convert_string_bytes w src dst e b hs hd he, hm2, he2, bytes_vr e b (b.data.toList.map fun (x : UInt8) => (x.toNat : Int)) (fun i => List.getElem?_map) (by simp)⟩
    · exact run_fail h
  · rename_i e hs hd
    split at h
    · rename_i he
      split at h
      · rename_i ys hys
        refine ⟨_, _, _, fun w0 Fp okA M ok w vx hm hx => ?_, h⟩
        obtain ⟨rd⟩ := ysOf_rd hS hm hys hx
        obtain ⟨a, c, us, rfl, hl, hcell, _, hel⟩ := rd
        have hl' : us.length = ys.length := by simpa [Ty.sz] using hl
        have hus := ints_map us ys hl' (fun i q u hq hu => by
          have h1 := hel i q 0 _ u hq rfl (by simpa [Ty.sz] using hu)
          cases h1
          rfl)
        refine ⟨.string (ys.foldl (fun r n => r.push (UInt8.ofNat n.toNat)) ByteArray.empty), w, M, ok, ?_, hm, Ex.refl _ _ _, ?_⟩
        · rw [run_convert_bytes_string w src dst e a ys.length c hs he hd]
          cases a with
          | none =>
            have : ys = [] := by
              cases ys with
              | nil => rfl
              | cons q qs => 
                have hlt : 0 < us.length := by rw [hl']; simp
                obtain ⟨ad, h1, _⟩ := hcell 0 us[0] (List.getElem?_eq_getElem hlt)
                cases h1
            subst this
            simp [Conv.bytesToString]
          | some ad =>
            have hld := run_loadCells_list (P := C.P) w ad us (fun j v hj => by obtain ⟨ad', h1, h2⟩ := hcell j v hj; cases h1; exact h2)
            rw [hl', hus] at hld
            exact run_bytesToString w ad ys.length c ys hld
        · exact str_vr ys _ _ _
      · exact run_fail h
    · exact run_fail h
  · rename_i k1 k2 n hs hd
    obtain ⟨s, hc, h⟩ := run_bnd h
    refine ⟨_, _, _, fun w0 Fp okA M ok w vx hm hx => ?_, h⟩
    cases hx
    unfold chr at hc
    split at hc
    · rename_i hn
      cases hc
      refine ⟨_, w, M, ok, run_convert_int_string w src dst _ n (by rw [hs]; rfl) hd, hm, Ex.refl _ _ _, ?_⟩
      have : (Utf8.encode n).data.toList = [UInt8.ofNat n.toNat] := by
        have hv : Utf8.valid n = true := by simp only [Utf8.valid, Bool.or_eq_true, Bool.and_eq_true, decide_eq_true_eq]; left; omega
        unfold Utf8.encode
        simp only [if_pos hv]
        have hlt : n.toNat < 0x80 := by omega
        simp only [if_pos hlt]
      rw [← this]
      exact .str _
    · cases hc
  · exact run_fail h

end

end Go.Dv

namespace Go.Dv

open Go

section

variable {G : Sig} {C : Cfg G} {Φ : FuncId → List Item → St G.S → Option (Ret G.S)} {f : FuncId} {r : Ret G.S}

theorem indexAt_run {P : Program} {w : World} {t e : TypeId} {sz n b off len c : Nat} {k : IntKind} (hu : P.underlying t = some (.slice e)) (hs : (sizeOf e).run P w = .ok sz w) (hn : n < len) :
    (Instr.indexAt t (.slice (some ⟨b, off, none⟩) len c) (.int k (n : Int))).run P w = .ok (.pointer (some ⟨b, off + n * sz, none⟩)) w := by
  simp [Instr.indexAt, asIntOf, run_underlying hu, hs, addr_add]
  intro h; omega

theorem indexAddrT_run (hS : SigOk G) {t : TypeId} {x i : V G.S} {st : St G.S} {k : K G} (h : (indexAddrT C t x i st k).run G Φ f = some r) :
    ∃ v rd wr, (∀ (w0 : World) (Fp : Nat → Prop) (okA : Okc) (M : Mem) (ok : Okc) (w : World) (vx vi : Value), MI C w0 Fp okA M ok st.L w → VR w ok M x vx → VR w ok M i vi →
      ∃ val, (Instr.indexAt t vx vi).run C.P w = .ok val w ∧ VR w ok M v val) ∧ (k v st rd wr).run G Φ f = some r := by
  unfold indexAddrT at h
  split at h
  · rename_i ki n
    split at h
    · rename_i e he
      have hu := elemId_eq he
      split at h
      · rename_i sz ty xs hs
        split at h
        · rename_i hz
          subst hz
          obtain ⟨x, hx, h'⟩ := run_bnd h
          obtain ⟨m, rfl, hm⟩ := idx_ok hx
          refine ⟨_, _, _, fun w0 Fp okA M ok w vx vi hmi hvx hvi => ?_, h'⟩
          cases hvi
          cases hvx with
          | sl0 => simp at hm
          | sl1 _ _ b off c u hc h1 h2 =>
            have hlt := (List.getElem?_eq_some_iff.1 hm).1
            refine ⟨_, indexAt_run hu (sizeT_run hs) hlt, .pc _ b _ (fun j => u m j) (fun j y hj => ?_) (fun j y hj => h2 m x j y hm hj)⟩
            have := h1 m x j y hm hj
            rw [Nat.add_assoc]; exact this
        · exact run_fail h
      · rename_i sz o hs
        split at h
        · rename_i e' ty xs fz hL
          split at h
          · rename_i hz
            subst hz
            obtain ⟨x, hx, h'⟩ := run_bnd h
            obtain ⟨m, rfl, hm⟩ := idx_ok hx
            refine ⟨_, _, _, fun w0 Fp okA M ok w vx vi hmi hvx hvi => ?_, h'⟩
            cases hvi
            obtain ⟨⟨a, c, us, rfl, _, _, _, _⟩, hM, hown⟩ := rd_arr hS hmi hL hvx
            dsimp only at hM hown
            have hlt := (List.getElem?_eq_some_iff.1 hm).1
            rcases hown.2 with ⟨_, h2⟩ | ⟨g, cap, cur, h1, _⟩
            · rw [h2] at hlt; omega
            · simp only [Value.slice.injEq, true_and] at h1
              obtain ⟨rfl, rfl⟩ := h1
              refine ⟨_, indexAt_run hu (sizeT_run hs) hlt, ?_⟩
              rw [Nat.zero_add]
              exact .pe o m 0 g xs.length c e' (Ty.sz G ty) hM
          · exact run_fail h
        · exact run_fail h
      · exact run_fail h
    · exact run_fail h
  · exact run_fail h

theorem indexAt_arr {P : Program} {w : World} {t e : TypeId} {sz n b off len : Nat} {k : IntKind} (hu : P.underlying t = some (.array len e)) (hs : (sizeOf e).run P w = .ok sz w) (hn : n < len) :
    (Instr.indexAt t (.pointer (some ⟨b, off, none⟩)) (.int k (n : Int))).run P w = .ok (.pointer (some ⟨b, off + n * sz, none⟩)) w := by
  simp [Instr.indexAt, asIntOf, run_underlying hu, hs, addr_add, Instr.sureAddr]
  intro h; omega

theorem indexBoxT_run (hS : SigOk G) {t : TypeId} {x i : V G.S} {st : St G.S} {k : K G} (h : (indexBoxT C t x i st k).run G Φ f = some r) :
    ∃ v st' rd wr, st'.tm = st.tm ∧ st'.n0 = st.n0 ∧ (wr = [] → st'.L = st.L) ∧ (∀ (w0 : World) (Fp : Nat → Prop) (okA : Okc) (M : Mem) (ok : Okc) (w : World) (vx vi : Value), MI C w0 Fp okA M ok st.L w → VR w ok M x vx → VR w ok M i vi →
      ∃ val ok', (Instr.indexAt t vx vi).run C.P w = .ok val w ∧ MI C w0 Fp okA M ok' st'.L w ∧ Ex M ok w M ok' w ∧ VR w ok' M v val) ∧ (k v st' rd wr).run G Φ f = some r := by
  unfold indexBoxT at h
  split at h
  · rename_i m e hu
    split at h
    · rename_i o off ki n
      split at h
      · rename_i ty sz cs hty hsz hsn
        split at h
        · rename_i hc
          obtain ⟨rfl, hsc, hlen⟩ := hc
          split at h
          · rename_i xs hxs
            obtain ⟨y, hy, h'⟩ := run_bnd h
            obtain ⟨j, rfl, hj⟩ := idx_ok hy
            refine ⟨_, _, _, _, ?_, ?_, fun e => ?_, fun w0 Fp okA M ok w vx vi hm hx hi => ?_, h'⟩
            · rfl
            · rfl
            · simp only [e, freeze_nil]
            obtain ⟨hm1, he1⟩ := hm.freeze (reach st.L 2 (.ref o off))
            have hv := snap_ok hS hm 2 _ _ _ (reach st.L 2 (.ref o off)) hsn (fun o ho => by simpa using ho) hx
            cases hi
            obtain ⟨hl, hg⟩ := mapO_get hxs
            obtain ⟨c, hcj, hpc⟩ := hg j y hj
            have hjm : j < m := by rw [← hlen]; exact (List.getElem?_eq_some_iff.1 hcj).1
            cases hv with
            | pc _ b off' u h1 h2 =>
              refine ⟨_, _, indexAt_arr hu (sizeT_run hsz) hjm, hm1, he1, ?_⟩
              refine .pc _ b _ (fun q => u (j + q)) (fun q z hq => ?_) (fun q z hq => ?_)
              · cases q with
                | zero => have := h1 j c hcj; rw [Nat.mul_one]; exact this
                | succ q => simp at hq
              · cases q with
                | zero =>
                  simp at hq
                  subst hq
                  exact (prj_ok hS hpc (h2 j c hcj)).2
                | succ q => simp at hq
          · exact run_fail h
        · exact run_fail h
      · exact run_fail h
    · exact run_fail h
  · exact run_fail h

theorem fill_mono {p q : Nat → Option (Nat × Nat)} (hpq : ∀ i x, p i = some x → q i = some x) : ∀ (l : List (Nat × Value)) (z r : Array Value), Instr.fill p z l = some r → Instr.fill q z l = some r
  | [], z, r, h => h
  | (i, v) :: l, z, r, h => by
    unfold Instr.fill at h ⊢
    cases hp : p i with
    | none => simp [hp] at h
    | some x =>
      rw [hpq i x hp]
      rw [hp] at h
      obtain ⟨off, size⟩ := x
      simp only at h ⊢
      split at h
      · cases h
      · rename_i hc
        rw [if_neg hc]
        exact fill_mono hpq l _ r h

theorem places_go : ∀ (fs : List Field) (l : List (TypeId × Nat × Nat)), places.go C fs = some l → ∀ w, (fs.mapM fun f => do pure (f.offset, ← sizeOf f.type) : Sem (List (Nat × Nat))).run C.P w = .ok (l.map (·.2)) w
  | [], l, h, w => by simp [places.go] at h; subst h; simp
  | fd :: fs, l, h, w => by
    simp only [places.go] at h
    split at h
    · rename_i s l' hs hl
      cases h
      have ih := places_go fs l' hl w
      simp at ih
      rw [List.mapM_cons]
      simp [sizeT_run hs, ih]
    · cases h

theorem parts_ok {w0 : World} {Fp : Nat → Prop} {okA : Okc} {M : Mem} {ok : Okc} {st : St G.S} {a : Act} {w : World} (hm : MI C w0 Fp okA M ok st.L w) (ht : TR w ok M st.tm a) {pl : List (TypeId × Nat × Nat)} : ∀ (ps : List (Nat × Operand)) (l : List (Nat × V G.S)), parts C st pl ps = some l →
    l.map (·.1) = (ps.map fun (i, x) => (i, a.eval x)).map (·.1) ∧ VRs w ok M (l.map (·.2)) ((ps.map fun (i, x) => (i, a.eval x)).map (·.2))
  | [], l, h => by simp [parts] at h; subst h; exact ⟨rfl, .nil⟩
  | (i, x) :: r, l, h => by
    simp only [parts] at h
    split at h
    · rename_i t q l' h1 h2
      cases h
      obtain ⟨g1, g2⟩ := parts_ok hm ht r l' h2
      refine ⟨by simp only [List.map_cons, g1], ?_⟩
      exact .cons (opd_ok hm ht t x) g2
    · cases h

theorem build_run {w0 : World} {Fp : Nat → Prop} {okA : Okc} {M : Mem} {ok : Okc} {st : St G.S} {a : Act} {w : World} (hm : MI C w0 Fp okA M ok st.L w) (ht : TR w ok M st.tm a) {t : TypeId} {ps : Array (Nat × Operand)}
    {z cs : List (V G.S)} {pl : List (TypeId × Nat × Nat)} {l : List (Nat × V G.S)} (hz : zeros C t = some z) (hp : places C t = some pl) (hl : parts C st pl ps.toList = some l) (hf : fillV (fun i => (pl[i]?).map (·.2)) z l = some cs) :
    ∃ val, (Instr.build t (ps.map fun (i, x) => (i, a.eval x))).run C.P w = .ok val w ∧ VR w ok M (.ag cs) val := by
  obtain ⟨zv, hzr, hzv⟩ := zeros_ok hz
  obtain ⟨h1, h2⟩ := parts_ok hm ht _ _ hl
  obtain ⟨zs', hfill, hcs⟩ := fillV_ok hf (hzv w ok M) h1 h2
  rw [Array.toArray_toList] at hfill
  refine ⟨.agg zs', ?_, by have := VR.ag (w := w) (ok := ok) (M := M) cs zs'.toList hcs.1 hcs.2; simpa using this⟩
  unfold places at hp
  split at hp
  · rename_i fs hu
    have hg := places_go _ _ hp w
    have hfill' : Instr.fill (fun i => (pl.map (·.2)).toArray[i]?) zv.cells (ps.map fun (i, x) => (i, a.eval x)).toList = some zs' := by
      rw [Array.toList_map, ← hfill]
      congr 1
      funext i
      simp
    have hmap : (fs.mapM fun f => do pure (f.offset, ← sizeOf f.type) : Sem (Array (Nat × Nat))).run C.P w = .ok (pl.map (·.2)).toArray w := by
      simp at hg
      rw [Array.mapM_eq_mapM_toList]
      simp [hg]
    simp at hmap
    simp [Instr.build, hzr, run_underlying hu, hmap]
    simp at hfill'
    simp [hfill']
  · rename_i n e hu
    split at hp
    · rename_i s hs
      cases hp
      have hfill' : Instr.fill (fun i => some (i * s, s)) zv.cells (ps.map fun (i, x) => (i, a.eval x)).toList = some zs' := by
        rw [Array.toList_map]
        refine fill_mono (fun i x hx => ?_) _ _ _ hfill
        simp only [List.getElem?_map, Option.map_map] at hx
        cases hr : (List.range n)[i]? with
        | none => rw [hr] at hx; cases hx
        | some j =>
          rw [hr] at hx
          have hj : j = i := by
            obtain ⟨hlt, he⟩ := List.getElem?_eq_some_iff.1 hr
            simp at he; exact he.symm
          subst hj
          exact hx
      simp at hfill'
      simp [Instr.build, hzr, run_underlying hu, sizeT_run hs, hfill']
    · cases hp
  · cases hp

theorem mapO_length {α β : Type} {g : α → Option β} {l : List α} {l' : List β} (h : mapO g l = some l') : l'.length = l.length := (mapO_get h).1

theorem index_str_run {P : Program} {w : World} {t : TypeId} {s : ByteArray} {k : IntKind} {n : Nat} {b : UInt8} (hu : P.underlying t = some .string) (hb : s.data.toList[n]? = some b) :
    (Instr.index t (.string s) (.int k (n : Int))).run P w = .ok (.int .u8 b.toNat) w := by
  have hb' : s[n]? = some b := by
    obtain ⟨h1, h2⟩ := List.getElem?_eq_some_iff.1 hb
    have hlt : n < s.size := by simpa using h1
    rw [getElem?_pos s n hlt]
    simp only [Option.some.injEq]
    rw [← h2]
    rfl
  simp [Instr.index, asIntOf, run_underlying hu, hb']

theorem index_arr_run {P : Program} {w : World} {t e : TypeId} {m n : Nat} {l : Array Value} {k : IntKind} {v : Value} (hu : P.underlying t = some (.array m e)) (hs : (sizeOf e).run P w = .ok 1 w) (ha : (isAgg e).run P w = .ok false w) (hn : n < m) (hv : l[n]? = some v) :
    (Instr.index t (.agg l) (.int k (n : Int))).run P w = .ok v w := by
  simp [Instr.index, asIntOf, run_underlying hu, hs, Go.part, ha, hv, hn]

theorem zips_one : ∀ {ts : List TypeId} {vs : List Value} {cs : List (V G.S)}, zips C ts vs = some cs → cs.all V.one = true
  | [], [], cs, h => by simp [zips] at h; subst h; rfl
  | t :: ts, v :: vs, cs, h => by
    simp only [zips] at h
    split at h
    · rename_i x y hx hy
      cases h
      have : x.one = true := by
        unfold zeroV at hx
        split at hx
        all_goals first
          | (cases hx; rfl)
          | (split at hx <;> first
              | (split at hx <;> first | (cases hx; rfl) | (cases hx; done))
              | (cases hx; done))
          | (cases hx; done)
      simp only [List.all_cons, this, zips_one hy, Bool.and_self]
    · cases h
  | [], _ :: _, cs, h => by simp [zips] at h
  | _ :: _, [], cs, h => by simp [zips] at h

theorem zeros_one {t : TypeId} {cs : List (V G.S)} (h : zeros C t = some cs) : cs.all V.one = true := by
  unfold zeros at h
  split at h
  · split at h
    · exact zips_one h
    · cases h
  · cases h

theorem ex_okF0 {M : Mem} {ok : Okc} {L : List (Obj G.S)} {w : World} : Ex M (okF M ok L []) w M ok w :=
  ⟨fun _ _ h => h, fun b off u h hc => ⟨by
    rcases h with h | ⟨o, ob, h1, _⟩
    · exact h
    · simp at h1, hc⟩⟩

theorem made_get (z : Array Value) (n i j : Nat) (hj : j < z.size) (hi : i < n) : (madeCells z (n * z.size)).toList[i * z.size + j]? = z.toList[j]? := by
  have hlt : i * z.size + j < n * z.size := by
    calc i * z.size + j < i * z.size + z.size := by omega
      _ = (i + 1) * z.size := by rw [Nat.add_mul, Nat.one_mul]
      _ ≤ n * z.size := Nat.mul_le_mul_right _ hi
  have hmod : (i * z.size + j) % z.size = j := by rw [Nat.mul_comm, Nat.mul_add_mod]; exact Nat.mod_eq_of_lt hj
  simp [madeCells, hlt, hmod, hj]

theorem makeSlice_run (hS : SigOk G) {t e : TypeId} {ty : Ty} {z : List (V G.S)} {x : ty.den G.S} {n : Nat} (hu : C.P.underlying t = some (.slice e)) (hb : bytesOk C e = true) (hs : sizeT C e = some (Ty.sz G ty)) (hz : zeros C e = some z) (hn : n ≤ big)
    {st : St G.S} (hre : (reachs st.L z) = []) (hx : newEl st.L ty z = some x) {w0 : World} {Fp : Nat → Prop} {okA : Okc} {M : Mem} {ok : Okc} {w : World} (hm : MI C w0 Fp okA M ok st.L w) (k1 k2 : IntKind) :
    ∃ val w' M', (Instr.makeSlice t (.int k1 (n : Int)) (.int k2 (n : Int))).run C.P w = .ok val w' ∧ MI C w0 Fp okA M' ok (st.L ++ [.arr e ty (List.replicate n x) false]) w' ∧ Ex M ok w M' ok w' ∧ VR (G := G) w' ok M' (.arr st.L.length) val := by
  obtain ⟨i, zv, hi, hzi, h128, hpos, hzc⟩ := bytesOk_info hb
  obtain ⟨i', hi', his⟩ := sizeT_info hs
  rw [hi] at hi'; cases hi'
  obtain ⟨i2, zv2, hi2, hz2, hzv⟩ := zeros_info hz
  rw [hi] at hi2; cases hi2
  rw [hzi] at hz2; cases hz2
  have hbb : big = 68719476736 := rfl
  obtain ⟨w', hr, hown, hgrow⟩ := run_make_full (P := C.P) w 0 t e i zv (Ty.sz G ty) hu hi hzi his k1 k2 n (by
    calc i.bytes * n ≤ 2048 * big := Nat.mul_le_mul h128 hn
      _ ≤ 281474976710656 := by rw [hbb]; omega) (by unfold maxLen; omega) (Nat.zero_le _)
  have hg : ∀ k, k < w.heap.size → w'.heap[k]? = w.heap[k]? := fun k hk => hgrow.block k hk (by simp)
  have he := hm.ex_push (w' := w') (.arr (some ⟨w.heap.size, 0, none⟩) n n e (Ty.sz G ty)) hg
  have hel := (newEl_ok hS hm (os := []) hx (fun o ho => by rw [hre] at ho; cases ho) ((hzv w ok M).one (zeros_one hz)) (hzv w ok M)).mono ex_okF0
  have hzs : zv.cells.size = Ty.sz G ty := by rw [hzc, his]
  refine ⟨_, w', _, hr, hm.push (.arr (some ⟨w.heap.size, 0, none⟩) n n e (Ty.sz G ty)) (.arr e ty (List.replicate n x) false) hgrow.os hgrow.tape hgrow.output hgrow.size hg ?_ ?_, he, .arr _ _ n n e (Ty.sz G ty) (updM_same _ _ _)⟩
  · refine ⟨some ⟨w.heap.size, 0, none⟩, n, _, by rw [List.length_replicate]; exact updM_same _ _ _, by rw [List.length_replicate]; exact hown, by rw [← his]; exact hpos, fun i y j c u h1 h2 h3 => ?_⟩
    have hil := (List.getElem?_eq_some_iff.1 h1).1
    rw [List.length_replicate] at hil
    rw [List.getElem?_replicate, if_pos hil] at h1
    cases h1
    have hjl := (List.getElem?_eq_some_iff.1 h2).1
    rw [cells_len hS] at hjl
    rw [← hzs, made_get _ _ _ _ (by rw [hzs]; exact hjl) hil] at h3
    exact (hel.2 j c u h2 h3).mono he
  · intro b hb
    simp [MB.blk] at hb
    omega

end

end Go.Dv

namespace Go.Dv

open Go

section

variable {G : Sig} {C : Cfg G} {Φ : FuncId → List Item → St G.S → Option (Ret G.S)} {f : FuncId} {r : Ret G.S}

theorem dats_get {L : List (Obj G.S)} {t : Ty} : ∀ {vs : List (V G.S)} {xs : List (t.den G.S)}, dats L t vs = some xs → xs.length = vs.length ∧ ∀ (j : Nat) (x : t.den G.S), xs[j]? = some x → ∃ v, vs[j]? = some v ∧ dat L t v = some x
  | [], xs, h => by simp [dats] at h; subst h; exact ⟨rfl, fun j x hj => by simp at hj⟩
  | v :: vs, xs, h => by
    simp only [dats] at h
    split at h
    · rename_i x hx
      split at h
      · rename_i l hl
        cases h
        obtain ⟨h1, h2⟩ := dats_get hl
        refine ⟨by simp [h1], fun j y hj => ?_⟩
        cases j with
        | zero => simp at hj; subst hj; exact ⟨v, rfl, hx⟩
        | succ j => simp at hj; exact h2 j y hj
      · cases h
    · cases h

theorem reachs_mem {L : List (Obj G.S)} {o : Nat} : ∀ {vs : List (V G.S)} {v : V G.S}, v ∈ vs → o ∈ reach L 20 v → o ∈ reachs L vs
  | a :: vs, v, hv, ho => by
    simp only [reachs, List.mem_append]
    cases hv with
    | head => exact .inl ho
    | tail _ hv => exact .inr (reachs_mem hv ho)

theorem zip_range : ∀ (ps : List (Nat × Value)) (k : Nat), ps.map (·.1) = List.range' k ps.length → ps = ((ps.map (·.2)).zipIdx k).map fun x => (x.2, x.1)
  | [], k, _ => rfl
  | (i, v) :: ps, k, h => by
    simp only [List.map_cons, List.length_cons, List.range'_succ, List.cons.injEq] at h
    obtain ⟨rfl, h⟩ := h
    simp only [List.map_cons, List.zipIdx_cons, List.cons.injEq, true_and]
    exact zip_range ps (i + 1) h

theorem buildSlice_run (hS : SigOk G) {w0 : World} {Fp : Nat → Prop} {okA : Okc} {M : Mem} {ok : Okc} {st : St G.S} {a : Act} {w : World} (hm : MI C w0 Fp okA M ok st.L w) (ht : TR w ok M st.tm a) {t e : TypeId} {ty : Ty} {n : Nat} {ps : Array (Nat × Operand)}
    {xs : List (ty.den G.S)} (hu : C.P.underlying t = some (.slice e)) (hs : sizeT C e = some (Ty.sz G ty)) (hbig : n * Ty.sz G ty ≤ 16777216) (hb : bytesOk C e = true) (hps : ps.toList.map (·.1) = List.range n)
    (hx : dats st.L ty (ps.toList.map fun (_, x) => opd C st e x) = some xs) :
    ∃ val w' M' ok', (Instr.buildSlice t n (ps.map fun (i, x) => (i, a.eval x))).run C.P w = .ok val w' ∧
      MI C w0 Fp okA M' ok' (freeze st.L (reachs st.L (ps.toList.map fun (_, x) => opd C st e x)) ++ [.arr e ty xs false]) w' ∧ Ex M ok w M' ok' w' ∧ VR (G := G) w' ok' M' (.arr st.L.length) val := by
  obtain ⟨i, zv, hi, hzi, h128, hpos, hzc⟩ := bytesOk_info hb
  obtain ⟨i', hi', his⟩ := sizeT_info hs
  rw [hi] at hi'; cases hi'
  obtain ⟨hm2, he2⟩ := hm.freeze (reachs st.L (ps.toList.map fun (_, x) => opd C st e x))
  obtain ⟨hxl, hxg⟩ := dats_get hx
  have hlen : ps.toList.length = n := by have := congrArg List.length hps; simpa using this
  rw [List.length_map, hlen] at hxl
  -- the values
  have hvals : ∀ (j : Nat) (x : ty.den G.S), xs[j]? = some x → ∃ v, (ps.toList.map fun p => a.eval p.2)[j]? = some v ∧ VRs w (okF M ok st.L (reachs st.L (ps.toList.map fun (_, x) => opd C st e x))) M (Ty.cells G ty x) v.cells.toList := by
    intro j x hj
    obtain ⟨v, hv, hd⟩ := hxg j x hj
    rw [List.getElem?_map] at hv
    cases hp : ps.toList[j]? with
    | none => rw [hp] at hv; cases hv
    | some p =>
      rw [hp] at hv
      simp only [Option.map_some, Option.some.injEq] at hv
      subst hv
      refine ⟨a.eval p.2, by rw [List.getElem?_map, hp]; rfl, ?_⟩
      exact (dat_ok hS hm hd (fun o ho => by rw [List.contains_iff_mem]; exact reachs_mem (List.mem_map.2 ⟨p, List.mem_of_getElem? hp, rfl⟩) ho) (opd_ok hm ht e p.2)).1
  have hvl : (ps.toList.map fun p => a.eval p.2).length = n := by simpa using hlen
  have hsz : ∀ v ∈ (ps.toList.map fun p => a.eval p.2), v.cells.size = Ty.sz G ty := by
    intro v hv
    obtain ⟨j, hj⟩ := List.mem_iff_getElem?.1 hv
    have hjl : j < xs.length := by rw [hxl, ← hvl]; exact (List.getElem?_eq_some_iff.1 hj).1
    obtain ⟨v', h1, h2⟩ := hvals j xs[j] (List.getElem?_eq_getElem hjl)
    rw [hj] at h1; cases h1
    rw [← Array.length_toList, ← h2.1, cells_len hS]
  have hpl : (ps.map fun (i, x) => (i, a.eval x)).toList = ((ps.toList.map fun p => a.eval p.2).zipIdx 0).map fun x => (x.2, x.1) := by
    rw [Array.toList_map]
    have := zip_range (ps.toList.map fun (i, x) => (i, a.eval x)) 0 (by
      rw [List.map_map, List.length_map, hlen, ← List.range_eq_range', ← hps]
      rfl)
    rw [this]
    congr 2
    rw [List.map_map]
    rfl
  have hspos : 0 < Ty.sz G ty := by rw [← his]; exact hpos
  -- the run
  have hrun : ∃ cells : Array Value, (Instr.buildSlice t n (ps.map fun (i, x) => (i, a.eval x))).run C.P w = .ok (.slice (some ⟨w.heap.size, 0, none⟩) n n) (w.alloc (.cells cells e)) ∧ cells.size = n * Ty.sz G ty ∧
      ∀ (j : Nat) (v : Value) (c : Nat), (ps.toList.map fun p => a.eval p.2)[j]? = some v → c < Ty.sz G ty → cells.toList[j * Ty.sz G ty + c]? = v.cells.toList[c]? := by
    obtain ⟨cells, h1, h2, h3⟩ := Great.fill_dense hspos (ps.toList.map fun p => a.eval p.2) 0 ((Array.range (n * Ty.sz G ty)).map (zv.cells[· % zv.cells.size]!)) hsz (by rw [Nat.zero_add, hvl]; simp)
    have hcs : cells.size = n * Ty.sz G ty := by rw [h2]; simp
    refine ⟨cells, ?_, hcs, fun j v c hj hc => ?_⟩
    · rcases Nat.eq_zero_or_pos n with hn | hn
      · subst hn
        have hps0 : ps.toList = [] := List.eq_nil_of_length_eq_zero hlen
        have hps1 : ps = #[] := by rw [← Array.toArray_toList (xs := ps), hps0]
        have hc0 : cells = #[] := by apply Array.eq_empty_of_size_eq_zero; rw [hcs, Nat.zero_mul]
        subst hps1; subst hc0
        simp [Instr.buildSlice, run_underlying hu, sizeOf, typeInfo, hi, Instr.fill, newRow]
        rw [show Array.range 0 = #[] from Array.eq_empty_of_size_eq_zero (by simp), Array.map_empty]
      · rw [← his] at h1
        exact run_buildSlice w t e n _ cells i zv hu hi hzi (by rw [his]; omega) (by rw [his]; have := Nat.mul_pos hn hspos; omega) (by rw [hpl]; exact h1)
    · have hjl : j < n := by rw [← hvl]; exact (List.getElem?_eq_some_iff.1 hj).1
      have hlt : j * Ty.sz G ty + c < n * Ty.sz G ty := by
        calc j * Ty.sz G ty + c < j * Ty.sz G ty + Ty.sz G ty := by omega
          _ = (j + 1) * Ty.sz G ty := by rw [Nat.add_mul, Nat.one_mul]
          _ ≤ n * Ty.sz G ty := Nat.mul_le_mul_right _ hjl
      have := h3 (j * Ty.sz G ty + c)
      rw [if_pos ⟨by omega, by rw [Nat.zero_add, hvl]; exact hlt⟩] at this
      have e1 : (j * Ty.sz G ty + c) / Ty.sz G ty = j := by
        rw [Nat.mul_comm, Nat.mul_add_div hspos]; simp [Nat.div_eq_of_lt hc]
      have e2 : (j * Ty.sz G ty + c) % Ty.sz G ty = c := by
        rw [Nat.mul_comm, Nat.mul_add_mod]; exact Nat.mod_eq_of_lt hc
      rw [e1, e2, Nat.sub_zero, hj] at this
      simp only [Option.bind_some] at this
      rw [Array.getElem?_toList, Array.getElem?_toList]
      exact this
  obtain ⟨cells, hr, hcs, hcg⟩ := hrun
  have hg : ∀ k, k < w.heap.size → (w.alloc (.cells cells e)).heap[k]? = w.heap[k]? := fun k hk => heap_push w _ k hk
  have he := hm2.ex_push (w' := w.alloc (.cells cells e)) (.arr (some ⟨w.heap.size, 0, none⟩) n n e (Ty.sz G ty)) hg
  rw [freeze_length] at he
  have hbb : maxLen = 9223372036854775807 := rfl
  have hnb : n ≤ 16777216 := by
    calc n = n * 1 := (Nat.mul_one n).symm
      _ ≤ n * Ty.sz G ty := Nat.mul_le_mul_left _ hspos
      _ ≤ _ := hbig
  have hpush := hm2.push (w' := w.alloc (.cells cells e)) (.arr (some ⟨w.heap.size, 0, none⟩) n n e (Ty.sz G ty)) (.arr e ty xs false) rfl rfl rfl (by simp) hg (by
      rw [freeze_length]
      refine ⟨some ⟨w.heap.size, 0, none⟩, n, cells.toList, by rw [hxl]; exact updM_same _ _ _, by rw [hxl]; exact World.ownsRow_lit w cells n (Nat.zero_le _) (by omega) hcs, hspos, fun i x j y u h1 h2 h3 => ?_⟩
      obtain ⟨v, hv, hvr⟩ := hvals i x h1
      have hjl := (List.getElem?_eq_some_iff.1 h2).1
      rw [cells_len hS] at hjl
      rw [hcg i v j hv hjl] at h3
      exact (hvr.2 j y u h2 h3).mono he) (fun b hb => by simp [MB.blk] at hb; omega)
  rw [freeze_length] at hpush
  exact ⟨_, _, _, _, hr, hpush, he2.trans he, .arr _ _ n n e (Ty.sz G ty) (updM_same _ _ _)⟩

/-- a builtin -/
theorem builtinT_run (hS : SigOk G) {b : Builtin} {ts : List TypeId} {ty : TypeId} {cs : Array Bool} {args : List (V G.S)} {st : St G.S} {k : K G} (h : (builtinT C b ts args st k).run G Φ f = some r) :
    ∃ v st' rd wr, st'.tm = st.tm ∧ st'.n0 = st.n0 ∧ (b ≠ .append → st'.L = st.L) ∧ (∀ (w0 : World) (Fp : Nat → Prop) (okA : Okc) (M : Mem) (ok : Okc) (w : World) (vals : List Value), MI C w0 Fp okA M ok st.L w → VRs w ok M args vals →
      ∃ val w' M' ok', (builtin b ts.toArray ty cs vals.toArray).run C.P w = .ok (.value val) w' ∧ MI C w0 Fp okA M' ok' st'.L w' ∧ Ex M ok w M' ok' w' ∧ VR w' ok' M' v val) ∧ (k v st' rd wr).run G Φ f = some r := by
  unfold builtinT at h
  split at h
  · rename_i x
    split at h
    · rename_i n h1 h2
      refine ⟨_, st, _, _, rfl, rfl, fun _ => rfl, fun w0 Fp okA M ok w vals hm hv => ?_, h⟩
      obtain ⟨vx, l', rfl, hx, hl⟩ := hv.inv
      have : l' = [] := List.eq_nil_of_length_eq_zero hl.1.symm
      subst this
      have := lenV_run (ty := ty) hS h1 h2 hm hx
      exact ⟨_, w, M, ok, by simp [builtin, this], hm, Ex.refl _ _ _, .int _ _⟩
    · exact run_fail h
  · rename_i s x
    split at h
    · rename_i ta tb
      split at h
      · rename_i e he
        split at h
        · rename_i t ht
          split at h
          · rename_i hc
            simp only [Bool.and_eq_true, decide_eq_true_eq] at hc
            obtain ⟨⟨hb, hs⟩, rfl⟩ := hc
            split at h
            · rename_i ys hys
              obtain ⟨v, st', rd, wr, h1, h2, h3, h4⟩ := appT_run (ty := ty) hS (elemId_eq he) hb hs hys h
              refine ⟨v, st', rd, wr, h1, h2, fun hne => (hne rfl).elim, fun w0 Fp okA M ok w vals hm hv => ?_, h4⟩
              obtain ⟨vs, l', rfl, hsv, hl⟩ := hv.inv
              obtain ⟨vx, l'', rfl, hx, hl2⟩ := hl.inv
              have : l'' = [] := List.eq_nil_of_length_eq_zero hl2.1.symm
              subst this
              obtain ⟨val, w', M', ok', hr, q⟩ := h3 w0 Fp okA M ok w vs vx hm hsv hx
              exact ⟨val, w', M', ok', by simp [builtin, hr], q⟩
            · exact run_fail h
          · exact run_fail h
        · exact run_fail h
      · exact run_fail h
    · exact run_fail h
  · rename_i ka a kb b
    split at h
    · rename_i hk
      subst hk
      refine ⟨_, st, _, _, rfl, rfl, fun _ => rfl, fun w0 Fp okA M ok w vals hm hv => ?_, h⟩
      obtain ⟨vx, l', rfl, hx, hl⟩ := hv.inv
      obtain ⟨vy, l'', rfl, hy, hl2⟩ := hl.inv
      have : l'' = [] := List.eq_nil_of_length_eq_zero hl2.1.symm
      subst this
      cases hx; cases hy
      exact ⟨_, w, M, ok, by simp [builtin, Builtin.max_, Builtin.max2], hm, Ex.refl _ _ _, .int _ _⟩
    · exact run_fail h
  · rename_i ka a kb b
    split at h
    · rename_i hk
      subst hk
      refine ⟨_, st, _, _, rfl, rfl, fun _ => rfl, fun w0 Fp okA M ok w vals hm hv => ?_, h⟩
      obtain ⟨vx, l', rfl, hx, hl⟩ := hv.inv
      obtain ⟨vy, l'', rfl, hy, hl2⟩ := hl.inv
      have : l'' = [] := List.eq_nil_of_length_eq_zero hl2.1.symm
      subst this
      cases hx; cases hy
      exact ⟨_, w, M, ok, by simp [builtin, Builtin.min_, Builtin.min2], hm, Ex.refl _ _ _, .int _ _⟩
    · exact run_fail h
  · exact run_fail h

end

end Go.Dv

namespace Go.Dv

open Go

section

variable {G : Sig} {C : Cfg G} {Φ : FuncId → List Item → St G.S → Option (Ret G.S)} {f : FuncId} {r : Ret G.S}

/-- an operation that yields nothing -/
theorem OpOK.skip {o : Oper} {st st' : St G.S} (h1 : st'.tm = st.tm) (h2 : st'.n0 = st.n0)
    (h : ∀ (w0 : World) (Fp : Nat → Prop) (okA : Okc) (M : Mem) (ok : Okc) (a : Act) (w : World), MI C w0 Fp okA M ok st.L w → TR w ok M st.tm a →
      ∃ w' M' ok', (execOp a.eval o).run C.P w = .ok .skip w' ∧ MI C w0 Fp okA M' ok' st'.L w' ∧ Ex M ok w M' ok' w') : OpOK C o st .un st' := by
  refine ⟨h1, h2, fun w0 Fp okA M ok a w hm ht next Q hk => ?_⟩
  obtain ⟨w', M', ok', hr, hm', he⟩ := h w0 Fp okA M ok a w hm ht
  unfold Oper.wp
  rw [hr, Oper.upon_skip]
  exact hk _ w' M' ok' hm' he (.un _)

theorem agg_ok {w : World} {ok : Okc} {M : Mem} {v : V G.S} {val : Value} {cs : List (V G.S)} (hag : isAg v = true) (h : v.cellsL = some cs) (hv : VR w ok M v val) : ∃ l : List Value, val = .agg l.toArray ∧ VRs w ok M cs l := by
  cases hv with
  | st n x l hl hh => simp [V.cellsL] at h; subst h; exact ⟨l, rfl, hl, hh⟩
  | ag cs' l hl hh => simp [V.cellsL] at h; subst h; exact ⟨l, rfl, hl, hh⟩
  | _ => cases hag

theorem evOp_ok (hS : SigOk G) (hΦ : PhiOK C Φ) (hE : ExtOK C) {o : Oper} {st : St G.S} {k : K G} (h : (evOp C o st k).run G Φ f = some r) :
    ∃ v st' rd wr, (OpOK C o st v st' ∧ (chgOp o = false → wr = [] → st'.L = st.L)) ∧ (k v st' rd wr).run G Φ f = some r := by
  unfold evOp at h
  simp only at h
  split at h
  · rename_i x hop
    exact ⟨_, _, _, _, ⟨.pure fun w0 Fp okA M ok a w hm ht => ⟨_, by simp [execOp, hop], opd_ok hm ht _ x⟩, fun _ _ => rfl⟩, h⟩
  · rename_i x hop
    exact ⟨_, _, _, _, ⟨.pure fun w0 Fp okA M ok a w hm ht => ⟨_, by simp [execOp, hop], opd_ok hm ht _ x⟩, fun _ _ => rfl⟩, h⟩
  · rename_i c x y hop
    obtain ⟨b, hb, h⟩ := asB_run h
    refine ⟨_, _, _, _, ⟨.pure fun w0 Fp okA M ok a w hm ht => ⟨if b then a.eval x else a.eval y, ?_, ?_⟩, fun _ _ => rfl⟩, h⟩
    · have := hb w ok M _ (opd_ok hm ht _ c)
      simp [execOp, hop, this, asBool]
    · cases b
      · exact opd_ok hm ht _ y
      · exact opd_ok hm ht _ x
  · rename_i t hop
    split at h
    · rename_i cs hz
      obtain ⟨z, hzr, hzv⟩ := zeros_ok hz
      refine ⟨_, _, _, _, ⟨.val ?_ ?_ fun w0 Fp okA M ok a w hm ht => ?_, fun hcg => by simp [chgOp, hop] at hcg⟩, h⟩
      · rfl
      · rfl
      obtain ⟨h1, h2⟩ := hm.box cs z.cells.toList t (hzv w ok M)
      rw [Array.toArray_toList] at h1 h2
      exact ⟨_, _, _, _, by simp [execOp, hop, Instr.alloc, hzr, newVar, newRow], h1, h2, .ref _ _ _ (updM_same _ _ _)⟩
    · exact run_fail h
  · rename_i t x hop
    split at h
    · rename_i cs n hc hs
      split at h
      · rename_i hl
        refine ⟨_, _, _, _, ⟨.val ?_ ?_ fun w0 Fp okA M ok a w hm ht => ?_, fun hcg => by simp [chgOp, hop] at hcg⟩, h⟩
        · rfl
        · rfl
        obtain ⟨h1, h2⟩ := hm.box cs (a.eval x).cells.toList t (cellsL_ok hc (opd_ok hm ht _ x))
        rw [Array.toArray_toList] at h1 h2
        exact ⟨_, _, _, _, by simp [execOp, hop, Instr.box, newVar, newRow], h1, h2, .ref _ _ _ (updM_same _ _ _)⟩
      · exact run_fail h
    · exact run_fail h
  · rename_i t ps hop
    split at h
    · rename_i z pl hz hp
      split at h
      · rename_i l hl
        split at h
        · rename_i cs hf
          refine ⟨_, _, _, _, ⟨.pure fun w0 Fp okA M ok a w hm ht => ?_, fun _ _ => rfl⟩, h⟩
          obtain ⟨val, h1, h2⟩ := build_run hm ht hz hp hl hf
          exact ⟨val, by simp only [execOp, hop]; exact run_v h1, h2⟩
        · exact run_fail h
      · exact run_fail h
    · exact run_fail h
  · rename_i t n ps hop
    split at h
    · rename_i e he
      split at h
      · rename_i ty sz hty hs
        split at h
        · rename_i hc
          obtain ⟨rfl, hbig, hb, hps⟩ := hc
          split at h
          · rename_i xs hxs
            refine ⟨_, _, _, _, ⟨.val ?_ ?_ fun w0 Fp okA M ok a w hm ht => ?_, fun hcg => by simp [chgOp, hop] at hcg⟩, h⟩
            · rfl
            · rfl
            obtain ⟨val, w', M', ok', h1, h2⟩ := buildSlice_run hS hm ht (elemId_eq he) hs hbig hb hps hxs
            refine ⟨val, w', M', ok', ?_, h2⟩
            simp only [execOp, hop]
            exact run_v h1
          · exact run_fail h
        · exact run_fail h
      · exact run_fail h
    · exact run_fail h
  · rename_i t x hop
    obtain ⟨v, rd, wr, h1, h2⟩ := loadT_run hS h
    refine ⟨v, _, rd, wr, ⟨.pure fun w0 Fp okA M ok a w hm ht => ?_, fun _ _ => rfl⟩, h2⟩
    obtain ⟨val, h3, h4⟩ := h1 w0 Fp okA M ok w _ hm (opd_ok hm ht 0 x)
    exact ⟨val, by simp [execOp, hop, h3], h4⟩
  · rename_i t x y hop
    obtain ⟨st', rd, wr, h1, h2, h3, h4⟩ := storeT_run hS h
    refine ⟨_, st', rd, wr, ⟨.skip h1 h2 fun w0 Fp okA M ok a w hm ht => ?_, fun hcg => by simp [chgOp, hop] at hcg⟩, h4⟩
    obtain ⟨w', ok', h5, h6, h7⟩ := h3 w0 Fp okA M ok w _ _ hm (opd_ok hm ht 0 x) (opd_ok hm ht t y)
    exact ⟨w', M, ok', by simp [execOp, hop, h5], h6, h7⟩
  · rename_i x hop
    have nil : ∀ (w0 : World) (Fp : Nat → Prop) (okA : Okc) (M : Mem) (ok : Okc) (a : Act) (w : World), MI C w0 Fp okA M ok st.L w → TR w ok M st.tm a → (∃ ad, a.eval x = .pointer (some ad)) → ∃ val, (execOp a.eval o).run C.P w = .ok (.value val) w ∧ VR w ok M (opd C st 0 x) val := by
      intro w0 Fp okA M ok a w hm ht ⟨ad, hv⟩
      have := opd_ok hm ht 0 x
      exact ⟨_, by simp [execOp, hop, hv], this⟩
    split at h
    · rename_i o' off hx
      refine ⟨_, _, _, _, ⟨.pure fun w0 Fp okA M ok a w hm ht => ?_, fun _ _ => rfl⟩, h⟩
      rw [← hx]
      refine nil w0 Fp okA M ok a w hm ht ?_
      have := opd_ok hm ht 0 x
      rw [hx] at this
      generalize a.eval x = vx at this
      cases this; exact ⟨_, rfl⟩
    · rename_i cs hx
      refine ⟨_, _, _, _, ⟨.pure fun w0 Fp okA M ok a w hm ht => ?_, fun _ _ => rfl⟩, h⟩
      rw [← hx]
      refine nil w0 Fp okA M ok a w hm ht ?_
      have := opd_ok hm ht 0 x
      rw [hx] at this
      generalize a.eval x = vx at this
      cases this; exact ⟨_, rfl⟩
    · rename_i o' i off hx
      refine ⟨_, _, _, _, ⟨.pure fun w0 Fp okA M ok a w hm ht => ?_, fun _ _ => rfl⟩, h⟩
      rw [← hx]
      refine nil w0 Fp okA M ok a w hm ht ?_
      have := opd_ok hm ht 0 x
      rw [hx] at this
      generalize a.eval x = vx at this
      cases this; exact ⟨_, rfl⟩
    · exact run_fail h
  · rename_i op t x y yt hop
    obtain ⟨v, h1, h2⟩ := binV_run h
    refine ⟨v, _, _, _, ⟨.pure fun w0 Fp okA M ok a w hm ht => ?_, fun _ _ => rfl⟩, h2⟩
    obtain ⟨val, h3, h4⟩ := h1 w ok M _ _ x y (opd_ok hm ht t x) (opd_ok hm ht yt y)
    refine ⟨val, ?_, h4⟩
    simp only [execOp, hop]
    exact run_v h3
  · rename_i op t x hop
    obtain ⟨v, h1, h2⟩ := unV_run (C := C) h
    refine ⟨v, _, _, _, ⟨.pure fun w0 Fp okA M ok a w hm ht => ?_, fun _ _ => rfl⟩, h2⟩
    obtain ⟨val, h3, h4⟩ := h1 w ok M _ (opd_ok hm ht t x)
    exact ⟨val, by simp [execOp, hop, h3], h4⟩
  · rename_i src dst x hop
    obtain ⟨v, rd, wr, h1, h2⟩ := convT_run hS h
    refine ⟨v, _, _, _, ⟨.val ?_ ?_ fun w0 Fp okA M ok a w hm ht => ?_, fun _ _ => rfl⟩, h2⟩
    · rfl
    · rfl
    obtain ⟨val, w', M', ok', h3, h4⟩ := h1 w0 Fp okA M ok w _ hm (opd_ok hm ht src x)
    exact ⟨val, w', M', ok', by simp [execOp, hop, h3], h4⟩
  · rename_i g first cap hop
    split at h
    · rename_i hfe
      split at h
      · rename_i vs hvs
        refine ⟨_, _, _, _, ⟨.pure fun w0 Fp okA M ok a w hm ht => ?_, fun _ _ => rfl⟩, h⟩
        have hv := opds_ok hm ht _ _ _ hvs
        simp only [Bool.and_eq_true] at hfe
        have hfirst : first = #[] := by simpa using hfe.1
        have := VR.fn (w := w) (ok := ok) (M := M) g vs _ hv.1 hv.2
        simp only [fv, hfe.2, if_true] at this
        refine ⟨_, ?_, this⟩
        simp [execOp, hop, Instr.makeFunc, hfirst]
        rw [← Array.toList_map, Array.toArray_toList]
      · exact run_fail h
    · split at h
      · rename_i hce
        split at h
        · rename_i vs hvs
          refine ⟨_, _, _, _, ⟨.pure fun w0 Fp okA M ok a w hm ht => ?_, fun _ _ => rfl⟩, h⟩
          have hv := opds_ok hm ht _ _ _ hvs
          have hcap : cap = #[] := by simpa using hce
          have := VR.fn (w := w) (ok := ok) (M := M) (g + 1000000) vs _ hv.1 hv.2
          have hb : Nat.blt (g + 1000000) 1000000 = false := blt_add g
          simp only [fv, hb, Bool.false_eq_true, if_false, Nat.add_sub_cancel] at this
          refine ⟨_, ?_, this⟩
          simp [execOp, hop, Instr.makeFunc, hcap]
          rw [← Array.toList_map, Array.toArray_toList]
        · exact run_fail h
      · exact run_fail h
  · rename_i t l c hop
    split at h
    · rename_i k1 n k2 n2 e hl hc he
      split at h
      · rename_i i j
        split at h
        · rename_i hij
          subst hij
          split at h
          · rename_i ty z sz hty hz hs
            split at h
            · rename_i hcond
              simp only [Bool.and_eq_true, decide_eq_true_eq, List.isEmpty_iff] at hcond
              obtain ⟨⟨hb, rfl⟩, hre⟩ := hcond
              split at h
              · rename_i x hx
                obtain ⟨xs, hxs, h'⟩ := run_bnd h
                unfold mk at hxs
                split at hxs
                · rename_i hn
                  cases hxs
                  obtain ⟨m, rfl⟩ : ∃ m : Nat, n = m := ⟨n.toNat, by omega⟩
                  refine ⟨_, _, _, _, ⟨.val ?_ ?_ fun w0 Fp okA M ok a w hm ht => ?_, fun hcg => by simp [chgOp, hop] at hcg⟩, h'⟩
                  · rfl
                  · rfl
                  have h1 := opd_ok hm ht 0 (.tmp i)
                  rw [hl] at h1
                  obtain ⟨val, w', M', h2, h3, h4, h5⟩ := makeSlice_run hS (elemId_eq he) hb hs hz (n := m) (by have := hn.2; exact_mod_cast this) hre hx hm k1 k1
                  generalize hv : a.eval (.tmp i) = vx at h1
                  cases h1
                  exact ⟨val, w', M', ok, by simp [execOp, hop, hv, h2], h3, h4, h5⟩
                · cases hxs
              · exact run_fail h
            · exact run_fail h
          · exact run_fail h
        · exact run_fail h
      · exact run_fail h
    · exact run_fail h
  · rename_i t x lo hi mx hop
    split at h
    · obtain ⟨v, st', rd, wr, h1, h2, h3, h4⟩ := sliceT_run hS h
      refine ⟨v, st', rd, wr, ⟨.val h1 h2 fun w0 Fp okA M ok a w hm ht => ?_, fun hcg => by simp [chgOp, hop] at hcg⟩, h4⟩
      have bd : ∀ b : Option Operand, BdR w ok M (b.map (opd C st 0)) (b.map a.eval) := by
        intro b
        cases b with
        | none => trivial
        | some b => exact opd_ok hm ht 0 b
      obtain ⟨val, ok', h5, h6, h7, h8⟩ := h3 w0 Fp okA M ok w _ _ _ hm (opd_ok hm ht t x) (bd lo) (bd hi)
      exact ⟨val, w, M, ok', by simp [execOp, hop, h5], h6, h7, h8⟩
    · exact run_fail h
  · rename_i s x i hop
    split at h
    · rename_i fd hfd
      split at h
      · rename_i n hs
        split at h
        · rename_i o' off hx
          refine ⟨_, _, _, _, ⟨.pure fun w0 Fp okA M ok a w hm ht => ?_, fun _ _ => rfl⟩, h⟩
          have h1 := opd_ok hm ht 0 x
          rw [hx] at h1
          generalize hv : a.eval x = vx at h1
          cases h1 with
          | ref _ _ b hM => exact ⟨_, by simp [execOp, hop, hv, fieldAt_run hfd hs], .ref _ _ _ hM⟩
        · rename_i cs hx
          refine ⟨_, _, _, _, ⟨.pure fun w0 Fp okA M ok a w hm ht => ?_, fun _ _ => rfl⟩, h⟩
          have h1 := opd_ok hm ht 0 x
          rw [hx] at h1
          generalize hv : a.eval x = vx at h1
          cases h1 with
          | pc _ b off u g1 g2 => 
            refine ⟨_, by simp [execOp, hop, hv, fieldAt_run hfd hs]; rfl, .pc _ b _ (fun j => u (fd.offset + j)) (fun j y hj => ?_) (fun j y hj => ?_)⟩
            · rw [List.getElem?_drop] at hj
              have := g1 _ y hj
              rw [Nat.add_assoc]; exact this
            · rw [List.getElem?_drop] at hj
              exact g2 _ y hj
        · rename_i o' i' off hx
          refine ⟨_, _, _, _, ⟨.pure fun w0 Fp okA M ok a w hm ht => ?_, fun _ _ => rfl⟩, h⟩
          have h1 := opd_ok hm ht 0 x
          rw [hx] at h1
          generalize hv : a.eval x = vx at h1
          cases h1 with
          | pe _ _ _ b n c e sz hM =>
            refine ⟨.pointer (some ⟨b, i' * sz + (off + fd.offset), none⟩), ?_, .pe _ _ _ _ _ _ _ _ hM⟩
            rw [← Nat.add_assoc]
            simp [execOp, hop, hv, fieldAt_run hfd hs]
        · exact run_fail h
      · exact run_fail h
    · exact run_fail h
  · rename_i s x i hop
    split at h
    · rename_i fd cs hfd hcs
      split at h
      · rename_i v hp
        refine ⟨_, _, _, _, ⟨.pure fun w0 Fp okA M ok a w hm ht => ?_, fun _ _ => rfl⟩, h⟩
        split at hcs
        · rename_i hag
          obtain ⟨l, hv, hvs⟩ := agg_ok hag hcs (opd_ok hm ht s x)
          obtain ⟨fs, hu, hf⟩ := fieldOf_run hfd
          obtain ⟨val, h1, h2⟩ := partV_part (w := w) (ok := ok) (M := M) hp hvs
          exact ⟨val, by simp [execOp, hop, Instr.field, run_underlying hu, hf, hv, asAgg, h1], h2⟩
        · cases hcs
      · exact run_fail h
    · exact run_fail h
  · rename_i t x i hop
    split at h
    · obtain ⟨v, rd, wr, h1, h2⟩ := indexAddrT_run hS h
      refine ⟨v, _, rd, wr, ⟨.pure fun w0 Fp okA M ok a w hm ht => ?_, fun _ _ => rfl⟩, h2⟩
      obtain ⟨val, h3, h4⟩ := h1 w0 Fp okA M ok w _ _ hm (opd_ok hm ht t x) (opd_ok hm ht 0 i)
      exact ⟨val, by simp [execOp, hop, h3], h4⟩
    · obtain ⟨v, st', rd, wr, h1, h2, hne, h3, h4⟩ := indexBoxT_run hS h
      refine ⟨v, st', rd, wr, ⟨.val h1 h2 fun w0 Fp okA M ok a w hm ht => ?_, fun _ => hne⟩, h4⟩
      obtain ⟨val, ok', h5, h6, h7, h8⟩ := h3 w0 Fp okA M ok w _ _ hm (opd_ok hm ht t x) (opd_ok hm ht 0 i)
      exact ⟨val, w, M, ok', by simp [execOp, hop, h5], h6, h7, h8⟩
  · rename_i t x i hop
    split at h
    · rename_i ki n s hi hx hu
      obtain ⟨b, hb, h'⟩ := run_bnd h
      obtain ⟨m, rfl, hm'⟩ := idx_ok hb
      refine ⟨_, _, _, _, ⟨.pure fun w0 Fp okA M ok a w hm ht => ?_, fun _ _ => rfl⟩, h'⟩
      have h1 := opd_ok hm ht t x
      have h2 := opd_ok hm ht 0 i
      rw [hx] at h1; rw [hi] at h2
      generalize hv1 : a.eval x = vx at h1
      generalize hv2 : a.eval i = vi at h2
      cases h1; cases h2
      exact ⟨_, by simp [execOp, hop, hv1, hv2, index_str_run hu hm'], .int _ _⟩
    · rename_i ki n cs m e hi hx hu
      split at h
      · rename_i ty hty hs ha
        split at h
        · rename_i xs hxs
          split at h
          · rename_i hlen
            obtain ⟨y, hy, h'⟩ := run_bnd h
            obtain ⟨q, rfl, hq⟩ := idx_ok hy
            refine ⟨_, _, _, _, ⟨.pure fun w0 Fp okA M ok a w hm ht => ?_, fun _ _ => rfl⟩, h'⟩
            have h1 := opd_ok hm ht t x
            have h2 := opd_ok hm ht 0 i
            rw [hx] at h1; rw [hi] at h2
            generalize hv1 : a.eval x = vx at h1
            generalize hv2 : a.eval i = vi at h2
            obtain ⟨hxl, hxg⟩ := mapO_get hxs
            obtain ⟨c, hc, hpc⟩ := hxg q y hq
            cases h2
            cases h1 with
            | ag _ l hl hh =>
              have hql : q < l.length := by rw [← hl]; exact (List.getElem?_eq_some_iff.1 hc).1
              have hlq := List.getElem?_eq_getElem hql
              have hvr := hh q c _ hc hlq
              refine ⟨l[q], ?_, (prj_ok hS hpc hvr).2⟩
              have := index_arr_run (P := C.P) (w := w) (l := l.toArray) (k := ki) (v := l[q]) hu (sizeT_run hs) (isAgg_run ha) (n := q) (by omega) (by simp [hql])
              simp [execOp, hop, hv1, hv2, this]
          · exact run_fail h
        · exact run_fail h
      · exact run_fail h
    · exact run_fail h
  · rename_i x i hop
    split at h
    · rename_i vs hx
      split at h
      · rename_i v hv
        refine ⟨_, _, _, _, ⟨.pure fun w0 Fp okA M ok a w hm ht => ?_, fun _ _ => rfl⟩, h⟩
        have h1 := opd_ok hm ht 0 x
        rw [hx] at h1
        generalize hv1 : a.eval x = vx at h1
        cases h1 with
        | tup _ l hl hh =>
          have hql : i < l.length := by rw [← hl]; exact (List.getElem?_eq_some_iff.1 hv).1
          refine ⟨l[i], by simp [execOp, hop, hv1, Instr.extract, hql], hh i v _ hv (List.getElem?_eq_getElem hql)⟩
      · exact run_fail h
    · exact run_fail h
  · rename_i c hop
    split at h
    · rename_i b hb
      split at h
      · rename_i vs hvs
        obtain ⟨v, st', rd, wr, h1, h2, hne, h3, h4⟩ := builtinT_run (ty := o.type) (cs := (c.args.map fun | .const _ => true | _ => false)) hS h
        refine ⟨v, st', rd, wr, ⟨.val h1 h2 fun w0 Fp okA M ok a w hm ht => ?_, fun hcg _ => hne (fun e => by subst e; simp [chgOp, hop, hb] at hcg)⟩, h4⟩
        obtain ⟨val, w', M', ok', h5, h6⟩ := h3 w0 Fp okA M ok w _ hm (opds_ok hm ht _ _ _ hvs)
        refine ⟨val, w', M', ok', ?_, h6⟩
        rw [Array.toArray_toList, ← Array.toList_map, Array.toArray_toList] at h5
        simp only [execOp, hop, resolve, hb]
        simp [invoke]
        exact h5
      · exact run_fail h
    · rename_i g hg
      split at h
      · rename_i vs hvs
        split at h
        · rename_i q caps hq
          split at h
          · rename_i hbl
            obtain ⟨v, st', rd, wr, ⟨h1, h2, hwr⟩, h3, h4⟩ := callT_ok hS hΦ hE h
            refine ⟨v, st', rd, wr, ⟨⟨h1, h2, fun w0 Fp okA M ok a w hm ht next Q hk => ?_⟩, fun _ => hwr⟩, h4⟩
            have h5 := opd_ok hm ht 0 g
            rw [hq] at h5
            generalize hv1 : a.eval g = vg at h5
            cases h5 with
            | fn _ _ l hl hh =>
              simp only [fv, hbl, if_true] at hv1
              have hv := opds_ok hm ht _ _ _ hvs
              obtain ⟨h6, h7⟩ := h3 w0 Fp okA M ok w (c.args.toList.map a.eval ++ l) hm (hv.append ⟨hl, hh⟩)
              have hargs : (c.args.toList.map a.eval ++ l).toArray = c.args.map a.eval ++ l.toArray := by
                rw [← Array.toList_map]; simp
              have hr : (execOp a.eval o).run C.P w = .ok (.enter q (c.args.toList.map a.eval ++ l).toArray) w := by
                rw [hargs]
                rw [hargs] at h6
                simp [execOp, hop, resolve, hg, hv1, Deferred.ofValue, invoke, h6]
              unfold Oper.wp
              rw [hr, Oper.upon_enter]
              refine h7.mono ?_
              rintro e w' ⟨v', M', ok', rfl, h8, h9, h10⟩
              exact hk v' w' M' ok' h8 h9 h10
          · rename_i hbl
            obtain ⟨v, st', rd, wr, ⟨h1, h2, hwr⟩, h3, h4⟩ := callT_ok hS hΦ hE h
            refine ⟨v, st', rd, wr, ⟨⟨h1, h2, fun w0 Fp okA M ok a w hm ht next Q hk => ?_⟩, fun _ => hwr⟩, h4⟩
            have h5 := opd_ok hm ht 0 g
            rw [hq] at h5
            generalize hv1 : a.eval g = vg at h5
            cases h5 with
            | fn _ _ l hl hh =>
              simp only [fv, hbl, if_false] at hv1
              have hv := opds_ok hm ht _ _ _ hvs
              obtain ⟨h6, h7⟩ := h3 w0 Fp okA M ok w (l ++ c.args.toList.map a.eval) hm (VRs.append ⟨hl, hh⟩ hv)
              have hargs : (l ++ c.args.toList.map a.eval).toArray = l.toArray ++ c.args.map a.eval := by
                rw [← Array.toList_map]; simp
              have hr : (execOp a.eval o).run C.P w = .ok (.enter (q - 1000000) (l ++ c.args.toList.map a.eval).toArray) w := by
                rw [hargs]
                rw [hargs] at h6
                simp [execOp, hop, resolve, hg, hv1, Deferred.ofValue, invoke, h6]
              unfold Oper.wp
              rw [hr, Oper.upon_enter]
              refine h7.mono ?_
              rintro e w' ⟨v', M', ok', rfl, h8, h9, h10⟩
              exact hk v' w' M' ok' h8 h9 h10
        · exact run_fail h
      · exact run_fail h
    · exact run_fail h
  · exact run_fail h

end

end Go.Dv
