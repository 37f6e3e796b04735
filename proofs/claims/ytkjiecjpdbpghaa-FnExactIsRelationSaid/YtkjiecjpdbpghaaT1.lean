/- T: a symbolic interpreter of the model's code over values: definitions.
   Native values (lists, pairs) stand for what is only read; own rows and boxes of a call lie in a small heap. -/
import Derived.Below
import Derived.Laws.OwnMore
import Derived.Laws.Tables
import Derived.Laws.Rows
import Derived.Laws.NewFold
import Derived.Laws.Entries
import Derived.Laws.CopyRow
import Derived.Maps.AppendAt
import Derived.Orders
import Derived.ProofKit
import Derived.OpenShut
import Derived.WideShapes
import Derived.Carry
namespace Go.T

/-! ### types and their values -/
inductive Ty
  | int (k : IntKind) | bool | str | hdr | slice (e : Nat) (t : Ty) | pair (a b : Ty)
  deriving DecidableEq

@[reducible] def Val : Ty → Type
  | .int _ => Int
  | .bool => Bool
  | .str => ByteArray
  | .hdr => Go.Value
  | .slice _ t => List (Val t)
  | .pair a b => Val a × Val b

def Ty.sz : Ty → Nat
  | .pair a b => a.sz + b.sz
  | _ => 1

def dflt : (t : Ty) → Val t
  | .int _ => (0 : Int)
  | .bool => false
  | .str => ByteArray.empty
  | .hdr => Go.Value.slice none 0 0
  | .slice _ _ => []
  | .pair a b => (dflt a, dflt b)

/-! ### cells, values, blocks, states -/
/-- n of a shared row: what it reads lies in no row from number n on. -/
inductive LC
  | int (k : IntKind) (n : Int)
  | bool (b : Bool)
  | str (s : ByteArray)
  /-- a cell's very value -/
  | hdr (v : Go.Value)
  | sl (e : Nat) (t : Ty) (xs : List (Val t)) (n : Nat)
  | nils
  | nilp
  | own (id : Nat)
  | ptr (id : Nat) (i : Nat) (f : Nat)
  | tptr (t : Ty) (v : Val t) (f : Nat) (n : Nat)
  | fn (f : Nat)
  | undef

/-- One value: its cells; agg: a struct or an array. -/
structure LV1 where
  agg : Bool
  cs : List LC
inductive LV
  | one (c : LC)
  | agg (cs : List LC)
  | tup (vs : List LV1)

/-- mt: may be written. dp: what lies in it is its own, too. n: as a shared row's, of what lies in it (dp: of its own blocks' first row). -/
inductive Blk
  | box (cs : List LC)
  | row (e : Nat) (t : Ty) (xs : List (Val t)) (dp : Bool) (mt : Bool) (n : Nat)
  /-- whatever lies in blocks of the call's own -/
  | fra (F : List Nat) (Φ : Go.World → Prop)
  | dead

structure St where
  env : List LV
  heap : List Blk

def LV.cells : LV → List LC
  | .one c => [c]
  | .agg cs => cs
  | .tup _ => []

def LV1.lv (v : LV1) : LV := match v.agg, v.cs with
  | false, [c] => .one c
  | _, cs => .agg cs

/-! ### values into cells and back -/
def explode (n : Nat) : (t : Ty) → Val t → List LC
  | .int k, v => [.int k v]
  | .bool, v => [.bool v]
  | .str, v => [.str v]
  | .hdr, v => [.hdr v]
  | .slice e t, v => [.sl e t v n]
  | .pair a b, v => explode n a v.1 ++ explode n b v.2

/-- The zero value's cells. -/
def zeros : (t : Ty) → List LC
  | .int k => [.int k 0]
  | .bool => [.bool false]
  | .str => [.str ByteArray.empty]
  | .hdr => [.hdr (Go.Value.slice none 0 0)]
  | .slice _ _ => [.nils]
  | .pair a b => zeros a ++ zeros b

def implode (h : List Blk) : (t : Ty) → List LC → Option (Val t × List LC)
  | .int k, .int k' n :: r => if k = k' then some (n, r) else none
  | .bool, .bool b :: r => some (b, r)
  | .str, .str s :: r => some (s, r)
  | .hdr, .hdr v :: r => some (v, r)
  | .slice _ _, .nils :: r => some ([], r)
  | .slice e t, .sl e' t' xs _ :: r => if he : e' = e ∧ t' = t then some (he.2 ▸ xs, r) else none
  | .slice e t, .own id :: r => match h[id]? with
    | some (.row e' t' xs _ _ _) => if he : e' = e ∧ t' = t then some (he.2 ▸ xs, r) else none
    | _ => none
  | .pair a b, cs => match implode h a cs with
    | some (x, cs) => match implode h b cs with
      | some (y, cs) => some ((x, y), cs)
      | none => none
    | none => none
  | _, _ => none

/-- The rows that the cells hand on. -/
def LC.movedId : LC → Option Nat
  | .own id => some id
  | _ => none
def moved (cs : List LC) : List Nat := cs.filterMap LC.movedId
/-- Is all that the cells lead to their own? -/
def LC.deep (h : List Blk) : LC → Bool
  | .sl .. => false
  | .own id => match h[id]? with
    | some (.row _ _ _ dp _ _) => dp
    | _ => false
  | _ => true
def deepOf (h : List Blk) (cs : List LC) : Bool := cs.all (LC.deep h)
def kill (h : List Blk) (ids : List Nat) : List Blk := ids.foldl (fun h i => h.set i .dead) h
def Blk.froze : Blk → Blk
  | .row e t xs dp _ n => .row e t xs dp false n
  | b => b
def freeze (h : List Blk) (ids : List Nat) : List Blk := ids.foldl (fun h i => h.modify i Blk.froze) h

/-! ### tables of types -/
/-- A type: how its values are told; a struct (an array): its fields' places and sizes. -/
structure TI where
  ty : Ty
  agg : Bool
  offs : List (Nat × Nat)
  /-- a struct of two whole numbers, that may be compared -/
  ints : Bool := false
abbrev TT := List (Nat × TI)
def TT.get (tt : TT) (t : Nat) : Option TI := match tt with
  | [] => none
  | (u, ti) :: r => if u = t then some ti else TT.get r t

def LC.isDef : LC → Bool
  | .undef => false
  | _ => true

def toLV (agg : Bool) (cs : List LC) : LV := match agg, cs with
  | false, [c] => .one c
  | _, cs => .agg cs

def valOf : Value → LV
  | .int k n => .one (.int k n)
  | .bool b => .one (.bool b)
  | .string s => .one (.str s)
  | .slice none 0 0 => .one .nils
  | .pointer none => .one .nilp
  | _ => .one .undef

def St.ev (st : St) : Operand → LV
  | .tmp t => st.env.getD t (.one .undef)
  | .const v => valOf v
  | .func f => .one (.fn f)
  | _ => .one .undef

def St.put (st : St) (d : Option Tmp) (v : LV) : St := match d with
  | some t => { st with env := st.env.set t v }
  | none => st
end Go.T
/- T: one operation's step. -/
namespace Go.T

def binI (op : BinOp) (k : IntKind) (a b : Int) : Option LC := match op with
  | .add => some (.int k (k.wrap (a + b)))
  | .sub => some (.int k (k.wrap (a - b)))
  | .mul => some (.int k (k.wrap (a * b)))
  | .lss => some (.bool (decide (a < b)))
  | .leq => some (.bool (decide (a ≤ b)))
  | .gtr => some (.bool (decide (b < a)))
  | .geq => some (.bool (decide (b ≤ a)))
  | .eql => some (.bool (decide (a = b)))
  | .neq => some (.bool (!decide (a = b)))
  | _ => none
def binS (op : BinOp) (a b : ByteArray) : Option LC := match op with
  | .eql => some (.bool (a.toList == b.toList))
  | .neq => some (.bool (!(a.toList == b.toList)))
  | _ => none
/-- '==' of two structs of two whole numbers. -/
def eqInts : List LC → List LC → Option Bool
  | [.int k a, .int l b], [.int k' a', .int l' b'] => if k = k' ∧ l = l' then some (decide (a = a') && decide (b = b')) else none
  | _, _ => none

/-- A step's demand and its state. -/
abbrev Res := Option (Prop × St)
def St.go (st : St) (d : Option Tmp) (c : LC) : Res := some (True, st.put d (.one c))

def stepBin (tt : TT) (op : BinOp) (t : Nat) (x y : LV) (d : Option Tmp) (st : St) : Res :=
  match x, y with
  | .one (.int k a), .one (.int k' b) => if k = k' then match op with
    | .quo => some (b ≠ 0, st.put d (.one (.int k (k.wrap (a.tdiv b)))))
    | .rem => some (b ≠ 0, st.put d (.one (.int k (a.tmod b))))
    | op => match binI op k a b with
      | some c => st.go d c
      | none => none
    else none
  | .one (.str a), .one (.str b) => match op with
    | .add => some (a.size + b.size < 4611686018427387904, st.put d (.one (.str (a ++ b))))
    | op => match binS op a b with
      | some c => st.go d c
      | none => none
  | .one (.bool a), .one (.bool b) => match tt.get t with
    | some ti => if ti.ty = .bool ∧ ti.agg = false then match op with
      | .eql => st.go d (.bool (a == b))
      | .neq => st.go d (.bool (!(a == b)))
      | _ => none
      else none
    | none => none
  | .agg a, .agg b => match tt.get t with
    | some ti => if ti.ints = true then match eqInts a b with
      | some e => match op with
        | .eql => st.go d (.bool e)
        | .neq => st.go d (.bool (!e))
        | _ => none
      | none => none
      else none
    | none => none
  | _, _ => none

def stepUn (op : UnOp) (x : LV) (d : Option Tmp) (st : St) : Res := match op, x with
  | .neg, .one (.int k n) => st.go d (.int k (k.wrap (0 - n)))
  | .not, .one (.bool b) => st.go d (.bool (!b))
  | _, _ => none

/-- Into the heap: a new block. -/
def St.new (st : St) (d : Option Tmp) (b : Blk) (c : LC) : St := { (st.put d (.one c)) with heap := st.heap ++ [b] }

def stepLoad (tt : TT) (t : Nat) (x : LV) (d : Option Tmp) (st : St) : Res := match tt.get t with
  | none => none
  | some ti => match x with
    | .one (.ptr id i f) => match st.heap[id]? with
      | some (.box cs) => some (f + ti.ty.sz ≤ cs.length, st.put d (toLV ti.agg ((cs.drop f).take ti.ty.sz)))
      | some (.row _ t xs dp _ n) => some (i < xs.length ∧ f + ti.ty.sz ≤ t.sz, st.put d (toLV ti.agg (((explode (bif dp then n + 1 else n) t (xs.getD i (dflt t))).drop f).take ti.ty.sz)))
      | _ => none
    | .one (.tptr t v f n) => some (f + ti.ty.sz ≤ t.sz, st.put d (toLV ti.agg (((explode n t v).drop f).take ti.ty.sz)))
    | _ => none

/-- One cell that leads nowhere, put into a value. -/
def setV : (t : Ty) → Val t → Nat → LC → Option (Val t)
  | .int k, _, 0, .int k' n => if k = k' then some n else none
  | .bool, _, 0, .bool b => some b
  | .str, _, 0, .str s => some s
  | .pair a b, v, f, c => if f < a.sz then match setV a v.1 f c with
      | some x => some (x, v.2)
      | none => none
    else match setV b v.2 (f - a.sz) c with
      | some y => some (v.1, y)
      | none => none
  | _, _, _, _ => none

/-- No row in it. -/
def Ty.flat : Ty → Bool
  | .slice _ _ => false
  | .pair a b => a.flat && b.flat
  | _ => true

/-- The first row that a row's own blocks come from. -/
def lo (h : List Blk) (id : Nat) : Nat := match h[id]? with
  | some (.row _ _ _ true _ n) => min id n
  | _ => id
def los (h : List Blk) (n : Nat) (ids : List Nat) : Nat := ids.foldl (fun n id => min n (lo h id)) n

def nodupB (l : List Nat) : Bool := match l with
  | [] => true
  | x :: r => !r.contains x && nodupB r

def stepStore (tt : TT) (t : Nat) (x y : LV) (st : St) : Res := match tt.get t with
  | none => none
  | some ti => match x with
    | .one (.ptr id i f) =>
      let cs := y.cells
      match st.heap[id]? with
      | some (.box old) => some (cs.length = ti.ty.sz ∧ cs.all LC.isDef = true ∧ f + ti.ty.sz ≤ old.length, { st with heap := st.heap.set id (.box (old.take f ++ cs ++ old.drop (f + cs.length))) })
      | some (.row e t xs dp true n) => if ti.agg = false ∧ ti.ty.flat = true then match cs with
          | [c] => match setV t (xs.getD i (dflt t)) f c with
            | some v => some (i < xs.length, { st with heap := st.heap.set id (.row e t (xs.set i v) dp true n) })
            | none => none
          | _ => none
        else if f = 0 ∧ ti.ty = t ∧ nodupB (moved cs) = true ∧ (moved cs).contains id = false ∧ cs.all LC.isDef = true then match implode st.heap t cs with
            | some (v, []) => bif dp && deepOf st.heap cs then some (i < xs.length, { st with heap := (kill st.heap (moved cs)).set id (.row e t (xs.set i v) true true (los st.heap n (moved cs))) })
              else some (i < xs.length, { st with heap := (kill st.heap (moved cs)).set id (.row e t (xs.set i v) false true st.heap.length) })
            | _ => none
          else none
      | _ => none
    | _ => none

def stepField (tt : TT) (t f : Nat) (x : LV) (d : Option Tmp) (st : St) : Res := match tt.get t with
  | none => none
  | some ti => match x, ti.offs[f]? with
    | .one (.ptr id i g), some o => match st.heap[id]? with
      | some .dead => none
      | _ => st.go d (.ptr id i (g + o.1))
    | .one (.tptr t v g n), some o => st.go d (.tptr t v (g + o.1) n)
    | _, _ => none

/-- Is a row of e's, laid out as t, this slice type's? -/
def TI.row (ti : TI) (e : Nat) (t : Ty) : Bool := !ti.agg && match ti.ty with
  | .slice e' t' => e' == e && t'.sz == t.sz
  | _ => false

def stepIndexAddr (tt : TT) (t : Nat) (x y : LV) (d : Option Tmp) (st : St) : Res := match tt.get t with
  | none => none
  | some ti => match x, y with
    | .one (.sl e t xs n), .one (.int _ i) => if ti.agg = false ∧ ti.ty = .slice e t then some (0 ≤ i ∧ i < xs.length, st.put d (.one (.tptr t (xs.getD i.toNat (dflt t)) 0 n))) else none
    | .one (.own id), .one (.int _ i) => match st.heap[id]? with
      | some (.row e t xs _ _ _) => if ti.row e t = true then some (0 ≤ i ∧ i < xs.length, st.put d (.one (.ptr id i.toNat 0))) else none
      | _ => none
    | _, _ => none

def lenOf (ti : TI) (h : List Blk) : LV → Option Int
  | .one (.str s) => if ti.agg = false ∧ ti.ty = .str then some s.size else none
  | .one (.sl e t xs _) => if ti.agg = false ∧ ti.ty = .slice e t then some xs.length else none
  | .one .nils => match ti.agg, ti.ty with
    | false, .slice _ _ => some 0
    | _, _ => none
  | .one (.own id) => match h[id]? with
    | some (.row e t xs _ _ _) => if ti.row e t = true then some xs.length else none
    | _ => none
  | _ => none

/-- A new row made of elements' cells. -/
def newRow (h : List Blk) (e : Nat) (t : Ty) (xs : List (Val t)) (dp : Bool) (ids : List Nat) : List Blk :=
  kill h ids ++ [.row e t xs dp true (bif dp then los h h.length ids else h.length + 1)]
def implodes (h : List Blk) (t : Ty) : List (List LC) → Option (List (Val t))
  | [] => some []
  | cs :: r => match implode h t cs with
    | some (v, []) => match implodes h t r with
      | some vs => some (v :: vs)
      | none => none
    | _ => none

/-- append's destination: its elements; are they its own; the row that is handed on. -/
def dstOf (h : List Blk) (e : Nat) (te : Ty) : LV → Option (List (Val te) × Bool × List Nat)
  | .one .nils => some ([], true, [])
  | .one (.own id) => match h[id]? with
    | some (.row e' t' xs dp true _) => if he : e' = e ∧ t' = te then some (he.2 ▸ xs, dp, [id]) else none
    | _ => none
  | _ => none
def srcOf (h : List Blk) (e : Nat) (te : Ty) : LV → Option (List (Val te) × Bool × List Nat)
  | .one .nils => some ([], true, [])
  | .one (.own id) => match h[id]? with
    | some (.row e' t' xs dp _ _) => if he : e' = e ∧ t' = te then some (he.2 ▸ xs, dp, if te.flat then [] else [id]) else none
    | _ => none
  | .one (.sl e' t' xs _) => if he : e' = e ∧ t' = te then some (he.2 ▸ xs, te.flat, []) else none
  | _ => none

/-- append: what comes of the destination's elements and the others; of the heap. -/
def stepAppend (tt : TT) (t : Nat) (x y : LV) (d : Option Tmp) (st : St) : Res := match tt.get t with
  | none => none
  | some ti => match ti.agg, ti.ty with
    | false, .slice e te => match dstOf st.heap e te x with
      | some (xs, d1, i1) => match srcOf st.heap e te y with
        | some (ys, d2, i2) =>
          if nodupB (i1 ++ i2) = true then
            some (xs.length + ys.length ≤ 1048576, { (st.put d (.one (.own st.heap.length))) with heap := newRow st.heap e te (xs ++ ys) (te.flat || (d1 && d2)) (i1 ++ i2) })
          else none
        | none => none
      | none => none
    | _, _ => none

def byteAt (s : ByteArray) (i : Nat) : Int := if h : i < s.size then (s[i].toNat : Int) else 0

def stepIndex (tt : TT) (t : Nat) (x y : LV) (d : Option Tmp) (st : St) : Res := match tt.get t with
  | none => none
  | some ti => match x, y with
    | .one (.str s), .one (.int _ i) => if ti.agg = false ∧ ti.ty = .str then some (0 ≤ i ∧ i < s.size, st.put d (.one (.int .u8 (byteAt s i.toNat)))) else none
    | _, _ => none

/-- max, min of two. -/
def stepMM (mx : Bool) (x y : LV) (d : Option Tmp) (st : St) : Res := match x, y with
  | .one (.int k a), .one (.int k' b) => if k = k' then st.go d (.int k (bif mx then max a b else min a b)) else none
  | _, _ => none
/-- A bound of a slice expression. -/
def bndOf (dflt : Int) : Option LV → Option Int
  | none => some dflt
  | some (.one (.int _ i)) => some i
  | _ => none
/-- x[lo:hi] of a string, of a shared row. -/
def stepSlice (tt : TT) (t : Nat) (x : LV) (lo hi : Option LV) (d : Option Tmp) (st : St) : Res := match tt.get t with
  | none => none
  | some ti => match x with
    | .one (.str s) => match bndOf 0 lo, bndOf s.size hi with
      | some l, some h => if ti.agg = false ∧ ti.ty = .str then some (0 ≤ l ∧ l ≤ h ∧ h ≤ s.size, st.put d (.one (.str (s.extract l.toNat h.toNat)))) else none
      | _, _ => none
    | .one (.sl e t xs n) => match bndOf 0 lo, bndOf xs.length hi with
      | some l, some h => if ti.agg = false ∧ ti.ty = .slice e t then some (0 ≤ l ∧ l ≤ h ∧ h ≤ xs.length, st.put d (.one (.sl e t ((xs.take h.toNat).drop l.toNat) n))) else none
      | _, _ => none
    | _ => none

/-- Parts put into their places. -/
def fillT (offs : List (Nat × Nat)) (cs : List LC) : List (Nat × List LC) → Option (List LC)
  | [] => some cs
  | (i, c) :: r => match offs[i]? with
    | some (f, n) => if c.length = n ∧ c.all LC.isDef = true then fillT offs (cs.take f ++ c ++ cs.drop (f + n)) r else none
    | none => none

def stepOp (tt : TT) (o : Oper) (st : St) : Res :=
  match o.op with
  | .move x | .assign x => some (True, st.put o.dst (st.ev x))
  | .pick c a b => match st.ev c with
    | .one (.bool c) => match st.ev a, st.ev b with
      | .one (.bool x), .one (.bool y) => st.go o.dst (.bool (bif c then x else y))
      | x, y => some (True, st.put o.dst (bif c then x else y))
    | _ => none
  | .alloc t => match tt.get t with
    | some ti => some (True, st.new o.dst (.box (zeros ti.ty)) (.ptr st.heap.length 0 0))
    | none => none
  | .box t x => match tt.get t with
    | some ti => some ((st.ev x).cells.length = ti.ty.sz ∧ (st.ev x).cells.all LC.isDef = true, st.new o.dst (.box (st.ev x).cells) (.ptr st.heap.length 0 0))
    | none => none
  | .build t ps => match tt.get t with
    | some ti => if ti.offs.isEmpty = true then none else match fillT ti.offs (zeros ti.ty) (ps.toList.map fun p => (p.1, (st.ev p.2).cells)) with
      | some cs => some (True, st.put o.dst (.agg cs))
      | none => none
    | none => none
  | .load t x => stepLoad tt t (st.ev x) o.dst st
  | .store t x y => match o.dst with
    | none => stepStore tt t (st.ev x) (st.ev y) st
    | some _ => none
  | .fieldAddr t x f => stepField tt t f (st.ev x) o.dst st
  | .indexAddr t x y => stepIndexAddr tt t (st.ev x) (st.ev y) o.dst st
  | .binOp op t x y _ => stepBin tt op t (st.ev x) (st.ev y) o.dst st
  | .unOp op _ x => stepUn op (st.ev x) o.dst st
  | .extract x i => match st.ev x with
    | .tup vs => match vs[i]? with
      | some v => some (True, st.put o.dst v.lv)
      | none => none
    | _ => none
  | .nilCheck x => match st.ev x with
    | .one (.ptr id i f) => match st.heap[id]? with
      | some .dead => none
      | _ => st.go o.dst (.ptr id i f)
    | _ => none
  | .makeSlice t l c => match tt.get t, st.ev l, st.ev c with
    | some ti, .one (.int _ n), .one (.int _ m) => match ti.agg, ti.ty with
      | false, .slice e t => some (0 ≤ n ∧ n ≤ m ∧ m ≤ 1048576, st.new o.dst (.row e t (List.replicate n.toNat (dflt t)) true true st.heap.length) (.own st.heap.length))
      | _, _ => none
    | _, _, _ => none
  | .buildSlice t n ps => match tt.get t with
    | some ti => match ti.agg, ti.ty with
      | false, .slice e te =>
        let cs := ps.toList.map fun p => (st.ev p.2).cells
        let all := cs.flatten
        if ps.toList.map (·.1) = List.range n ∧ n * te.sz ≤ 65536 ∧ nodupB (moved all) = true ∧ all.all LC.isDef = true then match implodes st.heap te cs with
          | some xs => some (True, { (st.put o.dst (.one (.own st.heap.length))) with heap := newRow st.heap e te xs (te.flat || deepOf st.heap all) (moved all) })
          | none => none
        else none
      | _, _ => none
    | none => none
  | .index t x y => stepIndex tt t (st.ev x) (st.ev y) o.dst st
  | .call c => match c.callee with
    | .builtin .len => match c.args.toList, c.argTypes.toList with
      | [x], [t] => match tt.get t with
        | some ti => match lenOf ti st.heap (st.ev x) with
          | some n => st.go o.dst (.int .i64 n)
          | none => none
        | none => none
      | _, _ => none
    | .builtin .append => match c.args.toList, c.argTypes.toList with
      | [x, y], [t, t'] => if t = t' then stepAppend tt t (st.ev x) (st.ev y) o.dst st else none
      | _, _ => none
    | .builtin .max => match c.args.toList with
      | [x, y] => stepMM true (st.ev x) (st.ev y) o.dst st
      | _ => none
    | .builtin .min => match c.args.toList with
      | [x, y] => stepMM false (st.ev x) (st.ev y) o.dst st
      | _ => none
    | _ => none
  | .slice t x lo hi none => stepSlice tt t (st.ev x) (lo.map st.ev) (hi.map st.ev) o.dst st
  | _ => none

def stepOps (tt : TT) : List Oper → St → (St → Prop) → Prop
  | [], st, k => k st
  | o :: os, st, k => match stepOp tt o st with
    | some (p, st') => p ∧ stepOps tt os st' k
    | none => False
end Go.T
/- T: what the machine's memory says of T's values and states. -/
namespace Go.T
open Go

/-! ### lists -/
inductive F2 {α β : Type} (R : α → β → Prop) : List α → List β → Prop
  | nil : F2 R [] []
  | cons {a b as bs} : R a b → F2 R as bs → F2 R (a :: as) (b :: bs)

namespace F2
variable {α β : Type} {R S : α → β → Prop}
theorem imp {as : List α} {bs : List β} (h : F2 R as bs) (f : ∀ a b, a ∈ as → R a b → S a b) : F2 S as bs := by
  induction h with
  | nil => exact .nil
  | cons hr _ ih => exact .cons (f _ _ (by simp) hr) (ih fun a b ha hr => f a b (by simp [ha]) hr)
theorem len {as : List α} {bs : List β} (h : F2 R as bs) : as.length = bs.length := by
  induction h with
  | nil => rfl
  | cons _ _ ih => simp [ih]
theorem append {as as' : List α} {bs bs' : List β} (h : F2 R as bs) (h' : F2 R as' bs') : F2 R (as ++ as') (bs ++ bs') := by
  induction h with
  | nil => exact h'
  | cons hr _ ih => exact .cons hr ih
theorem get {as : List α} {bs : List β} (h : F2 R as bs) {i : Nat} {a : α} (ha : as[i]? = some a) : ∃ b, bs[i]? = some b ∧ R a b := by
  induction h generalizing i with
  | nil => simp at ha
  | cons hr _ ih =>
    cases i with
    | zero => simp at ha; subst ha; exact ⟨_, by simp, hr⟩
    | succ i => simpa using ih (by simpa using ha)
theorem get' {as : List α} {bs : List β} (h : F2 R as bs) {i : Nat} {b : β} (hb : bs[i]? = some b) : ∃ a, as[i]? = some a ∧ R a b := by
  induction h generalizing i with
  | nil => simp at hb
  | cons hr _ ih =>
    cases i with
    | zero => simp at hb; subst hb; exact ⟨_, by simp, hr⟩
    | succ i => simpa using ih (by simpa using hb)
theorem take {as : List α} {bs : List β} (h : F2 R as bs) (n : Nat) : F2 R (as.take n) (bs.take n) := by
  induction h generalizing n with
  | nil => simp; exact .nil
  | cons hr _ ih =>
    cases n with
    | zero => simp; exact .nil
    | succ n => simp; exact .cons hr (ih n)
theorem drop {as : List α} {bs : List β} (h : F2 R as bs) (n : Nat) : F2 R (as.drop n) (bs.drop n) := by
  induction h generalizing n with
  | nil => simp; exact .nil
  | cons hr hs ih =>
    cases n with
    | zero => simpa using .cons hr hs
    | succ n => simpa using ih n
theorem split {as as' : List α} {bs : List β} (h : F2 R (as ++ as') bs) : ∃ b1 b2, bs = b1 ++ b2 ∧ F2 R as b1 ∧ F2 R as' b2 := by
  refine ⟨bs.take as.length, bs.drop as.length, by simp, ?_, ?_⟩
  · simpa using h.take as.length
  · simpa using h.drop as.length
theorem set {as : List α} {bs : List β} (h : F2 R as bs) (i : Nat) {a : α} {b : β} (hr : R a b) : F2 R (as.set i a) (bs.set i b) := by
  induction h generalizing i with
  | nil => simp; exact .nil
  | cons hr' hs ih =>
    cases i with
    | zero => simpa using .cons hr hs
    | succ i => simpa using .cons hr' (ih i)
end F2

/-! ### values in memory -/
def At (w : World) (a : Addr) (cs : List Value) : Prop := ∀ j u, cs[j]? = some u → w.cell? (a.add j) = some u

def Rd {α : Type} (w : World) (ok : Nat → Prop) (sz : Nat) (R : α → List Value → Prop) (A : Option Addr) (xs : List α) : Prop :=
  ∀ i x, xs[i]? = some x → ∃ a cs, A = some a ∧ ok a.block ∧ R x cs ∧ At w (a.add (i * sz)) cs

/-- What is read: the rows on the way lie in blocks that are ok. -/
def K (w : World) (ok : Nat → Prop) : (t : Ty) → Val t → List Value → Prop
  | .int k, n, cs => cs = [.int k n]
  | .bool, b, cs => cs = [.bool b]
  | .str, s, cs => cs = [.string s]
  | .hdr, v, cs => cs = [v] ∧ v.oneCell' = true
  | .slice _ t, xs, cs => ∃ A c, cs = [.slice A xs.length c] ∧ xs.length ≤ c ∧ Rd w ok t.sz (K w ok t) A xs
  | .pair a b, v, cs => ∃ c1 c2, cs = c1 ++ c2 ∧ K w ok a v.1 c1 ∧ K w ok b v.2 c2

/-- Rows of parts: cells (and blocks) one behind the other. -/
def Ks {α : Type} (R : α → List Value → Prop) : List α → List Value → Prop
  | [], cs => cs = []
  | x :: xs, cs => ∃ c1 c2, cs = c1 ++ c2 ∧ R x c1 ∧ Ks R xs c2
def Ms {α : Type} (R : α → List Value → List Nat → Prop) : List α → List Value → List Nat → Prop
  | [], cs, B => cs = [] ∧ B = []
  | x :: xs, cs, B => ∃ c1 c2 B1 B2, cs = c1 ++ c2 ∧ B = B1 ++ B2 ∧ R x c1 B1 ∧ Ms R xs c2 B2

/-- What is a call's own: B are its blocks, in line. -/
def M (w : World) : (t : Ty) → Val t → List Value → List Nat → Prop
  | .int k, n, cs, B => cs = [.int k n] ∧ B = []
  | .bool, b, cs, B => cs = [.bool b] ∧ B = []
  | .str, s, cs, B => cs = [.string s] ∧ B = []
  | .hdr, v, cs, B => (cs = [v] ∧ v.oneCell' = true) ∧ B = []
  | .slice e t, xs, cs, B => ∃ v inner Bs, cs = [v] ∧ B = v.ownBlock.toList ++ Bs ∧ w.ownsRow 0 e t.sz v xs.length inner ∧ Ms (M w t) xs inner Bs
  | .pair a b, v, cs, B => ∃ c1 c2 B1 B2, cs = c1 ++ c2 ∧ B = B1 ++ B2 ∧ M w a v.1 c1 B1 ∧ M w b v.2 c2 B2

theorem Ty.sz_pos : ∀ t : Ty, 0 < t.sz
  | .pair a b => by have := a.sz_pos; simp [Ty.sz]; omega
  | .int _ | .bool | .str | .hdr | .slice _ _ => by simp [Ty.sz]

theorem addr_add_add (a : Addr) (i j : Nat) : (a.add i).add j = a.add (i + j) := by
  unfold Addr.add
  by_cases hi : i = 0
  · simp [hi]
  · by_cases hj : j = 0
    · simp [hi, hj]
    · simp [hi, hj, Nat.add_assoc]
theorem addr_add_block (a : Addr) (i : Nat) : (a.add i).block = a.block := by unfold Addr.add; split <;> rfl

theorem At.block_lt {w : World} {a : Addr} {cs : List Value} (h : At w a cs) (hl : 0 < cs.length) : a.block < w.heap.size := by
  have hc := h 0 cs[0] (by simp [List.getElem?_eq_getElem hl])
  have := World.block_lt_of_cell? w _ hc
  rwa [addr_add_block] at this
theorem At.move {w w' : World} {a : Addr} {cs : List Value} (h : At w a cs) (hb : w'.heap[a.block]? = w.heap[a.block]?) : At w' a cs := by
  intro j u hu
  rw [World.cell?_of_block (w := w) (by rw [addr_add_block]; exact hb)]
  exact h j u hu
theorem At.append {w : World} {a : Addr} {c1 c2 : List Value} (h : At w a (c1 ++ c2)) : At w a c1 ∧ At w (a.add c1.length) c2 := by
  constructor
  · intro j u hu
    have hj : j < c1.length := (List.getElem?_eq_some_iff.1 hu).1
    exact h j u (by rw [List.getElem?_append_left hj]; exact hu)
  · intro j u hu
    rw [addr_add_add]
    exact h _ u (by rw [List.getElem?_append_right (by omega)]; simpa using hu)
theorem At.sub {w : World} {a : Addr} {cs : List Value} (h : At w a cs) (f n : Nat) : At w (a.add f) ((cs.drop f).take n) := by
  intro j u hu
  rw [addr_add_add]
  apply h
  rw [List.getElem?_take] at hu
  split at hu
  · simpa using hu
  · cases hu

theorem K_len {w : World} {ok : Nat → Prop} : ∀ {t : Ty} {v : Val t} {cs : List Value}, K w ok t v cs → cs.length = t.sz
  | .int _, _, _, h => by rw [K] at h; rw [h]; rfl
  | .bool, _, _, h => by rw [K] at h; rw [h]; rfl
  | .str, _, _, h => by rw [K] at h; rw [h]; rfl
  | .hdr, _, _, h => by rw [K] at h; rw [h.1]; rfl
  | .slice _ _, _, _, h => by rw [K] at h; obtain ⟨A, c, rfl, _⟩ := h; rfl
  | .pair a b, _, _, h => by
    rw [K] at h
    obtain ⟨c1, c2, rfl, h1, h2⟩ := h
    rw [List.length_append, K_len h1, K_len h2]; rfl
theorem K_one {w : World} {ok : Nat → Prop} : ∀ {t : Ty} {v : Val t} {cs : List Value}, K w ok t v cs → ∀ u ∈ cs, u.oneCell' = true
  | .int _, _, _, h => by rw [K] at h; rw [h]; simp [Value.oneCell']
  | .bool, _, _, h => by rw [K] at h; rw [h]; simp [Value.oneCell']
  | .str, _, _, h => by rw [K] at h; rw [h]; simp [Value.oneCell']
  | .hdr, _, _, h => by rw [K] at h; rw [h.1]; simpa using h.2
  | .slice _ _, _, _, h => by rw [K] at h; obtain ⟨A, c, rfl, _⟩ := h; simp [Value.oneCell']
  | .pair a b, _, _, h => by
    rw [K] at h
    obtain ⟨c1, c2, rfl, h1, h2⟩ := h
    intro u hu
    rcases List.mem_append.1 hu with hu | hu
    · exact K_one h1 u hu
    · exact K_one h2 u hu
/-- What is read stays, where the blocks stay. -/
theorem K_step {w w' : World} {ok ok' : Nat → Prop} (hm : ∀ b, ok b → b < w.heap.size → w'.heap[b]? = w.heap[b]?) (hok : ∀ b, ok b → b < w.heap.size → ok' b) :
    ∀ {t : Ty} {v : Val t} {cs : List Value}, K w ok t v cs → K w' ok' t v cs
  | .int _, _, _, h => by rw [K] at h ⊢; exact h
  | .bool, _, _, h => by rw [K] at h ⊢; exact h
  | .str, _, _, h => by rw [K] at h ⊢; exact h
  | .hdr, _, _, h => by rw [K] at h ⊢; exact h
  | .slice _ t, xs, _, h => by
    rw [K] at h ⊢
    obtain ⟨A, c, rfl, hl, hr⟩ := h
    refine ⟨A, c, rfl, hl, fun i x hx => ?_⟩
    obtain ⟨a, cs, hA, ha, hK, hat⟩ := hr i x hx
    have hlt : a.block < w.heap.size := by
      have := hat.block_lt (by rw [K_len hK]; exact t.sz_pos)
      rwa [addr_add_block] at this
    exact ⟨a, cs, hA, hok _ ha hlt, K_step hm hok hK, hat.move (by rw [addr_add_block]; exact hm _ ha hlt)⟩
  | .pair a b, _, _, h => by
    rw [K] at h ⊢
    obtain ⟨c1, c2, rfl, h1, h2⟩ := h
    exact ⟨c1, c2, rfl, K_step hm hok h1, K_step hm hok h2⟩
theorem Rd_step {w w' : World} {ok ok' : Nat → Prop} (hm : ∀ b, ok b → b < w.heap.size → w'.heap[b]? = w.heap[b]?) (hok : ∀ b, ok b → b < w.heap.size → ok' b)
    {t : Ty} {A : Option Addr} {xs : List (Val t)} (h : Rd w ok t.sz (K w ok t) A xs) : Rd w' ok' t.sz (K w' ok' t) A xs := by
  intro i x hx
  obtain ⟨a, cs, hA, ha, hK, hat⟩ := h i x hx
  have hlt : a.block < w.heap.size := by
    have := hat.block_lt (by rw [K_len hK]; exact t.sz_pos)
    rwa [addr_add_block] at this
  exact ⟨a, cs, hA, hok _ ha hlt, K_step hm hok hK, hat.move (by rw [addr_add_block]; exact hm _ ha hlt)⟩

/-! ### rows of parts -/
section
variable {α : Type} {R S : α → List Value → Prop}
theorem Ks.imp {xs : List α} {cs : List Value} (h : Ks R xs cs) (f : ∀ x c, R x c → S x c) : Ks S xs cs := by
  induction xs generalizing cs with
  | nil => exact h
  | cons x xs ih => obtain ⟨c1, c2, rfl, h1, h2⟩ := h; exact ⟨c1, c2, rfl, f _ _ h1, ih h2⟩
theorem Ks.len {xs : List α} {cs : List Value} {sz : Nat} (hs : ∀ x c, R x c → c.length = sz) (h : Ks R xs cs) : cs.length = xs.length * sz := by
  induction xs generalizing cs with
  | nil => rw [Ks] at h; rw [h]; simp
  | cons x xs ih =>
    obtain ⟨c1, c2, rfl, h1, h2⟩ := h
    rw [List.length_append, hs _ _ h1, ih h2, List.length_cons, Nat.succ_mul, Nat.add_comm]
theorem Ks.append {xs ys : List α} {cs ds : List Value} (h : Ks R xs cs) (h' : Ks R ys ds) : Ks R (xs ++ ys) (cs ++ ds) := by
  induction xs generalizing cs with
  | nil => rw [Ks] at h; subst h; exact h'
  | cons x xs ih =>
    obtain ⟨c1, c2, rfl, h1, h2⟩ := h
    exact ⟨c1, c2 ++ ds, by simp, h1, ih h2⟩
theorem Ks.get {xs : List α} {cs : List Value} {sz : Nat} (hs : ∀ x c, R x c → c.length = sz) (h : Ks R xs cs) {i : Nat} {x : α} (hx : xs[i]? = some x) :
    R x ((cs.drop (i * sz)).take sz) := by
  induction xs generalizing cs i with
  | nil => simp at hx
  | cons y xs ih =>
    obtain ⟨c1, c2, rfl, h1, h2⟩ := h
    cases i with
    | zero =>
      simp at hx
      subst hx
      have := hs _ _ h1
      simp [← this]
      exact h1
    | succ i =>
      have hl := hs _ _ h1
      have := ih h2 (i := i) (by simpa using hx)
      rw [show (i + 1) * sz = c1.length + i * sz by rw [hl, Nat.succ_mul, Nat.add_comm], List.drop_append, List.drop_eq_nil_of_le (by omega)]
      simpa using this
theorem Ks.set {xs : List α} {cs : List Value} {sz : Nat} (hs : ∀ x c, R x c → c.length = sz) (h : Ks R xs cs) (i : Nat) {x : α} {c : List Value} (hi : i < xs.length) (hx : R x c) :
    Ks R (xs.set i x) (cs.take (i * sz) ++ c ++ cs.drop (i * sz + sz)) := by
  induction xs generalizing cs i with
  | nil => simp at hi
  | cons y xs ih =>
    obtain ⟨c1, c2, rfl, h1, h2⟩ := h
    have hl := hs _ _ h1
    cases i with
    | zero =>
      simp only [Nat.zero_mul, List.take_zero, List.nil_append, Nat.zero_add, List.set_cons_zero]
      exact ⟨c, c2, by rw [← hl]; simp, hx, h2⟩
    | succ i =>
      have := ih h2 i (by simpa using hi)
      refine ⟨c1, c2.take (i * sz) ++ c ++ c2.drop (i * sz + sz), ?_, h1, this⟩
      have e : (i + 1) * sz = c1.length + i * sz := by rw [hl, Nat.succ_mul, Nat.add_comm]
      rw [e, show c1.length + i * sz + sz = c1.length + (i * sz + sz) by omega, List.drop_append, List.take_append, List.drop_eq_nil_of_le (by omega), List.take_of_length_le (by omega)]
      simp
end
section
variable {α : Type} {R S : α → List Value → List Nat → Prop}
theorem Ms.imp {xs : List α} {cs : List Value} {B : List Nat} (h : Ms R xs cs B) (f : ∀ x c b, (∀ k ∈ b, k ∈ B) → R x c b → S x c b) : Ms S xs cs B := by
  induction xs generalizing cs B with
  | nil => exact h
  | cons x xs ih =>
    obtain ⟨c1, c2, B1, B2, rfl, rfl, h1, h2⟩ := h
    exact ⟨c1, c2, B1, B2, rfl, rfl, f _ _ _ (fun k hk => List.mem_append_left _ hk) h1, ih h2 fun x c b hb => f x c b fun k hk => List.mem_append_right _ (hb k hk)⟩
theorem Ms.toKs {T : α → List Value → Prop} {xs : List α} {cs : List Value} {B : List Nat} (h : Ms R xs cs B) (f : ∀ x c b, (∀ k ∈ b, k ∈ B) → R x c b → T x c) : Ks T xs cs := by
  induction xs generalizing cs B with
  | nil => exact h.1
  | cons x xs ih =>
    obtain ⟨c1, c2, B1, B2, rfl, rfl, h1, h2⟩ := h
    exact ⟨c1, c2, rfl, f _ _ _ (fun k hk => List.mem_append_left _ hk) h1, ih h2 fun x c b hb => f x c b fun k hk => List.mem_append_right _ (hb k hk)⟩
theorem Ms.append {xs ys : List α} {cs ds : List Value} {B D : List Nat} (h : Ms R xs cs B) (h' : Ms R ys ds D) : Ms R (xs ++ ys) (cs ++ ds) (B ++ D) := by
  induction xs generalizing cs B with
  | nil => obtain ⟨rfl, rfl⟩ := h; exact h'
  | cons x xs ih =>
    obtain ⟨c1, c2, B1, B2, rfl, rfl, h1, h2⟩ := h
    exact ⟨c1, c2 ++ ds, B1, B2 ++ D, by simp, by simp, h1, ih h2⟩
end

/-- A row of parts at an address is read as a row. -/
theorem Rd.of_Ks {α : Type} {w : World} {ok : Nat → Prop} {sz : Nat} {R : α → List Value → Prop} {a : Addr} {xs : List α} {cs : List Value}
    (hs : ∀ x c, R x c → c.length = sz) (h : Ks R xs cs) (hat : At w a cs) (ha : ok a.block) : Rd w ok sz R (some a) xs := by
  intro i x hx
  exact ⟨a, _, rfl, ha, h.get hs hx, hat.sub (i * sz) sz⟩

theorem ownsRow_At {w : World} {base : Nat} {e : TypeId} {size : Nat} {v : Value} {n : Nat} {xs : List Value} (h : w.ownsRow base e size v n xs) {g : Nat} (hg : v.ownBlock = some g) : At w ⟨g, 0, none⟩ xs :=
  h.cells hg
theorem ownsRow_slice {w : World} {base : Nat} {e : TypeId} {size : Nat} {v : Value} {n : Nat} {xs : List Value} (h : w.ownsRow base e size v n xs) :
    ∃ A c, v = .slice A n c ∧ n ≤ c ∧ (∀ a, A = some a → v.ownBlock = some a.block ∧ a = ⟨a.block, 0, none⟩) ∧ (A = none → n = 0) := by
  rcases h.2 with ⟨rfl, rfl⟩ | ⟨g, cap, cur, rfl, _, _, hc, _⟩
  · exact ⟨none, 0, rfl, Nat.le_refl _, fun a ha => by simp at ha, fun _ => rfl⟩
  · exact ⟨some ⟨g, 0, none⟩, cap, rfl, hc, fun a ha => by injection ha with ha; subst ha; exact ⟨rfl, rfl⟩, fun ha => by simp at ha⟩

/-- An own row, read. -/
theorem ownsRow_Rd {α : Type} {w : World} {base : Nat} {e : TypeId} {sz : Nat} {v : Value} {xs : List α} {inner : List Value} {R : α → List Value → Prop} {ok : Nat → Prop}
    (h : w.ownsRow base e sz v xs.length inner) (hs : ∀ x c, R x c → c.length = sz) (hk : Ks R xs inner) (hok : ∀ b, v.ownBlock = some b → ok b) :
    ∃ A c, v = .slice A xs.length c ∧ xs.length ≤ c ∧ Rd w ok sz R A xs := by
  obtain ⟨A, c, rfl, hc, hA, hn⟩ := ownsRow_slice h
  refine ⟨A, c, rfl, hc, ?_⟩
  cases A with
  | none =>
    have := hn rfl
    intro i x hx
    have := (List.getElem?_eq_some_iff.1 hx).1
    omega
  | some a =>
    obtain ⟨hb, ha⟩ := hA a rfl
    have hat := ownsRow_At h hb
    rw [← ha] at hat
    exact Rd.of_Ks hs hk hat (hok _ hb)

theorem M_K {w : World} {ok : Nat → Prop} : ∀ {t : Ty} {v : Val t} {cs : List Value} {B : List Nat}, M w t v cs B → (∀ b ∈ B, ok b) → K w ok t v cs
  | .int _, _, _, _, h, _ => by rw [M] at h; rw [K]; exact h.1
  | .bool, _, _, _, h, _ => by rw [M] at h; rw [K]; exact h.1
  | .str, _, _, _, h, _ => by rw [M] at h; rw [K]; exact h.1
  | .hdr, _, _, _, h, _ => by rw [M] at h; rw [K]; exact h.1
  | .slice e t, xs, _, _, h, hok => by
    rw [M] at h; rw [K]
    obtain ⟨v, inner, Bs, rfl, rfl, ho, hm⟩ := h
    have hk : Ks (K w ok t) xs inner := hm.toKs fun x c b hb hx => M_K hx fun k hk => hok k (List.mem_append_right _ (hb k hk))
    obtain ⟨A, c, he, hc, hr⟩ := ownsRow_Rd (ok := ok) ho (fun x c hx => K_len hx) hk fun b hb => hok b (List.mem_append_left _ (by simp [hb]))
    exact ⟨A, c, by rw [he], hc, hr⟩
  | .pair a b, _, _, _, h, hok => by
    rw [M] at h; rw [K]
    obtain ⟨c1, c2, B1, B2, rfl, rfl, h1, h2⟩ := h
    exact ⟨c1, c2, rfl, M_K h1 fun k hk => hok k (List.mem_append_left _ hk), M_K h2 fun k hk => hok k (List.mem_append_right _ hk)⟩

theorem M_len {w : World} {t : Ty} {v : Val t} {cs : List Value} {B : List Nat} (h : M w t v cs B) : cs.length = t.sz := K_len (M_K (ok := fun _ => True) h fun _ _ => trivial)
theorem M_one {w : World} {t : Ty} {v : Val t} {cs : List Value} {B : List Nat} (h : M w t v cs B) : ∀ u ∈ cs, u.oneCell' = true := K_one (M_K (ok := fun _ => True) h fun _ _ => trivial)

theorem ownsRow_move {w w' : World} {base : Nat} {e : TypeId} {size : Nat} {v : Value} {n : Nat} {xs : List Value} (h : w.ownsRow base e size v n xs) (hb : ∀ b, v.ownBlock = some b → w'.heap[b]? = w.heap[b]?) : w'.ownsRow base e size v n xs := by
  refine ⟨h.1, ?_⟩
  rcases h.2 with h | ⟨g, cap, cur, rfl, hg, hh, r⟩
  · exact .inl h
  · exact .inr ⟨g, cap, cur, rfl, hg, (hb g rfl).trans hh, r⟩
theorem M_step {w w' : World} : ∀ {t : Ty} {v : Val t} {cs : List Value} {B : List Nat}, M w t v cs B → (∀ b ∈ B, w'.heap[b]? = w.heap[b]?) → M w' t v cs B
  | .int _, _, _, _, h, _ => by rw [M] at h ⊢; exact h
  | .bool, _, _, _, h, _ => by rw [M] at h ⊢; exact h
  | .str, _, _, _, h, _ => by rw [M] at h ⊢; exact h
  | .hdr, _, _, _, h, _ => by rw [M] at h ⊢; exact h
  | .slice e t, xs, _, _, h, hb => by
    rw [M] at h ⊢
    obtain ⟨v, inner, Bs, rfl, rfl, ho, hm⟩ := h
    exact ⟨v, inner, Bs, rfl, rfl, ownsRow_move ho fun b hv => hb b (List.mem_append_left _ (by simp [hv])), hm.imp fun x c b hk hx => M_step hx fun k hk' => hb k (List.mem_append_right _ (hk k hk'))⟩
  | .pair a b, _, _, _, h, hb => by
    rw [M] at h ⊢
    obtain ⟨c1, c2, B1, B2, rfl, rfl, h1, h2⟩ := h
    exact ⟨c1, c2, B1, B2, rfl, rfl, M_step h1 fun k hk => hb k (List.mem_append_left _ hk), M_step h2 fun k hk => hb k (List.mem_append_right _ hk)⟩
theorem Ms_lt {α : Type} {w : World} {R : α → List Value → List Nat → Prop} (hR : ∀ x c b, R x c b → ∀ k ∈ b, k < w.heap.size) {xs : List α} {cs : List Value} {B : List Nat} (h : Ms R xs cs B) : ∀ k ∈ B, k < w.heap.size := by
  induction xs generalizing cs B with
  | nil => obtain ⟨_, rfl⟩ := h; simp
  | cons x xs ih =>
    obtain ⟨c1, c2, B1, B2, rfl, rfl, h1, h2⟩ := h
    intro k hk
    rcases List.mem_append.1 hk with hk | hk
    · exact hR _ _ _ h1 k hk
    · exact ih h2 k hk
theorem M_lt {w : World} : ∀ {t : Ty} {v : Val t} {cs : List Value} {B : List Nat}, M w t v cs B → ∀ k ∈ B, k < w.heap.size
  | .int _, _, _, _, h => by rw [M] at h; simp [h.2]
  | .bool, _, _, _, h => by rw [M] at h; simp [h.2]
  | .str, _, _, _, h => by rw [M] at h; simp [h.2]
  | .hdr, _, _, _, h => by rw [M] at h; simp [h.2]
  | .slice e t, xs, _, _, h => by
    rw [M] at h
    obtain ⟨v, inner, Bs, rfl, rfl, ho, hm⟩ := h
    intro k hk
    rcases List.mem_append.1 hk with hk | hk
    · exact (ho.lt k (by simpa using hk)).2
    · exact Ms_lt (fun x c b hx => M_lt hx) hm k hk
  | .pair a b, _, _, _, h => by
    rw [M] at h
    obtain ⟨c1, c2, B1, B2, rfl, rfl, h1, h2⟩ := h
    intro k hk
    rcases List.mem_append.1 hk with hk | hk
    · exact M_lt h1 k hk
    · exact M_lt h2 k hk
end Go.T
/- T: states and memory. -/
namespace Go.T
open Go

/-- Where T's rows and boxes lie: a row's slice value, a box's block, the blocks of what lies in a row. -/
structure Mp where
  val : Nat → Value
  blk : Nat → Nat
  nst : Nat → List Nat
  /-- where shared rows may lie at all -/
  ext : Nat → Prop
/-- A call's: the blocks that it may write; those that it may read. -/
structure Mine where
  own : Nat → Prop
  ext : Nat → Prop
  /-- rows whose slice values are told -/
  pin : Nat → Option Value

def okB (m : Mp) (n b id : Nat) : Blk → Prop
  | .box _ => b ≠ m.blk id
  | .row _ _ _ dp mt k => ((mt = true ∨ n ≤ id) → (m.val id).ownBlock ≠ some b) ∧ (dp = true → n ≤ k → b ∉ m.nst id)
  | .fra F _ => b ∉ F
  | .dead => True
/-- May a shared row of number n lie in block b? -/
def okAt (m : Mp) (h : List Blk) (n b : Nat) : Prop := m.ext b ∧ ∀ id x, h[id]? = some x → okB m n b id x

def C (w : World) (m : Mp) (h : List Blk) : LC → Value → Prop
  | .int k n, v => v = .int k n
  | .bool b, v => v = .bool b
  | .str s, v => v = .string s
  | .hdr u, v => v = u ∧ u.oneCell' = true
  | .sl _ t xs n, v => ∃ A c, v = .slice A xs.length c ∧ xs.length ≤ c ∧ Rd w (okAt m h n) t.sz (K w (okAt m h n) t) A xs
  | .nils, v => v = .slice none 0 0
  | .nilp, v => v = .pointer none
  | .own id, v => match h[id]? with
    | some (.row ..) => v = m.val id
    | some .dead => v.oneCell' = true
    | _ => False
  | .ptr id i f, v => match h[id]? with
    | some (.box _) => i = 0 ∧ v = .pointer (some ⟨m.blk id, f, none⟩)
    | some (.row _ t _ _ _ _) => ∃ g, (m.val id).ownBlock = some g ∧ v = .pointer (some ⟨g, i * t.sz + f, none⟩)
    | some .dead => v.oneCell' = true
    | some (.fra _ _) => False
    | none => False
  | .tptr t x f n, v => ∃ a cs, v = .pointer (some (a.add f)) ∧ K w (okAt m h n) t x cs ∧ At w a cs ∧ okAt m h n a.block
  | .fn f, v => v = .func (.func f) #[] #[]
  | .undef, _ => True

def V1 (w : World) (m : Mp) (h : List Blk) (l : LV1) (v : Value) : Prop :=
  match l.agg with
  | true => ∃ vs : Array Value, v = .agg vs ∧ F2 (C w m h) l.cs vs.toList
  | false => ∃ c, l.cs = [c] ∧ C w m h c v ∧ v.oneCell' = true
def V (w : World) (m : Mp) (h : List Blk) : LV → Value → Prop
  | .one c, v => C w m h c v
  | .agg cs, v => ∃ vs : Array Value, v = .agg vs ∧ F2 (C w m h) cs vs.toList
  | .tup ls, v => ∃ vs : Array Value, v = .tuple vs ∧ F2 (V1 w m h) ls vs.toList

def fpB (m : Mp) (id : Nat) : Blk → List Nat
  | .box _ => [m.blk id]
  | .row _ _ _ dp _ _ => (m.val id).ownBlock.toList ++ (match dp with | true => m.nst id | false => [])
  | .fra F _ => F
  | .dead => []

def BR (w : World) (m : Mp) (h : List Blk) (id : Nat) : Blk → Prop
  | .box cs => ∃ arr ty, w.heap[m.blk id]? = some (.cells arr ty (0, 0)) ∧ F2 (C w m h) cs arr.toList ∧ ∀ u ∈ arr.toList, u.oneCell' = true
  | .row e t xs dp _ n => ∃ inner, w.ownsRow 0 e t.sz (m.val id) xs.length inner ∧ (match dp with
    | true => Ms (M w t) xs inner (m.nst id) ∧ n ≤ id
    | false => Ks (K w (okAt m h n) t) xs inner)
  | .fra F Φ => Φ w ∧ ∀ w1 w2 : World, (∀ b ∈ F, w2.heap[b]? = w1.heap[b]?) → Φ w1 → Φ w2
  | .dead => True

/-- Of what was there at w0 only blocks of 'mine' have been written. -/
structure Fr (mine : Nat → Prop) (w0 w : World) : Prop where
  os : w.os = w0.os
  tape : w.tape = w0.tape
  output : w.output = w0.output
  size : w0.heap.size ≤ w.heap.size
  block : ∀ k, k < w0.heap.size → ¬ mine k → w.heap[k]? = w0.heap[k]?
theorem Fr.refl (mine : Nat → Prop) (w : World) : Fr mine w w := ⟨rfl, rfl, rfl, Nat.le_refl _, fun _ _ _ => rfl⟩
theorem Fr.trans {A : Nat → Prop} {w0 w w' : World} (h : Fr A w0 w) {A' : Nat → Prop} (h' : Fr A' w w') (hA : ∀ k, A' k → w0.heap.size ≤ k ∨ A k) : Fr A w0 w' :=
  ⟨h'.os.trans h.os, h'.tape.trans h.tape, h'.output.trans h.output, Nat.le_trans h.size h'.size, fun k hk hn =>
    (h'.block k (Nat.lt_of_lt_of_le hk h.size) (fun ha => by rcases hA k ha with h1 | h1; omega; exact hn h1)).trans (h.block k hk hn)⟩

structure HR (w0 : World) (mine : Mine) (w : World) (m : Mp) (h : List Blk) : Prop where
  br : ∀ id x, h[id]? = some x → BR w m h id x
  nd : ∀ id x, h[id]? = some x → (fpB m id x).Nodup
  dj : ∀ id x id' x', id ≠ id' → h[id]? = some x → h[id']? = some x' → ∀ b ∈ fpB m id x, b ∉ fpB m id' x'
  lt : ∀ id x, h[id]? = some x → ∀ b ∈ fpB m id x, b < w.heap.size ∧ (w0.heap.size ≤ b ∨ mine.own b)
  fr : Fr mine.own w0 w
  mx : m.ext = mine.ext
  nx : ∀ b, (w0.heap.size ≤ b ∨ mine.own b) → mine.ext b
  pn : ∀ id v, mine.pin id = some v → id < h.length ∧ m.val id = v

/-- T's state tells what the machine holds. -/
def R (w0 : World) (mine : Mine) (st : St) (a : Act) (w : World) : Prop :=
  a.defers = [] ∧ ∃ m, HR w0 mine w m st.heap ∧ F2 (V w m st.heap) st.env a.tmps.toList

/-! ### what stays -/
def Sim (m m' : Mp) (id : Nat) : Blk → Blk → Prop
  | .box _, .box _ => m'.blk id = m.blk id
  | .row _ t _ _ _ _, .row _ t' _ _ _ _ => t' = t ∧ m'.val id = m.val id
  | .row .., .dead => (m.val id).oneCell' = true
  | .box _, .dead => True
  | .fra _ _, .dead => True
  | .fra _ _, .fra _ _ => True
  | .dead, .dead => True
  | _, _ => False
def Sims (m m' : Mp) (h h' : List Blk) : Prop := ∀ id x, h[id]? = some x → ∃ x', h'[id]? = some x' ∧ Sim m m' id x x'
/-- What shared rows read stays. -/
def Oks (w w' : World) (m m' : Mp) (h h' : List Blk) : Prop := ∀ n b, okAt m h n b → b < w.heap.size → w'.heap[b]? = w.heap[b]? ∧ okAt m' h' n b

section
variable {w w' : World} {m m' : Mp} {h h' : List Blk}
theorem K_oks (ho : Oks w w' m m' h h') {n : Nat} {t : Ty} {v : Val t} {cs : List Value} (hk : K w (okAt m h n) t v cs) : K w' (okAt m' h' n) t v cs :=
  K_step (fun b hb hl => (ho n b hb hl).1) (fun b hb hl => (ho n b hb hl).2) hk
theorem Rd_oks (ho : Oks w w' m m' h h') {n : Nat} {t : Ty} {A : Option Addr} {xs : List (Val t)} (hk : Rd w (okAt m h n) t.sz (K w (okAt m h n) t) A xs) : Rd w' (okAt m' h' n) t.sz (K w' (okAt m' h' n) t) A xs :=
  Rd_step (fun b hb hl => (ho n b hb hl).1) (fun b hb hl => (ho n b hb hl).2) hk
theorem C_mono (ho : Oks w w' m m' h h') (hs : Sims m m' h h') : ∀ {c : LC} {v : Value}, C w m h c v → C w' m' h' c v
  | .int _ _, _, hc | .bool _, _, hc | .str _, _, hc | .hdr _, _, hc | .nils, _, hc | .nilp, _, hc | .fn _, _, hc => by simpa [C] using hc
  | .undef, _, _ => trivial
  | .sl e t xs n, v, hc => by
    obtain ⟨A, c, he, hl, hr⟩ := hc
    exact ⟨A, c, he, hl, Rd_oks ho hr⟩
  | .tptr t x f n, v, hc => by
    obtain ⟨a, cs, he, hk, hat, hb⟩ := hc
    have hlt := hat.block_lt (by rw [K_len hk]; exact t.sz_pos)
    exact ⟨a, cs, he, K_oks ho hk, hat.move (ho n _ hb hlt).1, (ho n _ hb hlt).2⟩
  | .own id, v, hc => by
    simp only [C] at hc ⊢
    cases hx : h[id]? with
    | none => rw [hx] at hc; exact hc.elim
    | some x =>
      rw [hx] at hc
      obtain ⟨x', hx', hsim⟩ := hs id x hx
      rw [hx']
      cases x <;> cases x' <;> simp_all [Sim]
  | .ptr id i f, v, hc => by
    simp only [C] at hc ⊢
    cases hx : h[id]? with
    | none => rw [hx] at hc; exact hc.elim
    | some x =>
      rw [hx] at hc
      obtain ⟨x', hx', hsim⟩ := hs id x hx
      rw [hx']
      cases x <;> cases x' <;> simp_all [Sim]
      case box.dead => rfl
      case row.dead => obtain ⟨g, _, rfl⟩ := hc; rfl
theorem V1_mono (ho : Oks w w' m m' h h') (hs : Sims m m' h h') {l : LV1} {v : Value} (hv : V1 w m h l v) : V1 w' m' h' l v := by
  unfold V1 at hv ⊢
  split at hv
  · obtain ⟨vs, he, hf⟩ := hv
    exact ⟨vs, he, hf.imp fun _ _ _ hc => C_mono ho hs hc⟩
  · obtain ⟨c, he, hc, h1⟩ := hv
    exact ⟨c, he, C_mono ho hs hc, h1⟩
theorem V_mono (ho : Oks w w' m m' h h') (hs : Sims m m' h h') : ∀ {l : LV} {v : Value}, V w m h l v → V w' m' h' l v
  | .one c, v, hv => C_mono ho hs (c := c) hv
  | .agg cs, v, hv => by
    obtain ⟨vs, he, hf⟩ := hv
    exact ⟨vs, he, hf.imp fun _ _ _ hc => C_mono ho hs hc⟩
  | .tup ls, v, hv => by
    obtain ⟨vs, he, hf⟩ := hv
    exact ⟨vs, he, hf.imp fun _ _ _ hc => V1_mono ho hs hc⟩
theorem BR_mono (ho : Oks w w' m m' h h') (hs : Sims m m' h h') {id : Nat} {x : Blk} (hv : m'.val id = m.val id) (hbk : m'.blk id = m.blk id) (hn : m'.nst id = m.nst id)
    (hb : ∀ b ∈ fpB m id x, w'.heap[b]? = w.heap[b]?) (h0 : BR w m h id x) : BR w' m' h' id x := by
  cases x with
  | dead => trivial
  | fra F Φ => exact ⟨h0.2 _ _ (fun b hm => hb b hm) h0.1, h0.2⟩
  | box cs =>
    obtain ⟨arr, ty, hc, hf, h1⟩ := h0
    refine ⟨arr, ty, ?_, hf.imp fun _ _ _ hc => C_mono ho hs hc, h1⟩
    rw [hbk, hb _ (by simp [fpB])]; exact hc
  | row e t xs dp mt n =>
    obtain ⟨inner, hown, hin⟩ := h0
    refine ⟨inner, ?_, ?_⟩
    · rw [hv]
      exact ownsRow_move hown fun b hbb => hb b (by cases dp <;> simp [fpB, hbb])
    · cases dp with
      | true =>
        simp only at hin ⊢
        rw [hn]
        exact ⟨hin.1.imp fun x c b hk hx => M_step hx fun k hkb => hb k (by simp only [fpB]; exact List.mem_append_right _ (hk k hkb)), hin.2⟩
      | false =>
        simp only at hin ⊢
        exact hin.imp fun x c hx => K_oks ho hx
end
end Go.T
/- T: how states and memory change together. -/
namespace Go.T
open Go

section
variable {w0 w w' : World} {mine : Mine} {m m' : Mp} {h h' : List Blk}

theorem Fr.lift {A : Nat → Prop} (hf : Fr A w w') (H : HR w0 mine w m h) (hA : ∀ k, A k → ∃ id x, h[id]? = some x ∧ k ∈ fpB m id x) : Fr mine.own w0 w' :=
  H.fr.trans hf fun k hk => by
    obtain ⟨id, x, hx, hm⟩ := hA k hk
    exact (H.lt id x hx k hm).2

/-- A world that parts in nothing but its draws. -/
theorem HR.heap_eq (H : HR w0 mine w m h) (he : w'.heap = w.heap) (ho : w'.os = w.os) (ht : w'.tape = w.tape) (hout : w'.output = w.output) :
    HR w0 mine w' m h ∧ Oks w w' m m h h ∧ Sims m m h h := by
  have hok : Oks w w' m m h h := fun n b hb _ => ⟨by rw [he], hb⟩
  have hs : Sims m m h h := fun id x hx => ⟨x, hx, by cases x <;> simp [Sim]⟩
  refine ⟨⟨fun id x hx => BR_mono hok hs rfl rfl rfl (fun b _ => by rw [he]) (H.br id x hx), H.nd, H.dj, fun id x hx b hb => by rw [he]; exact H.lt id x hx b hb, ?_, H.mx, H.nx, H.pn⟩, hok, hs⟩
  exact H.fr.trans (A' := fun _ => False) ⟨ho, ht, hout, by rw [he]; exact Nat.le_refl _, fun k _ _ => by rw [he]⟩ (fun k hk => hk.elim)

theorem BR.rowOne {id : Nat} {e : Nat} {t : Ty} {xs : List (Val t)} {dp mt : Bool} {n : Nat} (hb : BR w m h id (.row e t xs dp mt n)) : (m.val id).oneCell' = true := by
  obtain ⟨inner, ho, _⟩ := hb
  obtain ⟨A, c, he, _⟩ := ownsRow_slice ho
  rw [he]; rfl

/-- Some blocks are given up (dead), some frozen: the world stays. -/
def Weaker (x x' : Blk) : Prop := x' = .dead ∨ x' = x ∨ x' = x.froze

theorem okB_weaker {n b id : Nat} {x x' : Blk} (hw : Weaker x x') (hk : okB m n b id x) : okB m n b id x' := by
  rcases hw with rfl | rfl | rfl
  · trivial
  · exact hk
  · cases x with
    | row e t xs dp mt k => exact ⟨fun hh => hk.1 (hh.elim (fun h => by simp at h) .inr), hk.2⟩
    | _ => exact hk
theorem fpB_weaker {id : Nat} {x x' : Blk} (hw : Weaker x x') : (fpB m id x' = fpB m id x) ∨ x' = .dead := by
  rcases hw with rfl | rfl | rfl
  · exact .inr rfl
  · exact .inl rfl
  · left; cases x <;> rfl
theorem BR_weaker {id : Nat} {x x' : Blk} (hw : Weaker x x') (hb : BR w m h id x) : BR w m h id x' := by
  rcases hw with rfl | rfl | rfl
  · trivial
  · exact hb
  · cases x <;> exact hb
theorem Sim_weaker {id : Nat} {x x' : Blk} (hw : Weaker x x') (hb : BR w m h id x) : Sim m m id x x' := by
  rcases hw with rfl | rfl | rfl
  · cases x
    · trivial
    · exact hb.rowOne
    · trivial
    · trivial
  · cases x' <;> simp [Sim]
  · cases x <;> simp [Sim, Blk.froze]

def Weakers (h h' : List Blk) : Prop := h'.length = h.length ∧ ∀ (id : Nat) (x x' : Blk), h[id]? = some x → h'[id]? = some x' → Weaker x x'

theorem HR.weaker (H : HR w0 mine w m h) (hw : Weakers h h') : HR w0 mine w m h' ∧ Oks w w m m h h' ∧ Sims m m h h' := by
  have back : ∀ id x', h'[id]? = some x' → ∃ x, h[id]? = some x ∧ Weaker x x' := fun id x' hx' => by
    have hlt : id < h.length := by rw [← hw.1]; exact (List.getElem?_eq_some_iff.1 hx').1
    exact ⟨h[id], List.getElem?_eq_getElem hlt, hw.2 id _ _ (List.getElem?_eq_getElem hlt) hx'⟩
  have hok : Oks w w m m h h' := fun n b hb _ => ⟨rfl, hb.1, fun id x' hx' => by
    obtain ⟨x, hx, hwk⟩ := back id x' hx'
    exact okB_weaker hwk (hb.2 id x hx)⟩
  have hs : Sims m m h h' := fun id x hx => by
    have hlt : id < h'.length := by rw [hw.1]; exact (List.getElem?_eq_some_iff.1 hx).1
    exact ⟨h'[id], List.getElem?_eq_getElem hlt, Sim_weaker (hw.2 id _ _ hx (List.getElem?_eq_getElem hlt)) (H.br id x hx)⟩
  have fpsub : ∀ id x', h'[id]? = some x' → ∃ x, h[id]? = some x ∧ (fpB m id x' = fpB m id x ∨ fpB m id x' = []) := fun id x' hx' => by
    obtain ⟨x, hx, hwk⟩ := back id x' hx'
    rcases fpB_weaker (m := m) (id := id) hwk with he | rfl
    · exact ⟨x, hx, .inl he⟩
    · exact ⟨x, hx, .inr rfl⟩
  refine ⟨⟨fun id x' hx' => ?_, fun id x' hx' => ?_, fun id x1 id' x2 hne h1 h2 b hb hb' => ?_, fun id x' hx' b hb => ?_, H.fr, H.mx, H.nx, fun id v hp => by rw [hw.1]; exact H.pn id v hp⟩, hok, hs⟩
  · obtain ⟨x, hx, hwk⟩ := back id x' hx'
    exact BR_mono hok hs rfl rfl rfl (fun b _ => rfl) (BR_weaker hwk (H.br id x hx))
  · obtain ⟨x, hx, he | he⟩ := fpsub id x' hx' <;> rw [he]
    · exact H.nd id x hx
    · exact List.nodup_nil
  · obtain ⟨y1, hy1, he1 | he1⟩ := fpsub id x1 h1 <;> rw [he1] at hb
    · obtain ⟨y2, hy2, he2 | he2⟩ := fpsub id' x2 h2 <;> rw [he2] at hb'
      · exact H.dj id y1 id' y2 hne hy1 hy2 b hb hb'
      · cases hb'
    · cases hb
  · obtain ⟨x, hx, he | he⟩ := fpsub id x' hx' <;> rw [he] at hb
    · exact H.lt id x hx b hb
    · cases hb

theorem Weaker.refl (x : Blk) : Weaker x x := .inr (.inl rfl)
theorem Weaker.dead (x : Blk) : Weaker x .dead := .inl rfl
theorem Weaker.froze (x : Blk) : Weaker x x.froze := .inr (.inr rfl)
theorem Weaker.trans {x y z : Blk} (h1 : Weaker x y) (h2 : Weaker y z) : Weaker x z := by
  rcases h2 with rfl | rfl | rfl
  · exact .dead _
  · exact h1
  · rcases h1 with rfl | rfl | rfl
    · exact .dead _
    · exact .froze _
    · right; right; cases x <;> rfl
theorem Weakers.refl (h : List Blk) : Weakers h h := ⟨rfl, fun id x x' h1 h2 => by rw [h1] at h2; cases h2; exact .refl _⟩
theorem Weakers.trans {h1 h2 h3 : List Blk} (a : Weakers h1 h2) (b : Weakers h2 h3) : Weakers h1 h3 :=
  ⟨b.1.trans a.1, fun id x z hx hz => by
    have hlt : id < h2.length := by rw [a.1]; exact (List.getElem?_eq_some_iff.1 hx).1
    exact (a.2 id x _ hx (List.getElem?_eq_getElem hlt)).trans (b.2 id _ z (List.getElem?_eq_getElem hlt) hz)⟩
theorem Weakers.kill (h : List Blk) (ids : List Nat) : Weakers h (kill h ids) := by
  induction ids generalizing h with
  | nil => exact .refl h
  | cons i ids ih =>
    refine Weakers.trans ⟨by simp, fun id x x' h1 h2 => ?_⟩ (ih (h.set i .dead))
    by_cases e : i = id
    · subst e
      rw [List.getElem?_set_self (List.getElem?_eq_some_iff.1 h1).1] at h2
      cases h2; exact .dead _
    · rw [List.getElem?_set_ne e, h1] at h2
      cases h2; exact .refl _
theorem Weakers.freeze (h : List Blk) (ids : List Nat) : Weakers h (freeze h ids) := by
  induction ids generalizing h with
  | nil => exact .refl h
  | cons i ids ih =>
    refine Weakers.trans ⟨by simp, fun id x x' h1 h2 => ?_⟩ (ih (h.modify i Blk.froze))
    rw [List.getElem?_modify] at h2
    by_cases e : i = id
    · subst e; rw [h1] at h2; simp at h2; subst h2; exact .froze _
    · simp [e, h1] at h2; subst h2; exact .refl _

/-- A new block behind the others (of which some may be given up). Its blocks are new ones, or such as nobody else has. -/
theorem HR.new {h1 : List Blk} (H : HR w0 mine w m h) (hw : Weakers h h1) (x : Blk) (hfr : Fr (fun _ => False) w w')
    (hval : ∀ i, i < h.length → m'.val i = m.val i) (hblk : ∀ i, i < h.length → m'.blk i = m.blk i) (hnst : ∀ i, i < h.length → m'.nst i = m.nst i) (hext : m'.ext = m.ext)
    (hokx : ∀ n b, okAt m h n b → b < w.heap.size → okB m' n b h.length x)
    (hbr : Oks w w' m m' h (h1 ++ [x]) → Sims m m' h (h1 ++ [x]) → BR w' m' (h1 ++ [x]) h.length x)
    (hnd : (fpB m' h.length x).Nodup)
    (hlt : ∀ b ∈ fpB m' h.length x, b < w'.heap.size ∧ (w0.heap.size ≤ b ∨ mine.own b) ∧ ∀ id y, h1[id]? = some y → b ∉ fpB m id y) :
    HR w0 mine w' m' (h1 ++ [x]) ∧ Oks w w' m m' h (h1 ++ [x]) ∧ Sims m m' h (h1 ++ [x]) := by
  obtain ⟨H1, hok1, hs1⟩ := H.weaker hw
  have hl1 := hw.1
  have get : ∀ id y, (h1 ++ [x])[id]? = some y → (id < h.length ∧ h1[id]? = some y) ∨ (id = h.length ∧ y = x) := fun id y hy => by
    by_cases hl : id < h1.length
    · rw [List.getElem?_append_left hl] at hy; exact .inl ⟨by omega, hy⟩
    · rw [List.getElem?_append_right (by omega)] at hy
      have : id - h1.length = 0 := by
        rcases Nat.eq_zero_or_pos (id - h1.length) with h0 | h0
        · exact h0
        · rw [List.getElem?_eq_none (by simp; omega)] at hy; cases hy
      rw [this] at hy
      simp at hy
      exact .inr ⟨by omega, hy.symm⟩
  have okB_eq : ∀ n b id y, id < h.length → (okB m' n b id y ↔ okB m n b id y) := fun n b id y hl => by
    cases y <;> simp [okB, hval id hl, hblk id hl, hnst id hl]
  have fpB_eq : ∀ id y, id < h.length → fpB m' id y = fpB m id y := fun id y hl => by
    cases y <;> simp [fpB, hval id hl, hblk id hl, hnst id hl]
  have hok : Oks w w' m m' h (h1 ++ [x]) := fun n b hb hl => ⟨hfr.block b hl (fun h => h), by rw [hext]; exact hb.1, fun id y hy => by
    rcases get id y hy with ⟨hl', hy'⟩ | ⟨rfl, rfl⟩
    · exact (okB_eq n b id y hl').2 ((hok1 n b hb hl).2.2 id y hy')
    · exact hokx n b hb hl⟩
  have hs : Sims m m' h (h1 ++ [x]) := fun id y hy => by
    have hl := (List.getElem?_eq_some_iff.1 hy).1
    obtain ⟨y1, hy1, hsm⟩ := hs1 id y hy
    refine ⟨y1, by rw [List.getElem?_append_left (by omega)]; exact hy1, ?_⟩
    cases y <;> cases y1 <;> simp_all [Sim]
  refine ⟨⟨fun id y hy => ?_, fun id y hy => ?_, fun id y1 id' y2 hne h1' h2' b hb hb' => ?_, fun id y hy b hb => ?_, ?_, hext.trans H.mx, H.nx, fun id v hp => by
    obtain ⟨h1, h2⟩ := H.pn id v hp
    exact ⟨by simp; omega, by rw [hval id h1]; exact h2⟩⟩, hok, hs⟩
  · rcases get id y hy with ⟨hl, hy'⟩ | ⟨rfl, rfl⟩
    · obtain ⟨y0, hy0, hwk⟩ : ∃ y0, h[id]? = some y0 ∧ Weaker y0 y := ⟨h[id], List.getElem?_eq_getElem hl, hw.2 id _ _ (List.getElem?_eq_getElem hl) hy'⟩
      exact BR_mono hok hs (hval id hl) (hblk id hl) (hnst id hl) (fun b hb => hfr.block b (H1.lt id y hy' b hb).1 (fun h => h)) (BR_weaker hwk (H.br id y0 hy0))
    · exact hbr hok hs
  · rcases get id y hy with ⟨hl, hy'⟩ | ⟨rfl, rfl⟩
    · rw [fpB_eq id y hl]; exact H1.nd id y hy'
    · exact hnd
  · rcases get id y1 h1' with ⟨hl1, hy1⟩ | ⟨rfl, rfl⟩ <;> rcases get id' y2 h2' with ⟨hl2, hy2⟩ | ⟨rfl, rfl⟩
    · rw [fpB_eq id y1 hl1] at hb; rw [fpB_eq id' y2 hl2] at hb'
      exact H1.dj id y1 id' y2 hne hy1 hy2 b hb hb'
    · rw [fpB_eq id y1 hl1] at hb
      exact (hlt b hb').2.2 id y1 hy1 hb
    · rw [fpB_eq id' y2 hl2] at hb'
      exact (hlt b hb).2.2 id' y2 hy2 hb'
    · exact hne rfl
  · rcases get id y hy with ⟨hl, hy'⟩ | ⟨rfl, rfl⟩
    · rw [fpB_eq id y hl] at hb
      have := H1.lt id y hy' b hb
      exact ⟨Nat.lt_of_lt_of_le this.1 hfr.size, this.2⟩
    · exact ⟨(hlt b hb).1, (hlt b hb).2.1⟩
  · exact hfr.lift H (fun k hk => hk.elim)

end

/-! ### the slots -/
section
variable {w w' : World} {m m' : Mp} {h h' : List Blk} {env : List LV} {a : Act}
theorem env_mono (ho : Oks w w' m m' h h') (hs : Sims m m' h h') (he : F2 (V w m h) env a.tmps.toList) : F2 (V w' m' h') env a.tmps.toList :=
  he.imp fun _ _ _ hv => V_mono ho hs hv
theorem env_put (he : F2 (V w m h) env a.tmps.toList) (d : Option Tmp) {l : LV} {v : Value} (hv : V w m h l v) :
    F2 (V w m h) (match d with | some t => env.set t l | none => env) (a.put d v).tmps.toList := by
  cases d with
  | none => exact he
  | some t => simp only [Act.put, Array.toList_setIfInBounds]; exact he.set t hv
end
theorem put_defers (a : Act) (d : Option Tmp) (v : Value) : (a.put d v).defers = a.defers := by cases d <;> rfl
theorem St.put_heap (st : St) (d : Option Tmp) (v : LV) : (st.put d v).heap = st.heap := by cases d <;> rfl
theorem St.put_env (st : St) (d : Option Tmp) (v : LV) : (st.put d v).env = (match d with | some t => st.env.set t v | none => st.env) := by cases d <;> rfl

theorem R.put {w0 w : World} {mine : Mine} {st : St} {a : Act} (hr : R w0 mine st a w) (d : Option Tmp) {l : LV} {v : Value} (hv : ∀ m, HR w0 mine w m st.heap → F2 (V w m st.heap) st.env a.tmps.toList → V w m st.heap l v) :
    R w0 mine (st.put d l) (a.put d v) w := by
  obtain ⟨hd, m, H, he⟩ := hr
  refine ⟨by rw [put_defers]; exact hd, m, by rw [St.put_heap]; exact H, ?_⟩
  rw [St.put_heap, St.put_env]
  exact env_put he d (hv m H he)

theorem R.ev {w0 w : World} {mine : Mine} {st : St} {a : Act} {m : Mp} (_H : HR w0 mine w m st.heap) (he : F2 (V w m st.heap) st.env a.tmps.toList) (x : Operand) : V w m st.heap (st.ev x) (a.eval x) := by
  cases x with
  | tmp t =>
    show V w m st.heap (st.env.getD t (.one .undef)) (a.tmps.getD t undef)
    rw [List.getD_eq_getElem?_getD, Array.getD_eq_getD_getElem?]
    cases hx : st.env[t]? with
    | none =>
      trivial
    | some l =>
      obtain ⟨v, hv, hV⟩ := he.get hx
      simp only [Array.getElem?_toList] at hv
      rw [hv]
      exact hV
  | const v =>
    show V w m st.heap (valOf v) v
    unfold valOf
    split <;> first | rfl | trivial
  | func f => rfl
  | global g => trivial
end Go.T
/- T: each step is the machine's. -/
namespace Go.T
open Go

/-! ### what the tables of types say -/
def zvals : Ty → List Value
  | .int k => [.int k 0]
  | .bool => [.bool false]
  | .str => [.string ByteArray.empty]
  | .hdr => [.slice none 0 0]
  | .slice _ _ => [.slice none 0 0]
  | .pair a b => zvals a ++ zvals b

def DescOk (P : Program) (tt : TT) (ti : TI) : TypeDesc → Prop
  | .struct fs => ti.agg = true ∧ (fs.toList.mapM fun (f : Field) => (P.info? f.type).map fun i => (f.offset, i.size)) = some ti.offs
  | .array n e => ti.agg = true ∧ ∃ j, P.info? e = some j ∧ ∃ te, tt.get e = some te ∧ j.size = te.ty.sz ∧ ti.ty.sz = n * te.ty.sz
  | .slice e => ti.agg = false ∧ ∃ te tie, ti.ty = .slice e te ∧ tt.get e = some tie ∧ tie.ty = te
  | _ => ti.agg = false
structure TIok (P : Program) (tt : TT) (t : Nat) (ti : TI) : Prop where
  info : ∃ i z, P.info? t = some i ∧ i.size = ti.ty.sz ∧ i.zero = some z ∧ z.cells.toList = zvals ti.ty ∧ i.bytes ≤ 65536
  desc : ∃ d, P.underlying t = some d ∧ DescOk P tt ti d
  one : ti.agg = false → ti.ty.sz = 1
  bool : ti.agg = false → ti.ty = .bool → P.underlying t = some .bool
  str : ti.agg = false → ti.ty = .str → P.underlying t = some .string
  ints : ti.ints = true → ∃ (f g : Field) (k l : IntKind), P.underlying t = some (.struct #[f, g]) ∧ P.stoodInHeld t = false ∧ P.eqGuardType P.depth t = false ∧ f.offset = 0 ∧ g.offset = 1 ∧ f.name ≠ "_" ∧ g.name ≠ "_" ∧ P.underlying f.type = some (.int k) ∧ P.underlying g.type = some (.int l)
  slc : ti.agg = false → ∀ (e : Nat) (te : Ty), ti.ty = .slice e te → P.underlying t = some (.slice e) ∧ ∃ tie, tt.get e = some tie ∧ tie.ty = te
  offsStruct : ∀ (f n i : Nat), ti.offs[i]? = some (f, n) → ∃ (fs : Array Field) (fl : Field), P.underlying t = some (.struct fs) ∧ fs[i]? = some fl ∧ fl.offset = f ∧ ∃ j, P.info? fl.type = some j ∧ j.size = n ∧ 0 < n ∧ f + n ≤ ti.ty.sz
def TTok (P : Program) (tt : TT) : Prop := ∀ t ti, tt.get t = some ti → TIok P tt t ti

theorem TIok.isAgg {P : Program} {tt : TT} {t : Nat} {ti : TI} (h : TIok P tt t ti) (w : World) : (isAgg t).run P w = .ok ti.agg w := by
  obtain ⟨d, hu, hd⟩ := h.desc
  cases d <;> simp_all [Go.isAgg, run_underlying hu, DescOk]
theorem TIok.sizeOf {P : Program} {tt : TT} {t : Nat} {ti : TI} (h : TIok P tt t ti) (w : World) : (Go.sizeOf t).run P w = .ok ti.ty.sz w := by
  obtain ⟨i, z, hi, hs, _⟩ := h.info
  simp [Go.sizeOf, typeInfo, hi, hs]

/-! ### running an operation -/
section
variable {P : Program} {o : Oper} {a : Act} {w w' : World} {next : Act → World → Prop} {Q : Exit → Act → World → Prop}
theorem wp_val {v : Value} (h : (execOp a.eval o).run P w = .ok (.value v) w') (hn : next (a.put o.dst v) w') : o.wp P a w next Q := by
  unfold Oper.wp; rw [h]; exact hn
theorem wp_skp (h : (execOp a.eval o).run P w = .ok .skip w') (hn : next (a.put o.dst undef) w') : o.wp P a w next Q := by
  unfold Oper.wp; rw [h]; exact hn
end

theorem C_one {w : World} {m : Mp} {h : List Blk} (H : ∀ id x, h[id]? = some x → BR w m h id x) : ∀ {c : LC} {v : Value}, c.isDef = true → C w m h c v → v.oneCell' = true
  | .int _ _, v, _, hc | .bool _, v, _, hc | .str _, v, _, hc | .nils, v, _, hc | .nilp, v, _, hc | .fn _, v, _, hc => by simp [C] at hc; subst hc; rfl
  | .sl _ _ _ _, v, _, hc => by obtain ⟨A, c, rfl, _⟩ := hc; rfl
  | .tptr _ _ _ _, v, _, hc => by obtain ⟨a, cs, rfl, _⟩ := hc; rfl
  | .hdr u, v, _, hc => by obtain ⟨rfl, h⟩ := hc; exact h
  | .undef, v, hd, _ => by simp [LC.isDef] at hd
  | .own id, v, _, hc => by
    simp only [C] at hc
    cases hx : h[id]? with
    | none => rw [hx] at hc; exact hc.elim
    | some x =>
      rw [hx] at hc
      cases x with
      | box => exact hc.elim
      | row => simp only at hc; subst hc; exact (H id _ hx).rowOne
      | fra => exact hc.elim
      | dead => exact hc
  | .ptr id i f, v, _, hc => by
    simp only [C] at hc
    cases hx : h[id]? with
    | none => rw [hx] at hc; exact hc.elim
    | some x =>
      rw [hx] at hc
      cases x with
      | box => obtain ⟨_, rfl⟩ := hc; rfl
      | row => obtain ⟨g, _, rfl⟩ := hc; rfl
      | fra => exact hc.elim
      | dead => exact hc

theorem cells_one {v : Value} (h : v.oneCell' = true) : v.cells = #[v] := by cases v <;> simp_all [Value.cells, Value.oneCell']

/-- A value's cells. -/
theorem V_cells {w : World} {m : Mp} {h : List Blk} (H : ∀ id x, h[id]? = some x → BR w m h id x) {l : LV} {v : Value} (hv : V w m h l v) (hd : l.cells.all LC.isDef = true) (hl : 0 < l.cells.length) :
    F2 (C w m h) l.cells v.cells.toList ∧ ∀ u ∈ v.cells.toList, u.oneCell' = true := by
  cases l with
  | one c =>
    have hc : c.isDef = true := by simpa [LV.cells] using hd
    have h1 := C_one H hc hv
    rw [cells_one h1]
    exact ⟨.cons hv .nil, by simp [h1]⟩
  | agg cs =>
    obtain ⟨vs, rfl, hf⟩ := hv
    refine ⟨hf, fun u hu => ?_⟩
    simp only [Value.cells] at hu
    obtain ⟨i, hi⟩ := List.getElem?_of_mem hu
    obtain ⟨c, hc, hC⟩ := hf.get' hi
    exact C_one H (by
      have := List.all_eq_true.1 hd c
      exact this (List.mem_of_getElem? hc)) hC
  | tup vs => simp [LV.cells] at hl

theorem zeros_C (w : World) (m : Mp) (h : List Blk) : ∀ t : Ty, F2 (C w m h) (zeros t) (zvals t)
  | .int k => .cons rfl .nil
  | .bool => .cons rfl .nil
  | .str => .cons rfl .nil
  | .hdr => .cons ⟨rfl, rfl⟩ .nil
  | .slice _ _ => .cons rfl .nil
  | .pair a b => (zeros_C w m h a).append (zeros_C w m h b)
theorem zvals_one : ∀ t : Ty, ∀ u ∈ zvals t, u.oneCell' = true
  | .int _ | .bool | .str | .hdr | .slice _ _ => by simp [zvals, Value.oneCell']
  | .pair a b => by
    intro u hu
    rcases List.mem_append.1 hu with hu | hu
    · exact zvals_one a u hu
    · exact zvals_one b u hu
theorem zeros_len : ∀ t : Ty, (zeros t).length = t.sz
  | .int _ | .bool | .str | .hdr | .slice _ _ => by simp [zeros, Ty.sz]
  | .pair a b => by simp [zeros, Ty.sz, zeros_len a, zeros_len b]

/-- What is read, cell by cell. -/
theorem explode_C {w : World} {m : Mp} {h : List Blk} {n : Nat} : ∀ {t : Ty} {v : Val t} {cs : List Value}, K w (okAt m h n) t v cs → F2 (C w m h) (explode n t v) cs
  | .int _, _, _, hk => by rw [K] at hk; subst hk; exact .cons rfl .nil
  | .bool, _, _, hk => by rw [K] at hk; subst hk; exact .cons rfl .nil
  | .str, _, _, hk => by rw [K] at hk; subst hk; exact .cons rfl .nil
  | .hdr, _, _, hk => by rw [K] at hk; obtain ⟨rfl, h⟩ := hk; exact .cons ⟨rfl, h⟩ .nil
  | .slice _ _, xs, _, hk => by
    rw [K] at hk
    obtain ⟨A, c, rfl, hl, hr⟩ := hk
    exact .cons ⟨A, c, rfl, hl, hr⟩ .nil
  | .pair a b, v, _, hk => by
    rw [K] at hk
    obtain ⟨c1, c2, rfl, h1, h2⟩ := hk
    exact (explode_C h1).append (explode_C h2)
theorem explode_len (n : Nat) : ∀ (t : Ty) (v : Val t), (explode n t v).length = t.sz
  | .int _, _ => rfl
  | .bool, _ => rfl
  | .str, _ => rfl
  | .hdr, _ => rfl
  | .slice _ _, _ => rfl
  | .pair a b, v => by simp [explode, Ty.sz, explode_len n a, explode_len n b]
theorem explode_def (n : Nat) : ∀ (t : Ty) (v : Val t), ∀ c ∈ explode n t v, c.isDef = true
  | .int _, _ => by simp [explode, LC.isDef]
  | .bool, _ => by simp [explode, LC.isDef]
  | .str, _ => by simp [explode, LC.isDef]
  | .hdr, _ => by simp [explode, LC.isDef]
  | .slice _ _, _ => by simp [explode, LC.isDef]
  | .pair a b, v => by
    intro c hc
    rcases List.mem_append.1 hc with hc | hc
    · exact explode_def n a v.1 c hc
    · exact explode_def n b v.2 c hc

/-! ### the world with a new block -/
theorem Fr_alloc (w : World) (o : Obj) (A : Nat → Prop) : Fr A w (w.alloc o) := ⟨rfl, rfl, rfl, by simp, fun k hk _ => heap_alloc_old w o k hk⟩
theorem Fr_setRow (w : World) (g : Nat) (cs : Array Value) (A : Nat → Prop) (hA : A g) : Fr A w (w.setRow g cs) :=
  ⟨rfl, rfl, rfl, by simp [World.setRow], fun k _ hk => setRow_other w g k cs (fun e => hk (e ▸ hA))⟩

def Mp.box (m : Mp) (id b : Nat) : Mp := { m with blk := fun i => if i = id then b else m.blk i }
def Mp.row (m : Mp) (id : Nat) (v : Value) (B : List Nat) : Mp := { m with val := fun i => if i = id then v else m.val i, nst := fun i => if i = id then B else m.nst i }

/-- A new box. -/
theorem HR.newBox {w0 w : World} {mine : Mine} {m : Mp} {h : List Blk} (H : HR w0 mine w m h) (cs : List LC) (arr : Array Value) (ty : TypeId) (hc : F2 (C w m h) cs arr.toList) (h1 : ∀ u ∈ arr.toList, u.oneCell' = true) :
    HR w0 mine (w.alloc (.cells arr ty)) (m.box h.length w.heap.size) (h ++ [.box cs]) ∧ Oks w (w.alloc (.cells arr ty)) m (m.box h.length w.heap.size) h (h ++ [.box cs]) ∧ Sims m (m.box h.length w.heap.size) h (h ++ [.box cs]) := by
  refine H.new (Weakers.refl h) (.box cs) (Fr_alloc w _ _) (fun i _ => rfl) (fun i hi => by simp [Mp.box]; intro e; omega) (fun i _ => rfl) rfl (fun n b _ hl => ?_) (fun ho hs => ?_) (by simp [fpB]) (fun b hb => ?_)
  · simp [okB, Mp.box]; omega
  · exact ⟨arr, ty, by simp only [Mp.box, if_true]; exact heap_alloc_new w _, hc.imp fun _ _ _ hc => C_mono ho hs hc, h1⟩
  · simp [fpB, Mp.box] at hb
    subst hb
    refine ⟨by simp, .inl H.fr.size, fun id y hy hm => ?_⟩
    have := (H.lt id y hy _ hm).1
    omega

theorem ptr_new {w : World} {m : Mp} {h : List Blk} (cs : List LC) (b : Nat) : C w (m.box h.length b) (h ++ [.box cs]) (.ptr h.length 0 0) (.pointer (some ⟨b, 0, none⟩)) := by
  simp [C, Mp.box]

section
variable {P : Program} {tt : TT} {o : Oper} {a : Act} {w0 w : World} {mine : Mine} {st : St} {next : Act → World → Prop} {Q : Exit → Act → World → Prop}

/-- A new block goes into a slot. -/
theorem R.mk {st' : St} {a' : Act} {w' : World} {m' : Mp} (hd : a'.defers = []) (H : HR w0 mine w' m' st'.heap) (he : F2 (V w' m' st'.heap) st'.env a'.tmps.toList) : R w0 mine st' a' w' := ⟨hd, m', H, he⟩

theorem R.newed {m : Mp} {m' : Mp} {w' : World} {x : Blk} (hd : a.defers = []) (he : F2 (V w m st.heap) st.env a.tmps.toList) (hh : HR w0 mine w' m' (st.heap ++ [x]) ∧ Oks w w' m m' st.heap (st.heap ++ [x]) ∧ Sims m m' st.heap (st.heap ++ [x]))
    (d : Option Tmp) {c : LC} {v : Value} (hv : C w' m' (st.heap ++ [x]) c v) : R w0 mine (st.new d x c) (a.put d v) w' := by
  refine ⟨by rw [put_defers]; exact hd, m', hh.1, ?_⟩
  show F2 (V w' m' (st.heap ++ [x])) (st.put d (.one c)).env _
  rw [St.put_env]
  exact env_put (env_mono hh.2.1 hh.2.2 he) d (l := .one c) hv

theorem snd_move {x : Operand} (ho : o.op = .move x ∨ o.op = .assign x) (hr : R w0 mine st a w) (hn : ∀ a' w', R w0 mine (st.put o.dst (st.ev x)) a' w' → next a' w') : o.wp P a w next Q := by
  refine wp_val (v := a.eval x) (w' := w) ?_ (hn _ _ (hr.put _ fun m H he => R.ev H he x))
  rcases ho with ho | ho <;> simp [execOp, ho]

theorem snd_alloc (hT : TTok P tt) {t : Nat} {ti : TI} (ho : o.op = .alloc t) (ht : tt.get t = some ti) (hr : R w0 mine st a w)
    (hn : ∀ a' w', R w0 mine (st.new o.dst (.box (zeros ti.ty)) (.ptr st.heap.length 0 0)) a' w' → next a' w') : o.wp P a w next Q := by
  obtain ⟨hd, m, H, he⟩ := hr
  obtain ⟨i, z, hi, hs, hz, hzc, _⟩ := (hT t ti ht).info
  refine wp_val (v := .pointer (some ⟨w.heap.size, 0, none⟩)) (w' := w.alloc (.cells z.cells t)) ?_ (hn _ _ (R.newed hd he (H.newBox (zeros ti.ty) z.cells t (by rw [hzc]; exact zeros_C _ _ _ _) (by rw [hzc]; exact zvals_one _)) _ (ptr_new _ _)))
  simp [execOp, ho, Instr.alloc, zeroValue, typeInfo, hi, hz, newVar, newRow]
  try rfl

theorem snd_box {t : Nat} {x : Operand} (ho : o.op = .box t x) (hr : R w0 mine st a w) (hdef : (st.ev x).cells.all LC.isDef = true) (hl : 0 < (st.ev x).cells.length)
    (hn : ∀ a' w', R w0 mine (st.new o.dst (.box (st.ev x).cells) (.ptr st.heap.length 0 0)) a' w' → next a' w') : o.wp P a w next Q := by
  obtain ⟨hd, m, H, he⟩ := hr
  obtain ⟨hc, h1⟩ := V_cells H.br (R.ev H he x) hdef hl
  refine wp_val (v := .pointer (some ⟨w.heap.size, 0, none⟩)) (w' := w.alloc (.cells (a.eval x).cells t)) ?_ (hn _ _ (R.newed hd he (H.newBox _ _ t hc h1) _ (ptr_new _ _)))
  simp [execOp, ho, Instr.box, newVar, newRow]
  try rfl

theorem snd_pick {c x y : Operand} {b : Bool} (ho : o.op = .pick c x y) (hc : st.ev c = .one (.bool b)) (hr : R w0 mine st a w) (l : LV) (hl : ∀ m v1 v2, V w m st.heap (st.ev x) v1 → V w m st.heap (st.ev y) v2 → V w m st.heap l (if b then v1 else v2))
    (hn : ∀ a' w', R w0 mine (st.put o.dst l) a' w' → next a' w') : o.wp P a w next Q := by
  obtain ⟨hd, m, H, he⟩ := hr
  have hb := R.ev H he c
  rw [hc] at hb
  have hb' : a.eval c = .bool b := hb
  refine wp_val (v := if b then a.eval x else a.eval y) (w' := w) ?_ (hn _ _ (R.put ⟨hd, m, H, he⟩ _ fun m' H' he' => hl _ _ _ (R.ev H' he' x) (R.ev H' he' y)))
  simp [execOp, ho, hb', asBool]
end
end Go.T
/- T: loads, addresses, numbers. -/
namespace Go.T
open Go

theorem addr0_add (b f : Nat) : (⟨b, 0, none⟩ : Addr).add f = ⟨b, f, none⟩ := by unfold Addr.add; split <;> simp_all
theorem addr_add_lit (b f k : Nat) : (⟨b, f, none⟩ : Addr).add k = ⟨b, f + k, none⟩ := by unfold Addr.add; split <;> simp_all

theorem At_block {w : World} {b : Nat} {arr : Array Value} {ty : TypeId} {fz : Nat × Nat} (h : w.heap[b]? = some (.cells arr ty fz)) : At w ⟨b, 0, none⟩ arr.toList := by
  intro j u hu
  rw [addr0_add, cell_of_row w b j arr ty fz h]
  simpa using hu

/-- What is loaded from cells. -/
theorem load_At {P : Program} {tt : TT} {t : Nat} {ti : TI} (hT : TIok P tt t ti) {w : World} {m : Mp} {h : List Blk} {ad : Addr} {lcs : List LC} {cs : List Value}
    (hat : At w ad cs) (hf : F2 (C w m h) lcs cs) (hl : lcs.length = ti.ty.sz) (h1 : ti.agg = false → ti.ty.sz = 1) :
    ∃ v, (loadVar t ad).run P w = .ok v w ∧ V w m h (toLV ti.agg lcs) v := by
  have hlen : cs.length = ti.ty.sz := by rw [← hf.len, hl]
  cases ha : ti.agg with
  | true =>
    refine ⟨.agg cs.toArray, ?_, ⟨cs.toArray, rfl, by simpa using hf⟩⟩
    have := run_loadCells_list (P := P) w ad cs hat
    rw [hlen] at this
    simp [loadVar, hT.isAgg, ha, hT.sizeOf, this]
  | false =>
    have := h1 ha
    rw [this] at hlen hl
    obtain ⟨c, rfl⟩ : ∃ c, lcs = [c] := by
      match lcs, hl with
      | [c], _ => exact ⟨c, rfl⟩
    obtain ⟨u, rfl⟩ : ∃ u, cs = [u] := by
      match cs, hlen with
      | [u], _ => exact ⟨u, rfl⟩
    cases hf with
    | cons hc _ =>
      have hu := hat 0 u (by simp)
      have e : ad.add 0 = ad := by simp [Addr.add]
      rw [e] at hu
      refine ⟨u, ?_, hc⟩
      simp [loadVar, hT.isAgg, ha, run_load, hu]

theorem Ms_get {α : Type} {T : α → List Value → List Nat → Prop} {xs : List α} {cs : List Value} {B : List Nat} {sz : Nat} (hs : ∀ x c b, T x c b → c.length = sz) (h : Ms T xs cs B) {i : Nat} {x : α} (hx : xs[i]? = some x) :
    ∃ b, (∀ k ∈ b, k ∈ B) ∧ T x ((cs.drop (i * sz)).take sz) b := by
  have hk : Ks (fun x c => ∃ b, (∀ k ∈ b, k ∈ B) ∧ T x c b) xs cs := h.toKs fun x c b hb ht => ⟨b, hb, ht⟩
  exact hk.get (fun x c ⟨b, _, ht⟩ => hs x c b ht) hx

/-- An element of an own row, read. -/
theorem row_elem {w0 w : World} {mine : Mine} {m : Mp} {h : List Blk} (H : HR w0 mine w m h) {id : Nat} {e : Nat} {t : Ty} {xs : List (Val t)} {dp mt : Bool} {n : Nat} (hx : h[id]? = some (.row e t xs dp mt n))
    {i : Nat} (hi : i < xs.length) : ∃ g cs, (m.val id).ownBlock = some g ∧ At w ⟨g, i * t.sz, none⟩ cs ∧ K w (okAt m h (bif dp then n + 1 else n)) t (xs.getD i (dflt t)) cs := by
  obtain ⟨inner, ho, hin⟩ := H.br id _ hx
  have hg : xs[i]? = some (xs.getD i (dflt t)) := by simp [List.getD, List.getElem?_eq_getElem hi]
  obtain ⟨A, c, hv, hc, hA, hn⟩ := ownsRow_slice ho
  cases A with
  | none => have := hn rfl; omega
  | some a =>
    obtain ⟨hb, ha⟩ := hA a rfl
    have hat := (ownsRow_At ho hb).sub (i * t.sz) t.sz
    rw [addr0_add] at hat
    refine ⟨a.block, _, hb, hat, ?_⟩
    cases dp with
    | false =>
      simp only [cond_false] at hin ⊢
      exact hin.get (fun x c hk => K_len hk) hg
    | true =>
      simp only [cond_true] at hin ⊢
      obtain ⟨b, hbs, hM⟩ := Ms_get (fun x c b hm => M_len hm) hin.1 hg
      refine M_K hM fun k hk => ?_
      have hkn : k ∈ fpB m id (.row e t xs true mt n) := by simp only [fpB]; exact List.mem_append_right _ (hbs k hk)
      refine ⟨by rw [H.mx]; exact H.nx k (H.lt id _ hx k hkn).2, ?_⟩
      intro id' x' hx'
      have hlt' := (List.getElem?_eq_some_iff.1 hx').1
      by_cases he : id' = id
      · subst he
        rw [hx] at hx'; cases hx'
        refine ⟨fun _ hown => ?_, fun _ hle => ?_⟩
        · have hnd := H.nd _ _ hx
          simp only [fpB, hown] at hnd
          simp at hnd
          exact hnd.1 (hbs k hk)
        · exfalso
          have := hin.2
          omega
      · have hne := H.dj id _ id' x' (fun e => he e.symm) hx hx' k hkn
        cases x' with
        | box cs => simp only [fpB, List.mem_singleton] at hne; exact hne
        | fra F Φ => exact hne
        | dead => trivial
        | row e' t' xs' dp' mt' k' =>
          refine ⟨fun _ hown => hne ?_, fun hd' _ hm => hne ?_⟩
          · simp [fpB, hown]
          · subst hd'; simp only [fpB]; exact List.mem_append_right _ hm

theorem F2_sub {w : World} {m : Mp} {h : List Blk} {lcs : List LC} {cs : List Value} (hf : F2 (C w m h) lcs cs) (f n : Nat) : F2 (C w m h) ((lcs.drop f).take n) ((cs.drop f).take n) := (hf.drop f).take n

section
variable {P : Program} {tt : TT} {o : Oper} {a : Act} {w0 w : World} {mine : Mine} {st : St} {next : Act → World → Prop} {Q : Exit → Act → World → Prop}

theorem snd_load (hT : TTok P tt) {t : Nat} {x : Operand} (ho : o.op = .load t x) {p : Prop} {st' : St} (hs : stepLoad tt t (st.ev x) o.dst st = some (p, st')) (hp : p) (hr : R w0 mine st a w)
    (hn : ∀ a' w', R w0 mine st' a' w' → next a' w') : o.wp P a w next Q := by
  unfold stepLoad at hs
  cases ht : tt.get t with
  | none => simp [ht] at hs
  | some ti =>
    have hti := hT t ti ht
    obtain ⟨hd, m, H, he⟩ := hr
    have hev := R.ev H he x
    have done : ∀ {ad : Addr} {lcs : List LC} {cs : List Value}, a.eval x = .pointer (some ad) → At w ad cs → F2 (C w m st.heap) lcs cs → lcs.length = ti.ty.sz → st' = st.put o.dst (toLV ti.agg lcs) → o.wp P a w next Q := by
      intro ad lcs cs hax hat hf hl hst
      obtain ⟨v, hrun, hv⟩ := load_At hti hat hf hl hti.one
      refine wp_val (v := v) (w' := w) (by simp [execOp, ho, hax, Instr.loadAt, Instr.sureAddr, hrun]) (hn _ _ ?_)
      rw [hst]
      refine ⟨by rw [put_defers]; exact hd, m, by rw [St.put_heap]; exact H, ?_⟩
      rw [St.put_heap, St.put_env]
      exact env_put he _ hv
    simp only [ht] at hs
    split at hs
    · rename_i id i f hx
      rw [hx] at hev
      simp only [V, C] at hev
      split at hs
      · rename_i cs hb
        rw [hb] at hev
        obtain ⟨rfl, hax⟩ := hev
        cases hs
        obtain ⟨arr, ty, hblk, hf, h1⟩ := H.br id _ hb
        have hat := (At_block hblk).sub f ti.ty.sz
        rw [addr0_add] at hat
        exact done hax hat (F2_sub hf f ti.ty.sz) (by simp; omega) rfl
      · rename_i e t' xs dp mt n hb
        rw [hb] at hev
        obtain ⟨g, hg, hax⟩ := hev
        cases hs
        obtain ⟨g', cs, hg', hat, hk⟩ := row_elem H hb hp.1
        rw [hg] at hg'
        cases hg'
        have hat' := hat.sub f ti.ty.sz
        rw [addr_add_lit] at hat'
        have hel := explode_len (bif dp then n + 1 else n) t' (xs.getD i (dflt t'))
        have h2 := hp.2
        exact done hax hat' (F2_sub (explode_C hk) f ti.ty.sz) (by rw [List.length_take, List.length_drop, hel]; omega) rfl
      · simp at hs
    · rename_i t' v f n hx
      rw [hx] at hev
      obtain ⟨ad, cs, hax, hk, hat, hb⟩ := hev
      cases hs
      have hel := explode_len n t' v
      exact done hax (hat.sub f ti.ty.sz) (F2_sub (explode_C hk) f ti.ty.sz) (by rw [List.length_take, List.length_drop, hel]; omega) rfl
    · simp at hs

theorem snd_field (hT : TTok P tt) {t f : Nat} {x : Operand} (ho : o.op = .fieldAddr t x f) {p : Prop} {st' : St} (hs : stepField tt t f (st.ev x) o.dst st = some (p, st')) (hr : R w0 mine st a w)
    (hn : ∀ a' w', R w0 mine st' a' w' → next a' w') : o.wp P a w next Q := by
  unfold stepField at hs
  cases ht : tt.get t with
  | none => simp [ht] at hs
  | some ti =>
    have hti := hT t ti ht
    obtain ⟨hd, m, H, he⟩ := hr
    have hev := R.ev H he x
    simp only [ht] at hs
    obtain ⟨d, hu, hdk⟩ := hti.desc
    have fld : ∀ {g : Nat × Nat}, ti.offs[f]? = some g → ∃ fs : Array Field, ∃ fl : Field, P.underlying t = some (.struct fs) ∧ fs[f]? = some fl ∧ fl.offset = g.1 ∧ ∃ j, P.info? fl.type = some j ∧ 0 < j.size := by
      intro g hg
      have := hti.offsStruct g.1 g.2 f (by simpa using hg)
      obtain ⟨fs, fl, h1, h2, h3, j, h4, h5, h6, _⟩ := this
      exact ⟨fs, fl, h1, h2, h3, j, h4, by omega⟩
    have done : ∀ {ad : Addr} {g : Nat × Nat} {c : LC}, ti.offs[f]? = some g → a.eval x = .pointer (some ad) → C w m st.heap c (.pointer (some (ad.add g.1))) → st' = st.put o.dst (.one c) → o.wp P a w next Q := by
      intro ad g c hg hax hc hst
      obtain ⟨fs, fl, h1, h2, h3, j, h4, h5⟩ := fld hg
      refine wp_val (v := .pointer (some (ad.add g.1))) (w' := w) ?_ (hn _ _ ?_)
      · have : ¬ j.size = 0 := by omega
        simp [execOp, ho, hax, Instr.fieldAt, run_underlying h1, h2, Instr.sureAddr, fieldPlace, Go.sizeOf, typeInfo, h4, this, h3]
      · rw [hst]
        refine ⟨by rw [put_defers]; exact hd, m, by rw [St.put_heap]; exact H, ?_⟩
        rw [St.put_heap, St.put_env]
        exact env_put he _ (l := .one c) hc
    split at hs
    · rename_i id i g o' hx hg
      rw [hx] at hev
      simp only [V, C] at hev
      cases hb : st.heap[id]? with
      | none => rw [hb] at hev; exact hev.elim
      | some b =>
        rw [hb] at hev
        cases b with
        | box cs =>
          simp only [hb, St.go] at hs
          cases hs
          obtain ⟨rfl, hax⟩ := hev
          exact done hg hax (by simp [C, hb, addr_add_lit]) rfl
        | fra F Φ => exact hev.elim
        | row e t' xs dp mt n =>
          simp only [hb, St.go] at hs
          cases hs
          obtain ⟨b, hbk, hax⟩ := hev
          exact done hg hax (by simp [C, hb, addr_add_lit, hbk, Nat.add_assoc]) rfl
        | dead => simp [hb] at hs
    · rename_i t' v g n o' hx hg
      rw [hx] at hev
      simp only [St.go] at hs
      cases hs
      obtain ⟨ad, cs, hax, hk, hat, hb⟩ := hev
      refine done hg hax ?_ rfl
      simp only [C]
      exact ⟨ad, cs, by rw [addr_add_add], hk, hat, hb⟩
    · simp at hs
end
end Go.T
/- T: indexes, numbers, tuples. -/
namespace Go.T
open Go

section
variable {P : Program} {tt : TT} {o : Oper} {a : Act} {w0 w : World} {mine : Mine} {st : St} {next : Act → World → Prop} {Q : Exit → Act → World → Prop}

/-- A step that only computes. -/
theorem snd_pure {m : Mp} (hd : a.defers = []) (H : HR w0 mine w m st.heap) (he : F2 (V w m st.heap) st.env a.tmps.toList) {v : Value} {l : LV} (hrun : (execOp a.eval o).run P w = .ok (.value v) w) (hv : V w m st.heap l v)
    (hn : ∀ a' w', R w0 mine (st.put o.dst l) a' w' → next a' w') : o.wp P a w next Q := by
  refine wp_val hrun (hn _ _ ⟨by rw [put_defers]; exact hd, m, by rw [St.put_heap]; exact H, ?_⟩)
  rw [St.put_heap, St.put_env]
  exact env_put he _ hv

theorem snd_pure1 {m : Mp} (hd : a.defers = []) (H : HR w0 mine w m st.heap) (he : F2 (V w m st.heap) st.env a.tmps.toList) {v : Value} {c : LC} (hn : ∀ a' w', R w0 mine (st.put o.dst (.one c)) a' w' → next a' w')
    (hrun : (execOp a.eval o).run P w = .ok (.value v) w) (hv : C w m st.heap c v) : o.wp P a w next Q := snd_pure hd H he (l := .one c) hrun hv hn

theorem TI.row_spec {ti : TI} {e : Nat} {t : Ty} (h : ti.row e t = true) : ti.agg = false ∧ ∃ t', ti.ty = .slice e t' ∧ t'.sz = t.sz := by
  unfold TI.row at h
  simp only [Bool.and_eq_true, Bool.not_eq_true'] at h
  refine ⟨h.1, ?_⟩
  have h2 := h.2
  split at h2
  · rename_i e' t' hty
    simp only [Bool.and_eq_true, beq_iff_eq] at h2
    obtain ⟨rfl, h3⟩ := h2
    exact ⟨t', hty, h3⟩
  · simp at h2
theorem snd_indexAddr (hT : TTok P tt) {t : Nat} {x y : Operand} (ho : o.op = .indexAddr t x y) {p : Prop} {st' : St} (hs : stepIndexAddr tt t (st.ev x) (st.ev y) o.dst st = some (p, st')) (hp : p) (hr : R w0 mine st a w)
    (hn : ∀ a' w', R w0 mine st' a' w' → next a' w') : o.wp P a w next Q := by
  obtain ⟨hd, m, H, he⟩ := hr
  have hx := R.ev H he x
  have hy := R.ev H he y
  unfold stepIndexAddr at hs
  cases ht : tt.get t with
  | none => simp [ht] at hs
  | some ti =>
    have hti := hT t ti ht
    simp only [ht] at hs
    have run : ∀ {e : Nat} {t' : Ty} {k : IntKind} {i : Int} {ad : Addr} {n c : Nat}, ti.agg = false → ti.ty = .slice e t' → a.eval x = .slice (some ad) n c → a.eval y = .int k i → 0 ≤ i → i < n →
        (execOp a.eval o).run P w = .ok (.value (.pointer (some (ad.add (i.toNat * t'.sz))))) w := by
      intro e t' k i ad n c hag hty hxv hyv h0 hlt
      obtain ⟨hu, tie, hte, htt⟩ := hti.slc hag e t' hty
      have hsz := (hT e tie hte).sizeOf w
      rw [htt] at hsz
      simp [execOp, ho, hxv, hyv, Instr.indexAt, asIntOf, run_underlying hu, h0, hlt, hsz]
    split at hs
    · rename_i e t' xs n k i ex ey
      rw [ex] at hx; rw [ey] at hy
      have hy' : a.eval y = .int k i := hy
      obtain ⟨A, c, hxv, hc, hrd⟩ := hx
      split at hs
      · rename_i hty
        cases hs
        obtain ⟨h0, hlt⟩ := hp
        have hlen : i.toNat < xs.length := by omega
        obtain ⟨ad, cs, hA, hok, hk, hat⟩ := hrd i.toNat xs[i.toNat] (by simp [hlen])
        subst hA
        refine snd_pure hd H he (run hty.1 hty.2 hxv hy' h0 hlt) ?_ hn
        show C w m st.heap (.tptr _ _ _ _) _
        simp only [C]
        refine ⟨ad.add (i.toNat * t'.sz), cs, by rw [addr_add_add, Nat.add_zero], ?_, hat, by rw [addr_add_block]; exact hok⟩
        rw [show xs.getD i.toNat (dflt t') = xs[i.toNat] by simp [List.getD, hlen]]
        exact hk
      · simp at hs
    · rename_i id k i ex ey
      rw [ex] at hx; rw [ey] at hy
      have hy' : a.eval y = .int k i := hy
      split at hs
      · rename_i e t' xs dp mt n hb
        split at hs
        · rename_i hrow
          obtain ⟨hag, t2, hty, hsz⟩ := TI.row_spec hrow
          cases hs
          obtain ⟨h0, hlt⟩ := hp
          simp only [V, C, hb] at hx
          obtain ⟨inner, hown, _⟩ := H.br id _ hb
          obtain ⟨A, c, hv, hc, hA, hnn⟩ := ownsRow_slice hown
          cases A with
          | none => have := hnn rfl; omega
          | some ad =>
            obtain ⟨hbk, had⟩ := hA ad rfl
            rw [hv] at hx
            have hrun := run hag hty hx hy' h0 hlt
            rw [hsz] at hrun
            refine snd_pure hd H he hrun ?_ hn
            show C w m st.heap (.ptr _ _ _) _
            simp only [C, hb]
            exact ⟨ad.block, hbk, by rw [had, addr0_add]; rfl⟩
        · simp at hs
      · simp at hs
    · simp at hs

theorem binI_run {op : BinOp} {k : IntKind} {i j : Int} {c : LC} (h : binI op k i j = some c) (t : TypeId) (x y : Operand) (w : World) :
    ∃ v, (do eqGuard op t x y (.int k i) (.int k j); binOp op t (.int k i) (.int k j)).run P w = .ok v w ∧ ∀ w m h, C w m h c v := by
  cases op <;> simp only [binI, reduceCtorEq, Option.some.injEq] at h <;> subst h <;> refine ⟨_, by simp [eqGuard, binOp, Op.intArith, Op.intCmp]; rfl, fun _ _ _ => ?_⟩ <;> simp only [C] <;> first | rfl | skip
  all_goals trace_state
theorem binS_run {op : BinOp} {i j : ByteArray} {c : LC} (h : binS op i j = some c) (t : TypeId) (x y : Operand) (w : World) :
    ∃ v, (do eqGuard op t x y (.string i) (.string j); binOp op t (.string i) (.string j)).run P w = .ok v w ∧ ∀ w m h, C w m h c v := by
  cases op <;> simp only [binS, reduceCtorEq, Option.some.injEq] at h <;> subst h <;> refine ⟨_, by simp [eqGuard, binOp, Op.stringOp]; rfl, fun _ _ _ => ?_⟩ <;> simp only [C] <;> rfl

theorem run_equal_bool {t : TypeId} (hu : P.underlying t = some .bool) (i j : Bool) (w : World) : (Op.equal t (.bool i) (.bool j)).run P w = .ok (i == j) w := by
  have h : ∀ d, (Op.equalIn (d + 1) t (.bool i) (.bool j)).run P w = .ok (i == j) w := fun d => by simp [Op.equalIn, run_underlying hu]
  exact h 9999

theorem two_ints {m : Mp} {h : List Blk} {k l : IntKind} {i j : Int} : ∀ {us : Array Value}, F2 (C w m h) [.int k i, .int l j] us.toList → us = #[.int k i, .int l j]
  | ⟨us⟩, hf => by
    simp only at hf
    match us, hf with
    | [u, v], .cons c1 (.cons c2 .nil) => simp only [C] at c1 c2; subst c1; subst c2; rfl

theorem run_equal_ints {t : TypeId} {f g : Field} {k l : IntKind} (hu : P.underlying t = some (.struct #[f, g])) (hst : P.stoodInHeld t = false) (hf : f.offset = 0) (hg : g.offset = 1) (hfn : f.name ≠ "_") (hgn : g.name ≠ "_")
    (huf : P.underlying f.type = some (.int k)) (hug : P.underlying g.type = some (.int l)) (k1 l1 : IntKind) (a b a' b' : Int) (w : World) :
    (Op.equal t (.agg #[.int k1 a, .int l1 b]) (.agg #[.int k1 a', .int l1 b'])).run P w = .ok (decide (a = a') && decide (b = b')) w := by
  have h1 : ∀ d (x y : Int), (Op.equalIn (d + 1) f.type (.int k1 x) (.int k1 y)).run P w = .ok (x == y) w := fun d x y => by simp [Op.equalIn, run_underlying huf]
  have h2 : ∀ d (x y : Int), (Op.equalIn (d + 1) g.type (.int l1 x) (.int l1 y)).run P w = .ok (x == y) w := fun d x y => by simp [Op.equalIn, run_underlying hug]
  have af : (isAgg f.type).run P w = .ok false w := by simp [isAgg, run_underlying huf]
  have ag : (isAgg g.type).run P w = .ok false w := by simp [isAgg, run_underlying hug]
  have h : ∀ d, (Op.equalIn (d + 2) t (.agg #[.int k1 a, .int l1 b]) (.agg #[.int k1 a', .int l1 b'])).run P w = .ok (decide (a = a') && decide (b = b')) w := fun d => by
    rw [show d + 2 = (d + 1) + 1 from rfl, Op.equalIn]
    simp only [Sem.run_bind, run_underlying hu, Result.andThen_ok]
    by_cases e1 : a = a' <;> by_cases e2 : b = b' <;> simp [hst, hf, hg, hfn, hgn, part, af, ag, h1, h2, e1, e2]
  exact h 9998

theorem snd_bin (hT : TTok P tt) {op : BinOp} {t ty : Nat} {x y : Operand} (ho : o.op = .binOp op t x y ty) {p : Prop} {st' : St} (hs : stepBin tt op t (st.ev x) (st.ev y) o.dst st = some (p, st')) (hp : p) (hr : R w0 mine st a w)
    (hn : ∀ a' w', R w0 mine st' a' w' → next a' w') : o.wp P a w next Q := by
  obtain ⟨hd, m, H, he⟩ := hr
  have hx := R.ev H he x
  have hy := R.ev H he y
  unfold stepBin at hs
  split at hs
  · rename_i k i k' j ex ey
    rw [ex] at hx; rw [ey] at hy
    have hx' : a.eval x = .int k i := hx
    have hy' : a.eval y = .int k' j := hy
    split at hs
    · rename_i hk
      subst hk
      split at hs
      · cases hs
        refine snd_pure1 hd H he hn (v := .int k (k.wrap (i.tdiv j))) ?_ rfl
        simp [execOp, ho, hx', hy', eqGuard, binOp, Op.intDiv, hp]
      · cases hs
        refine snd_pure1 hd H he hn (v := .int k (i.tmod j)) ?_ rfl
        simp [execOp, ho, hx', hy', eqGuard, binOp, Op.intDiv, hp]
      · split at hs
        · rename_i c hc
          cases hs
          obtain ⟨v, hrun, hv⟩ := binI_run (P := P) hc t x y w
          refine snd_pure1 hd H he hn (v := v) ?_ (hv _ _ _)
          simp only [execOp, ho, hx', hy']
          rw [Sem.run_bind, hrun]; rfl
        · simp at hs
    · simp at hs
  · rename_i i j ex ey
    rw [ex] at hx; rw [ey] at hy
    have hx' : a.eval x = .string i := hx
    have hy' : a.eval y = .string j := hy
    split at hs
    · cases hs
      refine snd_pure1 hd H he hn (v := .string (i ++ j)) ?_ rfl
      have : ¬ (9223372036854775807 : Int) < (i.size : Int) + (j.size : Int) := by omega
      simp [execOp, ho, hx', hy', eqGuard, binOp, Op.stringOp, IntKind.max, IntKind.signed, IntKind.bits, this]
    · split at hs
      · rename_i c hc
        cases hs
        obtain ⟨v, hrun, hv⟩ := binS_run (P := P) hc t x y w
        refine snd_pure1 hd H he hn (v := v) ?_ (hv _ _ _)
        simp only [execOp, ho, hx', hy']
        rw [Sem.run_bind, hrun]; rfl
      · simp at hs
  · rename_i i j ex ey
    rw [ex] at hx; rw [ey] at hy
    have hx' : a.eval x = .bool i := hx
    have hy' : a.eval y = .bool j := hy
    cases ht : tt.get t with
    | none => simp [ht] at hs
    | some ti =>
      simp only [ht] at hs
      split at hs
      · rename_i hty
        have hu := (hT t ti ht).bool hty.2 hty.1
        cases op <;> simp only [reduceCtorEq] at hs
        · cases hs
          refine snd_pure1 hd H he hn (v := .bool (i == j)) ?_ rfl
          simp [execOp, ho, hx', hy', eqGuard, binOp, run_equal_bool hu]
        · cases hs
          refine snd_pure1 hd H he hn (v := .bool (!(i == j))) ?_ rfl
          simp [execOp, ho, hx', hy', eqGuard, binOp, run_equal_bool hu]
      · simp at hs
  · rename_i as bs ex ey
    rw [ex] at hx; rw [ey] at hy
    cases ht : tt.get t with
    | none => simp [ht] at hs
    | some ti =>
      simp only [ht] at hs
      split at hs
      · rename_i hin
        obtain ⟨f, g, k, l, hu, hst, heg, hf, hg, hfn, hgn, huf, hug⟩ := (hT t ti ht).ints hin
        split at hs
        · rename_i e hei
          obtain ⟨us, hxv, hfx⟩ := hx
          obtain ⟨vs, hyv, hfy⟩ := hy
          unfold eqInts at hei
          split at hei
          · rename_i k1 i1 l1 i2 k2 j1 l2 j2
            split at hei
            · rename_i hkl
              obtain ⟨rfl, rfl⟩ := hkl
              cases hei
              have hus := two_ints hfx
              have hvs := two_ints hfy
              subst hus; subst hvs
              have hE := fun w => run_equal_ints (P := P) (w := w) hu hst hf hg hfn hgn huf hug k1 l1 i1 i2 j1 j2
              cases op <;> simp only [reduceCtorEq] at hs
              · cases hs
                refine snd_pure1 hd H he hn (v := .bool (decide (i1 = j1) && decide (i2 = j2))) ?_ rfl
                simp [execOp, ho, hxv, hyv, eqGuard, binOp, hE, heg]
              · cases hs
                refine snd_pure1 hd H he hn (v := .bool (!(decide (i1 = j1) && decide (i2 = j2)))) ?_ rfl
                simp [execOp, ho, hxv, hyv, eqGuard, binOp, hE, heg]
            · simp at hei
          · simp at hei
        · simp at hs
      · simp at hs
  · simp at hs

theorem snd_un {op : UnOp} {t : Nat} {x : Operand} (ho : o.op = .unOp op t x) {p : Prop} {st' : St} (hs : stepUn op (st.ev x) o.dst st = some (p, st')) (hr : R w0 mine st a w)
    (hn : ∀ a' w', R w0 mine st' a' w' → next a' w') : o.wp P a w next Q := by
  obtain ⟨hd, m, H, he⟩ := hr
  have hx := R.ev H he x
  unfold stepUn at hs
  split at hs
  · rename_i k i ex
    rw [ex] at hx
    have hx' : a.eval x = .int k i := hx
    cases hs
    refine snd_pure1 hd H he hn (v := .int k (k.wrap (0 - i))) ?_ rfl
    simp [execOp, ho, hx', Op.unary, Op.intArith]
  · rename_i b ex
    rw [ex] at hx
    have hx' : a.eval x = .bool b := hx
    cases hs
    refine snd_pure1 hd H he hn (v := .bool (!b)) ?_ rfl
    simp [execOp, ho, hx', Op.unary]
  · simp at hs

theorem V1_V {w : World} {m : Mp} {h : List Blk} {l : LV1} {v : Value} (hv : V1 w m h l v) : V w m h l.lv v := by
  unfold V1 at hv
  unfold LV1.lv
  split at hv
  · rename_i e; rw [e]; exact hv
  · rename_i e
    obtain ⟨c, hc, hC, _⟩ := hv
    rw [e, hc]; exact hC

theorem snd_extract {x : Operand} {i : Nat} {vs : List LV1} {l : LV1} (ho : o.op = .extract x i) (ex : st.ev x = .tup vs) (hl : vs[i]? = some l) (hr : R w0 mine st a w)
    (hn : ∀ a' w', R w0 mine (st.put o.dst l.lv) a' w' → next a' w') : o.wp P a w next Q := by
  obtain ⟨hd, m, H, he⟩ := hr
  have hx := R.ev H he x
  rw [ex] at hx
  obtain ⟨us, hxv, hf⟩ := hx
  obtain ⟨u, hu, hV⟩ := hf.get hl
  refine snd_pure hd H he (v := u) ?_ (V1_V hV) hn
  simp only [Array.getElem?_toList] at hu
  simp [execOp, ho, hxv, Instr.extract, hu]

theorem snd_nilCheck {x : Operand} {id i f : Nat} (ho : o.op = .nilCheck x) (ex : st.ev x = .one (.ptr id i f)) (hb : st.heap[id]? ≠ some .dead) (hr : R w0 mine st a w)
    (hn : ∀ a' w', R w0 mine (st.put o.dst (.one (.ptr id i f))) a' w' → next a' w') : o.wp P a w next Q := by
  obtain ⟨hd, m, H, he⟩ := hr
  have hx := R.ev H he x
  rw [ex] at hx
  have hp : ∃ ad, a.eval x = .pointer (some ad) := by
    simp only [V, C] at hx
    cases hb' : st.heap[id]? with
    | none => rw [hb'] at hx; exact hx.elim
    | some b =>
      rw [hb'] at hx
      cases b with
      | box cs => exact ⟨_, hx.2⟩
      | row e t xs dp mt n => obtain ⟨g, _, hv⟩ := hx; exact ⟨_, hv⟩
      | fra => exact hx.elim
      | dead => exact absurd hb' hb
  obtain ⟨ad, hxv⟩ := hp
  refine snd_pure hd H he (v := a.eval x) ?_ hx hn
  simp [execOp, ho, hxv]

theorem snd_len (hT : TTok P tt) {c : Call} {t : Nat} {ti : TI} {x : Operand} {n : Int} (ho : o.op = .call c) (hc : c.callee = .builtin .len) (ha : c.args = #[x]) (hat : c.argTypes = #[t]) (ht : tt.get t = some ti)
    (hl : lenOf ti st.heap (st.ev x) = some n) (hr : R w0 mine st a w) (hn : ∀ a' w', R w0 mine (st.put o.dst (.one (.int .i64 n))) a' w' → next a' w') : o.wp P a w next Q := by
  obtain ⟨hd, m, H, he⟩ := hr
  have hx := R.ev H he x
  have hti := hT t ti ht
  have key : (Builtin.len_ #[t] o.type #[a.eval x]).run P w = .ok (.int .i64 n) w := by
    unfold lenOf at hl
    split at hl
    · rename_i s ex
      rw [ex] at hx
      have hxv : a.eval x = .string s := hx
      split at hl
      · rename_i hty; cases hl
        simp [Builtin.len_, run_underlying (hti.str hty.1 hty.2), hxv, goInt]
      · simp at hl
    · rename_i e t' xs k ex
      rw [ex] at hx
      obtain ⟨A, cp, hxv, _⟩ := hx
      split at hl
      · rename_i hty; cases hl
        obtain ⟨hu, _⟩ := hti.slc hty.1 _ _ hty.2
        simp [Builtin.len_, run_underlying hu, hxv, goInt]
      · simp at hl
    · rename_i ex
      rw [ex] at hx
      have hxv : a.eval x = .slice none 0 0 := hx
      split at hl
      · rename_i e te hag hty; cases hl
        obtain ⟨hu, _⟩ := hti.slc hag _ _ hty
        simp [Builtin.len_, run_underlying hu, hxv, goInt]
      · simp at hl
    · rename_i id ex
      rw [ex] at hx
      split at hl
      · rename_i e t' xs dp mt k hb
        simp only [V, C, hb] at hx
        obtain ⟨inner, hown, _⟩ := H.br id _ hb
        obtain ⟨A, cp, hv, _⟩ := ownsRow_slice hown
        rw [hv] at hx
        split at hl
        · rename_i hrow; cases hl
          obtain ⟨hag, t2, hty, _⟩ := TI.row_spec hrow
          obtain ⟨hu, _⟩ := hti.slc hag _ _ hty
          simp [Builtin.len_, run_underlying hu, hx, goInt]
        · simp at hl
      · simp at hl
    · simp at hl
  refine snd_pure1 hd H he hn (v := .int .i64 n) ?_ rfl
  simp [execOp, ho, resolve, hc, ha, hat, invoke, builtin, key]

theorem snd_mm {c : Call} {mx : Bool} {x y : Operand} (ho : o.op = .call c) (hc : c.callee = .builtin (bif mx then .max else .min)) (ha : c.args = #[x, y]) {p : Prop} {st' : St} (hs : stepMM mx (st.ev x) (st.ev y) o.dst st = some (p, st')) (hr : R w0 mine st a w)
    (hn : ∀ a' w', R w0 mine st' a' w' → next a' w') : o.wp P a w next Q := by
  obtain ⟨hd, m, H, he⟩ := hr
  have hx := R.ev H he x
  have hy := R.ev H he y
  unfold stepMM at hs
  split at hs
  · rename_i k n k' n' ex ey
    rw [ex] at hx
    rw [ey] at hy
    have hxv : a.eval x = .int k n := hx
    have hyv : a.eval y = .int k' n' := hy
    split at hs
    · rename_i e
      subst e
      cases hs
      cases mx with
      | true =>
        refine snd_pure1 hd H he hn (v := .int k (max n n')) ?_ rfl
        have : (if n' > n then n' else n) = max n n' := by rw [Int.max_def]; split <;> split <;> omega
        simp [execOp, ho, resolve, hc, ha, invoke, builtin, hxv, hyv, Builtin.max_, Builtin.max2, this]
      | false =>
        refine snd_pure1 hd H he hn (v := .int k (min n n')) ?_ rfl
        have : (if n' < n then n' else n) = min n n' := by rw [Int.min_def]; split <;> split <;> omega
        simp [execOp, ho, resolve, hc, ha, invoke, builtin, hxv, hyv, Builtin.min_, Builtin.min2, this]
    · simp at hs
  · simp at hs

theorem bnd_run {m : Mp} {dflt i : Int} {b : Option Operand} {y : Nat} {code : BoundsCode} (H : HR w0 mine w m st.heap) (he : F2 (V w m st.heap) st.env a.tmps.toList) (hb : bndOf dflt (b.map st.ev) = some i) (h0 : 0 ≤ i) (h1 : i ≤ y) (hd : b = none → dflt = i) :
    (match b.map a.eval with
      | some v => Instr.sliceBound v y code
      | none => (pure dflt.toNat : Sem Nat)).run P w = .ok i.toNat w := by
  cases b with
  | none => simp [hd rfl]
  | some x =>
    have hx := R.ev H he x
    simp only [Option.map_some, bndOf] at hb
    split at hb
    · simp at *
    · rename_i k j e
      simp only [Option.some.injEq] at e hb
      rw [e] at hx
      have hxv : a.eval x = .int k j := hx
      subst hb
      simp [Instr.sliceBound, hxv, asIntOf, h0, h1]
    · simp at hb

theorem snd_slice (hT : TTok P tt) {t : Nat} {x : Operand} {lo hi : Option Operand} (ho : o.op = .slice t x lo hi none) {p : Prop} {st' : St} (hs : stepSlice tt t (st.ev x) (lo.map st.ev) (hi.map st.ev) o.dst st = some (p, st')) (hp : p) (hr : R w0 mine st a w)
    (hn : ∀ a' w', R w0 mine st' a' w' → next a' w') : o.wp P a w next Q := by
  obtain ⟨hd, m, H, he⟩ := hr
  have hx := R.ev H he x
  unfold stepSlice at hs
  split at hs
  · simp at hs
  · rename_i ti ht
    have hti := hT t ti ht
    split at hs
    · rename_i s ex
      rw [ex] at hx
      have hxv : a.eval x = .string s := hx
      split at hs
      · rename_i l h hl hh
        split at hs
        · rename_i hty
          cases hs
          obtain ⟨h0, h1, h2⟩ := hp
          refine snd_pure1 hd H he hn (v := .string (s.extract l.toNat h.toNat)) ?_ rfl
          have e1 := bnd_run (P := P) (y := s.size) (code := .sliceAlen) H he hh (by omega) h2 (fun e => by subst e; simpa [bndOf] using hh)
          have e2 := bnd_run (P := P) (y := h.toNat) (code := .sliceB) H he hl h0 (by omega) (fun e => by subst e; simpa [bndOf] using hl)
          simp only [Int.toNat_natCast, Int.toNat_zero] at e1 e2
          simp only [execOp, ho, Instr.sliceAt, Sem.run_bind, run_underlying (hti.str hty.1 hty.2), Result.andThen_ok, Option.map_none, hxv, Instr.slice, Option.isSome_none, Bool.false_eq_true, if_false, Instr.sliceBounds, Sem.run_pure, e1, e2]
          cases hi <;> cases lo <;> simp_all [Instr.sliceBounds]
        · simp at hs
      · simp at hs
    · rename_i e te xs n ex
      rw [ex] at hx
      obtain ⟨A, cp, hxv, hlen, hrd⟩ := hx
      split at hs
      · rename_i l h hl hh
        split at hs
        · rename_i hty
          cases hs
          obtain ⟨h0, h1, h2⟩ := hp
          obtain ⟨hu, tie, hte, hteq⟩ := hti.slc hty.1 _ _ hty.2
          have hsz := (hT e tie hte).sizeOf w
          rw [hteq] at hsz
          have e1 := bnd_run (P := P) (y := cp) (code := .sliceAcap) H he hh (by omega) (by omega) (fun e => by subst e; simpa [bndOf] using hh)
          have e2 := bnd_run (P := P) (y := h.toNat) (code := .sliceB) H he hl h0 (by omega) (fun e => by subst e; simpa [bndOf] using hl)
          simp only [Int.toNat_natCast, Int.toNat_zero] at e1 e2
          refine snd_pure1 hd H he hn (v := .slice (if cp = l.toNat then A else A.map (·.add (l.toNat * te.sz))) (h.toNat - l.toNat) (cp - l.toNat)) ?_ ⟨(if cp = l.toNat then A else A.map (·.add (l.toNat * te.sz))), cp - l.toNat, ?_, ?_, ?_⟩
          · simp only [execOp, ho, Instr.sliceAt, Sem.run_bind, run_underlying hu, Result.andThen_ok, Option.map_none, hxv, Instr.slice, Instr.sliceBounds, Sem.run_pure, e1, e2, hsz]
            cases hi <;> cases lo <;> simp_all [Instr.sliceBounds]
          · congr 1
            simp; omega
          · simp; omega
          · intro i y hy
            have hi' : i < h.toNat - l.toNat := by
              have := (List.getElem?_eq_some_iff.1 hy).1
              simp at this; omega
            have hy2 : xs[l.toNat + i]? = some y := by
              rw [List.getElem?_drop, List.getElem?_take] at hy
              rw [if_pos (by omega)] at hy
              exact hy
            obtain ⟨ad, cs, rfl, hok, hk, hat⟩ := hrd _ y hy2
            have hne : ¬ cp = l.toNat := by omega
            refine ⟨ad.add (l.toNat * te.sz), cs, by simp [hne], by rw [addr_add_block]; exact hok, hk, ?_⟩
            rw [addr_add_add, ← Nat.add_mul]
            exact hat
        · simp at hs
      · simp at hs
    · simp at hs

theorem snd_index (hT : TTok P tt) {t : Nat} {x y : Operand} (ho : o.op = .index t x y) {p : Prop} {st' : St} (hs : stepIndex tt t (st.ev x) (st.ev y) o.dst st = some (p, st')) (hp : p) (hr : R w0 mine st a w)
    (hn : ∀ a' w', R w0 mine st' a' w' → next a' w') : o.wp P a w next Q := by
  obtain ⟨hd, m, H, he⟩ := hr
  have hx := R.ev H he x
  have hy := R.ev H he y
  unfold stepIndex at hs
  cases ht : tt.get t with
  | none => simp [ht] at hs
  | some ti =>
    simp only [ht] at hs
    split at hs
    · rename_i s k i ex ey
      rw [ex] at hx; rw [ey] at hy
      have hxv : a.eval x = .string s := hx
      have hyv : a.eval y = .int k i := hy
      split at hs
      · rename_i hty; cases hs
        have hu := (hT t ti ht).str hty.1 hty.2
        have hlt : i.toNat < s.size := by omega
        refine snd_pure1 hd H he hn (v := .int .u8 (byteAt s i.toNat)) ?_ rfl
        have hg : s[i.toNat]? = some s[i.toNat] := by simp [hlt]
        simp [execOp, ho, hxv, hyv, Instr.index, asIntOf, run_underlying hu, hp.1, byteAt, hlt]
      · simp at hs
    · simp at hs
end
end Go.T
/- T: what is put together and what is stored. -/
namespace Go.T
open Go

/-! ### cells into values -/
/-- What a cell leads to lies in blocks that are ok. -/
def okC (w : World) (m : Mp) (h : List Blk) (ok : Nat → Prop) : LC → Prop
  | .sl _ _ _ n => ∀ b, okAt m h n b → b < w.heap.size → ok b
  | .own id => ∀ x, h[id]? = some x → (∀ b ∈ fpB m id x, ok b) ∧ (match x with
    | .row _ _ _ false _ n => ∀ b, okAt m h n b → b < w.heap.size → ok b
    | _ => True)
  | _ => True

theorem implode_K {w : World} {m : Mp} {h : List Blk} {ok : Nat → Prop} (H : ∀ id x, h[id]? = some x → BR w m h id x) : ∀ {t : Ty} {lcs : List LC} {vs : List Value} {v : Val t} {rest : List LC},
    F2 (C w m h) lcs vs → implode h t lcs = some (v, rest) → (∀ c ∈ lcs, okC w m h ok c) → ∃ v1 v2, vs = v1 ++ v2 ∧ K w ok t v v1 ∧ F2 (C w m h) rest v2 ∧ ∃ pre, lcs = pre ++ rest
  | .int k, lcs, vs, v, rest, hf, hi, _hok => by
    cases hf with
    | nil => simp [implode] at hi
    | cons hc hr =>
      rename_i c u cs us
      cases c <;> first | (simp [implode] at hi; done) | skip
      all_goals simp only [implode] at hi
      split at hi
      · rename_i e; subst e; cases hi
        simp only [C] at hc; subst hc
        exact ⟨[_], us, rfl, by rw [K], hr, [_], rfl⟩
      · simp at hi
  | .bool, lcs, vs, v, rest, hf, hi, _hok => by
    cases hf with
    | nil => simp [implode] at hi
    | cons hc hr =>
      rename_i c u cs us
      cases c <;> first | (simp [implode] at hi; done) | skip
      all_goals simp only [implode] at hi
      cases hi
      simp only [C] at hc; subst hc
      exact ⟨[_], us, rfl, by rw [K], hr, [_], rfl⟩
  | .str, lcs, vs, v, rest, hf, hi, _hok => by
    cases hf with
    | nil => simp [implode] at hi
    | cons hc hr =>
      rename_i c u cs us
      cases c <;> first | (simp [implode] at hi; done) | skip
      all_goals simp only [implode] at hi
      cases hi
      simp only [C] at hc; subst hc
      exact ⟨[_], us, rfl, by rw [K], hr, [_], rfl⟩
  | .hdr, lcs, vs, v, rest, hf, hi, _hok => by
    cases hf with
    | nil => simp [implode] at hi
    | cons hc hr =>
      rename_i c u cs us
      cases c <;> first | (simp [implode] at hi; done) | skip
      all_goals simp only [implode] at hi
      cases hi
      obtain ⟨rfl, h1⟩ := hc
      exact ⟨[_], us, rfl, by rw [K]; exact ⟨rfl, h1⟩, hr, [_], rfl⟩
  | .slice e t, lcs, vs, v, rest, hf, hi, hok => by
    cases hf with
    | nil => simp [implode] at hi
    | cons hc hr =>
      rename_i c u cs us
      have hokc := hok c (by simp)
      cases c <;> first | (simp [implode] at hi; done) | skip
      all_goals simp only [implode] at hi
      case sl e' t' xs n =>
        split at hi
        · rename_i he
          obtain ⟨rfl, rfl⟩ := he
          cases hi
          obtain ⟨A, c, rfl, hl, hrd⟩ := hc
          exact ⟨[_], us, rfl, by rw [K]; exact ⟨A, c, rfl, hl, Rd_step (fun b _ _ => rfl) (fun b hb hlt => hokc b hb hlt) hrd⟩, hr, [_], rfl⟩
        · simp at hi
      case nils =>
        cases hi
        simp only [C] at hc; subst hc
        exact ⟨[_], us, rfl, by rw [K]; exact ⟨none, 0, rfl, Nat.le_refl _, fun i x hx => by simp at hx⟩, hr, [_], rfl⟩
      case own id =>
        split at hi
        · rename_i e' t' xs dp mt n hx
          split at hi
          · rename_i he
            obtain ⟨rfl, rfl⟩ := he
            cases hi
            simp only [C, hx] at hc
            subst hc
            obtain ⟨hfp, hn⟩ := hokc _ hx
            obtain ⟨inner, hown, hin⟩ := H id _ hx
            have hks : Ks (K w ok t') xs inner := by
              cases dp with
              | true =>
                exact hin.1.toKs fun x c b hb hM => M_K hM fun k hk => hfp k (by simp only [fpB]; exact List.mem_append_right _ (hb k hk))
              | false =>
                simp only at hin
                exact hin.imp fun x c hk => K_step (fun b _ _ => rfl) (fun b hb hlt => hn b hb hlt) hk
            obtain ⟨A, c, hv, hl, hrd⟩ := ownsRow_Rd (ok := ok) hown (fun x c hk => K_len hk) hks (fun b hb => hfp b (by simp only [fpB]; exact List.mem_append_left _ (by simp [hb])))
            refine ⟨[_], us, rfl, ?_, hr, [_], rfl⟩
            rw [K]
            exact ⟨A, c, by rw [hv], hl, hrd⟩
          · simp at hi
        · simp at hi
  | .pair a b, lcs, vs, v, rest, hf, hi, hok => by
    simp only [implode] at hi
    split at hi
    · rename_i x cs ha
      split at hi
      · rename_i y cs' hb
        cases hi
        obtain ⟨v1, v2, rfl, hk1, hf2, pre, hpre⟩ := implode_K H hf ha hok
        obtain ⟨v3, v4, rfl, hk2, hf4, pre', hpre'⟩ := implode_K H hf2 hb (fun c hc => hok c (by rw [hpre]; simp [hc]))
        refine ⟨v1 ++ v3, v4, by simp, ?_, hf4, pre ++ pre', by rw [hpre, hpre']; simp⟩
        rw [K]
        exact ⟨v1, v3, rfl, hk1, hk2⟩
      · simp at hi
    · simp at hi

/-- The blocks of the rows that cells hand on. -/
def fpIds (m : Mp) (h : List Blk) (ids : List Nat) : List Nat := ids.flatMap fun id => match h[id]? with
  | some x => fpB m id x
  | none => []
theorem fpIds_append (m : Mp) (h : List Blk) (a b : List Nat) : fpIds m h (a ++ b) = fpIds m h a ++ fpIds m h b := by simp [fpIds]
theorem moved_append (a b : List LC) : moved (a ++ b) = moved a ++ moved b := by simp [moved]

theorem ownsRow_len {w : World} {base : Nat} {e : TypeId} {size : Nat} {v : Value} {n : Nat} {xs : List Value} (h : w.ownsRow base e size v n xs) : xs.length = n * size := h.1

theorem flat_M {w : World} {ok : Nat → Prop} : ∀ {t : Ty} {v : Val t} {cs : List Value}, t.flat = true → K w ok t v cs → M w t v cs []
  | .int _, _, _, _, h => by rw [K] at h; rw [M]; exact ⟨h, rfl⟩
  | .bool, _, _, _, h => by rw [K] at h; rw [M]; exact ⟨h, rfl⟩
  | .str, _, _, _, h => by rw [K] at h; rw [M]; exact ⟨h, rfl⟩
  | .hdr, _, _, _, h => by rw [K] at h; rw [M]; exact ⟨h, rfl⟩
  | .slice _ _, _, _, hf, _ => by simp [Ty.flat] at hf
  | .pair a b, _, _, hf, h => by
    simp [Ty.flat] at hf
    rw [K] at h; rw [M]
    obtain ⟨c1, c2, rfl, h1, h2⟩ := h
    exact ⟨c1, c2, [], [], rfl, rfl, flat_M hf.1 h1, flat_M hf.2 h2⟩
theorem flat_Ms {w : World} {ok : Nat → Prop} {t : Ty} (hf : t.flat = true) : ∀ {xs : List (Val t)} {cs : List Value}, Ks (K w ok t) xs cs → Ms (M w t) xs cs []
  | [], _, h => ⟨h, rfl⟩
  | x :: xs, _, h => by
    obtain ⟨c1, c2, rfl, h1, h2⟩ := h
    exact ⟨c1, c2, [], [], rfl, rfl, flat_M hf h1, flat_Ms hf h2⟩

theorem implode_M {w : World} {m : Mp} {h : List Blk} (H : ∀ id x, h[id]? = some x → BR w m h id x) : ∀ {t : Ty} {lcs : List LC} {vs : List Value} {v : Val t} {rest : List LC},
    F2 (C w m h) lcs vs → implode h t lcs = some (v, rest) → deepOf h lcs = true → ∃ v1 v2 pre, vs = v1 ++ v2 ∧ lcs = pre ++ rest ∧ M w t v v1 (fpIds m h (moved pre)) ∧ F2 (C w m h) rest v2
  | .int k, lcs, vs, v, rest, hf, hi, _hok => by
    cases hf with
    | nil => simp [implode] at hi
    | cons hc hr =>
      rename_i c u cs us
      cases c <;> first | (simp [implode] at hi; done) | skip
      all_goals simp only [implode] at hi
      split at hi
      · rename_i e; subst e; cases hi
        simp only [C] at hc; subst hc
        exact ⟨[_], us, [_], rfl, rfl, by rw [M]; exact ⟨rfl, rfl⟩, hr⟩
      · simp at hi
  | .bool, lcs, vs, v, rest, hf, hi, _hok => by
    cases hf with
    | nil => simp [implode] at hi
    | cons hc hr =>
      rename_i c u cs us
      cases c <;> first | (simp [implode] at hi; done) | skip
      all_goals simp only [implode] at hi
      cases hi
      simp only [C] at hc; subst hc
      exact ⟨[_], us, [_], rfl, rfl, by rw [M]; exact ⟨rfl, rfl⟩, hr⟩
  | .str, lcs, vs, v, rest, hf, hi, _hok => by
    cases hf with
    | nil => simp [implode] at hi
    | cons hc hr =>
      rename_i c u cs us
      cases c <;> first | (simp [implode] at hi; done) | skip
      all_goals simp only [implode] at hi
      cases hi
      simp only [C] at hc; subst hc
      exact ⟨[_], us, [_], rfl, rfl, by rw [M]; exact ⟨rfl, rfl⟩, hr⟩
  | .hdr, lcs, vs, v, rest, hf, hi, _hok => by
    cases hf with
    | nil => simp [implode] at hi
    | cons hc hr =>
      rename_i c u cs us
      cases c <;> first | (simp [implode] at hi; done) | skip
      all_goals simp only [implode] at hi
      cases hi
      obtain ⟨rfl, h1⟩ := hc
      exact ⟨[_], us, [_], rfl, rfl, by rw [M]; exact ⟨⟨rfl, h1⟩, rfl⟩, hr⟩
  | .slice e t, lcs, vs, v, rest, hf, hi, hdp => by
    cases hf with
    | nil => simp [implode] at hi
    | cons hc hr =>
      rename_i c u cs us
      simp only [deepOf, List.all_cons, Bool.and_eq_true] at hdp
      cases c <;> first | (simp [implode] at hi; done) | skip
      all_goals simp only [implode] at hi
      case sl e' t' xs n => simp [LC.deep] at hdp
      case nils =>
        cases hi
        simp only [C] at hc; subst hc
        exact ⟨[_], us, [_], rfl, rfl, by rw [M]; exact ⟨.slice none 0 0, [], [], rfl, by simp [fpIds, moved, LC.movedId, Value.ownBlock], World.ownsRow_nil w 0 e t.sz, rfl, rfl⟩, hr⟩
      case own id =>
        split at hi
        · rename_i e' t' xs dp mt n hx
          split at hi
          · rename_i he
            obtain ⟨rfl, rfl⟩ := he
            cases hi
            simp only [C, hx] at hc
            subst hc
            have hdp1 : dp = true := by simpa [LC.deep, hx] using hdp.1
            subst hdp1
            obtain ⟨inner, hown, hin⟩ := H id _ hx
            refine ⟨[_], us, [_], rfl, rfl, ?_, hr⟩
            rw [M]
            exact ⟨_, inner, m.nst id, rfl, by simp [fpIds, moved, LC.movedId, hx, fpB], hown, hin.1⟩
          · simp at hi
        · simp at hi
  | .pair a b, lcs, vs, v, rest, hf, hi, hdp => by
    simp only [implode] at hi
    split at hi
    · rename_i x cs ha
      split at hi
      · rename_i y cs' hb
        cases hi
        obtain ⟨v1, v2, pre, rfl, hpre, hk1, hf2⟩ := implode_M H hf ha hdp
        obtain ⟨v3, v4, pre', rfl, hpre', hk2, hf4⟩ := implode_M H hf2 hb (by
          subst hpre
          simp only [deepOf, List.all_append, Bool.and_eq_true] at hdp
          exact hdp.2)
        refine ⟨v1 ++ v3, v4, pre ++ pre', by simp, by rw [hpre, hpre']; simp, ?_, hf4⟩
        rw [M, moved_append, fpIds_append]
        exact ⟨v1, v3, _, _, rfl, rfl, hk1, hk2⟩
      · simp at hi
    · simp at hi

/-! ### one cell put into a value -/
theorem setV_K {w : World} {m : Mp} {h : List Blk} {ok : Nat → Prop} : ∀ {t : Ty} {v v' : Val t} {cs : List Value} {f : Nat} {c : LC} {u : Value}, K w ok t v cs → setV t v f c = some v' → C w m h c u → f < t.sz ∧ K w ok t v' (cs.set f u)
  | .int k, v, v', cs, f, c, u, hk, hs, hc => by
    rw [K] at hk; subst hk
    cases f <;> cases c <;> first | (simp [setV] at hs; done) | skip
    all_goals simp only [setV] at hs
    split at hs
    · rename_i e; subst e; cases hs
      simp only [C] at hc; subst hc
      exact ⟨by simp [Ty.sz], by rw [K]; rfl⟩
    · simp at hs
  | .bool, v, v', cs, f, c, u, hk, hs, hc => by
    rw [K] at hk; subst hk
    cases f <;> cases c <;> first | (simp [setV] at hs; done) | skip
    all_goals simp only [setV] at hs
    cases hs
    simp only [C] at hc; subst hc
    exact ⟨by simp [Ty.sz], by rw [K]; rfl⟩
  | .str, v, v', cs, f, c, u, hk, hs, hc => by
    rw [K] at hk; subst hk
    cases f <;> cases c <;> first | (simp [setV] at hs; done) | skip
    all_goals simp only [setV] at hs
    cases hs
    simp only [C] at hc; subst hc
    exact ⟨by simp [Ty.sz], by rw [K]; rfl⟩
  | .hdr, v, v', cs, f, c, u, hk, hs, hc => by
    cases f <;> cases c <;> simp [setV] at hs
  | .slice _ _, v, v', cs, f, c, u, hk, hs, hc => by
    cases f <;> cases c <;> simp [setV] at hs
  | .pair a b, v, v', cs, f, c, u, hk, hs, hc => by
    rw [K] at hk
    obtain ⟨c1, c2, rfl, h1, h2⟩ := hk
    have hl := K_len h1
    simp only [setV] at hs
    split at hs
    · rename_i hf
      split at hs
      · rename_i x hx; cases hs
        obtain ⟨h3, h4⟩ := setV_K h1 hx hc
        refine ⟨by simp [Ty.sz]; omega, ?_⟩
        rw [K, List.set_append_left _ _ (by omega)]
        exact ⟨_, _, rfl, h4, h2⟩
      · simp at hs
    · rename_i hf
      split at hs
      · rename_i y hy; cases hs
        obtain ⟨h3, h4⟩ := setV_K h2 hy hc
        refine ⟨by simp [Ty.sz]; omega, ?_⟩
        rw [K, List.set_append_right _ _ (by omega), hl]
        exact ⟨_, _, rfl, h1, h4⟩
      · simp at hs
theorem setV_M {w : World} {m : Mp} {h : List Blk} : ∀ {t : Ty} {v v' : Val t} {cs : List Value} {B : List Nat} {f : Nat} {c : LC} {u : Value}, M w t v cs B → setV t v f c = some v' → C w m h c u → M w t v' (cs.set f u) B
  | .int k, v, v', cs, B, f, c, u, hk, hs, hc => by
    rw [M] at hk; obtain ⟨rfl, rfl⟩ := hk
    cases f <;> cases c <;> first | (simp [setV] at hs; done) | skip
    all_goals simp only [setV] at hs
    split at hs
    · rename_i e; subst e; cases hs
      simp only [C] at hc; subst hc
      rw [M]; exact ⟨rfl, rfl⟩
    · simp at hs
  | .bool, v, v', cs, B, f, c, u, hk, hs, hc => by
    rw [M] at hk; obtain ⟨rfl, rfl⟩ := hk
    cases f <;> cases c <;> first | (simp [setV] at hs; done) | skip
    all_goals simp only [setV] at hs
    cases hs
    simp only [C] at hc; subst hc
    rw [M]; exact ⟨rfl, rfl⟩
  | .str, v, v', cs, B, f, c, u, hk, hs, hc => by
    rw [M] at hk; obtain ⟨rfl, rfl⟩ := hk
    cases f <;> cases c <;> first | (simp [setV] at hs; done) | skip
    all_goals simp only [setV] at hs
    cases hs
    simp only [C] at hc; subst hc
    rw [M]; exact ⟨rfl, rfl⟩
  | .hdr, v, v', cs, B, f, c, u, hk, hs, hc => by
    cases f <;> cases c <;> simp [setV] at hs
  | .slice _ _, v, v', cs, B, f, c, u, hk, hs, hc => by
    cases f <;> cases c <;> simp [setV] at hs
  | .pair a b, v, v', cs, B, f, c, u, hk, hs, hc => by
    rw [M] at hk
    obtain ⟨c1, c2, B1, B2, rfl, rfl, h1, h2⟩ := hk
    have hl := M_len h1
    simp only [setV] at hs
    split at hs
    · rename_i hf
      split at hs
      · rename_i x hx; cases hs
        rw [M, List.set_append_left _ _ (by omega)]
        exact ⟨_, _, _, _, rfl, rfl, setV_M h1 hx hc, h2⟩
      · simp at hs
    · rename_i hf
      split at hs
      · rename_i y hy; cases hs
        rw [M, List.set_append_right _ _ (by omega), hl]
        exact ⟨_, _, _, _, rfl, rfl, h1, setV_M h2 hy hc⟩
      · simp at hs

theorem Ms_set {α : Type} {T : α → List Value → List Nat → Prop} {xs : List α} {cs : List Value} {B : List Nat} {sz : Nat} (hs : ∀ x c b, T x c b → c.length = sz) (h : Ms T xs cs B) {i : Nat} {x : α} (hi : xs[i]? = some x) :
    ∃ B1 b B2, B = B1 ++ b ++ B2 ∧ T x ((cs.drop (i * sz)).take sz) b ∧ ∀ x' c' b', T x' c' b' → Ms T (xs.set i x') (cs.take (i * sz) ++ c' ++ cs.drop (i * sz + sz)) (B1 ++ b' ++ B2) := by
  induction xs generalizing cs B i with
  | nil => simp at hi
  | cons y xs ih =>
    obtain ⟨c1, c2, b1, b2, rfl, rfl, h1, h2⟩ := h
    have hl := hs _ _ _ h1
    cases i with
    | zero =>
      simp at hi; subst hi
      refine ⟨[], b1, b2, by simp, ?_, fun x' c' b' ht => ?_⟩
      · have : ((c1 ++ c2).drop (0 * sz)).take sz = c1 := by simp [← hl]
        rw [this]; exact h1
      · simp only [Nat.zero_mul, List.take_zero, List.nil_append, Nat.zero_add, List.set_cons_zero]
        exact ⟨c', c2, b', b2, by rw [← hl]; simp, rfl, ht, h2⟩
    | succ i =>
      obtain ⟨B1, b, B2, rfl, ht, hset⟩ := ih h2 (i := i) (by simpa using hi)
      have e : (i + 1) * sz = c1.length + i * sz := by rw [hl, Nat.succ_mul, Nat.add_comm]
      refine ⟨b1 ++ B1, b, B2, by simp, ?_, fun x' c' b' ht' => ?_⟩
      · rw [e, List.drop_append, List.drop_eq_nil_of_le (by omega)]
        simpa using ht
      · refine ⟨c1, c2.take (i * sz) ++ c' ++ c2.drop (i * sz + sz), b1, B1 ++ b' ++ B2, ?_, by simp, h1, hset x' c' b' ht'⟩
        rw [e, show c1.length + i * sz + sz = c1.length + (i * sz + sz) by omega, List.drop_append, List.take_append, List.drop_eq_nil_of_le (by omega), List.take_of_length_le (by omega)]
        simp
end Go.T
/- T: stores. -/
namespace Go.T
open Go

section
variable {w0 w w' : World} {mine : Mine} {m m' : Mp} {h h1 : List Blk}

theorem fpB_same {id : Nat} {x : Blk} (hv : m'.val id = m.val id) (hb : m'.blk id = m.blk id) (hn : m'.nst id = m.nst id) : fpB m' id x = fpB m id x := by
  cases x <;> simp [fpB, hv, hb, hn]
theorem okB_same {n b id : Nat} {x : Blk} (hv : m'.val id = m.val id) (hb : m'.blk id = m.blk id) (hn : m'.nst id = m.nst id) : okB m' n b id x ↔ okB m n b id x := by
  cases x <;> simp [okB, hv, hb, hn]

/-- A block is written; rows may be given up for it. -/
theorem HR.write (H : HR w0 mine w m h) (hw : Weakers h h1) {id : Nat} {x x' : Blk} (hx : h1[id]? = some x)
    (hv : m'.val = m.val) (hb : m'.blk = m.blk) (hns : ∀ i, i ≠ id → m'.nst i = m.nst i) (hext : m'.ext = m.ext) (hsim : Sim m m' id x x')
    (hfp : ∀ b ∈ fpB m' id x', b ∈ fpB m id x ∨ (b < w.heap.size ∧ (w0.heap.size ≤ b ∨ mine.own b) ∧ ∀ i y, h1[i]? = some y → i ≠ id → b ∉ fpB m i y))
    (hnd : (fpB m' id x').Nodup) (hokx : ∀ n b, okAt m h n b → b < w.heap.size → okB m' n b id x') {g : Nat} (hg : g ∈ fpB m id x)
    (hfr : Fr (fun k => k = g) w w') (htop : ∀ n b, okAt m h n b → b ≠ g)
    (hbr : Oks w w' m m' h (h1.set id x') → Sims m m' h (h1.set id x') → BR w' m' (h1.set id x') id x') :
    HR w0 mine w' m' (h1.set id x') ∧ Oks w w' m m' h (h1.set id x') ∧ Sims m m' h (h1.set id x') := by
  obtain ⟨H1, hok1, hs1⟩ := H.weaker hw
  have hl := (List.getElem?_eq_some_iff.1 hx).1
  have get : ∀ i y, (h1.set id x')[i]? = some y → (i ≠ id ∧ h1[i]? = some y) ∨ (i = id ∧ y = x') := fun i y hy => by
    by_cases e : id = i
    · subst e
      rw [List.getElem?_set_self hl] at hy
      cases hy; exact .inr ⟨rfl, rfl⟩
    · rw [List.getElem?_set_ne e] at hy
      exact .inl ⟨fun h => e h.symm, hy⟩
  have fpe : ∀ i y, i ≠ id → fpB m' i y = fpB m i y := fun i y hne => fpB_same (by rw [hv]) (by rw [hb]) (hns i hne)
  have hok : Oks w w' m m' h (h1.set id x') := fun n b hbk hlt => ⟨hfr.block b hlt (htop n b hbk), by rw [hext]; exact hbk.1, fun i y hy => by
    rcases get i y hy with ⟨hne, hy'⟩ | ⟨rfl, rfl⟩
    · exact (okB_same (by rw [hv]) (by rw [hb]) (hns i hne)).2 ((hok1 n b hbk hlt).2.2 i y hy')
    · exact hokx n b hbk hlt⟩
  have hs : Sims m m' h (h1.set id x') := fun i y hy => by
    obtain ⟨y1, hy1, hsm⟩ := hs1 i y hy
    by_cases e : id = i
    · subst e
      rw [hx] at hy1; cases hy1
      refine ⟨x', List.getElem?_set_self hl, ?_⟩
      cases y <;> cases x <;> cases x' <;> simp_all [Sim]
    · refine ⟨y1, by rw [List.getElem?_set_ne e]; exact hy1, ?_⟩
      cases y <;> cases y1 <;> simp_all [Sim]
  refine ⟨⟨fun i y hy => ?_, fun i y hy => ?_, fun i y1 i' y2 hne h1' h2' b hb1 hb2 => ?_, fun i y hy b hb1 => ?_, hfr.lift H1 fun k hk => ⟨id, x, hx, hk ▸ hg⟩, hext.trans H.mx, H.nx, fun id v hp => by
    obtain ⟨h1, h2⟩ := H.pn id v hp
    exact ⟨by simp; rw [hw.1]; exact h1, by rw [hv]; exact h2⟩⟩, hok, hs⟩
  · rcases get i y hy with ⟨hne, hy'⟩ | ⟨rfl, rfl⟩
    · have hbr1 : BR w m h i y ∨ True := .inr trivial
      -- from the weaker heap to the written one
      have hok2 : Oks w w' m m' h1 (h1.set id x') ∨ True := .inr trivial
      have hB := H1.br i y hy'
      -- relate h1 to h by the original's relation
      obtain ⟨y0, hy0, hwk⟩ : ∃ y0, h[i]? = some y0 ∧ Weaker y0 y := by
        have hlt : i < h.length := by rw [← hw.1]; exact (List.getElem?_eq_some_iff.1 hy').1
        exact ⟨h[i], List.getElem?_eq_getElem hlt, hw.2 i _ _ (List.getElem?_eq_getElem hlt) hy'⟩
      refine BR_mono hok hs (by rw [hv]) (by rw [hb]) (hns i hne) (fun b hb1 => hfr.block b (H1.lt i y hy' b hb1).1 fun e => ?_) (BR_weaker hwk (H.br i y0 hy0))
      exact H1.dj i y id x hne hy' hx b hb1 (e ▸ hg)
    · exact hbr hok hs
  · rcases get i y hy with ⟨hne, hy'⟩ | ⟨rfl, rfl⟩
    · rw [fpe i y hne]; exact H1.nd i y hy'
    · exact hnd
  · rcases get i y1 h1' with ⟨hne1, hy1⟩ | ⟨rfl, rfl⟩ <;> rcases get i' y2 h2' with ⟨hne2, hy2⟩ | ⟨rfl, rfl⟩
    · rw [fpe i y1 hne1] at hb1; rw [fpe i' y2 hne2] at hb2
      exact H1.dj i y1 i' y2 hne hy1 hy2 b hb1 hb2
    · rw [fpe i y1 hne1] at hb1
      rcases hfp b hb2 with hh | ⟨_, _, hh⟩
      · exact H1.dj i y1 _ x hne hy1 hx b hb1 hh
      · exact hh i y1 hy1 hne1 hb1
    · rw [fpe i' y2 hne2] at hb2
      rcases hfp b hb1 with hh | ⟨_, _, hh⟩
      · exact H1.dj i' y2 _ x hne2 hy2 hx b hb2 hh
      · exact hh i' y2 hy2 hne2 hb2
    · exact hne rfl
  · rcases get i y hy with ⟨hne, hy'⟩ | ⟨rfl, rfl⟩
    · rw [fpe i y hne] at hb1
      have := H1.lt i y hy' b hb1
      exact ⟨Nat.lt_of_lt_of_le this.1 hfr.size, this.2⟩
    · rcases hfp b hb1 with hh | ⟨h1', h2', _⟩
      · have := H1.lt _ x hx b hh
        exact ⟨Nat.lt_of_lt_of_le this.1 hfr.size, this.2⟩
      · exact ⟨Nat.lt_of_lt_of_le h1' hfr.size, h2'⟩
end

/-! ### the machine's store -/
section
variable {P : Program} {tt : TT} {o : Oper} {a : Act} {w0 w : World} {mine : Mine} {st : St} {next : Act → World → Prop} {Q : Exit → Act → World → Prop}

theorem run_storeVar {t : Nat} {ti : TI} (hti : TIok P tt t ti) {g f : Nat} {ty : TypeId} {cur : Array Value} (hg : w.heap[g]? = some (.cells cur ty (0, 0))) {v : Value} (hl : v.cells.toList.length = ti.ty.sz) (hfit : f + ti.ty.sz ≤ cur.size)
    (h1 : ∀ u ∈ v.cells.toList, u.oneCell' = true) :
    (storeVar t ⟨g, f, none⟩ v).run P w = .ok () (w.setRow g (cur.toList.take f ++ v.cells.toList ++ cur.toList.drop (f + ti.ty.sz)).toArray) := by
  have hst := run_storeCells_at P g f ty v.cells.toList 0 cur w hg (by omega) h1
  have hsz : v.cells.size = ti.ty.sz := by simpa using hl
  simp only [Nat.add_zero] at hst
  rw [hl] at hst
  simp [storeVar, hti.sizeOf, hsz, hst]

theorem snd_storeBox (hT : TTok P tt) {t : Nat} {ti : TI} (ht : tt.get t = some ti) {x y : Operand} (ho : o.op = .store t x y) (hdst : o.dst = none) {id i f : Nat} (ex : st.ev x = .one (.ptr id i f)) {old : List LC} (hb : st.heap[id]? = some (.box old))
    (hl : (st.ev y).cells.length = ti.ty.sz) (hdef : (st.ev y).cells.all LC.isDef = true) (hfit : f + ti.ty.sz ≤ old.length) (hr : R w0 mine st a w)
    (hn : ∀ a' w', R w0 mine { st with heap := st.heap.set id (.box (old.take f ++ (st.ev y).cells ++ old.drop (f + (st.ev y).cells.length))) } a' w' → next a' w') : o.wp P a w next Q := by
  obtain ⟨hd, m, H, he⟩ := hr
  have hti := hT t ti ht
  have hx := R.ev H he x
  rw [ex] at hx
  simp only [V, C, hb] at hx
  obtain ⟨rfl, hxv⟩ := hx
  obtain ⟨hc, h1⟩ := V_cells H.br (R.ev H he y) hdef (by rw [hl]; exact ti.ty.sz_pos)
  obtain ⟨arr, ty, hblk, hf, h1'⟩ := H.br id _ hb
  have hasz : arr.size = old.length := by simpa using hf.len.symm
  have hvl : (a.eval y).cells.toList.length = ti.ty.sz := by rw [← hc.len, hl]
  have hrun := run_storeVar (P := P) (w := w) hti hblk hvl (by rw [hasz]; exact hfit) h1
  refine wp_skp (w' := w.setRow (m.blk id) (arr.toList.take f ++ (a.eval y).cells.toList ++ arr.toList.drop (f + ti.ty.sz)).toArray) (by simp [execOp, ho, hxv, Instr.storeAt, Instr.sureAddr, hrun]) (hn _ _ ?_)
  have hh := H.write (w' := w.setRow (m.blk id) (arr.toList.take f ++ (a.eval y).cells.toList ++ arr.toList.drop (f + ti.ty.sz)).toArray) (m' := m) (Weakers.refl st.heap) hb (x' := .box (old.take f ++ (st.ev y).cells ++ old.drop (f + (st.ev y).cells.length))) rfl rfl (fun _ _ => rfl) rfl (by simp [Sim]) (fun b hb' => .inl hb') (by simp [fpB])
    (fun n b hk hlt => (hk.2 id _ hb : okB m n b id (.box old))) (g := m.blk id) (by simp [fpB]) (Fr_setRow w _ _ _ rfl) (fun n b hk => (hk.2 id _ hb : okB m n b id (.box old))) (fun ho hs => by
      refine ⟨_, ty, setRow_heap w _ arr _ ty _ hblk, ?_, ?_⟩
      · have : F2 (C w m st.heap) (old.take f ++ (st.ev y).cells ++ old.drop (f + (st.ev y).cells.length)) (arr.toList.take f ++ (a.eval y).cells.toList ++ arr.toList.drop (f + ti.ty.sz)) := by
          rw [hl]
          exact ((hf.take f).append hc).append (hf.drop _)
        have h2 := this.imp fun _ _ _ h => C_mono ho hs h
        rw [List.toList_toArray]
        exact h2
      · intro u hu
        rw [List.toList_toArray] at hu
        simp only [List.mem_append] at hu
        rcases hu with (hu | hu) | hu
        · exact h1' u (List.mem_of_mem_take hu)
        · exact h1 u hu
        · exact h1' u (List.mem_of_mem_drop hu))
  refine ⟨by rw [put_defers]; exact hd, m, hh.1, ?_⟩
  rw [hdst]
  exact env_mono hh.2.1 hh.2.2 he

/-- A row's cells after a store. -/
theorem ownsRow_setRow {base : Nat} {e : TypeId} {size : Nat} {g n cap : Nat} {xs : List Value} (h : w.ownsRow base e size (.slice (some ⟨g, 0, none⟩) n cap) n xs) {cur : Array Value} {ty : TypeId} (hg : w.heap[g]? = some (.cells cur ty (0, 0))) (f : Nat) (vs : List Value) (hfit : f + vs.length ≤ n * size) :
    (w.setRow g (cur.toList.take f ++ vs ++ cur.toList.drop (f + vs.length)).toArray).ownsRow base e size (.slice (some ⟨g, 0, none⟩) n cap) n (xs.take f ++ vs ++ xs.drop (f + vs.length)) := by
  obtain ⟨hl, hh⟩ := h
  rcases hh with ⟨hh, _⟩ | ⟨g', cap', cur', hh, hb, hgg, hnc, hcm, hcs, htake⟩
  · simp at hh
  · simp only [Value.slice.injEq, Option.some.injEq, Addr.mk.injEq, and_true, true_and] at hh
    obtain ⟨rfl, rfl⟩ := hh
    rw [hg] at hgg
    cases hgg
    have hnm : n * size ≤ cap * size := Nat.mul_le_mul_right _ hnc
    refine ⟨by simp [hl]; omega, .inr ⟨g, cap, _, rfl, hb, setRow_heap w g cur _ e _ hg, hnc, hcm, ?_, ?_⟩⟩
    · simp; omega
    · rw [← htake]
      apply List.ext_getElem?
      intro j
      simp only [List.getElem?_take, List.getElem?_append, List.length_take, List.length_append, List.getElem?_drop, Array.length_toList]
      by_cases hj : j < n * size
      · simp only [hj, if_true]
        split <;> rename_i h1
        · split <;> rename_i h2
          · rw [if_pos (by omega), if_pos (by omega)]
            rw [if_pos (by omega)]
          · rw [if_pos (by omega), if_neg (by omega)]
            congr 1; omega
        · rw [if_neg (by omega), if_pos (by omega)]
          congr 1; omega
      · simp only [hj, if_false]
        rw [if_neg (by omega)]
        rw [if_neg (by omega)]
end
end Go.T
/- T: stores into rows; new rows. -/
namespace Go.T
open Go

section
variable {P : Program} {tt : TT} {o : Oper} {a : Act} {w0 w : World} {mine : Mine} {st : St} {next : Act → World → Prop} {Q : Exit → Act → World → Prop}

/-- A row that has an element lies somewhere. -/
theorem row_at {m : Mp} {id e : Nat} {t : Ty} {xs : List (Val t)} {inner : List Value} (hown : w.ownsRow 0 e t.sz (m.val id) xs.length inner) {i : Nat} (hi : i < xs.length) :
    ∃ g cap cur, m.val id = .slice (some ⟨g, 0, none⟩) xs.length cap ∧ (m.val id).ownBlock = some g ∧ w.heap[g]? = some (.cells cur e (0, 0)) ∧ xs.length * t.sz ≤ cur.size ∧ cur.toList.take (xs.length * t.sz) = inner := by
  rcases hown.2 with ⟨_, h0⟩ | ⟨g, cap, cur, hv, _, hg, hnc, _, hcs, htk⟩
  · omega
  · exact ⟨g, cap, cur, hv, by rw [hv]; rfl, hg, by rw [hcs]; exact Nat.mul_le_mul_right _ hnc, htk⟩

theorem idx_fit {i n sz : Nat} (hi : i < n) : i * sz + sz ≤ n * sz := by
  have : (i + 1) * sz ≤ n * sz := Nat.mul_le_mul_right _ hi
  rwa [Nat.succ_mul] at this

theorem nst_top {m : Mp} {h : List Blk} (H : HR w0 mine w m h) {id e : Nat} {t : Ty} {xs : List (Val t)} {mt : Bool} {n : Nat} (hx : h[id]? = some (.row e t xs true mt n)) {g : Nat} (hg : (m.val id).ownBlock = some g) : g ∉ m.nst id := by
  have hnd := H.nd _ _ hx
  simp only [fpB, hg] at hnd
  simp at hnd
  exact hnd.1

theorem setCell_list {l : List Value} {k : Nat} {u : Value} (hk : k < l.length) : l.take k ++ [u] ++ l.drop (k + 1) = l.set k u := by
  rw [List.set_eq_take_append_cons_drop, if_pos hk]; simp

theorem set_elem {inner : List Value} {i sz f n : Nat} {u : Value} (hi : i < n) (hl : inner.length = n * sz) (hf : f < sz) :
    inner.set (i * sz + f) u = inner.take (i * sz) ++ ((inner.drop (i * sz)).take sz).set f u ++ inner.drop (i * sz + sz) := by
  have hfit := idx_fit (sz := sz) hi
  have e : inner = inner.take (i * sz) ++ ((inner.drop (i * sz)).take sz ++ inner.drop (i * sz + sz)) := by
    rw [← List.drop_drop, List.take_append_drop, List.take_append_drop]
  conv => lhs; rw [e]
  have h1 : (inner.take (i * sz)).length = i * sz := by simp; omega
  have h2 : ((inner.drop (i * sz)).take sz).length = sz := by simp; omega
  rw [List.set_append_right _ _ (by omega), h1, List.set_append_left _ _ (by omega), show i * sz + f - i * sz = f by omega, List.append_assoc]

theorem setV_def : ∀ {t : Ty} {v v' : Val t} {f : Nat} {c : LC}, setV t v f c = some v' → c.isDef = true
  | .int _, _, _, f, c, h => by cases f <;> cases c <;> simp_all [setV, LC.isDef]
  | .bool, _, _, f, c, h => by cases f <;> cases c <;> simp_all [setV, LC.isDef]
  | .str, _, _, f, c, h => by cases f <;> cases c <;> simp_all [setV, LC.isDef]
  | .hdr, _, _, f, c, h => by cases f <;> cases c <;> simp_all [setV]
  | .slice _ _, _, _, f, c, h => by cases f <;> cases c <;> simp_all [setV]
  | .pair a b, v, v', f, c, h => by
    simp only [setV] at h
    split at h
    · split at h
      · rename_i hx; exact setV_def hx
      · simp at h
    · split at h
      · rename_i hx; exact setV_def hx
      · simp at h

/-- One cell of an element. -/
theorem snd_storeCell (hT : TTok P tt) {t : Nat} {ti : TI} (ht : tt.get t = some ti) {x y : Operand} (ho : o.op = .store t x y) (hdst : o.dst = none) {id i f : Nat} (ex : st.ev x = .one (.ptr id i f)) {e : Nat} {te : Ty} {xs : List (Val te)} {dp : Bool} {n : Nat}
    (hb : st.heap[id]? = some (.row e te xs dp true n)) {c : LC} (ey : (st.ev y).cells = [c]) (hag : ti.agg = false) {v : Val te} (hs : setV te (xs.getD i (dflt te)) f c = some v) (hi : i < xs.length) (hr : R w0 mine st a w)
    (hn : ∀ a' w', R w0 mine { st with heap := st.heap.set id (.row e te (xs.set i v) dp true n) } a' w' → next a' w') : o.wp P a w next Q := by
  obtain ⟨hd, m, H, he⟩ := hr
  have hti := hT t ti ht
  have hx := R.ev H he x
  rw [ex] at hx
  simp only [V, C, hb] at hx
  obtain ⟨g0, hg0, hxv⟩ := hx
  obtain ⟨inner, hown, hin⟩ := H.br id _ hb
  obtain ⟨g, cap, cur, hval, hob, hg, hsz, htk⟩ := row_at hown hi
  obtain rfl : g = g0 := by rw [hob] at hg0; exact Option.some.inj hg0
  have hcd : c.isDef = true := setV_def hs
  obtain ⟨hcc, h1⟩ := V_cells H.br (R.ev H he y) (by rw [ey]; simp [hcd]) (by rw [ey]; simp)
  rw [ey] at hcc
  obtain ⟨u, hu, hcu⟩ : ∃ u, (a.eval y).cells.toList = [u] ∧ C w m st.heap c u := by
    generalize (a.eval y).cells.toList = l at hcc
    cases hcc with
    | cons h1 h2 => cases h2; exact ⟨_, rfl, h1⟩
  have hel : xs[i]? = some (xs.getD i (dflt te)) := by simp [List.getD, List.getElem?_eq_getElem hi]
  have hfit := idx_fit (sz := te.sz) hi
  -- the place is within the element
  have hflt : f < te.sz := by
    obtain ⟨g', cs, _, _, hk⟩ := row_elem H hb hi
    exact (setV_K hk hs hcu).1
  have hlen : (a.eval y).cells.toList.length = ti.ty.sz := by rw [hu, hti.one hag]; rfl
  have hrun := run_storeVar (P := P) (w := w) (f := i * te.sz + f) hti hg hlen (by rw [hti.one hag]; omega) h1
  rw [hu, hti.one hag] at hrun
  have hil := ownsRow_len hown
  refine wp_skp (w' := w.setRow g (cur.toList.take (i * te.sz + f) ++ [u] ++ cur.toList.drop (i * te.sz + f + 1)).toArray) (by simp only [execOp, ho, hxv, Instr.storeAt, Instr.sureAddr, Sem.run_bind, Sem.run_pure, Result.andThen_ok, hrun]) (hn _ _ ?_)
  rw [hval] at hown
  have hown' := ownsRow_setRow hown hg (i * te.sz + f) [u] (by simp; omega)
  rw [← hval] at hown'
  simp only [List.length_singleton] at hown'
  rw [setCell_list (l := inner) (by omega), set_elem hi hil hflt] at hown'
  have hh := H.write (w' := w.setRow g (cur.toList.take (i * te.sz + f) ++ [u] ++ cur.toList.drop (i * te.sz + f + 1)).toArray) (m' := m) (Weakers.refl st.heap) hb (x' := .row e te (xs.set i v) dp true n) rfl rfl (fun _ _ => rfl) rfl (by simp [Sim]) (fun b hb' => .inl hb') (H.nd id _ hb : (fpB m id (.row e te xs dp true n)).Nodup)
    (fun n' b hk hlt => (hk.2 id _ hb : okB m n' b id (.row e te xs dp true n))) (g := g) (by simp [fpB, hob]) (Fr_setRow w _ _ _ rfl) (fun n' b hk he => by
      have := (hk.2 id _ hb).1 (.inl rfl)
      rw [hob, he] at this
      exact this rfl) (fun hok hs' => by
      refine ⟨_, by rw [List.length_set]; exact hown', ?_⟩
      cases dp with
      | false =>
        simp only at hin ⊢
        have hk := hin.get (fun x c hk => K_len hk) hel
        have := hin.set (fun x c hk => K_len hk) i hi (setV_K hk hs hcu).2
        exact this.imp fun x c hk => K_oks hok hk
      | true =>
        simp only at hin ⊢
        refine ⟨?_, hin.2⟩
        obtain ⟨B1, b, B2, hB, hM, hset⟩ := Ms_set (fun x c b hm => M_len hm) hin.1 hel
        have := hset v _ b (setV_M hM hs hcu)
        rw [← hB] at this
        refine this.imp fun x c b hbs hm => M_step hm fun k hk => setRow_other w g k _ fun e => ?_
        exact nst_top H hb hob (e ▸ hbs k hk))
  refine ⟨by rw [put_defers]; exact hd, m, hh.1, ?_⟩
  rw [hdst]
  exact env_mono hh.2.1 hh.2.2 he

/-! ### a new row -/
theorem zeros_of_dflt : ∀ {t : Ty} (w : World) (ok : Nat → Prop), K w ok t (dflt t) (zvals t)
  | .int _, w, ok => by rw [K]; rfl
  | .bool, w, ok => by rw [K]; rfl
  | .str, w, ok => by rw [K]; rfl
  | .hdr, w, ok => by rw [K]; exact ⟨rfl, rfl⟩
  | .slice _ _, w, ok => by rw [K]; exact ⟨none, 0, rfl, Nat.le_refl _, fun i x hx => by simp [dflt] at hx⟩
  | .pair a b, w, ok => by rw [K]; exact ⟨_, _, rfl, zeros_of_dflt w ok, zeros_of_dflt w ok⟩
theorem zeros_M : ∀ {t : Ty} (w : World), M w t (dflt t) (zvals t) []
  | .int _, w => by rw [M]; exact ⟨rfl, rfl⟩
  | .bool, w => by rw [M]; exact ⟨rfl, rfl⟩
  | .str, w => by rw [M]; exact ⟨rfl, rfl⟩
  | .hdr, w => by rw [M]; exact ⟨⟨rfl, rfl⟩, rfl⟩
  | .slice e t, w => by rw [M]; exact ⟨.slice none 0 0, [], [], rfl, by simp [Value.ownBlock], World.ownsRow_nil w 0 e t.sz, rfl, rfl⟩
  | .pair a b, w => by rw [M]; exact ⟨_, _, [], [], rfl, rfl, zeros_M w, zeros_M w⟩

theorem zvals_len : ∀ t : Ty, (zvals t).length = t.sz
  | .int _ | .bool | .str | .hdr | .slice _ _ => by simp [zvals, Ty.sz]
  | .pair a b => by simp [zvals, Ty.sz, zvals_len a, zvals_len b]

theorem madeCells_zeros {z : Array Value} {t : Ty} (hz : z.toList = zvals t) : ∀ n : Nat, (madeCells z (n * t.sz)).toList = (List.replicate n (zvals t)).flatten := by
  intro n
  have hzs : z.size = t.sz := by have := congrArg List.length hz; simpa [zvals_len] using this
  have hp := t.sz_pos
  apply List.ext_getElem?
  intro j
  have hl : ((List.replicate n (zvals t)).flatten).length = n * t.sz := by simp [zvals_len]
  by_cases hj : j < n * t.sz
  · have h1 : (madeCells z (n * t.sz)).toList[j]? = some (z[j % z.size]!) := by simp [madeCells, hj]
    rw [h1]
    have hm : j % t.sz < t.sz := Nat.mod_lt _ hp
    have h2 : ((List.replicate n (zvals t)).flatten)[j]? = (zvals t)[j % t.sz]? := by
      clear h1 hl
      induction n generalizing j with
      | zero => simp at hj
      | succ n ih =>
        rw [List.replicate_succ, List.flatten_cons]
        by_cases hlt : j < t.sz
        · rw [List.getElem?_append_left (by rw [zvals_len]; exact hlt), Nat.mod_eq_of_lt hlt]
        · rw [List.getElem?_append_right (by rw [zvals_len]; omega), zvals_len, ih (j - t.sz) (by rw [Nat.succ_mul] at hj; omega) (Nat.mod_lt _ hp)]
          rw [← Nat.mod_eq_sub_mod (by omega)]
    rw [h2, hzs, ← hz]
    have : j % t.sz < z.size := by omega
    simp [this]
  · have hl2 : (madeCells z (n * t.sz)).toList.length = n * t.sz := by simp [size_madeCells]
    rw [List.getElem?_eq_none (by rw [hl2]; omega), List.getElem?_eq_none (by rw [hl]; omega)]

theorem Ms_replicate {α : Type} {T : α → List Value → List Nat → Prop} {x : α} {c : List Value} (h : T x c []) : ∀ n : Nat, Ms T (List.replicate n x) ((List.replicate n c).flatten) []
  | 0 => ⟨rfl, rfl⟩
  | n + 1 => ⟨c, _, [], [], by simp [List.replicate_succ], rfl, h, Ms_replicate h n⟩

theorem los_le (h : List Blk) : ∀ (ids : List Nat) (n : Nat), los h n ids ≤ n
  | [], n => Nat.le_refl _
  | i :: r, n => by
    simp only [los, List.foldl_cons]
    exact Nat.le_trans (los_le h r _) (Nat.min_le_left _ _)
theorem los_mem (h : List Blk) : ∀ (ids : List Nat) (n i : Nat), i ∈ ids → los h n ids ≤ lo h i
  | j :: r, n, i, hi => by
    simp only [los, List.foldl_cons]
    rcases List.mem_cons.1 hi with rfl | hi
    · exact Nat.le_trans (los_le h r _) (Nat.min_le_right _ _)
    · exact los_mem h r _ i hi

/-- A new row, its cells already there. -/
theorem HR.newRow {m : Mp} {h h1 : List Blk} {w' : World} (H : HR w0 mine w m h) (hw : Weakers h h1) {e : Nat} {t : Ty} {xs : List (Val t)} {dp mt : Bool} {n : Nat} {v : Value} {inner : List Value} {B : List Nat}
    (hfr : Fr (fun _ => False) w w') (hown : w'.ownsRow 0 e t.sz v xs.length inner) (hfresh : ∀ b, v.ownBlock = some b → w.heap.size ≤ b)
    (hB : ∀ b ∈ B, b < w.heap.size ∧ (w0.heap.size ≤ b ∨ mine.own b) ∧ ∀ i y, h1[i]? = some y → b ∉ fpB m i y) (hnd : B.Nodup)
    (hokB : dp = true → ∀ k b, okAt m h k b → k ≤ n → b ∉ B) (hn : dp = true → n ≤ h.length) (hnB : dp = false → B = [])
    (hin : Oks w w' m (m.row h.length v B) h (h1 ++ [.row e t xs dp mt n]) → match dp with
      | true => Ms (M w' t) xs inner B
      | false => Ks (K w' (okAt (m.row h.length v B) (h1 ++ [.row e t xs dp mt n]) n) t) xs inner) :
    HR w0 mine w' (m.row h.length v B) (h1 ++ [.row e t xs dp mt n]) ∧ Oks w w' m (m.row h.length v B) h (h1 ++ [.row e t xs dp mt n]) ∧ Sims m (m.row h.length v B) h (h1 ++ [.row e t xs dp mt n]) := by
  have hh := H.new hw (w' := w') (m' := m.row h.length v B) (.row e t xs dp mt n) hfr (fun i hi => by simp [Mp.row]; intro e; omega) (fun i _ => rfl) (fun i hi => by simp [Mp.row]; intro e; omega) rfl
    (fun k b hk hlt => by
      refine ⟨fun _ hob => ?_, fun hdp hle => ?_⟩
      · simp only [Mp.row, if_true] at hob
        have := hfresh b hob
        omega
      · simp only [Mp.row, if_true]
        exact hokB hdp k b hk hle)
    (fun ho hs => by
      refine ⟨inner, by simp only [Mp.row, if_true]; exact hown, ?_⟩
      have := hin ho
      cases dp with
      | true => simp only [Mp.row, if_true]; exact ⟨this, hn rfl⟩
      | false => exact this)
    (by
      simp only [fpB, Mp.row, if_true]
      rw [List.nodup_append]
      refine ⟨by cases v.ownBlock <;> simp, by cases dp <;> simp [hnd], fun x hx y hy e => ?_⟩
      have h1 := hfresh x (by simpa using hx)
      cases dp with
      | false => simp at hy
      | true => have := (hB y hy).1; omega)
    (fun b hb => by
      simp only [fpB, Mp.row, if_true] at hb
      rcases List.mem_append.1 hb with hb | hb
      · have hob : v.ownBlock = some b := by simpa using hb
        have h1 := hfresh b hob
        refine ⟨(hown.lt b hob).2, .inl (Nat.le_trans H.fr.size h1), fun i y hy hm => ?_⟩
        have := ((H.weaker hw).1.lt i y hy b hm).1
        omega
      · cases dp with
        | false => simp at hb
        | true =>
          obtain ⟨h1, h2, h3⟩ := hB b hb
          exact ⟨Nat.lt_of_lt_of_le h1 hfr.size, h2, h3⟩)
  exact hh
end
end Go.T
/- T: what is handed on; makes, literals, appends. -/
namespace Go.T
open Go

theorem nodupB_iff : ∀ {l : List Nat}, nodupB l = true → l.Nodup
  | [], _ => List.nodup_nil
  | x :: r, h => by
    simp only [nodupB, Bool.and_eq_true, Bool.not_eq_true'] at h
    refine List.nodup_cons.2 ⟨fun hm => ?_, nodupB_iff h.2⟩
    have := h.1
    simp at this
    exact this hm

theorem kill_len (h : List Blk) (ids : List Nat) : (kill h ids).length = h.length := (Weakers.kill h ids).1
theorem kill_get : ∀ (ids : List Nat) (h : List Blk) (i : Nat) (y : Blk), (kill h ids)[i]? = some y → (i ∈ ids ∧ y = .dead) ∨ (i ∉ ids ∧ h[i]? = some y)
  | [], h, i, y, hy => .inr ⟨by simp, hy⟩
  | j :: r, h, i, y, hy => by
    have hy' : (kill (h.set j .dead) r)[i]? = some y := hy
    rcases kill_get r (h.set j .dead) i y hy' with ⟨hm, rfl⟩ | ⟨hm, hg⟩
    · exact .inl ⟨List.mem_cons_of_mem _ hm, rfl⟩
    · by_cases e : j = i
      · subst e
        have hl : j < h.length := by
          have := (List.getElem?_eq_some_iff.1 hg).1
          simpa using this
        rw [List.getElem?_set_self hl] at hg
        cases hg
        exact .inl ⟨List.mem_cons_self, rfl⟩
      · rw [List.getElem?_set_ne e] at hg
        exact .inr ⟨fun hm' => by rcases List.mem_cons.1 hm' with rfl | hm'; exact e rfl; exact hm hm', hg⟩

section
variable {w0 w : World} {mine : Mine} {m : Mp} {h : List Blk}

theorem fpIds_mem {ids : List Nat} {b : Nat} (hb : b ∈ fpIds m h ids) : ∃ id x, id ∈ ids ∧ h[id]? = some x ∧ b ∈ fpB m id x := by
  simp only [fpIds, List.mem_flatMap] at hb
  obtain ⟨id, hid, hb⟩ := hb
  cases hx : h[id]? with
  | none => simp [hx] at hb
  | some x => rw [hx] at hb; exact ⟨id, x, hid, hx, hb⟩
theorem fpIds_nodup (H : HR w0 mine w m h) : ∀ {ids : List Nat}, ids.Nodup → (fpIds m h ids).Nodup
  | [], _ => List.nodup_nil
  | i :: r, hn => by
    obtain ⟨h1, h2⟩ := List.nodup_cons.1 hn
    have e : fpIds m h (i :: r) = fpIds m h [i] ++ fpIds m h r := by rw [← fpIds_append]; rfl
    rw [e, List.nodup_append]
    refine ⟨?_, fpIds_nodup H h2, fun x hx y hy e => ?_⟩
    · simp only [fpIds, List.flatMap_cons, List.flatMap_nil, List.append_nil]
      cases hx : h[i]? with
      | none => exact List.nodup_nil
      | some x => exact H.nd i x hx
    · subst e
      obtain ⟨id1, x1, hi1, hx1, hb1⟩ := fpIds_mem hx
      obtain ⟨id2, x2, hi2, hx2, hb2⟩ := fpIds_mem hy
      simp at hi1
      subst hi1
      exact H.dj id1 x1 id2 x2 (fun e => h1 (e ▸ hi2)) hx1 hx2 x hb1 hb2
theorem fpIds_lt (H : HR w0 mine w m h) {ids : List Nat} {b : Nat} (hb : b ∈ fpIds m h ids) : b < w.heap.size ∧ (w0.heap.size ≤ b ∨ mine.own b) ∧ ∀ i y, (kill h ids)[i]? = some y → b ∉ fpB m i y := by
  obtain ⟨id, x, hid, hx, hb⟩ := fpIds_mem hb
  refine ⟨(H.lt id x hx b hb).1, (H.lt id x hx b hb).2, fun i y hy hm => ?_⟩
  rcases kill_get ids h i y hy with ⟨_, rfl⟩ | ⟨hni, hy'⟩
  · simp [fpB] at hm
  · exact H.dj id x i y (fun e => hni (e ▸ hid)) hx hy' b hb hm
theorem fpIds_ok {ids : List Nat} {n k b : Nat} (hk : okAt m h k b) (hle : k ≤ los h n ids) : b ∉ fpIds m h ids := by
  intro hb
  obtain ⟨id, x, hid, hx, hb⟩ := fpIds_mem hb
  have h1 := Nat.le_trans hle (los_mem h ids n id hid)
  have hko := hk.2 id x hx
  cases x with
  | dead => simp [fpB] at hb
  | box cs => simp [fpB] at hb; exact hko hb
  | fra F Φ => exact hko hb
  | row e t xs dp mt k' =>
    simp only [fpB] at hb
    have hlid : lo h id ≤ id := by
      simp only [lo, hx]
      cases dp with
      | true => exact Nat.min_le_left _ _
      | false => exact Nat.le_refl _
    rcases List.mem_append.1 hb with hb | hb
    · exact hko.1 (.inr (by omega)) (by simpa using hb)
    · cases dp with
      | false => simp at hb
      | true =>
        have hl2 : lo h id ≤ k' := by simp only [lo, hx]; exact Nat.min_le_right _ _
        exact hko.2 rfl (by omega) hb
theorem los_lt {ids : List Nat} : los h h.length ids ≤ h.length := los_le h ids _
end

/-! ### the machine's literals -/
theorem foldl_put : ∀ (vs : List Value) (j off : Nat) (cur : Array Value), off + j + vs.length ≤ cur.size →
    ((vs.zipIdx j).foldl (fun (cs : Array Value) p => cs.setIfInBounds (off + p.2) p.1) cur).toList = cur.toList.take (off + j) ++ vs ++ cur.toList.drop (off + j + vs.length)
  | [], j, off, cur, _ => by simp
  | v :: r, j, off, cur, hl => by
    simp only [List.length_cons] at hl
    rw [List.zipIdx_cons, List.foldl_cons, foldl_put r (j + 1) off _ (by simp; omega)]
    have e := list_seg_step cur.toList (off + j) v r (by simp; omega)
    simp only [Array.toList_setIfInBounds]
    rw [show off + (j + 1) = off + j + 1 by omega]
    simpa [Nat.add_assoc, Nat.add_comm, Nat.add_left_comm] using e
end Go.T
/- T: makes and literals. -/
namespace Go.T
open Go

/-- Parts one behind the other. -/
theorem fill_range (sz : Nat) : ∀ (ps : List (Nat × Value)) (k : Nat) (cur : Array Value), ps.map (·.1) = (List.range ps.length).map (k + ·) → (∀ p ∈ ps, p.2.cells.size = sz) → (k + ps.length) * sz ≤ cur.size →
    ∃ res, Instr.fill (fun i => some (i * sz, sz)) cur ps = some res ∧ res.toList = cur.toList.take (k * sz) ++ (ps.map fun p => p.2.cells.toList).flatten ++ cur.toList.drop ((k + ps.length) * sz)
  | [], k, cur, _, _, _ => ⟨cur, rfl, by simp⟩
  | (i, v) :: r, k, cur, hi, hs, hl => by
    simp only [List.length_cons, List.range_succ_eq_map, List.map_cons, List.map_map, List.cons.injEq] at hi
    obtain ⟨hik, hi⟩ := hi
    have hki : k = i := by rw [hik]; rfl
    subst hki
    clear hik
    have hv : v.cells.size = sz := hs (k, v) (by simp)
    have hksz : k * sz + sz ≤ cur.size := by
      have : (k + 1) * sz ≤ (k + (r.length + 1)) * sz := Nat.mul_le_mul_right _ (by omega)
      rw [Nat.succ_mul] at this
      simp only [List.length_cons] at hl
      omega
    have hvl : v.cells.toList.length = sz := by simpa using hv
    have hput := foldl_put v.cells.toList 0 (k * sz) cur (by omega)
    simp only [Nat.add_zero] at hput
    have hsz' : (v.cells.zipIdx.foldl (fun (cs : Array Value) (p : Value × Nat) => cs.setIfInBounds (k * sz + p.2) p.1) cur).toList = cur.toList.take (k * sz) ++ v.cells.toList ++ cur.toList.drop (k * sz + sz) := by
      rw [hvl] at hput
      rw [← hput, ← Array.foldl_toList, Array.toList_zipIdx]
    generalize hc2 : v.cells.zipIdx.foldl (fun (cs : Array Value) (p : Value × Nat) => cs.setIfInBounds (k * sz + p.2) p.1) cur = c2 at hsz'
    have hc2l : c2.size = cur.size := by
      have := congrArg List.length hsz'
      simp at this
      omega
    obtain ⟨res, hr, hres⟩ := fill_range sz r (k + 1) c2 (by
      rw [hi]; apply List.map_congr_left; intro a _; simp; omega) (fun p hp => hs p (List.mem_cons_of_mem _ hp)) (by rw [hc2l]; simp only [List.length_cons] at hl; rw [show k + 1 + r.length = k + (r.length + 1) by omega]; exact hl)
    refine ⟨res, ?_, ?_⟩
    · have h1 : ¬ (k * sz + v.cells.size > cur.size) := by omega
      have hc2' : v.cells.zipIdx.foldl (fun (cs : Array Value) (x : Value × Nat) => match x with | (c, j) => cs.setIfInBounds (k * sz + j) c) cur = c2 := hc2
      simp only [Instr.fill]
      rw [if_neg (by simp [hv]; omega), hc2']
      exact hr
    · rw [hres, hsz']
      simp only [List.length_cons, List.map_cons, List.flatten_cons]
      have e1 : (k + 1) * sz = k * sz + sz := Nat.succ_mul _ _
      have l1 : (cur.toList.take (k * sz) ++ v.cells.toList).length = k * sz + sz := by simp; omega
      have hge : (k + 1 + r.length) * sz = k * sz + sz + r.length * sz := by rw [Nat.add_mul, e1]
      rw [e1, hge, List.take_append_of_le_length (by omega), List.take_of_length_le (by omega), List.drop_append, List.drop_eq_nil_of_le (by omega), l1, List.nil_append, List.drop_drop]
      have : k * sz + sz + (k * sz + sz + r.length * sz - (k * sz + sz)) = (k + (r.length + 1)) * sz := by
        rw [show k + (r.length + 1) = k + 1 + r.length by omega, hge]; omega
      rw [this]
      simp

section
variable {P : Program} {tt : TT} {o : Oper} {a : Act} {w0 w : World} {mine : Mine} {st : St} {next : Act → World → Prop} {Q : Exit → Act → World → Prop}

theorem R.newedW {m m' : Mp} {w' : World} {h1 : List Blk} {x : Blk} (hd : a.defers = []) (he : F2 (V w m st.heap) st.env a.tmps.toList) (hh : HR w0 mine w' m' (h1 ++ [x]) ∧ Oks w w' m m' st.heap (h1 ++ [x]) ∧ Sims m m' st.heap (h1 ++ [x]))
    (d : Option Tmp) {c : LC} {v : Value} (hv : C w' m' (h1 ++ [x]) c v) : R w0 mine { (st.put d (.one c)) with heap := h1 ++ [x] } (a.put d v) w' := by
  refine ⟨by rw [put_defers]; exact hd, m', hh.1, ?_⟩
  show F2 (V w' m' (h1 ++ [x])) (st.put d (.one c)).env _
  rw [St.put_env]
  exact env_put (env_mono hh.2.1 hh.2.2 he) d (l := .one c) hv

theorem own_new {w' : World} {m : Mp} {h h1 : List Blk} (hl : h1.length = h.length) {e : Nat} {t : Ty} {xs : List (Val t)} {dp mt : Bool} {n : Nat} {v : Value} {B : List Nat} : C w' (m.row h.length v B) (h1 ++ [.row e t xs dp mt n]) (.own h.length) v := by
  have : (h1 ++ [.row e t xs dp mt n])[h.length]? = some (.row e t xs dp mt n) := by rw [← hl]; simp
  simp only [C, this, Mp.row, if_true]

theorem snd_makeSlice (hT : TTok P tt) {t : Nat} {ti : TI} (ht : tt.get t = some ti) {l c : Operand} (ho : o.op = .makeSlice t l c) {e : Nat} {te : Ty} (hag : ti.agg = false) (hty : ti.ty = .slice e te) {k k' : IntKind} {n cp : Int}
    (el : st.ev l = .one (.int k n)) (ec : st.ev c = .one (.int k' cp)) (h0 : 0 ≤ n) (hnc : n ≤ cp) (hc : cp ≤ 1048576) (hr : R w0 mine st a w)
    (hn : ∀ a' w', R w0 mine (st.new o.dst (.row e te (List.replicate n.toNat (dflt te)) true true st.heap.length) (.own st.heap.length)) a' w' → next a' w') : o.wp P a w next Q := by
  obtain ⟨hd, m, H, he⟩ := hr
  have hti := hT t ti ht
  have hl := R.ev H he l
  have hcv := R.ev H he c
  rw [el] at hl; rw [ec] at hcv
  have hlv : a.eval l = .int k n := hl
  have hcv : a.eval c = .int k' cp := hcv
  obtain ⟨hu, tie, hte, htt⟩ := hti.slc hag e te hty
  obtain ⟨i, z, hi, hs, hz, hzc, hby⟩ := (hT e tie hte).info
  rw [htt] at hs hzc
  have hrun := run_make (P := P) w t e i z hu hi hz k k' n cp h0 hnc (by
    have h1 : (i.bytes : Int) * cp ≤ 65536 * 1048576 := by
      have hb : (i.bytes : Int) ≤ 65536 := by omega
      exact Int.le_trans (Int.mul_le_mul_of_nonneg_right hb (by omega)) (Int.mul_le_mul_of_nonneg_left hc (by omega))
    omega) (by omega)
  refine wp_val (v := .slice (some ⟨w.heap.size, 0, none⟩) n.toNat cp.toNat) (w' := w.alloc (.cells (madeCells z.cells (cp.toNat * i.size)) e)) (by simp only [execOp, ho, hlv, hcv]; rw [Sem.run_bind, hrun]; rfl) (hn _ _ ?_)
  have hzl : (madeCells z.cells (cp.toNat * i.size)).toList = (List.replicate cp.toNat (zvals te)).flatten := by rw [hs]; exact madeCells_zeros hzc _
  have hown : (w.alloc (.cells (madeCells z.cells (cp.toNat * i.size)) e)).ownsRow 0 e te.sz (.slice (some ⟨w.heap.size, 0, none⟩) n.toNat cp.toNat) (List.replicate n.toNat (dflt te)).length (List.replicate n.toNat (zvals te)).flatten := by
    rw [List.length_replicate]
    refine ⟨by simp [zvals_len], .inr ⟨w.heap.size, cp.toNat, _, rfl, Nat.zero_le _, heap_alloc_new w _, by omega, by simp only [maxLen]; omega, by rw [size_madeCells, hs], ?_⟩⟩
    rw [hzl, show cp.toNat = n.toNat + (cp.toNat - n.toNat) by omega, ← List.replicate_append_replicate, List.flatten_append, List.take_left' (by simp [zvals_len])]
  exact R.newedW hd he (HR.newRow H (Weakers.refl _) (dp := true) (mt := true) (n := st.heap.length) (B := []) (Fr_alloc w _ _) hown (fun b hb => by simp [Value.ownBlock] at hb; omega) (by simp) List.nodup_nil (by simp) (fun _ => Nat.le_refl _) (fun h => by simp at h) (fun _ => Ms_replicate (zeros_M _) _)) _ (own_new rfl)
end
end Go.T
/- T: literals of slices, appends. -/
namespace Go.T
open Go

section
variable {w0 w w' : World} {mine : Mine} {m m' : Mp} {h h' : List Blk}

theorem okAt_top (hk : ∀ (id e : Nat) (t : Ty) (xs : List (Val t)) (mt : Bool) (k : Nat), h[id]? = some (Blk.row e t xs true mt k) → k ≤ id) {n b : Nat} (hb : okAt m h n b) : okAt m h h.length b := by
  refine ⟨hb.1, ?_⟩
  intro id x hx
  have hl := (List.getElem?_eq_some_iff.1 hx).1
  have h0 := hb.2 id x hx
  cases x with
  | box => exact h0
  | fra => exact h0
  | dead => trivial
  | row e t xs dp mt k =>
    refine ⟨fun hh => h0.1 ?_, fun hd hle => ?_⟩
    · rcases hh with hh | hh
      · exact .inl hh
      · omega
    · subst hd
      have := hk id e t xs mt k hx
      omega
theorem HR.lo_le (H : HR w0 mine w m h) : ∀ (id e : Nat) (t : Ty) (xs : List (Val t)) (mt : Bool) (k : Nat), h[id]? = some (Blk.row e t xs true mt k) → k ≤ id := fun id e t xs mt k hx => by
  obtain ⟨_, _, _, hk⟩ := H.br id _ hx
  exact hk

/-- Given-up rows' blocks are nobody's. -/
theorem killed_ok (H : HR w0 mine w m h) {ids : List Nat} {b : Nat} (hb : b ∈ fpIds m h ids) (n : Nat) : okAt m (kill h ids) n b := by
  refine ⟨by rw [H.mx]; exact H.nx b (fpIds_lt H hb).2.1, ?_⟩
  intro i y hy
  have hf := (fpIds_lt H hb).2.2 i y hy
  cases y with
  | dead => trivial
  | fra F Φ => exact hf
  | box cs => show b ≠ m.blk i; simpa [fpB] using hf
  | row e t xs dp mt k =>
    simp only [fpB, List.mem_append, not_or] at hf
    refine ⟨fun _ hob => hf.1 (by simp [hob]), fun hd _ hm => ?_⟩
    subst hd
    exact hf.2 hm

def FF (R : LC → Value → Prop) : List (List LC) → List (List Value) → Prop := F2 (F2 R)

theorem flatten_F2 {R : LC → Value → Prop} {css : List (List LC)} {vss : List (List Value)} (hf : F2 (F2 R) css vss) : F2 R css.flatten vss.flatten := by
  induction hf with
  | nil => exact .nil
  | cons h _ ih => simpa using h.append ih

theorem implodes_K {ok : Nat → Prop} (H : ∀ id x, h[id]? = some x → BR w m h id x) {t : Ty} : ∀ {css : List (List LC)} {vss : List (List Value)} {xs : List (Val t)}, F2 (F2 (C w m h)) css vss → implodes h t css = some xs → (∀ c ∈ css.flatten, okC w m h ok c) →
    Ks (K w ok t) xs vss.flatten ∧ xs.length = css.length ∧ ∀ vs ∈ vss, vs.length = t.sz
  | [], _, xs, .nil, hi, _ => by simp [implodes] at hi; subst hi; exact ⟨rfl, rfl, by simp⟩
  | cs :: css, _, xs, .cons (b := vs) (bs := vss) hc hcs, hi, hok => by
    simp only [implodes] at hi
    split at hi
    · rename_i v hv
      split at hi
      · rename_i vs' hvs
        cases hi
        obtain ⟨v1, v2, rfl, hk, hr, _⟩ := implode_K H hc hv (fun c hc => hok c (by simp [hc]))
        cases hr
        obtain ⟨h1, h2, h3⟩ := implodes_K H hcs hvs (fun c hc => hok c (by simp only [List.flatten_cons, List.mem_append]; exact .inr hc))
        refine ⟨⟨v1, vss.flatten, by simp, hk, h1⟩, by simp [h2], fun vs hm => ?_⟩
        rcases List.mem_cons.1 hm with rfl | hm
        · simpa using K_len hk
        · exact h3 vs hm
      · simp at hi
    · simp at hi

theorem implodes_M (H : ∀ id x, h[id]? = some x → BR w m h id x) {t : Ty} : ∀ {css : List (List LC)} {vss : List (List Value)} {xs : List (Val t)}, F2 (F2 (C w m h)) css vss → implodes h t css = some xs → deepOf h css.flatten = true →
    Ms (M w t) xs vss.flatten (fpIds m h (moved css.flatten))
  | [], _, xs, .nil, hi, _ => by simp [implodes] at hi; subst hi; exact ⟨rfl, rfl⟩
  | cs :: css, _, xs, .cons (b := vs) (bs := vss) hc hcs, hi, hd => by
    simp only [List.flatten_cons, deepOf, List.all_append, Bool.and_eq_true] at hd
    simp only [implodes] at hi
    split at hi
    · rename_i v hv
      split at hi
      · rename_i vs' hvs
        cases hi
        obtain ⟨v1, v2, pre, rfl, hpre, hm, hr⟩ := implode_M H hc hv hd.1
        cases hr
        rw [List.append_nil] at hpre
        subst hpre
        refine ⟨v1, vss.flatten, _, _, by simp, ?_, hm, implodes_M H hcs hvs hd.2⟩
        rw [List.flatten_cons, moved_append, fpIds_append]
      · simp at hi
    · simp at hi

/-- What cells lead to is ok for a new row behind them. -/
theorem okC_new (H : HR w0 mine w m h) {ids : List Nat} {x : Blk} (hm : ∀ i, i < h.length → m'.val i = m.val i ∧ m'.blk i = m.blk i ∧ m'.nst i = m.nst i) (hext : m'.ext = m.ext) (hx : ∀ n b, b < w.heap.size → okB m' n b h.length x) (hxd : ∀ (e : Nat) (t : Ty) (xs : List (Val t)) (mt : Bool) (k : Nat), x ≠ Blk.row e t xs true mt k)
    (hok : Oks w w' m m' h (kill h ids ++ [x])) {c : LC} (hc : ∀ id, c = .own id → id ∈ ids) : okC w m h (okAt m' (kill h ids ++ [x]) (h.length + 1)) c := by
  have hlen : (kill h ids ++ [x]).length = h.length + 1 := by simp [kill_len]
  have hlo : ∀ (id e : Nat) (t : Ty) (xs : List (Val t)) (mt : Bool) (k : Nat), (kill h ids ++ [x])[id]? = some (Blk.row e t xs true mt k) → k ≤ id := by
    intro id e t xs mt k hy
    by_cases hl : id < (kill h ids).length
    · rw [List.getElem?_append_left hl] at hy
      rcases kill_get ids h id _ hy with ⟨_, h0⟩ | ⟨_, h0⟩
      · simp at h0
      · exact H.lo_le id e t xs mt k h0
    · rw [List.getElem?_append_right (by omega)] at hy
      have : id - (kill h ids).length = 0 := by
        rcases Nat.eq_zero_or_pos (id - (kill h ids).length) with h0 | h0
        · exact h0
        · rw [List.getElem?_eq_none (by simp; omega)] at hy; cases hy
      rw [this] at hy
      simp at hy
      exact absurd hy (hxd e t xs mt k)
  have top : ∀ n b, okAt m h n b → b < w.heap.size → okAt m' (kill h ids ++ [x]) (h.length + 1) b := fun n b hb hlt => by
    have := okAt_top hlo (hok n b hb hlt).2
    rwa [hlen] at this
  cases c with
  | sl e t xs n => exact fun b hb hlt => top n b hb hlt
  | own id =>
    intro y hy
    have hid := hc id rfl
    refine ⟨fun b hb => ?_, ?_⟩
    · have hbi : b ∈ fpIds m h ids := by
        simp only [fpIds, List.mem_flatMap]
        exact ⟨id, hid, by rw [hy]; exact hb⟩
      have hlt := (H.lt id y hy b hb).1
      refine ⟨by rw [hext]; exact (killed_ok H hbi 0).1, ?_⟩
      intro i z hz
      by_cases hl : i < (kill h ids).length
      · rw [List.getElem?_append_left hl] at hz
        obtain ⟨e1, e2, e3⟩ := hm i (by rw [kill_len] at hl; exact hl)
        have := (killed_ok H hbi (h.length + 1)).2 i z hz
        cases z <;> simp_all [okB]
      · rw [List.getElem?_append_right (by omega)] at hz
        have h0 : i - (kill h ids).length = 0 := by
          rcases Nat.eq_zero_or_pos (i - (kill h ids).length) with h0 | h0
          · exact h0
          · rw [List.getElem?_eq_none (by simp; omega)] at hz; cases hz
        rw [h0] at hz
        simp at hz
        subst hz
        have : i = h.length := by rw [kill_len] at hl h0; omega
        subst this
        exact hx _ b hlt
    · cases y with
      | row e t xs dp mt n =>
        cases dp with
        | true => trivial
        | false => exact fun b hb hlt => top n b hb hlt
      | _ => trivial
  | _ => trivial
end
end Go.T
/- T: rows that take over a block; literals of slices. -/
namespace Go.T
open Go

section
variable {w0 w w' : World} {mine : Mine} {m m' : Mp} {h : List Blk}
theorem HR.newA {h1 : List Blk} {A : Nat → Prop} (H : HR w0 mine w m h) (hw : Weakers h h1) (x : Blk) (hfr : Fr A w w') (hA1 : ∀ k, A k → ∃ id x, h[id]? = some x ∧ k ∈ fpB m id x) (hA2 : ∀ k, A k → ∀ id y, h1[id]? = some y → k ∉ fpB m id y) (hA3 : ∀ k, A k → ∀ n b, okAt m h n b → b ≠ k)
    (hval : ∀ i, i < h.length → m'.val i = m.val i) (hblk : ∀ i, i < h.length → m'.blk i = m.blk i) (hnst : ∀ i, i < h.length → m'.nst i = m.nst i) (hext : m'.ext = m.ext)
    (hokx : ∀ n b, okAt m h n b → b < w.heap.size → okB m' n b h.length x)
    (hbr : Oks w w' m m' h (h1 ++ [x]) → Sims m m' h (h1 ++ [x]) → BR w' m' (h1 ++ [x]) h.length x)
    (hnd : (fpB m' h.length x).Nodup)
    (hlt : ∀ b ∈ fpB m' h.length x, b < w'.heap.size ∧ (w0.heap.size ≤ b ∨ mine.own b) ∧ ∀ id y, h1[id]? = some y → b ∉ fpB m id y) :
    HR w0 mine w' m' (h1 ++ [x]) ∧ Oks w w' m m' h (h1 ++ [x]) ∧ Sims m m' h (h1 ++ [x]) := by
  obtain ⟨H1, hok1, hs1⟩ := H.weaker hw
  have hl1 := hw.1
  have get : ∀ id y, (h1 ++ [x])[id]? = some y → (id < h.length ∧ h1[id]? = some y) ∨ (id = h.length ∧ y = x) := fun id y hy => by
    by_cases hl : id < h1.length
    · rw [List.getElem?_append_left hl] at hy; exact .inl ⟨by omega, hy⟩
    · rw [List.getElem?_append_right (by omega)] at hy
      have : id - h1.length = 0 := by
        rcases Nat.eq_zero_or_pos (id - h1.length) with h0 | h0
        · exact h0
        · rw [List.getElem?_eq_none (by simp; omega)] at hy; cases hy
      rw [this] at hy
      simp at hy
      exact .inr ⟨by omega, hy.symm⟩
  have okB_eq : ∀ n b id y, id < h.length → (okB m' n b id y ↔ okB m n b id y) := fun n b id y hl => by
    cases y <;> simp [okB, hval id hl, hblk id hl, hnst id hl]
  have fpB_eq : ∀ id y, id < h.length → fpB m' id y = fpB m id y := fun id y hl => by
    cases y <;> simp [fpB, hval id hl, hblk id hl, hnst id hl]
  have hok : Oks w w' m m' h (h1 ++ [x]) := fun n b hb hl => ⟨hfr.block b hl (fun hA => hA3 b hA n b hb rfl), by rw [hext]; exact hb.1, fun id y hy => by
    rcases get id y hy with ⟨hl', hy'⟩ | ⟨rfl, rfl⟩
    · exact (okB_eq n b id y hl').2 ((hok1 n b hb hl).2.2 id y hy')
    · exact hokx n b hb hl⟩
  have hs : Sims m m' h (h1 ++ [x]) := fun id y hy => by
    have hl := (List.getElem?_eq_some_iff.1 hy).1
    obtain ⟨y1, hy1, hsm⟩ := hs1 id y hy
    refine ⟨y1, by rw [List.getElem?_append_left (by omega)]; exact hy1, ?_⟩
    cases y <;> cases y1 <;> simp_all [Sim]
  refine ⟨⟨fun id y hy => ?_, fun id y hy => ?_, fun id y1 id' y2 hne h1' h2' b hb hb' => ?_, fun id y hy b hb => ?_, ?_, hext.trans H.mx, H.nx, fun id v hp => by
    obtain ⟨h1, h2⟩ := H.pn id v hp
    exact ⟨by simp; omega, by rw [hval id h1]; exact h2⟩⟩, hok, hs⟩
  · rcases get id y hy with ⟨hl, hy'⟩ | ⟨rfl, rfl⟩
    · obtain ⟨y0, hy0, hwk⟩ : ∃ y0, h[id]? = some y0 ∧ Weaker y0 y := ⟨h[id], List.getElem?_eq_getElem hl, hw.2 id _ _ (List.getElem?_eq_getElem hl) hy'⟩
      exact BR_mono hok hs (hval id hl) (hblk id hl) (hnst id hl) (fun b hb => hfr.block b (H1.lt id y hy' b hb).1 (fun hA => hA2 b hA id y hy' hb)) (BR_weaker hwk (H.br id y0 hy0))
    · exact hbr hok hs
  · rcases get id y hy with ⟨hl, hy'⟩ | ⟨rfl, rfl⟩
    · rw [fpB_eq id y hl]; exact H1.nd id y hy'
    · exact hnd
  · rcases get id y1 h1' with ⟨hl1, hy1⟩ | ⟨rfl, rfl⟩ <;> rcases get id' y2 h2' with ⟨hl2, hy2⟩ | ⟨rfl, rfl⟩
    · rw [fpB_eq id y1 hl1] at hb; rw [fpB_eq id' y2 hl2] at hb'
      exact H1.dj id y1 id' y2 hne hy1 hy2 b hb hb'
    · rw [fpB_eq id y1 hl1] at hb
      exact (hlt b hb').2.2 id y1 hy1 hb
    · rw [fpB_eq id' y2 hl2] at hb'
      exact (hlt b hb).2.2 id' y2 hy2 hb'
    · exact hne rfl
  · rcases get id y hy with ⟨hl, hy'⟩ | ⟨rfl, rfl⟩
    · rw [fpB_eq id y hl] at hb
      have := H1.lt id y hy' b hb
      exact ⟨Nat.lt_of_lt_of_le this.1 hfr.size, this.2⟩
    · exact ⟨(hlt b hb).1, (hlt b hb).2.1⟩
  · exact hfr.lift H hA1


theorem HR.newRowA {m : Mp} {A : Nat → Prop} {h h1 : List Blk} {w' : World} (H : HR w0 mine w m h) (hw : Weakers h h1) {e : Nat} {t : Ty} {xs : List (Val t)} {dp mt : Bool} {n : Nat} {v : Value} {inner : List Value} {B : List Nat}
    (hfr : Fr A w w') (hA1 : ∀ k, A k → ∃ id x, h[id]? = some x ∧ k ∈ fpB m id x) (hA2 : ∀ k, A k → ∀ id y, h1[id]? = some y → k ∉ fpB m id y) (hA3 : ∀ k, A k → ∀ n b, okAt m h n b → b ≠ k) (hAB : ∀ k, A k → k ∉ B) (hown : w'.ownsRow 0 e t.sz v xs.length inner) (hfresh : ∀ b, v.ownBlock = some b → w.heap.size ≤ b ∨ A b)
    (hB : ∀ b ∈ B, b < w.heap.size ∧ (w0.heap.size ≤ b ∨ mine.own b) ∧ ∀ i y, h1[i]? = some y → b ∉ fpB m i y) (hnd : B.Nodup)
    (hokB : dp = true → ∀ k b, okAt m h k b → k ≤ n → b ∉ B) (hn : dp = true → n ≤ h.length) (hnB : dp = false → B = [])
    (hin : Oks w w' m (m.row h.length v B) h (h1 ++ [.row e t xs dp mt n]) → match dp with
      | true => Ms (M w' t) xs inner B
      | false => Ks (K w' (okAt (m.row h.length v B) (h1 ++ [.row e t xs dp mt n]) n) t) xs inner) :
    HR w0 mine w' (m.row h.length v B) (h1 ++ [.row e t xs dp mt n]) ∧ Oks w w' m (m.row h.length v B) h (h1 ++ [.row e t xs dp mt n]) ∧ Sims m (m.row h.length v B) h (h1 ++ [.row e t xs dp mt n]) := by
  have hh := H.newA hw (w' := w') (m' := m.row h.length v B) (.row e t xs dp mt n) hfr hA1 hA2 hA3 (fun i hi => by simp [Mp.row]; intro e; omega) (fun i _ => rfl) (fun i hi => by simp [Mp.row]; intro e; omega) rfl
    (fun k b hk hlt => by
      refine ⟨fun _ hob => ?_, fun hdp hle => ?_⟩
      · simp only [Mp.row, if_true] at hob
        rcases hfresh b hob with h1 | h1
        · omega
        · exact hA3 b h1 k b hk rfl
      · simp only [Mp.row, if_true]
        exact hokB hdp k b hk hle)
    (fun ho hs => by
      refine ⟨inner, by simp only [Mp.row, if_true]; exact hown, ?_⟩
      have := hin ho
      cases dp with
      | true => simp only [Mp.row, if_true]; exact ⟨this, hn rfl⟩
      | false => exact this)
    (by
      simp only [fpB, Mp.row, if_true]
      rw [List.nodup_append]
      refine ⟨by cases v.ownBlock <;> simp, by cases dp <;> simp [hnd], fun x hx y hy e => ?_⟩
      cases dp with
      | false => simp at hy
      | true =>
        have := (hB y hy).1
        rcases hfresh x (by simpa using hx) with h1 | h1
        · omega
        · subst e; exact hAB x h1 hy)
    (fun b hb => by
      simp only [fpB, Mp.row, if_true] at hb
      rcases List.mem_append.1 hb with hb | hb
      · have hob : v.ownBlock = some b := by simpa using hb
        rcases hfresh b hob with h1 | h1
        · refine ⟨(hown.lt b hob).2, .inl (Nat.le_trans H.fr.size h1), fun i y hy hm => ?_⟩
          have := ((H.weaker hw).1.lt i y hy b hm).1
          omega
        · obtain ⟨id, x, hx, hm⟩ := hA1 b h1
          exact ⟨(hown.lt b hob).2, (H.lt id x hx b hm).2, hA2 b h1⟩
      · cases dp with
        | false => simp at hb
        | true =>
          obtain ⟨h1, h2, h3⟩ := hB b hb
          exact ⟨Nat.lt_of_lt_of_le h1 hfr.size, h2, h3⟩)
  exact hh

/-- What was ok, is ok to the new row, with its number. -/
theorem ok_top {h : List Blk} {ids : List Nat} {x : Blk} (H : HR w0 mine w m h) (hxd : ∀ (e : Nat) (t : Ty) (xs : List (Val t)) (mt : Bool) (k : Nat), x = Blk.row e t xs true mt k → k ≤ h.length)
    (hok : Oks w w' m m' h (kill h ids ++ [x])) {n b : Nat} (hb : okAt m h n b) (hlt : b < w.heap.size) : okAt m' (kill h ids ++ [x]) (h.length + 1) b := by
  have hlen : (kill h ids ++ [x]).length = h.length + 1 := by simp [kill_len]
  have hlo : ∀ (id e : Nat) (t : Ty) (xs : List (Val t)) (mt : Bool) (k : Nat), (kill h ids ++ [x])[id]? = some (Blk.row e t xs true mt k) → k ≤ id := by
    intro id e t xs mt k hy
    by_cases hl : id < (kill h ids).length
    · rw [List.getElem?_append_left hl] at hy
      rcases kill_get ids h id _ hy with ⟨_, h0⟩ | ⟨_, h0⟩
      · simp at h0
      · exact H.lo_le id e t xs mt k h0
    · rw [List.getElem?_append_right (by omega)] at hy
      have : id - (kill h ids).length = 0 := by
        rcases Nat.eq_zero_or_pos (id - (kill h ids).length) with h0 | h0
        · exact h0
        · rw [List.getElem?_eq_none (by simp; omega)] at hy; cases hy
      rw [this] at hy
      simp at hy
      have := hxd e t xs mt k hy
      rw [kill_len] at hl
      omega
  have := okAt_top hlo (hok n b hb hlt).2
  rwa [hlen] at this
/-- What was a given-up row's, is ok to the new one. -/
theorem ok_killed {h : List Blk} {ids : List Nat} {x : Blk} (H : HR w0 mine w m h) (hm : ∀ i, i < h.length → m'.val i = m.val i ∧ m'.blk i = m.blk i ∧ m'.nst i = m.nst i) (hext : m'.ext = m.ext) {n b : Nat} (hb : b ∈ fpIds m h ids) (hx : okB m' n b h.length x) :
    okAt m' (kill h ids ++ [x]) n b := by
  refine ⟨by rw [hext]; exact (killed_ok H hb 0).1, ?_⟩
  intro i z hz
  by_cases hl : i < (kill h ids).length
  · rw [List.getElem?_append_left hl] at hz
    obtain ⟨e1, e2, e3⟩ := hm i (by rw [kill_len] at hl; exact hl)
    have := (killed_ok H hb n).2 i z hz
    cases z <;> simp_all [okB]
  · rw [List.getElem?_append_right (by omega)] at hz
    have h0 : i - (kill h ids).length = 0 := by
      rcases Nat.eq_zero_or_pos (i - (kill h ids).length) with h0 | h0
      · exact h0
      · rw [List.getElem?_eq_none (by simp; omega)] at hz; cases hz
    rw [h0] at hz
    simp at hz
    subst hz
    have : i = h.length := by rw [kill_len] at hl h0; omega
    subst this
    exact hx

theorem row_get {m : Mp} {h : List Blk} {v : Value} {B : List Nat} : ∀ i, i < h.length → (m.row h.length v B).val i = m.val i ∧ (m.row h.length v B).blk i = m.blk i ∧ (m.row h.length v B).nst i = m.nst i := fun i hi => by
  have : i ≠ h.length := by omega
  simp [Mp.row, this]

/-- Cells to the new row's use. -/
theorem okC_row {ids : List Nat} {e : Nat} {t : Ty} {xs : List (Val t)} {mt : Bool} {n : Nat} {v : Value} (H : HR w0 mine w m h) (hfresh : ∀ b, v.ownBlock = some b → w.heap.size ≤ b)
    (hok : Oks w w' m (m.row h.length v []) h (kill h ids ++ [.row e t xs false mt n])) {c : LC} (hc : ∀ id, c = .own id → id ∈ ids) : okC w m h (okAt (m.row h.length v []) (kill h ids ++ [.row e t xs false mt n]) (h.length + 1)) c := by
  have hx : ∀ n' b, b < w.heap.size → okB (m.row h.length v []) n' b h.length (.row e t xs false mt n) := fun k b hlt => by
    refine ⟨fun _ hob => ?_, fun hh => by simp at hh⟩
    simp only [Mp.row, if_true] at hob
    have := hfresh b hob
    omega
  exact okC_new (m' := m.row h.length v []) (x := .row e t xs false mt n) H row_get rfl hx (by simp) hok hc
theorem mem_moved {cs : List LC} {id : Nat} (h : LC.own id ∈ cs) : id ∈ moved cs := by
  simp only [moved, List.mem_filterMap]
  exact ⟨_, h, rfl⟩
end
end Go.T
/- T: literals of slices. -/
namespace Go.T
open Go

theorem implode_nil (h : List Blk) : ∀ t : Ty, implode h t [] = none
  | .int _ | .bool | .str | .hdr | .slice _ _ => by simp [implode]
  | .pair a b => by simp [implode, implode_nil h a]
theorem implodes_pos {h : List Blk} {t : Ty} : ∀ {css : List (List LC)} {xs : List (Val t)}, implodes h t css = some xs → ∀ cs ∈ css, 0 < cs.length
  | [], _, _ => by simp
  | cs :: css, xs, hi => by
    simp only [implodes] at hi
    split at hi
    · rename_i v hv
      split at hi
      · rename_i vs hvs
        intro c hc
        rcases List.mem_cons.1 hc with rfl | hc
        · cases c with
          | nil => rw [implode_nil] at hv; simp at hv
          | cons => simp
        · exact implodes_pos hvs c hc
      · simp at hi
    · simp at hi

section
variable {P : Program} {tt : TT} {o : Oper} {a : Act} {w0 w : World} {mine : Mine} {st : St} {next : Act → World → Prop} {Q : Exit → Act → World → Prop}

theorem parts_F2 {m : Mp} (H : HR w0 mine w m st.heap) (he : F2 (V w m st.heap) st.env a.tmps.toList) : ∀ ps : List (Nat × Operand), (∀ p ∈ ps, (st.ev p.2).cells.all LC.isDef = true ∧ 0 < (st.ev p.2).cells.length) →
    F2 (F2 (C w m st.heap)) (ps.map fun p => (st.ev p.2).cells) (ps.map fun p => (a.eval p.2).cells.toList) ∧ ∀ p ∈ ps, ∀ u ∈ (a.eval p.2).cells.toList, u.oneCell' = true
  | [], _ => ⟨.nil, by simp⟩
  | p :: ps, hp => by
    obtain ⟨h1, h2⟩ := hp p (by simp)
    obtain ⟨h3, h4⟩ := V_cells H.br (R.ev H he p.2) h1 h2
    obtain ⟨h5, h6⟩ := parts_F2 H he ps fun q hq => hp q (by simp [hq])
    refine ⟨.cons h3 h5, fun q hq => ?_⟩
    rcases List.mem_cons.1 hq with rfl | hq
    · exact h4
    · exact h6 q hq

theorem snd_buildSlice (hT : TTok P tt) {t n : Nat} {ti : TI} (ht : tt.get t = some ti) {ps : Array (Nat × Operand)} (ho : o.op = .buildSlice t n ps) {e : Nat} {te : Ty} (hag : ti.agg = false) (hty : ti.ty = .slice e te)
    (hix : ps.toList.map (·.1) = List.range n) (hsm : n * te.sz ≤ 65536) (hnd : nodupB (moved (ps.toList.map fun p => (st.ev p.2).cells).flatten) = true) (hdef : (ps.toList.map fun p => (st.ev p.2).cells).flatten.all LC.isDef = true)
    {xs : List (Val te)} (hxs : implodes st.heap te (ps.toList.map fun p => (st.ev p.2).cells) = some xs) (hr : R w0 mine st a w)
    (hn : ∀ a' w', R w0 mine { (st.put o.dst (.one (.own st.heap.length))) with heap := newRow st.heap e te xs (te.flat || deepOf st.heap (ps.toList.map fun p => (st.ev p.2).cells).flatten) (moved (ps.toList.map fun p => (st.ev p.2).cells).flatten) } a' w' → next a' w') : o.wp P a w next Q := by
  obtain ⟨hd, m, H, he⟩ := hr
  have hti := hT t ti ht
  obtain ⟨hu, tie, hte, htt⟩ := hti.slc hag e te hty
  obtain ⟨i, z, hi, hs, hz, hzc, hby⟩ := (hT e tie hte).info
  rw [htt] at hs hzc
  have hpos := implodes_pos hxs
  obtain ⟨hff, h1⟩ := parts_F2 H he ps.toList fun p hp => ⟨List.all_eq_true.2 fun c hc => List.all_eq_true.1 hdef c (List.mem_flatten.2 ⟨_, List.mem_map.2 ⟨p, hp, rfl⟩, hc⟩), hpos _ (List.mem_map.2 ⟨p, hp, rfl⟩)⟩
  obtain ⟨hk, hxl, hvl⟩ := implodes_K (ok := fun _ => True) H.br hff hxs (fun c _ => by
    cases c <;> simp only [okC]
    · exact fun _ _ _ => trivial
    · intro x _
      exact ⟨fun _ _ => trivial, by split <;> simp⟩)
  have hlen : ps.toList.length = n := by
    have := congrArg List.length hix
    simpa using this
  have hxn : xs.length = n := by rw [hxl, List.length_map, hlen]
  -- the machine's
  let vs : List (Nat × Value) := ps.toList.map fun p => (p.1, a.eval p.2)
  have hvs1 : vs.map (·.1) = (List.range vs.length).map (0 + ·) := by
    simp only [vs, List.map_map, List.length_map, hlen, Nat.zero_add, List.map_id']
    rw [← hix]; rfl
  have hvs2 : ∀ p ∈ vs, p.2.cells.size = te.sz := by
    intro p hp
    obtain ⟨q, hq, rfl⟩ := List.mem_map.1 hp
    have := hvl _ (List.mem_map.2 ⟨q, hq, rfl⟩)
    simpa using this
  have hvl' : vs.length = n := by simp [vs, hlen]
  obtain ⟨res, hfill, hres⟩ := fill_range te.sz vs 0 ((Array.range (n * te.sz)).map ((if n * te.sz = 0 then (#[] : Array Value) else z.cells)[· % (if n * te.sz = 0 then (#[] : Array Value) else z.cells).size]!)) hvs1 hvs2 (by simp [hvl'])
  have hres' : res.toList = (ps.toList.map fun p => (a.eval p.2).cells.toList).flatten := by
    rw [hres]
    simp only [Nat.zero_mul, List.take_zero, List.nil_append, Nat.zero_add, hvl']
    rw [List.drop_eq_nil_of_le (by simp), List.append_nil]
    simp only [vs, List.map_map]
    rfl
  have hrs : res.size = n * te.sz := by
    have h2 := hk.len fun x c hk => K_len hk
    rw [← hres', hxn] at h2
    simpa using h2
  have hrun : (execOp a.eval o).run P w = .ok (.value (.slice (some ⟨w.heap.size, 0, none⟩) n n)) (w.alloc (.cells res e)) := by
    have hsz : (sizeOf e).run P w = .ok te.sz w := by simp [Go.sizeOf, typeInfo, hi, hs]
    by_cases h0 : n * te.sz = 0
    · simp only [h0, if_true, vs] at hfill
      simp at hfill
      simp [execOp, ho, Instr.buildSlice, run_underlying hu, hsz, h0, hfill, Go.newRow]
      try rfl
    · simp only [h0, if_false, vs] at hfill
      have hz' : (zeroValue e).run P w = .ok z w := by simp [zeroValue, typeInfo, hi, hz]
      have h24 : ¬ (2 ^ 24 < n * te.sz) := by omega
      simp [execOp, ho, Instr.buildSlice, run_underlying hu, hsz, h0, hz', h24, hfill, Go.newRow]
      try rfl
  refine wp_val hrun (hn _ _ ?_)
  have hown : (w.alloc (.cells res e)).ownsRow 0 e te.sz (.slice (some ⟨w.heap.size, 0, none⟩) n n) xs.length (ps.toList.map fun p => (a.eval p.2).cells.toList).flatten := by
    rw [hxn, ← hres']
    exact World.ownsRow_lit w res n (Nat.zero_le _) (by
      have := te.sz_pos
      have : n ≤ n * te.sz := Nat.le_mul_of_pos_right _ this
      simp only [maxLen]; omega) hrs
  have hold : ∀ b, b < w.heap.size → (w.alloc (.cells res e)).heap[b]? = w.heap[b]? := fun b hb => heap_alloc_old w _ b hb
  have hfresh : ∀ b, Value.ownBlock (.slice (some ⟨w.heap.size, 0, none⟩) n n) = some b → w.heap.size ≤ b := fun b hb => by simp [Value.ownBlock] at hb; omega
  unfold newRow
  cases hdp : (te.flat || deepOf st.heap (ps.toList.map fun p => (st.ev p.2).cells).flatten) with
  | true =>
    simp only [cond_true]
    by_cases hf : te.flat = true
    · refine R.newedW hd he (HR.newRow H (Weakers.kill _ _) (dp := true) (mt := true) (B := []) (Fr_alloc w _ _) hown hfresh (by simp) List.nodup_nil (by simp) (fun _ => los_le _ _ _) (fun h => by simp at h) (fun _ => ?_)) _ (own_new (kill_len _ _))
      exact flat_Ms hf (hk.imp fun x c hx => K_step (ok' := fun _ => True) (fun b _ hb => hold b hb) (fun _ _ _ => trivial) hx)
    · have hdeep : deepOf st.heap (ps.toList.map fun p => (st.ev p.2).cells).flatten = true := by simpa [hf] using hdp
      have hM := implodes_M H.br hff hxs hdeep
      refine R.newedW hd he (HR.newRow H (Weakers.kill _ _) (dp := true) (mt := true) (B := fpIds m st.heap (moved (ps.toList.map fun p => (st.ev p.2).cells).flatten)) (Fr_alloc w _ _) hown hfresh (fun b hb => fpIds_lt H hb) (fpIds_nodup H (nodupB_iff hnd)) (fun _ k b hk hle => fpIds_ok hk hle) (fun _ => los_le _ _ _) (fun h => by simp at h) (fun _ => ?_)) _ (own_new (kill_len _ _))
      exact hM.imp fun x c b hb hx => M_step hx fun k hk => hold k (fpIds_lt H (hb k hk)).1
  | false =>
    simp only [cond_false]
    refine R.newedW hd he (HR.newRow H (Weakers.kill _ _) (dp := false) (mt := true) (B := []) (Fr_alloc w _ _) hown hfresh (by simp) List.nodup_nil (by simp) (by simp) (fun h => rfl) (fun hok => ?_)) _ (own_new (kill_len _ _))
    obtain ⟨hk', _, _⟩ := implodes_K (ok := okAt (m.row st.heap.length (.slice (some ⟨w.heap.size, 0, none⟩) n n) []) (kill st.heap (moved (ps.toList.map fun p => (st.ev p.2).cells).flatten) ++ [.row e te xs false true (st.heap.length + 1)]) (st.heap.length + 1)) H.br hff hxs
      (fun c hc => okC_row H hfresh hok fun id hid => mem_moved (hid ▸ hc))
    exact hk'.imp fun x c hx => K_step (fun b _ hb => hold b hb) (fun b h _ => h) hx
end
end Go.T
/- T: appends. -/
namespace Go.T
open Go

/-- A row that is read: its cells in one line. -/
theorem Rd.list {α : Type} {w : World} {ok : Nat → Prop} {sz : Nat} {R : α → List Value → Prop} {a : Addr} (hs : ∀ x c, R x c → c.length = sz) :
    ∀ (xs : List α) (k : Nat), (∀ i x, xs[i]? = some x → ∃ cs, R x cs ∧ At w (a.add ((k + i) * sz)) cs) → ∃ news, Ks R xs news ∧ At w (a.add (k * sz)) news
  | [], k, _ => ⟨[], rfl, fun j u hu => by simp at hu⟩
  | x :: xs, k, h => by
    obtain ⟨c, hc, hat⟩ := h 0 x (by simp)
    obtain ⟨news, hn, hnat⟩ := Rd.list (ok := ok) hs xs (k + 1) fun i y hy => by
      obtain ⟨cs, h1, h2⟩ := h (i + 1) y (by simpa using hy)
      exact ⟨cs, h1, by rw [show k + 1 + i = k + (i + 1) by omega]; exact h2⟩
    refine ⟨c ++ news, ⟨c, news, rfl, hc, hn⟩, fun j u hu => ?_⟩
    rw [List.getElem?_append] at hu
    split at hu
    · have := hat j u hu
      simpa using this
    · rename_i hj
      have hl := hs x c hc
      have := hnat _ u hu
      rw [addr_add_add] at this ⊢
      rw [show k * sz + j = (k + 1) * sz + (j - c.length) by rw [Nat.succ_mul]; omega]
      exact this

section
variable {P : Program} {tt : TT} {o : Oper} {a : Act} {w0 w : World} {mine : Mine} {st : St} {next : Act → World → Prop} {Q : Exit → Act → World → Prop}

theorem run_append_none (base : Nat) (t ty e : TypeId) (i : TypeInfo) (size : Nat) (ht : P.underlying t = some (.slice e)) (hi : P.info? e = some i)
    (v : Value) (n c : Nat) (xs : List Value) (hown : w.ownsRow base e size v n xs) :
    (Builtin.append_ #[t, t] ty #[v, .slice none 0 c]).run P w = .ok v w := by
  rcases hown.2 with ⟨rfl, rfl⟩ | ⟨g, cap, cur, rfl, _, _, hnc, _⟩
  · simp [Builtin.append_, run_underlying ht, sizeOf, typeInfo, hi, Builtin.lenOf, Builtin.firstCells]
  · simp [Builtin.append_, run_underlying ht, sizeOf, typeInfo, hi, Builtin.lenOf, Builtin.firstCells, hnc, storeCells]

theorem append_core (hT : TTok P tt) {t ty e : Nat} {ti : TI} (ht : tt.get t = some ti) {te : Ty} (hag : ti.agg = false) (hty : ti.ty = .slice e te)
    {v : Value} {n k c : Nat} {inner news : List Value} (hown : w.ownsRow 0 e te.sz v n inner) {A : Option Addr} (hA : A = none → k = 0) (hl : news.length = k * te.sz) (hnews : ∀ ad, A = some ad → At w ad news) (h1 : ∀ u ∈ news, u.oneCell' = true) (hlim : n + k ≤ 1048576) :
    ∃ v' w', (Builtin.append_ #[t, t] ty #[v, .slice A k c]).run P w = .ok v' w' ∧ w'.ownsRow 0 e te.sz v' (n + k) (inner ++ news) ∧ w.grownBy w' v.ownBlock ∧ (v'.ownBlock = v.ownBlock ∨ v'.ownBlock = some w.heap.size) := by
  have hti := hT t ti ht
  obtain ⟨hu, tie, hte, htt⟩ := hti.slc hag e te hty
  obtain ⟨i, z, hi, hs, hz, hzc, hby⟩ := (hT e tie hte).info
  rw [htt] at hs hzc
  cases A with
  | none =>
    have hk := hA rfl
    subst hk
    have : news = [] := List.eq_nil_of_length_eq_zero (by simpa using hl)
    subst this
    exact ⟨v, w, run_append_none 0 t ty e i te.sz hu hi v n c inner hown, by simpa using hown, ⟨rfl, rfl, rfl, Nat.le_refl _, fun _ _ _ => rfl⟩, .inl rfl⟩
  | some ad =>
    have hb : (n + k) * i.bytes ≤ 1048576 * 65536 := Nat.mul_le_mul hlim hby
    obtain ⟨v', w', h2, h3, h4, _, h5⟩ := run_append_own_at (P := P) w 0 t ty e i z te.sz i.bytes hu hi hz hs rfl (by
      have := congrArg List.length hzc
      simpa [zvals_len] using this) te.sz_pos v n inner hown ad k c news hl (hnews ad rfl) h1 (by simp only [maxLen]; omega) (by omega) (Nat.zero_le _)
    exact ⟨v', w', h2, h3, h4, h5⟩

/-- The elements' cells: what they lead to. -/
structure Part (w : World) (m : Mp) (h : List Blk) (te : Ty) (xs : List (Val te)) (d : Bool) (cs : List Value) (B : List Nat) : Prop where
  deep : d = true → Ms (M w te) xs cs B
  read : ∀ ok : Nat → Prop, (∀ n b, okAt m h n b → b < w.heap.size → ok b) → (∀ b ∈ B, ok b) → Ks (K w ok te) xs cs

theorem Part.flat {m : Mp} {h : List Blk} {te : Ty} {xs : List (Val te)} {d : Bool} {cs : List Value} {B : List Nat} (hp : Part w m h te xs d cs B) (hf : te.flat = true) : Ms (M w te) xs cs [] :=
  flat_Ms hf (hp.read (fun _ => True) (fun _ _ _ _ => trivial) fun _ _ => trivial)

theorem Part.row {m : Mp} (H : HR w0 mine w m st.heap) {id e : Nat} {te : Ty} {xs : List (Val te)} {dp mt : Bool} {n : Nat} (hb : st.heap[id]? = some (.row e te xs dp mt n)) :
    ∃ inner, w.ownsRow 0 e te.sz (m.val id) xs.length inner ∧ Part w m st.heap te xs dp inner (match dp with | true => m.nst id | false => []) := by
  obtain ⟨inner, hown, hin⟩ := H.br id _ hb
  refine ⟨inner, hown, ?_⟩
  cases dp with
  | true => exact ⟨fun _ => hin.1, fun ok h1 h2 => hin.1.toKs fun x c b hbs hm => M_K hm fun k hk => h2 k (hbs k hk)⟩
  | false => exact ⟨fun h => by simp at h, fun ok h1 h2 => hin.imp fun x c hk => K_step (fun _ _ _ => rfl) (fun b hb hl => h1 _ b hb hl) hk⟩

theorem append_join {m : Mp} (hd : a.defers = []) (H : HR w0 mine w m st.heap) (he : F2 (V w m st.heap) st.env a.tmps.toList) {e : Nat} {te : Ty} {xs ys : List (Val te)} {d1 d2 : Bool} {i1 i2 : List Nat} {v v' : Value} {w' : World} {inner news : List Value} {B1 B2 : List Nat}
    (p1 : Part w m st.heap te xs d1 inner B1) (p2 : Part w m st.heap te ys d2 news B2) (hs1 : List.Sublist (v.ownBlock.toList ++ B1) (fpIds m st.heap i1)) (hs2 : te.flat = false → List.Sublist B2 (fpIds m st.heap i2)) (hi2 : te.flat = true → i2 = []) (hnd : (i1 ++ i2).Nodup)
    (htop : ∀ k, v.ownBlock = some k → ∀ n b, okAt m st.heap n b → b ≠ k) (hown : w'.ownsRow 0 e te.sz v' (xs.length + ys.length) (inner ++ news)) (hg : w.grownBy w' v.ownBlock) (hv' : v'.ownBlock = v.ownBlock ∨ v'.ownBlock = some w.heap.size)
    (hn : ∀ a' w', R w0 mine { (st.put o.dst (.one (.own st.heap.length))) with heap := newRow st.heap e te (xs ++ ys) (te.flat || (d1 && d2)) (i1 ++ i2) } a' w' → next a' w') : next (a.put o.dst v') w' := by
  refine hn _ _ ?_
  have hnd' : (fpIds m st.heap (i1 ++ i2)).Nodup := fpIds_nodup H hnd
  rw [fpIds_append] at hnd'
  have hmem1 : ∀ k, v.ownBlock = some k → k ∈ fpIds m st.heap (i1 ++ i2) := fun k hk => by
    rw [fpIds_append]
    exact List.mem_append_left _ (hs1.subset (by simp [hk]))
  have hB1 : ∀ b ∈ B1, b ∈ fpIds m st.heap (i1 ++ i2) := fun b hb => by
    rw [fpIds_append]
    exact List.mem_append_left _ (hs1.subset (List.mem_append_right _ hb))
  have hfr : Fr (fun k => v.ownBlock = some k) w w' := ⟨hg.os, hg.tape, hg.output, hg.size, fun k hk hn => hg.block k hk fun e => hn e.symm⟩
  have hA1 : ∀ k, v.ownBlock = some k → ∃ id x, st.heap[id]? = some x ∧ k ∈ fpB m id x := fun k hk => by
    obtain ⟨id, x, _, h2, h3⟩ := fpIds_mem (hmem1 k hk)
    exact ⟨id, x, h2, h3⟩
  have hA2 : ∀ k, v.ownBlock = some k → ∀ id y, (kill st.heap (i1 ++ i2))[id]? = some y → k ∉ fpB m id y := fun k hk => (fpIds_lt H (hmem1 k hk)).2.2
  have hfresh : ∀ b, v'.ownBlock = some b → w.heap.size ≤ b ∨ v.ownBlock = some b := fun b hb => by
    rcases hv' with h | h
    · right; rw [← h]; exact hb
    · left; rw [h] at hb; cases hb; exact Nat.le_refl _
  have hlen : (xs ++ ys).length = xs.length + ys.length := by simp
  unfold newRow
  cases hf : te.flat with
  | true =>
    simp only [Bool.true_or, cond_true]
    refine R.newedW hd he (HR.newRowA H (Weakers.kill _ _) (dp := true) (mt := true) (B := []) hfr hA1 hA2 htop (by simp) (by rw [hlen]; exact hown) hfresh (by simp) List.nodup_nil (by simp) (fun _ => los_le _ _ _) (fun h => by simp at h) (fun _ => ?_)) _ (own_new (kill_len _ _))
    exact ((p1.flat hf).append (p2.flat hf)).imp fun x c b hb hx => M_step hx fun k hk => by have := hb k hk; simp at this
  | false =>
    simp only [Bool.false_or]
    have hs2 := hs2 hf
    have hB2 : ∀ b ∈ B2, b ∈ fpIds m st.heap (i1 ++ i2) := fun b hb => by
      rw [fpIds_append]
      exact List.mem_append_right _ (hs2.subset hb)
    have hsub : List.Sublist ((v.ownBlock.toList ++ B1) ++ B2) (fpIds m st.heap i1 ++ fpIds m st.heap i2) := hs1.append hs2
    have hnd2 := hnd'.sublist hsub
    rw [List.append_assoc] at hnd2
    obtain ⟨_, hndB, hdj⟩ := List.nodup_append.1 hnd2
    have hBm : ∀ b ∈ B1 ++ B2, b ∈ fpIds m st.heap (i1 ++ i2) := fun b hb => by
      rcases List.mem_append.1 hb with hb | hb
      · exact hB1 b hb
      · exact hB2 b hb
    have hAB : ∀ k, v.ownBlock = some k → k ∉ B1 ++ B2 := fun k hk hm => hdj k (by simp [hk]) k hm rfl
    cases hdd : (d1 && d2) with
    | true =>
      simp only [cond_true]
      simp only [Bool.and_eq_true] at hdd
      refine R.newedW hd he (HR.newRowA H (Weakers.kill _ _) (dp := true) (mt := true) (B := B1 ++ B2) hfr hA1 hA2 htop hAB (by rw [hlen]; exact hown) hfresh (fun b hb => fpIds_lt H (hBm b hb)) hndB (fun _ k b hk hle hm => fpIds_ok hk hle (hBm b hm)) (fun _ => los_le _ _ _) (fun h => by simp at h) (fun _ => ?_)) _ (own_new (kill_len _ _))
      exact ((p1.deep hdd.1).append (p2.deep hdd.2)).imp fun x c b hb hx => M_step hx fun k hk => hg.block k (fpIds_lt H (hBm k (hb k hk))).1 fun e => hAB k e.symm (hb k hk)
    | false =>
      simp only [cond_false]
      refine R.newedW hd he (HR.newRowA H (Weakers.kill _ _) (dp := false) (mt := true) (B := []) hfr hA1 hA2 htop (by simp) (by rw [hlen]; exact hown) hfresh (by simp) List.nodup_nil (by simp) (by simp) (fun h => rfl) (fun hok => ?_)) _ (own_new (kill_len _ _))
      have c1 : ∀ n b, okAt m st.heap n b → b < w.heap.size → ¬ v.ownBlock = some b ∧ okAt (m.row st.heap.length v' []) (kill st.heap (i1 ++ i2) ++ [.row e te (xs ++ ys) false true (st.heap.length + 1)]) (st.heap.length + 1) b :=
        fun n b hb hl => ⟨fun e => htop b e n b hb rfl, ok_top H (by simp) hok hb hl⟩
      have c2 : ∀ b ∈ B1 ++ B2, ¬ v.ownBlock = some b ∧ okAt (m.row st.heap.length v' []) (kill st.heap (i1 ++ i2) ++ [.row e te (xs ++ ys) false true (st.heap.length + 1)]) (st.heap.length + 1) b := fun b hb => by
        refine ⟨fun e => hAB b e hb, ok_killed H row_get rfl (hBm b hb) ⟨fun _ hob => ?_, fun h => by simp at h⟩⟩
        simp only [Mp.row, if_true] at hob
        rcases hfresh b hob with h | h
        · have := (fpIds_lt H (hBm b hb)).1; omega
        · exact hAB b h hb
      have := (p1.read _ c1 fun b hb => c2 b (List.mem_append_left _ hb)).append (p2.read _ c1 fun b hb => c2 b (List.mem_append_right _ hb))
      exact this.imp fun x c hx => K_step (fun b hb hl => hg.block b hl fun e => hb.1 e.symm) (fun b h _ => h.2) hx
end
end Go.T
/- T: appends. -/
namespace Go.T
open Go
section
variable {P : Program} {tt : TT} {o : Oper} {a : Act} {w0 w : World} {mine : Mine} {st : St} {next : Act → World → Prop} {Q : Exit → Act → World → Prop}

theorem Part.nil (w : World) (m : Mp) (h : List Blk) (te : Ty) (d : Bool) : Part w m h te [] d [] [] := ⟨fun _ => ⟨rfl, rfl⟩, fun _ _ _ => rfl⟩

theorem dst_ok {m : Mp} (H : HR w0 mine w m st.heap) {x : LV} {v : Value} (hv : V w m st.heap x v) {e : Nat} {te : Ty} {xs : List (Val te)} {d : Bool} {i1 : List Nat} (hs : dstOf st.heap e te x = some (xs, d, i1)) :
    ∃ inner B, w.ownsRow 0 e te.sz v xs.length inner ∧ Part w m st.heap te xs d inner B ∧ List.Sublist (v.ownBlock.toList ++ B) (fpIds m st.heap i1) ∧ (∀ k, v.ownBlock = some k → ∀ n b, okAt m st.heap n b → b ≠ k) := by
  unfold dstOf at hs
  split at hs
  · cases hs
    have hv' : v = .slice none 0 0 := hv
    subst hv'
    exact ⟨[], [], World.ownsRow_nil w 0 e te.sz, Part.nil _ _ _ _ _, by simp [Value.ownBlock], fun k hk => by simp [Value.ownBlock] at hk⟩
  · rename_i id
    split at hs
    · rename_i e' t' xs' dp n hb
      split at hs
      · rename_i hh
        obtain ⟨rfl, rfl⟩ := hh
        cases hs
        simp only [V, C, hb] at hv
        subst hv
        obtain ⟨inner, hown, hp⟩ := Part.row H hb
        refine ⟨inner, _, hown, hp, ?_, fun k hk n' b hok e => ?_⟩
        · cases d <;> simp [fpIds, hb, fpB]
        · subst e
          exact (hok.2 id _ hb).1 (.inl rfl) hk
      · simp at hs
    · simp at hs
  · simp at hs

theorem src_ok {m : Mp} (H : HR w0 mine w m st.heap) {y : LV} {v : Value} (hv : V w m st.heap y v) {e : Nat} {te : Ty} {ys : List (Val te)} {d : Bool} {i2 : List Nat} (hs : srcOf st.heap e te y = some (ys, d, i2)) :
    ∃ A c news B, v = .slice A ys.length c ∧ (A = none → ys.length = 0) ∧ (∀ ad, A = some ad → At w ad news) ∧ Part w m st.heap te ys d news B ∧ (te.flat = false → List.Sublist B (fpIds m st.heap i2)) ∧ (te.flat = true → i2 = []) := by
  unfold srcOf at hs
  split at hs
  · cases hs
    have hv' : v = .slice none 0 0 := hv
    subst hv'
    exact ⟨none, 0, [], [], rfl, fun _ => rfl, fun ad h => by simp at h, Part.nil _ _ _ _ _, fun _ => List.nil_sublist _, fun _ => rfl⟩
  · rename_i id
    split at hs
    · rename_i e' t' xs' dp mt n hb
      split at hs
      · rename_i hh
        obtain ⟨rfl, rfl⟩ := hh
        cases hs
        simp only [V, C, hb] at hv
        subst hv
        obtain ⟨inner, hown, hp⟩ := Part.row H hb
        obtain ⟨A, c, hvA, _, hA, hA0⟩ := ownsRow_slice hown
        refine ⟨A, c, inner, _, hvA, hA0, fun ad had => ?_, hp, fun hf => ?_, fun hf => by simp [hf]⟩
        · obtain ⟨h1, h2⟩ := hA ad had
          have := ownsRow_At hown h1
          rwa [← h2] at this
        · cases d <;> simp [hf, fpIds, hb, fpB]
      · simp at hs
    · simp at hs
  · rename_i e' t' xs' n
    split at hs
    · rename_i hh
      obtain ⟨rfl, rfl⟩ := hh
      cases hs
      obtain ⟨A, c, rfl, hl, hr⟩ := hv
      cases A with
      | none =>
        cases xs' with
        | nil => exact ⟨none, c, [], [], rfl, fun _ => rfl, fun ad h => by simp at h, Part.nil _ _ _ _ _, fun _ => List.nil_sublist _, fun _ => rfl⟩
        | cons z zs => obtain ⟨a, cs, h, _⟩ := hr 0 z (by simp); simp at h
      | some ad =>
        obtain ⟨news, hk, hat⟩ := Rd.list (ok := fun _ => True) (R := K w (okAt m st.heap n) t') (w := w) (a := ad) (sz := t'.sz) (fun x c h => K_len h) xs' 0 (fun i x hx => by
          obtain ⟨a, cs, ha, _, hk, hat⟩ := hr i x hx
          cases ha
          exact ⟨cs, hk, by simpa using hat⟩)
        refine ⟨some ad, c, news, [], rfl, fun h => by simp at h, fun a' h => by cases h; simpa [Addr.add] using hat, ⟨fun hf => flat_Ms hf hk, fun ok h1 _ => hk.imp fun x c hx => K_step (fun _ _ _ => rfl) (fun b hb hl => h1 n b hb hl) hx⟩, fun _ => List.nil_sublist _, fun _ => rfl⟩
    · simp at hs
  · simp at hs

theorem Part.one {m : Mp} {h : List Blk} {te : Ty} {xs : List (Val te)} {d : Bool} {cs : List Value} {B : List Nat} (hp : Part w m h te xs d cs B) : cs.length = xs.length * te.sz ∧ ∀ u ∈ cs, u.oneCell' = true := by
  have hk := hp.read (fun _ => True) (fun _ _ _ _ => trivial) fun _ _ => trivial
  refine ⟨hk.len fun x c h => K_len h, ?_⟩
  clear hp
  induction xs generalizing cs with
  | nil => rw [Ks] at hk; subst hk; simp
  | cons x xs ih =>
    obtain ⟨c1, c2, rfl, h1, h2⟩ := hk
    intro u hu
    rcases List.mem_append.1 hu with hu | hu
    · exact K_one h1 u hu
    · exact ih h2 u hu

theorem snd_append (hT : TTok P tt) {c : Call} {t : Nat} {x y : Operand} (ho : o.op = .call c) (hc : c.callee = .builtin .append) (ha : c.args = #[x, y]) (hat : c.argTypes = #[t, t]) {p : Prop} {st' : St} (hs : stepAppend tt t (st.ev x) (st.ev y) o.dst st = some (p, st')) (hp : p) (hr : R w0 mine st a w)
    (hn : ∀ a' w', R w0 mine st' a' w' → next a' w') : o.wp P a w next Q := by
  obtain ⟨hd, m, H, he⟩ := hr
  unfold stepAppend at hs
  split at hs
  · simp at hs
  rename_i ti ht
  split at hs
  · rename_i e te hag hty
    split at hs
    · rename_i xs d1 i1 hdst
      split at hs
      · rename_i ys d2 i2 hsrc
        split at hs
        · rename_i hnd
          cases hs
          obtain ⟨inner, B1, hown, p1, hs1, htop⟩ := dst_ok H (R.ev H he x) hdst
          obtain ⟨A, cp, news, B2, hyv, hA, hat', p2, hs2, hi2⟩ := src_ok H (R.ev H he y) hsrc
          obtain ⟨v', w', hrun, hown', hg, hv'⟩ := append_core (ty := o.type) hT ht hag hty hown hA p2.one.1 hat' p2.one.2 hp (c := cp)
          refine wp_val (v := v') (w' := w') ?_ (append_join hd H he p1 p2 hs1 hs2 hi2 (nodupB_iff hnd) htop hown' hg hv' hn)
          simp only [execOp, ho, resolve, hc, ha, hat, invoke, builtin, Sem.run_bind, Sem.run_pure, Result.andThen_ok, List.map_toArray, List.map_cons, List.map_nil, hyv, hrun]
        · simp at hs
      · simp at hs
    · simp at hs
  · simp at hs
end
end Go.T
/- T: whole elements stored. -/
namespace Go.T
open Go

theorem kill_of : ∀ (ids : List Nat) (h : List Blk) (i : Nat), i ∉ ids → (kill h ids)[i]? = h[i]?
  | [], h, i, _ => rfl
  | j :: r, h, i, hn => by
    have : (kill h (j :: r)) = kill (h.set j .dead) r := rfl
    rw [this, kill_of r _ i (fun hm => hn (List.mem_cons_of_mem _ hm)), List.getElem?_set_ne (fun e => hn (by simp [e]))]

def Mp.nest (m : Mp) (id : Nat) (B : List Nat) : Mp := { m with nst := fun j => if j = id then B else m.nst j }

section
variable {P : Program} {tt : TT} {o : Oper} {a : Act} {w0 w : World} {mine : Mine} {st : St} {next : Act → World → Prop} {Q : Exit → Act → World → Prop}

theorem setElem_list {α : Type} {l us : List α} {i sz n : Nat} (hl : l.length = n * sz) (hi : i < n) : l.take (i * sz) ++ us ++ l.drop (i * sz + sz) = l.take (i * sz) ++ us ++ l.drop (i * sz + sz) := rfl

theorem snd_storeWhole (hT : TTok P tt) {t : Nat} {ti : TI} (ht : tt.get t = some ti) {x y : Operand} (ho : o.op = .store t x y) (hdst : o.dst = none) {id i : Nat} (ex : st.ev x = .one (.ptr id i 0)) {e : Nat} {te : Ty} {xs : List (Val te)} {dp : Bool} {n : Nat}
    (hb : st.heap[id]? = some (.row e te xs dp true n)) (hty : ti.ty = te) (hnd : nodupB (moved (st.ev y).cells) = true) (hid : (moved (st.ev y).cells).contains id = false) (hdef : (st.ev y).cells.all LC.isDef = true)
    {v : Val te} (hv : implode st.heap te (st.ev y).cells = some (v, [])) (hi : i < xs.length) (hr : R w0 mine st a w)
    (hn : ∀ a' w', R w0 mine (bif dp && deepOf st.heap (st.ev y).cells then { st with heap := (kill st.heap (moved (st.ev y).cells)).set id (.row e te (xs.set i v) true true (los st.heap n (moved (st.ev y).cells))) }
      else { st with heap := (kill st.heap (moved (st.ev y).cells)).set id (.row e te (xs.set i v) false true st.heap.length) }) a' w' → next a' w') : o.wp P a w next Q := by
  obtain ⟨hd, m, H, he⟩ := hr
  have hti := hT t ti ht
  have hx := R.ev H he x
  rw [ex] at hx
  simp only [V, C, hb] at hx
  obtain ⟨g0, hg0, hxv⟩ := hx
  obtain ⟨inner, hown, hin⟩ := H.br id _ hb
  obtain ⟨g, cap, cur, hval, hob, hg, hsz, htk⟩ := row_at hown hi
  obtain rfl : g = g0 := by rw [hob] at hg0; exact Option.some.inj hg0
  have hpos : 0 < (st.ev y).cells.length := by
    cases hc : (st.ev y).cells with
    | nil => rw [hc, implode_nil] at hv; simp at hv
    | cons => simp
  obtain ⟨hcc, h1⟩ := V_cells H.br (R.ev H he y) hdef hpos
  generalize hcs : (st.ev y).cells = cs at *
  generalize hus : (a.eval y).cells.toList = us at *
  have hnid : id ∉ moved cs := by simpa using hid
  have hnd' := nodupB_iff hnd
  have hel : xs[i]? = some (xs.getD i (dflt te)) := by simp [List.getD, List.getElem?_eq_getElem hi]
  have hfit := idx_fit (sz := te.sz) hi
  have kAny : ∀ ok : Nat → Prop, (∀ c ∈ cs, okC w m st.heap ok c) → K w ok te v us := fun ok hok => by
    obtain ⟨v1, v2, hvs, hk, hrest, _⟩ := implode_K H.br hcc hv hok
    cases hrest
    rw [hvs, List.append_nil]; exact hk
  have husl : us.length = te.sz := K_len (kAny (fun _ => True) fun c _ => by
    cases c <;> simp only [okC]
    · exact fun _ _ _ => trivial
    · intro x _
      exact ⟨fun _ _ => trivial, by split <;> simp⟩)
  have hrun := run_storeVar (P := P) (w := w) (f := i * te.sz) (v := a.eval y) hti hg (by rw [hus, hty]; exact husl) (by rw [hty]; omega) (by rw [hus]; exact h1)
  rw [hus, hty] at hrun
  have hil := ownsRow_len hown
  generalize hw' : w.setRow g (cur.toList.take (i * te.sz) ++ us ++ cur.toList.drop (i * te.sz + te.sz)).toArray = w' at hrun
  refine wp_skp (w' := w') (by simp only [execOp, ho, hxv, Instr.storeAt, Instr.sureAddr, Sem.run_bind, Sem.run_pure, Result.andThen_ok, Nat.add_zero, hrun]) (hn _ _ ?_)
  have hown' : w'.ownsRow 0 e te.sz (m.val id) (xs.set i v).length (inner.take (i * te.sz) ++ us ++ inner.drop (i * te.sz + te.sz)) := by
    rw [hval] at hown
    have := ownsRow_setRow hown hg (i * te.sz) us (by omega)
    rw [← hval, husl, hw'] at this
    rw [List.length_set]; exact this
  have hold : ∀ b, b ≠ g → w'.heap[b]? = w.heap[b]? := fun b hb => by rw [← hw']; exact setRow_other w g b _ hb
  have hfr : Fr (fun k => k = g) w w' := by rw [← hw']; exact Fr_setRow w _ _ _ rfl
  have htop : ∀ n' b, okAt m st.heap n' b → b ≠ g := fun n' b hk he => by
    have := (hk.2 id _ hb).1 (.inl rfl)
    rw [hob, he] at this
    exact this rfl
  have hkx : (kill st.heap (moved cs))[id]? = some (.row e te xs dp true n) := by rw [kill_of _ _ _ hnid]; exact hb
  have hN : ∀ b ∈ fpIds m st.heap (moved cs), b < w.heap.size ∧ (w0.heap.size ≤ b ∨ mine.own b) ∧ ∀ i y, (kill st.heap (moved cs))[i]? = some y → b ∉ fpB m i y := fun b hb => fpIds_lt H hb
  have hNg : ∀ b ∈ fpIds m st.heap (moved cs), b ≠ g := fun b hbm e => (hN b hbm).2.2 id _ hkx (by subst e; simp [fpB, hob])
  have fin : ∀ (x' : Blk) (m' : Mp), HR w0 mine w' m' ((kill st.heap (moved cs)).set id x') ∧ Oks w w' m m' st.heap ((kill st.heap (moved cs)).set id x') ∧ Sims m m' st.heap ((kill st.heap (moved cs)).set id x') →
      R w0 mine { st with heap := (kill st.heap (moved cs)).set id x' } (a.put o.dst undef) w' := fun x' m' hh => by
    refine ⟨by rw [put_defers]; exact hd, m', hh.1, ?_⟩
    rw [hdst]
    exact env_mono hh.2.1 hh.2.2 he
  cases hdd : (dp && deepOf st.heap cs) with
  | true =>
    simp only [cond_true]
    simp only [Bool.and_eq_true] at hdd
    obtain ⟨rfl, hdeep⟩ := hdd
    simp only at hin
    obtain ⟨B1, b0, B2, hB, hM, hset⟩ := Ms_set (fun x c b hm => M_len hm) hin.1 hel
    obtain ⟨v1, v2, pre, hvs, hpre, hMv, hrest⟩ := implode_M H.br hcc hv hdeep
    cases hrest
    rw [List.append_nil] at hvs hpre
    subst hvs; subst hpre
    have hsub1 : ∀ b ∈ B1 ++ B2, b ∈ m.nst id := fun b hb => by
      rw [hB]; simp only [List.mem_append] at hb ⊢
      rcases hb with hb | hb
      · exact .inl (.inl hb)
      · exact .inr hb
    have hrow : (fpB m id (.row e te xs true true n)).Nodup := H.nd id _ hb
    simp only [fpB] at hrow
    have gB : ∀ b ∈ m.nst id, b ≠ g := fun b hbm e => nst_top H hb hob (e ▸ hbm)
    have hm'v : (m.nest id (B1 ++ fpIds m st.heap (moved cs) ++ B2)).nst id = B1 ++ fpIds m st.heap (moved cs) ++ B2 := by simp [Mp.nest]
    have hndB : (B1 ++ fpIds m st.heap (moved cs) ++ B2).Nodup := by
      have h2 : (B1 ++ b0 ++ B2).Nodup := by rw [← hB]; exact (List.nodup_append.1 hrow).2.1
      have h3 : (B1 ++ B2).Nodup := h2.sublist (by
        rw [List.append_assoc]
        exact (List.Sublist.refl _).append (List.sublist_append_right _ _))
      have h4 := fpIds_nodup H hnd'
      have h5 : ∀ b ∈ fpIds m st.heap (moved cs), b ∉ B1 ++ B2 := fun b hbm hb2 => (hN b hbm).2.2 id _ hkx (by simp only [fpB]; exact List.mem_append_right _ (hsub1 b hb2))
      rw [List.nodup_append] at h3 ⊢
      rw [List.nodup_append]
      refine ⟨⟨h3.1, h4, fun x hx y hy e => h5 y hy (by subst e; exact List.mem_append_left _ hx)⟩, h3.2.1, fun x hx y hy e => ?_⟩
      rcases List.mem_append.1 hx with hx | hx
      · exact h3.2.2 x hx y hy e
      · exact h5 x hx (by subst e; exact List.mem_append_right _ hy)
    refine fin _ (m.nest id (B1 ++ fpIds m st.heap (moved cs) ++ B2)) (H.write (Weakers.kill _ _) hkx rfl rfl (fun j hj => by simp [Mp.nest, hj]) rfl (by simp [Sim, Mp.nest]) (fun b hbm => ?_) ?_ (fun n' b hk hlt => ?_) (g := g) (by simp [fpB, hob]) hfr htop (fun hok hs' => ?_))
    · simp only [fpB, hm'v] at hbm ⊢
      rcases List.mem_append.1 hbm with hbm | hbm
      · exact .inl (List.mem_append_left _ hbm)
      · by_cases hbn : b ∈ fpIds m st.heap (moved cs)
        · exact .inr ⟨(hN b hbn).1, (hN b hbn).2.1, fun i' y hy _ => (hN b hbn).2.2 i' y hy⟩
        · left
          refine List.mem_append_right _ (hsub1 b ?_)
          simp only [List.mem_append] at hbm ⊢
          rcases hbm with (h | h) | h
          · exact .inl h
          · exact absurd h hbn
          · exact .inr h
    · simp only [fpB, hm'v]
      have : (m.nest id (B1 ++ fpIds m st.heap (moved cs) ++ B2)).val id = m.val id := rfl
      rw [this, hob]
      simp only [Option.toList_some, List.singleton_append, List.nodup_cons]
      refine ⟨fun hm => ?_, hndB⟩
      by_cases hbn : g ∈ fpIds m st.heap (moved cs)
      · exact hNg g hbn rfl
      · simp only [List.mem_append] at hm
        rcases hm with (h | h) | h
        · exact gB g (hsub1 g (List.mem_append_left _ h)) rfl
        · exact hbn h
        · exact gB g (hsub1 g (List.mem_append_right _ h)) rfl
    · have hk0 := hk.2 id _ hb
      refine ⟨fun _ => hk0.1 (.inl rfl), fun _ hle hm => ?_⟩
      rw [hm'v] at hm
      by_cases hbn : b ∈ fpIds m st.heap (moved cs)
      · exact fpIds_ok hk hle hbn
      · simp only [List.mem_append] at hm
        have hle2 : n' ≤ n := Nat.le_trans hle (los_le _ _ _)
        rcases hm with (h | h) | h
        · exact hk0.2 rfl hle2 (hsub1 b (List.mem_append_left _ h))
        · exact hbn h
        · exact hk0.2 rfl hle2 (hsub1 b (List.mem_append_right _ h))
    · refine ⟨_, hown', ?_⟩
      simp only [hm'v]
      refine ⟨?_, Nat.le_trans (los_le _ _ _) hin.2⟩
      have := hset v us _ hMv
      refine this.imp fun x c b hbs hm => M_step hm fun k hk => hold k fun e => ?_
      have hm := hbs k hk
      subst e
      by_cases hbn : k ∈ fpIds m st.heap (moved cs)
      · exact hNg k hbn rfl
      · simp only [List.mem_append] at hm
        rcases hm with (h | h) | h
        · exact gB k (hsub1 k (List.mem_append_left _ h)) rfl
        · exact hbn h
        · exact gB k (hsub1 k (List.mem_append_right _ h)) rfl
  | false =>
    simp only [cond_false]
    refine fin _ m (H.write (Weakers.kill _ _) hkx rfl rfl (fun _ _ => rfl) rfl (by simp [Sim]) (fun b hbm => .inl ?_) ?_ (fun n' b hk hlt => ⟨fun _ => (hk.2 id _ hb).1 (.inl rfl), fun h => by simp at h⟩) (g := g) (by simp [fpB, hob]) hfr htop (fun hok hs' => ?_))
    · simp only [fpB, List.append_nil] at hbm ⊢
      exact List.mem_append_left _ hbm
    · simp only [fpB, hob]; simp
    · refine ⟨_, hown', ?_⟩
      simp only
      generalize hh' : (kill st.heap (moved cs)).set id (.row e te (xs.set i v) false true st.heap.length) = h' at hok hs' ⊢
      have hl' : h'.length = st.heap.length := by rw [← hh']; simp [kill_len]
      have get' : ∀ j y, h'[j]? = some y → (j ≠ id ∧ (kill st.heap (moved cs))[j]? = some y) ∨ (j = id ∧ y = .row e te (xs.set i v) false true st.heap.length) := fun j y hy => by
        rw [← hh'] at hy
        by_cases e : id = j
        · subst e
          rw [List.getElem?_set_self (List.getElem?_eq_some_iff.1 hkx).1] at hy
          cases hy; exact .inr ⟨rfl, rfl⟩
        · rw [List.getElem?_set_ne e] at hy
          exact .inl ⟨fun h => e h.symm, hy⟩
      have hlo : ∀ (j e : Nat) (t : Ty) (xs : List (Val t)) (mt : Bool) (k : Nat), h'[j]? = some (Blk.row e t xs true mt k) → k ≤ j := by
        intro j e t xs mt k hy
        rcases get' j _ hy with ⟨_, hy'⟩ | ⟨_, hy'⟩
        · rcases kill_get _ _ _ _ hy' with ⟨_, h0⟩ | ⟨_, h0⟩
          · simp at h0
          · exact H.lo_le j e t xs mt k h0
        · simp at hy'
      have c1 : ∀ n' b, okAt m st.heap n' b → b < w.heap.size → b ≠ g ∧ okAt m h' st.heap.length b := fun n' b hb hlt => by
        refine ⟨htop n' b hb, ?_⟩
        have := okAt_top hlo (hok n' b hb hlt).2
        rwa [hl'] at this
      have c2 : ∀ b, m.ext b → b ≠ g → (∀ j y, j ≠ id → (kill st.heap (moved cs))[j]? = some y → b ∉ fpB m j y) → b ≠ g ∧ okAt m h' st.heap.length b := fun b hbe hbg hbf => by
        refine ⟨hbg, hbe, fun j y hy => ?_⟩
        rcases get' j y hy with ⟨hne, hy'⟩ | ⟨rfl, rfl⟩
        · have hf := hbf j y hne hy'
          cases y with
          | dead => trivial
          | fra F Φ => exact hf
          | box cs => show b ≠ m.blk j; simpa [fpB] using hf
          | row e t xs dp mt k =>
            simp only [fpB, List.mem_append, not_or] at hf
            refine ⟨fun _ hob => hf.1 (by simp [hob]), fun hd _ hm => ?_⟩
            subst hd
            exact hf.2 hm
        · exact ⟨fun _ hob' => hbg (by rw [hob] at hob'; exact (Option.some.inj hob').symm), fun h => by simp at h⟩
      have hxs : Ks (K w (fun b => b ≠ g ∧ okAt m h' st.heap.length b) te) xs inner := by
        cases dp with
        | true =>
          simp only at hin
          refine hin.1.toKs fun x c b hbs hm => M_K hm fun k hk => c2 k (by rw [H.mx]; exact H.nx k (H.lt id _ hb k (by simp only [fpB]; exact List.mem_append_right _ (hbs k hk))).2) (fun e => nst_top H hb hob (e ▸ hbs k hk)) fun j y hne hy hmj => ?_
          rcases kill_get _ _ _ _ hy with ⟨_, rfl⟩ | ⟨_, hy'⟩
          · simp [fpB] at hmj
          · exact H.dj id _ j y (fun e => hne e.symm) hb hy' k (by simp only [fpB]; exact List.mem_append_right _ (hbs k hk)) hmj
        | false =>
          simp only at hin
          exact hin.imp fun x c hk => K_step (fun _ _ _ => rfl) (fun b hb hl => c1 _ b hb hl) hk
      have hkv : K w (fun b => b ≠ g ∧ okAt m h' st.heap.length b) te v us := kAny _ fun c hc => by
        cases c with
        | sl e t xs k => exact fun b hb hlt => c1 k b hb hlt
        | own j =>
          intro y hy
          have hj := mem_moved hc
          refine ⟨fun b hbm => ?_, ?_⟩
          · have hbN : b ∈ fpIds m st.heap (moved cs) := by
              simp only [fpIds, List.mem_flatMap]
              exact ⟨j, hj, by rw [hy]; exact hbm⟩
            exact c2 b (by rw [H.mx]; exact H.nx b (hN b hbN).2.1) (hNg b hbN) fun i' y' _ hy' => (hN b hbN).2.2 i' y' hy'
          · cases y with
            | row e t xs dp mt k =>
              cases dp with
              | true => trivial
              | false => exact fun b hb hlt => c1 k b hb hlt
            | _ => trivial
        | _ => trivial
      have := hxs.set (fun x c hk => K_len hk) i hi hkv
      exact this.imp fun x c hk => K_step (fun b hb _ => hold b hb.1) (fun b hb _ => hb.2) hk
end
end Go.T
/- T: structs; every operation. -/
namespace Go.T
open Go
section
variable {P : Program} {tt : TT} {o : Oper} {a : Act} {w0 w : World} {mine : Mine} {st : St} {next : Act → World → Prop} {Q : Exit → Act → World → Prop}

theorem fill_T {m : Mp} (H : HR w0 mine w m st.heap) (he : F2 (V w m st.heap) st.env a.tmps.toList) {offs : List (Nat × Nat)} {sz : Nat} (hoff : ∀ (f n i : Nat), offs[i]? = some (f, n) → 0 < n ∧ f + n ≤ sz) :
    ∀ (ps : List (Nat × Operand)) (cs cs' : List LC) (cur : Array Value), F2 (C w m st.heap) cs cur.toList → cur.size = sz → fillT offs cs (ps.map fun p => (p.1, (st.ev p.2).cells)) = some cs' →
      ∃ res, Instr.fill (offs.toArray[·]?) cur (ps.map fun p => (p.1, a.eval p.2)) = some res ∧ F2 (C w m st.heap) cs' res.toList
  | [], cs, cs', cur, hf, _, h => by simp [fillT] at h; subst h; exact ⟨cur, rfl, hf⟩
  | (i, x) :: ps, cs, cs', cur, hf, hsz, h => by
    simp only [List.map_cons, fillT] at h
    split at h
    · rename_i f n ho
      split at h
      · rename_i hc
        obtain ⟨hn, hfn⟩ := hoff f n i ho
        obtain ⟨hcc, _⟩ := V_cells H.br (R.ev H he x) hc.2 (by omega)
        have hl : (a.eval x).cells.size = n := by have := hcc.len; simp at this; omega
        have hput := foldl_put (a.eval x).cells.toList 0 f cur (by simp; omega)
        simp only [Nat.add_zero, Array.length_toList, hl] at hput
        have hput2 : ((a.eval x).cells.zipIdx.foldl (fun (cs : Array Value) (p : Value × Nat) => cs.setIfInBounds (f + p.2) p.1) cur).toList = cur.toList.take f ++ (a.eval x).cells.toList ++ cur.toList.drop (f + n) := by
          rw [← hput, ← Array.foldl_toList, Array.toList_zipIdx]
        generalize hc2 : (a.eval x).cells.zipIdx.foldl (fun (cs : Array Value) (p : Value × Nat) => cs.setIfInBounds (f + p.2) p.1) cur = c2 at hput2
        have hsz2 : c2.size = sz := by
          have := congrArg List.length hput2
          simp at this
          omega
        obtain ⟨res, h1, h2⟩ := fill_T H he hoff ps _ cs' c2 (by rw [hput2]; exact ((hf.take f).append hcc).append (hf.drop _)) hsz2 h
        refine ⟨res, ?_, h2⟩
        have hc2' : (a.eval x).cells.zipIdx.foldl (fun (cs : Array Value) (x : Value × Nat) => match x with | (c, j) => cs.setIfInBounds (f + j) c) cur = c2 := hc2
        simp only [List.map_cons, Instr.fill, List.getElem?_toArray, ho]
        rw [if_neg (by simp [hl]; omega), hc2']
        simpa using h1
      · simp at h
    · simp at h

theorem snd_build (hT : TTok P tt) {t : Nat} {ti : TI} (ht : tt.get t = some ti) {ps : Array (Nat × Operand)} (ho : o.op = .build t ps) (hne : ti.offs.isEmpty ≠ true) {cs : List LC} (hf : fillT ti.offs (zeros ti.ty) (ps.toList.map fun p => (p.1, (st.ev p.2).cells)) = some cs) (hr : R w0 mine st a w)
    (hn : ∀ a' w', R w0 mine (st.put o.dst (.agg cs)) a' w' → next a' w') : o.wp P a w next Q := by
  obtain ⟨hd, m, H, he⟩ := hr
  have hti := hT t ti ht
  obtain ⟨i, z, hi, hs, hz, hzc, _⟩ := hti.info
  have hoff : ∀ (f n i : Nat), ti.offs[i]? = some (f, n) → 0 < n ∧ f + n ≤ ti.ty.sz := fun f n i h => by
    obtain ⟨fs, fl, _, _, _, j, _, _, h1, h2⟩ := hti.offsStruct f n i h
    exact ⟨h1, h2⟩
  obtain ⟨res, h1, h2⟩ := fill_T H he hoff ps.toList (zeros ti.ty) cs z.cells (by rw [hzc]; exact zeros_C _ _ _ _) (by
    have := congrArg List.length hzc
    simpa [zvals_len] using this) hf
  obtain ⟨d, hu, hdd⟩ := hti.desc
  have hst : ∃ fs, d = .struct fs := by
    cases hof : ti.offs with
    | nil => simp [hof] at hne
    | cons p r =>
      obtain ⟨fs, _, hu', _⟩ := hti.offsStruct p.1 p.2 0 (by rw [hof]; rfl)
      rw [hu] at hu'; cases hu'; exact ⟨fs, rfl⟩
  obtain ⟨fs, rfl⟩ := hst
  obtain ⟨_, hmap⟩ := hdd
  have hb : P.built t (ps.map fun p => (p.1, a.eval p.2)).toList = some res := by
    unfold Program.built
    simp only [hi, hu, hz, hmap]
    simpa using h1
  have hrun := run_build (P := P) w t _ res hb
  refine wp_val (v := .agg res) (w' := w) ?_ (hn _ _ (R.put ⟨hd, m, H, he⟩ _ fun m' H' he' => ?_))
  · simp only [execOp, ho]; rw [Sem.run_bind, hrun]; rfl
  · obtain ⟨res', h1', h2'⟩ := fill_T H' he' hoff ps.toList (zeros ti.ty) cs z.cells (by rw [hzc]; exact zeros_C _ _ _ _) (by
      have := congrArg List.length hzc
      simpa [zvals_len] using this) hf
    rw [h1] at h1'
    cases h1'
    exact ⟨res, rfl, h2'⟩

theorem snd_store (hT : TTok P tt) {t : Nat} {x y : Operand} (ho : o.op = .store t x y) (hdst : o.dst = none) {p : Prop} {st' : St} (hs : stepStore tt t (st.ev x) (st.ev y) st = some (p, st')) (hp : p) (hr : R w0 mine st a w)
    (hn : ∀ a' w', R w0 mine st' a' w' → next a' w') : o.wp P a w next Q := by
  unfold stepStore at hs
  split at hs
  · simp at hs
  rename_i ti ht
  split at hs
  · rename_i id i f ex
    dsimp only at hs
    split at hs
    · rename_i old hb
      cases hs
      obtain ⟨h1, h2, h3⟩ := hp
      exact snd_storeBox hT ht ho hdst ex hb h1 h2 h3 hr hn
    · rename_i e te xs dp n hb
      split at hs
      · rename_i hc
        split at hs
        · rename_i c ey
          split at hs
          · rename_i v hv
            cases hs
            exact snd_storeCell hT ht ho hdst ex hb ey hc.1 hv hp hr hn
          · simp at hs
        · simp at hs
      · split at hs
        · rename_i hc
          obtain ⟨rfl, hty, hnd, hid, hdef⟩ := hc
          split at hs
          · rename_i v hv
            cases hdd : (dp && deepOf st.heap (st.ev y).cells) with
            | true =>
              simp only [hdd, cond_true] at hs
              cases hs
              exact snd_storeWhole hT ht ho hdst ex hb hty hnd hid hdef hv hp hr (by simpa [hdd] using hn)
            | false =>
              simp only [hdd, cond_false] at hs
              cases hs
              exact snd_storeWhole hT ht ho hdst ex hb hty hnd hid hdef hv hp hr (by simpa [hdd] using hn)
          · simp at hs
        · simp at hs
    · simp at hs
  · simp at hs

theorem stepOp_sound (hT : TTok P tt) {p : Prop} {st' : St} (hs : stepOp tt o st = some (p, st')) (hp : p) (hr : R w0 mine st a w) (hn : ∀ a' w', R w0 mine st' a' w' → next a' w') : o.wp P a w next Q := by
  unfold stepOp at hs
  split at hs
  · rename_i x ho; cases hs; exact snd_move (.inl ho) hr hn
  · rename_i x ho; cases hs; exact snd_move (.inr ho) hr hn
  · rename_i c x y ho
    split at hs
    · rename_i b ec
      split at hs
      · rename_i bx by' ex ey
        cases hs
        refine snd_pick ho ec hr (.one (.bool (bif b then bx else by'))) (fun m v1 v2 h1 h2 => ?_) hn
        rw [ex] at h1; rw [ey] at h2
        cases b
        · exact h2
        · exact h1
      · cases hs
        refine snd_pick ho ec hr _ (fun m v1 v2 h1 h2 => ?_) hn
        cases b
        · exact h2
        · exact h1
    · simp at hs
  · rename_i t ho
    split at hs
    · rename_i ti ht; cases hs; exact snd_alloc hT ho ht hr hn
    · simp at hs
  · rename_i t x ho
    split at hs
    · rename_i ti ht
      cases hs
      exact snd_box ho hr hp.2 (by rw [hp.1]; exact ti.ty.sz_pos) hn
    · simp at hs
  · rename_i t ps ho
    split at hs
    · rename_i ti ht
      split at hs
      · simp at hs
      · rename_i hne
        split at hs
        · rename_i cs hf; cases hs; exact snd_build hT ht ho hne hf hr hn
        · simp at hs
    · simp at hs
  · rename_i t x ho; exact snd_load hT ho hs hp hr hn
  · rename_i t x y ho
    split at hs
    · rename_i hd; exact snd_store hT ho hd hs hp hr hn
    · simp at hs
  · rename_i t x f ho; exact snd_field hT ho hs hr hn
  · rename_i t x y ho; exact snd_indexAddr hT ho hs hp hr hn
  · rename_i op t x y ty ho; exact snd_bin hT ho hs hp hr hn
  · rename_i op t x ho; exact snd_un ho hs hr hn
  · rename_i x i ho
    split at hs
    · rename_i vs ex
      split at hs
      · rename_i v hv; cases hs; exact snd_extract ho ex hv hr hn
      · simp at hs
    · simp at hs
  · rename_i x ho
    split at hs
    · rename_i id i f ex
      split at hs
      · simp at hs
      · rename_i hb; cases hs; exact snd_nilCheck ho ex hb hr hn
    · simp at hs
  · rename_i t l c ho
    split at hs
    · rename_i ti k n k' cp ht el ec
      split at hs
      · rename_i e te hag hty
        cases hs
        exact snd_makeSlice hT ht ho hag hty el ec hp.1 hp.2.1 hp.2.2 hr hn
      · simp at hs
    · simp at hs
  · rename_i t n ps ho
    split at hs
    · rename_i ti ht
      split at hs
      · rename_i e te hag hty
        dsimp only at hs
        split at hs
        · rename_i hc
          split at hs
          · rename_i xs hxs
            cases hs
            exact snd_buildSlice hT ht ho hag hty hc.1 hc.2.1 hc.2.2.1 hc.2.2.2 hxs hr hn
          · simp at hs
        · simp at hs
      · simp at hs
    · simp at hs
  · rename_i t x y ho; exact snd_index hT ho hs hp hr hn
  · rename_i c ho
    split at hs
    · rename_i hc
      split at hs
      · rename_i x t hx ht'
        split at hs
        · rename_i ti ht
          split at hs
          · rename_i n hl
            cases hs
            exact snd_len hT ho hc (by rw [← Array.toList_inj, hx]) (by rw [← Array.toList_inj, ht']) ht hl hr hn
          · simp at hs
        · simp at hs
      · simp at hs
    · rename_i hc
      split at hs
      · rename_i x y t t' hx ht'
        split at hs
        · rename_i e
          subst e
          exact snd_append hT ho hc (by rw [← Array.toList_inj, hx]) (by rw [← Array.toList_inj, ht']) hs hp hr hn
        · simp at hs
      · simp at hs
    · rename_i hc
      split at hs
      · rename_i x y hx
        exact snd_mm (mx := true) ho hc (by rw [← Array.toList_inj, hx]) hs hr hn
      · simp at hs
    · rename_i hc
      split at hs
      · rename_i x y hx
        exact snd_mm (mx := false) ho hc (by rw [← Array.toList_inj, hx]) hs hr hn
      · simp at hs
    · simp at hs
  · rename_i t x lo hi ho; exact snd_slice hT ho hs hp hr hn
  · simp at hs
end
end Go.T
/- T: what a step depends upon. -/
namespace Go.T
open Go

def St.res (st : St) (d : Option Tmp) (l : LV) (h : List Blk) : St := { (st.put d l) with heap := h }
theorem St.res_self (st : St) (d : Option Tmp) (l : LV) : st.res d l st.heap = st.put d l := by
  cases d <;> rfl
theorem St.go_res (st : St) (d : Option Tmp) (c : LC) : st.go d c = some (True, st.res d (.one c) st.heap) := by
  rw [St.res_self]; rfl

/-- A step that writes nothing: what it reads; its value. -/
def Reads (f : St → Res) (rd : Option Nat) (d : Option Tmp) : Prop := ∀ st p s, f st = some (p, s) → ∃ l, s = st.put d l ∧ ∀ st2 : St, (∀ id, rd = some id → st2.heap[id]? = st.heap[id]?) → f st2 = some (p, st2.put d l)
/-- A step that may write. -/
def Does (f : St → Res) (d : Option Tmp) : Prop := ∀ st p s, f st = some (p, s) → ∃ l h, s = st.res d l h ∧ ∀ st2 : St, st2.heap = st.heap → f st2 = some (p, st2.res d l h)

theorem Reads.does {f : St → Res} {rd : Option Nat} {d : Option Tmp} (h : Reads f rd d) : Does f d := fun st p s hs => by
  obtain ⟨l, h1, h2⟩ := h st p s hs
  refine ⟨l, st.heap, by rw [h1, St.res_self], fun st2 he => ?_⟩
  rw [← he, St.res_self]
  exact h2 st2 fun id _ => by rw [he]
theorem Reads.weak {f : St → Res} {d : Option Tmp} (rd : Option Nat) (h : Reads f none d) : Reads f rd d := fun st p s hs => by
  obtain ⟨l, h1, h2⟩ := h st p s hs
  exact ⟨l, h1, fun st2 _ => h2 st2 fun id h => by simp at h⟩
theorem Reads.const {d : Option Tmp} (p : Prop) (l : LV) : Reads (fun st => some (p, st.put d l)) none d := fun st p s hs => by
  cases hs; exact ⟨l, rfl, fun _ _ => rfl⟩
theorem Reads.none (rd : Option Nat) (d : Option Tmp) : Reads (fun _ => none) rd d := fun st p s hs => by simp at hs

/-- Where a value points. -/
def LV.rd : LV → Option Nat
  | .one (.ptr id _ _) => some id
  | .one (.own id) => some id
  | _ => none

theorem bin_reads (tt : TT) (op : BinOp) (t : Nat) (x y : LV) (d : Option Tmp) : Reads (stepBin tt op t x y d) none d := by
  intro st p s hs
  unfold stepBin at hs ⊢
  split at hs
  · split at hs
    · rename_i hk
      subst hk
      simp only [if_true]
      split at hs
      · cases hs; exact ⟨_, rfl, fun _ _ => rfl⟩
      · cases hs; exact ⟨_, rfl, fun _ _ => rfl⟩
      · rename_i op h1 h2
        split at hs
        · rename_i c hc
          cases hs
          refine ⟨_, rfl, fun st2 _ => ?_⟩
          first | rfl | (rw [hc]; rfl)
        · simp at hs
    · simp at hs
  · split at hs
    · cases hs; exact ⟨_, rfl, fun _ _ => rfl⟩
    · split at hs
      · rename_i c hc; cases hs; exact ⟨_, rfl, fun st2 _ => by first | rfl | (rw [hc]; rfl)⟩
      · simp at hs
  · split at hs
    · rename_i ti ht
      split at hs
      · rename_i hc
        split at hs
        · cases hs; exact ⟨_, rfl, fun st2 _ => by first | rfl | (rw [if_pos hc]; rfl) | (simp only [ht]; rw [if_pos hc]; rfl)⟩
        · cases hs; exact ⟨_, rfl, fun st2 _ => by first | rfl | (rw [if_pos hc]; rfl) | (simp only [ht]; rw [if_pos hc]; rfl)⟩
        · simp at hs
      · simp at hs
    · simp at hs
  · split at hs
    · rename_i ti ht
      split at hs
      · rename_i hc
        split at hs
        · rename_i e he
          split at hs
          · cases hs; exact ⟨_, rfl, fun st2 _ => by first | rfl | (rw [if_pos hc]; rfl) | (rw [if_pos hc, he]; rfl) | (simp only [ht]; rw [if_pos hc, he]; rfl)⟩
          · cases hs; exact ⟨_, rfl, fun st2 _ => by first | rfl | (rw [if_pos hc]; rfl) | (rw [if_pos hc, he]; rfl) | (simp only [ht]; rw [if_pos hc, he]; rfl)⟩
          · simp at hs
        · simp at hs
      · simp at hs
    · simp at hs
  · simp at hs

theorem un_reads (op : UnOp) (x : LV) (d : Option Tmp) : Reads (stepUn op x d) none d := by
  intro st p s hs
  unfold stepUn at hs ⊢
  split at hs
  · cases hs; exact ⟨_, rfl, fun _ _ => rfl⟩
  · cases hs; exact ⟨_, rfl, fun _ _ => rfl⟩
  · simp at hs

theorem load_reads (tt : TT) (t : Nat) (x : LV) (d : Option Tmp) : Reads (stepLoad tt t x d) x.rd d := by
  intro st p s hs
  unfold stepLoad at hs ⊢
  split at hs
  · simp at hs
  · rename_i ti ht
    split at hs
    · rename_i id i f
      split at hs
      · rename_i cs hb
        cases hs
        refine ⟨_, rfl, fun st2 h2 => ?_⟩
        have := h2 id rfl
        simp only [ht, this, hb]
      · rename_i e t xs dp mt n hb
        cases hs
        refine ⟨_, rfl, fun st2 h2 => ?_⟩
        have := h2 id rfl
        simp only [ht, this, hb]
      · simp at hs
    · cases hs
      exact ⟨_, rfl, fun st2 h2 => by simp only [ht]⟩
    · simp at hs

theorem field_reads (tt : TT) (t f : Nat) (x : LV) (d : Option Tmp) : Reads (stepField tt t f x d) x.rd d := by
  intro st p s hs
  unfold stepField at hs ⊢
  split at hs
  · simp at hs
  · rename_i ti ht
    split at hs
    · rename_i id i g o ho
      split at hs
      · simp at hs
      · rename_i hb
        cases hs
        refine ⟨_, rfl, fun st2 h2 => ?_⟩
        have := h2 id rfl
        first
          | rfl
          | (simp only [ht, ho, this]
             first
               | rfl
               | (split
                  · rename_i h'; exact absurd h' hb
                  · rfl))
    · rename_i t' v g n o ho
      cases hs
      exact ⟨_, rfl, fun st2 h2 => by first | rfl | (simp only [ht, ho]; rfl)⟩
    · simp at hs

theorem indexAddr_reads (tt : TT) (t : Nat) (x y : LV) (d : Option Tmp) : Reads (stepIndexAddr tt t x y d) x.rd d := by
  intro st p s hs
  unfold stepIndexAddr at hs ⊢
  split at hs
  · simp at hs
  · rename_i ti ht
    split at hs
    · split at hs
      · rename_i hc
        cases hs
        exact ⟨_, rfl, fun st2 h2 => by first | rfl | (rw [if_pos hc]) | (simp only [ht]; rw [if_pos hc])⟩
      · simp at hs
    · rename_i id k i
      split at hs
      · rename_i e t' xs dp mt n hb
        split at hs
        · rename_i hc
          cases hs
          refine ⟨_, rfl, fun st2 h2 => ?_⟩
          have := h2 id rfl
          simp only [ht, this, hb]
          rw [if_pos hc]
        · simp at hs
      · simp at hs
    · simp at hs

theorem index_reads (tt : TT) (t : Nat) (x y : LV) (d : Option Tmp) : Reads (stepIndex tt t x y d) none d := by
  intro st p s hs
  unfold stepIndex at hs ⊢
  split at hs
  · simp at hs
  · rename_i ti ht
    split at hs
    · split at hs
      · rename_i hc
        cases hs
        exact ⟨_, rfl, fun st2 h2 => by first | rfl | (rw [if_pos hc]) | (simp only [ht]; rw [if_pos hc])⟩
      · simp at hs
    · simp at hs

theorem lenOf_local (ti : TI) (x : LV) {h h2 : List Blk} (he : ∀ id, x.rd = some id → h2[id]? = h[id]?) : lenOf ti h2 x = lenOf ti h x := by
  unfold lenOf
  split <;> try rfl
  rename_i id
  rw [he id rfl]

theorem append_does (tt : TT) (t : Nat) (x y : LV) (d : Option Tmp) : Does (stepAppend tt t x y d) d := by
  intro st p s hs
  unfold stepAppend at hs ⊢
  split at hs
  · simp at hs
  · rename_i ti ht
    split at hs
    · rename_i e te hag hty
      split at hs
      · rename_i xs d1 i1 hd
        split at hs
        · rename_i ys d2 i2 hsr
          split at hs
          · rename_i hc
            cases hs
            refine ⟨_, _, rfl, fun st2 h2 => ?_⟩
            simp only [ht, hag, hty, h2, hd, hsr]
            rw [if_pos hc]
            rfl
          · simp at hs
        · simp at hs
      · simp at hs
    · simp at hs

theorem store_does (tt : TT) (t : Nat) (x y : LV) : Does (stepStore tt t x y) none := by
  intro st p s hs
  unfold stepStore at hs ⊢
  split at hs
  · simp at hs
  · rename_i ti ht
    split at hs
    · rename_i id i f
      dsimp only at hs ⊢
      split at hs
      · rename_i old hb
        cases hs
        exact ⟨.tup [], _, rfl, fun st2 h2 => by simp only [ht, h2, hb]; rfl⟩
      · rename_i e te xs dp n hb
        split at hs
        · rename_i hc
          split at hs
          · rename_i c hy
            split at hs
            · rename_i v hv
              cases hs
              exact ⟨.tup [], _, rfl, fun st2 h2 => by simp only [ht, h2, hb, hy]; rw [if_pos hc, hv]; rfl⟩
            · simp at hs
          · simp at hs
        · rename_i hc0
          split at hs
          · rename_i hc
            split at hs
            · rename_i v hv
              refine ⟨.tup [], s.heap, ?_, fun st2 h2 => ?_⟩
              · cases hdd : (dp && deepOf st.heap y.cells) <;> simp only [hdd, cond_true, cond_false] at hs <;> cases hs <;> rfl
              · simp only [ht, h2, hb]
                rw [if_neg hc0, if_pos hc, hv]
                cases hdd : (dp && deepOf st.heap y.cells) <;> simp only [hdd, cond_true, cond_false] at hs ⊢ <;> cases hs <;> rfl
            · simp at hs
          · simp at hs
      · simp at hs
    · simp at hs
end Go.T
/- T: contracts of functions; several new rows at once. -/
namespace Go.T
open Go

@[reducible] def Vals : List TI → Type
  | [] => Unit
  | ti :: r => Val ti.ty × Vals r

/-- What a function does: its parameters, its results; are the results its own; where it is sure; what it gives. -/
structure G where
  ps : List TI
  rs : List TI
  dp : Bool
  pre : Vals ps → Prop
  fn : Vals ps → Vals rs

def wrapped (agg : Bool) (cs : List Value) (u : Value) : Prop := match agg with
  | true => u = .agg cs.toArray
  | false => cs = [u]
def VKs (w : World) (ok : Nat → Prop) : (tis : List TI) → Vals tis → List Value → Prop
  | [], _, us => us = []
  | ti :: r, x, us => ∃ u rest cs, us = u :: rest ∧ K w ok ti.ty x.1 cs ∧ wrapped ti.agg cs u ∧ VKs w ok r x.2 rest
def VMs (w : World) : (tis : List TI) → Vals tis → List Value → List Nat → Prop
  | [], _, us, B => us = [] ∧ B = []
  | ti :: r, x, us, B => ∃ u rest cs B1 B2, us = u :: rest ∧ B = B1 ++ B2 ∧ M w ti.ty x.1 cs B1 ∧ wrapped ti.agg cs u ∧ VMs w r x.2 rest B2

def retV : List Value → Value
  | [u] => u
  | us => .tuple us.toArray

def Enters (P : Program) (f : FuncId) : Prop := ∃ fn, P.funcs[f]? = some fn ∧ fn.body.isNone = false ∧ (fn.name == "runtime.NumGoroutine") = false

structure Sound (P : Program) (f : FuncId) (g : G) : Prop where
  enters : Enters P f
  runs : ∀ x : Vals g.ps, g.pre x → ∀ (w : World) (ext : Nat → Prop) (vs : Array Value), VKs w ext g.ps x vs.toList → (∀ b, w.heap.size ≤ b → ext b) →
    Calls P f vs w fun e w' => ∃ us, e = .returned (retV us) ∧ Fr (fun _ => False) w w' ∧ (match g.dp with
      | true => ∃ B, VMs w' g.rs (g.fn x) us B ∧ B.Nodup ∧ ∀ b ∈ B, w.heap.size ≤ b
      | false => VKs w' ext g.rs (g.fn x) us)

/-! ### the caller's side -/
def LV.isAgg : LV → Option Bool
  | .one _ => some false
  | .agg _ => some true
  | .tup _ => none
def implodeArgs (h : List Blk) : (tis : List TI) → List LV → Option (Vals tis)
  | [], [] => some ()
  | ti :: r, l :: ls => if l.isAgg = some ti.agg then match implode h ti.ty l.cells with
      | some (x, []) => match implodeArgs h r ls with
        | some xs => some (x, xs)
        | none => none
      | _ => none
    else none
  | _, _ => none

/-- A value whose rows are new ones, numbered from base. -/
def explodeOwn : (base : Nat) → (t : Ty) → Val t → List LC × List Blk
  | _, .int k, v => ([.int k v], [])
  | _, .bool, v => ([.bool v], [])
  | _, .str, v => ([.str v], [])
  | _, .hdr, v => ([.hdr v], [])
  | base, .slice e t, v => ([.own base], [.row e t v true true 0])
  | base, .pair a b, v =>
    ((explodeOwn base a v.1).1 ++ (explodeOwn (base + (explodeOwn base a v.1).2.length) b v.2).1, (explodeOwn base a v.1).2 ++ (explodeOwn (base + (explodeOwn base a v.1).2.length) b v.2).2)
def explodeOwns : (base : Nat) → (tis : List TI) → Vals tis → List LV1 × List Blk
  | _, [], _ => ([], [])
  | base, ti :: r, x =>
    (⟨ti.agg, (explodeOwn base ti.ty x.1).1⟩ :: (explodeOwns (base + (explodeOwn base ti.ty x.1).2.length) r x.2).1, (explodeOwn base ti.ty x.1).2 ++ (explodeOwns (base + (explodeOwn base ti.ty x.1).2.length) r x.2).2)
def explodes (n : Nat) : (tis : List TI) → Vals tis → List LV1
  | [], _ => []
  | ti :: r, x => ⟨ti.agg, explode n ti.ty x.1⟩ :: explodes n r x.2
def retLV : List LV1 → LV
  | [v] => v.lv
  | vs => .tup vs

abbrev Gam := List (Nat × G)
def Gam.get : Gam → Nat → Option G
  | [], _ => none
  | (f, g) :: r, f' => if f = f' then some g else Gam.get r f'

def stepCall (Γ : Gam) (f : Nat) (args : List LV) (d : Option Tmp) (st : St) : Res := match Γ.get f with
  | none => none
  | some g => match implodeArgs st.heap g.ps args with
    | none => none
    | some x => match g.dp with
      | true => some (g.pre x, st.res d (retLV (explodeOwns st.heap.length g.rs (g.fn x)).1) (st.heap ++ (explodeOwns st.heap.length g.rs (g.fn x)).2))
      | false => some (g.pre x, st.res d (retLV (explodes st.heap.length g.rs (g.fn x))) (freeze st.heap (moved (args.flatMap LV.cells))))

theorem call_does (Γ : Gam) (f : Nat) (args : List LV) (d : Option Tmp) : Does (stepCall Γ f args d) d := by
  intro st p s hs
  unfold stepCall at hs ⊢
  split at hs
  · simp at hs
  · rename_i g hg
    split at hs
    · simp at hs
    · rename_i x hx
      split at hs
      · rename_i hd
        cases hs
        exact ⟨_, _, rfl, fun st2 h2 => by simp only [hg, h2, hx, hd]⟩
      · rename_i hd
        cases hs
        exact ⟨_, _, rfl, fun st2 h2 => by simp only [hg, h2, hx, hd]⟩

section
variable {w0 w w' : World} {mine : Mine} {m m' : Mp} {h h1 : List Blk}

/-- Several new blocks. -/
theorem HR.newL {xs : List Blk} (H : HR w0 mine w m h) (hw : Weakers h h1) (hfr : Fr (fun _ => False) w w')
    (hval : ∀ i, i < h.length → m'.val i = m.val i) (hblk : ∀ i, i < h.length → m'.blk i = m.blk i) (hnst : ∀ i, i < h.length → m'.nst i = m.nst i) (hext : m'.ext = m.ext)
    (hokx : ∀ n b, okAt m h n b → b < w.heap.size → ∀ j x, xs[j]? = some x → okB m' n b (h.length + j) x)
    (hbr : ∀ j x, xs[j]? = some x → BR w' m' (h1 ++ xs) (h.length + j) x)
    (hnd : ∀ j x, xs[j]? = some x → (fpB m' (h.length + j) x).Nodup)
    (hdj : ∀ j x j' x', j ≠ j' → xs[j]? = some x → xs[j']? = some x' → ∀ b ∈ fpB m' (h.length + j) x, b ∉ fpB m' (h.length + j') x')
    (hlt : ∀ j x, xs[j]? = some x → ∀ b ∈ fpB m' (h.length + j) x, w.heap.size ≤ b ∧ b < w'.heap.size) :
    HR w0 mine w' m' (h1 ++ xs) ∧ Oks w w' m m' h (h1 ++ xs) ∧ Sims m m' h (h1 ++ xs) := by
  obtain ⟨H1, hok1, hs1⟩ := H.weaker hw
  have hl1 := hw.1
  have get : ∀ id y, (h1 ++ xs)[id]? = some y → (id < h.length ∧ h1[id]? = some y) ∨ (∃ j, id = h.length + j ∧ xs[j]? = some y) := fun id y hy => by
    by_cases hl : id < h1.length
    · rw [List.getElem?_append_left hl] at hy; exact .inl ⟨by omega, hy⟩
    · rw [List.getElem?_append_right (by omega)] at hy
      exact .inr ⟨id - h1.length, by omega, hy⟩
  have okB_eq : ∀ n b id y, id < h.length → (okB m' n b id y ↔ okB m n b id y) := fun n b id y hl => by
    cases y <;> simp [okB, hval id hl, hblk id hl, hnst id hl]
  have fpB_eq : ∀ id y, id < h.length → fpB m' id y = fpB m id y := fun id y hl => by
    cases y <;> simp [fpB, hval id hl, hblk id hl, hnst id hl]
  have hok : Oks w w' m m' h (h1 ++ xs) := fun n b hb hl => ⟨hfr.block b hl (fun h => h), by rw [hext]; exact hb.1, fun id y hy => by
    rcases get id y hy with ⟨hl', hy'⟩ | ⟨j, rfl, hy'⟩
    · exact (okB_eq n b id y hl').2 ((hok1 n b hb hl).2.2 id y hy')
    · exact hokx n b hb hl j y hy'⟩
  have hs : Sims m m' h (h1 ++ xs) := fun id y hy => by
    have hl := (List.getElem?_eq_some_iff.1 hy).1
    obtain ⟨y1, hy1, hsm⟩ := hs1 id y hy
    refine ⟨y1, by rw [List.getElem?_append_left (by omega)]; exact hy1, ?_⟩
    cases y <;> cases y1 <;> simp_all [Sim]
  refine ⟨⟨fun id y hy => ?_, fun id y hy => ?_, fun id y1 id' y2 hne h1' h2' b hb hb' => ?_, fun id y hy b hb => ?_, ?_, hext.trans H.mx, H.nx, fun id v hp => by
    obtain ⟨h1, h2⟩ := H.pn id v hp
    exact ⟨by simp; omega, by rw [hval id h1]; exact h2⟩⟩, hok, hs⟩
  · rcases get id y hy with ⟨hl, hy'⟩ | ⟨j, rfl, hy'⟩
    · obtain ⟨y0, hy0, hwk⟩ : ∃ y0, h[id]? = some y0 ∧ Weaker y0 y := ⟨h[id], List.getElem?_eq_getElem hl, hw.2 id _ _ (List.getElem?_eq_getElem hl) hy'⟩
      exact BR_mono hok hs (hval id hl) (hblk id hl) (hnst id hl) (fun b hb => hfr.block b (H1.lt id y hy' b hb).1 (fun hA => hA)) (BR_weaker hwk (H.br id y0 hy0))
    · exact hbr j y hy'
  · rcases get id y hy with ⟨hl, hy'⟩ | ⟨j, rfl, hy'⟩
    · rw [fpB_eq id y hl]; exact H1.nd id y hy'
    · exact hnd j y hy'
  · rcases get id y1 h1' with ⟨hl1, hy1⟩ | ⟨j1, rfl, hy1⟩ <;> rcases get id' y2 h2' with ⟨hl2, hy2⟩ | ⟨j2, rfl, hy2⟩
    · rw [fpB_eq id y1 hl1] at hb; rw [fpB_eq id' y2 hl2] at hb'
      exact H1.dj id y1 id' y2 hne hy1 hy2 b hb hb'
    · rw [fpB_eq id y1 hl1] at hb
      have h1 := (H1.lt id y1 hy1 b hb).1
      have h2 := (hlt j2 y2 hy2 b hb').1
      omega
    · rw [fpB_eq id' y2 hl2] at hb'
      have h1 := (H1.lt id' y2 hy2 b hb').1
      have h2 := (hlt j1 y1 hy1 b hb).1
      omega
    · exact hdj j1 y1 j2 y2 (fun e => hne (by omega)) hy1 hy2 b hb hb'
  · rcases get id y hy with ⟨hl, hy'⟩ | ⟨j, rfl, hy'⟩
    · rw [fpB_eq id y hl] at hb
      have := H1.lt id y hy' b hb
      exact ⟨Nat.lt_of_lt_of_le this.1 hfr.size, this.2⟩
    · have := hlt j y hy' b hb
      exact ⟨this.2, .inl (Nat.le_trans H.fr.size this.1)⟩
  · exact hfr.lift H fun k hk => hk.elim
end
end Go.T
/- T: what a call gives. -/
namespace Go.T
open Go

abbrev RowR := Value × List Nat
def RowR.fp (r : RowR) : List Nat := r.1.ownBlock.toList ++ r.2
def RowOk (w : World) (x : Blk) (r : RowR) : Prop := ∃ (e : Nat) (t : Ty) (xs : List (Val t)) (inner : List Value), x = .row e t xs true true 0 ∧ w.ownsRow 0 e t.sz r.1 xs.length inner ∧ Ms (M w t) xs inner r.2
def CellR (base : Nat) (rl : List RowR) : LC → Value → Prop
  | .own id, u => ∃ j r, id = base + j ∧ rl[j]? = some r ∧ u = r.1
  | .int k n, u => u = .int k n
  | .bool b, u => u = .bool b
  | .str s, u => u = .string s
  | .hdr v, u => u = v ∧ v.oneCell' = true
  | _, _ => False

theorem CellR.left {base : Nat} {rl rl2 : List RowR} {c : LC} {u : Value} (h : CellR base rl c u) : CellR base (rl ++ rl2) c u := by
  cases c <;> simp only [CellR] at h ⊢ <;> try exact h
  obtain ⟨j, r, h1, h2, h3⟩ := h
  exact ⟨j, r, h1, by rw [List.getElem?_append_left (List.getElem?_eq_some_iff.1 h2).1]; exact h2, h3⟩
theorem CellR.right {base : Nat} {rl rl2 : List RowR} {c : LC} {u : Value} (h : CellR (base + rl.length) rl2 c u) : CellR base (rl ++ rl2) c u := by
  cases c <;> simp only [CellR] at h ⊢ <;> try exact h
  obtain ⟨j, r, h1, h2, h3⟩ := h
  exact ⟨rl.length + j, r, by omega, by rw [List.getElem?_append_right (by omega)]; simpa using h2, h3⟩

theorem M_rows {w : World} : ∀ {t : Ty} {v : Val t} {cs : List Value} {B : List Nat} (base : Nat), M w t v cs B → ∃ rl : List RowR, F2 (RowOk w) (explodeOwn base t v).2 rl ∧ B = rl.flatMap RowR.fp ∧ F2 (CellR base rl) (explodeOwn base t v).1 cs
  | .int _, _, _, _, _, h => by rw [M] at h; obtain ⟨rfl, rfl⟩ := h; exact ⟨[], .nil, rfl, .cons rfl .nil⟩
  | .bool, _, _, _, _, h => by rw [M] at h; obtain ⟨rfl, rfl⟩ := h; exact ⟨[], .nil, rfl, .cons rfl .nil⟩
  | .str, _, _, _, _, h => by rw [M] at h; obtain ⟨rfl, rfl⟩ := h; exact ⟨[], .nil, rfl, .cons rfl .nil⟩
  | .hdr, _, _, _, _, h => by rw [M] at h; obtain ⟨⟨rfl, h1⟩, rfl⟩ := h; exact ⟨[], .nil, rfl, .cons ⟨rfl, h1⟩ .nil⟩
  | .slice e t, xs, _, _, base, h => by
    rw [M] at h
    obtain ⟨v, inner, Bs, rfl, rfl, ho, hm⟩ := h
    exact ⟨[(v, Bs)], .cons ⟨e, t, xs, inner, rfl, ho, hm⟩ .nil, by simp [RowR.fp], .cons ⟨0, (v, Bs), by simp, rfl, rfl⟩ .nil⟩
  | .pair a b, v, _, _, base, h => by
    rw [M] at h
    obtain ⟨c1, c2, B1, B2, rfl, rfl, h1, h2⟩ := h
    obtain ⟨r1, f1, rfl, g1⟩ := M_rows base h1
    obtain ⟨r2, f2, rfl, g2⟩ := M_rows (base + (explodeOwn base a v.1).2.length) h2
    refine ⟨r1 ++ r2, f1.append f2, by simp, (g1.imp fun _ _ _ h => h.left).append (g2.imp fun _ _ _ h => ?_)⟩
    rw [f1.len] at h
    exact h.right

/-- The results' rows. -/
def V1R (base : Nat) (rl : List RowR) (l : LV1) (u : Value) : Prop := ∃ cs, F2 (CellR base rl) l.cs cs ∧ wrapped l.agg cs u
theorem VMs_rows {w : World} : ∀ {tis : List TI} {x : Vals tis} {us : List Value} {B : List Nat} (base : Nat), VMs w tis x us B → ∃ rl : List RowR, F2 (RowOk w) (explodeOwns base tis x).2 rl ∧ B = rl.flatMap RowR.fp ∧ F2 (V1R base rl) (explodeOwns base tis x).1 us
  | [], _, _, _, _, h => by obtain ⟨rfl, rfl⟩ := h; exact ⟨[], .nil, rfl, .nil⟩
  | ti :: r, x, _, _, base, h => by
    obtain ⟨u, rest, cs, B1, B2, rfl, rfl, h1, hw, h2⟩ := h
    obtain ⟨r1, f1, rfl, g1⟩ := M_rows base h1
    obtain ⟨r2, f2, rfl, g2⟩ := VMs_rows (base + (explodeOwn base ti.ty x.1).2.length) h2
    refine ⟨r1 ++ r2, f1.append f2, by simp, .cons ⟨cs, g1.imp fun _ _ _ h => h.left, hw⟩ (g2.imp fun _ _ _ h => ?_)⟩
    obtain ⟨cs', hf, hw'⟩ := h
    refine ⟨cs', hf.imp fun _ _ _ h => ?_, hw'⟩
    rw [f1.len] at h
    exact h.right

theorem flatMap_disj {α : Type} {f : α → List Nat} : ∀ {l : List α} {i j : Nat} {x y : α}, (l.flatMap f).Nodup → i ≠ j → l[i]? = some x → l[j]? = some y → ∀ b ∈ f x, b ∉ f y
  | a :: l, i, j, x, y, hn, hne, hi, hj, b, hx => by
    rw [List.flatMap_cons, List.nodup_append] at hn
    obtain ⟨_, h2, h3⟩ := hn
    have mem : ∀ {k : Nat} {z : α}, l[k]? = some z → ∀ b ∈ f z, b ∈ l.flatMap f := fun hk b hb => List.mem_flatMap.2 ⟨_, List.mem_of_getElem? hk, hb⟩
    cases i with
    | zero =>
      simp at hi; subst hi
      cases j with
      | zero => exact absurd rfl hne
      | succ j => exact fun hy => h3 b hx b (mem (by simpa using hj) b hy) rfl
    | succ i =>
      cases j with
      | zero =>
        simp at hj; subst hj
        exact fun hy => h3 b hy b (mem (by simpa using hi) b hx) rfl
      | succ j => exact flatMap_disj (i := i) (j := j) h2 (fun e => hne (by omega)) (by simpa using hi) (by simpa using hj) b hx
theorem flatMap_nodup {α : Type} {f : α → List Nat} : ∀ {l : List α} {i : Nat} {x : α}, (l.flatMap f).Nodup → l[i]? = some x → (f x).Nodup
  | a :: l, i, x, hn, hi => by
    rw [List.flatMap_cons, List.nodup_append] at hn
    cases i with
    | zero => simp at hi; subst hi; exact hn.1
    | succ i => exact flatMap_nodup hn.2.1 (by simpa using hi)

section
variable {w0 w w' : World} {mine : Mine} {m m' : Mp} {h h1 : List Blk}

def Mp.rows (m : Mp) (n : Nat) (rl : List RowR) : Mp := { m with val := fun i => if i < n then m.val i else (rl.getD (i - n) (undef, [])).1, nst := fun i => if i < n then m.nst i else (rl.getD (i - n) (undef, [])).2 }
theorem rows_get {m : Mp} {n j : Nat} {rl : List RowR} {r : RowR} (h : rl[j]? = some r) : (m.rows n rl).val (n + j) = r.1 ∧ (m.rows n rl).nst (n + j) = r.2 := by
  have : ¬ (n + j < n) := by omega
  simp [Mp.rows, h, List.getD, this]

theorem HR.results (H : HR w0 mine w m h) (hfr : Fr (fun _ => False) w w') {bl : List Blk} {rl : List RowR} (hf : F2 (RowOk w') bl rl) (hn : (rl.flatMap RowR.fp).Nodup) (hlo : ∀ b ∈ rl.flatMap RowR.fp, w.heap.size ≤ b) :
    HR w0 mine w' (m.rows h.length rl) (h ++ bl) ∧ Oks w w' m (m.rows h.length rl) h (h ++ bl) ∧ Sims m (m.rows h.length rl) h (h ++ bl) := by
  have hmem : ∀ {j : Nat} {r : RowR}, rl[j]? = some r → ∀ b ∈ r.fp, b ∈ rl.flatMap RowR.fp := fun hj b hb => List.mem_flatMap.2 ⟨_, List.mem_of_getElem? hj, hb⟩
  have hfp : ∀ {j : Nat} {x : Blk} {r : RowR}, rl[j]? = some r → RowOk w' x r → fpB (m.rows h.length rl) (h.length + j) x = r.fp := fun {j x r} hr hx => by
    obtain ⟨e, t, xs, inner, rfl, _⟩ := hx
    obtain ⟨h1, h2⟩ := rows_get (m := m) (n := h.length) hr
    simp only [fpB, h1, h2, RowR.fp]
  refine H.newL (Weakers.refl h) hfr (fun i hi => by simp [Mp.rows, hi]) (fun _ _ => rfl) (fun i hi => by simp [Mp.rows, hi]) rfl (fun n b hb hl j x hx => ?_) (fun j x hx => ?_) (fun j x hx => ?_) (fun j x j' x' hne hx hx' => ?_) (fun j x hx b hb => ?_)
  · obtain ⟨r, hr, hok⟩ := hf.get hx
    have hnb : b ∉ r.fp := fun hm => by have := hlo b (hmem hr b hm); omega
    obtain ⟨h1, h2⟩ := rows_get (m := m) (n := h.length) hr
    obtain ⟨e, t, xs, inner, rfl, _⟩ := hok
    refine ⟨fun _ ho => hnb ?_, fun _ _ hm => hnb ?_⟩
    · rw [h1] at ho; simp [RowR.fp, ho]
    · rw [h2] at hm; simp only [RowR.fp]; exact List.mem_append_right _ hm
  · obtain ⟨r, hr, hok⟩ := hf.get hx
    obtain ⟨h1, h2⟩ := rows_get (m := m) (n := h.length) hr
    obtain ⟨e, t, xs, inner, rfl, ho, hm⟩ := hok
    exact ⟨inner, by rw [h1]; exact ho, by simp only; rw [h2]; exact ⟨hm, Nat.zero_le _⟩⟩
  · obtain ⟨r, hr, hok⟩ := hf.get hx
    rw [hfp hr hok]
    exact flatMap_nodup hn hr
  · obtain ⟨r, hr, hok⟩ := hf.get hx
    obtain ⟨r', hr', hok'⟩ := hf.get hx'
    rw [hfp hr hok, hfp hr' hok']
    exact flatMap_disj hn hne hr hr'
  · obtain ⟨r, hr, hok⟩ := hf.get hx
    rw [hfp hr hok] at hb
    refine ⟨hlo b (hmem hr b hb), ?_⟩
    obtain ⟨e, t, xs, inner, rfl, ho, hm⟩ := hok
    rcases List.mem_append.1 hb with hb | hb
    · exact (ho.lt b (by simpa using hb)).2
    · exact Ms_lt (fun x c b hx => M_lt hx) hm b hb

theorem CellR_C {bl : List Blk} {rl : List RowR} (hf : F2 (RowOk w') bl rl) {c : LC} {u : Value} (hc : CellR h.length rl c u) : C w' (m.rows h.length rl) (h ++ bl) c u ∧ u.oneCell' = true := by
  cases c <;> simp only [CellR] at hc <;> try exact hc.elim
  · subst hc; exact ⟨rfl, rfl⟩
  · subst hc; exact ⟨rfl, rfl⟩
  · subst hc; exact ⟨rfl, rfl⟩
  · obtain ⟨rfl, h1⟩ := hc; exact ⟨⟨rfl, h1⟩, h1⟩
  · obtain ⟨j, r, rfl, hr, rfl⟩ := hc
    obtain ⟨x, hx, hok⟩ := hf.get' hr
    obtain ⟨h1, h2⟩ := rows_get (m := m) (n := h.length) hr
    obtain ⟨e, t, xs, inner, rfl, ho, hm⟩ := hok
    have : (h ++ bl)[h.length + j]? = some (.row e t xs true true 0) := by rw [List.getElem?_append_right (by omega)]; simpa using hx
    refine ⟨by simp only [C, this]; exact h1.symm, ?_⟩
    obtain ⟨A, c, hv, _⟩ := ownsRow_slice ho
    rw [hv]; rfl
theorem V1R_V1 {bl : List Blk} {rl : List RowR} (hf : F2 (RowOk w') bl rl) {l : LV1} {u : Value} (hc : V1R h.length rl l u) : V1 w' (m.rows h.length rl) (h ++ bl) l u := by
  obtain ⟨agg, lcs⟩ := l
  obtain ⟨cs, h1, h2⟩ := hc
  cases agg with
  | true =>
    simp only [wrapped] at h2
    subst h2
    exact ⟨cs.toArray, rfl, by simpa using h1.imp fun _ _ _ hc => (CellR_C hf hc).1⟩
  | false =>
    simp only [wrapped] at h2
    subst h2
    cases h1 with
    | cons hc hr => cases hr; exact ⟨_, rfl, (CellR_C (m := m) hf hc).1, (CellR_C (m := m) (h := h) hf hc).2⟩

theorem ret_V {ls : List LV1} {us : List Value} (hf : F2 (V1 w m h) ls us) : V w m h (retLV ls) (retV us) := by
  cases hf with
  | nil => exact ⟨#[], rfl, .nil⟩
  | cons h1 h2 =>
    cases h2 with
    | nil => exact V1_V h1
    | cons h2 h3 => exact ⟨_, rfl, by simpa using .cons h1 (.cons h2 h3)⟩
end
end Go.T
/- T: calls. -/
namespace Go.T
open Go

section
variable {P : Program} {tt : TT} {o : Oper} {a : Act} {w0 w w' : World} {mine : Mine} {m m' : Mp} {h h1 : List Blk} {st : St} {next : Act → World → Prop} {Q : Exit → Act → World → Prop}

theorem V_def {l : LV} {v : Value} (hv : V w m h l v) : ∀ c ∈ l.cells, ∃ u, C w m h c u := by
  intro c hc
  cases l with
  | one c' => simp [LV.cells] at hc; subst hc; exact ⟨v, hv⟩
  | agg cs =>
    obtain ⟨vs, rfl, hf⟩ := hv
    obtain ⟨i, hi⟩ := List.getElem?_of_mem hc
    obtain ⟨u, _, hC⟩ := hf.get hi
    exact ⟨u, hC⟩
  | tup => simp [LV.cells] at hc

theorem implodeArgs_K {ok : Nat → Prop} (H : ∀ id x, h[id]? = some x → BR w m h id x) : ∀ {tis : List TI} {ls : List LV} {vs : List Value} {x : Vals tis}, F2 (V w m h) ls vs → implodeArgs h tis ls = some x →
    (∀ l ∈ ls, ∀ c ∈ l.cells, okC w m h ok c) → VKs w ok tis x vs
  | [], _, _, _, .nil, _, _ => rfl
  | [], _, _, _, .cons _ _, hi, _ => by simp [implodeArgs] at hi
  | ti :: r, _, _, _, .nil, hi, _ => by simp [implodeArgs] at hi
  | ti :: r, _, _, x, .cons (a := l) (b := v) hv hvs, hi, hok => by
    simp only [implodeArgs] at hi
    split at hi
    · rename_i hag
      split at hi
      · rename_i y hy
        split at hi
        · rename_i ys hys
          cases hi
          have h2 := implodeArgs_K H hvs hys fun l hl => hok l (List.mem_cons_of_mem _ hl)
          cases l with
          | tup => simp [LV.isAgg] at hag
          | one c =>
            simp only [LV.isAgg, Option.some.injEq] at hag
            obtain ⟨v1, v2, hvs', hk, hr, _⟩ := implode_K (ok := ok) H (F2.cons hv .nil) hy (fun c hc => hok _ List.mem_cons_self c hc)
            cases hr
            rw [List.append_nil] at hvs'
            refine ⟨v, _, [v], rfl, by rw [hvs']; exact hk, ?_, h2⟩
            rw [← hag]; rfl
          | agg cs =>
            simp only [LV.isAgg, Option.some.injEq] at hag
            obtain ⟨us, rfl, hf⟩ := hv
            obtain ⟨v1, v2, hvs', hk, hr, _⟩ := implode_K (ok := ok) H hf hy (fun c hc => hok _ List.mem_cons_self c hc)
            cases hr
            rw [List.append_nil] at hvs'
            refine ⟨.agg us, _, us.toList, rfl, by rw [hvs']; exact hk, ?_, h2⟩
            rw [← hag]; simp [wrapped]
        · simp at hi
      · simp at hi
    · simp at hi

theorem args_F2 (H : HR w0 mine w m st.heap) (he : F2 (V w m st.heap) st.env a.tmps.toList) : ∀ xs : List Operand, F2 (V w m st.heap) (xs.map st.ev) (xs.map a.eval)
  | [] => .nil
  | x :: xs => .cons (R.ev H he x) (args_F2 H he xs)

theorem freeze_get : ∀ (ids : List Nat) (h : List Blk) (i : Nat), (freeze h ids)[i]? = (h[i]?).map fun b => if i ∈ ids then b.froze else b
  | [], h, i => by simp [freeze]
  | j :: r, h, i => by
    have : freeze h (j :: r) = freeze (h.modify j Blk.froze) r := rfl
    rw [this, freeze_get r, List.getElem?_modify]
    cases h[i]? with
    | none => simp
    | some b =>
      by_cases e : j = i
      · subst e
        by_cases hm : j ∈ r
        · simp [hm]; cases b <;> rfl
        · simp [hm]
      · have e' : ¬ i = j := fun h => e h.symm
        simp [e, e']

theorem V1_explode {n : Nat} {agg : Bool} {t : Ty} {y : Val t} {cs : List Value} {u : Value} (hk : K w (okAt m h n) t y cs) (hw : wrapped agg cs u) : V1 w m h ⟨agg, explode n t y⟩ u := by
  have hc := explode_C hk
  cases agg with
  | true =>
    simp only [wrapped] at hw
    subst hw
    exact ⟨cs.toArray, rfl, by simpa using hc⟩
  | false =>
    simp only [wrapped] at hw
    subst hw
    generalize explode n t y = es at hc
    cases hc with
    | cons h1 h2 => cases h2; exact ⟨_, rfl, h1, K_one hk u (by simp)⟩
theorem VKs_explodes {n : Nat} : ∀ {tis : List TI} {x : Vals tis} {us : List Value}, VKs w (okAt m h n) tis x us → F2 (V1 w m h) (explodes n tis x) us
  | [], _, _, hv => by rw [VKs] at hv; subst hv; exact .nil
  | ti :: r, x, _, hv => by
    obtain ⟨u, rest, cs, rfl, hk, hw, h2⟩ := hv
    exact .cons (V1_explode hk hw) (VKs_explodes h2)
theorem VKs_step {ok ok' : Nat → Prop} (hm : ∀ b, ok b → b < w.heap.size → w'.heap[b]? = w.heap[b]?) (hok : ∀ b, ok b → b < w.heap.size → ok' b) : ∀ {tis : List TI} {x : Vals tis} {us : List Value}, VKs w ok tis x us → VKs w' ok' tis x us
  | [], _, _, hv => hv
  | ti :: r, x, _, hv => by
    obtain ⟨u, rest, cs, rfl, hk, hw, h2⟩ := hv
    exact ⟨u, rest, cs, rfl, K_step hm hok hk, hw, VKs_step hm hok h2⟩

theorem run_enter {c : Call} {f : FuncId} (ho : o.op = .call c) (hc : c.callee = .value (.func f)) (hen : Enters P f) : (execOp a.eval o).run P w = .ok (.enter f (c.args.map a.eval)) w := by
  obtain ⟨fn, h1, h2, h3⟩ := hen
  simp only [execOp, ho, resolve, hc, Act.eval, Deferred.ofValue, Sem.run_bind]
  have h2' : fn.body ≠ none := by intro e; rw [e] at h2; simp at h2
  have h3' : fn.name ≠ "runtime.NumGoroutine" := by intro e; rw [e] at h3; simp at h3
  simp [invoke, callFunc, h1, h2', h3']

theorem snd_call {Γ : Gam} (hΓ : ∀ f g, Γ.get f = some g → Sound P f g) {c : Call} {f : Nat} (ho : o.op = .call c) (hc : c.callee = .value (.func f)) {p : Prop} {st' : St} (hs : stepCall Γ f (c.args.toList.map st.ev) o.dst st = some (p, st')) (hp : p)
    (hr : R w0 mine st a w) (hn : ∀ a' w', R w0 mine st' a' w' → next a' w') : o.wp P a w next Q := by
  obtain ⟨hd, m, H, he⟩ := hr
  unfold stepCall at hs
  split at hs
  · simp at hs
  rename_i g hg
  have S := hΓ f g hg
  split at hs
  · simp at hs
  rename_i x hx
  have hargs := args_F2 H he c.args.toList
  have hvs : (c.args.map a.eval).toList = c.args.toList.map a.eval := by simp
  rw [← hvs] at hargs
  unfold Oper.wp
  rw [run_enter ho hc S.enters, Oper.upon_enter]
  split at hs
  · rename_i hdp
    cases hs
    have hk := implodeArgs_K (ok := fun _ => True) H.br hargs hx (fun l _ c _ => by
      cases c <;> simp only [okC]
      · exact fun _ _ _ => trivial
      · intro x _
        exact ⟨fun _ _ => trivial, by split <;> simp⟩)
    refine Calls.mono (S.runs x hp w _ _ hk fun _ _ => trivial) fun e w' he' => ?_
    obtain ⟨us, rfl, hfr, hres⟩ := he'
    rw [hdp] at hres
    obtain ⟨B, hM, hnd, hlo⟩ := hres
    obtain ⟨rl, hf, rfl, hcs⟩ := VMs_rows st.heap.length hM
    obtain ⟨H', hok, hsm⟩ := HR.results H hfr hf hnd hlo
    refine hn _ _ ⟨by rw [put_defers]; exact hd, _, H', ?_⟩
    show F2 (V w' _ _) (st.put o.dst _).env _
    rw [St.put_env]
    exact env_put (env_mono hok hsm he) o.dst (ret_V (hcs.imp fun _ _ _ h => V1R_V1 hf h))
  · rename_i hdp
    cases hs
    obtain ⟨H1, hok1, hs1⟩ := H.weaker (Weakers.freeze st.heap (moved ((c.args.toList.map st.ev).flatMap LV.cells)))
    generalize hids : moved ((c.args.toList.map st.ev).flatMap LV.cells) = ids at *
    have hlen : (freeze st.heap ids).length = st.heap.length := (Weakers.freeze st.heap ids).1
    have top : ∀ n b, okAt m st.heap n b → b < w.heap.size → okAt m (freeze st.heap ids) st.heap.length b := fun n b hb hl => by
      have := okAt_top H1.lo_le (hok1 n b hb hl).2
      rwa [hlen] at this
    have hk := implodeArgs_K (ok := okAt m (freeze st.heap ids) st.heap.length) H.br hargs hx (fun l hl c' hc' => by
      cases c' with
      | sl e t xs n => exact fun b hb hlt => top n b hb hlt
      | own id =>
        intro y hy
        have hid : id ∈ ids := by rw [← hids]; exact mem_moved (List.mem_flatMap.2 ⟨l, hl, hc'⟩)
        obtain ⟨i, hi⟩ := List.getElem?_of_mem hl
        obtain ⟨v, _, hV⟩ := hargs.get hi
        obtain ⟨u, hu⟩ := V_def hV _ hc'
        simp only [C, hy] at hu
        have hz : (freeze st.heap ids)[id]? = some y.froze := by rw [freeze_get, hy]; simp [hid]
        refine ⟨fun b hb => ⟨by rw [H.mx]; exact H.nx b (H.lt id y hy b hb).2, fun j z hj => ?_⟩, ?_⟩
        · by_cases e : j = id
          · subst e
            rw [hz] at hj
            cases hj
            cases y with
            | box => exact hu.elim
            | fra => exact hu.elim
            | dead => trivial
            | row e t xs dp mt k =>
              have hjl := (List.getElem?_eq_some_iff.1 hy).1
              refine ⟨fun h _ => ?_, fun hdp' hle _ => ?_⟩
              · simp at h; omega
              · subst hdp'
                have := H.lo_le j e t xs mt k hy
                omega
          · have hzl : z ∈ (freeze st.heap ids)[j]? := hj
            have hdj := H1.dj id _ j z (fun e' => e e'.symm) hz hj b (by cases y <;> exact hb)
            cases z with
            | dead => trivial
            | box cs => show b ≠ m.blk j; simpa [fpB] using hdj
            | fra F Φ => exact hdj
            | row e t xs dp mt k =>
              simp only [fpB, List.mem_append, not_or] at hdj
              refine ⟨fun _ hob => hdj.1 (by simp [hob]), fun hd _ hm => ?_⟩
              subst hd
              exact hdj.2 hm
        · cases y with
          | row e t xs dp mt k =>
            cases dp with
            | true => trivial
            | false => exact fun b hb hlt => top k b hb hlt
          | _ => trivial
      | _ => trivial)
    have hext : ∀ b, w.heap.size ≤ b → okAt m (freeze st.heap ids) st.heap.length b := fun b hb => by
      refine ⟨by rw [H.mx]; exact H.nx b (.inl (Nat.le_trans H.fr.size hb)), fun j z hj => ?_⟩
      have hdj : b ∉ fpB m j z := fun hm => by have := (H1.lt j z hj b hm).1; omega
      cases z with
      | dead => trivial
      | box cs => show b ≠ m.blk j; simpa [fpB] using hdj
      | fra F Φ => exact hdj
      | row e t xs dp mt k =>
        simp only [fpB, List.mem_append, not_or] at hdj
        refine ⟨fun _ hob => hdj.1 (by simp [hob]), fun hd _ hm => ?_⟩
        subst hd
        exact hdj.2 hm
    refine Calls.mono (S.runs x hp w _ _ hk hext) fun e w' he' => ?_
    obtain ⟨us, rfl, hfr, hres⟩ := he'
    rw [hdp] at hres
    obtain ⟨H', hok, hsm⟩ := HR.results (bl := []) (rl := []) H1 hfr .nil (by simp) (by simp)
    rw [hlen, List.append_nil] at H' hok hsm
    refine hn _ _ ⟨by rw [put_defers]; exact hd, _, H', ?_⟩
    show F2 (V w' _ _) (st.put o.dst _).env _
    rw [St.put_env]
    refine env_put (env_mono hok hsm (env_mono hok1 hs1 he)) o.dst (ret_V (VKs_explodes ?_))
    have hsame : ∀ b, okAt m (freeze st.heap ids) st.heap.length b → okAt (m.rows st.heap.length []) (freeze st.heap ids) st.heap.length b := fun b hb => ⟨hb.1, fun j z hj => by
      have hjl : j < st.heap.length := by rw [← hlen]; exact (List.getElem?_eq_some_iff.1 hj).1
      have := hb.2 j z hj
      cases z with
      | dead => trivial
      | box cs => exact this
      | fra F Φ => exact this
      | row e t xs dp mt k => simpa [okB, Mp.rows, hjl] using this⟩
    exact VKs_step (fun _ _ _ => rfl) (fun b hb _ => hsame b hb) hres
end
end Go.T
/- T: each operation's dependence. -/
namespace Go.T
open Go

def stepAll (tt : TT) (Γ : Gam) (o : Oper) (st : St) : Res := match o.op with
  | .call c => match c.callee with
    | .value (.func f) => stepCall Γ f (c.args.toList.map st.ev) o.dst st
    | _ => stepOp tt o st
  | _ => stepOp tt o st

/-- Writes nothing. -/
def quietB (o : Oper) : Bool := match o.op with
  | .move _ | .assign _ | .pick .. | .build .. | .load .. | .fieldAddr .. | .indexAddr .. | .binOp .. | .unOp .. | .extract .. | .nilCheck _ | .index .. => true
  | .call c => match c.callee with
    | .builtin .len => true
    | _ => false
  | _ => false
/-- What a quiet one reads. -/
def opRd (o : Oper) (st : St) : Option Nat := match o.op with
  | .load _ x | .fieldAddr _ x _ | .indexAddr _ x _ | .nilCheck x => (st.ev x).rd
  | .call c => match c.args.toList with
    | [x] => (st.ev x).rd
    | _ => none
  | _ => none

section
variable {tt : TT} {Γ : Gam} {o : Oper}

theorem quiet_op (hq : quietB o = true) {st : St} {p : Prop} {s : St} (hs : stepOp tt o st = some (p, s)) : ∃ l, s = st.put o.dst l ∧ ∀ st2 : St, (∀ x ∈ o.op.operands, st2.ev x = st.ev x) → (∀ id, opRd o st = some id → st2.heap[id]? = st.heap[id]?) → stepOp tt o st2 = some (p, st2.put o.dst l) := by
  obtain ⟨dst, op, type, pos, after, guard⟩ := o
  cases op <;> simp only [quietB, Bool.false_eq_true] at hq
  case move x =>
    simp only [stepOp] at hs ⊢
    cases hs
    exact ⟨_, rfl, fun st2 h2 _ => by rw [h2 x (by simp [Op.operands])]⟩
  case assign x =>
    simp only [stepOp] at hs ⊢
    cases hs
    exact ⟨_, rfl, fun st2 h2 _ => by rw [h2 x (by simp [Op.operands])]⟩
  case pick c x y =>
    simp only [stepOp] at hs
    split at hs
    · rename_i b hc
      split at hs
      · rename_i bx bY hx hy
        cases hs
        refine ⟨_, rfl, fun st2 h2 _ => ?_⟩
        simp only [stepOp]
        rw [h2 c (by simp [Op.operands]), h2 x (by simp [Op.operands]), h2 y (by simp [Op.operands]), hc, hx, hy]; rfl
      · rename_i hne
        cases hs
        refine ⟨_, rfl, fun st2 h2 _ => ?_⟩
        simp only [stepOp]
        rw [h2 c (by simp [Op.operands]), h2 x (by simp [Op.operands]), h2 y (by simp [Op.operands]), hc]
        simp only
    · simp at hs
  case build t ps =>
    simp only [stepOp] at hs
    split at hs
    · rename_i ti ht
      split at hs
      · simp at hs
      · rename_i hne
        split at hs
        · rename_i cs hf
          cases hs
          refine ⟨_, rfl, fun st2 h2 _ => ?_⟩
          simp only [stepOp, ht]
          have : (ps.toList.map fun p => (p.1, (st2.ev p.2).cells)) = ps.toList.map fun p => (p.1, (st.ev p.2).cells) := by
            refine List.map_congr_left fun q hq => ?_
            rw [h2 q.2 (by simp only [Op.operands, List.mem_toArray, List.mem_map]; exact ⟨q, hq, rfl⟩)]
          rw [if_neg hne, this, hf]
        · simp at hs
    · simp at hs
  case load t x =>
    simp only [stepOp] at hs ⊢
    obtain ⟨l, h1, h2⟩ := load_reads tt t (st.ev x) dst st p s hs
    exact ⟨l, h1, fun st2 he hr => by rw [he x (by simp [Op.operands])]; exact h2 st2 hr⟩
  case fieldAddr t x f =>
    simp only [stepOp] at hs ⊢
    obtain ⟨l, h1, h2⟩ := field_reads tt t f (st.ev x) dst st p s hs
    exact ⟨l, h1, fun st2 he hr => by rw [he x (by simp [Op.operands])]; exact h2 st2 hr⟩
  case indexAddr t x y =>
    simp only [stepOp] at hs ⊢
    obtain ⟨l, h1, h2⟩ := indexAddr_reads tt t (st.ev x) (st.ev y) dst st p s hs
    exact ⟨l, h1, fun st2 he hr => by rw [he x (by simp [Op.operands]), he y (by simp [Op.operands])]; exact h2 st2 hr⟩
  case binOp op t x y ty =>
    simp only [stepOp] at hs ⊢
    obtain ⟨l, h1, h2⟩ := bin_reads tt op t (st.ev x) (st.ev y) dst st p s hs
    exact ⟨l, h1, fun st2 he hr => by rw [he x (by simp [Op.operands]), he y (by simp [Op.operands])]; exact h2 st2 fun id h => by simp at h⟩
  case unOp op t x =>
    simp only [stepOp] at hs ⊢
    obtain ⟨l, h1, h2⟩ := un_reads op (st.ev x) dst st p s hs
    exact ⟨l, h1, fun st2 he hr => by rw [he x (by simp [Op.operands])]; exact h2 st2 fun id h => by simp at h⟩
  case extract x i =>
    simp only [stepOp] at hs ⊢
    split at hs
    · rename_i vs hx
      split at hs
      · rename_i v hv
        cases hs
        exact ⟨_, rfl, fun st2 he hr => by rw [he x (by simp [Op.operands]), hx]; simp only [hv]⟩
      · simp at hs
    · simp at hs
  case nilCheck x =>
    simp only [stepOp] at hs ⊢
    split at hs
    · rename_i id i f hx
      split at hs
      · simp at hs
      · rename_i hb
        cases hs
        refine ⟨_, rfl, fun st2 he hr => ?_⟩
        have hr' := hr id (by simp only [opRd, hx, LV.rd])
        rw [he x (by simp [Op.operands]), hx]
        simp only [hr']
        first
          | rfl
          | (split
             · rename_i h'; exact absurd h' hb
             · rfl)
    · simp at hs
  case index t x y =>
    simp only [stepOp] at hs ⊢
    obtain ⟨l, h1, h2⟩ := index_reads tt t (st.ev x) (st.ev y) dst st p s hs
    exact ⟨l, h1, fun st2 he hr => by rw [he x (by simp [Op.operands]), he y (by simp [Op.operands])]; exact h2 st2 fun id h => by simp at h⟩
  case call c =>
    split at hq
    · rename_i hc
      simp only [stepOp, hc] at hs ⊢
      split at hs
      · rename_i x t hx ht'
        split at hs
        · rename_i ti ht
          split at hs
          · rename_i n hl
            cases hs
            refine ⟨_, rfl, fun st2 he hr => ?_⟩
            have hx' := he x (by
              have : x ∈ c.args := by rw [← Array.mem_toList_iff, hx]; simp
              simp [Op.operands, Call.operands, this])
            rw [hx']
            rw [lenOf_local ti (st.ev x) (h := st.heap) (h2 := st2.heap) (fun id hid => hr id (by simp only [opRd, hx]; exact hid)), hl]
            rfl
          · simp at hs
        · simp at hs
      · simp at hs
    · simp at hq

theorem mm_does (mx : Bool) (x y : LV) (d : Option Tmp) : Does (stepMM mx x y d) d := by
  intro st p s hs
  unfold stepMM at hs ⊢
  split at hs
  · split at hs
    · rename_i e
      cases hs
      exact ⟨_, st.heap, (by rw [St.res_self]), fun st2 h2 => by simp only [e, if_true, St.go]; rw [← h2, St.res_self]⟩
    · simp at hs
  · simp at hs
theorem slice_does (tt : TT) (t : Nat) (x : LV) (lo hi : Option LV) (d : Option Tmp) : Does (stepSlice tt t x lo hi d) d := by
  intro st p s hs
  unfold stepSlice at hs ⊢
  split at hs
  · simp at hs
  · rename_i ti ht
    split at hs
    · split at hs
      · rename_i l h hl hh
        split at hs
        · rename_i hc
          cases hs
          exact ⟨_, st.heap, by rw [St.res_self], fun st2 h2 => by simp only [ht, hl, hh, if_pos hc]; rw [← h2, St.res_self]⟩
        · simp at hs
      · simp at hs
    · split at hs
      · rename_i l h hl hh
        split at hs
        · rename_i hc
          cases hs
          exact ⟨_, st.heap, by rw [St.res_self], fun st2 h2 => by simp only [ht, hl, hh, if_pos hc]; rw [← h2, St.res_self]⟩
        · simp at hs
      · simp at hs
    · simp at hs

theorem does_op {st : St} {p : Prop} {s : St} (hs : stepAll tt Γ o st = some (p, s)) : ∃ l h, s = st.res o.dst l h ∧ ∀ st2 : St, (∀ x ∈ o.op.operands, st2.ev x = st.ev x) → st2.heap = st.heap → stepAll tt Γ o st2 = some (p, st2.res o.dst l h) := by
  by_cases hq : quietB o = true
  · have hall : ∀ st, stepAll tt Γ o st = stepOp tt o st := fun st => by
      unfold stepAll
      unfold quietB at hq
      split
      · rename_i c ho
        rw [ho] at hq
        simp only at hq
        split
        · rename_i f hc; rw [hc] at hq; simp at hq
        · rfl
      · rfl
    rw [hall] at hs
    obtain ⟨l, h1, h2⟩ := quiet_op hq hs
    refine ⟨l, st.heap, by rw [h1, St.res_self], fun st2 he hh => ?_⟩
    rw [hall, ← hh, St.res_self]
    exact h2 st2 he fun id _ => by rw [hh]
  · obtain ⟨dst, op, type, pos, after, guard⟩ := o
    cases op <;> simp only [quietB, not_true_eq_false] at hq <;> simp only [stepAll] at hs ⊢
    case call c =>
      split at hs
      · rename_i f hc
        obtain ⟨l, h, h1, h2⟩ := call_does Γ f _ dst st p s hs
        refine ⟨l, h, h1, fun st2 he hh => ?_⟩
        have : c.args.toList.map st2.ev = c.args.toList.map st.ev := List.map_congr_left fun x hx => he x (by
          have : x ∈ c.args := by rw [← Array.mem_toList_iff]; exact hx
          simp [Op.operands, Call.operands, this])
        rw [this]
        exact h2 st2 hh
      · rename_i hne
        simp only [stepOp] at hs ⊢
        split at hs
        · rename_i hc; rw [hc] at hq; simp at hq
        · rename_i hc
          split at hs
          · rename_i x y t t' hx ht'
            split at hs
            · rename_i e
              obtain ⟨l, h, h1, h2⟩ := append_does tt t (st.ev x) (st.ev y) dst st p s hs
              refine ⟨l, h, h1, fun st2 he hh => ?_⟩
              have hx' := he x (by
                have : x ∈ c.args := by rw [← Array.mem_toList_iff, hx]; simp
                simp [Op.operands, Call.operands, this])
              have hy' := he y (by
                have : y ∈ c.args := by rw [← Array.mem_toList_iff, hx]; simp
                simp [Op.operands, Call.operands, this])
              rw [if_pos e, hx', hy']
              exact h2 st2 hh
            · simp at hs
          · simp at hs
        · rename_i hc
          split at hs
          · rename_i x y hx
            obtain ⟨l, h, h1, h2⟩ := mm_does true (st.ev x) (st.ev y) dst st p s hs
            refine ⟨l, h, h1, fun st2 he hh => ?_⟩
            have hx' := he x (by
              have : x ∈ c.args := by rw [← Array.mem_toList_iff, hx]; simp
              simp [Op.operands, Call.operands, this])
            have hy' := he y (by
              have : y ∈ c.args := by rw [← Array.mem_toList_iff, hx]; simp
              simp [Op.operands, Call.operands, this])
            rw [hx', hy']
            exact h2 st2 hh
          · simp at hs
        · rename_i hc
          split at hs
          · rename_i x y hx
            obtain ⟨l, h, h1, h2⟩ := mm_does false (st.ev x) (st.ev y) dst st p s hs
            refine ⟨l, h, h1, fun st2 he hh => ?_⟩
            have hx' := he x (by
              have : x ∈ c.args := by rw [← Array.mem_toList_iff, hx]; simp
              simp [Op.operands, Call.operands, this])
            have hy' := he y (by
              have : y ∈ c.args := by rw [← Array.mem_toList_iff, hx]; simp
              simp [Op.operands, Call.operands, this])
            rw [hx', hy']
            exact h2 st2 hh
          · simp at hs
        · simp at hs
    case slice t x lo hi mx =>
      cases mx with
      | some _ => simp [stepOp] at hs
      | none =>
        simp only [stepOp] at hs ⊢
        obtain ⟨l, h, h1, h2⟩ := slice_does tt t (st.ev x) (lo.map st.ev) (hi.map st.ev) dst st p s hs
        refine ⟨l, h, h1, fun st2 he hh => ?_⟩
        have hlo : lo.map st2.ev = lo.map st.ev := by
          cases lo with
          | none => rfl
          | some y => simp [he y (by simp [Op.operands])]
        have hhi : hi.map st2.ev = hi.map st.ev := by
          cases hi with
          | none => rfl
          | some y => simp [he y (by simp [Op.operands])]
        rw [he x (by simp [Op.operands]), hlo, hhi]
        exact h2 st2 hh
    case alloc t =>
      simp only [stepOp] at hs ⊢
      split at hs
      · rename_i ti ht
        cases hs
        exact ⟨_, _, rfl, fun st2 he hh => by simp only [St.new, hh]; rfl⟩
      · simp at hs
    case box t x =>
      simp only [stepOp] at hs ⊢
      split at hs
      · rename_i ti ht
        cases hs
        exact ⟨_, _, rfl, fun st2 he hh => by rw [he x (by simp [Op.operands])]; simp only [St.new, hh]; rfl⟩
      · simp at hs
    case store t x y =>
      simp only [stepOp] at hs ⊢
      split at hs
      · obtain ⟨l, h, h1, h2⟩ := store_does tt t (st.ev x) (st.ev y) st p s hs
        exact ⟨l, h, h1, fun st2 he hh => by rw [he x (by simp [Op.operands]), he y (by simp [Op.operands])]; exact h2 st2 hh⟩
      · simp at hs
    case makeSlice t l c =>
      simp only [stepOp] at hs ⊢
      split at hs
      · rename_i ti k n k' cp ht el ec
        split at hs
        · rename_i e te hag hty
          cases hs
          refine ⟨_, _, rfl, fun st2 he hh => ?_⟩
          rw [he l (by simp [Op.operands]), he c (by simp [Op.operands]), el, ec]
          simp only [ht, hag, hty, St.new, hh]
          rfl
        · simp at hs
      · simp at hs
    case buildSlice t n ps =>
      simp only [stepOp] at hs ⊢
      split at hs
      · rename_i ti ht
        split at hs
        · rename_i e te hag hty
          split at hs
          · rename_i hc
            split at hs
            · rename_i xs hxs
              cases hs
              refine ⟨_, _, rfl, fun st2 he hh => ?_⟩
              have : (ps.toList.map fun p => (st2.ev p.2).cells) = ps.toList.map fun p => (st.ev p.2).cells := by
                refine List.map_congr_left fun q hq => ?_
                rw [he q.2 (by simp only [Op.operands, List.mem_toArray, List.mem_map]; exact ⟨q, hq, rfl⟩)]
              simp only [this, hh]
              rw [if_pos hc, hxs]
              rfl
            · simp at hs
          · simp at hs
        · simp at hs
      · simp at hs
    all_goals (simp [stepOp] at hs)

theorem stepAll_quiet (hq : quietB o = true) (st : St) : stepAll tt Γ o st = stepOp tt o st := by
  unfold stepAll
  unfold quietB at hq
  split
  · rename_i c ho
    rw [ho] at hq
    simp only at hq
    split
    · rename_i f hc; rw [hc] at hq; simp at hq
    · rfl
  · rfl
end
end Go.T
