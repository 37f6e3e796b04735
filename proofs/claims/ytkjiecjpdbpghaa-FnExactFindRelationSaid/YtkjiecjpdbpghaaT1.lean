/- T: a symbolic interpreter of the model's code over values: definitions.
   Native values (lists, pairs) stand for what is only read; own rows and boxes of a call lie in a small heap. -/
import Derived.Below
namespace Go.T

/-! ### types and their values -/
inductive Ty
  | int (k : IntKind) | bool | str | slice (e : Nat) (t : Ty) | pair (a b : Ty)
  deriving DecidableEq

@[reducible] def Val : Ty → Type
  | .int _ => Int
  | .bool => Bool
  | .str => ByteArray
  | .slice _ t => List (Val t)
  | .pair a b => Val a × Val b

def Ty.sz : Ty → Nat
  | .pair a b => a.sz + b.sz
  | _ => 1

def dflt : (t : Ty) → Val t
  | .int _ => (0 : Int)
  | .bool => false
  | .str => ByteArray.empty
  | .slice _ _ => []
  | .pair a b => (dflt a, dflt b)

/-! ### cells, values, blocks, states -/
/-- n of a shared row: what it reads lies in no row from number n on. -/
inductive LC
  | int (k : IntKind) (n : Int)
  | bool (b : Bool)
  | str (s : ByteArray)
  | sl (e : Nat) (t : Ty) (xs : List (Val t)) (n : Nat)
  | nils
  | nilp
  | own (id : Nat)
  | ptr (id : Nat) (i : Nat) (f : Nat)
  | tptr (t : Ty) (v : Val t) (f : Nat) (n : Nat)
  | fn (f : Nat)
  | undef

/-- One value: its cells; agg: a struct or an array. -/
structure LV1 where
  agg : Bool
  cs : List LC
inductive LV
  | one (c : LC)
  | agg (cs : List LC)
  | tup (vs : List LV1)

/-- mt: may be written. dp: what lies in it is its own, too. n: as a shared row's, of what lies in it (dp: of its own blocks' first row). -/
inductive Blk
  | box (cs : List LC)
  | row (e : Nat) (t : Ty) (xs : List (Val t)) (dp : Bool) (mt : Bool) (n : Nat)
  | dead

structure St where
  env : List LV
  heap : List Blk

def LV.cells : LV → List LC
  | .one c => [c]
  | .agg cs => cs
  | .tup _ => []

def LV1.lv (v : LV1) : LV := match v.agg, v.cs with
  | false, [c] => .one c
  | _, cs => .agg cs

/-! ### values into cells and back -/
def explode (n : Nat) : (t : Ty) → Val t → List LC
  | .int k, v => [.int k v]
  | .bool, v => [.bool v]
  | .str, v => [.str v]
  | .slice e t, v => [.sl e t v n]
  | .pair a b, v => explode n a v.1 ++ explode n b v.2

/-- The zero value's cells. -/
def zeros : (t : Ty) → List LC
  | .int k => [.int k 0]
  | .bool => [.bool false]
  | .str => [.str ByteArray.empty]
  | .slice _ _ => [.nils]
  | .pair a b => zeros a ++ zeros b

def implode (h : List Blk) : (t : Ty) → List LC → Option (Val t × List LC)
  | .int k, .int k' n :: r => if k = k' then some (n, r) else none
  | .bool, .bool b :: r => some (b, r)
  | .str, .str s :: r => some (s, r)
  | .slice _ _, .nils :: r => some ([], r)
  | .slice e t, .sl e' t' xs _ :: r => if he : e' = e ∧ t' = t then some (he.2 ▸ xs, r) else none
  | .slice e t, .own id :: r => match h[id]? with
    | some (.row e' t' xs _ _ _) => if he : e' = e ∧ t' = t then some (he.2 ▸ xs, r) else none
    | _ => none
  | .pair a b, cs => match implode h a cs with
    | some (x, cs) => match implode h b cs with
      | some (y, cs) => some ((x, y), cs)
      | none => none
    | none => none
  | _, _ => none

/-- The rows that the cells hand on. -/
def LC.movedId : LC → Option Nat
  | .own id => some id
  | _ => none
def moved (cs : List LC) : List Nat := cs.filterMap LC.movedId
/-- Is all that the cells lead to their own? -/
def LC.deep (h : List Blk) : LC → Bool
  | .sl .. => false
  | .own id => match h[id]? with
    | some (.row _ _ _ dp _ _) => dp
    | _ => false
  | _ => true
def deepOf (h : List Blk) (cs : List LC) : Bool := cs.all (LC.deep h)
def kill (h : List Blk) (ids : List Nat) : List Blk := ids.foldl (fun h i => h.set i .dead) h
def Blk.froze : Blk → Blk
  | .row e t xs dp _ n => .row e t xs dp false n
  | b => b
def freeze (h : List Blk) (ids : List Nat) : List Blk := ids.foldl (fun h i => h.modify i Blk.froze) h

/-! ### tables of types -/
/-- A type: how its values are told; a struct (an array): its fields' places and sizes. -/
structure TI where
  ty : Ty
  agg : Bool
  offs : List (Nat × Nat)
  /-- a struct of two whole numbers, that may be compared -/
  ints : Bool := false
abbrev TT := List (Nat × TI)
def TT.get (tt : TT) (t : Nat) : Option TI := match tt with
  | [] => none
  | (u, ti) :: r => if u = t then some ti else TT.get r t

def LC.isDef : LC → Bool
  | .undef => false
  | _ => true

def toLV (agg : Bool) (cs : List LC) : LV := match agg, cs with
  | false, [c] => .one c
  | _, cs => .agg cs

def valOf : Value → LV
  | .int k n => .one (.int k n)
  | .bool b => .one (.bool b)
  | .string s => .one (.str s)
  | .slice none 0 0 => .one .nils
  | .pointer none => .one .nilp
  | _ => .one .undef

def St.ev (st : St) : Operand → LV
  | .tmp t => st.env.getD t (.one .undef)
  | .const v => valOf v
  | .func f => .one (.fn f)
  | _ => .one .undef

def St.put (st : St) (d : Option Tmp) (v : LV) : St := match d with
  | some t => { st with env := st.env.set t v }
  | none => st
end Go.T
