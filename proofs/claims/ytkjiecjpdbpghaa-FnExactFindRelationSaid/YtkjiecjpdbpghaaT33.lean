/- T: running by rewriting: lemmas at states that are written out. -/
import Derived.Test.YtkjiecjpdbpghaaT32
namespace Go.T
open Go

section
variable {P : Program} {tt : TT} {Γ : Gam} {tr : Nat → Tree} {Q : X → St → Prop} {e : List LV} {h : List Blk}
@[simp] theorem wp_skip' : wpT P tt Γ tr .skip Q ⟨e, h⟩ = Q .normal ⟨e, h⟩ := rfl
@[simp] theorem wp_region' {id : Nat} {ops : List Oper} : wpT P tt Γ tr (.region id ⟨ops⟩ false) Q ⟨e, h⟩ = regionW P tt Γ ⟨ops⟩ ops ⟨e, h⟩ (Q .normal) := rfl
@[simp] theorem wp_regionD' {id : Nat} {ops : Array Oper} : wpT P tt Γ tr (.region id ops true) Q ⟨e, h⟩ = treeW tt Γ ops (tr id) ⟨e, h⟩ (Q .normal) := rfl
@[simp] theorem wp_seq' {a b : Code} : wpT P tt Γ tr (.seq a b) Q ⟨e, h⟩ = wpT P tt Γ tr a (seqQ (wpT P tt Γ tr b Q) Q) ⟨e, h⟩ := rfl
@[simp] theorem wp_cond' {c : Operand} {x y : Code} : wpT P tt Γ tr (.cond c x y) Q ⟨e, h⟩ = condW c ⟨e, h⟩ (wpT P tt Γ tr x Q) (wpT P tt Γ tr y Q) := rfl
@[simp] theorem wp_block' {id : Nat} {c : Code} : wpT P tt Γ tr (.block id c) Q ⟨e, h⟩ = wpT P tt Γ tr c (blockQ id Q) ⟨e, h⟩ := rfl
@[simp] theorem wp_loop' {c : Code} : wpT P tt Γ tr (.loop c) Q ⟨e, h⟩ = loopW (wpT P tt Γ tr c) Q ⟨e, h⟩ := rfl
@[simp] theorem wp_exit' {id : Nat} : wpT P tt Γ tr (.exit id) Q ⟨e, h⟩ = Q (.exit id) ⟨e, h⟩ := rfl
@[simp] theorem wp_ret' : wpT P tt Γ tr .ret Q ⟨e, h⟩ = Q .ret ⟨e, h⟩ := rfl

variable {ops : Array Oper} {k : St → Prop}
@[simp] theorem region_nil' : regionW P tt Γ ops [] ⟨e, h⟩ k = k ⟨e, h⟩ := rfl
@[simp] theorem region_cons' {d : Option Tmp} {op : Op} {ty : TypeId} {pos : String} {aft : Array Edge} {os : List Oper} : regionW P tt Γ ops (⟨d, op, ty, pos, aft, none⟩ :: os) ⟨e, h⟩ k = opW P tt Γ ⟨d, op, ty, pos, aft, none⟩ ⟨e, h⟩ fun st => regionW P tt Γ ops os st k := rfl
@[simp] theorem region_guard' {d : Option Tmp} {op : Op} {ty : TypeId} {pos : String} {aft : Array Edge} {g : Nat × Bool} {os : List Oper} : regionW P tt Γ ops (⟨d, op, ty, pos, aft, some g⟩ :: os) ⟨e, h⟩ k = guardW ops ⟨d, op, ty, pos, aft, some g⟩ ⟨e, h⟩ (fun st => opW P tt Γ ⟨d, op, ty, pos, aft, some g⟩ st fun st => regionW P tt Γ ops os st k) (fun st => regionW P tt Γ ops os (st.put d (.tup [])) k) := rfl
@[simp] theorem seqQ_normal {k : St → Prop} {st : St} : seqQ k Q .normal st = k st := rfl
@[simp] theorem seqQ_ret {k : St → Prop} {st : St} : seqQ k Q .ret st = Q .ret st := rfl
@[simp] theorem seqQ_exit {k : St → Prop} {st : St} {id : Nat} : seqQ k Q (.exit id) st = Q (.exit id) st := rfl
@[simp] theorem blockQ_normal {id : Nat} {st : St} : blockQ id Q .normal st = Q .normal st := rfl
@[simp] theorem blockQ_ret {id : Nat} {st : St} : blockQ id Q .ret st = Q .ret st := rfl
@[simp] theorem blockQ_exit {id j : Nat} {st : St} : blockQ id Q (.exit j) st = if j = id then Q .normal st else Q (.exit j) st := rfl
/-- The continuation behind a normal end, as it stands applied to nothing yet. -/
@[simp] theorem seqQ_eta {k : St → Prop} : seqQ k Q .normal = k := rfl
@[simp] theorem blockQ_eta {id : Nat} : blockQ id Q .normal = Q .normal := rfl

@[simp] theorem opW' {P : Program} {tt : TT} {Γ : Gam} {e : List LV} {h : List Blk} {o : Oper} {k : St → Prop} : opW P tt Γ o ⟨e, h⟩ k = (match stepAll tt Γ o ⟨e, h⟩ with
  | some (p, st') => p ∧ k st'
  | none => callW P o ⟨e, h⟩ k) := rfl
@[simp] theorem condW' {c : Operand} {e : List LV} {h : List Blk} {x y : St → Prop} : condW c ⟨e, h⟩ x y = (match (St.mk e h).ev c with
  | .one (.bool b) => (b = true → x ((St.mk e h).litO c true)) ∧ (b = false → y ((St.mk e h).litO c false))
  | _ => False) := rfl
@[simp] theorem val_eta {a b : Ty} (p : Val (.pair a b)) : (Prod.mk (α := Val a) (β := Val b) (Prod.fst (α := Val a) (β := Val b) p) (Prod.snd (α := Val a) (β := Val b) p)) = p := by cases p; rfl
attribute [simp] stepAll stepOp St.ev St.put St.go St.new St.res St.lit St.litO valOf toLV LV.cells LV1.lv stepBin stepUn stepLoad stepStore stepField stepIndexAddr stepIndex stepAppend lenOf binI binS dstOf srcOf newRow fillT
  explode explodes zeros implode implodes implodeArgs setV LC.movedId deepOf LC.deep kill freeze Blk.froze los lo nodupB Ty.flat Ty.sz LC.isDef LV.isAgg guardW entry retQ ResOk resLVs resLV stepCall Gam.get explodeOwn explodeOwns retLV
  St.gc St.order St.renum keptCells addIds boxCells boxCellsOf keepEnv LV.ren LC.ren LC.idOf Blk.ren posOf treeW stepL actT rdFree opRd LV.rd List.replicate
end
end Go.T
