/- T: copy of a shared slice of whole numbers into an own row. -/
import Derived.Test.YtkjiecjpdbpghaaT12
import Derived.Laws.CopyOwn
set_option linter.unusedSimpArgs false
set_option linter.unusedVariables false
namespace Go.T
open Go
def qyG (tt:TT) (t:Nat) (x y:LV) (d:Option Tmp) (st:St):Res:=match tt.get t,x,y with
 | some ti,.one (.own id),.one (.sl _ (.int k2) ys _)=>match ti.agg,ti.ty,st.heap[id]? with
   | false,.slice e (.int k),some (.row e' (.int k') xs dp true n)=>if e'=e∧k'=k∧k2=k then some (List.length (α:=Int) ys≤List.length (α:=Int) xs,({st with heap:=st.heap.set id (.row e' (.int k') (List.append (α:=Int) ys (List.drop (α:=Int) (List.length (α:=Int) ys) xs)) dp true n)}:St).put d (.one (.int .i64 (List.length (α:=Int) ys:Int))))else none
   | _,_,_=>none
 | _,_,_=>none
section
variable {P : Program} {tt : TT} {o : Oper} {a : Act} {w0 w : World} {mine : Mine} {st : St} {next : Act → World → Prop} {Q : Exit → Act → World → Prop}
end
def qBk (tt:TT) (S:Sem):Sem:=fun o st=>match o.op with
 | .call c=>match c.callee,c.args.toList,c.argTypes.toList with
   | .builtin .copy,[x,y],[t,_]=>qyG tt t (st.ev x) (st.ev y) o.dst st
   | _,_,_=>S o st
 | _=>S o st
attribute [simp] qBk qyG
end Go.T
