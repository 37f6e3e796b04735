/- T: copy of a shared slice of whole numbers into an own row. -/
import Derived.Test.YtlhkmndfkjlodaaT11
import Derived.Laws.CopyOwn
set_option linter.unusedSimpArgs false
set_option linter.unusedVariables false
namespace Go.T
open Go
def qD3 (tt:TT) (t:Nat) (x y:LV) (d:Option Tmp) (st:St):Res:=match tt.get t,x,y with
 | some ti,.one (.own id),.one (.sl _ (.int k2) ys _)=>match ti.agg,ti.ty,st.heap[id]? with
   | false,.slice e (.int k),some (.row e' (.int k') xs dp true n)=>if e'=e∧k'=k∧k2=k then some (List.length (α:=Int) ys≤List.length (α:=Int) xs,({st with heap:=st.heap.set id (.row e' (.int k') (List.append (α:=Int) ys (List.drop (α:=Int) (List.length (α:=Int) ys) xs)) dp true n)}:St).put d (.one (.int .i64 (List.length (α:=Int) ys:Int))))else none
   | _,_,_=>none
 | _,_,_=>none
section
variable {P : Program} {tt : TT} {o : Oper} {a : Act} {w0 w : World} {mine : Mine} {st : St} {next : Act → World → Prop} {Q : Exit → Act → World → Prop}
end
def qGZ (tt:TT) (S:Sem):Sem:=fun o st=>match o.op with
 | .call c=>match c.callee,c.args.toList,c.argTypes.toList with
   | .builtin .copy,[x,y],[t,_]=>qD3 tt t (st.ev x) (st.ev y) o.dst st
   | _,_,_=>S o st
 | _=>S o st
attribute [simp] qGZ qD3
end Go.T
/- T: arrays of bools: in boxes, as values. -/
namespace Go.T
open Go
def qny:List LC→Option (List Bool)
 | []=>some []
 | .bool b::r=>match qny r with
   | some l=>some (b::l)
   | none=>none
 | _=>none
def qA7 (f:Nat):Nat→List Bool→Bool
 | _,[]=>false
 | i,b::r=>bif decide (f=i)then b else qA7 f (i+1) r
def qHK (f:Nat) (v:Bool) (i:Nat) (b:Bool):Bool:=bif decide (f=i)then v else b
def qpX (f:Nat) (v:Bool):Nat→List LC→Option (List LC)
 | _,[]=>some []
 | i,.bool b::r=>match qpX f v (i+1) r with
   | some l=>some (.bool (qHK f v i b)::l)
   | none=>none
 | _,_=>none
abbrev Ars:=List (Nat×Nat)
def Ars.get:Ars→Nat→Option Nat
 | [],_=>none
 | (t,n)::r,t'=>if t=t' then some n else Ars.get r t'
def qCO (tt:TT) (as:Ars) (o:Oper) (st:St):Res:=match o.op with
 | .indexAddr t x y=>match Ars.get as t,st.ev x,st.ev y with
   | some n,.one (.ptr id 0 0),.one (.int _ i)=>match st.heap[id]? with
     | some (.box cs)=>if cs.length=n then some (0≤i∧i<(n:Int),st.put o.dst (.one (.ptr id 0 i.toNat)))else none
     | _=>none
   | _,_,_=>none
 | .index t x y=>match Ars.get as t,st.ev x,st.ev y with
   | some n,.agg cs,.one (.int _ i)=>if cs.length=n then match qny cs with
     | some l=>some (0≤i∧i<(n:Int),st.put o.dst (.one (.bool (qA7 i.toNat 0 l))))
     | none=>none
     else none
   | _,_,_=>none
 | .build t ps=>match Ars.get as t,tt.get t,ps.toList with
   | some _,some ti,[]=>some (True,st.put o.dst (.agg (qa4 ti.ty)))
   | _,_,_=>none
 | .load t x=>match tt.get t,st.ev x with
   | some ti,.one (.ptr id 0 f)=>if ti.agg=false∧ti.ty= .bool then match st.heap[id]? with
     | some (.box (c1::c2::cs))=>match qny (c1::c2::cs)with
       | some l=>some (f<(c1::c2::cs).length,st.put o.dst (.one (.bool (qA7 f 0 l))))
       | none=>none
     | _=>none
     else none
   | _,_=>none
 | .store t x y=>match tt.get t,st.ev x,st.ev y,o.dst with
   | some ti,.one (.ptr id 0 f),.one (.bool v),none=>if ti.agg=false∧ti.ty= .bool then match st.heap[id]? with
     | some (.box (c1::c2::cs))=>match qpX f v 0 (c1::c2::cs)with
       | some l=>some (f<(c1::c2::cs).length,{st with heap:=st.heap.set id (.box l)})
       | none=>none
     | _=>none
     else none
   | _,_,_,_=>none
 | _=>none
section
variable {P : Program} {tt : TT} {as : Ars} {o : Oper} {a : Act} {w0 w : World} {mine : Mine} {st : St} {next : Act → World → Prop} {Q : Exit → Act → World → Prop}
end
def qGe (tt:TT) (as:Ars) (S:Sem):Sem:=fun o st=>match qCO tt as o st with
 | some r=>some r
 | none=>S o st
attribute [simp] qGe qCO qny qpX Ars.get qbe
end Go.T
/- T: functions that call themselves: contracts by a measure. -/
namespace Go.T
open Go
structure RN where
 n:Nat
 k:Nat
instance:CoeOut RN Nat:=⟨RN.n⟩
end Go.T
/- T: literals of slices whose elements read what was handed in. -/
namespace Go.T
open Go
section
variable {P : Program} {tt : TT} {o : Oper} {a : Act} {w0 w : World} {mine : Mine} {st : St} {next : Act → World → Prop} {Q : Exit → Act → World → Prop}
end
def qEe (tt:TT) (o:Oper) (st:St):Res:=match o.op with
 | .buildSlice t n ps=>match tt.get t with
   | some ti=>match ti.agg,ti.ty with
     | false,.slice e te=>
       if ps.toList.map (·.1)=List.range n∧n*te.sz≤65536∧(ps.toList.map fun p=>(st.ev p.2).cells).flatten.all LC.isDef=true∧(ps.toList.map fun p=>(st.ev p.2).cells).flatten.all LC.low=true∧qW st.heap (ps.toList.map fun p=>(st.ev p.2).cells).flatten=false then match qaQ st.heap te (ps.toList.map fun p=>(st.ev p.2).cells)with
        | some xs=>some (True,{(st.put o.dst (.one (.own st.heap.length)))with heap:=st.heap++[.row e te xs false true 0]})
        | none=>none
       else none
     | _,_=>none
   | none=>none
 | _=>none
def qMr (tt:TT) (S:Sem):Sem:=fun o st=>match qEe tt o st with
 | some r=>some r
 | none=>S o st
attribute [simp] qMr qEe LC.low
end Go.T
/- T: fields of values. -/
namespace Go.T
open Go
abbrev qa1:=List (Nat×Nat×Nat)
def qa1.get:qa1→Nat→Nat→Option Nat
 | [],_,_=>none
 | (t,i,ft)::r,t',i'=>if t=t'∧i=i' then some ft else qa1.get r t' i'
def qjY (P:Program) (fs:qa1):Bool:=fs.all fun p=>match P.underlying p.1 with
 | some (.struct l)=>match l[p.2.1]? with
   | some f=>f.type==p.2.2
   | none=>false
 | _=>false
theorem qNs {P:Program} {fs:qa1} (h:qjY P fs=true) {t i ft:Nat} (hg:qa1.get fs t i=some ft): ∃l f,P.underlying t=some (.struct l)∧l[i]?=some f∧f.type=ft:=by
 induction fs with
 | nil=>simp [qa1.get]at hg
 | cons p r ih=>
   obtain ⟨t0,i0,f0⟩:=p
   simp only [qjY,List.all_cons,Bool.and_eq_true]at h
   simp only [qa1.get]at hg
   split at hg
   ·rename_i e
    obtain ⟨rfl,rfl⟩:=e
    cases hg
    have h:=h.1
    split at h
    ·rename_i l hu
     split at h
     ·rename_i f hf
      exact ⟨l,f,hu,hf,by simpa using h⟩
     ·simp at h
    ·simp at h
   ·exact ih h.2 hg
def qng (tt:TT) (fs:qa1) (o:Oper) (st:St):Res:=match o.op with
 | .field t x i=>match qa1.get fs t i,tt.get t,st.ev x with
   | some ft,some ti,.agg cs=>match tt.get ft,ti.offs[i]? with
     | some tf,some p=>if p.1+tf.ty.sz≤cs.length then some (True,st.put o.dst (qc5 tf.agg ((cs.drop p.1).take tf.ty.sz)))else none
     | _,_=>none
   | _,_,_=>none
 | _=>none
section
variable {P : Program} {tt : TT} {fs : qa1} {o : Oper} {a : Act} {w0 w : World} {mine : Mine} {st : St} {next : Act → World → Prop} {Q : Exit → Act → World → Prop}
theorem qPt (hT:qN P tt) (hA:qjY P fs=true) {p:Prop} {st':St} (hs:qng tt fs o st=some (p,st')) (hr:R w0 mine st a w) (hn: ∀a' w',R w0 mine st' a' w'→next a' w'):o.wp P a w next Q:=by
 unfold qng at hs
 split at hs
 ·rename_i t x i ho
  split at hs
  ·rename_i ft ti cs hg ht ex
   split at hs
   ·rename_i tf q htf hof
    split at hs
    ·rename_i hle
     cases hs
     obtain ⟨l,f,hu,hf,hft⟩:=qNs hA hg
     obtain ⟨f0,n0⟩:=q
     obtain ⟨l2,f2,hu2,hf2,hoff,_⟩:=(hT t ti ht).offsStruct f0 n0 i hof
     rw [hu]at hu2
     cases hu2
     rw [hf]at hf2
     cases hf2
     have htf':=hT ft tf htf
     have hle:f0+tf.ty.sz≤cs.length:=hle
     obtain ⟨hd,m,H,he⟩:=hr
     have hx:=R.ev H he x
     rw [ex]at hx
     obtain ⟨vs,hxv,hf2⟩:=hx
     have hlen:vs.toList.length=cs.length:=hf2.len.symm
     have hsub:=(hf2.drop f0).take tf.ty.sz
     have hag:(isAgg ft).run P w= .ok tf.agg w:=htf'.isAgg w
     have hsz:(sizeOf ft).run P w= .ok tf.ty.sz w:=htf'.sizeOf w
     cases hb:tf.agg with
     | true=>
       rw [hb]at hag
       refine qfZ hd H he (v:= .agg (vs.extract f0 (f0+tf.ty.sz))) (l:= .agg ((cs.drop f0).take tf.ty.sz)) ?_ ?_ (fun a' w' hr'=>hn a' w' (by rw [hb];exact hr'))
       ·simp [execOp,ho,hxv,Instr.field,run_underlying hu,hf,hft,asAgg,Go.part,hag,hsz,hoff]
       ·refine ⟨_,rfl,?_⟩
        have e:(vs.extract f0 (f0+tf.ty.sz)).toList=(vs.toList.drop f0).take tf.ty.sz:=by
               simp [List.extract_eq_take_drop]
        rw [e];exact hsub
     | false=>
       rw [hb]at hag
       have h1:=htf'.one hb
       rw [h1]at hsub hle
       have hlt:f0<cs.length:=by omega
       have hlv:f0<vs.toList.length:=by omega
       have e1:(cs.drop f0).take 1=[cs[f0]]:=by rw [List.drop_eq_getElem_cons hlt];rfl
       have e2:(vs.toList.drop f0).take 1=[vs.toList[f0]]:=by rw [List.drop_eq_getElem_cons hlv];rfl
       rw [e1,e2]at hsub
       have hC:C w m st.heap cs[f0] vs.toList[f0]:=by cases hsub with | cons h _=>exact h
       refine qah hd H he (fun a' w' hr'=>hn a' w' (by rw [hb,h1,e1];exact hr')) (v:=vs.toList[f0]) ?_ hC
       have hget:vs[f0]?=some vs.toList[f0]:=by rw [←Array.getElem?_toList,List.getElem?_eq_getElem hlv]
       simp [execOp,ho,hxv,Instr.field,run_underlying hu,hf,hft,asAgg,Go.part,hag,hoff,hget]
    ·simp at hs
   ·simp at hs
  ·simp at hs
 ·simp at hs
end
def qlO (tt:TT) (fs:qa1) (S:Sem):Sem:=fun o st=>match qng tt fs o st with
 | some r=>some r
 | none=>S o st
theorem qO9 {P:Program} {tt:TT} (hT:qN P tt) {fs:qa1} (hA:qjY P fs=true) {S:Sem} (h:qfj P S):qfj P (qlO tt fs S):=by
 intro o st p st' hs hp w0 mine a w next Q hr hn
 unfold qlO at hs
 split at hs
 ·rename_i r hr1
  cases hs
  exact qPt hT hA hr1 hr hn
 ·exact h o st p st' hs hp w0 mine a w next Q hr hn
attribute [simp] qlO qng qa1.get
end Go.T
