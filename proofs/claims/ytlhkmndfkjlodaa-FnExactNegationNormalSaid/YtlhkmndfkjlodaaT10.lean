/- T: function values: functions that have caught boxes; functions that are handed functions. -/
import Derived.Test.YtlhkmndfkjlodaaT9
set_option linter.unusedSimpArgs false
set_option linter.unusedVariables false
namespace Go.T
open Go
def qJz (w:World) (ext:Nat→Prop):(tis:List TI)→qc tis→List Value→Prop
 | [],_,us=>us=[]
 | ti::r,x,us=> ∃b arr ty rest,us= .pointer (some ⟨b,0,none⟩)::rest∧w.heap[b]?=some (.cells arr ty (0,0))∧ext b∧K w ext ti.ty x.1 arr.toList∧qJz w ext r x.2 rest
structure Gc (ps qs:List TI) where
 cs:List TI
 pre:qc cs→qc ps→Prop
 fn:qc cs→qc ps→qc qs
structure SoundC (P:Program) (f:FuncId) {ps qs:List TI} (g:Gc ps qs):Prop where
 enters:qfM P f
 runs: ∀(c:qc g.cs) (x:qc ps),g.pre c x→ ∀(w:World) (ext:Nat→Prop) (us caps:List Value),VKs w ext ps x us→qJz w ext g.cs c caps→(∀b,w.heap.size≤b→ext b)→
  Calls P f (us++caps).toArray w fun e w'=> ∃rv,e= .returned (qdI rv)∧Fr (fun _=>False) w w'∧VKs w' ext qs (g.fn c x) rv
def qGB:(tis:List TI)→qc tis→List LV
 | [],_=>[]
 | ti::r,x=> .one (.tptr ti.ty x.1 0 0)::qGB r x.2
def qPq (ps cs:List TI) (ntmps:Nat) (c:qc cs) (x:qc ps):St:={env:=(qeF 0 ps x).map LV1.lv++(qGB cs c++List.replicate (ntmps - (ps.length+cs.length)) (.tup [])),heap:=[]}
def qXa (P:Program) (w:World) (ext:Nat→Prop) (fv:Value) (ps qs:List TI) (pre:qc ps→Prop) (fn:qc ps→qc qs):Prop:=
 ∃(f:FuncId) (caps:List Value),fv= .func (.func f) #[] caps.toArray∧qfM P f∧ ∀(w':World) (ext':Nat→Prop) (x:qc ps) (us:List Value),Fr (fun _=>False) w w'→(∀b,b<w.heap.size→ext b→ext' b)→(∀b,w'.heap.size≤b→ext' b)→pre x→VKs w' ext' ps x us→
  Calls P f (us++caps).toArray w' fun e w''=> ∃rv,e= .returned (qdI rv)∧Fr (fun _=>False) w' w''∧VKs w'' ext' qs (fn x) rv
structure Gh where
 r:TI
 ps:List TI
 qs:List TI
 rs:List TI
 pre:(qc ps→Prop)→(qc ps→qc qs)→Val r.ty→Prop
 fn:(qc ps→qc qs)→Val r.ty→qc rs
structure SoundH (P:Program) (f:FuncId) (g:Gh):Prop where
 enters:qfM P f
 runs: ∀(pre:qc g.ps→Prop) (fn:qc g.ps→qc g.qs) (x:Val g.r.ty),g.pre pre fn x→ ∀(w:World) (ext:Nat→Prop) (u fv:Value) (cs:List Value),K w ext g.r.ty x cs→qav g.r.agg cs u→qXa P w ext fv g.ps g.qs pre fn→(∀b,w.heap.size≤b→ext b)→
  Calls P f #[u,fv] w fun e w'=> ∃us,e= .returned (qdI us)∧Fr (fun _=>False) w w'∧ ∃B,VMs w' g.rs (g.fn fn x) us B∧B.Nodup∧ ∀b∈B,w.heap.size≤b
def qHZ:LC→Bool
 | .sl _ _ _ n=>n==0
 | .own _=>false
 | _=>true
def qKh (fv:Value) (ps qs:List TI) (pre:qc ps→Prop) (fn:qc ps→qc qs) (y:LV) (args:List LV) (d:Option Tmp) (st:St):Res:=match y with
 | .one (.hdr u)=>if (args.all fun l=>l.cells.all qHZ)=true then match qci st.heap ps args with
    | some x=>some (u=fv∧pre x,st.put d (qfC (qeF 0 qs (fn x))))
    | none=>none
   else none
 | _=>none
def qWV (fv:Value) (ps qs:List TI) (pre:qc ps→Prop) (fn:qc ps→qc qs) (S:Sem):Sem:=fun o st=>match o.op with
 | .call c=>match c.callee with
   | .value (.tmp t)=>qKh fv ps qs pre fn (st.ev (.tmp t)) (c.args.toList.map st.ev) o.dst st
   | _=>S o st
 | _=>S o st
def qBV (h:List Blk):List LV→Option (List Nat)
 | []=>some []
 | .one (.ptr id 0 0)::r=>match h[id]? with
   | some (.box _)=>match qBV h r with
     | some ids=>some (id::ids)
     | none=>none
   | _=>none
 | _=>none
def qJW (f:Nat) (caught:List LV) (d:Option Tmp) (st:St):Res:=match qBV st.heap caught with
 | some ids=>some (True,st.put d (.one (.clo f ids)))
 | none=>none
def qF9 (h:List Blk):(tis:List TI)→List Nat→Option (qc tis)
 | [],[]=>some ()
 | ti::r,id::ids=>match h[id]? with
   | some (Blk.box cs)=>match qu h ti.ty cs with
     | some (v,[])=>match qF9 h r ids with
       | some vs=>some (v,vs)
       | none=>none
     | _=>none
   | _=>none
 | _,_=>none
abbrev Cls (ps qs:List TI):=List (Nat×Gc ps qs)
def Cls.get {ps qs:List TI}:Cls ps qs→Nat→Option (Gc ps qs)
 | [],_=>none
 | (f,g)::r,f'=>if f=f' then some g else Cls.get r f'
def qKo:LV→Option (Nat×List Nat)
 | .one (.fn f)=>some (f,[])
 | .one (.clo f ids)=>some (f,ids)
 | _=>none
def qJQ (g:Gh) (cl:Cls g.ps g.qs) (args:List LV) (d:Option Tmp) (st:St):Res:=match args with
 | [x,y]=>match qKo y with
   | some (f,ids)=>match Cls.get cl f with
     | some gc=>if x.isAgg=some g.r.agg then match qu st.heap g.r.ty x.cells,qF9 st.heap gc.cs ids with
       | some (v,[]),some cx=>some (g.pre (gc.pre cx) (gc.fn cx) v,st.res d (qfC (qdC st.heap.length g.rs (g.fn (gc.fn cx) v)).1) (st.heap++(qdC st.heap.length g.rs (g.fn (gc.fn cx) v)).2.map (Blk.up st.heap.length)))
       | _,_=>none
       else none
     | none=>none
   | none=>none
 | _=>none
abbrev Bxs:=List (Nat×Gb)
abbrev Hns:=List (Nat×(g:Gh)×Cls g.ps g.qs)
def Bxs.get:Bxs→Nat→Option Gb
 | [],_=>none
 | (f,g)::r,f'=>if f=f' then some g else Bxs.get r f'
def Hns.get:Hns→Nat→Option ((g:Gh)×Cls g.ps g.qs)
 | [],_=>none
 | (f,g)::r,f'=>if f=f' then some g else Hns.get r f'
def qXW (bx:Bxs) (hn:Hns):Sem:=fun o st=>match o.op with
 | .call c=>match c.callee with
   | .value (.func f)=>match Bxs.get bx f with
     | some g=>qKy g (c.args.toList.map st.ev) o.dst st
     | none=>match Hns.get hn f with
       | some gc=>qJQ gc.1 gc.2 (c.args.toList.map st.ev) o.dst st
       | none=>none
   | _=>none
 | .makeFunc (.func f) first caught=>match first.toList with
   | []=>qJW f (caught.toList.map st.ev) o.dst st
   | _=>none
 | _=>none
section
variable {P : Program} {tt : TT} {Γ : Gam} {w0 w w' : World} {mine : Mine} {m m' : Mp} {h : List Blk} {st : St} {a : Act} {o : Oper} {next : Act → World → Prop} {Q : Exit → Act → World → Prop}
def qNX (r:TI) (ntmps:Nat) (x:Val r.ty) (fv:Value):St:={env:=LV1.lv ⟨r.agg,qdt 0 r.ty x⟩:: .one (.hdr fv)::List.replicate (ntmps - 2) (.tup []),heap:=[]}
end
end Go.T
/- T: calls that hand functions on. -/
namespace Go.T
open Go
section
variable {P : Program} {tt : TT} {Γ : Gam} {w0 w w' : World} {mine : Mine} {m m' : Mp} {h : List Blk} {st : St} {a : Act} {o : Oper} {next : Act → World → Prop} {Q : Exit → Act → World → Prop}
end
structure HN (ps qs:List TI) where
 n:Nat
 fv:Value
 pre:qc ps→Prop
 fn:qc ps→qc qs
instance {ps qs:List TI}:CoeOut (HN ps qs) Nat:=⟨HN.n⟩
attribute [simp] qnI qGT qIk qKy qHZ qKh qWV qBV qJW qF9 Cls.get qKo qJQ Bxs.get Hns.get qXW qGB qPq qNX qMO qXR
end Go.T
/- T: functions that take over what their first argument owns: their results may keep it. -/
namespace Go.T
open Go
structure Gw where
 j:Nat:=0
 t:TI
 ps:List TI
 rs:List TI
 pre:Val t.ty→qc ps→Prop
 fn:Val t.ty→qc ps→qc rs
def insJ {α:Type} (j:Nat) (a:α) (xs:List α):List α:=xs.take j++a::xs.drop j
def qrv {α:Type} (j:Nat) (xs:List α):Option (α×List α):=match xs.drop j with
 | a::r=>some (a,xs.take j++r)
 | []=>none
theorem qVv {α:Type} (j:Nat) (a:α) (xs:List α):(insJ j a xs).length=xs.length+1:=by
 simp only [insJ,List.length_append,List.length_take,List.length_cons,List.length_drop];omega
theorem F2.insJ {α β:Type} {R:α→β→Prop} (j:Nat) {a:α} {b:β} {as:List α} {bs:List β} (h0:R a b) (h:F2 R as bs):F2 R (insJ j a as) (insJ j b bs):=(h.take j).append (.cons h0 (h.drop j))
theorem qMq {α β:Type} {R:α→β→Prop} {j:Nat} {a:α} {as ls:List α} {us:List β} (h:F2 R ls us) (hp:qrv j ls=some (a,as)): ∃b bs,us=Go.T.insJ j b bs∧R a b∧F2 R as bs:=by
 unfold qrv at hp
 have hd:=h.drop j
 have ht:=h.take j
 have hl:(ls.take j).length=j∨ls.drop j=[]:=by
  rw [List.length_take]
  by_cases hj:j≤ls.length
  ·left;omega
  ·right;exact List.drop_eq_nil_of_le (by omega)
 split at hp
 ·rename_i x r e
  cases hp
  rw [e]at hd
  generalize hus:us.drop j=ud at hd
  cases hd with
  | cons h0 h1=>
    rename_i b bs
    have hl:(ls.take j).length=j:=by rcases hl with hl | hl;exact hl;rw [e]at hl;simp at hl
    have hl2:(us.take j).length=j:=by rw [←ht.len,hl]
    refine ⟨b,us.take j++bs,?_,h0,ht.append h1⟩
    unfold Go.T.insJ
    rw [List.take_append_of_le_length (by omega),List.drop_append_of_le_length (by omega),List.take_of_length_le (by omega),List.drop_eq_nil_of_le (by omega),List.nil_append]
    calc us=us.take j++us.drop j:=(List.take_append_drop j us).symm
        _=_:=by rw [hus]
 ·simp at hp
structure SoundW (P:Program) (f:FuncId) (g:Gw):Prop where
 enters:qfM P f
 runs: ∀(v:Val g.t.ty) (x:qc g.ps),g.pre v x→ ∀(w:World) (u:Value) (cs:List Value) (B:List Nat) (ext:Nat→Prop) (us:List Value),
  qav g.t.agg cs u→M w g.t.ty v cs B→B.Nodup→VKs w ext g.ps x us→(∀k,w.heap.size≤k→ext k)→(∀k,ext k→k<w.heap.size→k∉B)→
  Calls P f (insJ g.j u us).toArray w fun e w'=> ∃rv B',e= .returned (qdI rv)∧Fr (fun k=>k∈B) w w'∧VMs w' g.rs (g.fn v x) rv B'∧B'.Nodup∧ ∀k∈B',k∈B∨w.heap.size≤k
def qiL (j:Nat) (t:TI) (ps:List TI) (ntmps:Nat) (v:Val t.ty) (x:qc ps):St:={env:=insJ j (LV1.lv ⟨t.agg,(qF 0 t.ty v).1⟩) ((qeF 0 ps x).map LV1.lv)++List.replicate (ntmps - (ps.length+1)) (.tup []),heap:=(qF 0 t.ty v).2}
def qrQ (g:Gw) (ls:List LV) (d:Option Tmp) (st:St):Res:=match qrv g.j ls with
 | some (l,args)=>if l.isAgg=some g.t.agg∧qah st.heap l.cells=true∧qct (qk l.cells)=true∧(args.all fun l'=>l'.cells.all (qnI st.heap (los st.heap st.heap.length (qk l.cells)) (qk l.cells)))=true then
    match qu st.heap g.t.ty l.cells,qci st.heap g.ps args with
    | some (v,[]),some x=>some (g.pre v x,St.put ⟨st.env.map (LV.clamp (los st.heap st.heap.length (qk l.cells))),kill (st.heap.map (Blk.clamp (los st.heap st.heap.length (qk l.cells)))) (qk l.cells)++(qdC st.heap.length g.rs (g.fn v x)).2⟩ d (qfC (qdC st.heap.length g.rs (g.fn v x)).1))
    | _,_=>none
   else none
 | none=>none
abbrev Gws:=List (Nat×Gw)
def Gws.get:Gws→Nat→Option Gw
 | [],_=>none
 | (f,g)::r,f'=>if f=f' then some g else Gws.get r f'
def qjC (ws:Gws) (S:Sem):Sem:=fun o st=>match o.op with
 | .call c=>match c.callee with
   | .value (.func f)=>match Gws.get ws f with
     | some g=>qrQ g (c.args.toList.map st.ev) o.dst st
     | none=>S o st
   | _=>S o st
 | _=>S o st
section
variable {P : Program} {tt : TT} {Γ : Gam} {w0 w w' : World} {mine : Mine} {m m' : Mp} {h : List Blk} {st : St} {a : Act} {o : Oper} {next : Act → World → Prop} {Q : Exit → Act → World → Prop}
theorem qZd (H:HR w0 mine w m h) {ids:List Nat} (hids: ∀i∈ids,∃(e:Nat) (t:Ty) (xs:List (Val t)) (mt:Bool) (n:Nat),h[i]?=some (.row e t xs true mt n)) {bl:List Blk} {rl:List qy}
 (hfr:Fr (fun k=>k∈qB m h ids) w w') (hf:F2 (qcn w') bl rl) (hBn:(rl.flatMap qy.fp).Nodup) (hBm: ∀k∈rl.flatMap qy.fp,k∈qB m h ids∨w.heap.size≤k):
 HR w0 mine w' (m.rows h.length rl) (kill (h.map (Blk.clamp (los h h.length ids))) ids++bl)∧Keeps w w' m (m.rows h.length rl) h (kill (h.map (Blk.clamp (los h h.length ids))) ids++bl) (los h h.length ids):=by
 have hlen:(kill (h.map (Blk.clamp (los h h.length ids))) ids).length=h.length:=by rw [qcv,List.length_map]
 have get: ∀i y,(kill (h.map (Blk.clamp (los h h.length ids))) ids++bl)[i]?=some y→(i<h.length∧i∈ids∧y= .dead)∨(i∉ids∧ ∃x,h[i]?=some x∧y=x.clamp (los h h.length ids))∨(∃j r,i=h.length+j∧bl[j]?=some y∧rl[j]?=some r∧qcn w' y r):=fun i y hy=>by
  by_cases hl:i<h.length
  ·rw [List.getElem?_append_left (by omega)]at hy
   rcases qgE _ _ _ _ hy with ⟨hi,rfl⟩ | ⟨hi,hy⟩
   ·exact .inl ⟨hl,hi,rfl⟩
   ·rw [List.getElem?_map]at hy
    cases hx:h[i]? with
    | none=>rw [hx]at hy;simp at hy
    | some x=>rw [hx]at hy;simp at hy;exact .inr (.inl ⟨hi,x,rfl,hy.symm⟩)
  ·rw [List.getElem?_append_right (by omega),hlen]at hy
   obtain ⟨r,hr,hok⟩:=hf.get hy
   exact .inr (.inr ⟨i - h.length,r,by omega,hy,hr,hok⟩)
 have vlt: ∀i,i<h.length→(m.rows h.length rl).val i=m.val i∧(m.rows h.length rl).nst i=m.nst i:=fun i hi=>by simp [Mp.rows,hi]
 have hmem: ∀{k:Nat} {r:qy},rl[k]?=some r→ ∀b∈r.fp,b∈rl.flatMap qy.fp:=fun hk b hb=>List.mem_flatMap.2 ⟨_,List.mem_of_getElem? hk,hb⟩
 have fpnew: ∀j y r,rl[j]?=some r→qcn w' y r→fpB (m.rows h.length rl) (h.length+j) y=r.fp:=fun j y r hr hok=>by
  obtain ⟨h1,h2⟩:=qcU (m:=m) (n:=h.length) hr
  obtain ⟨e,t,xs,inner,rfl,_⟩:=hok
  simp only [fpB,h1,h2,qy.fp]
 have fpold: ∀i x,i<h.length→ ∀b,b∈fpB (m.rows h.length rl) i (x.clamp (los h h.length ids))→b∈fpB m i x:=fun i x hi b hb=>by
  obtain ⟨v1,v2⟩:=vlt i hi
  cases x with
  | dead=>exact hb
  | box cs=>exact hb
  | nst F t hs vs=>exact hb
  | row e t xs dp mt k=>
    cases dp with
    | true=>
      have hb:b∈((m.rows h.length rl).val i).ownBlock.toList++(m.rows h.length rl).nst i:=hb
      rw [v1,v2]at hb;exact hb
    | false=>
      simp only [Blk.clamp]at hb
      split at hb
      ·have hb:b∈((m.rows h.length rl).val i).ownBlock.toList++[]:=hb
       rw [v1]at hb;exact hb
      ·simp [fpB]at hb
 have notB: ∀i x,i∉ids→h[i]?=some x→ ∀b∈fpB m i x,b∉qB m h ids:=fun i x hni hx b hb' hB=>by
  obtain ⟨id',y,hid',hy,hb2⟩:=qcI hB
  exact H.dj i x id' y (fun e=>hni (e▸hid')) hx hy b hb' hb2
 have same: ∀i x,i∉ids→h[i]?=some x→ ∀b∈fpB m i x,w'.heap[b]?=w.heap[b]?:=fun i x hni hx b hb'=>hfr.block b (H.lt i x hx b hb').1 (notB i x hni hx b hb')
 have K:Keeps w w' m (m.rows h.length rl) h (kill (h.map (Blk.clamp (los h h.length ids))) ids++bl) (los h h.length ids):=by
  refine ⟨fun n b hle hb' hl=> ?_,fun i x hx=> ?_⟩
  ·have hnb:b∉qB m h ids:=fun h=>qhZ hb' hle h
   refine ⟨hfr.block b hl hnb,hb'.1,fun i y hy=> ?_⟩
   rcases get i y hy with ⟨_,_,rfl⟩ | ⟨hni,x,hx,rfl⟩ | ⟨j,r,rfl,_,hr,hok⟩
   ·trivial
   ·obtain ⟨v1,v2⟩:=vlt i (List.getElem?_eq_some_iff.1 hx).1
    have:=hb'.2 i x hx
    cases x with
    | dead=>trivial
    | box cs=>exact this
    | nst F t hs vs=>exact this
    | row e t xs dp mt k=>
      cases dp with
      | true=>exact ⟨by rw [v1];exact this.1,by rw [v2];exact this.2⟩
      | false=>
        simp only [Blk.clamp]
        split
        ·exact ⟨by rw [v1];exact this.1,fun h=>by simp at h⟩
        ·trivial
   ·have hno:b∉r.fp:=fun hm'=>by
     rcases hBm b (hmem hr b hm')with h1 | h1
     ·exact hnb h1
     ·omega
    obtain ⟨h1,h2⟩:=qcU (m:=m) (n:=h.length) hr
    obtain ⟨e,t,xs,inner,rfl,_⟩:=hok
    refine ⟨fun _ ho=>hno ?_,fun _ _ hm'=>hno ?_⟩
    ·rw [h1]at ho;simp [qy.fp,ho]
    ·rw [h2]at hm';exact List.mem_append_right _ hm'
  ·have hl:=(List.getElem?_eq_some_iff.1 hx).1
   by_cases hni:i∈ids
   ·obtain ⟨e,t,xs,mt,n,hx'⟩:=hids i hni
    rw [hx]at hx';cases hx'
    refine ⟨.dead,?_,BR.rowOne (H.br i _ hx)⟩
    rw [List.getElem?_append_left (by omega)]
    cases hk:(kill (h.map (Blk.clamp (los h h.length ids))) ids)[i]? with
    | none=>
      have:=List.getElem?_eq_none_iff.1 hk
      omega
    | some y=>
      rcases qgE _ _ _ _ hk with ⟨_,rfl⟩ | ⟨hi',_⟩
      ·rfl
      ·exact absurd hni hi'
   ·refine ⟨x.clamp (los h h.length ids),by rw [List.getElem?_append_left (by omega),qEm _ _ _ hni,List.getElem?_map,hx];rfl,?_⟩
    obtain ⟨v1,v2⟩:=vlt i hl
    have hbr:=H.br i x hx
    cases x with
    | dead=>trivial
    | box cs=>rfl
    | nst F t hs vs=>trivial
    | row e t xs dp mt k=>
      cases dp with
      | true=>exact ⟨rfl,v1⟩
      | false=>
        simp only [Blk.clamp]
        split
        ·exact ⟨rfl,v1⟩
        ·exact BR.rowOne hbr
 refine ⟨⟨fun i y hy=> ?_,fun i y hy=> ?_,fun i y i' y' hne hy hy' b hb1 hb2=> ?_,fun i y hy b hb1=> ?_,?_,H.mx,H.nx,fun i v hp=> ?_⟩,K⟩
 ·rcases get i y hy with ⟨_,_,rfl⟩ | ⟨hni,x,hx,rfl⟩ | ⟨j,r,rfl,_,hr,hok⟩
  ·trivial
  ·obtain ⟨v1,v2⟩:=vlt i (List.getElem?_eq_some_iff.1 hx).1
   have hbr:=H.br i x hx
   have sm:=same i x hni hx
   cases x with
   | dead=>trivial
   | box cs=>
     obtain ⟨arr',ty',h1,h2,h3⟩:=hbr
     exact ⟨arr',ty',(sm (m.blk i) (by simp [fpB])).trans h1,qxu K h2,h3⟩
   | nst F t hs vs=>exact qiS hbr sm
   | row e t xs dp mt k=>
     obtain ⟨inner,h1,h2⟩:=hbr
     have ho:=qpu h1 fun b hv=>sm b (by simp [fpB,hv])
     cases dp with
     | true=>
       refine ⟨inner,by rw [v1];exact ho,?_,h2.2⟩
       rw [v2]
       exact h2.1.imp fun x c b hk hx=>qeq hx fun k' hk'=>sm k' (by simp only [fpB];exact List.mem_append_right _ (hk k' hk'))
     | false=>
       simp only [Blk.clamp]
       split
       ·rename_i hle
        exact ⟨inner,by rw [v1];exact ho,h2.imp fun x c hk=>qaE (fun b hb hlt=>(K.ok k b hle hb hlt).1) (fun b hb hlt=>(K.ok k b hle hb hlt).2) hk⟩
       ·trivial
  ·obtain ⟨h1,h2⟩:=qcU (m:=m) (n:=h.length) hr
   obtain ⟨e,t,xs,inner,rfl,ho,hms⟩:=hok
   exact ⟨inner,by rw [h1];exact ho,by rw [h2];exact hms,Nat.zero_le _⟩
 ·rcases get i y hy with ⟨_,_,rfl⟩ | ⟨hni,x,hx,rfl⟩ | ⟨j,r,rfl,_,hr,hok⟩
  ·exact List.nodup_nil
  ·obtain ⟨v1,v2⟩:=vlt i (List.getElem?_eq_some_iff.1 hx).1
   have:=H.nd i x hx
   cases x with
   | dead=>exact this
   | box cs=>exact this
   | nst F t hs vs=>exact this
   | row e t xs dp mt n=>
     cases dp with
     | true=>
       show (((m.rows h.length rl).val i).ownBlock.toList++(m.rows h.length rl).nst i).Nodup
       rw [v1,v2];exact this
     | false=>
       simp only [Blk.clamp]
       split
       ·show (((m.rows h.length rl).val i).ownBlock.toList++[]).Nodup
        rw [v1];exact this
       ·exact List.nodup_nil
  ·rw [fpnew j y r hr hok];exact qgQ hBn hr
 ·have new: ∀i y b,(kill (h.map (Blk.clamp (los h h.length ids))) ids++bl)[i]?=some y→b∈fpB (m.rows h.length rl) i y→(i∉ids∧ ∃x,h[i]?=some x∧b∈fpB m i x)∨ ∃j r,i=h.length+j∧rl[j]?=some r∧b∈r.fp:=fun i y b hy hb'=>by
   rcases get i y hy with ⟨_,_,rfl⟩ | ⟨hni,x,hx,rfl⟩ | ⟨j,r,rfl,_,hr,hok⟩
   ·simp [fpB]at hb'
   ·exact .inl ⟨hni,x,hx,fpold i x (List.getElem?_eq_some_iff.1 hx).1 b hb'⟩
   ·rw [fpnew j y r hr hok]at hb'
    exact .inr ⟨j,r,rfl,hr,hb'⟩
  have old_new: ∀i x b,i∉ids→h[i]?=some x→b∈fpB m i x→ ∀(j:Nat) (r:qy),rl[j]?=some r→b∉r.fp:=fun i x b hni hx hb' j r hr hm'=>by
   rcases hBm b (hmem hr b hm')with h1 | h1
   ·exact notB i x hni hx b hb' h1
   ·have:=(H.lt i x hx b hb').1
    omega
  rcases new i y b hy hb1 with ⟨hni,x,hx,hbx⟩ | ⟨j,r,rfl,hr,hbr⟩
  ·rcases new i' y' _ hy' hb2 with ⟨hni',x',hx',hbx'⟩ | ⟨j',r',rfl,hr',hbr'⟩
   ·exact H.dj i x i' x' hne hx hx' b hbx hbx'
   ·exact old_new i x b hni hx hbx j' r' hr' hbr'
  ·rcases new i' y' _ hy' hb2 with ⟨hni',x',hx',hbx'⟩ | ⟨j',r',rfl,hr',hbr'⟩
   ·exact old_new i' x' b hni' hx' hbx' j r hr hbr
   ·exact qhT hBn (fun e=>hne (by rw [e])) hr hr' b hbr hbr'
 ·rcases get i y hy with ⟨_,_,rfl⟩ | ⟨hni,x,hx,rfl⟩ | ⟨j,r,rfl,_,hr,hok⟩
  ·simp [fpB]at hb1
  ·have:=H.lt i x hx b (fpold i x (List.getElem?_eq_some_iff.1 hx).1 b hb1)
   exact ⟨Nat.lt_of_lt_of_le this.1 hfr.size,this.2⟩
  ·rw [fpnew j y r hr hok]at hb1
   rcases hBm b (hmem hr b hb1)with h1 | h1
   ·obtain ⟨id',z,_,hz,hb2⟩:=qcI h1
    have:=H.lt id' z hz b hb2
    exact ⟨Nat.lt_of_lt_of_le this.1 hfr.size,this.2⟩
   ·refine ⟨?_,.inl (Nat.le_trans H.fr.size h1)⟩
    obtain ⟨e',t',xs',inner,hy',ho,hm⟩:=hok
    rcases List.mem_append.1 hb1 with hb1 | hb1
    ·exact (ho.lt b (by simpa using hb1)).2
    ·exact qm1 (fun x c b hx=>qeT hx) hm b hb1
 ·refine H.fr.trans hfr fun k hk=> ?_
  obtain ⟨id',z,_,hz,hb2⟩:=qcI hk
  exact (H.lt id' z hz k hb2).2
 ·obtain ⟨h1,h2⟩:=H.pn i v hp
  exact ⟨by rw [List.length_append,hlen];omega,by rw [(vlt i h1).1];exact h2⟩
theorem qNC (H:HR w0 mine w m h) {ids:List Nat} {c:LC} (hc:qnI h (los h h.length ids) ids c=true):okC w m h (fun k=>w.heap.size≤k∨k∉qB m h ids) c:=by
 cases c with
 | sl e t xs n=>
   have hn:n≤los h h.length ids:=of_decide_eq_true hc
   exact fun b hb' _=> .inr (qhZ hb' hn)
 | own i=>
   intro x hx
   simp only [qnI,hx,Bool.and_eq_true,Bool.not_eq_true']at hc
   have hni:i∉ids:=by have:=hc.1;simpa using this
   refine ⟨fun b hb'=> .inr fun hm=> ?_,?_⟩
   ·obtain ⟨id',y,hid',hy,hb2⟩:=qcI hm
    exact H.dj i x id' y (fun e=>hni (e▸hid')) hx hy b hb' hb2
   ·cases x with
    | row e t xs dp mt n=>
      cases dp with
      | true=>trivial
      | false=>
        have hn:n≤los h h.length ids:=of_decide_eq_true hc.2
        exact fun b hb' _=> .inr (qhZ hb' hn)
    | _=>trivial
 | _=>trivial
theorem qNt {f:FuncId} {g:Gw} (S:SoundW P f g) {c:Call} (ho:o.op= .call c) (hc:c.callee= .value (.func f)) {p:Prop} {st':St} (hs:qrQ g (c.args.toList.map st.ev) o.dst st=some (p,st')) (hp:p)
 (hr:R w0 mine st a w) (hn: ∀a' w',R w0 mine st' a' w'→next a' w'):o.wp P a w next Q:=by
 obtain ⟨hd,m,H,he⟩:=hr
 have hargs:=qpT H he c.args.toList
 unfold qrQ at hs
 split at hs
 ·rename_i l args els
  split at hs
  ·rename_i hcond
   obtain ⟨hagg,hdeep,hnd,hall⟩:=hcond
   split at hs
   ·rename_i v x hi hx
    cases hs
    obtain ⟨u,us,hus,hp0,hargs⟩:=qMq hargs els
    ·
     have hids:=qfD hnd
     have hB:=qfS H hids
     have hrows: ∀i∈qk l.cells,∃(e:Nat) (t:Ty) (xs:List (Val t)) (mt:Bool) (n:Nat),st.heap[i]?=some (.row e t xs true mt n):=fun i hi=>qWs hdeep hi
     have hvk:=qhz (ok:=fun k=>w.heap.size≤k∨k∉qB m st.heap (qk l.cells)) H.br hargs hx fun l hl c hc=>qNC H (List.all_eq_true.1 (List.all_eq_true.1 hall l hl) c hc)
     have hM: ∃cs,qav g.t.agg cs u∧M w g.t.ty v cs (qB m st.heap (qk l.cells)):=by
            cases l with
            | tup=>simp [LV.isAgg]at hagg
            | one c=>
              simp only [LV.isAgg,Option.some.injEq]at hagg
              obtain ⟨v1,v2,pre,hvs',hpre,hM,hr⟩:=qeR H.br (F2.cons hp0 .nil) hi hdeep
              cases hr
              rw [List.append_nil]at hvs' hpre
              refine ⟨[u],by rw [←hagg];rfl,?_⟩
              rw [hvs',show (LV.one c).cells=pre from hpre];exact hM
            | agg cs=>
              simp only [LV.isAgg,Option.some.injEq]at hagg
              obtain ⟨us',rfl,hf⟩:=hp0
              obtain ⟨v1,v2,pre,hvs',hpre,hM,hr⟩:=qeR H.br hf hi hdeep
              cases hr
              rw [List.append_nil]at hvs' hpre
              refine ⟨us'.toList,by rw [←hagg];simp [qav],?_⟩
              rw [hvs',show (LV.agg cs).cells=pre from hpre];exact hM
     obtain ⟨cs,hw,hM⟩:=hM
     unfold Oper.wp
     rw [qme ho hc S.enters,Oper.upon_enter]
     have hvs':c.args.map a.eval=(insJ g.j u us).toArray:=by
            rw [←Array.toList_inj];simpa using hus
     rw [hvs']
     refine Calls.mono (S.runs v x hp w u cs _ _ us hw hM hB hvk (fun k hk=> .inl hk) (fun k hk hl=>by rcases hk with hk | hk;omega;exact hk)) fun e w' he'=> ?_
     obtain ⟨rv,B',rfl,hfr,hres,hBn,hBm⟩:=he'
     obtain ⟨rl,hfl,rfl,hcl⟩:=qr9 st.heap.length hres
     obtain ⟨H',K⟩:=qZd H hrows hfr hfl hBn hBm
     refine hn _ _ ⟨by rw [qcu];exact hd,m.rows st.heap.length rl,?_,?_⟩
     ·rw [St.put_heap];exact H'
     ·rw [St.put_heap,St.put_env]
      have hln:(kill (st.heap.map (Blk.clamp (los st.heap st.heap.length (qk l.cells)))) (qk l.cells)).length=st.heap.length:=by rw [qcv,List.length_map]
      refine qea (qvc K he) o.dst (qn2 (hcl.imp fun l1 u1 _ hv=> ?_))
      have:=qyf (m:=m) (h:=kill (st.heap.map (Blk.clamp (los st.heap st.heap.length (qk l.cells)))) (qk l.cells)) hfl (l:=l1) (u:=u1) (by rw [hln];exact hv)
      rw [hln]at this
      exact this
   ·simp at hs
  ·simp at hs
 ·simp at hs
theorem qCA {ws:Gws} {S:Sem} (h1: ∀f g,Gws.get ws f=some g→SoundW P f g) (h2:qc1 P S):qc1 P (qjC ws S):=by
 intro o st p st' hs hp w0 mine a w next Q hr hn
 unfold qjC at hs
 split at hs
 ·rename_i c hop
  split at hs
  ·rename_i f hcl
   split at hs
   ·rename_i g hg
    exact qNt (h1 f g hg) hop hcl hs hp hr hn
   ·exact h2 o st p st' hs hp w0 mine a w next Q hr hn
  ·exact h2 o st p st' hs hp w0 mine a w next Q hr hn
 ·exact h2 o st p st' hs hp w0 mine a w next Q hr hn
theorem qHC (hT : qP P tt) (hΓ : ∀ f g, Γ.get f = some g → Sound P f g) (hm : P.follows .mixedOrders = true) {f : FuncId} {fn : Func} {c : Code} {g : Gw} (hf : P.funcs[f]? = some fn) (hb : fn.body = some c) (hname : (fn.name == "runtime.NumGoroutine") = false)
 (hrun: ∀(v:Val g.t.ty) (x:qc g.ps),g.pre v x→ ∃T:Tab,qm T.tr c=true∧(qc1 P T.sem∧qn P T)∧qf tt Γ T c (qo tt true g.rs fn.results.toList) (qiL g.j g.t g.ps fn.ntmps v x)=some (g.fn v x)):SoundW P f g:=by
 refine ⟨⟨fn,hf,by rw [hb];rfl,hname⟩,fun v x hx w u cs B ext us hwr hM hB hvs hext hdis=> ?_⟩
 refine calls_of_wp hf hb ?_
 obtain ⟨T,hp,hS,hrun⟩:=hrun v x hx
 have hMl:=qeT hM
 obtain ⟨rl,hfl,rfl,hcl⟩:=qix 0 hM
 let mE:Mp:=⟨fun _=>undef,fun _=>0,fun _=>[],fun k=>ext k∨k∈rl.flatMap qy.fp⟩
 let mine:Mine:=⟨fun k=>k∈rl.flatMap qy.fp,fun k=>ext k∨k∈rl.flatMap qy.fp,fun _=>none⟩
 have hmem: ∀{j:Nat} {r:qy},rl[j]?=some r→ ∀k∈r.fp,k∈rl.flatMap qy.fp:=fun hj k hk=>List.mem_flatMap.2 ⟨_,List.mem_of_getElem? hj,hk⟩
 have hget: ∀{id:Nat} {y:Blk},(qF 0 g.t.ty v).2[id]?=some y→ ∃r,rl[id]?=some r∧qcn w y r∧fpB (mE.rows 0 rl) id y=r.fp∧(mE.rows 0 rl).val id=r.1∧(mE.rows 0 rl).nst id=r.2:=fun {id y} hy=>by
  obtain ⟨r,hr,hok⟩:=hfl.get hy
  obtain ⟨h1,h2⟩:=qcU (m:=mE) (n:=0) hr
  rw [Nat.zero_add]at h1 h2
  refine ⟨r,hr,hok,?_,h1,h2⟩
  obtain ⟨e,t,xs,inner,rfl,_⟩:=hok
  simp only [fpB,h1,h2,qy.fp]
 have hC:F2 (C w (mE.rows 0 rl) (qF 0 g.t.ty v).2) (qF 0 g.t.ty v).1 cs:=hcl.imp fun c u _ hc=>(qlt (h:=[]) hfl hc).1
 have H:HR w mine w (mE.rows 0 rl) (qF 0 g.t.ty v).2:=by
  refine ⟨fun id y hy=> ?_,fun id y hy=> ?_,fun id y id' y' hne hy hy' k hk hk'=> ?_,fun id y hy k hk=> ?_,Fr.refl _ w,rfl,fun k hk=> ?_,fun id q hpv=>by simp [mine]at hpv⟩
  ·obtain ⟨r,hr,hok,_,h1,h2⟩:=hget hy
   obtain ⟨e,t,xs,inner,rfl,ho,hms⟩:=hok
   exact ⟨inner,by rw [h1];exact ho,by rw [h2];exact hms,Nat.zero_le _⟩
  ·obtain ⟨r,hr,_,h1,_⟩:=hget hy
   rw [h1];exact qgQ hB hr
  ·obtain ⟨r,hr,_,h1,_⟩:=hget hy
   obtain ⟨r',hr',_,h1',_⟩:=hget hy'
   rw [h1]at hk;rw [h1']at hk'
   exact qhT hB hne hr hr' k hk hk'
  ·obtain ⟨r,hr,_,h1,_⟩:=hget hy
   rw [h1]at hk
   exact ⟨hMl k (hmem hr k hk),.inr (hmem hr k hk)⟩
  ·rcases hk with hk | hk
   ·exact .inl (hext k hk)
   ·exact .inr hk
 have hok0: ∀k,ext k→k<w.heap.size→qw (mE.rows 0 rl) (qF 0 g.t.ty v).2 0 k:=fun k hk hl=>⟨.inl hk,fun id y hy=>by
  have n2:=hdis k hk hl
  obtain ⟨r,hr,hok,h0,h1,h2⟩:=hget hy
  have hno:k∉r.fp:=fun hm'=>n2 (hmem hr k hm')
  obtain ⟨e,t,xs,inner,rfl,_⟩:=hok
  refine ⟨fun _ ho=>hno ?_,fun _ _ hm'=>hno ?_⟩
  ·rw [h1]at ho;simp [qy.fp,ho]
  ·rw [h2]at hm';exact List.mem_append_right _ hm'⟩
 have hl:us.length=g.ps.length:=qu2 hvs
 have henv:F2 (V w (mE.rows 0 rl) (qF 0 g.t.ty v).2) (qiL g.j g.t g.ps fn.ntmps v x).env ((insJ g.j u us).toArray++Array.replicate (fn.ntmps - (insJ g.j u us).toArray.size) undef).toList:=by
  rw [Array.toList_append,Array.toList_replicate]
  have hsz:(insJ g.j u us).toArray.size=g.ps.length+1:=by simp [qVv,hl]
  rw [hsz]
  refine F2.append (F2.insJ g.j (qlr (qyf (m:=mE) (h:=[]) (l:=⟨g.t.agg,(qF 0 g.t.ty v).1⟩) hfl ⟨cs,hcl,hwr⟩)) (qIj (qnn (qkk (fun _ _ _=>rfl) hok0 hvs)))) ?_
  generalize fn.ntmps - (g.ps.length+1)=k
  induction k with
  | zero=>exact .nil
  | succ k ih=>rw [List.replicate_succ,List.replicate_succ];exact .cons ⟨#[],rfl,.nil⟩ ih
 have hR:R w mine (qiL g.j g.t g.ps fn.ntmps v x) {tmps:=(insJ g.j u us).toArray++Array.replicate (fn.ntmps - (insJ g.j u us).toArray.size) undef,defers:=[]} w:=⟨rfl,_,H,henv⟩
 have fin: ∀(st:St) (a:Act) (w':World),R w mine st a w'→qfT tt true g.rs fn.results.toList (g.fn v x) st→a.defers=[]∧ ∃q,(results fn a.tmps).run P w'= .ok q w'∧(∃rv B',Ending.returned q= .returned (qdI rv)∧Fr (fun k=>k∈rl.flatMap qy.fp) w w'∧VMs w' g.rs (g.fn v x) rv B'∧B'.Nodup∧ ∀k∈B',k∈rl.flatMap qy.fp∨w.heap.size≤k):=by
  intro st a w' hr h
  obtain ⟨hd,m,H',he⟩:=hr
  refine ⟨hd,?_⟩
  unfold qfT at h
  split at h
  ·exact h.elim
  ·rename_i ls hls
   obtain ⟨vs',hrun,hV⟩:=qsB hT H' he hls
   obtain ⟨h1,h2⟩:=h.2 rfl
   refine ⟨qdI vs',qzQ fn hrun,vs',_,rfl,H'.fr,quB H'.br hV h.1 h1,qfS H' (qfD h2),fun b hb=> ?_⟩
   obtain ⟨id,y,_,hy,hb'⟩:=qcI hb
   rcases (H'.lt id y hy b hb').2 with h | h
   ·exact .inr h
   ·exact .inl h
 have hrq: ∀{e:X} {st:St},qo tt true g.rs fn.results.toList e st=some (g.fn v x)→qpV tt (⟨[],g.rs,true,fun _=>True,fun _=>g.fn v x⟩:G) fn.results.toList () e st:=fun {e st} h=>qsv (g:=⟨[],g.rs,true,fun _=>True,fun _=>g.fn v x⟩) h
 refine wp_mono (qfd hT hS.2 hΓ hm hS.1.at (fun _=>fun _=>rfl) c hp _ _ _ _ hrun hR) fun e a w' he=> ?_
 cases e with
 | normal=>obtain ⟨st,hr,h⟩:=he;exact fin st a w' hr (hrq h)
 | ret=>obtain ⟨st,hr,h⟩:=he;exact fin st a w' hr (hrq h)
 | exit id=>obtain ⟨st,hr,h⟩:=he;exact (hrq h).elim
 | _=>exact he.elim
theorem qzJ: ∀f g,Gws.get [] f=some g→SoundW P f g:=fun f g h=>by simp [Gws.get]at h
theorem qGC {f0:Nat} {g0:Gw} {ws:Gws} (h0:SoundW P f0 g0) (h: ∀f g,Gws.get ws f=some g→SoundW P f g): ∀f g,Gws.get ((f0,g0)::ws) f=some g→SoundW P f g:=fun f g hg=>by
 simp only [Gws.get]at hg
 split at hg
 ·rename_i e;subst e;cases hg;exact h0
 ·exact h f g hg
attribute [simp] Gws.get qjC qrQ qiL insJ qrv
end
end Go.T
/- T: atoms as inequalities over the rationals: scaling, strength, normal lists, elimination of a variable. -/
namespace Go.T
def qja:List Int→List Rat→Rat
 | x::xs,y::ys=>(x:Rat)*y+qja xs ys
 | _,_=>0
def evA (a:Atm) (p:List Rat):Rat:=qja a.1 p+(a.2.1:Rat)
def qqN (a:Atm) (p:List Rat):Prop:=evA a p<0∨(a.2.2=false∧evA a p=0)
def qWh (l:List Atm) (p:List Rat):Prop:= ∀a∈l,qqN a p
theorem qwZ {g x:Rat} (hg:0<g):(g*x<0↔x<0)∧(g*x=0↔x=0):=
 ⟨Rat.mul_neg_iff_of_pos_left hg,by rw [Rat.mul_eq_zero];grind⟩
theorem qEM: ∀(ls:List (Rat×Bool)),ls=[]∨ ∃m∈ls,∀x∈ls,x.1<m.1∨(x.1=m.1∧(x.2=true→m.2=true))
 | []=> .inl rfl
 | y::ls=>by
   right
   rcases qEM ls with rfl | ⟨m,hm,h⟩
   ·exact ⟨y,by simp,fun x hx=>by simp at hx;subst hx;exact .inr ⟨rfl,id⟩⟩
   ·by_cases hc:m.1<y.1∨(m.1=y.1∧y.2=true)
    ·refine ⟨y,by simp,fun x hx=> ?_⟩
     rcases List.mem_cons.1 hx with rfl | hx
     ·exact .inr ⟨rfl,id⟩
     ·have:=h x hx;grind
    ·refine ⟨m,by simp [hm],fun x hx=> ?_⟩
     rcases List.mem_cons.1 hx with rfl | hx
     ·grind
     ·exact h x hx
theorem qVp (us:List (Rat×Bool)):us=[]∨ ∃m∈us,∀x∈us,m.1<x.1∨(x.1=m.1∧(x.2=true→m.2=true)):=by
 rcases qEM (us.map fun u=>(-u.1,u.2))with h | ⟨m,hm,h⟩
 ·left;simpa using h
 ·right
  obtain ⟨u,hu,rfl⟩:=List.mem_map.1 hm
  refine ⟨u,hu,fun x hx=> ?_⟩
  have:=h (-x.1,x.2) (List.mem_map.2 ⟨x,hx,rfl⟩)
  grind
theorem qQb (ls us:List (Rat×Bool)) (h: ∀x∈ls,∀y∈us,x.1<y.1∨(x.2=false∧y.2=false∧x.1=y.1)):
 ∃t:Rat,(∀x∈ls,x.1<t∨(x.2=false∧x.1=t))∧ ∀y∈us,t<y.1∨(y.2=false∧t=y.1):=by
 rcases qEM ls with rfl | ⟨m,hm,h1⟩<;>rcases qVp us with rfl | ⟨k,hk,h2⟩
 ·exact ⟨0,by simp,by simp⟩
 ·exact ⟨k.1 - 1,by simp,fun y hy=>by have:=h2 y hy;grind⟩
 ·exact ⟨m.1+1,fun x hx=>by have:=h1 x hx;grind,by simp⟩
 ·have hmk:=h m hm k hk
  refine ⟨(m.1+k.1) / 2,fun x hx=> ?_,fun y hy=> ?_⟩
  ·have:=h1 x hx;grind
  ·have:=h2 y hy;grind
theorem qIB: ∀(xs:List Int) (p:List Rat) (v:Nat) (t:Rat),v<p.length→xs.length=p.length→qja xs (p.set v t)=qja xs p+(xs.getD v 0:Rat)*(t - p.getD v 0)
 | [],[],v,t,h,_=>by simp at h
 | [],y::ys,v,t,_,h=>by simp at h
 | x::xs,[],v,t,_,h=>by simp at h
 | x::xs,y::ys,0,t,_,_=>by simp [qja];grind
 | x::xs,y::ys,v+1,t,h,hl=>by
   simp only [List.set_cons_succ,qja,List.getD_cons_succ]
   rw [qIB xs ys v t (by simpa using h) (by simpa using hl)]
   grind
theorem qR8 {a:Atm} {p:List Rat} {v:Nat} {t:Rat} (hv:v<p.length) (hl:a.1.length=p.length):evA a (p.set v t)=evA a p+(a.1.getD v 0:Rat)*(t - p.getD v 0):=by
 unfold evA
 rw [qIB _ _ _ _ hv hl]
 grind
theorem qL5 {e c t q:Rat} (hc:0<c):(e+c*(t - q)<0↔t<q - e / c)∧(e+c*(t - q)=0↔t=q - e / c):=by
 have h1:c≠0:=by grind
 have h2:e / c*c=e:=Rat.div_mul_cancel h1
 generalize e / c=z at*
 subst h2
 have h3:z*c+c*(t - q)=c*(t - (q - z)):=by grind
 rw [h3]
 obtain ⟨e1,e2⟩:=qwZ (x:=t - (q - z)) hc
 rw [e1,e2]
 constructor<;>grind
theorem qVh {e c t q:Rat} (hc:c<0):(e+c*(t - q)<0↔q - e / c<t)∧(e+c*(t - q)=0↔q - e / c=t):=by
 have h1:c≠0:=by grind
 have h2:e / c*c=e:=Rat.div_mul_cancel h1
 generalize e / c=z at*
 subst h2
 have h3:z*c+c*(t - q)=(-c)*((q - z) - t):=by grind
 rw [h3]
 obtain ⟨e1,e2⟩:=qwZ (g:= -c) (x:=(q - z) - t) (by grind)
 rw [e1,e2]
 constructor<;>grind
theorem qTU {A B ca cb q:Rat} {sa sb:Bool} (ha:0<ca) (hb:cb<0) (h: -cb*A+ca*B<0∨(sa=false∧sb=false∧ -cb*A+ca*B=0)):q - B / cb<q - A / ca∨(sb=false∧sa=false∧q - B / cb=q - A / ca):=by
 have na:ca≠0:=by grind
 have nb:cb≠0:=by grind
 have ea:A / ca*ca=A:=Rat.div_mul_cancel na
 have eb:B / cb*cb=B:=Rat.div_mul_cancel nb
 generalize A / ca=za at*
 generalize B / cb=zb at*
 subst ea eb
 have e: -cb*(za*ca)+ca*(zb*cb)=(-cb*ca)*(za - zb):=by grind
 rw [e]at h
 have hp:0< -cb*ca:=Rat.mul_pos (by grind) ha
 obtain ⟨e1,e2⟩:=qwZ (x:=za - zb) hp
 rw [e1,e2]at h
 rcases h with h | ⟨h1,h2,h3⟩
 ·left;grind
 ·right;exact ⟨h2,h1,by grind⟩
theorem elim {l:List Atm} {v:Nat} {p:List Rat} (hv:v<p.length) (hl: ∀a∈l,a.1.length=p.length) (hz: ∀a∈l,a.1.getD v 0=0→qqN a p)
 (hm: ∀a∈l,∀b∈l,0<a.1.getD v 0→b.1.getD v 0<0→((-(b.1.getD v 0:Int):Int):Rat)*evA a p+((a.1.getD v 0:Int):Rat)*evA b p<0∨(a.2.2=false∧b.2.2=false∧((-(b.1.getD v 0:Int):Int):Rat)*evA a p+((a.1.getD v 0:Int):Rat)*evA b p=0)): ∃t,qWh l (p.set v t):=by
 obtain ⟨t,h1,h2⟩:=qQb ((l.filter fun a=>decide (a.1.getD v 0<0)).map fun a=>(p.getD v 0 - evA a p / ((a.1.getD v 0:Int):Rat),a.2.2)) ((l.filter fun a=>decide (0<a.1.getD v 0)).map fun a=>(p.getD v 0 - evA a p / ((a.1.getD v 0:Int):Rat),a.2.2)) fun x hx y hy=>by
  obtain ⟨b,hb,rfl⟩:=List.mem_map.1 hx
  obtain ⟨a,ha,rfl⟩:=List.mem_map.1 hy
  simp only [List.mem_filter,decide_eq_true_eq]at ha hb
  have hab:=hm a ha.1 b hb.1 ha.2 hb.2
  rw [Rat.intCast_neg]at hab
  exact qTU (Rat.intCast_pos.2 ha.2) (Rat.intCast_neg_iff.2 hb.2) hab
 refine ⟨t,fun a ha=> ?_⟩
 unfold qqN
 rw [qR8 hv (hl a ha)]
 rcases Int.lt_trichotomy (a.1.getD v 0) 0 with hc | hc | hc
 ·have hx:=h1 (p.getD v 0 - evA a p / ((a.1.getD v 0:Int):Rat),a.2.2) (List.mem_map.2 ⟨a,by simp only [List.mem_filter,decide_eq_true_eq];exact ⟨ha,hc⟩,rfl⟩)
  obtain ⟨e1,e2⟩:=qVh (e:=evA a p) (t:=t) (q:=p.getD v 0) (Rat.intCast_neg_iff.2 hc)
  rw [e1,e2]
  exact hx
 ·have:=hz a ha hc
  rw [hc]
  unfold qqN at this
  have e:evA a p+((0:Int):Rat)*(t - p.getD v 0)=evA a p:=by grind
  rw [e];exact this
 ·have hx:=h2 (p.getD v 0 - evA a p / ((a.1.getD v 0:Int):Rat),a.2.2) (List.mem_map.2 ⟨a,by simp only [List.mem_filter,decide_eq_true_eq];exact ⟨ha,hc⟩,rfl⟩)
  obtain ⟨e1,e2⟩:=qL5 (e:=evA a p) (t:=t) (q:=p.getD v 0) (Rat.intCast_pos.2 hc)
  rw [e1,e2]
  exact hx
end Go.T
