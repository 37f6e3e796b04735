/- T: function values: functions that have caught boxes; functions that are handed functions. -/
import Derived.Test.YtlhkmndfkjlodaaT9
set_option linter.unusedSimpArgs false
set_option linter.unusedVariables false
namespace Go.T
open Go
def qH8 (w:World) (ext:Nat→Prop):(tis:List TI)→qc tis→List Value→Prop
 | [],_,us=>us=[]
 | ti::r,x,us=> ∃b arr ty rest,us= .pointer (some ⟨b,0,none⟩)::rest∧w.heap[b]?=some (.cells arr ty (0,0))∧ext b∧K w ext ti.ty x.1 arr.toList∧qH8 w ext r x.2 rest
structure Gc (ps qs:List TI) where
 cs:List TI
 pre:qc cs→qc ps→Prop
 fn:qc cs→qc ps→qc qs
structure SoundC (P:Program) (f:FuncId) {ps qs:List TI} (g:Gc ps qs):Prop where
 enters:qgi P f
 runs: ∀(c:qc g.cs) (x:qc ps),g.pre c x→ ∀(w:World) (ext:Nat→Prop) (us caps:List Value),VKs w ext ps x us→qH8 w ext g.cs c caps→(∀b,w.heap.size≤b→ext b)→
  Calls P f (us++caps).toArray w fun e w'=> ∃rv,e= .returned (qfa rv)∧Fr (fun _=>False) w w'∧VKs w' ext qs (g.fn c x) rv
def qFi:(tis:List TI)→qc tis→List LV
 | [],_=>[]
 | ti::r,x=> .one (.tptr ti.ty x.1 0 0)::qFi r x.2
def qNj (ps cs:List TI) (ntmps:Nat) (c:qc cs) (x:qc ps):St:={env:=(qe8 0 ps x).map LV1.lv++(qFi cs c++List.replicate (ntmps - (ps.length+cs.length)) (.tup [])),heap:=[]}
def qT0 (P:Program) (w:World) (ext:Nat→Prop) (fv:Value) (ps qs:List TI) (pre:qc ps→Prop) (fn:qc ps→qc qs):Prop:=
 ∃(f:FuncId) (caps:List Value),fv= .func (.func f) #[] caps.toArray∧qgi P f∧ ∀(w':World) (ext':Nat→Prop) (x:qc ps) (us:List Value),Fr (fun _=>False) w w'→(∀b,b<w.heap.size→ext b→ext' b)→(∀b,w'.heap.size≤b→ext' b)→pre x→VKs w' ext' ps x us→
  Calls P f (us++caps).toArray w' fun e w''=> ∃rv,e= .returned (qfa rv)∧Fr (fun _=>False) w' w''∧VKs w'' ext' qs (fn x) rv
structure Gh where
 r:TI
 ps:List TI
 qs:List TI
 rs:List TI
 pre:(qc ps→Prop)→(qc ps→qc qs)→Val r.ty→Prop
 fn:(qc ps→qc qs)→Val r.ty→qc rs
structure SoundH (P:Program) (f:FuncId) (g:Gh):Prop where
 enters:qgi P f
 runs: ∀(pre:qc g.ps→Prop) (fn:qc g.ps→qc g.qs) (x:Val g.r.ty),g.pre pre fn x→ ∀(w:World) (ext:Nat→Prop) (u fv:Value) (cs:List Value),K w ext g.r.ty x cs→qaE g.r.agg cs u→qT0 P w ext fv g.ps g.qs pre fn→(∀b,w.heap.size≤b→ext b)→
  Calls P f #[u,fv] w fun e w'=> ∃us,e= .returned (qfa us)∧Fr (fun _=>False) w w'∧ ∃B,VMs w' g.rs (g.fn fn x) us B∧B.Nodup∧ ∀b∈B,w.heap.size≤b
def qGB:LC→Bool
 | .sl _ _ _ n=>n==0
 | .own _=>false
 | _=>true
def qIT (fv:Value) (ps qs:List TI) (pre:qc ps→Prop) (fn:qc ps→qc qs) (y:LV) (args:List LV) (d:Option Tmp) (st:St):Res:=match y with
 | .one (.hdr u)=>if (args.all fun l=>l.cells.all qGB)=true then match qb7 st.heap ps args with
    | some x=>some (u=fv∧pre x,st.put d (qf9 (qe8 0 qs (fn x))))
    | none=>none
   else none
 | _=>none
def qTO (fv:Value) (ps qs:List TI) (pre:qc ps→Prop) (fn:qc ps→qc qs) (S:Sem):Sem:=fun o st=>match o.op with
 | .call c=>match c.callee with
   | .value (.tmp t)=>qIT fv ps qs pre fn (st.ev (.tmp t)) (c.args.toList.map st.ev) o.dst st
   | _=>S o st
 | _=>S o st
def qBc (h:List Blk):List LV→Option (List Nat)
 | []=>some []
 | .one (.ptr id 0 0)::r=>match h[id]? with
   | some (.box _)=>match qBc h r with
     | some ids=>some (id::ids)
     | none=>none
   | _=>none
 | _=>none
def qIt (f:Nat) (caught:List LV) (d:Option Tmp) (st:St):Res:=match qBc st.heap caught with
 | some ids=>some (True,st.put d (.one (.clo f ids)))
 | none=>none
def qET (h:List Blk):(tis:List TI)→List Nat→Option (qc tis)
 | [],[]=>some ()
 | ti::r,id::ids=>match h[id]? with
   | some (Blk.box cs)=>match qo h ti.ty cs with
     | some (v,[])=>match qET h r ids with
       | some vs=>some (v,vs)
       | none=>none
     | _=>none
   | _=>none
 | _,_=>none
abbrev Cls (ps qs:List TI):=List (Nat×Gc ps qs)
def Cls.get {ps qs:List TI}:Cls ps qs→Nat→Option (Gc ps qs)
 | [],_=>none
 | (f,g)::r,f'=>if f=f' then some g else Cls.get r f'
def qIZ:LV→Option (Nat×List Nat)
 | .one (.fn f)=>some (f,[])
 | .one (.clo f ids)=>some (f,ids)
 | _=>none
def qIm (g:Gh) (cl:Cls g.ps g.qs) (args:List LV) (d:Option Tmp) (st:St):Res:=match args with
 | [x,y]=>match qIZ y with
   | some (f,ids)=>match Cls.get cl f with
     | some gc=>if x.isAgg=some g.r.agg then match qo st.heap g.r.ty x.cells,qET st.heap gc.cs ids with
       | some (v,[]),some cx=>some (g.pre (gc.pre cx) (gc.fn cx) v,st.res d (qf9 (qdN st.heap.length g.rs (g.fn (gc.fn cx) v)).1) (st.heap++(qdN st.heap.length g.rs (g.fn (gc.fn cx) v)).2.map (Blk.up st.heap.length)))
       | _,_=>none
       else none
     | none=>none
   | none=>none
 | _=>none
abbrev Bxs:=List (Nat×Gb)
abbrev Hns:=List (Nat×(g:Gh)×Cls g.ps g.qs)
def Bxs.get:Bxs→Nat→Option Gb
 | [],_=>none
 | (f,g)::r,f'=>if f=f' then some g else Bxs.get r f'
def Hns.get:Hns→Nat→Option ((g:Gh)×Cls g.ps g.qs)
 | [],_=>none
 | (f,g)::r,f'=>if f=f' then some g else Hns.get r f'
def qUG (bx:Bxs) (hn:Hns):Sem:=fun o st=>match o.op with
 | .call c=>match c.callee with
   | .value (.func f)=>match Bxs.get bx f with
     | some g=>qJc g (c.args.toList.map st.ev) o.dst st
     | none=>match Hns.get hn f with
       | some gc=>qIm gc.1 gc.2 (c.args.toList.map st.ev) o.dst st
       | none=>none
   | _=>none
 | .makeFunc (.func f) first caught=>match first.toList with
   | []=>qIt f (caught.toList.map st.ev) o.dst st
   | _=>none
 | _=>none
section
variable {P : Program} {tt : TT} {Γ : Gam} {w0 w w' : World} {mine : Mine} {m m' : Mp} {h : List Blk} {st : St} {a : Act} {o : Oper} {next : Act → World → Prop} {Q : Exit → Act → World → Prop}
def qL0 (r:TI) (ntmps:Nat) (x:Val r.ty) (fv:Value):St:={env:=LV1.lv ⟨r.agg,qdw 0 r.ty x⟩:: .one (.hdr fv)::List.replicate (ntmps - 2) (.tup []),heap:=[]}
end
end Go.T
/- T: calls that hand functions on. -/
namespace Go.T
open Go
section
variable {P : Program} {tt : TT} {Γ : Gam} {w0 w w' : World} {mine : Mine} {m m' : Mp} {h : List Blk} {st : St} {a : Act} {o : Oper} {next : Act → World → Prop} {Q : Exit → Act → World → Prop}
end
structure HN (ps qs:List TI) where
 n:Nat
 fv:Value
 pre:qc ps→Prop
 fn:qc ps→qc qs
instance {ps qs:List TI}:CoeOut (HN ps qs) Nat:=⟨HN.n⟩
attribute [simp] qDb qFy qGU qJc qGB qIT qTO qBc qIt qET Cls.get qIZ qIm Bxs.get Hns.get qUG qFi qNj qL0 qK4 qUD
end Go.T
/- T: functions that take over what their first argument owns: their results may keep it. -/
namespace Go.T
open Go
structure Gw where
 t:TI
 ps:List TI
 rs:List TI
 pre:Val t.ty→qc ps→Prop
 fn:Val t.ty→qc ps→qc rs
structure SoundW (P:Program) (f:FuncId) (g:Gw):Prop where
 enters:qgi P f
 runs: ∀(v:Val g.t.ty) (x:qc g.ps),g.pre v x→ ∀(w:World) (u:Value) (cs:List Value) (B:List Nat) (ext:Nat→Prop) (us:List Value),
  qaE g.t.agg cs u→M w g.t.ty v cs B→B.Nodup→VKs w ext g.ps x us→(∀k,w.heap.size≤k→ext k)→(∀k,ext k→k<w.heap.size→k∉B)→
  Calls P f (u::us).toArray w fun e w'=> ∃rv B',e= .returned (qfa rv)∧Fr (fun k=>k∈B) w w'∧VMs w' g.rs (g.fn v x) rv B'∧B'.Nodup∧ ∀k∈B',k∈B∨w.heap.size≤k
def qOZ (t:TI) (ps:List TI) (ntmps:Nat) (v:Val t.ty) (x:qc ps):St:={env:=(LV1.lv ⟨t.agg,(qQ 0 t.ty v).1⟩)::((qe8 0 ps x).map LV1.lv++List.replicate (ntmps - (ps.length+1)) (.tup [])),heap:=(qQ 0 t.ty v).2}
def qIx (g:Gw) (ls:List LV) (d:Option Tmp) (st:St):Res:=match ls with
 | l::args=>if l.isAgg=some g.t.agg∧qac st.heap l.cells=true∧qci (qk l.cells)=true∧(args.all fun l'=>l'.cells.all (qDb st.heap (los st.heap st.heap.length (qk l.cells)) (qk l.cells)))=true then
    match qo st.heap g.t.ty l.cells,qb7 st.heap g.ps args with
    | some (v,[]),some x=>some (g.pre v x,St.put ⟨st.env.map (LV.clamp (los st.heap st.heap.length (qk l.cells))),kill (st.heap.map (Blk.clamp (los st.heap st.heap.length (qk l.cells)))) (qk l.cells)++(qdN st.heap.length g.rs (g.fn v x)).2⟩ d (qf9 (qdN st.heap.length g.rs (g.fn v x)).1))
    | _,_=>none
   else none
 | _=>none
abbrev Gws:=List (Nat×Gw)
def Gws.get:Gws→Nat→Option Gw
 | [],_=>none
 | (f,g)::r,f'=>if f=f' then some g else Gws.get r f'
def qUe (ws:Gws) (S:Sem):Sem:=fun o st=>match o.op with
 | .call c=>match c.callee with
   | .value (.func f)=>match Gws.get ws f with
     | some g=>qIx g (c.args.toList.map st.ev) o.dst st
     | none=>S o st
   | _=>S o st
 | _=>S o st
section
variable {P : Program} {tt : TT} {Γ : Gam} {w0 w w' : World} {mine : Mine} {m m' : Mp} {h : List Blk} {st : St} {a : Act} {o : Oper} {next : Act → World → Prop} {Q : Exit → Act → World → Prop}
attribute [simp] Gws.get qUe qIx qOZ
end
end Go.T
/- T: atoms as inequalities over the rationals: scaling, strength, normal lists, elimination of a variable. -/
namespace Go.T
def qjR:List Int→List Rat→Rat
 | x::xs,y::ys=>(x:Rat)*y+qjR xs ys
 | _,_=>0
def evA (a:Atm) (p:List Rat):Rat:=qjR a.1 p+(a.2.1:Rat)
def qrf (a:Atm) (p:List Rat):Prop:=evA a p<0∨(a.2.2=false∧evA a p=0)
def qTe (l:List Atm) (p:List Rat):Prop:= ∀a∈l,qrf a p
theorem qwR {g x:Rat} (hg:0<g):(g*x<0↔x<0)∧(g*x=0↔x=0):=
 ⟨Rat.mul_neg_iff_of_pos_left hg,by rw [Rat.mul_eq_zero];grind⟩
theorem qDC: ∀(ls:List (Rat×Bool)),ls=[]∨ ∃m∈ls,∀x∈ls,x.1<m.1∨(x.1=m.1∧(x.2=true→m.2=true))
 | []=> .inl rfl
 | y::ls=>by
   right
   rcases qDC ls with rfl | ⟨m,hm,h⟩
   ·exact ⟨y,by simp,fun x hx=>by simp at hx;subst hx;exact .inr ⟨rfl,id⟩⟩
   ·by_cases hc:m.1<y.1∨(m.1=y.1∧y.2=true)
    ·refine ⟨y,by simp,fun x hx=> ?_⟩
     rcases List.mem_cons.1 hx with rfl | hx
     ·exact .inr ⟨rfl,id⟩
     ·have:=h x hx;grind
    ·refine ⟨m,by simp [hm],fun x hx=> ?_⟩
     rcases List.mem_cons.1 hx with rfl | hx
     ·grind
     ·exact h x hx
theorem qSs (us:List (Rat×Bool)):us=[]∨ ∃m∈us,∀x∈us,m.1<x.1∨(x.1=m.1∧(x.2=true→m.2=true)):=by
 rcases qDC (us.map fun u=>(-u.1,u.2))with h | ⟨m,hm,h⟩
 ·left;simpa using h
 ·right
  obtain ⟨u,hu,rfl⟩:=List.mem_map.1 hm
  refine ⟨u,hu,fun x hx=> ?_⟩
  have:=h (-x.1,x.2) (List.mem_map.2 ⟨x,hx,rfl⟩)
  grind
theorem qNZ (ls us:List (Rat×Bool)) (h: ∀x∈ls,∀y∈us,x.1<y.1∨(x.2=false∧y.2=false∧x.1=y.1)):
 ∃t:Rat,(∀x∈ls,x.1<t∨(x.2=false∧x.1=t))∧ ∀y∈us,t<y.1∨(y.2=false∧t=y.1):=by
 rcases qDC ls with rfl | ⟨m,hm,h1⟩<;>rcases qSs us with rfl | ⟨k,hk,h2⟩
 ·exact ⟨0,by simp,by simp⟩
 ·exact ⟨k.1 - 1,by simp,fun y hy=>by have:=h2 y hy;grind⟩
 ·exact ⟨m.1+1,fun x hx=>by have:=h1 x hx;grind,by simp⟩
 ·have hmk:=h m hm k hk
  refine ⟨(m.1+k.1) / 2,fun x hx=> ?_,fun y hy=> ?_⟩
  ·have:=h1 x hx;grind
  ·have:=h2 y hy;grind
theorem qHc: ∀(xs:List Int) (p:List Rat) (v:Nat) (t:Rat),v<p.length→xs.length=p.length→qjR xs (p.set v t)=qjR xs p+(xs.getD v 0:Rat)*(t - p.getD v 0)
 | [],[],v,t,h,_=>by simp at h
 | [],y::ys,v,t,_,h=>by simp at h
 | x::xs,[],v,t,_,h=>by simp at h
 | x::xs,y::ys,0,t,_,_=>by simp [qjR];grind
 | x::xs,y::ys,v+1,t,h,hl=>by
   simp only [List.set_cons_succ,qjR,List.getD_cons_succ]
   rw [qHc xs ys v t (by simpa using h) (by simpa using hl)]
   grind
theorem qPI {a:Atm} {p:List Rat} {v:Nat} {t:Rat} (hv:v<p.length) (hl:a.1.length=p.length):evA a (p.set v t)=evA a p+(a.1.getD v 0:Rat)*(t - p.getD v 0):=by
 unfold evA
 rw [qHc _ _ _ _ hv hl]
 grind
theorem qKv {e c t q:Rat} (hc:0<c):(e+c*(t - q)<0↔t<q - e / c)∧(e+c*(t - q)=0↔t=q - e / c):=by
 have h1:c≠0:=by grind
 have h2:e / c*c=e:=Rat.div_mul_cancel h1
 generalize e / c=z at*
 subst h2
 have h3:z*c+c*(t - q)=c*(t - (q - z)):=by grind
 rw [h3]
 obtain ⟨e1,e2⟩:=qwR (x:=t - (q - z)) hc
 rw [e1,e2]
 constructor<;>grind
theorem qSm {e c t q:Rat} (hc:c<0):(e+c*(t - q)<0↔q - e / c<t)∧(e+c*(t - q)=0↔q - e / c=t):=by
 have h1:c≠0:=by grind
 have h2:e / c*c=e:=Rat.div_mul_cancel h1
 generalize e / c=z at*
 subst h2
 have h3:z*c+c*(t - q)=(-c)*((q - z) - t):=by grind
 rw [h3]
 obtain ⟨e1,e2⟩:=qwR (g:= -c) (x:=(q - z) - t) (by grind)
 rw [e1,e2]
 constructor<;>grind
theorem qRe {A B ca cb q:Rat} {sa sb:Bool} (ha:0<ca) (hb:cb<0) (h: -cb*A+ca*B<0∨(sa=false∧sb=false∧ -cb*A+ca*B=0)):q - B / cb<q - A / ca∨(sb=false∧sa=false∧q - B / cb=q - A / ca):=by
 have na:ca≠0:=by grind
 have nb:cb≠0:=by grind
 have ea:A / ca*ca=A:=Rat.div_mul_cancel na
 have eb:B / cb*cb=B:=Rat.div_mul_cancel nb
 generalize A / ca=za at*
 generalize B / cb=zb at*
 subst ea eb
 have e: -cb*(za*ca)+ca*(zb*cb)=(-cb*ca)*(za - zb):=by grind
 rw [e]at h
 have hp:0< -cb*ca:=Rat.mul_pos (by grind) ha
 obtain ⟨e1,e2⟩:=qwR (x:=za - zb) hp
 rw [e1,e2]at h
 rcases h with h | ⟨h1,h2,h3⟩
 ·left;grind
 ·right;exact ⟨h2,h1,by grind⟩
theorem elim {l:List Atm} {v:Nat} {p:List Rat} (hv:v<p.length) (hl: ∀a∈l,a.1.length=p.length) (hz: ∀a∈l,a.1.getD v 0=0→qrf a p)
 (hm: ∀a∈l,∀b∈l,0<a.1.getD v 0→b.1.getD v 0<0→((-(b.1.getD v 0:Int):Int):Rat)*evA a p+((a.1.getD v 0:Int):Rat)*evA b p<0∨(a.2.2=false∧b.2.2=false∧((-(b.1.getD v 0:Int):Int):Rat)*evA a p+((a.1.getD v 0:Int):Rat)*evA b p=0)): ∃t,qTe l (p.set v t):=by
 obtain ⟨t,h1,h2⟩:=qNZ ((l.filter fun a=>decide (a.1.getD v 0<0)).map fun a=>(p.getD v 0 - evA a p / ((a.1.getD v 0:Int):Rat),a.2.2)) ((l.filter fun a=>decide (0<a.1.getD v 0)).map fun a=>(p.getD v 0 - evA a p / ((a.1.getD v 0:Int):Rat),a.2.2)) fun x hx y hy=>by
  obtain ⟨b,hb,rfl⟩:=List.mem_map.1 hx
  obtain ⟨a,ha,rfl⟩:=List.mem_map.1 hy
  simp only [List.mem_filter,decide_eq_true_eq]at ha hb
  have hab:=hm a ha.1 b hb.1 ha.2 hb.2
  rw [Rat.intCast_neg]at hab
  exact qRe (Rat.intCast_pos.2 ha.2) (Rat.intCast_neg_iff.2 hb.2) hab
 refine ⟨t,fun a ha=> ?_⟩
 unfold qrf
 rw [qPI hv (hl a ha)]
 rcases Int.lt_trichotomy (a.1.getD v 0) 0 with hc | hc | hc
 ·have hx:=h1 (p.getD v 0 - evA a p / ((a.1.getD v 0:Int):Rat),a.2.2) (List.mem_map.2 ⟨a,by simp only [List.mem_filter,decide_eq_true_eq];exact ⟨ha,hc⟩,rfl⟩)
  obtain ⟨e1,e2⟩:=qSm (e:=evA a p) (t:=t) (q:=p.getD v 0) (Rat.intCast_neg_iff.2 hc)
  rw [e1,e2]
  exact hx
 ·have:=hz a ha hc
  rw [hc]
  unfold qrf at this
  have e:evA a p+((0:Int):Rat)*(t - p.getD v 0)=evA a p:=by grind
  rw [e];exact this
 ·have hx:=h2 (p.getD v 0 - evA a p / ((a.1.getD v 0:Int):Rat),a.2.2) (List.mem_map.2 ⟨a,by simp only [List.mem_filter,decide_eq_true_eq];exact ⟨ha,hc⟩,rfl⟩)
  obtain ⟨e1,e2⟩:=qKv (e:=evA a p) (t:=t) (q:=p.getD v 0) (Rat.intCast_pos.2 hc)
  rw [e1,e2]
  exact hx
end Go.T
