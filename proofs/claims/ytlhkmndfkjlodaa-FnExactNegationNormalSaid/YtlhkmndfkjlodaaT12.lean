/- T: copy of a shared slice of whole numbers into an own row. -/
import Derived.Test.YtlhkmndfkjlodaaT11
import Derived.Laws.CopyOwn
set_option linter.unusedSimpArgs false
set_option linter.unusedVariables false
namespace Go.T
open Go
def qJx (tt:TT) (t:Nat) (x y:LV) (d:Option Tmp) (st:St):Res:=match tt.get t,x,y with
 | some ti,.one (.own id),.one (.sl _ (.int k2) ys _)=>match ti.agg,ti.ty,st.heap[id]? with
   | false,.slice e (.int k),some (.row e' (.int k') xs dp true n)=>if e'=e∧k'=k∧k2=k then some (List.length (α:=Int) ys≤List.length (α:=Int) xs,({st with heap:=st.heap.set id (.row e' (.int k') (List.append (α:=Int) ys (List.drop (α:=Int) (List.length (α:=Int) ys) xs)) dp true n)}:St).put d (.one (.int .i64 (List.length (α:=Int) ys:Int))))else none
   | _,_,_=>none
 | _,_,_=>none
section
variable {P : Program} {tt : TT} {o : Oper} {a : Act} {w0 w : World} {mine : Mine} {st : St} {next : Act → World → Prop} {Q : Exit → Act → World → Prop}
end
def qM2 (tt:TT) (S:Sem):Sem:=fun o st=>match o.op with
 | .call c=>match c.callee,c.args.toList,c.argTypes.toList with
   | .builtin .copy,[x,y],[t,_]=>qJx tt t (st.ev x) (st.ev y) o.dst st
   | _,_,_=>S o st
 | _=>S o st
attribute [simp] qM2 qJx
end Go.T
/- T: arrays of bools: in boxes, as values. -/
namespace Go.T
open Go
def qq0:List LC→Option (List Bool)
 | []=>some []
 | .bool b::r=>match qq0 r with
   | some l=>some (b::l)
   | none=>none
 | _=>none
def qGo (f:Nat):Nat→List Bool→Bool
 | _,[]=>false
 | i,b::r=>bif decide (f=i)then b else qGo f (i+1) r
def qNW (f:Nat) (v:Bool) (i:Nat) (b:Bool):Bool:=bif decide (f=i)then v else b
def qtE (f:Nat) (v:Bool):Nat→List LC→Option (List LC)
 | _,[]=>some []
 | i,.bool b::r=>match qtE f v (i+1) r with
   | some l=>some (.bool (qNW f v i b)::l)
   | none=>none
 | _,_=>none
abbrev Ars:=List (Nat×Nat)
def Ars.get:Ars→Nat→Option Nat
 | [],_=>none
 | (t,n)::r,t'=>if t=t' then some n else Ars.get r t'
def qH9 (tt:TT) (as:Ars) (o:Oper) (st:St):Res:=match o.op with
 | .indexAddr t x y=>match Ars.get as t,st.ev x,st.ev y with
   | some n,.one (.ptr id 0 0),.one (.int _ i)=>match st.heap[id]? with
     | some (.box cs)=>if cs.length=n then some (0≤i∧i<(n:Int),st.put o.dst (.one (.ptr id 0 i.toNat)))else none
     | _=>none
   | _,_,_=>none
 | .index t x y=>match Ars.get as t,st.ev x,st.ev y with
   | some n,.agg cs,.one (.int _ i)=>if cs.length=n then match qq0 cs with
     | some l=>some (0≤i∧i<(n:Int),st.put o.dst (.one (.bool (qGo i.toNat 0 l))))
     | none=>none
     else none
   | _,_,_=>none
 | .build t ps=>match Ars.get as t,tt.get t,ps.toList with
   | some _,some ti,[]=>some (True,st.put o.dst (.agg (qdb ti.ty)))
   | _,_,_=>none
 | .load t x=>match tt.get t,st.ev x with
   | some ti,.one (.ptr id 0 f)=>if ti.agg=false∧ti.ty= .bool then match st.heap[id]? with
     | some (.box (c1::c2::cs))=>match qq0 (c1::c2::cs)with
       | some l=>some (f<(c1::c2::cs).length,st.put o.dst (.one (.bool (qGo f 0 l))))
       | none=>none
     | _=>none
     else none
   | _,_=>none
 | .store t x y=>match tt.get t,st.ev x,st.ev y,o.dst with
   | some ti,.one (.ptr id 0 f),.one (.bool v),none=>if ti.agg=false∧ti.ty= .bool then match st.heap[id]? with
     | some (.box (c1::c2::cs))=>match qtE f v 0 (c1::c2::cs)with
       | some l=>some (f<(c1::c2::cs).length,{st with heap:=st.heap.set id (.box l)})
       | none=>none
     | _=>none
     else none
   | _,_,_,_=>none
 | _=>none
section
variable {P : Program} {tt : TT} {as : Ars} {o : Oper} {a : Act} {w0 w : World} {mine : Mine} {st : St} {next : Act → World → Prop} {Q : Exit → Act → World → Prop}
end
def qLX (tt:TT) (as:Ars) (S:Sem):Sem:=fun o st=>match qH9 tt as o st with
 | some r=>some r
 | none=>S o st
attribute [simp] qLX qH9 qq0 qtE Ars.get qcL
end Go.T
/- T: functions that call themselves: contracts by a measure. -/
namespace Go.T
open Go
structure RN where
 n:Nat
 k:Nat
instance:CoeOut RN Nat:=⟨RN.n⟩
theorem qOY {P : Program} {f : FuncId} {fn : Func} {c : Code} {g : G} (hf : P.funcs[f]? = some fn) (hb : fn.body = some c) (hname : (fn.name == "runtime.NumGoroutine") = false) (h : ∀ x, ¬ g.pre x) : Sound P f g :=
 ⟨⟨fn,hf,by rw [hb];rfl,hname⟩,fun x hx=>(h x hx).elim⟩
theorem qQ6 {P : Program} {f : FuncId} {fn : Func} {c : Code} {g : Gw} (hf : P.funcs[f]? = some fn) (hb : fn.body = some c) (hname : (fn.name == "runtime.NumGoroutine") = false) (h : ∀ v x, ¬ g.pre v x) : SoundW P f g :=
 ⟨⟨fn,hf,by rw [hb];rfl,hname⟩,fun v x hx=>(h v x hx).elim⟩
end Go.T
/- T: literals of slices whose elements read what was handed in. -/
namespace Go.T
open Go
section
variable {P : Program} {tt : TT} {o : Oper} {a : Act} {w0 w : World} {mine : Mine} {st : St} {next : Act → World → Prop} {Q : Exit → Act → World → Prop}
theorem qRJ (hT:qP P tt) {t n:Nat} {ti:TI} (ht:tt.get t=some ti) {ps:Array (Nat×Operand)} (ho:o.op= .buildSlice t n ps) {e:Nat} {te:Ty} (hag:ti.agg=false) (hty:ti.ty= .slice e te)
 (hix:ps.toList.map (·.1)=List.range n) (hsm:n*te.sz≤65536) (hdef:(ps.toList.map fun p=>(st.ev p.2).cells).flatten.all LC.isDef=true) (hlow:(ps.toList.map fun p=>(st.ev p.2).cells).flatten.all LC.low=true)
 {xs:List (Val te)} (hxs:qcw st.heap te (ps.toList.map fun p=>(st.ev p.2).cells)=some xs) (hr:R w0 mine st a w)
 (hn: ∀a' w',R w0 mine {(st.put o.dst (.one (.own st.heap.length)))with heap:=st.heap++[.row e te xs false true 0]} a' w'→next a' w'):o.wp P a w next Q:=by
 obtain ⟨hd,m,H,he⟩:=hr
 have hti:=hT t ti ht
 obtain ⟨hu,tie,hte,htt⟩:=hti.slc hag e te hty
 obtain ⟨i,z,hi,hs,hz,hzc,hby⟩:=(hT e tie hte).info
 rw [htt]at hs hzc
 have hpos:=qEv hxs
 obtain ⟨hff,h1⟩:=qtV H he ps.toList fun p hp=>⟨List.all_eq_true.2 fun c hc=>List.all_eq_true.1 hdef c (List.mem_flatten.2 ⟨_,List.mem_map.2 ⟨p,hp,rfl⟩,hc⟩),hpos _ (List.mem_map.2 ⟨p,hp,rfl⟩)⟩
 obtain ⟨hk,hxl,hvl⟩:=qkJ (ok:=fun _=>True) H.br hff hxs (fun c _=>by
  cases c<;>simp only [okC]
  ·exact fun _ _ _=>trivial
  ·intro x _
   exact ⟨fun _ _=>trivial,by split<;>simp⟩)
 have hlen:ps.toList.length=n:=by
  have:=congrArg List.length hix
  simpa using this
 have hxn:xs.length=n:=by rw [hxl,List.length_map,hlen]
 -- the machine's
 let vs:List (Nat×Value):=ps.toList.map fun p=>(p.1,a.eval p.2)
 have hvs1:vs.map (·.1)=(List.range vs.length).map (0+ ·):=by
  simp only [vs,List.map_map,List.length_map,hlen,Nat.zero_add,List.map_id']
  rw [←hix];rfl
 have hvs2: ∀p∈vs,p.2.cells.size=te.sz:=by
  intro p hp
  obtain ⟨q,hq,rfl⟩:=List.mem_map.1 hp
  have:=hvl _ (List.mem_map.2 ⟨q,hq,rfl⟩)
  simpa using this
 have hvl':vs.length=n:=by simp [vs,hlen]
 obtain ⟨res,hfill,hres⟩:=qFj te.sz vs 0 ((Array.range (n*te.sz)).map ((if n*te.sz=0 then (#[]:Array Value)else z.cells)[· % (if n*te.sz=0 then (#[]:Array Value)else z.cells).size]!)) hvs1 hvs2 (by simp [hvl'])
 have hres':res.toList=(ps.toList.map fun p=>(a.eval p.2).cells.toList).flatten:=by
  rw [hres]
  simp only [Nat.zero_mul,List.take_zero,List.nil_append,Nat.zero_add,hvl']
  rw [List.drop_eq_nil_of_le (by simp),List.append_nil]
  simp only [vs,List.map_map]
  rfl
 have hrs:res.size=n*te.sz:=by
  have h2:=hk.len fun x c hk=>qb5 hk
  rw [←hres',hxn]at h2
  simpa using h2
 have hrun:(execOp a.eval o).run P w= .ok (.value (.slice (some ⟨w.heap.size,0,none⟩) n n)) (w.alloc (.cells res e)):=by
  have hsz:(sizeOf e).run P w= .ok te.sz w:=by simp [Go.sizeOf,typeInfo,hi,hs]
  by_cases h0:n*te.sz=0
  ·simp only [h0,if_true,vs]at hfill
   simp at hfill
   simp [execOp,ho,Instr.buildSlice,run_underlying hu,hsz,h0,hfill,Go.newRow]
   try rfl
  ·simp only [h0,if_false,vs]at hfill
   have hz':(zeroValue e).run P w= .ok z w:=by simp [zeroValue,typeInfo,hi,hz]
   have h24: ¬(2 ^ 24<n*te.sz):=by omega
   simp [execOp,ho,Instr.buildSlice,run_underlying hu,hsz,h0,hz',h24,hfill,Go.newRow]
   try rfl
 refine qen hrun (hn _ _ ?_)
 have hown:(w.alloc (.cells res e)).ownsRow 0 e te.sz (.slice (some ⟨w.heap.size,0,none⟩) n n) xs.length (ps.toList.map fun p=>(a.eval p.2).cells.toList).flatten:=by
  rw [hxn,←hres']
  exact World.ownsRow_lit w res n (Nat.zero_le _) (by
   have:=te.sz_pos
   have:n≤n*te.sz:=Nat.le_mul_of_pos_right _ this
   simp only [maxLen];omega) hrs
 have hold: ∀b,b<w.heap.size→(w.alloc (.cells res e)).heap[b]?=w.heap[b]?:=fun b hb=>heap_alloc_old w _ b hb
 have hfresh: ∀b,Value.ownBlock (.slice (some ⟨w.heap.size,0,none⟩) n n)=some b→w.heap.size≤b:=fun b hb=>by simp [Value.ownBlock]at hb;omega
 refine R.newedW hd he (HR.newRow H (h1:=st.heap) (qV.refl _) (dp:=false) (mt:=true) (n:=0) (B:=[]) (qjv w _ _) hown hfresh (by simp) List.nodup_nil (by simp) (by simp) (fun h=>rfl) (fun hok=> ?_)) _ (qf9 rfl)
 obtain ⟨hk',_,_⟩:=qkJ (ok:=qw (m.row st.heap.length (.slice (some ⟨w.heap.size,0,none⟩) n n) []) (st.heap++[.row e te xs false true 0]) 0) H.br hff hxs (fun c hc=>by
  have hl:=List.all_eq_true.1 hlow c hc
  cases c with
  | sl e' t' xs' k=>
    have hk0:k=0:=by simpa [LC.low] using hl
    subst hk0
    exact fun b hb hlt=>(hok 0 b hb hlt).2
  | own id=>simp [LC.low]at hl
  | _=>simp [okC])
 exact hk'.imp fun x c hx=>qaE (fun b _ hb=>hold b hb) (fun b h _=>h) hx
end
def qBy (tt:TT) (o:Oper) (st:St):Res:=match o.op with
 | .buildSlice t n ps=>match tt.get t with
   | some ti=>match ti.agg,ti.ty with
     | false,.slice e te=>
       if ps.toList.map (·.1)=List.range n∧n*te.sz≤65536∧(ps.toList.map fun p=>(st.ev p.2).cells).flatten.all LC.isDef=true∧(ps.toList.map fun p=>(st.ev p.2).cells).flatten.all LC.low=true∧qah st.heap (ps.toList.map fun p=>(st.ev p.2).cells).flatten=false then match qcw st.heap te (ps.toList.map fun p=>(st.ev p.2).cells)with
        | some xs=>some (True,{(st.put o.dst (.one (.own st.heap.length)))with heap:=st.heap++[.row e te xs false true 0]})
        | none=>none
       else none
     | _,_=>none
   | none=>none
 | _=>none
def qq8 (tt:TT) (S:Sem):Sem:=fun o st=>match qBy tt o st with
 | some r=>some r
 | none=>S o st
theorem qVB {P:Program} {tt:TT} (hT:qP P tt) {S:Sem} (h:qc1 P S):qc1 P (qq8 tt S):=by
 intro o st p st' hs hp w0 mine a w next Q hr hn
 unfold qq8 at hs
 split at hs
 ·rename_i r hr1
  cases hs
  unfold qBy at hr1
  split at hr1
  ·rename_i t n ps ho
   split at hr1
   ·rename_i ti ht
    split at hr1
    ·rename_i e te hag hty
     split at hr1
     ·rename_i hc
      obtain ⟨h1,h2,h3,h4,h5⟩:=hc
      split at hr1
      ·rename_i xs hxs
       cases hr1
       exact qRJ hT ht ho hag hty h1 h2 h3 h4 hxs hr hn
      ·simp at hr1
     ·simp at hr1
    ·simp at hr1
   ·simp at hr1
  ·simp at hr1
 ·exact h o st p st' hs hp w0 mine a w next Q hr hn
attribute [simp] qq8 qBy LC.low
end Go.T
