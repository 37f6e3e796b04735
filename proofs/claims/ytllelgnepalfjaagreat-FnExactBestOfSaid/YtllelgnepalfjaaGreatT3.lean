import Derived.Test.YtllelgnepalfjaaGreatT2
import Derived.Laws.Tables
import Derived.Laws.Rows
import Derived.Laws.NewFold
set_option linter.unusedSimpArgs false
set_option linter.unusedVariables false
namespace Go.T
open Go
def bI:Ty->List Value
 | .int k=>[.int k 0]
 | .bool=>[.bool false]
 | .str=>[.string ByteArray.empty]
 | .hdr=>[.slice none 0 0]
 | .slice _ _=>[.slice none 0 0]
 | .pair a b=>bI a++bI b
def q1 (P:Program) (tt:TT) (ti:TI):TypeDesc->Prop
 | .struct fs=>ti.agg=true/\(fs.toList.mapM fun (f:Field)=>(P.info? f.type).map fun i=>(f.offset,i.size))=some ti.offs
 | .array n e=>ti.agg=true/\ ∃j,P.info? e=some j/\ ∃te,tt.get e=some te/\j.size=te.ty.sz/\ti.ty.sz=n*te.ty.sz
 | .slice e=>ti.agg=false/\ ∃te tie,ti.ty= .slice e te/\tt.get e=some tie/\tie.ty=te
 | _=>ti.agg=false
structure TIok (P:Program) (tt:TT) (t:Nat) (ti:TI):Prop where
 info: ∃i z,P.info? t=some i/\i.size=ti.ty.sz/\i.zero=some z/\z.cells.toList=bI ti.ty/\i.bytes<=65536
 desc: ∃d,P.underlying t=some d/\q1 P tt ti d
 one:ti.agg=false->ti.ty.sz=1
 bool:ti.agg=false->ti.ty= .bool->P.underlying t=some .bool
 str:ti.agg=false->ti.ty= .str->P.underlying t=some .string
 int:ti.agg=false-> ∀k,ti.ty= .int k->P.underlying t=some (.int k)
 ints : ti.ints = true -> ∃ (f g : Field) (k l : IntKind), P.underlying t = some (.struct #[f, g]) /\ P.stoodInHeld t = false /\ P.eqGuardType P.depth t = false /\ f.offset = 0 /\ g.offset = 1 /\ f.name ≠ "_" /\ g.name ≠ "_" /\ P.underlying f.type = some (.int k) /\ P.underlying g.type = some (.int l)
 slc:ti.agg=false-> ∀(e:Nat) (te:Ty),ti.ty= .slice e te->P.underlying t=some (.slice e)/\ ∃tie,tt.get e=some tie/\tie.ty=te
 offsStruct: ∀(f n i:Nat),ti.offs[i]?=some (f,n)-> ∃(fs:Array Field) (fl:Field),P.underlying t=some (.struct fs)/\fs[i]?=some fl/\fl.offset=f/\ ∃j,P.info? fl.type=some j/\j.size=n/\0<n/\f+n<=ti.ty.sz
def bm (P:Program) (tt:TT):Prop:= ∀t ti,tt.get t=some ti->TIok P tt t ti
theorem TIok.isAgg {P:Program} {tt:TT} {t:Nat} {ti:TI} (h:TIok P tt t ti) (w:World):(isAgg t).run P w= .ok ti.agg w:=by
 obtain ⟨d,hu,hd⟩:=h.desc
 cases d<;>simp_all [Go.isAgg,run_underlying hu,q1]
theorem TIok.sizeOf {P:Program} {tt:TT} {t:Nat} {ti:TI} (h:TIok P tt t ti) (w:World):(Go.sizeOf t).run P w= .ok ti.ty.sz w:=by
 obtain ⟨i,z,a,hs,_⟩:=h.info
 simp [Go.sizeOf,typeInfo,a,hs]
section
variable {P : Program} {o : Oper} {a : Act} {w w' : World} {next : Act -> World -> Prop} {Q : Exit -> Act -> World -> Prop}
theorem dZ {v:Value} (h:(execOp a.eval o).run P w= .ok (.value v) w') (b:next (a.put o.dst v) w'):o.wp P a w next Q:=by
 unfold Oper.wp;rw [h];exact b
theorem q2 (h:(execOp a.eval o).run P w= .ok .skip w') (b:next (a.put o.dst undef) w'):o.wp P a w next Q:=by
 unfold Oper.wp;rw [h];exact b
end
theorem IE {w:World} {m:Mp} {h:List Blk} (H: ∀id x,h[id]?=some x->BR w m h id x): ∀{c:LC} {v:Value},c.isDef=true->C w m h c v->v.oneCell'=true
 | .int _ _,v,_,b | .bool _,v,_,b | .str _,v,_,b | .nils,v,_,b | .nilp,v,_,b | .fn _,v,_,b=>by simp [C]at b;subst b;rfl
 | .sl _ _ _ _,v,_,b=>by obtain ⟨A,c,rfl,_⟩:=b;rfl
 | .tptr _ _ _ _,v,_,b=>by obtain ⟨a,cs,rfl,_⟩:=b;rfl
 | .hdr u,v,_,b=>by obtain ⟨rfl,h⟩:=b;exact h
 | .undef,v,hd,_=>by simp [LC.isDef]at hd
 | .clo f ids,v,_,b=>b.1
 | .own id,v,_,b=>by
   simp only [C]at b
   cases d:h[id]? with
   | none=>rw [d]at b;exact b.elim
   | some x=>
     rw [d]at b
     cases x with
     | box=>exact b.elim
     | row=>simp only at b;subst b;exact (H id _ d).rowOne
     | nst=>exact b.elim
     | dead=>exact b
 | .ptr id i f,v,_,b=>by
   simp only [C]at b
   cases d:h[id]? with
   | none=>rw [d]at b;exact b.elim
   | some x=>
     rw [d]at b
     cases x with
     | box=>obtain ⟨_,rfl⟩:=b;rfl
     | row=>obtain ⟨g,_,rfl⟩:=b;rfl
     | nst=>exact b.elim
     | dead=>exact b
theorem Ur {v:Value} (h:v.oneCell'=true):v.cells= #[v]:=by cases v<;>simp_all [Value.cells,Value.oneCell']
theorem jI {w:World} {m:Mp} {h:List Blk} (H: ∀id x,h[id]?=some x->BR w m h id x) {l:LV} {v:Value} (b:V w m h l v) (hd:l.cells.all LC.isDef=true) (g:0<l.cells.length):
 F2 (C w m h) l.cells v.cells.toList/\ ∀u∈v.cells.toList,u.oneCell'=true:=by
 cases l with
 | one c=>
   have a:c.isDef=true:=by simpa [LV.cells] using hd
   have h1:=IE H a b
   rw [Ur h1]
   exact ⟨.cons b .nil,by simp [h1]⟩
 | agg cs=>
   obtain ⟨vs,rfl,d⟩:=b
   refine ⟨d,fun u hu=> ?_⟩
   simp only [Value.cells]at hu
   obtain ⟨i,f⟩:=List.getElem?_of_mem hu
   obtain ⟨c,a,e⟩:=d.get' f
   exact IE H (by
    have:=List.all_eq_true.1 hd c
    exact this (List.mem_of_getElem? a)) e
 | tup vs=>simp [LV.cells]at g
theorem nl (w:World) (m:Mp) (h:List Blk): ∀t:Ty,F2 (C w m h) (eS t) (bI t)
 | .int k=> .cons rfl .nil
 | .bool=> .cons rfl .nil
 | .str=> .cons rfl .nil
 | .hdr=> .cons ⟨rfl,rfl⟩ .nil
 | .slice _ _=> .cons rfl .nil
 | .pair a b=>(nl w m h a).append (nl w m h b)
theorem x8: ∀t:Ty,∀u∈bI t,u.oneCell'=true
 | .int _ | .bool | .str | .hdr | .slice _ _=>by simp [bI,Value.oneCell']
 | .pair a b=>by
   intro u hu
   rcases List.mem_append.1 hu with hu | hu
   ·exact x8 a u hu
   ·exact x8 b u hu
theorem lM {w:World} {m:Mp} {h:List Blk} {n:Nat}: ∀{t:Ty} {v:Val t} {cs:List Value},K w (qM m h n) t v cs->F2 (C w m h) (eu n t v) cs
 | .int _,_,_,hk=>by rw [K]at hk;subst hk;exact .cons rfl .nil
 | .bool,_,_,hk=>by rw [K]at hk;subst hk;exact .cons rfl .nil
 | .str,_,_,hk=>by rw [K]at hk;subst hk;exact .cons rfl .nil
 | .hdr,_,_,hk=>by rw [K]at hk;obtain ⟨rfl,h⟩:=hk;exact .cons ⟨rfl,h⟩ .nil
 | .slice _ _,xs,_,hk=>by
   rw [K]at hk
   obtain ⟨A,c,rfl,d,e⟩:=hk
   exact .cons ⟨A,c,rfl,d,e⟩ .nil
 | .pair a b,v,_,hk=>by
   rw [K]at hk
   obtain ⟨c1,c2,rfl,h1,h2⟩:=hk
   exact (lM h1).append (lM h2)
theorem q3 (n:Nat): ∀(t:Ty) (v:Val t),(eu n t v).length=t.sz
 | .int _,_=>rfl
 | .bool,_=>rfl
 | .str,_=>rfl
 | .hdr,_=>rfl
 | .slice _ _,_=>rfl
 | .pair a b,v=>by simp [eu,Ty.sz,q3 n a,q3 n b]
theorem np (w:World) (o:Obj) (A:Nat->Prop):Fr A w (w.alloc o):=⟨rfl,rfl,rfl,by simp,fun k hk _=>heap_alloc_old w o k hk,Nat.le_refl _⟩
theorem nq (w:World) (g:Nat) (cs:Array Value) (A:Nat->Prop) (a:A g):Fr A w (w.setRow g cs):=
 ⟨rfl,rfl,rfl,by simp [World.setRow],fun k _ hk=>setRow_other w g k cs (fun e=>hk (e▸a)),Nat.le_refl _⟩
def Mp.box (m:Mp) (id b:Nat):Mp:={m with blk:=fun i=>if i=id then b else m.blk i}
def Mp.row (m:Mp) (id:Nat) (v:Value) (B:List Nat):Mp:={m with val:=fun i=>if i=id then v else m.val i,nst:=fun i=>if i=id then B else m.nst i}
theorem HR.newBox {w0 w:World} {mine:Mine} {m:Mp} {h:List Blk} (H:HR w0 mine w m h) (cs:List LC) (arr:Array Value) (ty:TypeId) (a:F2 (C w m h) cs arr.toList) (h1: ∀u∈arr.toList,u.oneCell'=true):
 HR w0 mine (w.alloc (.cells arr ty)) (m.box h.length w.heap.size) (h++[.box cs])/\Oks w (w.alloc (.cells arr ty)) m (m.box h.length w.heap.size) h (h++[.box cs])/\bA m (m.box h.length w.heap.size) h (h++[.box cs]):=by
 refine H.new (bu.refl h) (.box cs) (np w _ _) (fun i _=>rfl) (fun i g=>by simp [Mp.box];intro e;omega) (fun i _=>rfl) rfl (fun n b _ j=> ?_) (fun d hs=> ?_) (by simp [fpB]) (fun b c=> ?_)
 ·simp [okB,Mp.box];omega
 ·exact ⟨arr,ty,by simp only [Mp.box,if_true];exact heap_alloc_new w _,a.imp fun _ _ _ a=>fS d hs a,h1⟩
 ·simp [fpB,Mp.box]at c
  subst c
  refine ⟨by simp,.inl H.fr.size,fun id y f hm=> ?_⟩
  have:=(H.lt id y f _ hm).1
  omega
theorem IF {w:World} {m:Mp} {h:List Blk} (cs:List LC) (b:Nat):C w (m.box h.length b) (h++[.box cs]) (.ptr h.length 0 0) (.pointer (some ⟨b,0,none⟩)):=by
 simp [C,Mp.box]
section
variable {P : Program} {tt : TT} {o : Oper} {a : Act} {w0 w : World} {mine : Mine} {st : St} {next : Act -> World -> Prop} {Q : Exit -> Act -> World -> Prop}
theorem R.mk {a:St} {b:Act} {w':World} {m':Mp} (hd:b.defers=[]) (H:HR w0 mine w' m' a.heap) (he:F2 (V w' m' a.heap) a.env b.tmps.toList):R w0 mine a b w':=⟨hd,m',H,he⟩
theorem R.newed {m m':Mp} {w':World} {x:Blk} (hd:a.defers=[]) (he:F2 (V w m st.heap) st.env a.tmps.toList) (b:HR w0 mine w' m' (st.heap++[x])/\Oks w w' m m' st.heap (st.heap++[x])/\bA m m' st.heap (st.heap++[x]))
 (d:Option Tmp) {c:LC} {v:Value} (e:C w' m' (st.heap++[x]) c v):R w0 mine (st.new d x c) (a.put d v) w':=by
 refine ⟨by rw [c0];exact hd,m',b.1,?_⟩
 show F2 (V w' m' (st.heap++[x])) (st.put d (.one c)).env _
 rw [St.put_env]
 exact dY (bV b.2.1 b.2.2 he) d (l:= .one c) e
theorem IG {x:Operand} (b:o.op= .move x∨o.op= .assign x) (e:R w0 mine st a w) (d: ∀c w',R w0 mine (st.put o.dst (st.ev x)) c w'->next c w'):o.wp P a w next Q:=by
 refine dZ (v:=a.eval x) (w':=w) ?_ (d _ _ (e.put _ fun m H he=>R.ev H he x))
 rcases b with b | b<;>simp [execOp,b]
theorem Us (hT:bm P tt) {t:Nat} {ti:TI} (f:o.op= .alloc t) (h:tt.get t=some ti) (g:R w0 mine st a w)
 (e: ∀b w',R w0 mine (st.new o.dst (.box (eS ti.ty)) (.ptr st.heap.length 0 0)) b w'->next b w'):o.wp P a w next Q:=by
 obtain ⟨hd,m,H,he⟩:=g
 obtain ⟨i,z,d,hs,j,c,_⟩:=(hT t ti h).info
 refine dZ (v:= .pointer (some ⟨w.heap.size,0,none⟩)) (w':=w.alloc (.cells z.cells t)) ?_ (e _ _ (R.newed hd he (H.newBox (eS ti.ty) z.cells t (by rw [c];exact nl _ _ _ _) (by rw [c];exact x8 _)) _ (IF _ _)))
 simp [execOp,f,Instr.alloc,zeroValue,typeInfo,d,j,newVar,newRow]
 try rfl
theorem Ut {t:Nat} {x:Operand} (g:o.op= .box t x) (h:R w0 mine st a w) (d:(st.ev x).cells.all LC.isDef=true) (e:0<(st.ev x).cells.length)
 (f: ∀b w',R w0 mine (st.new o.dst (.box (st.ev x).cells) (.ptr st.heap.length 0 0)) b w'->next b w'):o.wp P a w next Q:=by
 obtain ⟨hd,m,H,he⟩:=h
 obtain ⟨c,h1⟩:=jI H.br (R.ev H he x) d e
 refine dZ (v:= .pointer (some ⟨w.heap.size,0,none⟩)) (w':=w.alloc (.cells (a.eval x).cells t)) ?_ (f _ _ (R.newed hd he (H.newBox _ _ t c h1) _ (IF _ _)))
 simp [execOp,g,Instr.box,newVar,newRow]
 try rfl
theorem IH {c x y:Operand} {b:Bool} (q:o.op= .pick c x y) (k:st.ev c= .one (.bool b)) (r:R w0 mine st a w) (l:LV) (n: ∀m h i,V w m st.heap (st.ev x) h->V w m st.heap (st.ev y) i->V w m st.heap l (if b then h else i))
 (p: ∀e w',R w0 mine (st.put o.dst l) e w'->next e w'):o.wp P a w next Q:=by
 obtain ⟨hd,m,H,he⟩:=r
 have f:=R.ev H he c
 rw [k]at f
 have j:a.eval c= .bool b:=f
 refine dZ (v:=if b then a.eval x else a.eval y) (w':=w) ?_ (p _ _ (R.put ⟨hd,m,H,he⟩ _ fun m' d g=>n _ _ _ (R.ev d g x) (R.ev d g y)))
 simp [execOp,q,j,asBool]
end
end Go.T
namespace Go.T
open Go
theorem nr (b f:Nat):(⟨b,0,none⟩:Addr).add f=⟨b,f,none⟩:=by unfold Addr.add;split<;>simp_all
theorem x9 (b f k:Nat):(⟨b,f,none⟩:Addr).add k=⟨b,f+k,none⟩:=by unfold Addr.add;split<;>simp_all
theorem II {w:World} {b:Nat} {arr:Array Value} {ty:TypeId} {a:Nat×Nat} (h:w.heap[b]?=some (.cells arr ty a)):At w ⟨b,0,none⟩ arr.toList:=by
 intro j u hu
 rw [nr,cell_of_row w b j arr ty a h]
 simpa using hu
theorem IJ {P:Program} {tt:TT} {t:Nat} {ti:TI} (hT:TIok P tt t ti) {w:World} {m:Mp} {h:List Blk} {a:Addr} {lcs:List LC} {cs:List Value}
 (g:At w a cs) (d:F2 (C w m h) lcs cs) (f:lcs.length=ti.ty.sz) (h1:ti.agg=false->ti.ty.sz=1):
 ∃v,(loadVar t a).run P w= .ok v w/\V w m h (h8 ti.agg lcs) v:=by
 have hlen:cs.length=ti.ty.sz:=by rw [<-d.len,f]
 cases b:ti.agg with
 | true=>
   refine ⟨.agg cs.toArray,?_,⟨cs.toArray,rfl,by simpa using d⟩⟩
   have:=run_loadCells_list (P:=P) w a cs g
   rw [hlen]at this
   simp [loadVar,hT.isAgg,b,hT.sizeOf,this]
 | false=>
   have:=h1 b
   rw [this]at hlen f
   obtain ⟨c,rfl⟩: ∃c,lcs=[c]:=by
    match lcs,f with
    | [c],_=>exact ⟨c,rfl⟩
   obtain ⟨u,rfl⟩: ∃u,cs=[u]:=by
    match cs,hlen with
    | [u],_=>exact ⟨u,rfl⟩
   cases d with
   | cons i _=>
     have hu:=g 0 u (by simp)
     have e:a.add 0=a:=by simp [Addr.add]
     rw [e]at hu
     refine ⟨u,?_,i⟩
     simp [loadVar,hT.isAgg,b,run_load,hu]
theorem Uu {α:Type} {T:α->List Value->List Nat->Prop} {xs:List α} {cs:List Value} {B:List Nat} {sz:Nat} (hs: ∀x c b,T x c b->c.length=sz) (h:Ms T xs cs B) {i:Nat} {x:α} (e:xs[i]?=some x):
 ∃b,(∀k∈b,k∈B)/\T x ((cs.drop (i*sz)).take sz) b:=by
 have hk:Ks (fun x c=> ∃b,(∀k∈b,k∈B)/\T x c b) xs cs:=h.toKs fun x c b d a=>⟨b,d,a⟩
 exact hk.get (fun x c ⟨b,_,a⟩=>hs x c b a) e
theorem IK {w0 w:World} {mine:Mine} {m:Mp} {h:List Blk} (H:HR w0 mine w m h) {id e:Nat} {t:Ty} {xs:List (Val t)} {dp mt:Bool} {n:Nat} (j:h[id]?=some (.row e t xs dp mt n))
 {i:Nat} (D:i<xs.length): ∃g cs,(m.val id).ownBlock=some g/\At w ⟨g,i*t.sz,none⟩ cs/\K w (qM m h (bif dp then n+1 else n)) t (xs.getD i (qa t)) cs:=by
 obtain ⟨inner,y,d⟩:=H.br id _ j
 have u:xs[i]?=some (xs.getD i (qa t)):=by simp [List.getD,List.getElem?_eq_getElem D]
 obtain ⟨A,c,M,J,z,E⟩:=gP y
 cases A with
 | none=>have:=E rfl;omega
 | some a=>
   obtain ⟨r,I⟩:=z a rfl
   have q:=(x5 y r).sub (i*t.sz) t.sz
   rw [nr]at q
   refine ⟨a.block,_,r,q,?_⟩
   cases dp with
   | false=>
     simp only [cond_false]at d ⊢
     exact d.get (fun x c hk=>cE hk) u
   | true=>
     simp only [cond_true]at d ⊢
     obtain ⟨b,s,B⟩:=Uu (fun x c b hm=>fR hm) d.1 u
     refine M_K B fun k hk=> ?_
     have v:k∈fpB m id (.row e t xs true mt n):=by simp only [fpB];exact List.mem_append_right _ (s k hk)
     refine ⟨by rw [H.mx];exact H.nx k (H.lt id _ j k v).2,?_⟩
     intro id' x' l
     have L:=(List.getElem?_eq_some_iff.1 l).1
     by_cases he:id'=id
     ·subst he
      rw [j]at l;cases l
      refine ⟨fun _ p=> ?_,fun _ hle=> ?_⟩
      ·have o:=H.nd _ _ j
       simp only [fpB,p]at o
       simp at o
       exact o.1 (s k hk)
      ·exfalso
       have:=d.2
       omega
     ·have f:=H.dj id _ id' x' (fun e=>he e.symm) j l k v
      cases x' with
      | box cs=>simp only [fpB,List.mem_singleton]at f;exact f
      | nst F t hs vs=>exact f
      | dead=>trivial
      | row e' t' P G O N=>
        refine ⟨fun _ p=>f ?_,fun C _ hm=>f ?_⟩
        ·simp [fpB,p]
        ·subst C;simp only [fpB];exact List.mem_append_right _ hm
theorem ra {w:World} {m:Mp} {h:List Blk} {lcs:List LC} {cs:List Value} (a:F2 (C w m h) lcs cs) (f n:Nat):F2 (C w m h) ((lcs.drop f).take n) ((cs.drop f).take n):=(a.drop f).take n
section
variable {P : Program} {tt : TT} {o : Oper} {a : Act} {w0 w : World} {mine : Mine} {st : St} {next : Act -> World -> Prop} {Q : Exit -> Act -> World -> Prop}
theorem Uv (hT:bm P tt) {t:Nat} {x:Operand} (G:o.op= .load t x) {p:Prop} {s:St} (hs:lC tt t (st.ev x) o.dst st=some (p,s)) (A:p) (I:R w0 mine st a w)
 (F: ∀u w',R w0 mine s u w'->next u w'):o.wp P a w next Q:=by
 unfold lC at hs
 cases q:tt.get t with
 | none=>simp [q]at hs
 | some ti=>
   have B:=hT t ti q
   obtain ⟨hd,m,H,he⟩:=I
   have c:=R.ev H he x
   have done: ∀{j:Addr} {lcs:List LC} {cs:List Value},a.eval x= .pointer (some j)->At w j cs->F2 (C w m st.heap) lcs cs->lcs.length=ti.ty.sz->s=st.put o.dst (h8 ti.agg lcs)->o.wp P a w next Q:=by
    intro j lcs cs d b l E K
    obtain ⟨v,J,L⟩:=IJ B b l E B.one
    refine dZ (v:=v) (w':=w) (by simp [execOp,G,d,Instr.loadAt,Instr.sureAddr,J]) (F _ _ ?_)
    rw [K]
    refine ⟨by rw [c0];exact hd,m,by rw [St.put_heap];exact H,?_⟩
    rw [St.put_heap,St.put_env]
    exact dY he _ L
   simp only [q]at hs
   split at hs
   ·rename_i id i f r
    rw [r]at c
    simp only [V,C]at c
    split at hs
    ·rename_i cs h
     rw [h]at c
     obtain ⟨rfl,d⟩:=c
     cases hs
     obtain ⟨arr,ty,hblk,l,h1⟩:=H.br id _ h
     have b:=(II hblk).sub f ti.ty.sz
     rw [nr]at b
     exact done d b (ra l f ti.ty.sz) (by simp;omega) rfl
    ·rename_i e t' xs dp mt n h
     rw [h]at c
     obtain ⟨g,D,d⟩:=c
     cases hs
     obtain ⟨M,cs,z,b,hk⟩:=IK H h A.1
     rw [D]at z
     cases z
     have y:=b.sub f ti.ty.sz
     rw [x9]at y
     have k:=q3 (bif dp then n+1 else n) t' (xs.getD i (qa t'))
     have h2:=A.2
     exact done d y (ra (lM hk) f ti.ty.sz) (by rw [List.length_take,List.length_drop,k];omega) rfl
    ·simp at hs
   ·rename_i t' v f n r
    rw [r]at c
    obtain ⟨j,cs,d,hk,b,h⟩:=c
    cases hs
    have k:=q3 n t' v
    exact done d (b.sub f ti.ty.sz) (ra (lM hk) f ti.ty.sz) (by rw [List.length_take,List.length_drop,k];omega) rfl
   ·simp at hs
theorem Uw (hT:bm P tt) {t f:Nat} {x:Operand} (N:o.op= .fieldAddr t x f) {p:Prop} {B:St} (hs:lE tt t f (st.ev x) o.dst st=some (p,B)) (O:R w0 mine st a w)
 (M: ∀D w',R w0 mine B D w'->next D w'):o.wp P a w next Q:=by
 unfold lE at hs
 cases z:tt.get t with
 | none=>simp [z]at hs
 | some ti=>
   have E:=hT t ti z
   obtain ⟨hd,m,H,he⟩:=O
   have h:=R.ev H he x
   simp only [z]at hs
   obtain ⟨d,hu,W⟩:=E.desc
   have G: ∀{g:Nat×Nat},ti.offs[f]?=some g-> ∃fs:Array Field,∃fl:Field,P.underlying t=some (.struct fs)/\fs[f]?=some fl/\fl.offset=g.1/\ ∃j,P.info? fl.type=some j/\0<j.size:=by
    intro g q
    have:=E.offsStruct g.1 g.2 f (by simpa using q)
    obtain ⟨fs,fl,h1,h2,u,j,y,I,U,_⟩:=this
    exact ⟨fs,fl,h1,h2,u,j,y,by omega⟩
   have done: ∀{s:Addr} {g:Nat×Nat} {c:LC},ti.offs[f]?=some g->a.eval x= .pointer (some s)->C w m st.heap c (.pointer (some (s.add g.1)))->B=st.put o.dst (.one c)->o.wp P a w next Q:=by
    intro s g c q r L S
    obtain ⟨fs,fl,h1,h2,u,j,y,I⟩:=G q
    refine dZ (v:= .pointer (some (s.add g.1))) (w':=w) ?_ (M _ _ ?_)
    ·have: ¬j.size=0:=by omega
     simp [execOp,N,r,Instr.fieldAt,run_underlying h1,h2,Instr.sureAddr,fieldPlace,Go.sizeOf,typeInfo,y,this,u]
    ·rw [S]
     refine ⟨by rw [c0];exact hd,m,by rw [St.put_heap];exact H,?_⟩
     rw [St.put_heap,St.put_env]
     exact dY he _ (l:= .one c) L
   split at hs
   ·rename_i id i g T A q
    rw [A]at h
    simp only [V,C]at h
    cases k:st.heap[id]? with
    | none=>rw [k]at h;exact h.elim
    | some b=>
      rw [k]at h
      cases b with
      | box cs=>
        simp only [k,St.go]at hs
        cases hs
        obtain ⟨rfl,r⟩:=h
        exact done q r (by simp [C,k,x9]) rfl
      | nst F t hs vs=>exact h.elim
      | row e t' xs dp mt n=>
        simp only [k,St.go]at hs
        cases hs
        obtain ⟨b,K,r⟩:=h
        exact done q r (by simp [C,k,x9,K,Nat.add_assoc]) rfl
      | dead=>simp [k]at hs
   ·rename_i t' v g n T A q
    rw [A]at h
    simp only [St.go]at hs
    cases hs
    obtain ⟨s,cs,r,hk,J,k⟩:=h
    refine done q r ?_ rfl
    simp only [C]
    exact ⟨s,cs,by rw [jH],hk,J,k⟩
   ·simp at hs
end
end Go.T
