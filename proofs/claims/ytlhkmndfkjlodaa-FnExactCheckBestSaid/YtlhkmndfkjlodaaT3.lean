/- T: each step is the machine's. -/
import Derived.Test.YtlhkmndfkjlodaaT2
import Derived.Laws.Tables
import Derived.Laws.Rows
import Derived.Laws.NewFold
set_option linter.unusedSimpArgs false
set_option linter.unusedVariables false
namespace Go.T
open Go
def q8:Ty→List Value
 | .int k=>[.int k 0]
 | .bool=>[.bool false]
 | .str=>[.string ByteArray.empty]
 | .hdr=>[.slice none 0 0]
 | .slice _ _=>[.slice none 0 0]
 | .pair a b=>q8 a++q8 b
def qoD (P:Program) (tt:TT) (ti:TI):TypeDesc→Prop
 | .struct fs=>ti.agg=true∧(fs.toList.mapM fun (f:Field)=>(P.info? f.type).map fun i=>(f.offset,i.size))=some ti.offs
 | .array n e=>ti.agg=true∧ ∃j,P.info? e=some j∧ ∃te,tt.get e=some te∧j.size=te.ty.sz∧ti.ty.sz=n*te.ty.sz
 | .slice e=>ti.agg=false∧ ∃te tie,ti.ty= .slice e te∧tt.get e=some tie∧tie.ty=te
 | _=>ti.agg=false
structure TIok (P:Program) (tt:TT) (t:Nat) (ti:TI):Prop where
 info: ∃i z,P.info? t=some i∧i.size=ti.ty.sz∧i.zero=some z∧z.cells.toList=q8 ti.ty∧i.bytes≤65536
 desc: ∃d,P.underlying t=some d∧qoD P tt ti d
 one:ti.agg=false→ti.ty.sz=1
 bool:ti.agg=false→ti.ty= .bool→P.underlying t=some .bool
 str:ti.agg=false→ti.ty= .str→P.underlying t=some .string
 int:ti.agg=false→ ∀k,ti.ty= .int k→P.underlying t=some (.int k)
 ints : ti.ints = true → ∃ (f g : Field) (k l : IntKind), P.underlying t = some (.struct #[f, g]) ∧ P.stoodInHeld t = false ∧ P.eqGuardType P.depth t = false ∧ f.offset = 0 ∧ g.offset = 1 ∧ f.name ≠ "_" ∧ g.name ≠ "_" ∧ P.underlying f.type = some (.int k) ∧ P.underlying g.type = some (.int l)
 slc:ti.agg=false→ ∀(e:Nat) (te:Ty),ti.ty= .slice e te→P.underlying t=some (.slice e)∧ ∃tie,tt.get e=some tie∧tie.ty=te
 offsStruct: ∀(f n i:Nat),ti.offs[i]?=some (f,n)→ ∃(fs:Array Field) (fl:Field),P.underlying t=some (.struct fs)∧fs[i]?=some fl∧fl.offset=f∧ ∃j,P.info? fl.type=some j∧j.size=n∧0<n∧f+n≤ti.ty.sz
def qN (P:Program) (tt:TT):Prop:= ∀t ti,tt.get t=some ti→TIok P tt t ti
theorem TIok.isAgg {P:Program} {tt:TT} {t:Nat} {ti:TI} (h:TIok P tt t ti) (w:World):(isAgg t).run P w= .ok ti.agg w:=by
 obtain ⟨d,hu,hd⟩:=h.desc
 cases d<;>simp_all [Go.isAgg,run_underlying hu,qoD]
theorem TIok.sizeOf {P:Program} {tt:TT} {t:Nat} {ti:TI} (h:TIok P tt t ti) (w:World):(Go.sizeOf t).run P w= .ok ti.ty.sz w:=by
 obtain ⟨i,z,hi,hs,_⟩:=h.info
 simp [Go.sizeOf,typeInfo,hi,hs]
section
variable {P : Program} {o : Oper} {a : Act} {w w' : World} {next : Act → World → Prop} {Q : Exit → Act → World → Prop}
theorem qbC {v:Value} (h:(execOp a.eval o).run P w= .ok (.value v) w') (hn:next (a.put o.dst v) w'):o.wp P a w next Q:=by
 unfold Oper.wp;rw [h];exact hn
theorem quA (h:(execOp a.eval o).run P w= .ok .skip w') (hn:next (a.put o.dst undef) w'):o.wp P a w next Q:=by
 unfold Oper.wp;rw [h];exact hn
end
theorem qDx {w:World} {m:Mp} {h:List Blk} (H: ∀id x,h[id]?=some x→BR w m h id x): ∀{c:LC} {v:Value},c.isDef=true→C w m h c v→v.oneCell'=true
 | .int _ _,v,_,hc | .bool _,v,_,hc | .str _,v,_,hc | .nils,v,_,hc | .nilp,v,_,hc | .fn _,v,_,hc=>by simp [C]at hc;subst hc;rfl
 | .sl _ _ _ _,v,_,hc=>by obtain ⟨A,c,rfl,_⟩:=hc;rfl
 | .tptr _ _ _ _,v,_,hc=>by obtain ⟨a,cs,rfl,_⟩:=hc;rfl
 | .hdr u,v,_,hc=>by obtain ⟨rfl,h⟩:=hc;exact h
 | .undef,v,hd,_=>by simp [LC.isDef]at hd
 | .clo f ids,v,_,hc=>hc.1
 | .own id,v,_,hc=>by
   simp only [C]at hc
   cases hx:h[id]? with
   | none=>rw [hx]at hc;exact hc.elim
   | some x=>
     rw [hx]at hc
     cases x with
     | box=>exact hc.elim
     | row=>simp only at hc;subst hc;exact (H id _ hx).rowOne
     | nst=>exact hc.elim
     | dead=>exact hc
 | .ptr id i f,v,_,hc=>by
   simp only [C]at hc
   cases hx:h[id]? with
   | none=>rw [hx]at hc;exact hc.elim
   | some x=>
     rw [hx]at hc
     cases x with
     | box=>obtain ⟨_,rfl⟩:=hc;rfl
     | row=>obtain ⟨g,_,rfl⟩:=hc;rfl
     | nst=>exact hc.elim
     | dead=>exact hc
theorem qM2 {v:Value} (h:v.oneCell'=true):v.cells= #[v]:=by cases v<;>simp_all [Value.cells,Value.oneCell']
theorem qgQ {w:World} {m:Mp} {h:List Blk} (H: ∀id x,h[id]?=some x→BR w m h id x) {l:LV} {v:Value} (hv:V w m h l v) (hd:l.cells.all LC.isDef=true) (hl:0<l.cells.length):
 F2 (C w m h) l.cells v.cells.toList∧ ∀u∈v.cells.toList,u.oneCell'=true:=by
 cases l with
 | one c=>
   have hc:c.isDef=true:=by simpa [LV.cells] using hd
   have h1:=qDx H hc hv
   rw [qM2 h1]
   exact ⟨.cons hv .nil,by simp [h1]⟩
 | agg cs=>
   obtain ⟨vs,rfl,hf⟩:=hv
   refine ⟨hf,fun u hu=> ?_⟩
   simp only [Value.cells]at hu
   obtain ⟨i,hi⟩:=List.getElem?_of_mem hu
   obtain ⟨c,hc,hC⟩:=hf.get' hi
   exact qDx H (by
    have:=List.all_eq_true.1 hd c
    exact this (List.mem_of_getElem? hc)) hC
 | tup vs=>simp [LV.cells]at hl
theorem qkm (w:World) (m:Mp) (h:List Blk): ∀t:Ty,F2 (C w m h) (qa4 t) (q8 t)
 | .int k=> .cons rfl .nil
 | .bool=> .cons rfl .nil
 | .str=> .cons rfl .nil
 | .hdr=> .cons ⟨rfl,rfl⟩ .nil
 | .slice _ _=> .cons rfl .nil
 | .pair a b=>(qkm w m h a).append (qkm w m h b)
theorem qq8: ∀t:Ty,∀u∈q8 t,u.oneCell'=true
 | .int _ | .bool | .str | .hdr | .slice _ _=>by simp [q8,Value.oneCell']
 | .pair a b=>by
   intro u hu
   rcases List.mem_append.1 hu with hu | hu
   ·exact qq8 a u hu
   ·exact qq8 b u hu
theorem qgD {w:World} {m:Mp} {h:List Blk} {n:Nat}: ∀{t:Ty} {v:Val t} {cs:List Value},K w (qr m h n) t v cs→F2 (C w m h) (qbd n t v) cs
 | .int _,_,_,hk=>by rw [K]at hk;subst hk;exact .cons rfl .nil
 | .bool,_,_,hk=>by rw [K]at hk;subst hk;exact .cons rfl .nil
 | .str,_,_,hk=>by rw [K]at hk;subst hk;exact .cons rfl .nil
 | .hdr,_,_,hk=>by rw [K]at hk;obtain ⟨rfl,h⟩:=hk;exact .cons ⟨rfl,h⟩ .nil
 | .slice _ _,xs,_,hk=>by
   rw [K]at hk
   obtain ⟨A,c,rfl,hl,hr⟩:=hk
   exact .cons ⟨A,c,rfl,hl,hr⟩ .nil
 | .pair a b,v,_,hk=>by
   rw [K]at hk
   obtain ⟨c1,c2,rfl,h1,h2⟩:=hk
   exact (qgD h1).append (qgD h2)
theorem qoN (n:Nat): ∀(t:Ty) (v:Val t),(qbd n t v).length=t.sz
 | .int _,_=>rfl
 | .bool,_=>rfl
 | .str,_=>rfl
 | .hdr,_=>rfl
 | .slice _ _,_=>rfl
 | .pair a b,v=>by simp [qbd,Ty.sz,qoN n a,qoN n b]
theorem qkf (w:World) (o:Obj) (A:Nat→Prop):Fr A w (w.alloc o):=⟨rfl,rfl,rfl,by simp,fun k hk _=>heap_alloc_old w o k hk,Nat.le_refl _⟩
theorem qvf (w:World) (g:Nat) (cs:Array Value) (A:Nat→Prop) (hA:A g):Fr A w (w.setRow g cs):=
 ⟨rfl,rfl,rfl,by simp [World.setRow],fun k _ hk=>setRow_other w g k cs (fun e=>hk (e▸hA)),Nat.le_refl _⟩
def Mp.box (m:Mp) (id b:Nat):Mp:={m with blk:=fun i=>if i=id then b else m.blk i}
def Mp.row (m:Mp) (id:Nat) (v:Value) (B:List Nat):Mp:={m with val:=fun i=>if i=id then v else m.val i,nst:=fun i=>if i=id then B else m.nst i}
theorem HR.newBox {w0 w:World} {mine:Mine} {m:Mp} {h:List Blk} (H:HR w0 mine w m h) (cs:List LC) (arr:Array Value) (ty:TypeId) (hc:F2 (C w m h) cs arr.toList) (h1: ∀u∈arr.toList,u.oneCell'=true):
 HR w0 mine (w.alloc (.cells arr ty)) (m.box h.length w.heap.size) (h++[.box cs])∧Oks w (w.alloc (.cells arr ty)) m (m.box h.length w.heap.size) h (h++[.box cs])∧qP m (m.box h.length w.heap.size) h (h++[.box cs]):=by
 refine H.new (qL.refl h) (.box cs) (qkf w _ _) (fun i _=>rfl) (fun i hi=>by simp [Mp.box];intro e;omega) (fun i _=>rfl) rfl (fun n b _ hl=> ?_) (fun ho hs=> ?_) (by simp [fpB]) (fun b hb=> ?_)
 ·simp [okB,Mp.box];omega
 ·exact ⟨arr,ty,by simp only [Mp.box,if_true];exact heap_alloc_new w _,hc.imp fun _ _ _ hc=>qbK ho hs hc,h1⟩
 ·simp [fpB,Mp.box]at hb
  subst hb
  refine ⟨by simp,.inl H.fr.size,fun id y hy hm=> ?_⟩
  have:=(H.lt id y hy _ hm).1
  omega
theorem qDv {w:World} {m:Mp} {h:List Blk} (cs:List LC) (b:Nat):C w (m.box h.length b) (h++[.box cs]) (.ptr h.length 0 0) (.pointer (some ⟨b,0,none⟩)):=by
 simp [C,Mp.box]
section
variable {P : Program} {tt : TT} {o : Oper} {a : Act} {w0 w : World} {mine : Mine} {st : St} {next : Act → World → Prop} {Q : Exit → Act → World → Prop}
theorem R.mk {st':St} {a':Act} {w':World} {m':Mp} (hd:a'.defers=[]) (H:HR w0 mine w' m' st'.heap) (he:F2 (V w' m' st'.heap) st'.env a'.tmps.toList):R w0 mine st' a' w':=⟨hd,m',H,he⟩
theorem R.newed {m:Mp} {m':Mp} {w':World} {x:Blk} (hd:a.defers=[]) (he:F2 (V w m st.heap) st.env a.tmps.toList) (hh:HR w0 mine w' m' (st.heap++[x])∧Oks w w' m m' st.heap (st.heap++[x])∧qP m m' st.heap (st.heap++[x]))
 (d:Option Tmp) {c:LC} {v:Value} (hv:C w' m' (st.heap++[x]) c v):R w0 mine (st.new d x c) (a.put d v) w':=by
 refine ⟨by rw [qa5];exact hd,m',hh.1,?_⟩
 show F2 (V w' m' (st.heap++[x])) (st.put d (.one c)).env _
 rw [St.put_env]
 exact qcl (qaa hh.2.1 hh.2.2 he) d (l:= .one c) hv
theorem qDW {x:Operand} (ho:o.op= .move x∨o.op= .assign x) (hr:R w0 mine st a w) (hn: ∀a' w',R w0 mine (st.put o.dst (st.ev x)) a' w'→next a' w'):o.wp P a w next Q:=by
 refine qbC (v:=a.eval x) (w':=w) ?_ (hn _ _ (hr.put _ fun m H he=>R.ev H he x))
 rcases ho with ho | ho<;>simp [execOp,ho]
theorem qGO (hT:qN P tt) {t:Nat} {ti:TI} (ho:o.op= .alloc t) (ht:tt.get t=some ti) (hr:R w0 mine st a w)
 (hn: ∀a' w',R w0 mine (st.new o.dst (.box (qa4 ti.ty)) (.ptr st.heap.length 0 0)) a' w'→next a' w'):o.wp P a w next Q:=by
 obtain ⟨hd,m,H,he⟩:=hr
 obtain ⟨i,z,hi,hs,hz,hzc,_⟩:=(hT t ti ht).info
 refine qbC (v:= .pointer (some ⟨w.heap.size,0,none⟩)) (w':=w.alloc (.cells z.cells t)) ?_ (hn _ _ (R.newed hd he (H.newBox (qa4 ti.ty) z.cells t (by rw [hzc];exact qkm _ _ _ _) (by rw [hzc];exact qq8 _)) _ (qDv _ _)))
 simp [execOp,ho,Instr.alloc,zeroValue,typeInfo,hi,hz,newVar,newRow]
 try rfl
theorem qI3 {t:Nat} {x:Operand} (ho:o.op= .box t x) (hr:R w0 mine st a w) (hdef:(st.ev x).cells.all LC.isDef=true) (hl:0<(st.ev x).cells.length)
 (hn: ∀a' w',R w0 mine (st.new o.dst (.box (st.ev x).cells) (.ptr st.heap.length 0 0)) a' w'→next a' w'):o.wp P a w next Q:=by
 obtain ⟨hd,m,H,he⟩:=hr
 obtain ⟨hc,h1⟩:=qgQ H.br (R.ev H he x) hdef hl
 refine qbC (v:= .pointer (some ⟨w.heap.size,0,none⟩)) (w':=w.alloc (.cells (a.eval x).cells t)) ?_ (hn _ _ (R.newed hd he (H.newBox _ _ t hc h1) _ (qDv _ _)))
 simp [execOp,ho,Instr.box,newVar,newRow]
 try rfl
theorem qBN {c x y:Operand} {b:Bool} (ho:o.op= .pick c x y) (hc:st.ev c= .one (.bool b)) (hr:R w0 mine st a w) (l:LV) (hl: ∀m v1 v2,V w m st.heap (st.ev x) v1→V w m st.heap (st.ev y) v2→V w m st.heap l (if b then v1 else v2))
 (hn: ∀a' w',R w0 mine (st.put o.dst l) a' w'→next a' w'):o.wp P a w next Q:=by
 obtain ⟨hd,m,H,he⟩:=hr
 have hb:=R.ev H he c
 rw [hc]at hb
 have hb':a.eval c= .bool b:=hb
 refine qbC (v:=if b then a.eval x else a.eval y) (w':=w) ?_ (hn _ _ (R.put ⟨hd,m,H,he⟩ _ fun m' H' he'=>hl _ _ _ (R.ev H' he' x) (R.ev H' he' y)))
 simp [execOp,ho,hb',asBool]
end
end Go.T
/- T: loads, addresses, numbers. -/
namespace Go.T
open Go
theorem qhu (b f:Nat):(⟨b,0,none⟩:Addr).add f=⟨b,f,none⟩:=by unfold Addr.add;split<;>simp_all
theorem qAr (b f k:Nat):(⟨b,f,none⟩:Addr).add k=⟨b,f+k,none⟩:=by unfold Addr.add;split<;>simp_all
theorem qEP {w:World} {b:Nat} {arr:Array Value} {ty:TypeId} {fz:Nat×Nat} (h:w.heap[b]?=some (.cells arr ty fz)):At w ⟨b,0,none⟩ arr.toList:=by
 intro j u hu
 rw [qhu,cell_of_row w b j arr ty fz h]
 simpa using hu
theorem qC3 {P:Program} {tt:TT} {t:Nat} {ti:TI} (hT:TIok P tt t ti) {w:World} {m:Mp} {h:List Blk} {ad:Addr} {lcs:List LC} {cs:List Value}
 (hat:At w ad cs) (hf:F2 (C w m h) lcs cs) (hl:lcs.length=ti.ty.sz) (h1:ti.agg=false→ti.ty.sz=1):
 ∃v,(loadVar t ad).run P w= .ok v w∧V w m h (qc5 ti.agg lcs) v:=by
 have hlen:cs.length=ti.ty.sz:=by rw [←hf.len,hl]
 cases ha:ti.agg with
 | true=>
   refine ⟨.agg cs.toArray,?_,⟨cs.toArray,rfl,by simpa using hf⟩⟩
   have:=run_loadCells_list (P:=P) w ad cs hat
   rw [hlen]at this
   simp [loadVar,hT.isAgg,ha,hT.sizeOf,this]
 | false=>
   have:=h1 ha
   rw [this]at hlen hl
   obtain ⟨c,rfl⟩: ∃c,lcs=[c]:=by
    match lcs,hl with
    | [c],_=>exact ⟨c,rfl⟩
   obtain ⟨u,rfl⟩: ∃u,cs=[u]:=by
    match cs,hlen with
    | [u],_=>exact ⟨u,rfl⟩
   cases hf with
   | cons hc _=>
     have hu:=hat 0 u (by simp)
     have e:ad.add 0=ad:=by simp [Addr.add]
     rw [e]at hu
     refine ⟨u,?_,hc⟩
     simp [loadVar,hT.isAgg,ha,run_load,hu]
theorem qOv {α:Type} {T:α→List Value→List Nat→Prop} {xs:List α} {cs:List Value} {B:List Nat} {sz:Nat} (hs: ∀x c b,T x c b→c.length=sz) (h:Ms T xs cs B) {i:Nat} {x:α} (hx:xs[i]?=some x):
 ∃b,(∀k∈b,k∈B)∧T x ((cs.drop (i*sz)).take sz) b:=by
 have hk:Ks (fun x c=> ∃b,(∀k∈b,k∈B)∧T x c b) xs cs:=h.toKs fun x c b hb ht=>⟨b,hb,ht⟩
 exact hk.get (fun x c ⟨b,_,ht⟩=>hs x c b ht) hx
theorem qFg {w0 w:World} {mine:Mine} {m:Mp} {h:List Blk} (H:HR w0 mine w m h) {id:Nat} {e:Nat} {t:Ty} {xs:List (Val t)} {dp mt:Bool} {n:Nat} (hx:h[id]?=some (.row e t xs dp mt n))
 {i:Nat} (hi:i<xs.length): ∃g cs,(m.val id).ownBlock=some g∧At w ⟨g,i*t.sz,none⟩ cs∧K w (qr m h (bif dp then n+1 else n)) t (xs.getD i (qc t)) cs:=by
 obtain ⟨inner,ho,hin⟩:=H.br id _ hx
 have hg:xs[i]?=some (xs.getD i (qc t)):=by simp [List.getD,List.getElem?_eq_getElem hi]
 obtain ⟨A,c,hv,hc,hA,hn⟩:=qc8 ho
 cases A with
 | none=>have:=hn rfl;omega
 | some a=>
   obtain ⟨hb,ha⟩:=hA a rfl
   have hat:=(qAT ho hb).sub (i*t.sz) t.sz
   rw [qhu]at hat
   refine ⟨a.block,_,hb,hat,?_⟩
   cases dp with
   | false=>
     simp only [cond_false]at hin ⊢
     exact hin.get (fun x c hk=>qaj hk) hg
   | true=>
     simp only [cond_true]at hin ⊢
     obtain ⟨b,hbs,hM⟩:=qOv (fun x c b hm=>qe9 hm) hin.1 hg
     refine M_K hM fun k hk=> ?_
     have hkn:k∈fpB m id (.row e t xs true mt n):=by simp only [fpB];exact List.mem_append_right _ (hbs k hk)
     refine ⟨by rw [H.mx];exact H.nx k (H.lt id _ hx k hkn).2,?_⟩
     intro id' x' hx'
     have hlt':=(List.getElem?_eq_some_iff.1 hx').1
     by_cases he:id'=id
     ·subst he
      rw [hx]at hx';cases hx'
      refine ⟨fun _ hown=> ?_,fun _ hle=> ?_⟩
      ·have hnd:=H.nd _ _ hx
       simp only [fpB,hown]at hnd
       simp at hnd
       exact hnd.1 (hbs k hk)
      ·exfalso
       have:=hin.2
       omega
     ·have hne:=H.dj id _ id' x' (fun e=>he e.symm) hx hx' k hkn
      cases x' with
      | box cs=>simp only [fpB,List.mem_singleton]at hne;exact hne
      | nst F t hs vs=>exact hne
      | dead=>trivial
      | row e' t' xs' dp' mt' k'=>
        refine ⟨fun _ hown=>hne ?_,fun hd' _ hm=>hne ?_⟩
        ·simp [fpB,hown]
        ·subst hd';simp only [fpB];exact List.mem_append_right _ hm
theorem qot {w:World} {m:Mp} {h:List Blk} {lcs:List LC} {cs:List Value} (hf:F2 (C w m h) lcs cs) (f n:Nat):F2 (C w m h) ((lcs.drop f).take n) ((cs.drop f).take n):=(hf.drop f).take n
section
variable {P : Program} {tt : TT} {o : Oper} {a : Act} {w0 w : World} {mine : Mine} {st : St} {next : Act → World → Prop} {Q : Exit → Act → World → Prop}
theorem qQV (hT:qN P tt) {t:Nat} {x:Operand} (ho:o.op= .load t x) {p:Prop} {st':St} (hs:qgO tt t (st.ev x) o.dst st=some (p,st')) (hp:p) (hr:R w0 mine st a w)
 (hn: ∀a' w',R w0 mine st' a' w'→next a' w'):o.wp P a w next Q:=by
 unfold qgO at hs
 cases ht:tt.get t with
 | none=>simp [ht]at hs
 | some ti=>
   have hti:=hT t ti ht
   obtain ⟨hd,m,H,he⟩:=hr
   have hev:=R.ev H he x
   have done: ∀{ad:Addr} {lcs:List LC} {cs:List Value},a.eval x= .pointer (some ad)→At w ad cs→F2 (C w m st.heap) lcs cs→lcs.length=ti.ty.sz→st'=st.put o.dst (qc5 ti.agg lcs)→o.wp P a w next Q:=by
    intro ad lcs cs hax hat hf hl hst
    obtain ⟨v,hrun,hv⟩:=qC3 hti hat hf hl hti.one
    refine qbC (v:=v) (w':=w) (by simp [execOp,ho,hax,Instr.loadAt,Instr.sureAddr,hrun]) (hn _ _ ?_)
    rw [hst]
    refine ⟨by rw [qa5];exact hd,m,by rw [St.put_heap];exact H,?_⟩
    rw [St.put_heap,St.put_env]
    exact qcl he _ hv
   simp only [ht]at hs
   split at hs
   ·rename_i id i f hx
    rw [hx]at hev
    simp only [V,C]at hev
    split at hs
    ·rename_i cs hb
     rw [hb]at hev
     obtain ⟨rfl,hax⟩:=hev
     cases hs
     obtain ⟨arr,ty,hblk,hf,h1⟩:=H.br id _ hb
     have hat:=(qEP hblk).sub f ti.ty.sz
     rw [qhu]at hat
     exact done hax hat (qot hf f ti.ty.sz) (by simp;omega) rfl
    ·rename_i e t' xs dp mt n hb
     rw [hb]at hev
     obtain ⟨g,hg,hax⟩:=hev
     cases hs
     obtain ⟨g',cs,hg',hat,hk⟩:=qFg H hb hp.1
     rw [hg]at hg'
     cases hg'
     have hat':=hat.sub f ti.ty.sz
     rw [qAr]at hat'
     have hel:=qoN (bif dp then n+1 else n) t' (xs.getD i (qc t'))
     have h2:=hp.2
     exact done hax hat' (qot (qgD hk) f ti.ty.sz) (by rw [List.length_take,List.length_drop,hel];omega) rfl
    ·simp at hs
   ·rename_i t' v f n hx
    rw [hx]at hev
    obtain ⟨ad,cs,hax,hk,hat,hb⟩:=hev
    cases hs
    have hel:=qoN n t' v
    exact done hax (hat.sub f ti.ty.sz) (qot (qgD hk) f ti.ty.sz) (by rw [List.length_take,List.length_drop,hel];omega) rfl
   ·simp at hs
theorem qNf (hT:qN P tt) {t f:Nat} {x:Operand} (ho:o.op= .fieldAddr t x f) {p:Prop} {st':St} (hs:qgb tt t f (st.ev x) o.dst st=some (p,st')) (hr:R w0 mine st a w)
 (hn: ∀a' w',R w0 mine st' a' w'→next a' w'):o.wp P a w next Q:=by
 unfold qgb at hs
 cases ht:tt.get t with
 | none=>simp [ht]at hs
 | some ti=>
   have hti:=hT t ti ht
   obtain ⟨hd,m,H,he⟩:=hr
   have hev:=R.ev H he x
   simp only [ht]at hs
   obtain ⟨d,hu,hdk⟩:=hti.desc
   have fld: ∀{g:Nat×Nat},ti.offs[f]?=some g→ ∃fs:Array Field,∃fl:Field,P.underlying t=some (.struct fs)∧fs[f]?=some fl∧fl.offset=g.1∧ ∃j,P.info? fl.type=some j∧0<j.size:=by
    intro g hg
    have:=hti.offsStruct g.1 g.2 f (by simpa using hg)
    obtain ⟨fs,fl,h1,h2,h3,j,h4,h5,h6,_⟩:=this
    exact ⟨fs,fl,h1,h2,h3,j,h4,by omega⟩
   have done: ∀{ad:Addr} {g:Nat×Nat} {c:LC},ti.offs[f]?=some g→a.eval x= .pointer (some ad)→C w m st.heap c (.pointer (some (ad.add g.1)))→st'=st.put o.dst (.one c)→o.wp P a w next Q:=by
    intro ad g c hg hax hc hst
    obtain ⟨fs,fl,h1,h2,h3,j,h4,h5⟩:=fld hg
    refine qbC (v:= .pointer (some (ad.add g.1))) (w':=w) ?_ (hn _ _ ?_)
    ·have: ¬j.size=0:=by omega
     simp [execOp,ho,hax,Instr.fieldAt,run_underlying h1,h2,Instr.sureAddr,fieldPlace,Go.sizeOf,typeInfo,h4,this,h3]
    ·rw [hst]
     refine ⟨by rw [qa5];exact hd,m,by rw [St.put_heap];exact H,?_⟩
     rw [St.put_heap,St.put_env]
     exact qcl he _ (l:= .one c) hc
   split at hs
   ·rename_i id i g o' hx hg
    rw [hx]at hev
    simp only [V,C]at hev
    cases hb:st.heap[id]? with
    | none=>rw [hb]at hev;exact hev.elim
    | some b=>
      rw [hb]at hev
      cases b with
      | box cs=>
        simp only [hb,St.go]at hs
        cases hs
        obtain ⟨rfl,hax⟩:=hev
        exact done hg hax (by simp [C,hb,qAr]) rfl
      | nst F t hs vs=>exact hev.elim
      | row e t' xs dp mt n=>
        simp only [hb,St.go]at hs
        cases hs
        obtain ⟨b,hbk,hax⟩:=hev
        exact done hg hax (by simp [C,hb,qAr,hbk,Nat.add_assoc]) rfl
      | dead=>simp [hb]at hs
   ·rename_i t' v g n o' hx hg
    rw [hx]at hev
    simp only [St.go]at hs
    cases hs
    obtain ⟨ad,cs,hax,hk,hat,hb⟩:=hev
    refine done hg hax ?_ rfl
    simp only [C]
    exact ⟨ad,cs,by rw [qen],hk,hat,hb⟩
   ·simp at hs
end
end Go.T
