import Derived.Test.YtllelgnepalfjaaGreatT6
import Derived.Maps.AppendAt
set_option linter.unusedSimpArgs false
set_option linter.unusedVariables false
namespace Go.T
open Go
section
variable {w0 w w' : World} {mine : Mine} {m m' : Mp} {h : List Blk}
theorem HR.newA {h1:List Blk} {A:Nat->Prop} (H:HR w0 mine w m h) (hw:bu h h1) (x:Blk) (o:Fr A w w') (K: ∀k,A k-> ∃id x,h[id]?=some x/\k∈fpB m id x) (L: ∀k,A k-> ∀id y,h1[id]?=some y->k∉fpB m id y) (M: ∀k,A k-> ∀n b,qM m h n b->b≠k)
 (q: ∀i,i<h.length->m'.val i=m.val i) (hblk: ∀i,i<h.length->m'.blk i=m.blk i) (z: ∀i,i<h.length->m'.nst i=m.nst i) (D:m'.ext=m.ext)
 (R: ∀n b,qM m h n b->b<w.heap.size->okB m' n b h.length x)
 (N:Oks w w' m m' h (h1++[x])->bA m m' h (h1++[x])->BR w' m' (h1++[x]) h.length x)
 (P:(fpB m' h.length x).Nodup)
 (p: ∀b∈fpB m' h.length x,b<w'.heap.size/\(w0.heap.size<=b∨mine.own b)/\ ∀id y,h1[id]?=some y->b∉fpB m id y):
 HR w0 mine w' m' (h1++[x])/\Oks w w' m m' h (h1++[x])/\bA m m' h (h1++[x]):=by
 obtain ⟨H1,Q,T⟩:=H.weaker hw
 have u:=hw.1
 have get: ∀id y,(h1++[x])[id]?=some y->(id<h.length/\h1[id]?=some y)∨(id=h.length/\y=x):=fun id y c=>by
  by_cases a:id<h1.length
  ·rw [List.getElem?_append_left a]at c;exact .inl ⟨by omega,c⟩
  ·rw [List.getElem?_append_right (by omega)]at c
   have:id - h1.length=0:=by
        rcases Nat.eq_zero_or_pos (id - h1.length)with C | C
        ·exact C
        ·rw [List.getElem?_eq_none (by simp;omega)]at c;cases c
   rw [this]at c
   simp at c
   exact .inr ⟨by omega,c.symm⟩
 have W: ∀n b id y,id<h.length->(okB m' n b id y↔okB m n b id y):=fun n b id y a=>by
  cases y<;>simp [okB,q id a,hblk id a,z id a]
 have g: ∀id y,id<h.length->fpB m' id y=fpB m id y:=fun id y a=>by
  cases y<;>simp [fpB,q id a,hblk id a,z id a]
 have B:Oks w w' m m' h (h1++[x]):=fun n b d a=>⟨o.block b a (fun t=>M b t n b d rfl),by rw [D];exact d.1,fun id y c=>by
  rcases get id y c with ⟨O,e⟩ | ⟨rfl,rfl⟩
  ·exact (W n b id y O).2 ((Q n b d a).2.2 id y e)
  ·exact R n b d a⟩
 have hs:bA m m' h (h1++[x]):=fun id y c=>by
  have a:=(List.getElem?_eq_some_iff.1 c).1
  obtain ⟨f,r,X⟩:=T id y c
  refine ⟨f,by rw [List.getElem?_append_left (by omega)];exact r,?_⟩
  cases y<;>cases f<;>simp_all [Sim]
 refine ⟨⟨fun id y c=> ?_,fun id y c=> ?_,fun id f id' l F I J b d j=> ?_,fun id y c b d=> ?_,?_,D.trans H.mx,H.nx,fun id v S=>by
  obtain ⟨h1,h2⟩:=H.pn id v S
  exact ⟨by simp;omega,by rw [q id h1,hblk id h1];exact h2⟩⟩,B,hs⟩
 ·rcases get id y c with ⟨a,e⟩ | ⟨rfl,rfl⟩
  ·obtain ⟨s,V,U⟩: ∃s,h[id]?=some s/\cJ s y:=⟨h[id],List.getElem?_eq_getElem a,hw.2 id _ _ (List.getElem?_eq_getElem a) e⟩
   exact eT B hs (q id a) (hblk id a) (z id a) (fun b d=>o.block b (H1.lt id y e b d).1 (fun t=>L b t id y e d)) (nk U (H.br id s V))
  ·exact N B hs
 ·rcases get id y c with ⟨a,e⟩ | ⟨rfl,rfl⟩
  ·rw [g id y a];exact H1.nd id y e
  ·exact P
 ·rcases get id f I with ⟨u,r⟩ | ⟨rfl,rfl⟩<;>rcases get id' l J with ⟨E,G⟩ | ⟨rfl,rfl⟩
  ·rw [g id f u]at d;rw [g id' l E]at j
   exact H1.dj id f id' l F r G b d j
  ·rw [g id f u]at d
   exact (p b j).2.2 id f r d
  ·rw [g id' l E]at j
   exact (p b d).2.2 id' l G j
  ·exact F rfl
 ·rcases get id y c with ⟨a,e⟩ | ⟨rfl,rfl⟩
  ·rw [g id y a]at d
   have:=H1.lt id y e b d
   exact ⟨Nat.lt_of_lt_of_le this.1 o.size,this.2⟩
  ·exact ⟨(p b d).1,(p b d).2.1⟩
 ·exact o.lift H K
theorem HR.newRowA {m:Mp} {A:Nat->Prop} {h h1:List Blk} {w':World} (H:HR w0 mine w m h) (hw:bu h h1) {e:Nat} {t:Ty} {xs:List (Val t)} {dp mt:Bool} {n:Nat} {v:Value} {inner:List Value} {B:List Nat}
 (r:Fr A w w') (l: ∀k,A k-> ∃id x,h[id]?=some x/\k∈fpB m id x) (o: ∀k,A k-> ∀id y,h1[id]?=some y->k∉fpB m id y) (p: ∀k,A k-> ∀n b,qM m h n b->b≠k) (u: ∀k,A k->k∉B) (g:w'.ownsRow 0 e t.sz v xs.length inner) (f: ∀b,v.ownBlock=some b->w.heap.size<=b∨A b)
 (q: ∀b∈B,b<w.heap.size/\(w0.heap.size<=b∨mine.own b)/\ ∀i y,h1[i]?=some y->b∉fpB m i y) (G:B.Nodup)
 (J:dp=true-> ∀k b,qM m h k b->k<=n->b∉B) (F:dp=true->n<=h.length) (N:dp=false->B=[])
 (E:Oks w w' m (m.row h.length v B) h (h1++[.row e t xs dp mt n])->match dp with
   | true=>Ms (M w' t) xs inner B
   | false=>Ks (K w' (qM (m.row h.length v B) (h1++[.row e t xs dp mt n]) n) t) xs inner):
 HR w0 mine w' (m.row h.length v B) (h1++[.row e t xs dp mt n])/\Oks w w' m (m.row h.length v B) h (h1++[.row e t xs dp mt n])/\bA m (m.row h.length v B) h (h1++[.row e t xs dp mt n]):=by
 have C:=H.newA hw (w':=w') (m':=m.row h.length v B) (.row e t xs dp mt n) r l o p (fun i D=>by simp [Mp.row];intro e;omega) (fun i _=>rfl) (fun i D=>by simp [Mp.row];intro e;omega) rfl
  (fun k b hk L=>by
    refine ⟨fun _ c=> ?_,fun z hle=> ?_⟩
    ·simp only [Mp.row,if_true]at c
     rcases f b c with h1 | h1
     ·omega
     ·exact p b h1 k b hk rfl
    ·simp only [Mp.row,if_true]
     exact J z k b hk hle)
  (fun I hs=>by
    refine ⟨inner,by simp only [Mp.row,if_true];exact g,?_⟩
    have:=E I
    cases dp with
    | true=>simp only [Mp.row,if_true];exact ⟨this,F rfl⟩
    | false=>exact this)
  (by
    simp only [fpB,Mp.row,if_true]
    rw [List.nodup_append]
    refine ⟨by cases v.ownBlock<;>simp,by cases dp<;>simp [G],fun x j y d e=> ?_⟩
    cases dp with
    | false=>simp at d
    | true=>
      have:=(q y d).1
      rcases f x (by simpa using j)with h1 | h1
      ·omega
      ·subst e;exact u x h1 d)
  (fun b a=>by
    simp only [fpB,Mp.row,if_true]at a
    rcases List.mem_append.1 a with a | a
    ·have c:v.ownBlock=some b:=by simpa using a
     rcases f b c with h1 | h1
     ·refine ⟨(g.lt b c).2,.inl (Nat.le_trans H.fr.size h1),fun i y d hm=> ?_⟩
      have:=((H.weaker hw).1.lt i y d b hm).1
      omega
     ·obtain ⟨id,x,j,hm⟩:=l b h1
      exact ⟨(g.lt b c).2,(H.lt id x j b hm).2,o b h1⟩
    ·cases dp with
     | false=>simp at a
     | true=>
       obtain ⟨h1,h2,s⟩:=q b a
       exact ⟨Nat.lt_of_lt_of_le h1 r.size,h2,s⟩)
 exact C
theorem UO {h:List Blk} {ids:List Nat} {x:Blk} (H:HR w0 mine w m h) (l: ∀(e:Nat) (t:Ty) (xs:List (Val t)) (mt:Bool) (k:Nat),x=Blk.row e t xs true mt k->k<=h.length)
 (j:Oks w w' m m' h (kill h ids++[x])) {n b:Nat} (f:qM m h n b) (i:b<w.heap.size):qM m' (kill h ids++[x]) (h.length+1) b:=by
 have hlen:(kill h ids++[x]).length=h.length+1:=by simp [ea]
 have g: ∀(id e:Nat) (t:Ty) (xs:List (Val t)) (mt:Bool) (k:Nat),(kill h ids++[x])[id]?=some (Blk.row e t xs true mt k)->k<=id:=by
  intro id e t xs mt k a
  by_cases d:id<(kill h ids).length
  ·rw [List.getElem?_append_left d]at a
   rcases lO ids h id _ a with ⟨_,c⟩ | ⟨_,c⟩
   ·simp at c
   ·exact H.lo_le id e t xs mt k c
  ·rw [List.getElem?_append_right (by omega)]at a
   have:id - (kill h ids).length=0:=by
        rcases Nat.eq_zero_or_pos (id - (kill h ids).length)with c | c
        ·exact c
        ·rw [List.getElem?_eq_none (by simp;omega)]at a;cases a
   rw [this]at a
   simp at a
   have:=l e t xs mt k a
   rw [ea]at d
   omega
 have:=nv g (j n b f i).2
 rwa [hlen]at this
theorem UP {h:List Blk} {ids:List Nat} {x:Blk} (H:HR w0 mine w m h) (hm: ∀i,i<h.length->m'.val i=m.val i/\m'.blk i=m.blk i/\m'.nst i=m.nst i) (f:m'.ext=m.ext) {n b:Nat} (e:b∈qY m h ids) (g:okB m' n b h.length x):
 qM m' (kill h ids++[x]) n b:=by
 refine ⟨by rw [f];exact (rr H e 0).1,?_⟩
 intro i z a
 by_cases d:i<(kill h ids).length
 ·rw [List.getElem?_append_left d]at a
  obtain ⟨j,k,e3⟩:=hm i (by rw [ea]at d;exact d)
  have:=(rr H e n).2 i z a
  cases z<;>simp_all [okB]
 ·rw [List.getElem?_append_right (by omega)]at a
  have c:i - (kill h ids).length=0:=by
   rcases Nat.eq_zero_or_pos (i - (kill h ids).length)with c | c
   ·exact c
   ·rw [List.getElem?_eq_none (by simp;omega)]at a;cases a
  rw [c]at a
  simp at a
  subst a
  have:i=h.length:=by rw [ea]at d c;omega
  subst this
  exact g
theorem I0 {m:Mp} {h:List Blk} {v:Value} {B:List Nat}: ∀i,i<h.length->(m.row h.length v B).val i=m.val i/\(m.row h.length v B).blk i=m.blk i/\(m.row h.length v B).nst i=m.nst i:=fun i a=>by
 have:i≠h.length:=by omega
 simp [Mp.row,this]
theorem UQ {ids:List Nat} {e:Nat} {t:Ty} {xs:List (Val t)} {mt:Bool} {n:Nat} {v:Value} (H:HR w0 mine w m h) (f: ∀b,v.ownBlock=some b->w.heap.size<=b)
 (i:Oks w w' m (m.row h.length v []) h (kill h ids++[.row e t xs false mt n])) {c:LC} (d: ∀id,c= .own id->id∈ids):okC w m h (qM (m.row h.length v []) (kill h ids++[.row e t xs false mt n]) (h.length+1)) c:=by
 have j: ∀l b,b<w.heap.size->okB (m.row h.length v []) l b h.length (.row e t xs false mt n):=fun k b o=>by
  refine ⟨fun _ a=> ?_,fun g=>by simp at g⟩
  simp only [Mp.row,if_true]at a
  have:=f b a
  omega
 exact UN (m':=m.row h.length v []) (x:= .row e t xs false mt n) H I0 rfl j (by simp) i d
theorem ru {cs:List LC} {id:Nat} (h:LC.own id∈cs):id∈qG cs:=by
 simp only [qG,List.mem_filterMap]
 exact ⟨_,h,rfl⟩
end
end Go.T
namespace Go.T
open Go
theorem yi (h:List Blk): ∀t:Ty,qL h t []=none
 | .int _ | .bool | .str | .hdr | .slice _ _=>by simp [qL]
 | .pair a b=>by simp [qL,yi h a]
theorem I1 {h:List Blk} {t:Ty}: ∀{b:List (List LC)} {xs:List (Val t)},dF h t b=some xs-> ∀cs∈b,0<cs.length
 | [],_,_=>by simp
 | cs::b,xs,a=>by
   simp only [dF]at a
   split at a
   ·rename_i v e
    split at a
    ·rename_i vs f
     intro c d
     rcases List.mem_cons.1 d with rfl | d
     ·cases c with
      | nil=>rw [yi]at e;simp at e
      | cons=>simp
     ·exact I1 f c d
    ·simp at a
   ·simp at a
section
variable {P : Program} {tt : TT} {o : Oper} {a : Act} {w0 w : World} {mine : Mine} {st : St} {next : Act -> World -> Prop} {Q : Exit -> Act -> World -> Prop}
theorem I2 {m:Mp} (H:HR w0 mine w m st.heap) (he:F2 (V w m st.heap) st.env a.tmps.toList): ∀ps:List (Nat×Operand),(∀p∈ps,(st.ev p.2).cells.all LC.isDef=true/\0<(st.ev p.2).cells.length)->
 F2 (F2 (C w m st.heap)) (ps.map fun p=>(st.ev p.2).cells) (ps.map fun p=>(a.eval p.2).cells.toList)/\ ∀p∈ps,∀u∈(a.eval p.2).cells.toList,u.oneCell'=true
 | [],_=>⟨.nil,by simp⟩
 | p::ps,c=>by
   obtain ⟨h1,h2⟩:=c p (by simp)
   obtain ⟨d,e⟩:=jI H.br (R.ev H he p.2) h1 h2
   obtain ⟨f,g⟩:=I2 H he ps fun q b=>c q (by simp [b])
   refine ⟨.cons d f,fun q b=> ?_⟩
   rcases List.mem_cons.1 b with rfl | b
   ·exact e
   ·exact g q b
theorem UR (hT:bm P tt) {t n:Nat} {ti:TI} (af:tt.get t=some ti) {ps:Array (Nat×Operand)} (F:o.op= .buildSlice t n ps) {e:Nat} {te:Ty} (N:ti.agg=false) (aj:ti.ty= .slice e te)
 (E:ps.toList.map (·.1)=List.range n) (au:n*te.sz<=65536) (X:dc (qG (ps.toList.map fun p=>(st.ev p.2).cells).flatten)=true) (S:(ps.toList.map fun p=>(st.ev p.2).cells).flatten.all LC.isDef=true)
 {xs:List (Val te)} (s:dF st.heap te (ps.toList.map fun p=>(st.ev p.2).cells)=some xs) (ab:R w0 mine st a w)
 (W: ∀A w',R w0 mine {(st.put o.dst (.one (.own st.heap.length)))with heap:=newRow st.heap e te xs (te.flat||bR st.heap (ps.toList.map fun p=>(st.ev p.2).cells).flatten) (qG (ps.toList.map fun p=>(st.ev p.2).cells).flatten)} A w'->next A w'):o.wp P a w next Q:=by
 obtain ⟨hd,m,H,he⟩:=ab
 have ah:=hT t ti af
 obtain ⟨hu,tie,ag,ai⟩:=ah.slc N e te aj
 obtain ⟨i,z,D,hs,ao,aq,ar⟩:=(hT e tie ag).info
 rw [ai]at hs aq
 have Z:=I1 s
 obtain ⟨v,h1⟩:=I2 H he ps.toList fun p r=>⟨List.all_eq_true.2 fun c u=>List.all_eq_true.1 S c (List.mem_flatten.2 ⟨_,List.mem_map.2 ⟨p,r,rfl⟩,u⟩),Z _ (List.mem_map.2 ⟨p,r,rfl⟩)⟩
 obtain ⟨hk,an,ak⟩:=yh (ok:=fun _=>True) H.br v s (fun c _=>by
  cases c<;>simp only [okC]
  ·exact fun _ _ _=>trivial
  ·intro x _
   exact ⟨fun _ _=>trivial,by split<;>simp⟩)
 have hlen:ps.toList.length=n:=by
  have:=congrArg List.length E
  simpa using this
 have K:xs.length=n:=by rw [an,List.length_map,hlen]
 
 let vs:List (Nat×Value):=ps.toList.map fun p=>(p.1,a.eval p.2)
 have al:vs.map (·.1)=(List.range vs.length).map (0+ ·):=by
  simp only [vs,List.map_map,List.length_map,hlen,Nat.zero_add,List.map_id']
  rw [<-E];rfl
 have am: ∀p∈vs,p.2.cells.size=te.sz:=by
  intro p r
  obtain ⟨q,aa,rfl⟩:=List.mem_map.1 r
  have:=ak _ (List.mem_map.2 ⟨q,aa,rfl⟩)
  simpa using this
 have J:vs.length=n:=by simp [vs,hlen]
 obtain ⟨res,f,ac⟩:=IY te.sz vs 0 ((Array.range (n*te.sz)).map ((if n*te.sz=0 then (#[]:Array Value)else z.cells)[· % (if n*te.sz=0 then (#[]:Array Value)else z.cells).size]!)) al am (by simp [J])
 have G:res.toList=(ps.toList.map fun p=>(a.eval p.2).cells.toList).flatten:=by
  rw [ac]
  simp only [Nat.zero_mul,List.take_zero,List.nil_append,Nat.zero_add,J]
  rw [List.drop_eq_nil_of_le (by simp),List.append_nil]
  simp only [vs,List.map_map]
  rfl
 have ad:res.size=n*te.sz:=by
  have h2:=hk.len fun x c hk=>cE hk
  rw [<-G,K]at h2
  simpa using h2
 have ae:(execOp a.eval o).run P w= .ok (.value (.slice (some ⟨w.heap.size,0,none⟩) n n)) (w.alloc (.cells res e)):=by
  have I:(sizeOf e).run P w= .ok te.sz w:=by simp [Go.sizeOf,typeInfo,D,hs]
  by_cases j:n*te.sz=0
  ·simp only [j,if_true,vs]at f
   simp at f
   simp [execOp,F,Instr.buildSlice,run_underlying hu,I,j,f,Go.newRow]
   try rfl
  ·simp only [j,if_false,vs]at f
   have ap:(zeroValue e).run P w= .ok z w:=by simp [zeroValue,typeInfo,D,ao]
   have L: ¬(2 ^ 24<n*te.sz):=by omega
   simp [execOp,F,Instr.buildSlice,run_underlying hu,I,j,ap,L,f,Go.newRow]
   try rfl
 refine dZ ae (W _ _ ?_)
 have y:(w.alloc (.cells res e)).ownsRow 0 e te.sz (.slice (some ⟨w.heap.size,0,none⟩) n n) xs.length (ps.toList.map fun p=>(a.eval p.2).cells.toList).flatten:=by
  rw [K,<-G]
  exact World.ownsRow_lit w res n (Nat.zero_le _) (by
   have:=te.sz_pos
   have:n<=n*te.sz:=Nat.le_mul_of_pos_right _ this
   simp only [maxLen];omega) ad
 have hold: ∀b,b<w.heap.size->(w.alloc (.cells res e)).heap[b]?=w.heap[b]?:=fun b d=>heap_alloc_old w _ b d
 have l: ∀b,Value.ownBlock (.slice (some ⟨w.heap.size,0,none⟩) n n)=some b->w.heap.size<=b:=fun b d=>by simp [Value.ownBlock]at d;omega
 unfold newRow
 cases T:(te.flat||bR st.heap (ps.toList.map fun p=>(st.ev p.2).cells).flatten)with
 | true=>
   simp only [cond_true]
   by_cases C:te.flat=true
   ·refine R.newedW hd he (HR.newRow H (bu.kill _ _) (dp:=true) (mt:=true) (B:=[]) (np w _ _) y l (by simp) List.nodup_nil (by simp) (fun _=>ig _ _ _) (fun h=>by simp at h) (fun _=> ?_)) _ (jL (ea _ _))
    exact rf C (hk.imp fun x c g=>cv (ok':=fun _=>True) (fun b _ d=>hold b d) (fun _ _ _=>trivial) g)
   ·have O:bR st.heap (ps.toList.map fun p=>(st.ev p.2).cells).flatten=true:=by simpa [C] using T
    have M:=IZ H.br v s O
    refine R.newedW hd he (HR.newRow H (bu.kill _ _) (dp:=true) (mt:=true) (B:=qY m st.heap (qG (ps.toList.map fun p=>(st.ev p.2).cells).flatten)) (np w _ _) y l (fun b d=>gT H d) (jK H (jJ X)) (fun _ k b hk hle=>rq hk hle) (fun _=>ig _ _ _) (fun h=>by simp at h) (fun _=> ?_)) _ (jL (ea _ _))
    exact M.imp fun x c b d g=>dX g fun k hk=>hold k (gT H (d k hk)).1
 | false=>
   simp only [cond_false]
   refine R.newedW hd he (HR.newRow H (bu.kill _ _) (dp:=false) (mt:=true) (B:=[]) (np w _ _) y l (by simp) List.nodup_nil (by simp) (by simp) (fun h=>rfl) (fun Y=> ?_)) _ (jL (ea _ _))
   obtain ⟨V,_,_⟩:=yh (ok:=qM (m.row st.heap.length (.slice (some ⟨w.heap.size,0,none⟩) n n) []) (kill st.heap (qG (ps.toList.map fun p=>(st.ev p.2).cells).flatten)++[.row e te xs false true (st.heap.length+1)]) (st.heap.length+1)) H.br v s
    (fun c u=>UQ H l Y fun id U=>ru (U▸u))
   exact V.imp fun x c g=>cv (fun b _ d=>hold b d) (fun b h _=>h) g
end
end Go.T
namespace Go.T
open Go
theorem Rd.list {α:Type} {w:World} {ok:Nat->Prop} {sz:Nat} {R:α->List Value->Prop} {a:Addr} (hs: ∀x c,R x c->c.length=sz):
 ∀(xs:List α) (k:Nat),(∀i x,xs[i]?=some x-> ∃cs,R x cs/\At w (a.add ((k+i)*sz)) cs)-> ∃news,Ks R xs news/\At w (a.add (k*sz)) news
 | [],k,_=>⟨[],rfl,fun j u hu=>by simp at hu⟩
 | x::xs,k,h=>by
   obtain ⟨c,b,d⟩:=h 0 x (by simp)
   obtain ⟨news,e,f⟩:=Rd.list (ok:=ok) hs xs (k+1) fun i y g=>by
    obtain ⟨cs,h1,h2⟩:=h (i+1) y (by simpa using g)
    exact ⟨cs,h1,by rw [show k+1+i=k+(i+1) by omega];exact h2⟩
   refine ⟨c++news,⟨c,news,rfl,b,e⟩,fun j u hu=> ?_⟩
   rw [List.getElem?_append]at hu
   split at hu
   ·have:=d j u hu
    simpa using this
   ·rename_i l
    have m:=hs x c b
    have:=f _ u hu
    rw [jH]at this ⊢
    rw [show k*sz+j=(k+1)*sz+(j - c.length) by rw [Nat.succ_mul];omega]
    exact this
section
variable {P : Program} {tt : TT} {o : Oper} {a : Act} {w0 w : World} {mine : Mine} {st : St} {next : Act -> World -> Prop} {Q : Exit -> Act -> World -> Prop}
theorem US (base:Nat) (t ty e:TypeId) (i:TypeInfo) (size:Nat) (b:P.underlying t=some (.slice e)) (a:P.info? e=some i)
 (v:Value) (n c:Nat) (xs:List Value) (f:w.ownsRow base e size v n xs):
 (Builtin.append_ #[t,t] ty #[v,.slice none 0 c]).run P w= .ok v w:=by
 rcases f.2 with ⟨rfl,rfl⟩ | ⟨g,cap,cur,rfl,_,_,d,_⟩
 ·simp [Builtin.append_,run_underlying b,sizeOf,typeInfo,a,Builtin.lenOf,Builtin.firstCells]
 ·simp [Builtin.append_,run_underlying b,sizeOf,typeInfo,a,Builtin.lenOf,Builtin.firstCells,d,storeCells]
theorem UT (hT:bm P tt) {t ty e:Nat} {ti:TI} (x:tt.get t=some ti) {te:Ty} (p:ti.agg=false) (D:ti.ty= .slice e te)
 {v:Value} {n k c:Nat} {inner news:List Value} (d:w.ownsRow 0 e te.sz v n inner) {A:Option Addr} (o:A=none->k=0) (g:news.length=k*te.sz) (s: ∀b,A=some b->At w b news) (h1: ∀u∈news,u.oneCell'=true) (r:n+k<=1048576):
 ∃a w',(Builtin.append_ #[t,t] ty #[v,.slice A k c]).run P w= .ok a w'/\w'.ownsRow 0 e te.sz a (n+k) (inner++news)/\w.grownBy w' v.ownBlock/\(a.ownBlock=v.ownBlock∨a.ownBlock=some w.heap.size):=by
 have B:=hT t ti x
 obtain ⟨hu,tie,y,C⟩:=B.slc p e te D
 obtain ⟨i,z,f,hs,E,h,q⟩:=(hT e tie y).info
 rw [C]at hs h
 cases A with
 | none=>
   have hk:=o rfl
   subst hk
   have:news=[]:=List.eq_nil_of_length_eq_zero (by simpa using g)
   subst this
   exact ⟨v,w,US 0 t ty e i te.sz hu f v n c inner d,by simpa using d,⟨rfl,rfl,rfl,Nat.le_refl _,fun _ _ _=>rfl⟩,.inl rfl⟩
 | some b=>
   have F:(n+k)*i.bytes<=1048576*65536:=Nat.mul_le_mul r q
   obtain ⟨a,w',h2,j,l,_,m⟩:=run_append_own_at (P:=P) w 0 t ty e i z te.sz i.bytes hu f E hs rfl (by
    have:=congrArg List.length h
    simpa [dH] using this) te.sz_pos v n inner d b k c news g (s b rfl) h1 (by simp only [maxLen];omega) (by omega) (Nat.zero_le _)
   exact ⟨a,w',h2,j,l,m⟩
structure Part (w:World) (m:Mp) (h:List Blk) (te:Ty) (xs:List (Val te)) (d:Bool) (cs:List Value) (B:List Nat):Prop where
 deep:d=true->Ms (M w te) xs cs B
 read: ∀ok:Nat->Prop,(∀n b,qM m h n b->b<w.heap.size->ok b)->(∀b∈B,ok b)->Ks (K w ok te) xs cs
theorem Part.flat {m:Mp} {h:List Blk} {te:Ty} {xs:List (Val te)} {d:Bool} {cs:List Value} {B:List Nat} (b:Part w m h te xs d cs B) (a:te.flat=true):Ms (M w te) xs cs []:=
 rf a (b.read (fun _=>True) (fun _ _ _ _=>trivial) fun _ _=>trivial)
theorem Part.row {m:Mp} (H:HR w0 mine w m st.heap) {id e:Nat} {te:Ty} {xs:List (Val te)} {dp mt:Bool} {n:Nat} (a:st.heap[id]?=some (.row e te xs dp mt n)):
 ∃inner,w.ownsRow 0 e te.sz (m.val id) xs.length inner/\Part w m st.heap te xs dp inner (match dp with | true=>m.nst id | false=>[]):=by
 obtain ⟨inner,i,d⟩:=H.br id _ a
 refine ⟨inner,i,?_⟩
 cases dp with
 | true=>exact ⟨fun _=>d.1,fun ok h1 h2=>d.1.toKs fun x c b f hm=>M_K hm fun k hk=>h2 k (f k hk)⟩
 | false=>exact ⟨fun h=>by simp at h,fun ok h1 h2=>d.imp fun x c hk=>cv (fun _ _ _=>rfl) (fun b a g=>h1 _ b a g) hk⟩
theorem I3 {m:Mp} (hd:a.defers=[]) (H:HR w0 mine w m st.heap) (he:F2 (V w m st.heap) st.env a.tmps.toList) {e:Nat} {te:Ty} {xs ys:List (Val te)} {d1 d2:Bool} {i1 i2:List Nat} {v j:Value} {w':World} {inner news:List Value} {f g:List Nat}
 (J:Part w m st.heap te xs d1 inner f) (K:Part w m st.heap te ys d2 news g) (I:List.Sublist (v.ownBlock.toList++f) (qY m st.heap i1)) (s:te.flat=false->List.Sublist g (qY m st.heap i2)) (ab:te.flat=true->i2=[]) (W:(i1++i2).Nodup)
 (t: ∀k,v.ownBlock=some k-> ∀n b,qM m st.heap n b->b≠k) (G:w'.ownsRow 0 e te.sz j (xs.length+ys.length) (inner++news)) (i:w.grownBy w' v.ownBlock) (hdr:w.drawn<=w'.drawn) (aa:j.ownBlock=v.ownBlock∨j.ownBlock=some w.heap.size)
 (F: ∀L w',R w0 mine {(st.put o.dst (.one (.own st.heap.length)))with heap:=newRow st.heap e te (xs++ys) (te.flat||(d1&&d2)) (i1++i2)} L w'->next L w'):next (a.put o.dst j) w':=by
 refine F _ _ ?_
 have N:(qY m st.heap (i1++i2)).Nodup:=jK H W
 rw [ic]at N
 have M: ∀k,v.ownBlock=some k->k∈qY m st.heap (i1++i2):=fun k hk=>by
  rw [ic]
  exact List.mem_append_left _ (I.subset (by simp [hk]))
 have S: ∀b∈f,b∈qY m st.heap (i1++i2):=fun b d=>by
  rw [ic]
  exact List.mem_append_left _ (I.subset (List.mem_append_right _ d))
 have D:Fr (fun k=>v.ownBlock=some k) w w':=⟨i.os,i.tape,i.output,i.size,fun k hk F=>i.block k hk fun e=>F e.symm,hdr⟩
 have u: ∀k,v.ownBlock=some k-> ∃id x,st.heap[id]?=some x/\k∈fpB m id x:=fun k hk=>by
  obtain ⟨id,x,_,h2,Q⟩:=fT (M k hk)
  exact ⟨id,x,h2,Q⟩
 have z: ∀k,v.ownBlock=some k-> ∀id y,(kill st.heap (i1++i2))[id]?=some y->k∉fpB m id y:=fun k hk=>(gT H (M k hk)).2.2
 have r: ∀b,j.ownBlock=some b->w.heap.size<=b∨v.ownBlock=some b:=fun b d=>by
  rcases aa with h | h
  ·right;rw [<-h];exact d
  ·left;rw [h]at d;cases d;exact Nat.le_refl _
 have hlen:(xs++ys).length=xs.length+ys.length:=by simp
 unfold newRow
 cases C:te.flat with
 | true=>
   simp only [Bool.true_or,cond_true]
   refine R.newedW hd he (HR.newRowA H (bu.kill _ _) (dp:=true) (mt:=true) (B:=[]) D u z t (by simp) (by rw [hlen];exact G) r (by simp) List.nodup_nil (by simp) (fun _=>ig _ _ _) (fun h=>by simp at h) (fun _=> ?_)) _ (jL (ea _ _))
   exact ((J.flat C).append (K.flat C)).imp fun x c b d p=>dX p fun k hk=>by have:=d k hk;simp at this
 | false=>
   simp only [Bool.false_or]
   have s:=s C
   have T: ∀b∈g,b∈qY m st.heap (i1++i2):=fun b d=>by
    rw [ic]
    exact List.mem_append_right _ (s.subset d)
   have Z:List.Sublist ((v.ownBlock.toList++f)++g) (qY m st.heap i1++qY m st.heap i2):=I.append s
   have O:=N.sublist Z
   rw [List.append_assoc]at O
   obtain ⟨_,X,U⟩:=List.nodup_append.1 O
   have l: ∀b∈f++g,b∈qY m st.heap (i1++i2):=fun b d=>by
    rcases List.mem_append.1 d with d | d
    ·exact S b d
    ·exact T b d
   have q: ∀k,v.ownBlock=some k->k∉f++g:=fun k hk hm=>U k (by simp [hk]) k hm rfl
   cases A:(d1&&d2)with
   | true=>
     simp only [cond_true]
     simp only [Bool.and_eq_true]at A
     refine R.newedW hd he (HR.newRowA H (bu.kill _ _) (dp:=true) (mt:=true) (B:=f++g) D u z t q (by rw [hlen];exact G) r (fun b d=>gT H (l b d)) X (fun _ k b hk hle hm=>rq hk hle (l b hm)) (fun _=>ig _ _ _) (fun h=>by simp at h) (fun _=> ?_)) _ (jL (ea _ _))
     exact ((J.deep A.1).append (K.deep A.2)).imp fun x c b d p=>dX p fun k hk=>i.block k (gT H (l k (d k hk))).1 fun e=>q k e.symm (d k hk)
   | false=>
     simp only [cond_false]
     refine R.newedW hd he (HR.newRowA H (bu.kill _ _) (dp:=false) (mt:=true) (B:=[]) D u z t (by simp) (by rw [hlen];exact G) r (by simp) List.nodup_nil (by simp) (by simp) (fun h=>rfl) (fun Y=> ?_)) _ (jL (ea _ _))
     have c1: ∀n b,qM m st.heap n b->b<w.heap.size-> ¬v.ownBlock=some b/\qM (m.row st.heap.length j []) (kill st.heap (i1++i2)++[.row e te (xs++ys) false true (st.heap.length+1)]) (st.heap.length+1) b:=
        fun n b d E=>⟨fun e=>t b e n b d rfl,UO H (by simp) Y d E⟩
     have c2: ∀b∈f++g,¬v.ownBlock=some b/\qM (m.row st.heap.length j []) (kill st.heap (i1++i2)++[.row e te (xs++ys) false true (st.heap.length+1)]) (st.heap.length+1) b:=fun b d=>by
        refine ⟨fun e=>q b e d,UP H I0 rfl (l b d) ⟨fun _ P=> ?_,fun h=>by simp at h⟩⟩
        simp only [Mp.row,if_true]at P
        rcases r b P with h | h
        ·have:=(gT H (l b d)).1;omega
        ·exact q b h d
     have:=(J.read _ c1 fun b d=>c2 b (List.mem_append_left _ d)).append (K.read _ c1 fun b d=>c2 b (List.mem_append_right _ d))
     exact this.imp fun x c p=>cv (fun b d E=>i.block b E fun e=>d.1 e.symm) (fun b h _=>h.2) p
end
end Go.T
namespace Go.T
open Go
section
variable {P : Program} {tt : TT} {o : Oper} {a : Act} {w0 w : World} {mine : Mine} {st : St} {next : Act -> World -> Prop} {Q : Exit -> Act -> World -> Prop}
theorem Part.nil (w:World) (m:Mp) (h:List Blk) (te:Ty) (d:Bool):Part w m h te [] d [] []:=⟨fun _=>⟨rfl,rfl⟩,fun _ _ _=>rfl⟩
theorem I4 {m:Mp} (H:HR w0 mine w m st.heap) {x:LV} {v:Value} (c:V w m st.heap x v) {e:Nat} {te:Ty} {xs:List (Val te)} {d:Bool} {i1:List Nat} (hs:h9 st.heap e te x=some (xs,d,i1)):
 ∃inner B,w.ownsRow 0 e te.sz v xs.length inner/\Part w m st.heap te xs d inner B/\List.Sublist (v.ownBlock.toList++B) (qY m st.heap i1)/\(∀k,v.ownBlock=some k-> ∀n b,qM m st.heap n b->b≠k):=by
 unfold h9 at hs
 split at hs
 ·cases hs
  have j:v= .slice none 0 0:=c
  subst j
  exact ⟨[],[],World.ownsRow_nil w 0 e te.sz,Part.nil _ _ _ _ _,by simp [Value.ownBlock],fun k hk=>by simp [Value.ownBlock]at hk⟩
 ·rename_i id
  split at hs
  ·rename_i e' t' o dp n a
   split at hs
   ·rename_i f
    obtain ⟨rfl,rfl⟩:=f
    cases hs
    simp only [V,C,a]at c
    subst c
    obtain ⟨inner,h,i⟩:=Part.row H a
    refine ⟨inner,_,h,i,?_,fun k hk l b g e=> ?_⟩
    ·cases d<;>simp [qY,a,fpB]
    ·subst e
     exact (g.2 id _ a).1 (.inl rfl) hk
   ·simp at hs
  ·simp at hs
 ·simp at hs
theorem UU {m:Mp} (H:HR w0 mine w m st.heap) {y:LV} {v:Value} (k:V w m st.heap y v) {e:Nat} {te:Ty} {ys:List (Val te)} {d:Bool} {i2:List Nat} (hs:lG st.heap e te y=some (ys,d,i2)):
 ∃A c news B,v= .slice A ys.length c/\(A=none->ys.length=0)/\(∀f,A=some f->At w f news)/\Part w m st.heap te ys d news B/\(te.flat=false->List.Sublist B (qY m st.heap i2))/\(te.flat=true->i2=[]):=by
 unfold lG at hs
 split at hs
 ·cases hs
  have I:v= .slice none 0 0:=k
  subst I
  exact ⟨none,0,[],[],rfl,fun _=>rfl,fun f h=>by simp at h,Part.nil _ _ _ _ _,fun _=>List.nil_sublist _,fun _=>rfl⟩
 ·rename_i id
  split at hs
  ·rename_i e' t' q dp mt n g
   split at hs
   ·rename_i o
    obtain ⟨rfl,rfl⟩:=o
    cases hs
    simp only [V,C,g]at k
    subst k
    obtain ⟨inner,s,G⟩:=Part.row H g
    obtain ⟨A,c,J,_,u,D⟩:=gP s
    refine ⟨A,c,inner,_,J,D,fun f F=> ?_,G,fun j=> ?_,fun j=>by simp [j]⟩
    ·obtain ⟨h1,h2⟩:=u f F
     have:=x5 s h1
     rwa [<-h2]at this
    ·cases d<;>simp [j,qY,g,fpB]
   ·simp at hs
  ·simp at hs
 ·rename_i e' t' q n
  split at hs
  ·rename_i o
   obtain ⟨rfl,rfl⟩:=o
   cases hs
   obtain ⟨A,c,rfl,r,t⟩:=k
   cases A with
   | none=>
     cases q with
     | nil=>exact ⟨none,c,[],[],rfl,fun _=>rfl,fun f h=>by simp at h,Part.nil _ _ _ _ _,fun _=>List.nil_sublist _,fun _=>rfl⟩
     | cons z M=>obtain ⟨a,cs,h,_⟩:=t 0 z (by simp);simp at h
   | some f=>
     obtain ⟨news,hk,l⟩:=Rd.list (ok:=fun _=>True) (R:=K w (qM m st.heap n) t') (w:=w) (a:=f) (sz:=t'.sz) (fun x c h=>cE h) q 0 (fun i x p=>by
      obtain ⟨a,cs,E,_,hk,l⟩:=t i x p
      cases E
      exact ⟨cs,hk,by simpa using l⟩)
     refine ⟨some f,c,news,[],rfl,fun h=>by simp at h,fun L h=>by cases h;simpa [Addr.add] using l,⟨fun j=>rf j hk,fun ok h1 _=>hk.imp fun x c p=>cv (fun _ _ _=>rfl) (fun b g r=>h1 n b g r) p⟩,fun _=>List.nil_sublist _,fun _=>rfl⟩
  ·simp at hs
 ·simp at hs
theorem Part.one {m:Mp} {h:List Blk} {te:Ty} {xs:List (Val te)} {d:Bool} {cs:List Value} {B:List Nat} (a:Part w m h te xs d cs B):cs.length=xs.length*te.sz/\ ∀u∈cs,u.oneCell'=true:=by
 have hk:=a.read (fun _=>True) (fun _ _ _ _=>trivial) fun _ _=>trivial
 refine ⟨hk.len fun x c h=>cE h,?_⟩
 clear a
 induction xs generalizing cs with
 | nil=>rw [Ks]at hk;subst hk;simp
 | cons x xs b=>
   obtain ⟨c1,c2,rfl,h1,h2⟩:=hk
   intro u hu
   rcases List.mem_append.1 hu with hu | hu
   ·exact lK h1 u hu
   ·exact b h2 u hu
theorem UW (hT:bm P tt) {c:Call} {t:Nat} {x y:Operand} (C:o.op= .call c) (q:c.callee= .builtin .append) (j:c.args= #[x,y]) (l:c.argTypes= #[t,t]) {p:Prop} {g:St} (hs:jE tt t (st.ev x) (st.ev y) o.dst st=some (p,g)) (F:p) (G:R w0 mine st a w)
 (z: ∀d w',R w0 mine g d w'->next d w'):o.wp P a w next Q:=by
 obtain ⟨hd,m,H,he⟩:=G
 unfold jE at hs
 split at hs
 ·simp at hs
 rename_i ti L
 split at hs
 ·rename_i e te k N
  split at hs
  ·rename_i xs d1 i1 r
   split at hs
   ·rename_i ys d2 i2 K
    split at hs
    ·rename_i B
     cases hs
     obtain ⟨inner,V,D,T,I,M⟩:=I4 H (R.ev H he x) r
     obtain ⟨A,h,news,W,S,i,n,b,J,u⟩:=UU H (R.ev H he y) K
     obtain ⟨U,w',f,E,s,O⟩:=UT (ty:=o.type) hT L k N D i b.one.1 n b.one.2 F (c:=h)
     refine dZ (v:=U) (w':=w') ?_ (I3 hd H he T b I J u (jJ B) M E s (IB _ _ _ f) O z)
     simp only [execOp,C,resolve,q,j,l,invoke,builtin,Sem.run_bind,Sem.run_pure,Result.andThen_ok,List.map_toArray,List.map_cons,List.map_nil,S,f]
    ·simp at hs
   ·simp at hs
  ·simp at hs
 ·simp at hs
end
end Go.T
namespace Go.T
open Go
theorem I5: ∀(ids:List Nat) (h:List Blk) (i:Nat),i∉ids->(kill h ids)[i]?=h[i]?
 | [],h,i,_=>rfl
 | j::r,h,i,a=>by
   have:(kill h (j::r))=kill (h.set j .dead) r:=rfl
   rw [this,I5 r _ i (fun hm=>a (List.mem_cons_of_mem _ hm)),List.getElem?_set_ne (fun e=>a (by simp [e]))]
def Mp.nest (m:Mp) (id:Nat) (B:List Nat):Mp:={m with nst:=fun j=>if j=id then B else m.nst j}
section
variable {P : Program} {tt : TT} {o : Oper} {a : Act} {w0 w : World} {mine : Mine} {st : St} {next : Act -> World -> Prop} {Q : Exit -> Act -> World -> Prop}
theorem I6 (hT:bm P tt) {t:Nat} {ti:TI} (aY:tt.get t=some ti) {x y:Operand} (aU:o.op= .store t x y) (aI:o.dst=none) {id i:Nat} (ex:st.ev x= .one (.ptr id i 0)) {e:Nat} {te:Ty} {xs:List (Val te)} {dp:Bool} {n:Nat}
 (d:st.heap[id]?=some (.row e te xs dp true n)) (ak:ti.ty=te) (aQ:dc (qG (st.ev y).cells)=true) (aK:(qG (st.ev y).cells).contains id=false) (aH:(st.ev y).cells.all LC.isDef=true)
 {v:Val te} (X:qL st.heap te (st.ev y).cells=some (v,[])) (T:i<xs.length) (aW:R w0 mine st a w)
 (aP: ∀ao w',R w0 mine (bif dp&&bR st.heap (st.ev y).cells then {st with heap:=(kill st.heap (qG (st.ev y).cells)).set id (.row e te (xs.set i v) true true (los st.heap n (qG (st.ev y).cells)))}
   else {st with heap:=(kill st.heap (qG (st.ev y).cells)).set id (.row e te (xs.set i v) false true st.heap.length)}) ao w'->next ao w'):o.wp P a w next Q:=by
 obtain ⟨hd,m,H,he⟩:=aW
 have aZ:=hT t ti aY
 have s:=R.ev H he x
 rw [ex]at s
 simp only [V,C,d]at s
 obtain ⟨g0,ay,bb⟩:=s
 obtain ⟨inner,W,G⟩:=H.br id _ d
 obtain ⟨g,cap,cur,a8,r,ax,bj,bk⟩:=rk W T
 obtain rfl:g=g0:=by rw [r]at ay;exact Option.some.inj ay
 have aV:0<(st.ev y).cells.length:=by
  cases ac:(st.ev y).cells with
  | nil=>rw [ac,yi]at X;simp at X
  | cons=>simp
 obtain ⟨au,h1⟩:=jI H.br (R.ev H he y) aH aV
 generalize bg:(st.ev y).cells=cs at*
 generalize al:(a.eval y).cells.toList=us at*
 have aT:id∉qG cs:=by simpa using aK
 have aR:=jJ aQ
 have aJ:xs[i]?=some (xs.getD i (qa te)):=by simp [List.getD,List.getElem?_eq_getElem T]
 have bh:=rm (sz:=te.sz) T
 have a9: ∀ok:Nat->Prop,(∀c∈cs,okC w m st.heap ok c)->K w ok te v us:=fun ok N=>by
  obtain ⟨bc,bd,Y,hk,ah,_⟩:=ib H.br au X N
  cases ah
  rw [Y,List.append_nil];exact hk
 have a7:us.length=te.sz:=cE (a9 (fun _=>True) fun c _=>by
  cases c<;>simp only [okC]
  ·exact fun _ _ _=>trivial
  ·intro x _
   exact ⟨fun _ _=>trivial,by split<;>simp⟩)
 have ai:=ri (P:=P) (w:=w) (f:=i*te.sz) (v:=a.eval y) aZ ax (by rw [al,ak];exact a7) (by rw [ak];omega) (by rw [al];exact h1)
 rw [al,ak]at ai
 have bi:=ya W
 generalize am:w.setRow g (cur.toList.take (i*te.sz)++us++cur.toList.drop (i*te.sz+te.sz)).toArray=w' at ai
 refine q2 (w':=w') (by simp only [execOp,aU,bb,Instr.storeAt,Instr.sureAddr,Sem.run_bind,Sem.run_pure,Result.andThen_ok,Nat.add_zero,ai]) (aP _ _ ?_)
 have a3:w'.ownsRow 0 e te.sz (m.val id) (xs.set i v).length (inner.take (i*te.sz)++us++inner.drop (i*te.sz+te.sz)):=by
  rw [a8]at W
  have:=rj W ax (i*te.sz) us (by omega)
  rw [<-a8,a7,am]at this
  rw [List.length_set];exact this
 have hold: ∀b,b≠g->w'.heap[b]?=w.heap[b]?:=fun b d=>by rw [<-am];exact setRow_other w g b _ d
 have aw:Fr (fun k=>k=g) w w':=by rw [<-am];exact nq w _ _ _ rfl
 have aj: ∀u b,qM m st.heap u b->b≠g:=fun u b hk he=>by
  have:=(hk.2 id _ d).1 (.inl rfl)
  rw [r,he]at this
  exact this rfl
 have M:(kill st.heap (qG cs))[id]?=some (.row e te xs dp true n):=by rw [I5 _ _ _ aT];exact d
 have E: ∀b∈qY m st.heap (qG cs),b<w.heap.size/\(w0.heap.size<=b∨mine.own b)/\ ∀i y,(kill st.heap (qG cs))[i]?=some y->b∉fpB m i y:=fun b d=>gT H d
 have aa: ∀b∈qY m st.heap (qG cs),b≠g:=fun b p e=>(E b p).2.2 id _ M (by subst e;simp [fpB,r])
 have fin: ∀(x':Blk) (m':Mp),HR w0 mine w' m' ((kill st.heap (qG cs)).set id x')/\Oks w w' m m' st.heap ((kill st.heap (qG cs)).set id x')/\bA m m' st.heap ((kill st.heap (qG cs)).set id x')->
  R w0 mine {st with heap:=(kill st.heap (qG cs)).set id x'} (a.put o.dst undef) w':=fun x' m' ad=>by
  refine ⟨by rw [c0];exact hd,m',ad.1,?_⟩
  rw [aI]
  exact bV ad.2.1 ad.2.2 he
 cases av:(dp&&bR st.heap cs)with
 | true=>
   simp only [cond_true]
   simp only [Bool.and_eq_true]at av
   obtain ⟨rfl,aG⟩:=av
   simp only at G
   obtain ⟨z,aA,A,aq,bf,aX⟩:=yd (fun x c b hm=>fR hm) G.1 aJ
   obtain ⟨bc,bd,pre,Y,a4,aC,ah⟩:=ie H.br au X aG
   cases ah
   rw [List.append_nil]at Y a4
   subst Y;subst a4
   have D: ∀b∈z++A,b∈m.nst id:=fun b d=>by
    rw [aq];simp only [List.mem_append]at d ⊢
    rcases d with d | d
    ·exact .inl (.inl d)
    ·exact .inr d
   have a5:(fpB m id (.row e te xs true true n)).Nodup:=H.nd id _ d
   simp only [fpB]at a5
   have O: ∀b∈m.nst id,b≠g:=fun b p e=>rn H d r (e▸p)
   have U:(m.nest id (z++qY m st.heap (qG cs)++A)).nst id=z++qY m st.heap (qG cs)++A:=by simp [Mp.nest]
   have aS:(z++qY m st.heap (qG cs)++A).Nodup:=by
    have h2:(z++aA++A).Nodup:=by rw [<-aq];exact (List.nodup_append.1 a5).2.1
    have S:(z++A).Nodup:=h2.sublist (by
        rw [List.append_assoc]
        exact (List.Sublist.refl _).append (List.sublist_append_right _ _))
    have aB:=jK H aR
    have ap: ∀b∈qY m st.heap (qG cs),b∉z++A:=fun b p aD=>(E b p).2.2 id _ M (by simp only [fpB];exact List.mem_append_right _ (D b aD))
    rw [List.nodup_append]at S ⊢
    rw [List.nodup_append]
    refine ⟨⟨S.1,aB,fun x s y l e=>ap y l (by subst e;exact List.mem_append_left _ s)⟩,S.2.1,fun x s y l e=> ?_⟩
    rcases List.mem_append.1 s with s | s
    ·exact S.2.2 x s y l e
    ·exact ap x s (by subst e;exact List.mem_append_right _ l)
   refine fin _ (m.nest id (z++qY m st.heap (qG cs)++A)) (H.write (bu.kill _ _) M rfl rfl (fun j ae=>by simp [Mp.nest,ae]) rfl (by simp [Sim,Mp.nest]) (fun b p=> ?_) ?_ (fun u b hk I=> ?_) (g:=g) (by simp [fpB,r]) aw aj (fun N a6=> ?_))
   ·simp only [fpB,U]at p ⊢
    rcases List.mem_append.1 p with p | p
    ·exact .inl (List.mem_append_left _ p)
    ·by_cases q:b∈qY m st.heap (qG cs)
     ·exact .inr ⟨(E b q).1,(E b q).2.1,fun an y l _=>(E b q).2.2 an y l⟩
     ·left
      refine List.mem_append_right _ (D b ?_)
      simp only [List.mem_append]at p ⊢
      rcases p with (h | h) | h
      ·exact .inl h
      ·exact absurd h q
      ·exact .inr h
   ·simp only [fpB,U]
    have:(m.nest id (z++qY m st.heap (qG cs)++A)).val id=m.val id:=rfl
    rw [this,r]
    simp only [Option.toList_some,List.singleton_append,List.nodup_cons]
    refine ⟨fun hm=> ?_,aS⟩
    by_cases q:g∈qY m st.heap (qG cs)
    ·exact aa g q rfl
    ·simp only [List.mem_append]at hm
     rcases hm with (h | h) | h
     ·exact O g (D g (List.mem_append_left _ h)) rfl
     ·exact q h
     ·exact O g (D g (List.mem_append_right _ h)) rfl
   ·have af:=hk.2 id _ d
    refine ⟨fun _=>af.1 (.inl rfl),fun _ hle hm=> ?_⟩
    rw [U]at hm
    by_cases q:b∈qY m st.heap (qG cs)
    ·exact rq hk hle q
    ·simp only [List.mem_append]at hm
     have a0:u<=n:=Nat.le_trans hle (ig _ _ _)
     rcases hm with (h | h) | h
     ·exact af.2 rfl a0 (D b (List.mem_append_left _ h))
     ·exact q h
     ·exact af.2 rfl a0 (D b (List.mem_append_right _ h))
   ·refine ⟨_,a3,?_⟩
    simp only [U]
    refine ⟨?_,Nat.le_trans (ig _ _ _) G.2⟩
    have:=aX v us _ aC
    refine this.imp fun x c b J hm=>dX hm fun k hk=>hold k fun e=> ?_
    have hm:=J k hk
    subst e
    by_cases q:k∈qY m st.heap (qG cs)
    ·exact aa k q rfl
    ·simp only [List.mem_append]at hm
     rcases hm with (h | h) | h
     ·exact O k (D k (List.mem_append_left _ h)) rfl
     ·exact q h
     ·exact O k (D k (List.mem_append_right _ h)) rfl
 | false=>
   simp only [cond_false]
   refine fin _ m (H.write (bu.kill _ _) M rfl rfl (fun _ _=>rfl) rfl (by simp [Sim]) (fun b p=> .inl ?_) ?_ (fun u b hk I=>⟨fun _=>(hk.2 id _ d).1 (.inl rfl),fun h=>by simp at h⟩) (g:=g) (by simp [fpB,r]) aw aj (fun N a6=> ?_))
   ·simp only [fpB,List.append_nil]at p ⊢
    exact List.mem_append_left _ p
   ·simp only [fpB,r];simp
   ·refine ⟨_,a3,?_⟩
    simp only
    generalize az:(kill st.heap (qG cs)).set id (.row e te (xs.set i v) false true st.heap.length)=h' at N a6 ⊢
    have aN:h'.length=st.heap.length:=by rw [<-az];simp [ea]
    have get': ∀j y,h'[j]?=some y->(j≠id/\(kill st.heap (qG cs))[j]?=some y)∨(j=id/\y= .row e te (xs.set i v) false true st.heap.length):=fun j y l=>by
        rw [<-az]at l
        by_cases e:id=j
        ·subst e
         rw [List.getElem?_set_self (List.getElem?_eq_some_iff.1 M).1]at l
         cases l;exact .inr ⟨rfl,rfl⟩
        ·rw [List.getElem?_set_ne e]at l
         exact .inl ⟨fun h=>e h.symm,l⟩
    have aO: ∀(j e:Nat) (t:Ty) (xs:List (Val t)) (mt:Bool) (k:Nat),h'[j]?=some (Blk.row e t xs true mt k)->k<=j:=by
        intro j e t xs mt k l
        rcases get' j _ l with ⟨_,B⟩ | ⟨_,B⟩
        ·rcases lO _ _ _ _ B with ⟨_,Z⟩ | ⟨_,Z⟩
         ·simp at Z
         ·exact H.lo_le j e t xs mt k Z
        ·simp at B
    have c1: ∀u b,qM m st.heap u b->b<w.heap.size->b≠g/\qM m h' st.heap.length b:=fun u b d I=>by
        refine ⟨aj u b d,?_⟩
        have:=nv aO (N u b d I).2
        rwa [aN]at this
    have c2: ∀b,m.ext b->b≠g->(∀j y,j≠id->(kill st.heap (qG cs))[j]?=some y->b∉fpB m j y)->b≠g/\qM m h' st.heap.length b:=fun b aE ar aF=>by
        refine ⟨ar,aE,fun j y l=> ?_⟩
        rcases get' j y l with ⟨ag,B⟩ | ⟨rfl,rfl⟩
        ·have L:=aF j y ag B
         cases y with
         | dead=>trivial
         | nst F t hs vs=>exact L
         | box cs=>show b≠m.blk j;simpa [fpB] using L
         | row e t xs dp mt k=>
           simp only [fpB,List.mem_append,not_or]at L
           refine ⟨fun _ r=>L.1 (by simp [r]),fun hd _ hm=> ?_⟩
           subst hd
           exact L.2 hm
        ·exact ⟨fun _ a2=>ar (by rw [r]at a2;exact (Option.some.inj a2).symm),fun h=>by simp at h⟩
    have ba:Ks (K w (fun b=>b≠g/\qM m h' st.heap.length b) te) xs inner:=by
        cases dp with
        | true=>
          simp only at G
          refine G.1.toKs fun x c b J hm=>M_K hm fun k hk=>c2 k (by rw [H.mx];exact H.nx k (H.lt id _ d k (by simp only [fpB];exact List.mem_append_right _ (J k hk))).2) (fun e=>rn H d r (e▸J k hk)) fun j y ag l a1=> ?_
          rcases lO _ _ _ _ l with ⟨_,rfl⟩ | ⟨_,B⟩
          ·simp [fpB]at a1
          ·exact H.dj id _ j y (fun e=>ag e.symm) d B k (by simp only [fpB];exact List.mem_append_right _ (J k hk)) a1
        | false=>
          simp only at G
          exact G.imp fun x c hk=>cv (fun _ _ _=>rfl) (fun b d aM=>c1 _ b d aM) hk
    have aL:K w (fun b=>b≠g/\qM m h' st.heap.length b) te v us:=a9 _ fun c ac=>by
        cases c with
        | sl e t xs k=>exact fun b d I=>c1 k b d I
        | own j=>
          intro y l
          have ae:=ru ac
          refine ⟨fun b p=> ?_,?_⟩
          ·have ab:b∈qY m st.heap (qG cs):=by
              simp only [qY,List.mem_flatMap]
              exact ⟨j,ae,by rw [l];exact p⟩
           exact c2 b (by rw [H.mx];exact H.nx b (E b ab).2.1) (aa b ab) fun an be _ B=>(E b ab).2.2 an be B
          ·cases y with
           | row e t xs dp mt k=>
             cases dp with
             | true=>trivial
             | false=>exact fun b d I=>c1 k b d I
           | _=>trivial
        | _=>trivial
    have:=ba.set (fun x c hk=>cE hk) i T aL
    exact this.imp fun x c hk=>cv (fun b d _=>hold b d.1) (fun b d _=>d.2) hk
end
end Go.T
namespace Go.T
open Go
section
variable {P : Program} {tt : TT} {o : Oper} {a : Act} {w0 w : World} {mine : Mine} {st : St} {next : Act -> World -> Prop} {Q : Exit -> Act -> World -> Prop}
theorem yj {m:Mp} (H:HR w0 mine w m st.heap) (he:F2 (V w m st.heap) st.env a.tmps.toList) {offs:List (Nat×Nat)} {sz:Nat} (l: ∀(f n i:Nat),offs[i]?=some (f,n)->0<n/\f+n<=sz):
 ∀(ps:List (Nat×Operand)) (cs cs':List LC) (cur:Array Value),F2 (C w m st.heap) cs cur.toList->cur.size=sz->jG offs cs (ps.map fun p=>(p.1,(st.ev p.2).cells))=some cs'->
  ∃res,Instr.fill (offs.toArray[·]?) cur (ps.map fun p=>(p.1,a.eval p.2))=some res/\F2 (C w m st.heap) cs' res.toList
 | [],cs,cs',cur,b,_,h=>by simp [jG]at h;subst h;exact ⟨cur,rfl,b⟩
 | (i,x)::ps,cs,cs',cur,b,y,h=>by
   simp only [List.map_cons,jG]at h
   split at h
   ·rename_i f n k
    split at h
    ·rename_i q
     obtain ⟨v,u⟩:=l f n i k
     obtain ⟨e,_⟩:=jI H.br (R.ev H he x) q.2 (by omega)
     have g:(a.eval x).cells.size=n:=by have:=e.len;simp at this;omega
     have o:=yg (a.eval x).cells.toList 0 f cur (by simp;omega)
     simp only [Nat.add_zero,Array.length_toList,g]at o
     have d:((a.eval x).cells.zipIdx.foldl (fun (cs:Array Value) (p:Value×Nat)=>cs.setIfInBounds (f+p.2) p.1) cur).toList=cur.toList.take f++(a.eval x).cells.toList++cur.toList.drop (f+n):=by
      rw [<-o,<-Array.foldl_toList,Array.toList_zipIdx]
     generalize r:(a.eval x).cells.zipIdx.foldl (fun (cs:Array Value) (p:Value×Nat)=>cs.setIfInBounds (f+p.2) p.1) cur=c2 at d
     have t:c2.size=sz:=by
      have:=congrArg List.length d
      simp at this
      omega
     obtain ⟨res,h1,h2⟩:=yj H he l ps _ cs' c2 (by rw [d];exact ((b.take f).append e).append (b.drop _)) t h
     refine ⟨res,?_,h2⟩
     have s:(a.eval x).cells.zipIdx.foldl (fun (cs:Array Value) (x:Value×Nat)=>match x with | (c,j)=>cs.setIfInBounds (f+j) c) cur=c2:=r
     simp only [List.map_cons,Instr.fill,List.getElem?_toArray,k]
     rw [if_neg (by simp [g];omega),s]
     simpa using h1
    ·simp at h
   ·simp at h
theorem UX (hT:bm P tt) {t:Nat} {ti:TI} (L:tt.get t=some ti) {ps:Array (Nat×Operand)} (G:o.op= .build t ps) (F:ti.offs.isEmpty≠true) {cs:List LC} (k:jG ti.offs (eS ti.ty) (ps.toList.map fun p=>(p.1,(st.ev p.2).cells))=some cs) (I:R w0 mine st a w)
 (E: ∀e w',R w0 mine (st.put o.dst (.agg cs)) e w'->next e w'):o.wp P a w next Q:=by
 obtain ⟨hd,m,H,he⟩:=I
 have b:=hT t ti L
 obtain ⟨i,z,C,hs,M,c,_⟩:=b.info
 have q: ∀(f n i:Nat),ti.offs[i]?=some (f,n)->0<n/\f+n<=ti.ty.sz:=fun f n i h=>by
  obtain ⟨fs,fl,_,_,_,j,_,_,h1,h2⟩:=b.offsStruct f n i h
  exact ⟨h1,h2⟩
 obtain ⟨res,h1,h2⟩:=yj H he q ps.toList (eS ti.ty) cs z.cells (by rw [c];exact nl _ _ _ _) (by
  have:=congrArg List.length c
  simpa [dH] using this) k
 obtain ⟨d,hu,A⟩:=b.desc
 have K: ∃fs,d= .struct fs:=by
  cases l:ti.offs with
  | nil=>simp [l]at F
  | cons p r=>
    obtain ⟨fs,_,s,_⟩:=b.offsStruct p.1 p.2 0 (by rw [l];rfl)
    rw [hu]at s;cases s;exact ⟨fs,rfl⟩
 obtain ⟨fs,rfl⟩:=K
 obtain ⟨_,D⟩:=A
 have y:P.built t (ps.map fun p=>(p.1,a.eval p.2)).toList=some res:=by
  unfold Program.built
  simp only [C,hu,M,D]
  simpa using h1
 have J:=run_build (P:=P) w t _ res y
 refine dZ (v:= .agg res) (w':=w) ?_ (E _ _ (R.put ⟨hd,m,H,he⟩ _ fun m' u B=> ?_))
 ·simp only [execOp,G];rw [Sem.run_bind,J];rfl
 ·obtain ⟨N,g,x⟩:=yj u B q ps.toList (eS ti.ty) cs z.cells (by rw [c];exact nl _ _ _ _) (by
   have:=congrArg List.length c
   simpa [dH] using this) k
  rw [h1]at g
  cases g
  exact ⟨res,rfl,x⟩
theorem UY (hT:bm P tt) {t:Nat} {x y:Operand} (j:o.op= .store t x y) (g:o.dst=none) {p:Prop} {C:St} (hs:lD tt t (st.ev x) (st.ev y) st=some (p,C)) (k:p) (l:R w0 mine st a w)
 (h: ∀s w',R w0 mine C s w'->next s w'):o.wp P a w next Q:=by
 unfold lD at hs
 split at hs
 ·simp at hs
 rename_i ti m
 split at hs
 ·rename_i id i f ex
  dsimp only at hs
  split at hs
  ·rename_i F b
   cases hs
   obtain ⟨h1,h2,E⟩:=k
   exact UK hT m j g ex b h1 h2 E l h
  ·rename_i e te xs dp n b
   split at hs
   ·rename_i r
    split at hs
    ·rename_i c D
     split at hs
     ·rename_i v q
      cases hs
      exact UL hT m j g ex b D r.1 q k l h
     ·simp at hs
    ·simp at hs
   ·split at hs
    ·rename_i r
     obtain ⟨rfl,B,A,z,u⟩:=r
     split at hs
     ·rename_i v q
      cases d:(dp&&bR st.heap (st.ev y).cells)with
      | true=>
        simp only [d,cond_true]at hs
        cases hs
        exact I6 hT m j g ex b B A z u q k l (by simpa [d] using h)
      | false=>
        simp only [d,cond_false]at hs
        cases hs
        exact I6 hT m j g ex b B A z u q k l (by simpa [d] using h)
     ·simp at hs
    ·simp at hs
  ·simp at hs
 ·simp at hs
theorem I7 (hT:bm P tt) {p:Prop} {E:St} (hs:bz tt o st=some (p,E)) (q:p) (h:R w0 mine st a w) (g: ∀D w',R w0 mine E D w'->next D w'):o.wp P a w next Q:=by
 unfold bz at hs
 split at hs
 ·rename_i x d;cases hs;exact IG (.inl d) h g
 ·rename_i x d;cases hs;exact IG (.inr d) h g
 ·rename_i c x y d
  split at hs
  ·rename_i b z
   split at hs
   ·rename_i F G ex H
    cases hs
    refine IH d z h (.one (.bool (bif b then F else G))) (fun m O S h1 h2=> ?_) g
    rw [ex]at h1;rw [H]at h2
    cases b
    ·exact h2
    ·exact h1
   ·cases hs
    refine IH d z h _ (fun m O S h1 h2=> ?_) g
    cases b
    ·exact h2
    ·exact h1
  ·simp at hs
 ·rename_i t d
  split at hs
  ·rename_i ti r;cases hs;exact Us hT d r h g
  ·simp at hs
 ·rename_i t x d
  split at hs
  ·rename_i ti r
   cases hs
   exact Ut d h q.2 (by rw [q.1];exact ti.ty.sz_pos) g
  ·simp at hs
 ·rename_i t ps d
  split at hs
  ·rename_i ti r
   split at hs
   ·simp at hs
   ·rename_i L
    split at hs
    ·rename_i cs J;cases hs;exact UX hT r d L J h g
    ·simp at hs
  ·simp at hs
 ·rename_i t x d;exact Uv hT d hs q h g
 ·rename_i t x y d
  split at hs
  ·rename_i hd;exact UY hT d hd hs q h g
  ·simp at hs
 ·rename_i t x f d;exact Uw hT d hs h g
 ·rename_i t x y d;exact Ux hT d hs q h g
 ·rename_i op t x y ty d;exact UB hT d hs q h g
 ·rename_i op t x d;exact UC d hs h g
 ·rename_i x i d
  split at hs
  ·rename_i vs ex
   split at hs
   ·rename_i v M;cases hs;exact UD d ex M h g
   ·simp at hs
  ·simp at hs
 ·rename_i x d
  split at hs
  ·rename_i id i f ex
   split at hs
   ·simp at hs
   ·rename_i I;cases hs;exact UE d ex I h g
  ·simp at hs
 ·rename_i t l c d
  split at hs
  ·rename_i ti k n V T r el z
   split at hs
   ·rename_i e te A C
    cases hs
    exact UM hT r d A C el z q.1 q.2.1 q.2.2 h g
   ·simp at hs
  ·simp at hs
 ·rename_i t n ps d
  split at hs
  ·rename_i ti r
   split at hs
   ·rename_i e te A C
    dsimp only at hs
    split at hs
    ·rename_i j
     split at hs
     ·rename_i xs N
      cases hs
      exact UR hT r d A C j.1 j.2.1 j.2.2.1 j.2.2.2 N h g
     ·simp at hs
    ·simp at hs
   ·simp at hs
  ·simp at hs
 ·rename_i t x y d;exact UH hT d hs q h g
 ·rename_i c d
  split at hs
  ·rename_i j
   split at hs
   ·rename_i x t u B
    split at hs
    ·rename_i ti r
     split at hs
     ·rename_i n K
      cases hs
      exact UF hT d j (by rw [<-Array.toList_inj,u]) (by rw [<-Array.toList_inj,B]) r K h g
     ·simp at hs
    ·simp at hs
   ·simp at hs
  ·rename_i j
   split at hs
   ·rename_i x y t t' u B
    split at hs
    ·rename_i e
     subst e
     exact UW hT d j (by rw [<-Array.toList_inj,u]) (by rw [<-Array.toList_inj,B]) hs q h g
    ·simp at hs
   ·simp at hs
  ·rename_i j
   split at hs
   ·rename_i x y u
    exact IN (mx:=true) d j (by rw [<-Array.toList_inj,u]) hs h g
   ·simp at hs
  ·rename_i j
   split at hs
   ·rename_i x y u
    exact IN (mx:=false) d j (by rw [<-Array.toList_inj,u]) hs h g
   ·simp at hs
  ·simp at hs
 ·rename_i s t x d;exact UG hT d hs h g
 ·rename_i t x lo U d;exact IQ hT d hs q h g
 ·simp at hs
end
end Go.T
namespace Go.T
open Go
def St.res (st:St) (d:Option Tmp) (l:LV) (h:List Blk):St:={(st.put d l)with heap:=h}
theorem St.res_self (st:St) (d:Option Tmp) (l:LV):st.res d l st.heap=st.put d l:=by
 cases d<;>rfl
def eU (f:St->Res) (rd:Option Nat) (d:Option Tmp):Prop:= ∀st p s,f st=some (p,s)-> ∃l,s=st.put d l/\ ∀st2:St,(∀id,rd=some id->st2.heap[id]?=st.heap[id]?)->f st2=some (p,st2.put d l)
def gU (f:St->Res) (d:Option Tmp):Prop:= ∀st p s,f st=some (p,s)-> ∃l h,s=st.res d l h/\ ∀st2:St,st2.heap=st.heap->f st2=some (p,st2.res d l h)
theorem eU.does {f:St->Res} {rd:Option Nat} {d:Option Tmp} (h:eU f rd d):gU f d:=fun st p s hs=>by
 obtain ⟨l,h1,h2⟩:=h st p s hs
 refine ⟨l,st.heap,by rw [h1,St.res_self],fun st2 he=> ?_⟩
 rw [<-he,St.res_self]
 exact h2 st2 fun id _=>by rw [he]
theorem eU.const {d:Option Tmp} (p:Prop) (l:LV):eU (fun st=>some (p,st.put d l)) none d:=fun st p s hs=>by
 cases hs;exact ⟨l,rfl,fun _ _=>rfl⟩
theorem eU.none (rd:Option Nat) (d:Option Tmp):eU (fun _=>none) rd d:=fun st p s hs=>by simp at hs
def LV.rd:LV->Option Nat
 | .one (.ptr id _ _)=>some id
 | .one (.own id)=>some id
 | _=>none
theorem UZ (tt:TT) (op:BinOp) (t:Nat) (x y:LV) (d:Option Tmp):eU (lA tt op t x y d) none d:=by
 intro st p s hs
 unfold lA at hs ⊢
 split at hs
 ·split at hs
  ·rename_i hk
   subst hk
   simp only [if_true]
   split at hs
   ·cases hs;exact ⟨_,rfl,fun _ _=>rfl⟩
   ·cases hs;exact ⟨_,rfl,fun _ _=>rfl⟩
   ·rename_i op h1 h2
    split at hs
    ·rename_i c a
     cases hs
     refine ⟨_,rfl,fun st2 _=> ?_⟩
     first | rfl | (rw [a];rfl)
    ·simp at hs
  ·simp at hs
 ·split at hs
  ·cases hs;exact ⟨_,rfl,fun _ _=>rfl⟩
  ·split at hs
   ·rename_i c a;cases hs;exact ⟨_,rfl,fun st2 _=>by first | rfl | (rw [a];rfl)⟩
   ·simp at hs
 ·split at hs
  ·rename_i ti b
   split at hs
   ·rename_i a
    split at hs
    ·cases hs;exact ⟨_,rfl,fun st2 _=>by first | rfl | (rw [if_pos a];rfl) | (simp only [b];rw [if_pos a];rfl)⟩
    ·cases hs;exact ⟨_,rfl,fun st2 _=>by first | rfl | (rw [if_pos a];rfl) | (simp only [b];rw [if_pos a];rfl)⟩
    ·simp at hs
   ·simp at hs
  ·simp at hs
 ·split at hs
  ·rename_i ti b
   split at hs
   ·rename_i a
    split at hs
    ·rename_i e he
     split at hs
     ·cases hs;exact ⟨_,rfl,fun st2 _=>by first | rfl | (rw [if_pos a];rfl) | (rw [if_pos a,he];rfl) | (simp only [b];rw [if_pos a,he];rfl)⟩
     ·cases hs;exact ⟨_,rfl,fun st2 _=>by first | rfl | (rw [if_pos a];rfl) | (rw [if_pos a,he];rfl) | (simp only [b];rw [if_pos a,he];rfl)⟩
     ·simp at hs
    ·simp at hs
   ·simp at hs
  ·simp at hs
 ·simp at hs
theorem U0 (op:UnOp) (x:LV) (d:Option Tmp):eU (lB op x d) none d:=by
 intro st p s hs
 unfold lB at hs ⊢
 split at hs
 ·cases hs;exact ⟨_,rfl,fun _ _=>rfl⟩
 ·cases hs;exact ⟨_,rfl,fun _ _=>rfl⟩
 ·simp at hs
theorem U1 (tt:TT) (t:Nat) (x:LV) (d:Option Tmp):eU (lC tt t x d) x.rd d:=by
 intro st p s hs
 unfold lC at hs ⊢
 split at hs
 ·simp at hs
 ·rename_i ti b
  split at hs
  ·rename_i id i f
   split at hs
   ·rename_i cs a
    cases hs
    refine ⟨_,rfl,fun st2 h2=> ?_⟩
    have:=h2 id rfl
    simp only [b,this,a]
   ·rename_i e t xs dp mt n a
    cases hs
    refine ⟨_,rfl,fun st2 h2=> ?_⟩
    have:=h2 id rfl
    simp only [b,this,a]
   ·simp at hs
  ·cases hs
   exact ⟨_,rfl,fun st2 h2=>by simp only [b]⟩
  ·simp at hs
theorem U2 (tt:TT) (t f:Nat) (x:LV) (d:Option Tmp):eU (lE tt t f x d) x.rd d:=by
 intro st p s hs
 unfold lE at hs ⊢
 split at hs
 ·simp at hs
 ·rename_i ti b
  split at hs
  ·rename_i id i g o a
   split at hs
   ·simp at hs
   ·rename_i c
    cases hs
    refine ⟨_,rfl,fun st2 h2=> ?_⟩
    have:=h2 id rfl
    first
     | rfl
     | (simp only [b,a,this]
        first
            | rfl
            | (split
               ·rename_i h';exact absurd h' c
               ·rfl))
  ·rename_i t' v g n o a
   cases hs
   exact ⟨_,rfl,fun st2 h2=>by first | rfl | (simp only [b,a];rfl)⟩
  ·simp at hs
theorem U3 (tt:TT) (t:Nat) (x y:LV) (d:Option Tmp):eU (lF tt t x y d) x.rd d:=by
 intro st p s hs
 unfold lF at hs ⊢
 split at hs
 ·simp at hs
 ·rename_i ti b
  split at hs
  ·split at hs
   ·rename_i a
    cases hs
    exact ⟨_,rfl,fun st2 h2=>by first | rfl | (rw [if_pos a]) | (simp only [b];rw [if_pos a])⟩
   ·simp at hs
  ·rename_i id k i
   split at hs
   ·rename_i e t' xs dp mt n c
    split at hs
    ·rename_i a
     cases hs
     refine ⟨_,rfl,fun st2 h2=> ?_⟩
     have:=h2 id rfl
     simp only [b,this,c]
     rw [if_pos a]
    ·simp at hs
   ·simp at hs
  ·simp at hs
theorem U4 (tt:TT) (t:Nat) (x y:LV) (d:Option Tmp):eU (lH tt t x y d) none d:=by
 intro st p s hs
 unfold lH at hs ⊢
 split at hs
 ·simp at hs
 ·rename_i ti b
  split at hs
  ·split at hs
   ·rename_i a
    cases hs
    exact ⟨_,rfl,fun st2 h2=>by first | rfl | (rw [if_pos a]) | (simp only [b];rw [if_pos a])⟩
   ·simp at hs
  ·simp at hs
theorem U5 (ti:TI) (x:LV) {h h2:List Blk} (he: ∀id,x.rd=some id->h2[id]?=h[id]?):lenOf ti h2 x=lenOf ti h x:=by
 unfold lenOf
 split<;>try rfl
 rename_i id
 rw [he id rfl]
theorem U6 (tt:TT) (t:Nat) (x y:LV) (d:Option Tmp):gU (jE tt t x y d) d:=by
 intro st p s hs
 unfold jE at hs ⊢
 split at hs
 ·simp at hs
 ·rename_i ti f
  split at hs
  ·rename_i e te a g
   split at hs
   ·rename_i xs d1 i1 hd
    split at hs
    ·rename_i ys d2 i2 c
     split at hs
     ·rename_i b
      cases hs
      refine ⟨_,_,rfl,fun st2 h2=> ?_⟩
      simp only [f,a,g,h2,hd,c]
      rw [if_pos b]
      rfl
     ·simp at hs
    ·simp at hs
   ·simp at hs
  ·simp at hs
theorem U7 (tt:TT) (t:Nat) (x y:LV):gU (lD tt t x y) none:=by
 intro st p s hs
 unfold lD at hs ⊢
 split at hs
 ·simp at hs
 ·rename_i ti g
  split at hs
  ·rename_i id i f
   dsimp only at hs ⊢
   split at hs
   ·rename_i l a
    cases hs
    exact ⟨.tup [],_,rfl,fun st2 h2=>by simp only [g,h2,a];rfl⟩
   ·rename_i e te xs dp n a
    split at hs
    ·rename_i b
     split at hs
     ·rename_i c k
      split at hs
      ·rename_i v h
       cases hs
       exact ⟨.tup [],_,rfl,fun st2 h2=>by simp only [g,h2,a,k];rw [if_pos b,h];rfl⟩
      ·simp at hs
     ·simp at hs
    ·rename_i j
     split at hs
     ·rename_i b
      split at hs
      ·rename_i v h
       refine ⟨.tup [],s.heap,?_,fun st2 h2=> ?_⟩
       ·cases d:(dp&&bR st.heap y.cells)<;>simp only [d,cond_true,cond_false]at hs<;>cases hs<;>rfl
       ·simp only [g,h2,a]
        rw [if_neg j,if_pos b,h]
        cases d:(dp&&bR st.heap y.cells)<;>simp only [d,cond_true,cond_false]at hs ⊢ <;>cases hs<;>rfl
      ·simp at hs
     ·simp at hs
   ·simp at hs
  ·simp at hs
end Go.T
namespace Go.T
open Go
def bC:(t:Ty)->Val t->Val (hd t)->Val (hd t)
 | .int _,v,_=>v
 | .bool,v,_=>v
 | .str,v,_=>v
 | .hdr,v,_=>v
 | .slice _ _,_,h=>h
 | .pair a b,v,h=>(bC a v.1 h.1,bC b v.2 h.2)
def qZ (t:Ty) (vs:List (Val t)) (hs:List (Val (hd t))):List (Val (hd t)):=List.zipWith (bC t) vs hs
def eV (t:Ty) (hs:List (Val (hd t))) (vs:List (Val t)):Prop:=hs.length=vs.length/\qZ t vs hs=hs/\ ∀i j:Nat,i<hs.length->hs[i]?=hs[j]?->vs[i]?=vs[j]?
open Classical in
noncomputable def lk (t:Ty) (hs:List (Val (hd t))) (vs:List (Val t)) (h:Val (hd t)):Val t:=vs.getD (hs.findIdx fun x=>decide (x=h)) (qa t)
theorem ey: ∀t:Ty,(hd t).sz=t.sz
 | .int _ | .bool | .str | .hdr | .slice _ _=>rfl
 | .pair a b=>by simp [hd,Ty.sz,ey a,ey b]
theorem jM {w:World}: ∀{t:Ty} {v:Val (hd t)} {cs:List Value} {B:List Nat},M w (hd t) v cs B->B=[]
 | .int _,_,_,_,h=>h.2
 | .bool,_,_,_,h=>h.2
 | .str,_,_,_,h=>h.2
 | .hdr,_,_,_,h=>h.2
 | .slice _ _,_,_,_,h=>h.2
 | .pair a b,_,_,_,h=>by
   obtain ⟨c1,c2,c,d,rfl,rfl,h1,h2⟩:=h
   rw [jM h1,jM h2];rfl
theorem nw {w:World} {t:Ty}: ∀{vs:List (Val (hd t))} {cs:List Value} {B:List Nat},Ms (M w (hd t)) vs cs B->B=[]
 | [],_,_,h=>h.2
 | v::vs,_,_,h=>by
   obtain ⟨c1,c2,a,b,rfl,rfl,h1,h2⟩:=h
   rw [jM h1,nw h2];rfl
theorem flatten {w:World}: ∀{t:Ty} {v:Val t} {cs:List Value} {B:List Nat},M w t v cs B-> ∃h:Val (hd t),M w (hd t) h cs []/\Nst w t v h B/\bC t v h=h
 | .int _,v,_,_,h=>⟨v,⟨h.1,rfl⟩,h.2,rfl⟩
 | .bool,v,_,_,h=>⟨v,⟨h.1,rfl⟩,h.2,rfl⟩
 | .str,v,_,_,h=>⟨v,⟨h.1,rfl⟩,h.2,rfl⟩
 | .hdr,v,_,_,h=>⟨v,⟨h.1,rfl⟩,h.2,rfl⟩
 | .slice e t,v,cs,B,h=>by
   have c:=h
   obtain ⟨u,inner,n,rfl,rfl,o,hm⟩:=h
   have h1:u.oneCell'=true:=IC c u (by simp)
   exact ⟨u,⟨⟨rfl,h1⟩,rfl⟩,c,rfl⟩
 | .pair a b,v,_,_,h=>by
   obtain ⟨c1,c2,d,f,rfl,rfl,h1,h2⟩:=h
   obtain ⟨l,m1,j,g⟩:=flatten h1
   obtain ⟨m,m2,k,i⟩:=flatten h2
   exact ⟨(l,m),⟨c1,c2,[],[],rfl,rfl,m1,m2⟩,⟨d,f,rfl,j,k⟩,by simp only [bC];rw [g,i]⟩
theorem ry {w:World}: ∀{t:Ty} {v:Val t} {h:Val (hd t)} {cs:List Value} {B:List Nat},M w (hd t) (bC t v h) cs []->Nst w t v h B->M w t v cs B
 | .int _,_,_,_,_,h,c=>⟨h.1,c⟩
 | .bool,_,_,_,_,h,c=>⟨h.1,c⟩
 | .str,_,_,_,_,h,c=>⟨h.1,c⟩
 | .hdr,_,_,_,_,h,c=>⟨h.1,c⟩
 | .slice e t,v,u,cs,B,h,c=>by
   obtain ⟨⟨rfl,_⟩,_⟩:=h
   exact c
 | .pair a b,v,u,_,_,h,c=>by
   obtain ⟨c1,c2,d,f,rfl,n,h1,h2⟩:=h
   obtain ⟨g,i,rfl,l,m⟩:=c
   have j:d=[]:=jM h1
   have k:f=[]:=jM h2
   subst j;subst k
   exact ⟨c1,c2,g,i,rfl,rfl,ry h1 l,ry h2 m⟩
theorem yk {w:World} {t:Ty}: ∀{vs:List (Val t)} {cs:List Value} {B:List Nat},Ms (M w t) vs cs B-> ∃hs:List (Val (hd t)),Ms (M w (hd t)) hs cs []/\b0 w t vs hs B/\qZ t vs hs=hs
 | [],_,_,h=>⟨[],⟨h.1,rfl⟩,h.2,rfl⟩
 | v::vs,_,_,h=>by
   obtain ⟨c1,c2,b,c,rfl,rfl,h1,h2⟩:=h
   obtain ⟨g,m1,e,d⟩:=flatten h1
   obtain ⟨i,m2,f,a⟩:=yk h2
   exact ⟨g::i,⟨c1,c2,[],[],rfl,rfl,m1,m2⟩,⟨b,c,rfl,e,f⟩,by simp only [qZ,List.zipWith]at a ⊢;rw [d,a]⟩
theorem I8 {w:World} {t:Ty}: ∀{vs:List (Val t)} {hs:List (Val (hd t))} {cs:List Value} {B:List Nat},Ms (M w (hd t)) (qZ t vs hs) cs []->b0 w t vs hs B->Ms (M w t) vs cs B
 | [],[],_,_,h,a=>⟨h.1,a⟩
 | [],_::_,_,_,_,a=>a.elim
 | _::_,[],_,_,_,a=>a.elim
 | v::vs,u::hs,_,_,h,a=>by
   obtain ⟨c1,c2,b,c,rfl,k,h1,h2⟩:=h
   obtain ⟨d,e,rfl,i,j⟩:=a
   have f:b=[]:=jM h1
   have g:c=[]:=nw h2
   subst f;subst g
   exact ⟨c1,c2,d,e,rfl,rfl,ry h1 i,I8 h2 j⟩
theorem ny {w:World} {t:Ty}: ∀{vs:List (Val t)} {hs:List (Val (hd t))} {B:List Nat},b0 w t vs hs B->vs.length=hs.length
 | [],[],_,_=>rfl
 | [],_::_,_,a=>a.elim
 | _::_,[],_,a=>a.elim
 | v::vs,h::hs,_,a=>by
   obtain ⟨_,_,_,_,h2⟩:=a
   simp [ny h2]
theorem U8 {w:World} {b i:Nat} {e e':TypeId} {sz:Nat} {v:Value} {n d:Nat} {xs f:List Value} (h:w.ownsRow b e sz v n xs) (h':w.ownsRow i e' sz v d f):n=d/\xs=f:=by
 rcases h.2 with ⟨rfl,rfl⟩ | ⟨g,cap,cur,rfl,_,m,_,_,_,o⟩
 ·rcases h'.2 with ⟨_,rfl⟩ | ⟨l,j,k,a,_⟩
  ·have h1:=h.1;have h2:=h'.1
   simp at h1 h2
   rw [h1,h2];exact ⟨rfl,rfl⟩
  ·simp at a
 ·rcases h'.2 with ⟨a,_⟩ | ⟨l,j,k,a,_,c,_,_,_,p⟩
  ·simp at a
  ·simp only [Value.slice.injEq,Option.some.injEq,Addr.mk.injEq,and_true]at a
   obtain ⟨rfl,rfl,rfl⟩:=a
   rw [m]at c
   simp only [Option.some.injEq,Obj.cells.injEq]at c
   obtain ⟨rfl,_⟩:=c
   exact ⟨rfl,o.symm.trans p⟩
theorem I9 {α:Type} {R:α->List Value->List Nat->Prop} {sz:Nat} (d: ∀x c b,R x c b->c.length=sz) (f: ∀x y c b e,R x c b->R y c e->x=y/\b=e):
 ∀{xs ys:List α} {cs:List Value} {B B':List Nat},xs.length=ys.length->Ms R xs cs B->Ms R ys cs B'->xs=ys/\B=B'
 | [],[],_,_,_,_,h,h'=>⟨rfl,by rw [h.2,h'.2]⟩
 | [],_::_,_,_,_,a,_,_=>by simp at a
 | _::_,[],_,_,_,a,_,_=>by simp at a
 | x::xs,y::ys,_,_,_,a,h,h'=>by
   obtain ⟨c1,c2,g,i,rfl,rfl,h1,h2⟩:=h
   obtain ⟨d1,d2,j,k,he,rfl,g1,g2⟩:=h'
   obtain ⟨rfl,rfl⟩:=List.append_inj he (by rw [d _ _ _ h1,d _ _ _ g1])
   obtain ⟨rfl,rfl⟩:=f _ _ _ _ _ h1 g1
   obtain ⟨rfl,rfl⟩:=I9 d f (by simpa using a) h2 g2
   exact ⟨rfl,rfl⟩
theorem rz {w:World}: ∀{t:Ty} {v d:Val t} {cs:List Value} {B B':List Nat},M w t v cs B->M w t d cs B'->v=d/\B=B'
 | .int _,_,_,_,_,_,h,h'=>by rw [M]at h h';obtain ⟨rfl,rfl⟩:=h;obtain ⟨e,rfl⟩:=h';simp at e;exact ⟨e,rfl⟩
 | .bool,_,_,_,_,_,h,h'=>by rw [M]at h h';obtain ⟨rfl,rfl⟩:=h;obtain ⟨e,rfl⟩:=h';simp at e;exact ⟨e,rfl⟩
 | .str,_,_,_,_,_,h,h'=>by rw [M]at h h';obtain ⟨rfl,rfl⟩:=h;obtain ⟨e,rfl⟩:=h';simp at e;exact ⟨e,rfl⟩
 | .hdr,_,_,_,_,_,h,h'=>by rw [M]at h h';obtain ⟨⟨rfl,_⟩,rfl⟩:=h;obtain ⟨⟨e,_⟩,rfl⟩:=h';simp at e;exact ⟨e,rfl⟩
 | .slice e t,_,_,_,_,_,h,h'=>by
   rw [M]at h h'
   obtain ⟨u,inner,o,rfl,rfl,j,hm⟩:=h
   obtain ⟨l,s,p,c,rfl,k,g⟩:=h'
   obtain rfl:u=l:=by simpa using c
   obtain ⟨i,rfl⟩:=U8 j k
   obtain ⟨rfl,rfl⟩:=I9 (sz:=t.sz) (fun _ _ _ h=>fR h) (fun _ _ _ _ _ h h'=>rz h h') i hm g
   exact ⟨rfl,rfl⟩
 | .pair a b,_,_,_,_,_,h,h'=>by
   obtain ⟨c1,c2,m,n,rfl,rfl,h1,h2⟩:=h
   obtain ⟨d1,d2,q,r,he,rfl,g1,g2⟩:=h'
   obtain ⟨rfl,rfl⟩:=List.append_inj he (by rw [fR h1,fR g1])
   obtain ⟨c,rfl⟩:=rz h1 g1
   obtain ⟨f,rfl⟩:=rz h2 g2
   exact ⟨Prod.ext c f,rfl⟩
theorem yl {w:World}: ∀{t:Ty} {v c:Val t} {h:Val (hd t)} {B B':List Nat},Nst w t v h B->Nst w t c h B'->bC t v h=h->bC t c h=h->v=c
 | .int _,_,_,_,_,_,_,_,e,e' | .bool,_,_,_,_,_,_,_,e,e' | .str,_,_,_,_,_,_,_,e,e' | .hdr,_,_,_,_,_,_,_,e,e'=>by
   simp only [bC]at e e';exact e.trans e'.symm
 | .slice _ _,_,_,_,_,_,h,h',_,_=>(rz h h').1
 | .pair a b,v,c,u,_,_,h,h',e,e'=>by
   obtain ⟨_,_,_,h1,h2⟩:=h
   obtain ⟨_,_,_,g1,g2⟩:=h'
   have d:(bC a v.1 u.1,bC b v.2 u.2)=u:=e
   have f:(bC a c.1 u.1,bC b c.2 u.2)=u:=e'
   exact Prod.ext (yl h1 g1 (congrArg Prod.fst d) (congrArg Prod.fst f)) (yl h2 g2 (congrArg Prod.snd d) (congrArg Prod.snd f))
theorem rA {w:World} {t:Ty}: ∀{vs:List (Val t)} {hs:List (Val (hd t))} {B:List Nat},b0 w t vs hs B-> ∃a:List (List Nat),B=a.flatten/\a.length=vs.length/\ ∀i v u,vs[i]?=some v->hs[i]?=some u->Nst w t v u (a.getD i [])
 | [],[],_,h=>⟨[],by rw [show _=_ from h];rfl,rfl,fun i v u b=>by simp at b⟩
 | [],_::_,_,h=>h.elim
 | _::_,[],_,h=>h.elim
 | v::vs,u::hs,_,h=>by
   obtain ⟨c,j,rfl,h1,h2⟩:=h
   obtain ⟨a,rfl,d,e⟩:=rA h2
   refine ⟨c::a,by simp,by simp [d],fun i g f b hu=> ?_⟩
   cases i with
   | zero=>simp at b hu;subst b;subst hu;simpa using h1
   | succ i=>simpa using e i g f (by simpa using b) (by simpa using hu)
theorem lP {t:Ty} {vs:List (Val t)} {hs:List (Val (hd t))} (h:qZ t vs hs=hs) {i:Nat} {v:Val t} {u:Val (hd t)} (a:vs[i]?=some v) (hu:hs[i]?=some u):bC t v u=u:=by
 have:=congrArg (fun l=>l[i]?) h
 simp only [qZ,List.getElem?_zipWith,a,hu,Option.some.injEq]at this
 exact this
theorem Ja {w:World} {t:Ty} {vs:List (Val t)} {hs:List (Val (hd t))} {B:List Nat} (c:b0 w t vs hs B) (hm:qZ t vs hs=hs):eV t hs vs:=by
 have g:=ny c
 refine ⟨g.symm,hm,fun i j f e=> ?_⟩
 obtain ⟨h,_,_,d⟩:=rA c
 have h1:hs[i]?=some hs[i]:=List.getElem?_eq_getElem f
 have h2:=e▸h1
 have k:j<hs.length:=(List.getElem?_eq_some_iff.1 h2).1
 have a:vs[i]?=some vs[i]:=List.getElem?_eq_getElem (by omega)
 have b:vs[j]?=some vs[j]:=List.getElem?_eq_getElem (by omega)
 rw [a,b,yl (d i _ _ a h1) (d j _ _ b h2) (lP hm a h1) (lP hm b h2)]
def gV:(t:Ty)->Nat->Val (hd t)
 | .int _,_=>(0:Int)
 | .bool,_=>false
 | .str,_=>ByteArray.empty
 | .hdr,_=>Value.slice none 0 0
 | .slice _ _,k=>Value.int .i64 k
 | .pair a b,k=>(gV a k,gV b k)
theorem ym: ∀(t:Ty) (v:Val t) (u:Val (hd t)),bC t v (bC t v u)=bC t v u
 | .int _,_,_ | .bool,_,_ | .str,_,_ | .hdr,_,_ | .slice _ _,_,_=>rfl
 | .pair a b,v,u=>by simp only [bC];rw [ym a,ym b]
theorem yn: ∀(t:Ty) (x y:Val t) (i j:Nat),bC t x (gV t i)=bC t y (gV t j)->x=y∨i=j
 | .int _,_,_,_,_,e | .bool,_,_,_,_,e | .str,_,_,_,_,e | .hdr,_,_,_,_,e=> .inl e
 | .slice _ _,_,_,i,j,e=>by
   have e:Value.int .i64 i=Value.int .i64 j:=e
   simp at e;exact .inr (by omega)
 | .pair a b,x,y,i,j,e=>by
   have e:(bC a x.1 (gV a i),bC b x.2 (gV b i))=(bC a y.1 (gV a j),bC b y.2 (gV b j)):=e
   rcases yn a _ _ _ _ (congrArg Prod.fst e)with h1 | h1
   ·rcases yn b _ _ _ _ (congrArg Prod.snd e)with h2 | h2
    ·exact .inl (Prod.ext h1 h2)
    ·exact .inr h2
   ·exact .inr h1
theorem Jb (t:Ty) (vs:List (Val t)): ∃hs,eV t hs vs:=by
 refine ⟨vs.zipIdx.map fun p=>bC t p.1 (gV t p.2),by simp,?_,fun i j a e=> ?_⟩
 ·apply List.ext_getElem?
  intro i
  simp only [qZ,List.getElem?_zipWith,List.getElem?_map,List.getElem?_zipIdx]
  cases vs[i]? with
  | none=>rfl
  | some v=>simp [ym]
 ·simp only [List.getElem?_map,List.getElem?_zipIdx]at e
  have a:i<vs.length:=by simpa using a
  rw [List.getElem?_eq_getElem a]at e ⊢
  cases b:vs[j]? with
  | none=>rw [b]at e;simp at e
  | some v=>
    rw [b]at e
    simp only [Option.map_some,Option.some.injEq,Nat.zero_add]at e
    rcases yn t _ _ _ _ e with h | h
    ·rw [h]
    ·subst h;rw [<-b,List.getElem?_eq_getElem a]
theorem Jc {t:Ty} {vs:List (Val t)} {hs:List (Val (hd t))} (g:eV t hs vs) {i:Nat} {u:Val (hd t)} {v:Val t} (hu:hs[i]?=some u) (b:vs[i]?=some v):lk t hs vs u=v:=by
 unfold lk
 have hk:=List.findIdx_lt_length_of_exists (p:=fun x=> @decide (x=u) (Classical.propDecidable _)) (xs:=hs) ⟨u,List.mem_of_getElem? hu,by simp⟩
 have a:=List.findIdx_getElem (w:=hk)
 simp only [decide_eq_true_eq]at a
 have:=g.2.2 _ i hk (by rw [List.getElem?_eq_getElem hk,a,hu])
 rw [b]at this
 rw [List.getD,this]
 rfl
theorem U9 {t:Ty} {vs:List (Val t)} {hs:List (Val (hd t))} (g:eV t hs vs) {i:Nat} (a:i<vs.length):lk t hs vs (hs.getD i (qa (hd t)))=vs.getD i (qa t):=by
 have h1:i<hs.length:=by rw [g.1];exact a
 refine Jc g (i:=i) ?_ ?_<;>simp [List.getD,h1,a]
noncomputable def fU (e:Nat) (t':Ty) (xs:List (Val t')) (t:Ty) (hs:List (Val (hd t))) (vs:List (Val t)):Prop×LC:=
 if a:t'=hd t then (∀y∈(a▸xs:List (Val (hd t))),y∈hs,.sl e t ((a▸xs:List (Val (hd t))).map (lk t hs vs)) 0)else (True,.sl e t' xs 0)
noncomputable def fu (h:List Blk) (t:Ty) (hs:List (Val (hd t))) (vs:List (Val t)):LC->Option (Prop×LC)
 | .own id=>match h[id]? with
   | some (.row e t' xs _ _ _)=>some (fU e t' xs t hs vs)
   | _=>none
 | .sl e t' xs _=>some (fU e t' xs t hs vs)
 | .int k n=>some (True,.int k n)
 | .bool b=>some (True,.bool b)
 | .str s=>some (True,.str s)
 | .nils=>some (True,.nils)
 | _=>none
noncomputable def lQ (h:List Blk) (t:Ty) (hs:List (Val (hd t))) (vs:List (Val t)):List LC->Option (Prop×List LC)
 | []=>some (True,[])
 | c::r=>match fu h t hs vs c,lQ h t hs vs r with
   | some (p,a),some (q,b)=>some (p/\q,a::b)
   | _,_=>none
def yo:List LC->Bool
 | []=>false
 | .hdr _::_=>true
 | _::r=>yo r
noncomputable def lR (h:List Blk) (t:Ty) (hs:List (Val (hd t))) (vs:List (Val t)):LV->Option (Prop×LV)
 | .one c=>match fu h t hs vs c with
   | some (p,a)=>some (p,.one a)
   | none=>none
 | .agg cs=>match yo cs with
   | true=>match qL h (hd t) cs with
     | some (u,[])=>some (u∈hs,.agg (eu 0 t (lk t hs vs u)))
     | _=>none
   | false=>match lQ h t hs vs cs with
     | some (p,cs')=>some (p,.agg cs')
     | none=>none
 | .tup _=>none
noncomputable def lS (h:List Blk) (t:Ty) (hs:List (Val (hd t))) (vs:List (Val t)):List LV->Option (Prop×List LV)
 | []=>some (True,[])
 | l::r=>match lR h t hs vs l,lS h t hs vs r with
   | some (p,l'),some (q,a)=>some (p/\q,l'::a)
   | _,_=>none
theorem rB {w:World} {ok:Nat->Prop}: ∀{t:Ty} {v:Val t} {u:Val (hd t)} {cs:List Value} {B:List Nat},K w ok (hd t) u cs->Nst w t v u B->bC t v u=u->K w (fun _=>True) t v cs
 | .int _,_,_,_,_,h,_,e=>by have h:K w ok (.int _) _ _:=h;rw [K]at h ⊢;simp only [bC]at e;rw [h,e]
 | .bool,_,_,_,_,h,_,e=>by have h:K w ok .bool _ _:=h;rw [K]at h ⊢;simp only [bC]at e;rw [h,e]
 | .str,_,_,_,_,h,_,e=>by have h:K w ok .str _ _:=h;rw [K]at h ⊢;simp only [bC]at e;rw [h,e]
 | .hdr,_,_,_,_,h,_,e=>by have h:K w ok .hdr _ _:=h;rw [K]at h ⊢;simp only [bC]at e;rw [e];exact h
 | .slice e t,v,u,cs,B,h,c,_=>by
   have h:K w ok .hdr u cs:=h
   rw [K]at h
   rw [h.1]
   exact M_K c fun _ _=>trivial
 | .pair a b,v,u,cs,B,h,c,e=>by
   obtain ⟨c1,c2,rfl,h1,h2⟩:=h
   obtain ⟨g,i,rfl,d,f⟩:=c
   have e:(bC a v.1 u.1,bC b v.2 u.2)=u:=e
   exact ⟨c1,c2,rfl,rB h1 d (congrArg Prod.fst e),rB h2 f (congrArg Prod.snd e)⟩
theorem Rd.map {α β:Type} {w:World} {ok:Nat->Prop} {sz:Nat} {R:β->List Value->Prop} {A:Option Addr} {xs:List α} {f:α->β} (h:Rd w ok sz (fun x c=>R (f x) c) A xs):Rd w ok sz R A (xs.map f):=by
 intro i y a
 rw [List.getElem?_map]at a
 cases b:xs[i]? with
 | none=>rw [b]at a;simp at a
 | some x=>
   rw [b]at a
   simp only [Option.map_some,Option.some.injEq]at a
   subst a
   exact h i x b
section
variable {w : World} {m : Mp} {h : List Blk}
def mT:Mp:=⟨fun _=>undef,fun _=>0,fun _=>[],fun _=>True⟩
theorem okT (n b:Nat):qM mT [] n b:=⟨trivial,fun id x a=>by simp at a⟩
theorem Jd {t:Ty} {hs:List (Val (hd t))} {vs:List (Val t)} {F:List Nat} (b:b0 w t vs hs F) (hm:qZ t vs hs=hs) {u:Val (hd t)} (hu:u∈hs): ∃B,Nst w t (lk t hs vs u) u B/\bC t (lk t hs vs u) u=u:=by
 obtain ⟨i,a⟩:=List.getElem?_of_mem hu
 have d:=ny b
 have e:i<vs.length:=by rw [d];exact (List.getElem?_eq_some_iff.1 a).1
 have c:vs[i]?=some vs[i]:=List.getElem?_eq_getElem e
 obtain ⟨g,_,_,f⟩:=rA b
 rw [Jc (Ja b hm) a c]
 exact ⟨_,f i _ _ c a,lP hm c a⟩
theorem Je {t:Ty} {hs:List (Val (hd t))} {vs:List (Val t)} {F:List Nat} (m:b0 w t vs hs F) (hm:qZ t vs hs=hs) {e:Nat} {t':Ty} {xs:List (Val t')} {A:Option Addr} {c:Nat} (g:xs.length<=c) (h:Rd w (fun _=>True) t'.sz (K w (fun _=>True) t') A xs) (d:(fU e t' xs t hs vs).1):
 C w mT [] (fU e t' xs t hs vs).2 (.slice A xs.length c):=by
 unfold fU at d ⊢
 split
 ·rename_i n
  subst n
  simp only [dif_pos]at d
  have d: ∀y∈xs,y∈hs:=d
  refine ⟨A,c,by simp,by simpa using g,?_⟩
  refine Rd.map fun i x j=> ?_
  obtain ⟨a,cs,k,_,l,f⟩:=h i x j
  obtain ⟨B,o,he⟩:=Jd m hm (d x (List.mem_of_getElem? j))
  rw [ey]at f
  refine ⟨a,cs,k,okT _ _,?_,f⟩
  exact cv (fun _ _ _=>rfl) (fun b _ _=>okT _ b) (rB l o he)
 ·refine ⟨A,c,rfl,g,?_⟩
  exact lL (fun _ _ _=>rfl) (fun b _ _=>okT _ b) h
theorem Jf {t:Ty} {hs:List (Val (hd t))} {vs:List (Val t)} {F:List Nat} (H: ∀id x,h[id]?=some x->BR w m h id x) (l:b0 w t vs hs F) (hm:qZ t vs hs=hs) {c:LC} {v:Value} {p:Prop} {d:LC} (a:C w m h c v) (he:fu h t hs vs c=some (p,d)) (q:p):C w mT [] d v:=by
 cases c with
 | own id=>
   simp only [fu]at he
   split at he
   ·rename_i e t' xs dp mt n f
    simp only [Option.some.injEq]at he
    have i:(fU e t' xs t hs vs).1:=by rw [he];exact q
    simp only [C,f]at a
    subst a
    obtain ⟨inner,y,o⟩:=H id _ f
    have hk:Ks (K w (fun _=>True) t') xs inner:=by
       cases dp with
       | true=>exact o.1.toKs fun x c b _ u=>M_K u fun _ _=>trivial
       | false=>exact o.imp fun x c hk=>cv (fun _ _ _=>rfl) (fun _ _ _=>trivial) hk
    obtain ⟨A,r,z,g,j⟩:=p2 (ok:=fun _=>True) y (fun x c f=>cE f) hk fun _ _=>trivial
    have:=Je l hm g j i
    rw [z,show d=(fU e t' xs t hs vs).2 by rw [he]]
    exact this
   ·simp at he
 | sl e t' xs n=>
   simp only [fu,Option.some.injEq]at he
   have i:(fU e t' xs t hs vs).1:=by rw [he];exact q
   obtain ⟨A,r,rfl,g,j⟩:=a
   have:=Je l hm g (lL (ok':=fun _=>True) (fun _ _ _=>rfl) (fun _ _ _=>trivial) j) i
   rw [show d=(fU e t' xs t hs vs).2 by rw [he]]
   exact this
 | int k n=>simp only [fu,Option.some.injEq,Prod.mk.injEq]at he;rw [<-he.2];exact a
 | bool b=>simp only [fu,Option.some.injEq,Prod.mk.injEq]at he;rw [<-he.2];exact a
 | str s=>simp only [fu,Option.some.injEq,Prod.mk.injEq]at he;rw [<-he.2];exact a
 | nils=>simp only [fu,Option.some.injEq,Prod.mk.injEq]at he;rw [<-he.2];exact a
 | _=>simp [fu]at he
theorem Jg {t:Ty} {hs:List (Val (hd t))} {vs:List (Val t)} {F:List Nat} (H: ∀id x,h[id]?=some x->BR w m h id x) (a:b0 w t vs hs F) (hm:qZ t vs hs=hs): ∀{cs:List LC} {us:List Value} {p:Prop} {cs':List LC},F2 (C w m h) cs us->lQ h t hs vs cs=some (p,cs')->p->F2 (C w mT []) cs' us
 | [],_,_,_,.nil,he,_=>by simp only [lQ,Option.some.injEq,Prod.mk.injEq]at he;rw [<-he.2];exact .nil
 | c::r,_,_,_,.cons h1 h2,he,b=>by
   simp only [lQ]at he
   split at he
   ·rename_i f c1 g i d e
    simp only [Option.some.injEq,Prod.mk.injEq]at he
    obtain ⟨rfl,rfl⟩:=he
    exact .cons (Jf H a hm h1 d b.1) (Jg H a hm h2 e b.2)
   ·simp at he
theorem Va {t:Ty} {hs:List (Val (hd t))} {vs:List (Val t)} {F:List Nat} (H: ∀id x,h[id]?=some x->BR w m h id x) (d:b0 w t vs hs F) (hm:qZ t vs hs=hs) {l l':LV} {v:Value} {p:Prop} (g:V w m h l v) (he:lR h t hs vs l=some (p,l')) (e:p):V w mT [] l' v:=by
 cases l with
 | tup=>simp [lR]at he
 | one c=>
   simp only [lR]at he
   split at he
   ·rename_i r c1 a
    simp only [Option.some.injEq,Prod.mk.injEq]at he
    obtain ⟨rfl,rfl⟩:=he
    exact Jf H d hm (c:=c) g a e
   ·simp at he
 | agg cs=>
   obtain ⟨us,rfl,f⟩:=g
   simp only [lR]at he
   split at he
   ·split at he
    ·rename_i u k
     simp only [Option.some.injEq,Prod.mk.injEq]at he
     obtain ⟨rfl,rfl⟩:=he
     obtain ⟨y,z,i,j,o,_⟩:=ib (ok:=fun _=>True) H f k (fun c _=>by
      cases c<;>simp only [okC]
      ·exact fun _ _ _=>trivial
      ·intro x _
       exact ⟨fun _ _=>trivial,by split<;>simp⟩)
     cases o
     rw [List.append_nil]at i
     obtain ⟨B,n,q⟩:=Jd d hm e
     refine ⟨us,rfl,?_⟩
     rw [i]
     exact lM (cv (fun _ _ _=>rfl) (fun b _ _=>okT _ b) (rB j n q))
    ·simp at he
   ·split at he
    ·rename_i r s a
     simp only [Option.some.injEq,Prod.mk.injEq]at he
     obtain ⟨rfl,rfl⟩:=he
     exact ⟨us,rfl,Jg H d hm f a e⟩
    ·simp at he
theorem Jh {t:Ty} {hs:List (Val (hd t))} {vs:List (Val t)} {F:List Nat} (H: ∀id x,h[id]?=some x->BR w m h id x) (a:b0 w t vs hs F) (hm:qZ t vs hs=hs): ∀{ls:List LV} {us:List Value} {p:Prop} {c:List LV},F2 (V w m h) ls us->lS h t hs vs ls=some (p,c)->p->F2 (V w mT []) c us
 | [],_,_,_,.nil,he,_=>by simp only [lS,Option.some.injEq,Prod.mk.injEq]at he;rw [<-he.2];exact .nil
 | l::r,_,_,_,.cons h1 h2,he,b=>by
   simp only [lS]at he
   split at he
   ·rename_i f c1 g i d e
    simp only [Option.some.injEq,Prod.mk.injEq]at he
    obtain ⟨rfl,rfl⟩:=he
    exact .cons (Va H a hm h1 d b.1) (Jh H a hm h2 e b.2)
   ·simp at he
end
end Go.T
namespace Go.T
open Go
@[reducible] def qb : List TI -> Type
  | []=>Unit
  | ti::r=>Val ti.ty×qb r
structure G where
 ps:List TI
 rs:List TI
 dp:Bool
 pre:qb ps->Prop
 fn:qb ps->qb rs
def cb (agg:Bool) (cs:List Value) (u:Value):Prop:=match agg with
 | true=>u= .agg cs.toArray
 | false=>cs=[u]
def VKs (w:World) (ok:Nat->Prop):(a:List TI)->qb a->List Value->Prop
 | [],_,us=>us=[]
 | ti::r,x,us=> ∃u rest cs,us=u::rest/\K w ok ti.ty x.1 cs/\cb ti.agg cs u/\VKs w ok r x.2 rest
def VMs (w:World):(c:List TI)->qb c->List Value->List Nat->Prop
 | [],_,us,B=>us=[]/\B=[]
 | ti::r,x,us,B=> ∃u rest cs a b,us=u::rest/\B=a++b/\M w ti.ty x.1 cs a/\cb ti.agg cs u/\VMs w r x.2 rest b
def fw:List Value->Value
 | [u]=>u
 | us=> .tuple us.toArray
def ez (P : Program) (f : FuncId) : Prop := ∃ fn, P.funcs[f]? = some fn /\ fn.body.isNone = false /\ (fn.name == "runtime.NumGoroutine") = false
structure Sound (P:Program) (f:FuncId) (g:G):Prop where
 enters:ez P f
 runs: ∀x:qb g.ps,g.pre x-> ∀(w:World) (ext:Nat->Prop) (vs:Array Value),VKs w ext g.ps x vs.toList->(∀b,w.heap.size<=b->ext b)->
  Calls P f vs w fun e w'=> ∃us,e= .returned (fw us)/\Fr (fun _=>False) w w'/\(match g.dp with
   | true=> ∃B,VMs w' g.rs (g.fn x) us B/\B.Nodup/\ ∀b∈B,w.heap.size<=b
   | false=>VKs w' ext g.rs (g.fn x) us)
def LV.isAgg:LV->Option Bool
 | .one _=>some false
 | .agg _=>some true
 | .tup _=>none
def cQ (h:List Blk):(a:List TI)->List LV->Option (qb a)
 | [],[]=>some ()
 | ti::r,l::ls=>if l.isAgg=some ti.agg then match qL h ti.ty l.cells with
    | some (x,[])=>match cQ h r ls with
      | some xs=>some (x,xs)
      | none=>none
    | _=>none
   else none
 | _,_=>none
def q9:(base:Nat)->(t:Ty)->Val t->List LC×List Blk
 | _,.int k,v=>([.int k v],[])
 | _,.bool,v=>([.bool v],[])
 | _,.str,v=>([.str v],[])
 | _,.hdr,v=>([.hdr v],[])
 | base,.slice e t,v=>([.own base],[.row e t v true true 0])
 | base,.pair a b,v=>
   ((q9 base a v.1).1++(q9 (base+(q9 base a v.1).2.length) b v.2).1,(q9 base a v.1).2++(q9 (base+(q9 base a v.1).2.length) b v.2).2)
def eA:(base:Nat)->(a:List TI)->qb a->List LV1×List Blk
 | _,[],_=>([],[])
 | base,ti::r,x=>
   (⟨ti.agg,(q9 base ti.ty x.1).1⟩::(eA (base+(q9 base ti.ty x.1).2.length) r x.2).1,(q9 base ti.ty x.1).2++(eA (base+(q9 base ti.ty x.1).2.length) r x.2).2)
def fx (n:Nat):(a:List TI)->qb a->List LV1
 | [],_=>[]
 | ti::r,x=>⟨ti.agg,eu n ti.ty x.1⟩::fx n r x.2
def gW:List LV1->LV
 | [v]=>v.lv
 | vs=> .tup vs
abbrev Gam:=List (Nat×G)
def Gam.get:Gam->Nat->Option G
 | [],_=>none
 | (f,g)::r,a=>if f=a then some g else Gam.get r a
def Blk.up (n:Nat):Blk->Blk
 | .row e t xs dp mt _=> .row e t xs dp mt n
 | b=>b
noncomputable def gX (st:St) (g:G) (args:List LV) (d:Option Tmp):Option Blk->Res
 | some (.nst _ t hs vs)=>match g.dp with
   | true=>match lS st.heap t hs vs args with
     | some (p,ls)=>match cQ [] g.ps ls with
       | some x=>some (qZ t vs hs=hs/\p/\g.pre x,st.res d (gW (eA st.heap.length g.rs (g.fn x)).1) (st.heap++(eA st.heap.length g.rs (g.fn x)).2.map (Blk.up st.heap.length)))
       | none=>none
     | none=>none
   | false=>none
 | _=>none
def LC.low:LC->Bool
 | .sl _ _ _ n=>n==0
 | .tptr _ _ _ n=>n==0
 | .own _=>false
 | .ptr .. =>false
 | _=>true
def lT (args:List LV) (n:Nat):Nat:=bif args.all fun l=>l.cells.all LC.low then 0 else n
def gY:Blk->Bool
 | .nst .. =>true
 | _=>false
noncomputable def jN (Γ:Gam) (f:Nat) (args:List LV) (d:Option Tmp) (st:St):Res:=match Γ.get f with
 | none=>none
 | some g=>match cQ st.heap g.ps args with
   | none=>gX st g args d (st.heap.find? gY)
   | some x=>match g.dp with
     | true=>some (g.pre x,st.res d (gW (eA st.heap.length g.rs (g.fn x)).1) (st.heap++(eA st.heap.length g.rs (g.fn x)).2.map (Blk.up st.heap.length)))
     | false=>some (g.pre x,st.res d (gW (fx (lT args st.heap.length) g.rs (g.fn x))) (freeze st.heap (qG (args.flatMap LV.cells))))
theorem Vb {g:G} {args:List LV} {d:Option Tmp} {b:Option Blk} {st:St} {p:Prop} {s:St} (hs:gX st g args d b=some (p,s)): ∃l h,s=st.res d l h/\ ∀st2:St,st2.heap=st.heap->gX st2 g args d b=some (p,st2.res d l h):=by
 unfold gX at hs
 split at hs
 ·rename_i F t e vs
  split at hs
  ·rename_i hd
   split at hs
   ·rename_i q ls a
    split at hs
    ·rename_i x c
     simp only [Option.some.injEq,Prod.mk.injEq]at hs
     obtain ⟨rfl,rfl⟩:=hs
     exact ⟨_,_,rfl,fun st2 h2=>by simp only [gX,hd,h2,a,c]⟩
    ·simp at hs
   ·simp at hs
  ·simp at hs
 ·simp at hs
theorem Vc (Γ:Gam) (f:Nat) (args:List LV) (d:Option Tmp):gU (jN Γ f args d) d:=by
 intro st p s hs
 unfold jN at hs ⊢
 split at hs
 ·simp at hs
 ·rename_i g b
  split at hs
  ·rename_i a
   obtain ⟨l,h,e,hk⟩:=Vb hs
   exact ⟨l,h,e,fun st2 h2=>by simp only [b,h2,a];exact hk st2 h2⟩
  ·rename_i x a
   split at hs
   ·rename_i hd
    cases hs
    exact ⟨_,_,rfl,fun st2 h2=>by simp only [b,h2,a,hd]⟩
   ·rename_i hd
    cases hs
    exact ⟨_,_,rfl,fun st2 h2=>by simp only [b,h2,a,hd]⟩
section
variable {w0 w w' : World} {mine : Mine} {m m' : Mp} {h h1 : List Blk}
theorem HR.newL {xs:List Blk} (H:HR w0 mine w m h) (hw:bu h h1) (s:Fr (fun _=>False) w w')
 (t: ∀i,i<h.length->m'.val i=m.val i) (hblk: ∀i,i<h.length->m'.blk i=m.blk i) (B: ∀i,i<h.length->m'.nst i=m.nst i) (D:m'.ext=m.ext)
 (S: ∀n b,qM m h n b->b<w.heap.size-> ∀j x,xs[j]?=some x->okB m' n b (h.length+j) x)
 (N: ∀j x,xs[j]?=some x->BR w' m' (h1++xs) (h.length+j) x)
 (Q: ∀j x,xs[j]?=some x->(fpB m' (h.length+j) x).Nodup)
 (O: ∀j x C x',j≠C->xs[j]?=some x->xs[C]?=some x'-> ∀b∈fpB m' (h.length+j) x,b∉fpB m' (h.length+C) x')
 (A: ∀j x,xs[j]?=some x-> ∀b∈fpB m' (h.length+j) x,w.heap.size<=b/\b<w'.heap.size):
 HR w0 mine w' m' (h1++xs)/\Oks w w' m m' h (h1++xs)/\bA m m' h (h1++xs):=by
 obtain ⟨H1,R,U⟩:=H.weaker hw
 have z:=hw.1
 have get: ∀id y,(h1++xs)[id]?=some y->(id<h.length/\h1[id]?=some y)∨(∃j,id=h.length+j/\xs[j]?=some y):=fun id y f=>by
  by_cases a:id<h1.length
  ·rw [List.getElem?_append_left a]at f;exact .inl ⟨by omega,f⟩
  ·rw [List.getElem?_append_right (by omega)]at f
   exact .inr ⟨id - h1.length,by omega,f⟩
 have X: ∀n b id y,id<h.length->(okB m' n b id y↔okB m n b id y):=fun n b id y a=>by
  cases y<;>simp [okB,t id a,hblk id a,B id a]
 have p: ∀id y,id<h.length->fpB m' id y=fpB m id y:=fun id y a=>by
  cases y<;>simp [fpB,t id a,hblk id a,B id a]
 have G:Oks w w' m m' h (h1++xs):=fun n b c a=>⟨s.block b a (fun h=>h),by rw [D];exact c.1,fun id y f=>by
  rcases get id y f with ⟨P,d⟩ | ⟨j,rfl,d⟩
  ·exact (X n b id y P).2 ((R n b c a).2.2 id y d)
  ·exact S n b c a j y d⟩
 have hs:bA m m' h (h1++xs):=fun id y f=>by
  have a:=(List.getElem?_eq_some_iff.1 f).1
  obtain ⟨g,l,Y⟩:=U id y f
  refine ⟨g,by rw [List.getElem?_append_left (by omega)];exact l,?_⟩
  cases y<;>cases g<;>simp_all [Sim]
 refine ⟨⟨fun id y f=> ?_,fun id y f=> ?_,fun id g id' o F K L b c q=> ?_,fun id y f b c=> ?_,?_,D.trans H.mx,H.nx,fun id v T=>by
  obtain ⟨h1,h2⟩:=H.pn id v T
  exact ⟨by simp;omega,by rw [t id h1,hblk id h1];exact h2⟩⟩,G,hs⟩
 ·rcases get id y f with ⟨a,d⟩ | ⟨j,rfl,d⟩
  ·obtain ⟨u,W,V⟩: ∃u,h[id]?=some u/\cJ u y:=⟨h[id],List.getElem?_eq_getElem a,hw.2 id _ _ (List.getElem?_eq_getElem a) d⟩
   exact eT G hs (t id a) (hblk id a) (B id a) (fun b c=>s.block b (H1.lt id y d b c).1 (fun M=>M)) (nk V (H.br id u W))
  ·exact N j y d
 ·rcases get id y f with ⟨a,d⟩ | ⟨j,rfl,d⟩
  ·rw [p id y a];exact H1.nd id y d
  ·exact Q j y d
 ·rcases get id g K with ⟨z,l⟩ | ⟨I,rfl,l⟩<;>rcases get id' o L with ⟨E,r⟩ | ⟨J,rfl,r⟩
  ·rw [p id g z]at c;rw [p id' o E]at q
   exact H1.dj id g id' o F l r b c q
  ·rw [p id g z]at c
   have h1:=(H1.lt id g l b c).1
   have h2:=(A J o r b q).1
   omega
  ·rw [p id' o E]at q
   have h1:=(H1.lt id' o r b q).1
   have h2:=(A I g l b c).1
   omega
  ·exact O I g J o (fun e=>F (by omega)) l r b c q
 ·rcases get id y f with ⟨a,d⟩ | ⟨j,rfl,d⟩
  ·rw [p id y a]at c
   have:=H1.lt id y d b c
   exact ⟨Nat.lt_of_lt_of_le this.1 s.size,this.2⟩
  ·have:=A j y d b c
   exact ⟨this.2,.inl (Nat.le_trans H.fr.size this.1)⟩
 ·exact s.lift H fun k hk=>hk.elim
end
end Go.T
namespace Go.T
open Go
abbrev qU:=Value×List Nat
def qU.fp (r:qU):List Nat:=r.1.ownBlock.toList++r.2
def eb (w:World) (x:Blk) (r:qU):Prop:= ∃(e:Nat) (t:Ty) (xs:List (Val t)) (inner:List Value),x= .row e t xs true true 0/\w.ownsRow 0 e t.sz r.1 xs.length inner/\Ms (M w t) xs inner r.2
def dd (base:Nat) (rl:List qU):LC->Value->Prop
 | .own id,u=> ∃j r,id=base+j/\rl[j]?=some r/\u=r.1
 | .int k n,u=>u= .int k n
 | .bool b,u=>u= .bool b
 | .str s,u=>u= .string s
 | .hdr v,u=>u=v/\v.oneCell'=true
 | _,_=>False
theorem dd.left {base:Nat} {rl b:List qU} {c:LC} {u:Value} (h:dd base rl c u):dd base (rl++b) c u:=by
 cases c<;>simp only [dd]at h ⊢ <;>try exact h
 obtain ⟨j,r,h1,h2,a⟩:=h
 exact ⟨j,r,h1,by rw [List.getElem?_append_left (List.getElem?_eq_some_iff.1 h2).1];exact h2,a⟩
theorem dd.right {base:Nat} {rl a:List qU} {c:LC} {u:Value} (h:dd (base+rl.length) a c u):dd base (rl++a) c u:=by
 cases c<;>simp only [dd]at h ⊢ <;>try exact h
 obtain ⟨j,r,h1,h2,b⟩:=h
 exact ⟨rl.length+j,r,by omega,by rw [List.getElem?_append_right (by omega)];simpa using h2,b⟩
def Ji (n:Nat) (w:World) (x:Blk) (r:qU):Prop:= ∃(e:Nat) (t:Ty) (xs:List (Val t)) (inner:List Value),x= .row e t xs true true n/\w.ownsRow 0 e t.sz r.1 xs.length inner/\Ms (M w t) xs inner r.2
theorem nz {w:World}: ∀{t:Ty} {v:Val t} {cs:List Value} {B:List Nat} (base:Nat),M w t v cs B-> ∃rl:List qU,F2 (eb w) (q9 base t v).2 rl/\B=rl.flatMap qU.fp/\F2 (dd base rl) (q9 base t v).1 cs
 | .int _,_,_,_,_,h=>by rw [M]at h;obtain ⟨rfl,rfl⟩:=h;exact ⟨[],.nil,rfl,.cons rfl .nil⟩
 | .bool,_,_,_,_,h=>by rw [M]at h;obtain ⟨rfl,rfl⟩:=h;exact ⟨[],.nil,rfl,.cons rfl .nil⟩
 | .str,_,_,_,_,h=>by rw [M]at h;obtain ⟨rfl,rfl⟩:=h;exact ⟨[],.nil,rfl,.cons rfl .nil⟩
 | .hdr,_,_,_,_,h=>by rw [M]at h;obtain ⟨⟨rfl,h1⟩,rfl⟩:=h;exact ⟨[],.nil,rfl,.cons ⟨rfl,h1⟩ .nil⟩
 | .slice e t,xs,_,_,base,h=>by
   rw [M]at h
   obtain ⟨v,inner,c,rfl,rfl,d,hm⟩:=h
   exact ⟨[(v,c)],.cons ⟨e,t,xs,inner,rfl,d,hm⟩ .nil,by simp [qU.fp],.cons ⟨0,(v,c),by simp,rfl,rfl⟩ .nil⟩
 | .pair a b,v,_,_,base,h=>by
   rw [M]at h
   obtain ⟨c1,c2,i,j,rfl,rfl,h1,h2⟩:=h
   obtain ⟨f,f1,rfl,g1⟩:=nz base h1
   obtain ⟨g,f2,rfl,g2⟩:=nz (base+(q9 base a v.1).2.length) h2
   refine ⟨f++g,f1.append f2,by simp,(g1.imp fun _ _ _ h=>h.left).append (g2.imp fun _ _ _ h=> ?_)⟩
   rw [f1.len]at h
   exact h.right
def V1R (base:Nat) (rl:List qU) (l:LV1) (u:Value):Prop:= ∃cs,F2 (dd base rl) l.cs cs/\cb l.agg cs u
theorem yp {w:World}: ∀{a:List TI} {x:qb a} {us:List Value} {B:List Nat} (base:Nat),VMs w a x us B-> ∃rl:List qU,F2 (eb w) (eA base a x).2 rl/\B=rl.flatMap qU.fp/\F2 (V1R base rl) (eA base a x).1 us
 | [],_,_,_,_,h=>by obtain ⟨rfl,rfl⟩:=h;exact ⟨[],.nil,rfl,.nil⟩
 | ti::r,x,_,_,base,h=>by
   obtain ⟨u,rest,cs,f,g,rfl,rfl,h1,hw,h2⟩:=h
   obtain ⟨d,f1,rfl,g1⟩:=nz base h1
   obtain ⟨e,f2,rfl,g2⟩:=yp (base+(q9 base ti.ty x.1).2.length) h2
   refine ⟨d++e,f1.append f2,by simp,.cons ⟨cs,g1.imp fun _ _ _ h=>h.left,hw⟩ (g2.imp fun _ _ _ h=> ?_)⟩
   obtain ⟨cs',b,c⟩:=h
   refine ⟨cs',b.imp fun _ _ _ h=> ?_,c⟩
   rw [f1.len]at h
   exact h.right
theorem nA {α:Type} {f:α->List Nat}: ∀{l:List α} {i j:Nat} {x y:α},(l.flatMap f).Nodup->i≠j->l[i]?=some x->l[j]?=some y-> ∀b∈f x,b∉f y
 | a::l,i,j,x,y,n,o,c,d,b,g=>by
   rw [List.flatMap_cons,List.nodup_append]at n
   obtain ⟨_,h2,m⟩:=n
   have mem: ∀{k:Nat} {z:α},l[k]?=some z-> ∀b∈f z,b∈l.flatMap f:=fun hk b p=>List.mem_flatMap.2 ⟨_,List.mem_of_getElem? hk,p⟩
   cases i with
   | zero=>
     simp at c;subst c
     cases j with
     | zero=>exact absurd rfl o
     | succ j=>exact fun h=>m b g b (mem (by simpa using d) b h) rfl
   | succ i=>
     cases j with
     | zero=>
       simp at d;subst d
       exact fun h=>m b h b (mem (by simpa using c) b g) rfl
     | succ j=>exact nA (i:=i) (j:=j) h2 (fun e=>o (by omega)) (by simpa using c) (by simpa using d) b g
theorem nB {α:Type} {f:α->List Nat}: ∀{l:List α} {i:Nat} {x:α},(l.flatMap f).Nodup->l[i]?=some x->(f x).Nodup
 | a::l,i,x,c,b=>by
   rw [List.flatMap_cons,List.nodup_append]at c
   cases i with
   | zero=>simp at b;subst b;exact c.1
   | succ i=>exact nB c.2.1 (by simpa using b)
section
variable {w0 w w' : World} {mine : Mine} {m m' : Mp} {h h1 : List Blk}
def Mp.rows (m:Mp) (n:Nat) (rl:List qU):Mp:={m with val:=fun i=>if i<n then m.val i else (rl.getD (i - n) (undef,[])).1,nst:=fun i=>if i<n then m.nst i else (rl.getD (i - n) (undef,[])).2}
theorem fV {m:Mp} {n j:Nat} {rl:List qU} {r:qU} (h:rl[j]?=some r):(m.rows n rl).val (n+j)=r.1/\(m.rows n rl).nst (n+j)=r.2:=by
 have: ¬(n+j<n):=by omega
 simp [Mp.rows,h,List.getD,this]
theorem HR.results (H:HR w0 mine w m h) (z:Fr (fun _=>False) w w') {bl:List Blk} {rl:List qU} (k:F2 (eb w') bl rl) (u:(rl.flatMap qU.fp).Nodup) (q: ∀b∈rl.flatMap qU.fp,w.heap.size<=b):
 HR w0 mine w' (m.rows h.length rl) (h++bl)/\Oks w w' m (m.rows h.length rl) h (h++bl)/\bA m (m.rows h.length rl) h (h++bl):=by
 have s: ∀{j:Nat} {r:qU},rl[j]?=some r-> ∀b∈r.fp,b∈rl.flatMap qU.fp:=fun A b f=>List.mem_flatMap.2 ⟨_,List.mem_of_getElem? A,f⟩
 have o: ∀{j:Nat} {x:Blk} {r:qU},rl[j]?=some r->eb w' x r->fpB (m.rows h.length rl) (h.length+j) x=r.fp:=fun {j x r} a d=>by
  obtain ⟨e,t,xs,inner,rfl,_⟩:=d
  obtain ⟨h1,h2⟩:=fV (m:=m) (n:=h.length) a
  simp only [fpB,h1,h2,qU.fp]
 refine H.newL (bu.refl h) z (fun i p=>by simp [Mp.rows,p]) (fun _ _=>rfl) (fun i p=>by simp [Mp.rows,p]) rfl (fun n b f E j x d=> ?_) (fun j x d=> ?_) (fun j x d=> ?_) (fun j x F x' B d D=> ?_) (fun j x d b f=> ?_)
 ·obtain ⟨r,a,g⟩:=k.get d
  have v:b∉r.fp:=fun hm=>by have:=q b (s a b hm);omega
  obtain ⟨h1,h2⟩:=fV (m:=m) (n:=h.length) a
  obtain ⟨e,t,xs,inner,rfl,_⟩:=g
  refine ⟨fun _ l=>v ?_,fun _ _ hm=>v ?_⟩
  ·rw [h1]at l;simp [qU.fp,l]
  ·rw [h2]at hm;simp only [qU.fp];exact List.mem_append_right _ hm
 ·obtain ⟨r,a,g⟩:=k.get d
  obtain ⟨h1,h2⟩:=fV (m:=m) (n:=h.length) a
  obtain ⟨e,t,xs,inner,rfl,l,hm⟩:=g
  exact ⟨inner,by rw [h1];exact l,by simp only;rw [h2];exact ⟨hm,Nat.zero_le _⟩⟩
 ·obtain ⟨r,a,g⟩:=k.get d
  rw [o a g]
  exact nB u a
 ·obtain ⟨r,a,g⟩:=k.get d
  obtain ⟨G,y,C⟩:=k.get D
  rw [o a g,o y C]
  exact nA u B a y
 ·obtain ⟨r,a,g⟩:=k.get d
  rw [o a g]at f
  refine ⟨q b (s a b f),?_⟩
  obtain ⟨e,t,xs,inner,rfl,l,hm⟩:=g
  rcases List.mem_append.1 f with f | f
  ·exact (l.lt b (by simpa using f)).2
  ·exact q0 (fun x c b d=>gQ d) hm b f
theorem HR.resultsUp (H:HR w0 mine w m h) (A:Fr (fun _=>False) w w') {bl:List Blk} {rl:List qU} (z:F2 (eb w') bl rl) (u:(rl.flatMap qU.fp).Nodup) (q: ∀b∈rl.flatMap qU.fp,w.heap.size<=b):
 HR w0 mine w' (m.rows h.length rl) (h++bl.map (Blk.up h.length))/\Oks w w' m (m.rows h.length rl) h (h++bl.map (Blk.up h.length))/\bA m (m.rows h.length rl) h (h++bl.map (Blk.up h.length)):=by
 have s: ∀{j:Nat} {r:qU},rl[j]?=some r-> ∀b∈r.fp,b∈rl.flatMap qU.fp:=fun B b f=>List.mem_flatMap.2 ⟨_,List.mem_of_getElem? B,f⟩
 have l:F2 (Ji h.length w') (bl.map (Blk.up h.length)) rl:=by
  clear u q s
  induction z with
  | nil=>exact .nil
  | cons h1 _ F=>
    obtain ⟨e,t,xs,inner,rfl,h1⟩:=h1
    exact .cons ⟨e,t,xs,inner,rfl,h1⟩ F
 have o: ∀{j:Nat} {x:Blk} {r:qU},rl[j]?=some r->Ji h.length w' x r->fpB (m.rows h.length rl) (h.length+j) x=r.fp:=fun {j x r} a d=>by
  obtain ⟨e,t,xs,inner,rfl,_⟩:=d
  obtain ⟨h1,h2⟩:=fV (m:=m) (n:=h.length) a
  simp only [fpB,h1,h2,qU.fp]
 refine H.newL (bu.refl h) A (fun i p=>by simp [Mp.rows,p]) (fun _ _=>rfl) (fun i p=>by simp [Mp.rows,p]) rfl (fun n b f G j x d=> ?_) (fun j x d=> ?_) (fun j x d=> ?_) (fun j x I x' C d E=> ?_) (fun j x d b f=> ?_)
 ·obtain ⟨r,a,g⟩:=l.get d
  have v:b∉r.fp:=fun hm=>by have:=q b (s a b hm);omega
  obtain ⟨h1,h2⟩:=fV (m:=m) (n:=h.length) a
  obtain ⟨e,t,xs,inner,rfl,_⟩:=g
  refine ⟨fun _ k=>v ?_,fun _ _ hm=>v ?_⟩
  ·rw [h1]at k;simp [qU.fp,k]
  ·rw [h2]at hm;simp only [qU.fp];exact List.mem_append_right _ hm
 ·obtain ⟨r,a,g⟩:=l.get d
  obtain ⟨h1,h2⟩:=fV (m:=m) (n:=h.length) a
  obtain ⟨e,t,xs,inner,rfl,k,hm⟩:=g
  exact ⟨inner,by rw [h1];exact k,by simp only;rw [h2];exact ⟨hm,Nat.le_add_right _ _⟩⟩
 ·obtain ⟨r,a,g⟩:=l.get d
  rw [o a g]
  exact nB u a
 ·obtain ⟨r,a,g⟩:=l.get d
  obtain ⟨J,y,D⟩:=l.get E
  rw [o a g,o y D]
  exact nA u C a y
 ·obtain ⟨r,a,g⟩:=l.get d
  rw [o a g]at f
  refine ⟨q b (s a b f),?_⟩
  obtain ⟨e,t,xs,inner,rfl,k,hm⟩:=g
  rcases List.mem_append.1 f with f | f
  ·exact (k.lt b (by simpa using f)).2
  ·exact q0 (fun x c b d=>gQ d) hm b f
theorem nC {bl:List Blk} {rl:List qU} (d:F2 (eb w') bl rl) {c:LC} {u:Value} (a:dd h.length rl c u):C w' (m.rows h.length rl) (h++bl) c u/\u.oneCell'=true:=by
 cases c<;>simp only [dd]at a<;>try exact a.elim
 ·subst a;exact ⟨rfl,rfl⟩
 ·subst a;exact ⟨rfl,rfl⟩
 ·subst a;exact ⟨rfl,rfl⟩
 ·obtain ⟨rfl,h1⟩:=a;exact ⟨⟨rfl,h1⟩,h1⟩
 ·obtain ⟨j,r,rfl,b,rfl⟩:=a
  obtain ⟨x,k,g⟩:=d.get' b
  obtain ⟨h1,h2⟩:=fV (m:=m) (n:=h.length) b
  obtain ⟨e,t,xs,inner,rfl,f,hm⟩:=g
  have:(h++bl)[h.length+j]?=some (.row e t xs true true 0):=by rw [List.getElem?_append_right (by omega)];simpa using k
  refine ⟨by simp only [C,this];exact h1.symm,?_⟩
  obtain ⟨A,c,i,_⟩:=gP f
  rw [i];rfl
theorem Vd {bl:List Blk} {rl:List qU} (b:F2 (eb w') bl rl) {l:LV1} {u:Value} (a:V1R h.length rl l u):V1 w' (m.rows h.length rl) (h++bl) l u:=by
 obtain ⟨agg,lcs⟩:=l
 obtain ⟨cs,h1,h2⟩:=a
 cases agg with
 | true=>
   simp only [cb]at h2
   subst h2
   exact ⟨cs.toArray,rfl,by simpa using h1.imp fun _ _ _ a=>(nC b a).1⟩
 | false=>
   simp only [cb]at h2
   subst h2
   cases h1 with
   | cons a c=>cases c;exact ⟨_,rfl,(nC (m:=m) b a).1,(nC (m:=m) (h:=h) b a).2⟩
theorem yq {bl:List Blk} {rl:List qU} (d:F2 (eb w') bl rl) {c:LC} {u:Value} (a:dd h.length rl c u):C w' (m.rows h.length rl) (h++bl.map (Blk.up h.length)) c u/\u.oneCell'=true:=by
 cases c<;>simp only [dd]at a<;>try exact a.elim
 ·subst a;exact ⟨rfl,rfl⟩
 ·subst a;exact ⟨rfl,rfl⟩
 ·subst a;exact ⟨rfl,rfl⟩
 ·obtain ⟨rfl,h1⟩:=a;exact ⟨⟨rfl,h1⟩,h1⟩
 ·obtain ⟨j,r,rfl,b,rfl⟩:=a
  obtain ⟨x,k,g⟩:=d.get' b
  obtain ⟨h1,h2⟩:=fV (m:=m) (n:=h.length) b
  obtain ⟨e,t,xs,inner,rfl,f,hm⟩:=g
  have:(h++bl.map (Blk.up h.length))[h.length+j]?=some (.row e t xs true true h.length):=by rw [List.getElem?_append_right (by omega)];simp [k,Blk.up]
  refine ⟨by simp only [C,this];exact h1.symm,?_⟩
  obtain ⟨A,c,i,_⟩:=gP f
  rw [i];rfl
theorem Jj {bl:List Blk} {rl:List qU} (b:F2 (eb w') bl rl) {l:LV1} {u:Value} (a:V1R h.length rl l u):V1 w' (m.rows h.length rl) (h++bl.map (Blk.up h.length)) l u:=by
 obtain ⟨agg,lcs⟩:=l
 obtain ⟨cs,h1,h2⟩:=a
 cases agg with
 | true=>
   simp only [cb]at h2
   subst h2
   exact ⟨cs.toArray,rfl,by simpa using h1.imp fun _ _ _ a=>(yq b a).1⟩
 | false=>
   simp only [cb]at h2
   subst h2
   cases h1 with
   | cons a c=>cases c;exact ⟨_,rfl,(yq (m:=m) b a).1,(yq (m:=m) (h:=h) b a).2⟩
theorem rC {ls:List LV1} {us:List Value} (b:F2 (V1 w m h) ls us):V w m h (gW ls) (fw us):=by
 cases b with
 | nil=>exact ⟨#[],rfl,.nil⟩
 | cons h1 h2=>
   cases h2 with
   | nil=>exact rb h1
   | cons h2 a=>exact ⟨_,rfl,by simpa using .cons h1 (.cons h2 a)⟩
end
end Go.T
namespace Go.T
open Go
section
variable {P : Program} {tt : TT} {o : Oper} {a : Act} {w0 w w' : World} {mine : Mine} {m m' : Mp} {h h1 : List Blk} {st : St} {next : Act -> World -> Prop} {Q : Exit -> Act -> World -> Prop}
theorem Ve {l:LV} {v:Value} (b:V w m h l v): ∀c∈l.cells,∃u,C w m h c u:=by
 intro c a
 cases l with
 | one g=>simp [LV.cells]at a;subst a;exact ⟨v,b⟩
 | agg cs=>
   obtain ⟨vs,rfl,e⟩:=b
   obtain ⟨i,f⟩:=List.getElem?_of_mem a
   obtain ⟨u,_,d⟩:=e.get f
   exact ⟨u,d⟩
 | tup=>simp [LV.cells]at a
theorem lU {ok:Nat->Prop} (H: ∀id x,h[id]?=some x->BR w m h id x): ∀{k:List TI} {ls:List LV} {vs:List Value} {x:qb k},F2 (V w m h) ls vs->cQ h k ls=some x->
 (∀l∈ls,∀c∈l.cells,okC w m h ok c)->VKs w ok k x vs
 | [],_,_,_,.nil,_,_=>rfl
 | [],_,_,_,.cons _ _,d,_=>by simp [cQ]at d
 | ti::r,_,_,_,.nil,d,_=>by simp [cQ]at d
 | ti::r,_,_,x,.cons (a:=l) (b:=v) n s,d,i=>by
   simp only [cQ]at d
   split at d
   ·rename_i e
    split at d
    ·rename_i y o
     split at d
     ·rename_i ys t
      cases d
      have h2:=lU H s t fun l q=>i l (List.mem_cons_of_mem _ q)
      cases l with
      | tup=>simp [LV.isAgg]at e
      | one c=>
        simp only [LV.isAgg,Option.some.injEq]at e
        obtain ⟨u,z,f,hk,j,_⟩:=ib (ok:=ok) H (F2.cons n .nil) o (fun c g=>i _ List.mem_cons_self c g)
        cases j
        rw [List.append_nil]at f
        refine ⟨v,_,[v],rfl,by rw [f];exact hk,?_,h2⟩
        rw [<-e];rfl
      | agg cs=>
        simp only [LV.isAgg,Option.some.injEq]at e
        obtain ⟨us,rfl,p⟩:=n
        obtain ⟨u,z,f,hk,j,_⟩:=ib (ok:=ok) H p o (fun c g=>i _ List.mem_cons_self c g)
        cases j
        rw [List.append_nil]at f
        refine ⟨.agg us,_,us.toList,rfl,by rw [f];exact hk,?_,h2⟩
        rw [<-e];simp [cb]
     ·simp at d
    ·simp at d
   ·simp at d
theorem yr (H:HR w0 mine w m st.heap) (he:F2 (V w m st.heap) st.env a.tmps.toList): ∀xs:List Operand,F2 (V w m st.heap) (xs.map st.ev) (xs.map a.eval)
 | []=> .nil
 | x::xs=> .cons (R.ev H he x) (yr H he xs)
theorem yt: ∀(ids:List Nat) (h:List Blk) (i:Nat),(freeze h ids)[i]?=(h[i]?).map fun b=>if i∈ids then b.froze else b
 | [],h,i=>by simp [freeze]
 | j::r,h,i=>by
   have:freeze h (j::r)=freeze (h.modify j Blk.froze) r:=rfl
   rw [this,yt r,List.getElem?_modify]
   cases h[i]? with
   | none=>simp
   | some b=>
     by_cases e:j=i
     ·subst e
      by_cases hm:j∈r
      ·simp [hm];cases b<;>rfl
      ·simp [hm]
     ·have e': ¬i=j:=fun h=>e h.symm
      simp [e,e']
theorem Vf {n:Nat} {agg:Bool} {t:Ty} {y:Val t} {cs:List Value} {u:Value} (hk:K w (qM m h n) t y cs) (hw:cb agg cs u):V1 w m h ⟨agg,eu n t y⟩ u:=by
 have a:=lM hk
 cases agg with
 | true=>
   simp only [cb]at hw
   subst hw
   exact ⟨cs.toArray,rfl,by simpa using a⟩
 | false=>
   simp only [cb]at hw
   subst hw
   generalize eu n t y=es at a
   cases a with
   | cons h1 h2=>cases h2;exact ⟨_,rfl,h1,lK hk u (by simp)⟩
theorem rD {n:Nat}: ∀{b:List TI} {x:qb b} {us:List Value},VKs w (qM m h n) b x us->F2 (V1 w m h) (fx n b x) us
 | [],_,_,a=>by rw [VKs]at a;subst a;exact .nil
 | ti::r,x,_,a=>by
   obtain ⟨u,rest,cs,rfl,hk,hw,h2⟩:=a
   exact .cons (Vf hk hw) (rD h2)
theorem rE {ok ok':Nat->Prop} (hm: ∀b,ok b->b<w.heap.size->w'.heap[b]?=w.heap[b]?) (d: ∀b,ok b->b<w.heap.size->ok' b): ∀{c:List TI} {x:qb c} {us:List Value},VKs w ok c x us->VKs w' ok' c x us
 | [],_,_,a=>a
 | ti::r,x,_,a=>by
   obtain ⟨u,rest,cs,rfl,hk,hw,h2⟩:=a
   exact ⟨u,rest,cs,rfl,cv hm d hk,hw,rE hm d h2⟩
theorem lV {c:Call} {f:FuncId} (j:o.op= .call c) (h:c.callee= .value (.func f)) (i:ez P f):(execOp a.eval o).run P w= .ok (.enter f (c.args.map a.eval)) w:=by
 obtain ⟨fn,h1,h2,b⟩:=i
 simp only [execOp,j,resolve,h,Act.eval,Deferred.ofValue,Sem.run_bind]
 have d:fn.body≠none:=by intro e;rw [e]at h2;simp at h2
 have g : fn.name ≠ "runtime.NumGoroutine" := by intro e; rw [e] at b; simp at b
 simp [invoke,callFunc,h1,d,g]
theorem Vg {f:FuncId} {g:G} (S:Sound P f g) {c:Call} (U:o.op= .call c) (C:c.callee= .value (.func f)) {b:Option Blk} (A: ∀x,b=some x->x∈st.heap) {p:Prop} {s:St} (hs:gX st g (c.args.toList.map st.ev) o.dst b=some (p,s)) (X:p)
 (aa:R w0 mine st a w) (O: ∀i w',R w0 mine s i w'->next i w'):o.wp P a w next Q:=by
 obtain ⟨E,m,H,he⟩:=aa
 unfold gX at hs
 split at hs
 ·rename_i F t ad vs
  split at hs
  ·rename_i I
   split at hs
   ·rename_i q ls N
    split at hs
    ·rename_i x d
     simp only [Option.some.injEq,Prod.mk.injEq]at hs
     obtain ⟨rfl,rfl⟩:=hs
     obtain ⟨hm,Z,Y⟩:=X
     obtain ⟨j,L⟩:=List.getElem?_of_mem (A _ rfl)
     have y:b0 w t vs ad F:=H.br j _ L
     have k:=yr H he c.args.toList
     have ac:(c.args.map a.eval).toList=c.args.toList.map a.eval:=by simp
     rw [<-ac]at k
     have z:=Jh H.br y hm k N Z
     have hk:=lU (ok:=fun _=>True) (m:=mT) (h:=[]) (fun id x d=>by simp at d) z d (fun l _ c _=>by
            cases c<;>simp only [okC]
            ·exact fun _ _ _=>trivial
            ·intro x _
             exact ⟨fun _ _=>trivial,by split<;>simp⟩)
     unfold Oper.wp
     rw [lV U C S.enters,Oper.upon_enter]
     refine Calls.mono (S.runs x Y w _ _ hk fun _ _=>trivial) fun e w' J=> ?_
     obtain ⟨us,rfl,K,r⟩:=J
     rw [I]at r
     obtain ⟨B,v,T,M⟩:=r
     obtain ⟨rl,n,rfl,D⟩:=yp st.heap.length v
     obtain ⟨u,W,ab⟩:=HR.resultsUp H K n T M
     refine O _ _ ⟨by rw [c0];exact E,_,u,?_⟩
     show F2 (V w' _ _) (st.put o.dst _).env _
     rw [St.put_env]
     exact dY (bV W ab he) o.dst (rC (D.imp fun _ _ _ h=>Jj n h))
    ·simp at hs
   ·simp at hs
  ·simp at hs
 ·simp at hs
theorem Jk: ∀{cs:List LC},cs.all LC.low=true->qG cs=[]
 | [],_=>rfl
 | c::r,h=>by
   simp only [List.all_cons,Bool.and_eq_true]at h
   have:=Jk h.2
   cases c<;>first | exact this | (simp [LC.low]at h)
theorem Vh {Γ:Gam} (a1: ∀f g,Γ.get f=some g->Sound P f g) {c:Call} {f:Nat} (ah:o.op= .call c) (af:c.callee= .value (.func f)) {p:Prop} {al:St} (hs:jN Γ f (c.args.toList.map st.ev) o.dst st=some (p,al)) (Z:p)
 (aj:R w0 mine st a w) (K: ∀ae w',R w0 mine al ae w'->next ae w'):o.wp P a w next Q:=by
 unfold jN at hs
 split at hs
 ·simp at hs
 rename_i g aq
 have S:=a1 f g aq
 split at hs
 ·exact Vg S ah af (fun x T=>List.mem_of_find?_eq_some T) hs Z aj K
 rename_i x T
 obtain ⟨hd,m,H,he⟩:=aj
 have L:=yr H he c.args.toList
 have a0:(c.args.map a.eval).toList=c.args.toList.map a.eval:=by simp
 rw [<-a0]at L
 unfold Oper.wp
 rw [lV ah af S.enters,Oper.upon_enter]
 split at hs
 ·rename_i W
  cases hs
  have hk:=lU (ok:=fun _=>True) H.br L T (fun l _ c _=>by
   cases c<;>simp only [okC]
   ·exact fun _ _ _=>trivial
   ·intro x _
    exact ⟨fun _ _=>trivial,by split<;>simp⟩)
  refine Calls.mono (S.runs x Z w _ _ hk fun _ _=>trivial) fun e w' M=> ?_
  obtain ⟨us,rfl,N,D⟩:=M
  rw [W]at D
  obtain ⟨B,am,ay,aw⟩:=D
  obtain ⟨rl,ag,rfl,ao⟩:=yp st.heap.length am
  obtain ⟨E,G,I⟩:=HR.resultsUp H N ag ay aw
  refine K _ _ ⟨by rw [c0];exact hd,_,E,?_⟩
  show F2 (V w' _ _) (st.put o.dst _).env _
  rw [St.put_env]
  exact dY (bV G I he) o.dst (rC (ao.imp fun _ _ _ h=>Jj ag h))
 ·rename_i W
  cases hs
  cases Y:(c.args.toList.map st.ev).all fun l=>l.cells.all LC.low with
  | true=>
    have ab:lT (c.args.toList.map st.ev) st.heap.length=0:=by unfold lT;rw [Y];rfl
    have ax:qG ((c.args.toList.map st.ev).flatMap LV.cells)=[]:=Jk (List.all_eq_true.2 fun J s=>by
        obtain ⟨l,A,s⟩:=List.mem_flatMap.1 s
        exact List.all_eq_true.1 (List.all_eq_true.1 Y l A) J s)
    rw [ab,ax]at K
    have hk:=lU (ok:=qM m st.heap 0) H.br L T (fun l A J s=>by
        have hw:=List.all_eq_true.1 (List.all_eq_true.1 Y l A) J s
        cases J with
        | sl e t xs n=>
          have:n=0:=by simpa [LC.low] using hw
          subst this
          exact fun b d _=>d
        | own id=>simp [LC.low]at hw
        | _=>trivial)
    have aa: ∀b,w.heap.size<=b->qM m st.heap 0 b:=fun b d=>by
        refine ⟨by rw [H.mx];exact H.nx b (.inl (Nat.le_trans H.fr.size d)),fun j z r=> ?_⟩
        have q:b∉fpB m j z:=fun hm=>by have:=(H.lt j z r b hm).1;omega
        cases z with
        | dead=>trivial
        | box cs=>show b≠m.blk j;simpa [fpB] using q
        | nst F t hs vs=>exact q
        | row e t xs dp mt k=>
          simp only [fpB,List.mem_append,not_or]at q
          refine ⟨fun _ O=>q.1 (by simp [O]),fun hd _ hm=> ?_⟩
          subst hd
          exact q.2 hm
    refine Calls.mono (S.runs x Z w _ _ hk aa) fun e w' M=> ?_
    obtain ⟨us,rfl,N,D⟩:=M
    rw [W]at D
    obtain ⟨E,G,I⟩:=HR.results (bl:=[]) (rl:=[]) H N .nil (by simp) (by simp)
    rw [List.append_nil]at E G I
    refine K _ _ ⟨by rw [c0];exact hd,_,E,?_⟩
    show F2 (V w' _ _) (st.put o.dst _).env _
    rw [St.put_env]
    refine dY (bV G I he) o.dst (rC (rD ?_))
    have ad: ∀b,qM m st.heap 0 b->qM (m.rows st.heap.length []) st.heap 0 b:=fun b d=>⟨d.1,fun j z r=>by
        have X:j<st.heap.length:=(List.getElem?_eq_some_iff.1 r).1
        have:=d.2 j z r
        cases z with
        | dead=>trivial
        | box cs=>exact this
        | nst F t hs vs=>exact this
        | row e t xs dp mt k=>simpa [okB,Mp.rows,X] using this⟩
    exact rE (fun _ _ _=>rfl) (fun b d _=>ad b d) D
  | false=>
    have ab:lT (c.args.toList.map st.ev) st.heap.length=st.heap.length:=by unfold lT;rw [Y];rfl
    rw [ab]at K
    obtain ⟨H1,ai,az⟩:=H.weaker (bu.freeze st.heap (qG ((c.args.toList.map st.ev).flatMap LV.cells)))
    generalize av:qG ((c.args.toList.map st.ev).flatMap LV.cells)=ids at*
    have hlen:(freeze st.heap ids).length=st.heap.length:=(bu.freeze st.heap ids).1
    have top: ∀n b,qM m st.heap n b->b<w.heap.size->qM m (freeze st.heap ids) st.heap.length b:=fun n b d A=>by
        have:=nv H1.lo_le (ai n b d A).2
        rwa [hlen]at this
    have hk:=lU (ok:=qM m (freeze st.heap ids) st.heap.length) H.br L T (fun l A J s=>by
        cases J with
        | sl e t xs n=>exact fun b d ac=>top n b d ac
        | own id=>
          intro y U
          have au:id∈ids:=by rw [<-av];exact ru (List.mem_flatMap.2 ⟨l,A,s⟩)
          obtain ⟨i,ar⟩:=List.getElem?_of_mem A
          obtain ⟨v,_,an⟩:=L.get ar
          obtain ⟨u,hu⟩:=Ve an _ s
          simp only [C,U]at hu
          have ak:(freeze st.heap ids)[id]?=some y.froze:=by rw [yt,U];simp [au]
          refine ⟨fun b d=>⟨by rw [H.mx];exact H.nx b (H.lt id y U b d).2,fun j z r=> ?_⟩,?_⟩
          ·by_cases e:j=id
           ·subst e
            rw [ak]at r
            cases r
            cases y with
            | box=>exact hu.elim
            | nst=>exact hu.elim
            | dead=>trivial
            | row e t xs dp mt k=>
              have X:=(List.getElem?_eq_some_iff.1 U).1
              refine ⟨fun h _=> ?_,fun ap hle _=> ?_⟩
              ·simp at h;omega
              ·subst ap
               have:=H.lo_le j e t xs mt k U
               omega
           ·have a2:z∈(freeze st.heap ids)[j]?:=r
            have q:=H1.dj id _ j z (fun e'=>e e'.symm) ak r b (by cases y<;>exact d)
            cases z with
            | dead=>trivial
            | box cs=>show b≠m.blk j;simpa [fpB] using q
            | nst F t hs vs=>exact q
            | row e t xs dp mt k=>
              simp only [fpB,List.mem_append,not_or]at q
              refine ⟨fun _ O=>q.1 (by simp [O]),fun hd _ hm=> ?_⟩
              subst hd
              exact q.2 hm
          ·cases y with
           | row e t xs dp mt k=>
             cases dp with
             | true=>trivial
             | false=>exact fun b d ac=>top k b d ac
           | _=>trivial
        | _=>trivial)
    have aa: ∀b,w.heap.size<=b->qM m (freeze st.heap ids) st.heap.length b:=fun b d=>by
        refine ⟨by rw [H.mx];exact H.nx b (.inl (Nat.le_trans H.fr.size d)),fun j z r=> ?_⟩
        have q:b∉fpB m j z:=fun hm=>by have:=(H1.lt j z r b hm).1;omega
        cases z with
        | dead=>trivial
        | box cs=>show b≠m.blk j;simpa [fpB] using q
        | nst F t hs vs=>exact q
        | row e t xs dp mt k=>
          simp only [fpB,List.mem_append,not_or]at q
          refine ⟨fun _ O=>q.1 (by simp [O]),fun hd _ hm=> ?_⟩
          subst hd
          exact q.2 hm
    refine Calls.mono (S.runs x Z w _ _ hk aa) fun e w' M=> ?_
    obtain ⟨us,rfl,N,D⟩:=M
    rw [W]at D
    obtain ⟨E,G,I⟩:=HR.results (bl:=[]) (rl:=[]) H1 N .nil (by simp) (by simp)
    rw [hlen,List.append_nil]at E G I
    refine K _ _ ⟨by rw [c0];exact hd,_,E,?_⟩
    show F2 (V w' _ _) (st.put o.dst _).env _
    rw [St.put_env]
    refine dY (bV G I (bV ai az he)) o.dst (rC (rD ?_))
    have ad: ∀b,qM m (freeze st.heap ids) st.heap.length b->qM (m.rows st.heap.length []) (freeze st.heap ids) st.heap.length b:=fun b d=>⟨d.1,fun j z r=>by
        have X:j<st.heap.length:=by rw [<-hlen];exact (List.getElem?_eq_some_iff.1 r).1
        have:=d.2 j z r
        cases z with
        | dead=>trivial
        | box cs=>exact this
        | nst F t hs vs=>exact this
        | row e t xs dp mt k=>simpa [okB,Mp.rows,X] using this⟩
    exact rE (fun _ _ _=>rfl) (fun b d _=>ad b d) D
theorem rF {m:Mp} {h:List Blk} (H:HR w0 mine w m h) {id e:Nat} {t:Ty} {xs:List (Val t)} {dp mt:Bool} {k:Nat} (d:h[id]?=some (.row e t xs dp mt k)) {v:Value} (G:C w m h (.own id) v):C w m (freeze h [id]) (.sl e t xs h.length) v:=by
 obtain ⟨H1,D,J⟩:=H.weaker (bu.freeze h [id])
 have hlen:(freeze h [id]).length=h.length:=(bu.freeze h [id]).1
 have top: ∀n b,qM m h n b->b<w.heap.size->qM m (freeze h [id]) h.length b:=fun n b a u=>by
  have:=nv H1.lo_le (D n b a u).2
  rwa [hlen]at this
 have s:qL h (.slice e t) [.own id]=some (xs,[]):=by simp [qL,d]
 have p:(freeze h [id])[id]?=some (Blk.row e t xs dp mt k).froze:=by rw [yt,d];simp
 obtain ⟨K,L,l,q,E,_⟩:=ib (ok:=qM m (freeze h [id]) h.length) H.br (F2.cons G .nil) s (fun c g=>by
  simp only [List.mem_singleton]at g
  subst g
  intro y o
  rw [d]at o
  cases o
  refine ⟨fun b a=>⟨by rw [H.mx];exact H.nx b (H.lt id _ d b a).2,fun j z i=> ?_⟩,?_⟩
  ·by_cases e:j=id
   ·subst e
    rw [p]at i
    cases i
    have I:=(List.getElem?_eq_some_iff.1 d).1
    refine ⟨fun h _=> ?_,fun r hle _=> ?_⟩
    ·simp at h;omega
    ·subst r
     have:=H.lo_le j _ t xs mt k d
     omega
   ·have f:=H1.dj id _ j z (fun e'=>e e'.symm) p i b (by exact a)
    cases z with
    | dead=>trivial
    | box cs=>show b≠m.blk j;simpa [fpB] using f
    | nst F t hs vs=>exact f
    | row e t xs dp mt k=>
      simp only [fpB,List.mem_append,not_or]at f
      refine ⟨fun _ B=>f.1 (by simp [B]),fun hd _ hm=> ?_⟩
      subst hd
      exact f.2 hm
  ·cases dp with
   | true=>trivial
   | false=>exact fun b a x=>top k b a x)
 cases E
 rw [List.append_nil]at l
 subst l
 obtain ⟨A,c,he,g⟩:=q
 cases he
 exact ⟨A,c,rfl,g⟩
end
end Go.T
namespace Go.T
open Go
def lW (tt:TT) (t id:Nat) (lo a:Option LV) (d:Option Tmp) (st:St):Res:=match tt.get t,st.heap[id]? with
 | some ti,some (.row e te xs _ _ _)=>match dG 0 lo,dG xs.length a with
   | some l,some h=>if ti.agg=false/\ti.ty= .slice e te then some (0<=l/\l<=h/\h<=xs.length,{st.put d (.one (.sl e te ((xs.take h.toNat).drop l.toNat) st.heap.length))with heap:=freeze st.heap [id]})else none
   | _,_=>none
 | _,_=>none
def gZ (tt:TT) (t:Nat) (x:LV) (lo a:Option LV) (d:Option Tmp) (st:St):Res:=match x with
 | .one (.own id)=>lW tt t id lo a d st
 | x=>ew tt t x lo a d st
noncomputable def b1 (tt:TT) (Γ:Gam) (o:Oper) (st:St):Res:=match o.op with
 | .call c=>match c.callee with
   | .value (.func f)=>jN Γ f (c.args.toList.map st.ev) o.dst st
   | _=>bz tt o st
 | .slice t x lo a none=>gZ tt t (st.ev x) (lo.map st.ev) (a.map st.ev) o.dst st
 | _=>bz tt o st
def ec (o:Oper):Bool:=match o.op with
 | .move _ | .assign _ | .pick .. | .build .. | .load .. | .fieldAddr .. | .indexAddr .. | .binOp .. | .unOp .. | .extract .. | .nilCheck _ | .index .. =>true
 | .call c=>match c.callee with
   | .builtin .len=>true
   | _=>false
 | _=>false
def fW (o:Oper) (st:St):Option Nat:=match o.op with
 | .load _ x | .fieldAddr _ x _ | .indexAddr _ x _ | .nilCheck x=>(st.ev x).rd
 | .call c=>match c.args.toList with
   | [x]=>(st.ev x).rd
   | _=>none
 | _=>none
section
variable {tt : TT} {Γ : Gam} {o : Oper}
theorem yu (e:ec o=true) {st:St} {p:Prop} {s:St} (hs:bz tt o st=some (p,s)): ∃l,s=st.put o.dst l/\ ∀st2:St,(∀x∈o.op.operands,st2.ev x=st.ev x)->(∀id,fW o st=some id->st2.heap[id]?=st.heap[id]?)->bz tt o st2=some (p,st2.put o.dst l):=by
 obtain ⟨dst,op,type,pos,after,guard⟩:=o
 cases op<;>simp only [ec,Bool.false_eq_true]at e
 case move x=>
  simp only [bz]at hs ⊢
  cases hs
  exact ⟨_,rfl,fun st2 h2 _=>by rw [h2 x (by simp [Op.operands])]⟩
 case assign x=>
  simp only [bz]at hs ⊢
  cases hs
  exact ⟨_,rfl,fun st2 h2 _=>by rw [h2 x (by simp [Op.operands])]⟩
 case pick c x y=>
  simp only [bz]at hs
  split at hs
  ·rename_i b g
   split at hs
   ·rename_i E D d C
    cases hs
    refine ⟨_,rfl,fun st2 h2 _=> ?_⟩
    simp only [bz]
    rw [h2 c (by simp [Op.operands]),h2 x (by simp [Op.operands]),h2 y (by simp [Op.operands]),g,d,C];rfl
   ·rename_i j
    cases hs
    refine ⟨_,rfl,fun st2 h2 _=> ?_⟩
    simp only [bz]
    rw [h2 c (by simp [Op.operands]),h2 x (by simp [Op.operands]),h2 y (by simp [Op.operands]),g]
    simp only
  ·simp at hs
 case build t ps=>
  simp only [bz]at hs
  split at hs
  ·rename_i ti k
   split at hs
   ·simp at hs
   ·rename_i j
    split at hs
    ·rename_i cs r
     cases hs
     refine ⟨_,rfl,fun st2 h2 _=> ?_⟩
     simp only [bz,k]
     have:(ps.toList.map fun p=>(p.1,(st2.ev p.2).cells))=ps.toList.map fun p=>(p.1,(st.ev p.2).cells):=by
            refine List.map_congr_left fun q e=> ?_
            rw [h2 q.2 (by simp only [Op.operands,List.mem_toArray,List.mem_map];exact ⟨q,e,rfl⟩)]
     rw [if_neg j,this,r]
    ·simp at hs
  ·simp at hs
 case load t x=>
  simp only [bz]at hs ⊢
  obtain ⟨l,h1,h2⟩:=U1 tt t (st.ev x) dst st p s hs
  exact ⟨l,h1,fun st2 he a=>by rw [he x (by simp [Op.operands])];exact h2 st2 a⟩
 case fieldAddr t x f=>
  simp only [bz]at hs ⊢
  obtain ⟨l,h1,h2⟩:=U2 tt t f (st.ev x) dst st p s hs
  exact ⟨l,h1,fun st2 he a=>by rw [he x (by simp [Op.operands])];exact h2 st2 a⟩
 case indexAddr t x y=>
  simp only [bz]at hs ⊢
  obtain ⟨l,h1,h2⟩:=U3 tt t (st.ev x) (st.ev y) dst st p s hs
  exact ⟨l,h1,fun st2 he a=>by rw [he x (by simp [Op.operands]),he y (by simp [Op.operands])];exact h2 st2 a⟩
 case binOp op t x y ty=>
  simp only [bz]at hs ⊢
  obtain ⟨l,h1,h2⟩:=UZ tt op t (st.ev x) (st.ev y) dst st p s hs
  exact ⟨l,h1,fun st2 he a=>by rw [he x (by simp [Op.operands]),he y (by simp [Op.operands])];exact h2 st2 fun id h=>by simp at h⟩
 case unOp op t x=>
  simp only [bz]at hs ⊢
  obtain ⟨l,h1,h2⟩:=U0 op (st.ev x) dst st p s hs
  exact ⟨l,h1,fun st2 he a=>by rw [he x (by simp [Op.operands])];exact h2 st2 fun id h=>by simp at h⟩
 case extract x i=>
  simp only [bz]at hs ⊢
  split at hs
  ·rename_i vs d
   split at hs
   ·rename_i v A
    cases hs
    exact ⟨_,rfl,fun st2 he a=>by rw [he x (by simp [Op.operands]),d];simp only [A]⟩
   ·simp at hs
  ·simp at hs
 case nilCheck x=>
  simp only [bz]at hs ⊢
  split at hs
  ·rename_i id i f d
   split at hs
   ·simp at hs
   ·rename_i m
    cases hs
    refine ⟨_,rfl,fun st2 he a=> ?_⟩
    have z:=a id (by simp only [fW,d,LV.rd])
    rw [he x (by simp [Op.operands]),d]
    simp only [z]
    first
     | rfl
     | (split
        ·rename_i h';exact absurd h' m
        ·rfl)
  ·simp at hs
 case index t x y=>
  simp only [bz]at hs ⊢
  obtain ⟨l,h1,h2⟩:=U4 tt t (st.ev x) (st.ev y) dst st p s hs
  exact ⟨l,h1,fun st2 he a=>by rw [he x (by simp [Op.operands]),he y (by simp [Op.operands])];exact h2 st2 fun id h=>by simp at h⟩
 case call c=>
  split at e
  ·rename_i g
   simp only [bz,g]at hs ⊢
   split at hs
   ·rename_i x t d F
    split at hs
    ·rename_i ti k
     split at hs
     ·rename_i n w
      cases hs
      refine ⟨_,rfl,fun st2 he a=> ?_⟩
      have B:=he x (by
            have:x∈c.args:=by rw [<-Array.mem_toList_iff,d];simp
            simp [Op.operands,Call.operands,this])
      rw [B]
      rw [U5 ti (st.ev x) (h:=st.heap) (h2:=st2.heap) (fun id u=>a id (by simp only [fW,d];exact u)),w]
      rfl
     ·simp at hs
    ·simp at hs
   ·simp at hs
  ·simp at e
theorem Jl (mx:Bool) (x y:LV) (d:Option Tmp):gU (jF mx x y d) d:=by
 intro st p s hs
 unfold jF at hs ⊢
 split at hs
 ·split at hs
  ·rename_i e
   cases hs
   exact ⟨_,st.heap,(by rw [St.res_self]),fun st2 h2=>by simp only [e,if_true,St.go];rw [<-h2,St.res_self]⟩
  ·simp at hs
 ·simp at hs
theorem Vi (tt:TT) (s t:Nat) (x:LV) (d:Option Tmp):gU (lJ tt s t x d) d:=by
 intro st p i hs
 unfold lJ at hs ⊢
 split at hs
 ·rename_i l j c b
  split at hs
  ·split at hs
   ·rename_i k f h
    cases hs
    exact ⟨_,st.heap,(by rw [St.res_self]),fun st2 h2=>by simp only [c,b,f,h,St.go];rw [<-h2,St.res_self]⟩
   ·simp at hs
  ·split at hs
   ·rename_i id e xs dp mt k g
    split at hs
    ·rename_i a
     cases hs
     exact ⟨_,st.heap,(by rw [St.res_self]),fun st2 h2=>by simp only [c,b,h2,g,if_pos a,St.go];rw [<-h2,St.res_self]⟩
    ·simp at hs
   ·simp at hs
  ·split at hs
   ·rename_i a
    cases hs
    exact ⟨_,st.heap,(by rw [St.res_self]),fun st2 h2=>by simp only [c,b,if_pos a,St.go];rw [<-h2,St.res_self]⟩
   ·simp at hs
  ·simp at hs
 ·simp at hs
theorem Vj (tt:TT) (t:Nat) (x:LV) (lo f:Option LV) (d:Option Tmp):gU (ew tt t x lo f d) d:=by
 intro st p s hs
 unfold ew at hs ⊢
 split at hs
 ·simp at hs
 ·rename_i ti e
  split at hs
  ·split at hs
   ·rename_i l h c b
    split at hs
    ·rename_i a
     cases hs
     exact ⟨_,st.heap,by rw [St.res_self],fun st2 h2=>by simp only [e,c,b,if_pos a];rw [<-h2,St.res_self]⟩
    ·simp at hs
   ·simp at hs
  ·split at hs
   ·rename_i l h c b
    split at hs
    ·rename_i a
     cases hs
     exact ⟨_,st.heap,by rw [St.res_self],fun st2 h2=>by simp only [e,c,b,if_pos a];rw [<-h2,St.res_self]⟩
    ·simp at hs
   ·simp at hs
  ·simp at hs
theorem Vk (tt:TT) (t id:Nat) (lo c:Option LV) (d:Option Tmp):gU (lW tt t id lo c d) d:=by
 intro st p s hs
 unfold lW at hs ⊢
 split at hs
 ·rename_i ti e te xs dp mt k g i
  split at hs
  ·rename_i l h f b
   split at hs
   ·rename_i a
    cases hs
    exact ⟨_,_,rfl,fun st2 h2=>by simp only [g,h2,i,f,b,if_pos a];rfl⟩
   ·simp at hs
  ·simp at hs
 ·simp at hs
theorem Vl (tt:TT) (t:Nat) (x:LV) (lo a:Option LV) (d:Option Tmp):gU (gZ tt t x lo a d) d:=by
 unfold gZ
 split
 ·exact Vk tt t _ lo a d
 ·exact Vj tt t _ lo a d
theorem Vm {st:St} {p:Prop} {s:St} (hs:b1 tt Γ o st=some (p,s)): ∃l h,s=st.res o.dst l h/\ ∀st2:St,(∀x∈o.op.operands,st2.ev x=st.ev x)->st2.heap=st.heap->b1 tt Γ o st2=some (p,st2.res o.dst l h):=by
 by_cases b:ec o=true
 ·have w: ∀st,b1 tt Γ o st=bz tt o st:=fun st=>by
   unfold b1
   unfold ec at b
   split
   ·rename_i c u
    rw [u]at b
    simp only at b
    split
    ·rename_i f g;rw [g]at b;simp at b
    ·rfl
   ·rename_i u;rw [u]at b;simp at b
   ·rfl
  rw [w]at hs
  obtain ⟨l,h1,h2⟩:=yu b hs
  refine ⟨l,st.heap,by rw [h1,St.res_self],fun st2 he a=> ?_⟩
  rw [w,<-a,St.res_self]
  exact h2 st2 he fun id _=>by rw [a]
 ·obtain ⟨dst,op,type,pos,after,guard⟩:=o
  cases op<;>simp only [ec,not_true_eq_false]at b<;>simp only [b1]at hs ⊢
  case call c=>
   split at hs
   ·rename_i f g
    obtain ⟨l,h,h1,h2⟩:=Vc Γ f _ dst st p s hs
    refine ⟨l,h,h1,fun st2 he a=> ?_⟩
    have:c.args.toList.map st2.ev=c.args.toList.map st.ev:=List.map_congr_left fun x d=>he x (by
     have:x∈c.args:=by rw [<-Array.mem_toList_iff];exact d
     simp [Op.operands,Call.operands,this])
    rw [this]
    exact h2 st2 a
   ·rename_i F
    simp only [bz]at hs ⊢
    split at hs
    ·rename_i g;rw [g]at b;simp at b
    ·rename_i g
     split at hs
     ·rename_i x y t t' d G
      split at hs
      ·rename_i e
       obtain ⟨l,h,h1,h2⟩:=U6 tt t (st.ev x) (st.ev y) dst st p s hs
       refine ⟨l,h,h1,fun st2 he a=> ?_⟩
       have i:=he x (by
             have:x∈c.args:=by rw [<-Array.mem_toList_iff,d];simp
             simp [Op.operands,Call.operands,this])
       have j:=he y (by
             have:y∈c.args:=by rw [<-Array.mem_toList_iff,d];simp
             simp [Op.operands,Call.operands,this])
       rw [if_pos e,i,j]
       exact h2 st2 a
      ·simp at hs
     ·simp at hs
    ·rename_i g
     split at hs
     ·rename_i x y d
      obtain ⟨l,h,h1,h2⟩:=Jl true (st.ev x) (st.ev y) dst st p s hs
      refine ⟨l,h,h1,fun st2 he a=> ?_⟩
      have i:=he x (by
            have:x∈c.args:=by rw [<-Array.mem_toList_iff,d];simp
            simp [Op.operands,Call.operands,this])
      have j:=he y (by
            have:y∈c.args:=by rw [<-Array.mem_toList_iff,d];simp
            simp [Op.operands,Call.operands,this])
      rw [i,j]
      exact h2 st2 a
     ·simp at hs
    ·rename_i g
     split at hs
     ·rename_i x y d
      obtain ⟨l,h,h1,h2⟩:=Jl false (st.ev x) (st.ev y) dst st p s hs
      refine ⟨l,h,h1,fun st2 he a=> ?_⟩
      have i:=he x (by
            have:x∈c.args:=by rw [<-Array.mem_toList_iff,d];simp
            simp [Op.operands,Call.operands,this])
      have j:=he y (by
            have:y∈c.args:=by rw [<-Array.mem_toList_iff,d];simp
            simp [Op.operands,Call.operands,this])
      rw [i,j]
      exact h2 st2 a
     ·simp at hs
    ·simp at hs
  case convert s1 t x=>
   simp only [bz]at hs ⊢
   obtain ⟨l,h,h1,h2⟩:=Vi tt s1 t (st.ev x) dst st p s hs
   exact ⟨l,h,h1,fun st2 he a=>by rw [he x (by simp [Op.operands])];exact h2 st2 a⟩
  case slice t x lo m mx=>
   cases mx with
   | some _=>simp [bz]at hs
   | none=>
     simp only at hs ⊢
     obtain ⟨l,h,h1,h2⟩:=Vl tt t (st.ev x) (lo.map st.ev) (m.map st.ev) dst st p s hs
     refine ⟨l,h,h1,fun st2 he a=> ?_⟩
     have C:lo.map st2.ev=lo.map st.ev:=by
      cases lo with
      | none=>rfl
      | some y=>simp [he y (by simp [Op.operands])]
     have B:m.map st2.ev=m.map st.ev:=by
      cases m with
      | none=>rfl
      | some y=>simp [he y (by simp [Op.operands])]
     rw [he x (by simp [Op.operands]),C,B]
     exact h2 st2 a
  case alloc t=>
   simp only [bz]at hs ⊢
   split at hs
   ·rename_i ti r
    cases hs
    exact ⟨_,_,rfl,fun st2 he a=>by simp only [St.new,a];rfl⟩
   ·simp at hs
  case box t x=>
   simp only [bz]at hs ⊢
   split at hs
   ·rename_i ti r
    cases hs
    exact ⟨_,_,rfl,fun st2 he a=>by rw [he x (by simp [Op.operands])];simp only [St.new,a];rfl⟩
   ·simp at hs
  case store t x y=>
   simp only [bz]at hs ⊢
   split at hs
   ·obtain ⟨l,h,h1,h2⟩:=U7 tt t (st.ev x) (st.ev y) st p s hs
    exact ⟨l,h,h1,fun st2 he a=>by rw [he x (by simp [Op.operands]),he y (by simp [Op.operands])];exact h2 st2 a⟩
   ·simp at hs
  case makeSlice t l c=>
   simp only [bz]at hs ⊢
   split at hs
   ·rename_i ti k n H E r el A
    split at hs
    ·rename_i e te v z
     cases hs
     refine ⟨_,_,rfl,fun st2 he a=> ?_⟩
     rw [he l (by simp [Op.operands]),he c (by simp [Op.operands]),el,A]
     simp only [r,v,z,St.new,a]
     rfl
    ·simp at hs
   ·simp at hs
  case buildSlice t n ps=>
   simp only [bz]at hs ⊢
   split at hs
   ·rename_i ti r
    split at hs
    ·rename_i e te v z
     split at hs
     ·rename_i g
      split at hs
      ·rename_i xs D
       cases hs
       refine ⟨_,_,rfl,fun st2 he a=> ?_⟩
       have:(ps.toList.map fun p=>(st2.ev p.2).cells)=ps.toList.map fun p=>(st.ev p.2).cells:=by
               refine List.map_congr_left fun q b=> ?_
               rw [he q.2 (by simp only [Op.operands,List.mem_toArray,List.mem_map];exact ⟨q,b,rfl⟩)]
       simp only [this,a]
       rw [if_pos g,D]
       rfl
      ·simp at hs
     ·simp at hs
    ·simp at hs
   ·simp at hs
  all_goals (simp [bz]at hs)
theorem yv (a:ec o=true) (st:St):b1 tt Γ o st=bz tt o st:=by
 unfold b1
 unfold ec at a
 split
 ·rename_i c b
  rw [b]at a
  simp only at a
  split
  ·rename_i f d;rw [d]at a;simp at a
  ·rfl
 ·rename_i b;rw [b]at a;simp at a
 ·rfl
end
end Go.T
