/- T: rows that take over a block; literals of slices. -/
import Derived.Test.YtlhkmndfkjlodaaT6
import Derived.Maps.AppendAt
set_option linter.unusedSimpArgs false
set_option linter.unusedVariables false
namespace Go.T
open Go
section
variable {w0 w w' : World} {mine : Mine} {m m' : Mp} {h : List Blk}
theorem HR.newA {h1:List Blk} {A:Nat→Prop} (H:HR w0 mine w m h) (hw:qL h h1) (x:Blk) (hfr:Fr A w w') (hA1: ∀k,A k→ ∃id x,h[id]?=some x∧k∈fpB m id x) (hA2: ∀k,A k→ ∀id y,h1[id]?=some y→k∉fpB m id y) (hA3: ∀k,A k→ ∀n b,qr m h n b→b≠k)
 (hval: ∀i,i<h.length→m'.val i=m.val i) (hblk: ∀i,i<h.length→m'.blk i=m.blk i) (hnst: ∀i,i<h.length→m'.nst i=m.nst i) (hext:m'.ext=m.ext)
 (hokx: ∀n b,qr m h n b→b<w.heap.size→okB m' n b h.length x)
 (hbr:Oks w w' m m' h (h1++[x])→qP m m' h (h1++[x])→BR w' m' (h1++[x]) h.length x)
 (hnd:(fpB m' h.length x).Nodup)
 (hlt: ∀b∈fpB m' h.length x,b<w'.heap.size∧(w0.heap.size≤b∨mine.own b)∧ ∀id y,h1[id]?=some y→b∉fpB m id y):
 HR w0 mine w' m' (h1++[x])∧Oks w w' m m' h (h1++[x])∧qP m m' h (h1++[x]):=by
 obtain ⟨H1,hok1,hs1⟩:=H.weaker hw
 have hl1:=hw.1
 have get: ∀id y,(h1++[x])[id]?=some y→(id<h.length∧h1[id]?=some y)∨(id=h.length∧y=x):=fun id y hy=>by
  by_cases hl:id<h1.length
  ·rw [List.getElem?_append_left hl]at hy;exact .inl ⟨by omega,hy⟩
  ·rw [List.getElem?_append_right (by omega)]at hy
   have:id - h1.length=0:=by
        rcases Nat.eq_zero_or_pos (id - h1.length)with h0 | h0
        ·exact h0
        ·rw [List.getElem?_eq_none (by simp;omega)]at hy;cases hy
   rw [this]at hy
   simp at hy
   exact .inr ⟨by omega,hy.symm⟩
 have okB_eq: ∀n b id y,id<h.length→(okB m' n b id y↔okB m n b id y):=fun n b id y hl=>by
  cases y<;>simp [okB,hval id hl,hblk id hl,hnst id hl]
 have fpB_eq: ∀id y,id<h.length→fpB m' id y=fpB m id y:=fun id y hl=>by
  cases y<;>simp [fpB,hval id hl,hblk id hl,hnst id hl]
 have hok:Oks w w' m m' h (h1++[x]):=fun n b hb hl=>⟨hfr.block b hl (fun hA=>hA3 b hA n b hb rfl),by rw [hext];exact hb.1,fun id y hy=>by
  rcases get id y hy with ⟨hl',hy'⟩ | ⟨rfl,rfl⟩
  ·exact (okB_eq n b id y hl').2 ((hok1 n b hb hl).2.2 id y hy')
  ·exact hokx n b hb hl⟩
 have hs:qP m m' h (h1++[x]):=fun id y hy=>by
  have hl:=(List.getElem?_eq_some_iff.1 hy).1
  obtain ⟨y1,hy1,hsm⟩:=hs1 id y hy
  refine ⟨y1,by rw [List.getElem?_append_left (by omega)];exact hy1,?_⟩
  cases y<;>cases y1<;>simp_all [Sim]
 refine ⟨⟨fun id y hy=> ?_,fun id y hy=> ?_,fun id y1 id' y2 hne h1' h2' b hb hb'=> ?_,fun id y hy b hb=> ?_,?_,hext.trans H.mx,H.nx,fun id v hp=>by
  obtain ⟨h1,h2⟩:=H.pn id v hp
  exact ⟨by simp;omega,by rw [hval id h1,hblk id h1];exact h2⟩⟩,hok,hs⟩
 ·rcases get id y hy with ⟨hl,hy'⟩ | ⟨rfl,rfl⟩
  ·obtain ⟨y0,hy0,hwk⟩: ∃y0,h[id]?=some y0∧qap y0 y:=⟨h[id],List.getElem?_eq_getElem hl,hw.2 id _ _ (List.getElem?_eq_getElem hl) hy'⟩
   exact qbN hok hs (hval id hl) (hblk id hl) (hnst id hl) (fun b hb=>hfr.block b (H1.lt id y hy' b hb).1 (fun hA=>hA2 b hA id y hy' hb)) (qhG hwk (H.br id y0 hy0))
  ·exact hbr hok hs
 ·rcases get id y hy with ⟨hl,hy'⟩ | ⟨rfl,rfl⟩
  ·rw [fpB_eq id y hl];exact H1.nd id y hy'
  ·exact hnd
 ·rcases get id y1 h1' with ⟨hl1,hy1⟩ | ⟨rfl,rfl⟩<;>rcases get id' y2 h2' with ⟨hl2,hy2⟩ | ⟨rfl,rfl⟩
  ·rw [fpB_eq id y1 hl1]at hb;rw [fpB_eq id' y2 hl2]at hb'
   exact H1.dj id y1 id' y2 hne hy1 hy2 b hb hb'
  ·rw [fpB_eq id y1 hl1]at hb
   exact (hlt b hb').2.2 id y1 hy1 hb
  ·rw [fpB_eq id' y2 hl2]at hb'
   exact (hlt b hb).2.2 id' y2 hy2 hb'
  ·exact hne rfl
 ·rcases get id y hy with ⟨hl,hy'⟩ | ⟨rfl,rfl⟩
  ·rw [fpB_eq id y hl]at hb
   have:=H1.lt id y hy' b hb
   exact ⟨Nat.lt_of_lt_of_le this.1 hfr.size,this.2⟩
  ·exact ⟨(hlt b hb).1,(hlt b hb).2.1⟩
 ·exact hfr.lift H hA1
theorem HR.newRowA {m:Mp} {A:Nat→Prop} {h h1:List Blk} {w':World} (H:HR w0 mine w m h) (hw:qL h h1) {e:Nat} {t:Ty} {xs:List (Val t)} {dp mt:Bool} {n:Nat} {v:Value} {inner:List Value} {B:List Nat}
 (hfr:Fr A w w') (hA1: ∀k,A k→ ∃id x,h[id]?=some x∧k∈fpB m id x) (hA2: ∀k,A k→ ∀id y,h1[id]?=some y→k∉fpB m id y) (hA3: ∀k,A k→ ∀n b,qr m h n b→b≠k) (hAB: ∀k,A k→k∉B) (hown:w'.ownsRow 0 e t.sz v xs.length inner) (hfresh: ∀b,v.ownBlock=some b→w.heap.size≤b∨A b)
 (hB: ∀b∈B,b<w.heap.size∧(w0.heap.size≤b∨mine.own b)∧ ∀i y,h1[i]?=some y→b∉fpB m i y) (hnd:B.Nodup)
 (hokB:dp=true→ ∀k b,qr m h k b→k≤n→b∉B) (hn:dp=true→n≤h.length) (hnB:dp=false→B=[])
 (hin:Oks w w' m (m.row h.length v B) h (h1++[.row e t xs dp mt n])→match dp with
   | true=>Ms (M w' t) xs inner B
   | false=>Ks (K w' (qr (m.row h.length v B) (h1++[.row e t xs dp mt n]) n) t) xs inner):
 HR w0 mine w' (m.row h.length v B) (h1++[.row e t xs dp mt n])∧Oks w w' m (m.row h.length v B) h (h1++[.row e t xs dp mt n])∧qP m (m.row h.length v B) h (h1++[.row e t xs dp mt n]):=by
 have hh:=H.newA hw (w':=w') (m':=m.row h.length v B) (.row e t xs dp mt n) hfr hA1 hA2 hA3 (fun i hi=>by simp [Mp.row];intro e;omega) (fun i _=>rfl) (fun i hi=>by simp [Mp.row];intro e;omega) rfl
  (fun k b hk hlt=>by
    refine ⟨fun _ hob=> ?_,fun hdp hle=> ?_⟩
    ·simp only [Mp.row,if_true]at hob
     rcases hfresh b hob with h1 | h1
     ·omega
     ·exact hA3 b h1 k b hk rfl
    ·simp only [Mp.row,if_true]
     exact hokB hdp k b hk hle)
  (fun ho hs=>by
    refine ⟨inner,by simp only [Mp.row,if_true];exact hown,?_⟩
    have:=hin ho
    cases dp with
    | true=>simp only [Mp.row,if_true];exact ⟨this,hn rfl⟩
    | false=>exact this)
  (by
    simp only [fpB,Mp.row,if_true]
    rw [List.nodup_append]
    refine ⟨by cases v.ownBlock<;>simp,by cases dp<;>simp [hnd],fun x hx y hy e=> ?_⟩
    cases dp with
    | false=>simp at hy
    | true=>
      have:=(hB y hy).1
      rcases hfresh x (by simpa using hx)with h1 | h1
      ·omega
      ·subst e;exact hAB x h1 hy)
  (fun b hb=>by
    simp only [fpB,Mp.row,if_true]at hb
    rcases List.mem_append.1 hb with hb | hb
    ·have hob:v.ownBlock=some b:=by simpa using hb
     rcases hfresh b hob with h1 | h1
     ·refine ⟨(hown.lt b hob).2,.inl (Nat.le_trans H.fr.size h1),fun i y hy hm=> ?_⟩
      have:=((H.weaker hw).1.lt i y hy b hm).1
      omega
     ·obtain ⟨id,x,hx,hm⟩:=hA1 b h1
      exact ⟨(hown.lt b hob).2,(H.lt id x hx b hm).2,hA2 b h1⟩
    ·cases dp with
     | false=>simp at hb
     | true=>
       obtain ⟨h1,h2,h3⟩:=hB b hb
       exact ⟨Nat.lt_of_lt_of_le h1 hfr.size,h2,h3⟩)
 exact hh
theorem qLR {h:List Blk} {ids:List Nat} {x:Blk} (H:HR w0 mine w m h) (hxd: ∀(e:Nat) (t:Ty) (xs:List (Val t)) (mt:Bool) (k:Nat),x=Blk.row e t xs true mt k→k≤h.length)
 (hok:Oks w w' m m' h (kill h ids++[x])) {n b:Nat} (hb:qr m h n b) (hlt:b<w.heap.size):qr m' (kill h ids++[x]) (h.length+1) b:=by
 have hlen:(kill h ids++[x]).length=h.length+1:=by simp [qaX]
 have hlo: ∀(id e:Nat) (t:Ty) (xs:List (Val t)) (mt:Bool) (k:Nat),(kill h ids++[x])[id]?=some (Blk.row e t xs true mt k)→k≤id:=by
  intro id e t xs mt k hy
  by_cases hl:id<(kill h ids).length
  ·rw [List.getElem?_append_left hl]at hy
   rcases qg1 ids h id _ hy with ⟨_,h0⟩ | ⟨_,h0⟩
   ·simp at h0
   ·exact H.lo_le id e t xs mt k h0
  ·rw [List.getElem?_append_right (by omega)]at hy
   have:id - (kill h ids).length=0:=by
        rcases Nat.eq_zero_or_pos (id - (kill h ids).length)with h0 | h0
        ·exact h0
        ·rw [List.getElem?_eq_none (by simp;omega)]at hy;cases hy
   rw [this]at hy
   simp at hy
   have:=hxd e t xs mt k hy
   rw [qaX]at hl
   omega
 have:=qkD hlo (hok n b hb hlt).2
 rwa [hlen]at this
theorem qQ6 {h:List Blk} {ids:List Nat} {x:Blk} (H:HR w0 mine w m h) (hm: ∀i,i<h.length→m'.val i=m.val i∧m'.blk i=m.blk i∧m'.nst i=m.nst i) (hext:m'.ext=m.ext) {n b:Nat} (hb:b∈qA m h ids) (hx:okB m' n b h.length x):
 qr m' (kill h ids++[x]) n b:=by
 refine ⟨by rw [hext];exact (qnL H hb 0).1,?_⟩
 intro i z hz
 by_cases hl:i<(kill h ids).length
 ·rw [List.getElem?_append_left hl]at hz
  obtain ⟨e1,e2,e3⟩:=hm i (by rw [qaX]at hl;exact hl)
  have:=(qnL H hb n).2 i z hz
  cases z<;>simp_all [okB]
 ·rw [List.getElem?_append_right (by omega)]at hz
  have h0:i - (kill h ids).length=0:=by
   rcases Nat.eq_zero_or_pos (i - (kill h ids).length)with h0 | h0
   ·exact h0
   ·rw [List.getElem?_eq_none (by simp;omega)]at hz;cases hz
  rw [h0]at hz
  simp at hz
  subst hz
  have:i=h.length:=by rw [qaX]at hl h0;omega
  subst this
  exact hx
theorem qEf {m:Mp} {h:List Blk} {v:Value} {B:List Nat}: ∀i,i<h.length→(m.row h.length v B).val i=m.val i∧(m.row h.length v B).blk i=m.blk i∧(m.row h.length v B).nst i=m.nst i:=fun i hi=>by
 have:i≠h.length:=by omega
 simp [Mp.row,this]
theorem qRF {ids:List Nat} {e:Nat} {t:Ty} {xs:List (Val t)} {mt:Bool} {n:Nat} {v:Value} (H:HR w0 mine w m h) (hfresh: ∀b,v.ownBlock=some b→w.heap.size≤b)
 (hok:Oks w w' m (m.row h.length v []) h (kill h ids++[.row e t xs false mt n])) {c:LC} (hc: ∀id,c= .own id→id∈ids):okC w m h (qr (m.row h.length v []) (kill h ids++[.row e t xs false mt n]) (h.length+1)) c:=by
 have hx: ∀n' b,b<w.heap.size→okB (m.row h.length v []) n' b h.length (.row e t xs false mt n):=fun k b hlt=>by
  refine ⟨fun _ hob=> ?_,fun hh=>by simp at hh⟩
  simp only [Mp.row,if_true]at hob
  have:=hfresh b hob
  omega
 exact qOO (m':=m.row h.length v []) (x:= .row e t xs false mt n) H qEf rfl hx (by simp) hok hc
theorem qAR {cs:List LC} {id:Nat} (h:LC.own id∈cs):id∈qf cs:=by
 simp only [qf,List.mem_filterMap]
 exact ⟨_,h,rfl⟩
end
end Go.T
/- T: literals of slices. -/
namespace Go.T
open Go
theorem qu7 (h:List Blk): ∀t:Ty,qu h t []=none
 | .int _ | .bool | .str | .hdr | .slice _ _=>by simp [qu]
 | .pair a b=>by simp [qu,qu7 h a]
theorem qEI {h:List Blk} {t:Ty}: ∀{css:List (List LC)} {xs:List (Val t)},qaQ h t css=some xs→ ∀cs∈css,0<cs.length
 | [],_,_=>by simp
 | cs::css,xs,hi=>by
   simp only [qaQ]at hi
   split at hi
   ·rename_i v hv
    split at hi
    ·rename_i vs hvs
     intro c hc
     rcases List.mem_cons.1 hc with rfl | hc
     ·cases c with
      | nil=>rw [qu7]at hv;simp at hv
      | cons=>simp
     ·exact qEI hvs c hc
    ·simp at hi
   ·simp at hi
section
variable {P : Program} {tt : TT} {o : Oper} {a : Act} {w0 w : World} {mine : Mine} {st : St} {next : Act → World → Prop} {Q : Exit → Act → World → Prop}
theorem qB2 {m:Mp} (H:HR w0 mine w m st.heap) (he:F2 (V w m st.heap) st.env a.tmps.toList): ∀ps:List (Nat×Operand),(∀p∈ps,(st.ev p.2).cells.all LC.isDef=true∧0<(st.ev p.2).cells.length)→
 F2 (F2 (C w m st.heap)) (ps.map fun p=>(st.ev p.2).cells) (ps.map fun p=>(a.eval p.2).cells.toList)∧ ∀p∈ps,∀u∈(a.eval p.2).cells.toList,u.oneCell'=true
 | [],_=>⟨.nil,by simp⟩
 | p::ps,hp=>by
   obtain ⟨h1,h2⟩:=hp p (by simp)
   obtain ⟨h3,h4⟩:=qgQ H.br (R.ev H he p.2) h1 h2
   obtain ⟨h5,h6⟩:=qB2 H he ps fun q hq=>hp q (by simp [hq])
   refine ⟨.cons h3 h5,fun q hq=> ?_⟩
   rcases List.mem_cons.1 hq with rfl | hq
   ·exact h4
   ·exact h6 q hq
theorem qLk (hT:qN P tt) {t n:Nat} {ti:TI} (ht:tt.get t=some ti) {ps:Array (Nat×Operand)} (ho:o.op= .buildSlice t n ps) {e:Nat} {te:Ty} (hag:ti.agg=false) (hty:ti.ty= .slice e te)
 (hix:ps.toList.map (·.1)=List.range n) (hsm:n*te.sz≤65536) (hnd:qaO (qf (ps.toList.map fun p=>(st.ev p.2).cells).flatten)=true) (hdef:(ps.toList.map fun p=>(st.ev p.2).cells).flatten.all LC.isDef=true)
 {xs:List (Val te)} (hxs:qaQ st.heap te (ps.toList.map fun p=>(st.ev p.2).cells)=some xs) (hr:R w0 mine st a w)
 (hn: ∀a' w',R w0 mine {(st.put o.dst (.one (.own st.heap.length)))with heap:=newRow st.heap e te xs (te.flat||qW st.heap (ps.toList.map fun p=>(st.ev p.2).cells).flatten) (qf (ps.toList.map fun p=>(st.ev p.2).cells).flatten)} a' w'→next a' w'):o.wp P a w next Q:=by
 obtain ⟨hd,m,H,he⟩:=hr
 have hti:=hT t ti ht
 obtain ⟨hu,tie,hte,htt⟩:=hti.slc hag e te hty
 obtain ⟨i,z,hi,hs,hz,hzc,hby⟩:=(hT e tie hte).info
 rw [htt]at hs hzc
 have hpos:=qEI hxs
 obtain ⟨hff,h1⟩:=qB2 H he ps.toList fun p hp=>⟨List.all_eq_true.2 fun c hc=>List.all_eq_true.1 hdef c (List.mem_flatten.2 ⟨_,List.mem_map.2 ⟨p,hp,rfl⟩,hc⟩),hpos _ (List.mem_map.2 ⟨p,hp,rfl⟩)⟩
 obtain ⟨hk,hxl,hvl⟩:=qqO (ok:=fun _=>True) H.br hff hxs (fun c _=>by
  cases c<;>simp only [okC]
  ·exact fun _ _ _=>trivial
  ·intro x _
   exact ⟨fun _ _=>trivial,by split<;>simp⟩)
 have hlen:ps.toList.length=n:=by
  have:=congrArg List.length hix
  simpa using this
 have hxn:xs.length=n:=by rw [hxl,List.length_map,hlen]
 -- the machine's
 let vs:List (Nat×Value):=ps.toList.map fun p=>(p.1,a.eval p.2)
 have hvs1:vs.map (·.1)=(List.range vs.length).map (0+ ·):=by
  simp only [vs,List.map_map,List.length_map,hlen,Nat.zero_add,List.map_id']
  rw [←hix];rfl
 have hvs2: ∀p∈vs,p.2.cells.size=te.sz:=by
  intro p hp
  obtain ⟨q,hq,rfl⟩:=List.mem_map.1 hp
  have:=hvl _ (List.mem_map.2 ⟨q,hq,rfl⟩)
  simpa using this
 have hvl':vs.length=n:=by simp [vs,hlen]
 obtain ⟨res,hfill,hres⟩:=qEU te.sz vs 0 ((Array.range (n*te.sz)).map ((if n*te.sz=0 then (#[]:Array Value)else z.cells)[· % (if n*te.sz=0 then (#[]:Array Value)else z.cells).size]!)) hvs1 hvs2 (by simp [hvl'])
 have hres':res.toList=(ps.toList.map fun p=>(a.eval p.2).cells.toList).flatten:=by
  rw [hres]
  simp only [Nat.zero_mul,List.take_zero,List.nil_append,Nat.zero_add,hvl']
  rw [List.drop_eq_nil_of_le (by simp),List.append_nil]
  simp only [vs,List.map_map]
  rfl
 have hrs:res.size=n*te.sz:=by
  have h2:=hk.len fun x c hk=>qaj hk
  rw [←hres',hxn]at h2
  simpa using h2
 have hrun:(execOp a.eval o).run P w= .ok (.value (.slice (some ⟨w.heap.size,0,none⟩) n n)) (w.alloc (.cells res e)):=by
  have hsz:(sizeOf e).run P w= .ok te.sz w:=by simp [Go.sizeOf,typeInfo,hi,hs]
  by_cases h0:n*te.sz=0
  ·simp only [h0,if_true,vs]at hfill
   simp at hfill
   simp [execOp,ho,Instr.buildSlice,run_underlying hu,hsz,h0,hfill,Go.newRow]
   try rfl
  ·simp only [h0,if_false,vs]at hfill
   have hz':(zeroValue e).run P w= .ok z w:=by simp [zeroValue,typeInfo,hi,hz]
   have h24: ¬(2 ^ 24<n*te.sz):=by omega
   simp [execOp,ho,Instr.buildSlice,run_underlying hu,hsz,h0,hz',h24,hfill,Go.newRow]
   try rfl
 refine qbC hrun (hn _ _ ?_)
 have hown:(w.alloc (.cells res e)).ownsRow 0 e te.sz (.slice (some ⟨w.heap.size,0,none⟩) n n) xs.length (ps.toList.map fun p=>(a.eval p.2).cells.toList).flatten:=by
  rw [hxn,←hres']
  exact World.ownsRow_lit w res n (Nat.zero_le _) (by
   have:=te.sz_pos
   have:n≤n*te.sz:=Nat.le_mul_of_pos_right _ this
   simp only [maxLen];omega) hrs
 have hold: ∀b,b<w.heap.size→(w.alloc (.cells res e)).heap[b]?=w.heap[b]?:=fun b hb=>heap_alloc_old w _ b hb
 have hfresh: ∀b,Value.ownBlock (.slice (some ⟨w.heap.size,0,none⟩) n n)=some b→w.heap.size≤b:=fun b hb=>by simp [Value.ownBlock]at hb;omega
 unfold newRow
 cases hdp:(te.flat||qW st.heap (ps.toList.map fun p=>(st.ev p.2).cells).flatten)with
 | true=>
   simp only [cond_true]
   by_cases hf:te.flat=true
   ·refine R.newedW hd he (HR.newRow H (qL.kill _ _) (dp:=true) (mt:=true) (B:=[]) (qkf w _ _) hown hfresh (by simp) List.nodup_nil (by simp) (fun _=>qcV _ _ _) (fun h=>by simp at h) (fun _=> ?_)) _ (qd7 (qaX _ _))
    exact qoR hf (hk.imp fun x c hx=>qaf (ok':=fun _=>True) (fun b _ hb=>hold b hb) (fun _ _ _=>trivial) hx)
   ·have hdeep:qW st.heap (ps.toList.map fun p=>(st.ev p.2).cells).flatten=true:=by simpa [hf] using hdp
    have hM:=qCu H.br hff hxs hdeep
    refine R.newedW hd he (HR.newRow H (qL.kill _ _) (dp:=true) (mt:=true) (B:=qA m st.heap (qf (ps.toList.map fun p=>(st.ev p.2).cells).flatten)) (qkf w _ _) hown hfresh (fun b hb=>qcK H hb) (qj4 H (qiD hnd)) (fun _ k b hk hle=>qBC hk hle) (fun _=>qcV _ _ _) (fun h=>by simp at h) (fun _=> ?_)) _ (qd7 (qaX _ _))
    exact hM.imp fun x c b hb hx=>qb1 hx fun k hk=>hold k (qcK H (hb k hk)).1
 | false=>
   simp only [cond_false]
   refine R.newedW hd he (HR.newRow H (qL.kill _ _) (dp:=false) (mt:=true) (B:=[]) (qkf w _ _) hown hfresh (by simp) List.nodup_nil (by simp) (by simp) (fun h=>rfl) (fun hok=> ?_)) _ (qd7 (qaX _ _))
   obtain ⟨hk',_,_⟩:=qqO (ok:=qr (m.row st.heap.length (.slice (some ⟨w.heap.size,0,none⟩) n n) []) (kill st.heap (qf (ps.toList.map fun p=>(st.ev p.2).cells).flatten)++[.row e te xs false true (st.heap.length+1)]) (st.heap.length+1)) H.br hff hxs
    (fun c hc=>qRF H hfresh hok fun id hid=>qAR (hid▸hc))
   exact hk'.imp fun x c hx=>qaf (fun b _ hb=>hold b hb) (fun b h _=>h) hx
end
end Go.T
/- T: appends. -/
namespace Go.T
open Go
theorem Rd.list {α:Type} {w:World} {ok:Nat→Prop} {sz:Nat} {R:α→List Value→Prop} {a:Addr} (hs: ∀x c,R x c→c.length=sz):
 ∀(xs:List α) (k:Nat),(∀i x,xs[i]?=some x→ ∃cs,R x cs∧At w (a.add ((k+i)*sz)) cs)→ ∃news,Ks R xs news∧At w (a.add (k*sz)) news
 | [],k,_=>⟨[],rfl,fun j u hu=>by simp at hu⟩
 | x::xs,k,h=>by
   obtain ⟨c,hc,hat⟩:=h 0 x (by simp)
   obtain ⟨news,hn,hnat⟩:=Rd.list (ok:=ok) hs xs (k+1) fun i y hy=>by
    obtain ⟨cs,h1,h2⟩:=h (i+1) y (by simpa using hy)
    exact ⟨cs,h1,by rw [show k+1+i=k+(i+1) by omega];exact h2⟩
   refine ⟨c++news,⟨c,news,rfl,hc,hn⟩,fun j u hu=> ?_⟩
   rw [List.getElem?_append]at hu
   split at hu
   ·have:=hat j u hu
    simpa using this
   ·rename_i hj
    have hl:=hs x c hc
    have:=hnat _ u hu
    rw [qen]at this ⊢
    rw [show k*sz+j=(k+1)*sz+(j - c.length) by rw [Nat.succ_mul];omega]
    exact this
section
variable {P : Program} {tt : TT} {o : Oper} {a : Act} {w0 w : World} {mine : Mine} {st : St} {next : Act → World → Prop} {Q : Exit → Act → World → Prop}
theorem qJC (base:Nat) (t ty e:TypeId) (i:TypeInfo) (size:Nat) (ht:P.underlying t=some (.slice e)) (hi:P.info? e=some i)
 (v:Value) (n c:Nat) (xs:List Value) (hown:w.ownsRow base e size v n xs):
 (Builtin.append_ #[t,t] ty #[v,.slice none 0 c]).run P w= .ok v w:=by
 rcases hown.2 with ⟨rfl,rfl⟩ | ⟨g,cap,cur,rfl,_,_,hnc,_⟩
 ·simp [Builtin.append_,run_underlying ht,sizeOf,typeInfo,hi,Builtin.lenOf,Builtin.firstCells]
 ·simp [Builtin.append_,run_underlying ht,sizeOf,typeInfo,hi,Builtin.lenOf,Builtin.firstCells,hnc,storeCells]
theorem qIL (hT:qN P tt) {t ty e:Nat} {ti:TI} (ht:tt.get t=some ti) {te:Ty} (hag:ti.agg=false) (hty:ti.ty= .slice e te)
 {v:Value} {n k c:Nat} {inner news:List Value} (hown:w.ownsRow 0 e te.sz v n inner) {A:Option Addr} (hA:A=none→k=0) (hl:news.length=k*te.sz) (hnews: ∀ad,A=some ad→At w ad news) (h1: ∀u∈news,u.oneCell'=true) (hlim:n+k≤1048576):
 ∃v' w',(Builtin.append_ #[t,t] ty #[v,.slice A k c]).run P w= .ok v' w'∧w'.ownsRow 0 e te.sz v' (n+k) (inner++news)∧w.grownBy w' v.ownBlock∧(v'.ownBlock=v.ownBlock∨v'.ownBlock=some w.heap.size):=by
 have hti:=hT t ti ht
 obtain ⟨hu,tie,hte,htt⟩:=hti.slc hag e te hty
 obtain ⟨i,z,hi,hs,hz,hzc,hby⟩:=(hT e tie hte).info
 rw [htt]at hs hzc
 cases A with
 | none=>
   have hk:=hA rfl
   subst hk
   have:news=[]:=List.eq_nil_of_length_eq_zero (by simpa using hl)
   subst this
   exact ⟨v,w,qJC 0 t ty e i te.sz hu hi v n c inner hown,by simpa using hown,⟨rfl,rfl,rfl,Nat.le_refl _,fun _ _ _=>rfl⟩,.inl rfl⟩
 | some ad=>
   have hb:(n+k)*i.bytes≤1048576*65536:=Nat.mul_le_mul hlim hby
   obtain ⟨v',w',h2,h3,h4,_,h5⟩:=run_append_own_at (P:=P) w 0 t ty e i z te.sz i.bytes hu hi hz hs rfl (by
    have:=congrArg List.length hzc
    simpa [qbl] using this) te.sz_pos v n inner hown ad k c news hl (hnews ad rfl) h1 (by simp only [maxLen];omega) (by omega) (Nat.zero_le _)
   exact ⟨v',w',h2,h3,h4,h5⟩
structure Part (w:World) (m:Mp) (h:List Blk) (te:Ty) (xs:List (Val te)) (d:Bool) (cs:List Value) (B:List Nat):Prop where
 deep:d=true→Ms (M w te) xs cs B
 read: ∀ok:Nat→Prop,(∀n b,qr m h n b→b<w.heap.size→ok b)→(∀b∈B,ok b)→Ks (K w ok te) xs cs
theorem Part.flat {m:Mp} {h:List Blk} {te:Ty} {xs:List (Val te)} {d:Bool} {cs:List Value} {B:List Nat} (hp:Part w m h te xs d cs B) (hf:te.flat=true):Ms (M w te) xs cs []:=
 qoR hf (hp.read (fun _=>True) (fun _ _ _ _=>trivial) fun _ _=>trivial)
theorem Part.row {m:Mp} (H:HR w0 mine w m st.heap) {id e:Nat} {te:Ty} {xs:List (Val te)} {dp mt:Bool} {n:Nat} (hb:st.heap[id]?=some (.row e te xs dp mt n)):
 ∃inner,w.ownsRow 0 e te.sz (m.val id) xs.length inner∧Part w m st.heap te xs dp inner (match dp with | true=>m.nst id | false=>[]):=by
 obtain ⟨inner,hown,hin⟩:=H.br id _ hb
 refine ⟨inner,hown,?_⟩
 cases dp with
 | true=>exact ⟨fun _=>hin.1,fun ok h1 h2=>hin.1.toKs fun x c b hbs hm=>M_K hm fun k hk=>h2 k (hbs k hk)⟩
 | false=>exact ⟨fun h=>by simp at h,fun ok h1 h2=>hin.imp fun x c hk=>qaf (fun _ _ _=>rfl) (fun b hb hl=>h1 _ b hb hl) hk⟩
theorem qIo {m:Mp} (hd:a.defers=[]) (H:HR w0 mine w m st.heap) (he:F2 (V w m st.heap) st.env a.tmps.toList) {e:Nat} {te:Ty} {xs ys:List (Val te)} {d1 d2:Bool} {i1 i2:List Nat} {v v':Value} {w':World} {inner news:List Value} {B1 B2:List Nat}
 (p1:Part w m st.heap te xs d1 inner B1) (p2:Part w m st.heap te ys d2 news B2) (hs1:List.Sublist (v.ownBlock.toList++B1) (qA m st.heap i1)) (hs2:te.flat=false→List.Sublist B2 (qA m st.heap i2)) (hi2:te.flat=true→i2=[]) (hnd:(i1++i2).Nodup)
 (htop: ∀k,v.ownBlock=some k→ ∀n b,qr m st.heap n b→b≠k) (hown:w'.ownsRow 0 e te.sz v' (xs.length+ys.length) (inner++news)) (hg:w.grownBy w' v.ownBlock) (hdr:w.drawn≤w'.drawn) (hv':v'.ownBlock=v.ownBlock∨v'.ownBlock=some w.heap.size)
 (hn: ∀a' w',R w0 mine {(st.put o.dst (.one (.own st.heap.length)))with heap:=newRow st.heap e te (xs++ys) (te.flat||(d1&&d2)) (i1++i2)} a' w'→next a' w'):next (a.put o.dst v') w':=by
 refine hn _ _ ?_
 have hnd':(qA m st.heap (i1++i2)).Nodup:=qj4 H hnd
 rw [qdn]at hnd'
 have hmem1: ∀k,v.ownBlock=some k→k∈qA m st.heap (i1++i2):=fun k hk=>by
  rw [qdn]
  exact List.mem_append_left _ (hs1.subset (by simp [hk]))
 have hB1: ∀b∈B1,b∈qA m st.heap (i1++i2):=fun b hb=>by
  rw [qdn]
  exact List.mem_append_left _ (hs1.subset (List.mem_append_right _ hb))
 have hfr:Fr (fun k=>v.ownBlock=some k) w w':=⟨hg.os,hg.tape,hg.output,hg.size,fun k hk hn=>hg.block k hk fun e=>hn e.symm,hdr⟩
 have hA1: ∀k,v.ownBlock=some k→ ∃id x,st.heap[id]?=some x∧k∈fpB m id x:=fun k hk=>by
  obtain ⟨id,x,_,h2,h3⟩:=qfR (hmem1 k hk)
  exact ⟨id,x,h2,h3⟩
 have hA2: ∀k,v.ownBlock=some k→ ∀id y,(kill st.heap (i1++i2))[id]?=some y→k∉fpB m id y:=fun k hk=>(qcK H (hmem1 k hk)).2.2
 have hfresh: ∀b,v'.ownBlock=some b→w.heap.size≤b∨v.ownBlock=some b:=fun b hb=>by
  rcases hv' with h | h
  ·right;rw [←h];exact hb
  ·left;rw [h]at hb;cases hb;exact Nat.le_refl _
 have hlen:(xs++ys).length=xs.length+ys.length:=by simp
 unfold newRow
 cases hf:te.flat with
 | true=>
   simp only [Bool.true_or,cond_true]
   refine R.newedW hd he (HR.newRowA H (qL.kill _ _) (dp:=true) (mt:=true) (B:=[]) hfr hA1 hA2 htop (by simp) (by rw [hlen];exact hown) hfresh (by simp) List.nodup_nil (by simp) (fun _=>qcV _ _ _) (fun h=>by simp at h) (fun _=> ?_)) _ (qd7 (qaX _ _))
   exact ((p1.flat hf).append (p2.flat hf)).imp fun x c b hb hx=>qb1 hx fun k hk=>by have:=hb k hk;simp at this
 | false=>
   simp only [Bool.false_or]
   have hs2:=hs2 hf
   have hB2: ∀b∈B2,b∈qA m st.heap (i1++i2):=fun b hb=>by
    rw [qdn]
    exact List.mem_append_right _ (hs2.subset hb)
   have hsub:List.Sublist ((v.ownBlock.toList++B1)++B2) (qA m st.heap i1++qA m st.heap i2):=hs1.append hs2
   have hnd2:=hnd'.sublist hsub
   rw [List.append_assoc]at hnd2
   obtain ⟨_,hndB,hdj⟩:=List.nodup_append.1 hnd2
   have hBm: ∀b∈B1++B2,b∈qA m st.heap (i1++i2):=fun b hb=>by
    rcases List.mem_append.1 hb with hb | hb
    ·exact hB1 b hb
    ·exact hB2 b hb
   have hAB: ∀k,v.ownBlock=some k→k∉B1++B2:=fun k hk hm=>hdj k (by simp [hk]) k hm rfl
   cases hdd:(d1&&d2)with
   | true=>
     simp only [cond_true]
     simp only [Bool.and_eq_true]at hdd
     refine R.newedW hd he (HR.newRowA H (qL.kill _ _) (dp:=true) (mt:=true) (B:=B1++B2) hfr hA1 hA2 htop hAB (by rw [hlen];exact hown) hfresh (fun b hb=>qcK H (hBm b hb)) hndB (fun _ k b hk hle hm=>qBC hk hle (hBm b hm)) (fun _=>qcV _ _ _) (fun h=>by simp at h) (fun _=> ?_)) _ (qd7 (qaX _ _))
     exact ((p1.deep hdd.1).append (p2.deep hdd.2)).imp fun x c b hb hx=>qb1 hx fun k hk=>hg.block k (qcK H (hBm k (hb k hk))).1 fun e=>hAB k e.symm (hb k hk)
   | false=>
     simp only [cond_false]
     refine R.newedW hd he (HR.newRowA H (qL.kill _ _) (dp:=false) (mt:=true) (B:=[]) hfr hA1 hA2 htop (by simp) (by rw [hlen];exact hown) hfresh (by simp) List.nodup_nil (by simp) (by simp) (fun h=>rfl) (fun hok=> ?_)) _ (qd7 (qaX _ _))
     have c1: ∀n b,qr m st.heap n b→b<w.heap.size→ ¬v.ownBlock=some b∧qr (m.row st.heap.length v' []) (kill st.heap (i1++i2)++[.row e te (xs++ys) false true (st.heap.length+1)]) (st.heap.length+1) b:=
        fun n b hb hl=>⟨fun e=>htop b e n b hb rfl,qLR H (by simp) hok hb hl⟩
     have c2: ∀b∈B1++B2,¬v.ownBlock=some b∧qr (m.row st.heap.length v' []) (kill st.heap (i1++i2)++[.row e te (xs++ys) false true (st.heap.length+1)]) (st.heap.length+1) b:=fun b hb=>by
        refine ⟨fun e=>hAB b e hb,qQ6 H qEf rfl (hBm b hb) ⟨fun _ hob=> ?_,fun h=>by simp at h⟩⟩
        simp only [Mp.row,if_true]at hob
        rcases hfresh b hob with h | h
        ·have:=(qcK H (hBm b hb)).1;omega
        ·exact hAB b h hb
     have:=(p1.read _ c1 fun b hb=>c2 b (List.mem_append_left _ hb)).append (p2.read _ c1 fun b hb=>c2 b (List.mem_append_right _ hb))
     exact this.imp fun x c hx=>qaf (fun b hb hl=>hg.block b hl fun e=>hb.1 e.symm) (fun b h _=>h.2) hx
end
end Go.T
/- T: appends. -/
namespace Go.T
open Go
section
variable {P : Program} {tt : TT} {o : Oper} {a : Act} {w0 w : World} {mine : Mine} {st : St} {next : Act → World → Prop} {Q : Exit → Act → World → Prop}
theorem Part.nil (w:World) (m:Mp) (h:List Blk) (te:Ty) (d:Bool):Part w m h te [] d [] []:=⟨fun _=>⟨rfl,rfl⟩,fun _ _ _=>rfl⟩
theorem qQx {m:Mp} (H:HR w0 mine w m st.heap) {x:LV} {v:Value} (hv:V w m st.heap x v) {e:Nat} {te:Ty} {xs:List (Val te)} {d:Bool} {i1:List Nat} (hs:qgs st.heap e te x=some (xs,d,i1)):
 ∃inner B,w.ownsRow 0 e te.sz v xs.length inner∧Part w m st.heap te xs d inner B∧List.Sublist (v.ownBlock.toList++B) (qA m st.heap i1)∧(∀k,v.ownBlock=some k→ ∀n b,qr m st.heap n b→b≠k):=by
 unfold qgs at hs
 split at hs
 ·cases hs
  have hv':v= .slice none 0 0:=hv
  subst hv'
  exact ⟨[],[],World.ownsRow_nil w 0 e te.sz,Part.nil _ _ _ _ _,by simp [Value.ownBlock],fun k hk=>by simp [Value.ownBlock]at hk⟩
 ·rename_i id
  split at hs
  ·rename_i e' t' xs' dp n hb
   split at hs
   ·rename_i hh
    obtain ⟨rfl,rfl⟩:=hh
    cases hs
    simp only [V,C,hb]at hv
    subst hv
    obtain ⟨inner,hown,hp⟩:=Part.row H hb
    refine ⟨inner,_,hown,hp,?_,fun k hk n' b hok e=> ?_⟩
    ·cases d<;>simp [qA,hb,fpB]
    ·subst e
     exact (hok.2 id _ hb).1 (.inl rfl) hk
   ·simp at hs
  ·simp at hs
 ·simp at hs
theorem qLt {m:Mp} (H:HR w0 mine w m st.heap) {y:LV} {v:Value} (hv:V w m st.heap y v) {e:Nat} {te:Ty} {ys:List (Val te)} {d:Bool} {i2:List Nat} (hs:qf1 st.heap e te y=some (ys,d,i2)):
 ∃A c news B,v= .slice A ys.length c∧(A=none→ys.length=0)∧(∀ad,A=some ad→At w ad news)∧Part w m st.heap te ys d news B∧(te.flat=false→List.Sublist B (qA m st.heap i2))∧(te.flat=true→i2=[]):=by
 unfold qf1 at hs
 split at hs
 ·cases hs
  have hv':v= .slice none 0 0:=hv
  subst hv'
  exact ⟨none,0,[],[],rfl,fun _=>rfl,fun ad h=>by simp at h,Part.nil _ _ _ _ _,fun _=>List.nil_sublist _,fun _=>rfl⟩
 ·rename_i id
  split at hs
  ·rename_i e' t' xs' dp mt n hb
   split at hs
   ·rename_i hh
    obtain ⟨rfl,rfl⟩:=hh
    cases hs
    simp only [V,C,hb]at hv
    subst hv
    obtain ⟨inner,hown,hp⟩:=Part.row H hb
    obtain ⟨A,c,hvA,_,hA,hA0⟩:=qc8 hown
    refine ⟨A,c,inner,_,hvA,hA0,fun ad had=> ?_,hp,fun hf=> ?_,fun hf=>by simp [hf]⟩
    ·obtain ⟨h1,h2⟩:=hA ad had
     have:=qAT hown h1
     rwa [←h2]at this
    ·cases d<;>simp [hf,qA,hb,fpB]
   ·simp at hs
  ·simp at hs
 ·rename_i e' t' xs' n
  split at hs
  ·rename_i hh
   obtain ⟨rfl,rfl⟩:=hh
   cases hs
   obtain ⟨A,c,rfl,hl,hr⟩:=hv
   cases A with
   | none=>
     cases xs' with
     | nil=>exact ⟨none,c,[],[],rfl,fun _=>rfl,fun ad h=>by simp at h,Part.nil _ _ _ _ _,fun _=>List.nil_sublist _,fun _=>rfl⟩
     | cons z zs=>obtain ⟨a,cs,h,_⟩:=hr 0 z (by simp);simp at h
   | some ad=>
     obtain ⟨news,hk,hat⟩:=Rd.list (ok:=fun _=>True) (R:=K w (qr m st.heap n) t') (w:=w) (a:=ad) (sz:=t'.sz) (fun x c h=>qaj h) xs' 0 (fun i x hx=>by
      obtain ⟨a,cs,ha,_,hk,hat⟩:=hr i x hx
      cases ha
      exact ⟨cs,hk,by simpa using hat⟩)
     refine ⟨some ad,c,news,[],rfl,fun h=>by simp at h,fun a' h=>by cases h;simpa [Addr.add] using hat,⟨fun hf=>qoR hf hk,fun ok h1 _=>hk.imp fun x c hx=>qaf (fun _ _ _=>rfl) (fun b hb hl=>h1 n b hb hl) hx⟩,fun _=>List.nil_sublist _,fun _=>rfl⟩
  ·simp at hs
 ·simp at hs
theorem Part.one {m:Mp} {h:List Blk} {te:Ty} {xs:List (Val te)} {d:Bool} {cs:List Value} {B:List Nat} (hp:Part w m h te xs d cs B):cs.length=xs.length*te.sz∧ ∀u∈cs,u.oneCell'=true:=by
 have hk:=hp.read (fun _=>True) (fun _ _ _ _=>trivial) fun _ _=>trivial
 refine ⟨hk.len fun x c h=>qaj h,?_⟩
 clear hp
 induction xs generalizing cs with
 | nil=>rw [Ks]at hk;subst hk;simp
 | cons x xs ih=>
   obtain ⟨c1,c2,rfl,h1,h2⟩:=hk
   intro u hu
   rcases List.mem_append.1 hu with hu | hu
   ·exact qkk h1 u hu
   ·exact ih h2 u hu
theorem qHr (hT:qN P tt) {c:Call} {t:Nat} {x y:Operand} (ho:o.op= .call c) (hc:c.callee= .builtin .append) (ha:c.args= #[x,y]) (hat:c.argTypes= #[t,t]) {p:Prop} {st':St} (hs:qdp tt t (st.ev x) (st.ev y) o.dst st=some (p,st')) (hp:p) (hr:R w0 mine st a w)
 (hn: ∀a' w',R w0 mine st' a' w'→next a' w'):o.wp P a w next Q:=by
 obtain ⟨hd,m,H,he⟩:=hr
 unfold qdp at hs
 split at hs
 ·simp at hs
 rename_i ti ht
 split at hs
 ·rename_i e te hag hty
  split at hs
  ·rename_i xs d1 i1 hdst
   split at hs
   ·rename_i ys d2 i2 hsrc
    split at hs
    ·rename_i hnd
     cases hs
     obtain ⟨inner,B1,hown,p1,hs1,htop⟩:=qQx H (R.ev H he x) hdst
     obtain ⟨A,cp,news,B2,hyv,hA,hat',p2,hs2,hi2⟩:=qLt H (R.ev H he y) hsrc
     obtain ⟨v',w',hrun,hown',hg,hv'⟩:=qIL (ty:=o.type) hT ht hag hty hown hA p2.one.1 hat' p2.one.2 hp (c:=cp)
     refine qbC (v:=v') (w':=w') ?_ (qIo hd H he p1 p2 hs1 hs2 hi2 (qiD hnd) htop hown' hg (qGH _ _ _ hrun) hv' hn)
     simp only [execOp,ho,resolve,hc,ha,hat,invoke,builtin,Sem.run_bind,Sem.run_pure,Result.andThen_ok,List.map_toArray,List.map_cons,List.map_nil,hyv,hrun]
    ·simp at hs
   ·simp at hs
  ·simp at hs
 ·simp at hs
end
end Go.T
/- T: whole elements stored. -/
namespace Go.T
open Go
theorem qEG: ∀(ids:List Nat) (h:List Blk) (i:Nat),i∉ids→(kill h ids)[i]?=h[i]?
 | [],h,i,_=>rfl
 | j::r,h,i,hn=>by
   have:(kill h (j::r))=kill (h.set j .dead) r:=rfl
   rw [this,qEG r _ i (fun hm=>hn (List.mem_cons_of_mem _ hm)),List.getElem?_set_ne (fun e=>hn (by simp [e]))]
def Mp.nest (m:Mp) (id:Nat) (B:List Nat):Mp:={m with nst:=fun j=>if j=id then B else m.nst j}
section
variable {P : Program} {tt : TT} {o : Oper} {a : Act} {w0 w : World} {mine : Mine} {st : St} {next : Act → World → Prop} {Q : Exit → Act → World → Prop}
theorem qDy (hT:qN P tt) {t:Nat} {ti:TI} (ht:tt.get t=some ti) {x y:Operand} (ho:o.op= .store t x y) (hdst:o.dst=none) {id i:Nat} (ex:st.ev x= .one (.ptr id i 0)) {e:Nat} {te:Ty} {xs:List (Val te)} {dp:Bool} {n:Nat}
 (hb:st.heap[id]?=some (.row e te xs dp true n)) (hty:ti.ty=te) (hnd:qaO (qf (st.ev y).cells)=true) (hid:(qf (st.ev y).cells).contains id=false) (hdef:(st.ev y).cells.all LC.isDef=true)
 {v:Val te} (hv:qu st.heap te (st.ev y).cells=some (v,[])) (hi:i<xs.length) (hr:R w0 mine st a w)
 (hn: ∀a' w',R w0 mine (bif dp&&qW st.heap (st.ev y).cells then {st with heap:=(kill st.heap (qf (st.ev y).cells)).set id (.row e te (xs.set i v) true true (los st.heap n (qf (st.ev y).cells)))}
   else {st with heap:=(kill st.heap (qf (st.ev y).cells)).set id (.row e te (xs.set i v) false true st.heap.length)}) a' w'→next a' w'):o.wp P a w next Q:=by
 obtain ⟨hd,m,H,he⟩:=hr
 have hti:=hT t ti ht
 have hx:=R.ev H he x
 rw [ex]at hx
 simp only [V,C,hb]at hx
 obtain ⟨g0,hg0,hxv⟩:=hx
 obtain ⟨inner,hown,hin⟩:=H.br id _ hb
 obtain ⟨g,cap,cur,hval,hob,hg,hsz,htk⟩:=qCo hown hi
 obtain rfl:g=g0:=by rw [hob]at hg0;exact Option.some.inj hg0
 have hpos:0<(st.ev y).cells.length:=by
  cases hc:(st.ev y).cells with
  | nil=>rw [hc,qu7]at hv;simp at hv
  | cons=>simp
 obtain ⟨hcc,h1⟩:=qgQ H.br (R.ev H he y) hdef hpos
 generalize hcs:(st.ev y).cells=cs at*
 generalize hus:(a.eval y).cells.toList=us at*
 have hnid:id∉qf cs:=by simpa using hid
 have hnd':=qiD hnd
 have hel:xs[i]?=some (xs.getD i (qc te)):=by simp [List.getD,List.getElem?_eq_getElem hi]
 have hfit:=qtN (sz:=te.sz) hi
 have kAny: ∀ok:Nat→Prop,(∀c∈cs,okC w m st.heap ok c)→K w ok te v us:=fun ok hok=>by
  obtain ⟨v1,v2,hvs,hk,hrest,_⟩:=qc2 H.br hcc hv hok
  cases hrest
  rw [hvs,List.append_nil];exact hk
 have husl:us.length=te.sz:=qaj (kAny (fun _=>True) fun c _=>by
  cases c<;>simp only [okC]
  ·exact fun _ _ _=>trivial
  ·intro x _
   exact ⟨fun _ _=>trivial,by split<;>simp⟩)
 have hrun:=qsE (P:=P) (w:=w) (f:=i*te.sz) (v:=a.eval y) hti hg (by rw [hus,hty];exact husl) (by rw [hty];omega) (by rw [hus];exact h1)
 rw [hus,hty]at hrun
 have hil:=qD7 hown
 generalize hw':w.setRow g (cur.toList.take (i*te.sz)++us++cur.toList.drop (i*te.sz+te.sz)).toArray=w' at hrun
 refine quA (w':=w') (by simp only [execOp,ho,hxv,Instr.storeAt,Instr.sureAddr,Sem.run_bind,Sem.run_pure,Result.andThen_ok,Nat.add_zero,hrun]) (hn _ _ ?_)
 have hown':w'.ownsRow 0 e te.sz (m.val id) (xs.set i v).length (inner.take (i*te.sz)++us++inner.drop (i*te.sz+te.sz)):=by
  rw [hval]at hown
  have:=qDn hown hg (i*te.sz) us (by omega)
  rw [←hval,husl,hw']at this
  rw [List.length_set];exact this
 have hold: ∀b,b≠g→w'.heap[b]?=w.heap[b]?:=fun b hb=>by rw [←hw'];exact setRow_other w g b _ hb
 have hfr:Fr (fun k=>k=g) w w':=by rw [←hw'];exact qvf w _ _ _ rfl
 have htop: ∀n' b,qr m st.heap n' b→b≠g:=fun n' b hk he=>by
  have:=(hk.2 id _ hb).1 (.inl rfl)
  rw [hob,he]at this
  exact this rfl
 have hkx:(kill st.heap (qf cs))[id]?=some (.row e te xs dp true n):=by rw [qEG _ _ _ hnid];exact hb
 have hN: ∀b∈qA m st.heap (qf cs),b<w.heap.size∧(w0.heap.size≤b∨mine.own b)∧ ∀i y,(kill st.heap (qf cs))[i]?=some y→b∉fpB m i y:=fun b hb=>qcK H hb
 have hNg: ∀b∈qA m st.heap (qf cs),b≠g:=fun b hbm e=>(hN b hbm).2.2 id _ hkx (by subst e;simp [fpB,hob])
 have fin: ∀(x':Blk) (m':Mp),HR w0 mine w' m' ((kill st.heap (qf cs)).set id x')∧Oks w w' m m' st.heap ((kill st.heap (qf cs)).set id x')∧qP m m' st.heap ((kill st.heap (qf cs)).set id x')→
  R w0 mine {st with heap:=(kill st.heap (qf cs)).set id x'} (a.put o.dst undef) w':=fun x' m' hh=>by
  refine ⟨by rw [qa5];exact hd,m',hh.1,?_⟩
  rw [hdst]
  exact qaa hh.2.1 hh.2.2 he
 cases hdd:(dp&&qW st.heap cs)with
 | true=>
   simp only [cond_true]
   simp only [Bool.and_eq_true]at hdd
   obtain ⟨rfl,hdeep⟩:=hdd
   simp only at hin
   obtain ⟨B1,b0,B2,hB,hM,hset⟩:=qFm (fun x c b hm=>qe9 hm) hin.1 hel
   obtain ⟨v1,v2,pre,hvs,hpre,hMv,hrest⟩:=qfE H.br hcc hv hdeep
   cases hrest
   rw [List.append_nil]at hvs hpre
   subst hvs;subst hpre
   have hsub1: ∀b∈B1++B2,b∈m.nst id:=fun b hb=>by
    rw [hB];simp only [List.mem_append]at hb ⊢
    rcases hb with hb | hb
    ·exact .inl (.inl hb)
    ·exact .inr hb
   have hrow:(fpB m id (.row e te xs true true n)).Nodup:=H.nd id _ hb
   simp only [fpB]at hrow
   have gB: ∀b∈m.nst id,b≠g:=fun b hbm e=>qAO H hb hob (e▸hbm)
   have hm'v:(m.nest id (B1++qA m st.heap (qf cs)++B2)).nst id=B1++qA m st.heap (qf cs)++B2:=by simp [Mp.nest]
   have hndB:(B1++qA m st.heap (qf cs)++B2).Nodup:=by
    have h2:(B1++b0++B2).Nodup:=by rw [←hB];exact (List.nodup_append.1 hrow).2.1
    have h3:(B1++B2).Nodup:=h2.sublist (by
        rw [List.append_assoc]
        exact (List.Sublist.refl _).append (List.sublist_append_right _ _))
    have h4:=qj4 H hnd'
    have h5: ∀b∈qA m st.heap (qf cs),b∉B1++B2:=fun b hbm hb2=>(hN b hbm).2.2 id _ hkx (by simp only [fpB];exact List.mem_append_right _ (hsub1 b hb2))
    rw [List.nodup_append]at h3 ⊢
    rw [List.nodup_append]
    refine ⟨⟨h3.1,h4,fun x hx y hy e=>h5 y hy (by subst e;exact List.mem_append_left _ hx)⟩,h3.2.1,fun x hx y hy e=> ?_⟩
    rcases List.mem_append.1 hx with hx | hx
    ·exact h3.2.2 x hx y hy e
    ·exact h5 x hx (by subst e;exact List.mem_append_right _ hy)
   refine fin _ (m.nest id (B1++qA m st.heap (qf cs)++B2)) (H.write (qL.kill _ _) hkx rfl rfl (fun j hj=>by simp [Mp.nest,hj]) rfl (by simp [Sim,Mp.nest]) (fun b hbm=> ?_) ?_ (fun n' b hk hlt=> ?_) (g:=g) (by simp [fpB,hob]) hfr htop (fun hok hs'=> ?_))
   ·simp only [fpB,hm'v]at hbm ⊢
    rcases List.mem_append.1 hbm with hbm | hbm
    ·exact .inl (List.mem_append_left _ hbm)
    ·by_cases hbn:b∈qA m st.heap (qf cs)
     ·exact .inr ⟨(hN b hbn).1,(hN b hbn).2.1,fun i' y hy _=>(hN b hbn).2.2 i' y hy⟩
     ·left
      refine List.mem_append_right _ (hsub1 b ?_)
      simp only [List.mem_append]at hbm ⊢
      rcases hbm with (h | h) | h
      ·exact .inl h
      ·exact absurd h hbn
      ·exact .inr h
   ·simp only [fpB,hm'v]
    have:(m.nest id (B1++qA m st.heap (qf cs)++B2)).val id=m.val id:=rfl
    rw [this,hob]
    simp only [Option.toList_some,List.singleton_append,List.nodup_cons]
    refine ⟨fun hm=> ?_,hndB⟩
    by_cases hbn:g∈qA m st.heap (qf cs)
    ·exact hNg g hbn rfl
    ·simp only [List.mem_append]at hm
     rcases hm with (h | h) | h
     ·exact gB g (hsub1 g (List.mem_append_left _ h)) rfl
     ·exact hbn h
     ·exact gB g (hsub1 g (List.mem_append_right _ h)) rfl
   ·have hk0:=hk.2 id _ hb
    refine ⟨fun _=>hk0.1 (.inl rfl),fun _ hle hm=> ?_⟩
    rw [hm'v]at hm
    by_cases hbn:b∈qA m st.heap (qf cs)
    ·exact qBC hk hle hbn
    ·simp only [List.mem_append]at hm
     have hle2:n'≤n:=Nat.le_trans hle (qcV _ _ _)
     rcases hm with (h | h) | h
     ·exact hk0.2 rfl hle2 (hsub1 b (List.mem_append_left _ h))
     ·exact hbn h
     ·exact hk0.2 rfl hle2 (hsub1 b (List.mem_append_right _ h))
   ·refine ⟨_,hown',?_⟩
    simp only [hm'v]
    refine ⟨?_,Nat.le_trans (qcV _ _ _) hin.2⟩
    have:=hset v us _ hMv
    refine this.imp fun x c b hbs hm=>qb1 hm fun k hk=>hold k fun e=> ?_
    have hm:=hbs k hk
    subst e
    by_cases hbn:k∈qA m st.heap (qf cs)
    ·exact hNg k hbn rfl
    ·simp only [List.mem_append]at hm
     rcases hm with (h | h) | h
     ·exact gB k (hsub1 k (List.mem_append_left _ h)) rfl
     ·exact hbn h
     ·exact gB k (hsub1 k (List.mem_append_right _ h)) rfl
 | false=>
   simp only [cond_false]
   refine fin _ m (H.write (qL.kill _ _) hkx rfl rfl (fun _ _=>rfl) rfl (by simp [Sim]) (fun b hbm=> .inl ?_) ?_ (fun n' b hk hlt=>⟨fun _=>(hk.2 id _ hb).1 (.inl rfl),fun h=>by simp at h⟩) (g:=g) (by simp [fpB,hob]) hfr htop (fun hok hs'=> ?_))
   ·simp only [fpB,List.append_nil]at hbm ⊢
    exact List.mem_append_left _ hbm
   ·simp only [fpB,hob];simp
   ·refine ⟨_,hown',?_⟩
    simp only
    generalize hh':(kill st.heap (qf cs)).set id (.row e te (xs.set i v) false true st.heap.length)=h' at hok hs' ⊢
    have hl':h'.length=st.heap.length:=by rw [←hh'];simp [qaX]
    have get': ∀j y,h'[j]?=some y→(j≠id∧(kill st.heap (qf cs))[j]?=some y)∨(j=id∧y= .row e te (xs.set i v) false true st.heap.length):=fun j y hy=>by
        rw [←hh']at hy
        by_cases e:id=j
        ·subst e
         rw [List.getElem?_set_self (List.getElem?_eq_some_iff.1 hkx).1]at hy
         cases hy;exact .inr ⟨rfl,rfl⟩
        ·rw [List.getElem?_set_ne e]at hy
         exact .inl ⟨fun h=>e h.symm,hy⟩
    have hlo: ∀(j e:Nat) (t:Ty) (xs:List (Val t)) (mt:Bool) (k:Nat),h'[j]?=some (Blk.row e t xs true mt k)→k≤j:=by
        intro j e t xs mt k hy
        rcases get' j _ hy with ⟨_,hy'⟩ | ⟨_,hy'⟩
        ·rcases qg1 _ _ _ _ hy' with ⟨_,h0⟩ | ⟨_,h0⟩
         ·simp at h0
         ·exact H.lo_le j e t xs mt k h0
        ·simp at hy'
    have c1: ∀n' b,qr m st.heap n' b→b<w.heap.size→b≠g∧qr m h' st.heap.length b:=fun n' b hb hlt=>by
        refine ⟨htop n' b hb,?_⟩
        have:=qkD hlo (hok n' b hb hlt).2
        rwa [hl']at this
    have c2: ∀b,m.ext b→b≠g→(∀j y,j≠id→(kill st.heap (qf cs))[j]?=some y→b∉fpB m j y)→b≠g∧qr m h' st.heap.length b:=fun b hbe hbg hbf=>by
        refine ⟨hbg,hbe,fun j y hy=> ?_⟩
        rcases get' j y hy with ⟨hne,hy'⟩ | ⟨rfl,rfl⟩
        ·have hf:=hbf j y hne hy'
         cases y with
         | dead=>trivial
         | nst F t hs vs=>exact hf
         | box cs=>show b≠m.blk j;simpa [fpB] using hf
         | row e t xs dp mt k=>
           simp only [fpB,List.mem_append,not_or]at hf
           refine ⟨fun _ hob=>hf.1 (by simp [hob]),fun hd _ hm=> ?_⟩
           subst hd
           exact hf.2 hm
        ·exact ⟨fun _ hob'=>hbg (by rw [hob]at hob';exact (Option.some.inj hob').symm),fun h=>by simp at h⟩
    have hxs:Ks (K w (fun b=>b≠g∧qr m h' st.heap.length b) te) xs inner:=by
        cases dp with
        | true=>
          simp only at hin
          refine hin.1.toKs fun x c b hbs hm=>M_K hm fun k hk=>c2 k (by rw [H.mx];exact H.nx k (H.lt id _ hb k (by simp only [fpB];exact List.mem_append_right _ (hbs k hk))).2) (fun e=>qAO H hb hob (e▸hbs k hk)) fun j y hne hy hmj=> ?_
          rcases qg1 _ _ _ _ hy with ⟨_,rfl⟩ | ⟨_,hy'⟩
          ·simp [fpB]at hmj
          ·exact H.dj id _ j y (fun e=>hne e.symm) hb hy' k (by simp only [fpB];exact List.mem_append_right _ (hbs k hk)) hmj
        | false=>
          simp only at hin
          exact hin.imp fun x c hk=>qaf (fun _ _ _=>rfl) (fun b hb hl=>c1 _ b hb hl) hk
    have hkv:K w (fun b=>b≠g∧qr m h' st.heap.length b) te v us:=kAny _ fun c hc=>by
        cases c with
        | sl e t xs k=>exact fun b hb hlt=>c1 k b hb hlt
        | own j=>
          intro y hy
          have hj:=qAR hc
          refine ⟨fun b hbm=> ?_,?_⟩
          ·have hbN:b∈qA m st.heap (qf cs):=by
              simp only [qA,List.mem_flatMap]
              exact ⟨j,hj,by rw [hy];exact hbm⟩
           exact c2 b (by rw [H.mx];exact H.nx b (hN b hbN).2.1) (hNg b hbN) fun i' y' _ hy'=>(hN b hbN).2.2 i' y' hy'
          ·cases y with
           | row e t xs dp mt k=>
             cases dp with
             | true=>trivial
             | false=>exact fun b hb hlt=>c1 k b hb hlt
           | _=>trivial
        | _=>trivial
    have:=hxs.set (fun x c hk=>qaj hk) i hi hkv
    exact this.imp fun x c hk=>qaf (fun b hb _=>hold b hb.1) (fun b hb _=>hb.2) hk
end
end Go.T
/- T: structs; every operation. -/
namespace Go.T
open Go
section
variable {P : Program} {tt : TT} {o : Oper} {a : Act} {w0 w : World} {mine : Mine} {st : St} {next : Act → World → Prop} {Q : Exit → Act → World → Prop}
theorem qz6 {m:Mp} (H:HR w0 mine w m st.heap) (he:F2 (V w m st.heap) st.env a.tmps.toList) {offs:List (Nat×Nat)} {sz:Nat} (hoff: ∀(f n i:Nat),offs[i]?=some (f,n)→0<n∧f+n≤sz):
 ∀(ps:List (Nat×Operand)) (cs cs':List LC) (cur:Array Value),F2 (C w m st.heap) cs cur.toList→cur.size=sz→qeQ offs cs (ps.map fun p=>(p.1,(st.ev p.2).cells))=some cs'→
  ∃res,Instr.fill (offs.toArray[·]?) cur (ps.map fun p=>(p.1,a.eval p.2))=some res∧F2 (C w m st.heap) cs' res.toList
 | [],cs,cs',cur,hf,_,h=>by simp [qeQ]at h;subst h;exact ⟨cur,rfl,hf⟩
 | (i,x)::ps,cs,cs',cur,hf,hsz,h=>by
   simp only [List.map_cons,qeQ]at h
   split at h
   ·rename_i f n ho
    split at h
    ·rename_i hc
     obtain ⟨hn,hfn⟩:=hoff f n i ho
     obtain ⟨hcc,_⟩:=qgQ H.br (R.ev H he x) hc.2 (by omega)
     have hl:(a.eval x).cells.size=n:=by have:=hcc.len;simp at this;omega
     have hput:=qsU (a.eval x).cells.toList 0 f cur (by simp;omega)
     simp only [Nat.add_zero,Array.length_toList,hl]at hput
     have hput2:((a.eval x).cells.zipIdx.foldl (fun (cs:Array Value) (p:Value×Nat)=>cs.setIfInBounds (f+p.2) p.1) cur).toList=cur.toList.take f++(a.eval x).cells.toList++cur.toList.drop (f+n):=by
      rw [←hput,←Array.foldl_toList,Array.toList_zipIdx]
     generalize hc2:(a.eval x).cells.zipIdx.foldl (fun (cs:Array Value) (p:Value×Nat)=>cs.setIfInBounds (f+p.2) p.1) cur=c2 at hput2
     have hsz2:c2.size=sz:=by
      have:=congrArg List.length hput2
      simp at this
      omega
     obtain ⟨res,h1,h2⟩:=qz6 H he hoff ps _ cs' c2 (by rw [hput2];exact ((hf.take f).append hcc).append (hf.drop _)) hsz2 h
     refine ⟨res,?_,h2⟩
     have hc2':(a.eval x).cells.zipIdx.foldl (fun (cs:Array Value) (x:Value×Nat)=>match x with | (c,j)=>cs.setIfInBounds (f+j) c) cur=c2:=hc2
     simp only [List.map_cons,Instr.fill,List.getElem?_toArray,ho]
     rw [if_neg (by simp [hl];omega),hc2']
     simpa using h1
    ·simp at h
   ·simp at h
theorem qJ2 (hT:qN P tt) {t:Nat} {ti:TI} (ht:tt.get t=some ti) {ps:Array (Nat×Operand)} (ho:o.op= .build t ps) (hne:ti.offs.isEmpty≠true) {cs:List LC} (hf:qeQ ti.offs (qa4 ti.ty) (ps.toList.map fun p=>(p.1,(st.ev p.2).cells))=some cs) (hr:R w0 mine st a w)
 (hn: ∀a' w',R w0 mine (st.put o.dst (.agg cs)) a' w'→next a' w'):o.wp P a w next Q:=by
 obtain ⟨hd,m,H,he⟩:=hr
 have hti:=hT t ti ht
 obtain ⟨i,z,hi,hs,hz,hzc,_⟩:=hti.info
 have hoff: ∀(f n i:Nat),ti.offs[i]?=some (f,n)→0<n∧f+n≤ti.ty.sz:=fun f n i h=>by
  obtain ⟨fs,fl,_,_,_,j,_,_,h1,h2⟩:=hti.offsStruct f n i h
  exact ⟨h1,h2⟩
 obtain ⟨res,h1,h2⟩:=qz6 H he hoff ps.toList (qa4 ti.ty) cs z.cells (by rw [hzc];exact qkm _ _ _ _) (by
  have:=congrArg List.length hzc
  simpa [qbl] using this) hf
 obtain ⟨d,hu,hdd⟩:=hti.desc
 have hst: ∃fs,d= .struct fs:=by
  cases hof:ti.offs with
  | nil=>simp [hof]at hne
  | cons p r=>
    obtain ⟨fs,_,hu',_⟩:=hti.offsStruct p.1 p.2 0 (by rw [hof];rfl)
    rw [hu]at hu';cases hu';exact ⟨fs,rfl⟩
 obtain ⟨fs,rfl⟩:=hst
 obtain ⟨_,hmap⟩:=hdd
 have hb:P.built t (ps.map fun p=>(p.1,a.eval p.2)).toList=some res:=by
  unfold Program.built
  simp only [hi,hu,hz,hmap]
  simpa using h1
 have hrun:=run_build (P:=P) w t _ res hb
 refine qbC (v:= .agg res) (w':=w) ?_ (hn _ _ (R.put ⟨hd,m,H,he⟩ _ fun m' H' he'=> ?_))
 ·simp only [execOp,ho];rw [Sem.run_bind,hrun];rfl
 ·obtain ⟨res',h1',h2'⟩:=qz6 H' he' hoff ps.toList (qa4 ti.ty) cs z.cells (by rw [hzc];exact qkm _ _ _ _) (by
   have:=congrArg List.length hzc
   simpa [qbl] using this) hf
  rw [h1]at h1'
  cases h1'
  exact ⟨res,rfl,h2'⟩
theorem qGE (hT:qN P tt) {t:Nat} {x y:Operand} (ho:o.op= .store t x y) (hdst:o.dst=none) {p:Prop} {st':St} (hs:qfx tt t (st.ev x) (st.ev y) st=some (p,st')) (hp:p) (hr:R w0 mine st a w)
 (hn: ∀a' w',R w0 mine st' a' w'→next a' w'):o.wp P a w next Q:=by
 unfold qfx at hs
 split at hs
 ·simp at hs
 rename_i ti ht
 split at hs
 ·rename_i id i f ex
  dsimp only at hs
  split at hs
  ·rename_i old hb
   cases hs
   obtain ⟨h1,h2,h3⟩:=hp
   exact qLI hT ht ho hdst ex hb h1 h2 h3 hr hn
  ·rename_i e te xs dp n hb
   split at hs
   ·rename_i hc
    split at hs
    ·rename_i c ey
     split at hs
     ·rename_i v hv
      cases hs
      exact qNI hT ht ho hdst ex hb ey hc.1 hv hp hr hn
     ·simp at hs
    ·simp at hs
   ·split at hs
    ·rename_i hc
     obtain ⟨rfl,hty,hnd,hid,hdef⟩:=hc
     split at hs
     ·rename_i v hv
      cases hdd:(dp&&qW st.heap (st.ev y).cells)with
      | true=>
        simp only [hdd,cond_true]at hs
        cases hs
        exact qDy hT ht ho hdst ex hb hty hnd hid hdef hv hp hr (by simpa [hdd] using hn)
      | false=>
        simp only [hdd,cond_false]at hs
        cases hs
        exact qDy hT ht ho hdst ex hb hty hnd hid hdef hv hp hr (by simpa [hdd] using hn)
     ·simp at hs
    ·simp at hs
  ·simp at hs
 ·simp at hs
theorem qDs (hT:qN P tt) {p:Prop} {st':St} (hs:qJ tt o st=some (p,st')) (hp:p) (hr:R w0 mine st a w) (hn: ∀a' w',R w0 mine st' a' w'→next a' w'):o.wp P a w next Q:=by
 unfold qJ at hs
 split at hs
 ·rename_i x ho;cases hs;exact qDW (.inl ho) hr hn
 ·rename_i x ho;cases hs;exact qDW (.inr ho) hr hn
 ·rename_i c x y ho
  split at hs
  ·rename_i b ec
   split at hs
   ·rename_i bx by' ex ey
    cases hs
    refine qBN ho ec hr (.one (.bool (bif b then bx else by'))) (fun m v1 v2 h1 h2=> ?_) hn
    rw [ex]at h1;rw [ey]at h2
    cases b
    ·exact h2
    ·exact h1
   ·cases hs
    refine qBN ho ec hr _ (fun m v1 v2 h1 h2=> ?_) hn
    cases b
    ·exact h2
    ·exact h1
  ·simp at hs
 ·rename_i t ho
  split at hs
  ·rename_i ti ht;cases hs;exact qGO hT ho ht hr hn
  ·simp at hs
 ·rename_i t x ho
  split at hs
  ·rename_i ti ht
   cases hs
   exact qI3 ho hr hp.2 (by rw [hp.1];exact ti.ty.sz_pos) hn
  ·simp at hs
 ·rename_i t ps ho
  split at hs
  ·rename_i ti ht
   split at hs
   ·simp at hs
   ·rename_i hne
    split at hs
    ·rename_i cs hf;cases hs;exact qJ2 hT ht ho hne hf hr hn
    ·simp at hs
  ·simp at hs
 ·rename_i t x ho;exact qQV hT ho hs hp hr hn
 ·rename_i t x y ho
  split at hs
  ·rename_i hd;exact qGE hT ho hd hs hp hr hn
  ·simp at hs
 ·rename_i t x f ho;exact qNf hT ho hs hr hn
 ·rename_i t x y ho;exact qIy hT ho hs hp hr hn
 ·rename_i op t x y ty ho;exact qPX hT ho hs hp hr hn
 ·rename_i op t x ho;exact qQD ho hs hr hn
 ·rename_i x i ho
  split at hs
  ·rename_i vs ex
   split at hs
   ·rename_i v hv;cases hs;exact qM9 ho ex hv hr hn
   ·simp at hs
  ·simp at hs
 ·rename_i x ho
  split at hs
  ·rename_i id i f ex
   split at hs
   ·simp at hs
   ·rename_i hb;cases hs;exact qKp ho ex hb hr hn
  ·simp at hs
 ·rename_i t l c ho
  split at hs
  ·rename_i ti k n k' cp ht el ec
   split at hs
   ·rename_i e te hag hty
    cases hs
    exact qFH hT ht ho hag hty el ec hp.1 hp.2.1 hp.2.2 hr hn
   ·simp at hs
  ·simp at hs
 ·rename_i t n ps ho
  split at hs
  ·rename_i ti ht
   split at hs
   ·rename_i e te hag hty
    dsimp only at hs
    split at hs
    ·rename_i hc
     split at hs
     ·rename_i xs hxs
      cases hs
      exact qLk hT ht ho hag hty hc.1 hc.2.1 hc.2.2.1 hc.2.2.2 hxs hr hn
     ·simp at hs
    ·simp at hs
   ·simp at hs
  ·simp at hs
 ·rename_i t x y ho;exact qFw hT ho hs hp hr hn
 ·rename_i c ho
  split at hs
  ·rename_i hc
   split at hs
   ·rename_i x t hx ht'
    split at hs
    ·rename_i ti ht
     split at hs
     ·rename_i n hl
      cases hs
      exact qPq hT ho hc (by rw [←Array.toList_inj,hx]) (by rw [←Array.toList_inj,ht']) ht hl hr hn
     ·simp at hs
    ·simp at hs
   ·simp at hs
  ·rename_i hc
   split at hs
   ·rename_i x y t t' hx ht'
    split at hs
    ·rename_i e
     subst e
     exact qHr hT ho hc (by rw [←Array.toList_inj,hx]) (by rw [←Array.toList_inj,ht']) hs hp hr hn
    ·simp at hs
   ·simp at hs
  ·rename_i hc
   split at hs
   ·rename_i x y hx
    exact qDh (mx:=true) ho hc (by rw [←Array.toList_inj,hx]) hs hr hn
   ·simp at hs
  ·rename_i hc
   split at hs
   ·rename_i x y hx
    exact qDh (mx:=false) ho hc (by rw [←Array.toList_inj,hx]) hs hr hn
   ·simp at hs
  ·simp at hs
 ·rename_i s t x ho;exact qMh hT ho hs hr hn
 ·rename_i t x lo hi ho;exact qDK hT ho hs hp hr hn
 ·simp at hs
end
end Go.T
/- T: what a step depends upon. -/
namespace Go.T
open Go
def St.res (st:St) (d:Option Tmp) (l:LV) (h:List Blk):St:={(st.put d l)with heap:=h}
theorem St.res_self (st:St) (d:Option Tmp) (l:LV):st.res d l st.heap=st.put d l:=by
 cases d<;>rfl
def qbn (f:St→Res) (rd:Option Nat) (d:Option Tmp):Prop:= ∀st p s,f st=some (p,s)→ ∃l,s=st.put d l∧ ∀st2:St,(∀id,rd=some id→st2.heap[id]?=st.heap[id]?)→f st2=some (p,st2.put d l)
def qcL (f:St→Res) (d:Option Tmp):Prop:= ∀st p s,f st=some (p,s)→ ∃l h,s=st.res d l h∧ ∀st2:St,st2.heap=st.heap→f st2=some (p,st2.res d l h)
theorem qbn.does {f:St→Res} {rd:Option Nat} {d:Option Tmp} (h:qbn f rd d):qcL f d:=fun st p s hs=>by
 obtain ⟨l,h1,h2⟩:=h st p s hs
 refine ⟨l,st.heap,by rw [h1,St.res_self],fun st2 he=> ?_⟩
 rw [←he,St.res_self]
 exact h2 st2 fun id _=>by rw [he]
theorem qbn.const {d:Option Tmp} (p:Prop) (l:LV):qbn (fun st=>some (p,st.put d l)) none d:=fun st p s hs=>by
 cases hs;exact ⟨l,rfl,fun _ _=>rfl⟩
theorem qbn.none (rd:Option Nat) (d:Option Tmp):qbn (fun _=>none) rd d:=fun st p s hs=>by simp at hs
def LV.rd:LV→Option Nat
 | .one (.ptr id _ _)=>some id
 | .one (.own id)=>some id
 | _=>none
theorem qFZ (tt:TT) (op:BinOp) (t:Nat) (x y:LV) (d:Option Tmp):qbn (qfw tt op t x y d) none d:=by
 intro st p s hs
 unfold qfw at hs ⊢
 split at hs
 ·split at hs
  ·rename_i hk
   subst hk
   simp only [if_true]
   split at hs
   ·cases hs;exact ⟨_,rfl,fun _ _=>rfl⟩
   ·cases hs;exact ⟨_,rfl,fun _ _=>rfl⟩
   ·rename_i op h1 h2
    split at hs
    ·rename_i c hc
     cases hs
     refine ⟨_,rfl,fun st2 _=> ?_⟩
     first | rfl | (rw [hc];rfl)
    ·simp at hs
  ·simp at hs
 ·split at hs
  ·cases hs;exact ⟨_,rfl,fun _ _=>rfl⟩
  ·split at hs
   ·rename_i c hc;cases hs;exact ⟨_,rfl,fun st2 _=>by first | rfl | (rw [hc];rfl)⟩
   ·simp at hs
 ·split at hs
  ·rename_i ti ht
   split at hs
   ·rename_i hc
    split at hs
    ·cases hs;exact ⟨_,rfl,fun st2 _=>by first | rfl | (rw [if_pos hc];rfl) | (simp only [ht];rw [if_pos hc];rfl)⟩
    ·cases hs;exact ⟨_,rfl,fun st2 _=>by first | rfl | (rw [if_pos hc];rfl) | (simp only [ht];rw [if_pos hc];rfl)⟩
    ·simp at hs
   ·simp at hs
  ·simp at hs
 ·split at hs
  ·rename_i ti ht
   split at hs
   ·rename_i hc
    split at hs
    ·rename_i e he
     split at hs
     ·cases hs;exact ⟨_,rfl,fun st2 _=>by first | rfl | (rw [if_pos hc];rfl) | (rw [if_pos hc,he];rfl) | (simp only [ht];rw [if_pos hc,he];rfl)⟩
     ·cases hs;exact ⟨_,rfl,fun st2 _=>by first | rfl | (rw [if_pos hc];rfl) | (rw [if_pos hc,he];rfl) | (simp only [ht];rw [if_pos hc,he];rfl)⟩
     ·simp at hs
    ·simp at hs
   ·simp at hs
  ·simp at hs
 ·simp at hs
theorem qGu (op:UnOp) (x:LV) (d:Option Tmp):qbn (qfq op x d) none d:=by
 intro st p s hs
 unfold qfq at hs ⊢
 split at hs
 ·cases hs;exact ⟨_,rfl,fun _ _=>rfl⟩
 ·cases hs;exact ⟨_,rfl,fun _ _=>rfl⟩
 ·simp at hs
theorem qPl (tt:TT) (t:Nat) (x:LV) (d:Option Tmp):qbn (qgO tt t x d) x.rd d:=by
 intro st p s hs
 unfold qgO at hs ⊢
 split at hs
 ·simp at hs
 ·rename_i ti ht
  split at hs
  ·rename_i id i f
   split at hs
   ·rename_i cs hb
    cases hs
    refine ⟨_,rfl,fun st2 h2=> ?_⟩
    have:=h2 id rfl
    simp only [ht,this,hb]
   ·rename_i e t xs dp mt n hb
    cases hs
    refine ⟨_,rfl,fun st2 h2=> ?_⟩
    have:=h2 id rfl
    simp only [ht,this,hb]
   ·simp at hs
  ·cases hs
   exact ⟨_,rfl,fun st2 h2=>by simp only [ht]⟩
  ·simp at hs
theorem qND (tt:TT) (t f:Nat) (x:LV) (d:Option Tmp):qbn (qgb tt t f x d) x.rd d:=by
 intro st p s hs
 unfold qgb at hs ⊢
 split at hs
 ·simp at hs
 ·rename_i ti ht
  split at hs
  ·rename_i id i g o ho
   split at hs
   ·simp at hs
   ·rename_i hb
    cases hs
    refine ⟨_,rfl,fun st2 h2=> ?_⟩
    have:=h2 id rfl
    first
     | rfl
     | (simp only [ht,ho,this]
        first
            | rfl
            | (split
               ·rename_i h';exact absurd h' hb
               ·rfl))
  ·rename_i t' v g n o ho
   cases hs
   exact ⟨_,rfl,fun st2 h2=>by first | rfl | (simp only [ht,ho];rfl)⟩
  ·simp at hs
theorem qH5 (tt:TT) (t:Nat) (x y:LV) (d:Option Tmp):qbn (qfV tt t x y d) x.rd d:=by
 intro st p s hs
 unfold qfV at hs ⊢
 split at hs
 ·simp at hs
 ·rename_i ti ht
  split at hs
  ·split at hs
   ·rename_i hc
    cases hs
    exact ⟨_,rfl,fun st2 h2=>by first | rfl | (rw [if_pos hc]) | (simp only [ht];rw [if_pos hc])⟩
   ·simp at hs
  ·rename_i id k i
   split at hs
   ·rename_i e t' xs dp mt n hb
    split at hs
    ·rename_i hc
     cases hs
     refine ⟨_,rfl,fun st2 h2=> ?_⟩
     have:=h2 id rfl
     simp only [ht,this,hb]
     rw [if_pos hc]
    ·simp at hs
   ·simp at hs
  ·simp at hs
theorem qQ1 (tt:TT) (t:Nat) (x y:LV) (d:Option Tmp):qbn (qg0 tt t x y d) none d:=by
 intro st p s hs
 unfold qg0 at hs ⊢
 split at hs
 ·simp at hs
 ·rename_i ti ht
  split at hs
  ·split at hs
   ·rename_i hc
    cases hs
    exact ⟨_,rfl,fun st2 h2=>by first | rfl | (rw [if_pos hc]) | (simp only [ht];rw [if_pos hc])⟩
   ·simp at hs
  ·simp at hs
theorem qLD (ti:TI) (x:LV) {h h2:List Blk} (he: ∀id,x.rd=some id→h2[id]?=h[id]?):lenOf ti h2 x=lenOf ti h x:=by
 unfold lenOf
 split<;>try rfl
 rename_i id
 rw [he id rfl]
theorem qQr (tt:TT) (t:Nat) (x y:LV) (d:Option Tmp):qcL (qdp tt t x y d) d:=by
 intro st p s hs
 unfold qdp at hs ⊢
 split at hs
 ·simp at hs
 ·rename_i ti ht
  split at hs
  ·rename_i e te hag hty
   split at hs
   ·rename_i xs d1 i1 hd
    split at hs
    ·rename_i ys d2 i2 hsr
     split at hs
     ·rename_i hc
      cases hs
      refine ⟨_,_,rfl,fun st2 h2=> ?_⟩
      simp only [ht,hag,hty,h2,hd,hsr]
      rw [if_pos hc]
      rfl
     ·simp at hs
    ·simp at hs
   ·simp at hs
  ·simp at hs
theorem qFC (tt:TT) (t:Nat) (x y:LV):qcL (qfx tt t x y) none:=by
 intro st p s hs
 unfold qfx at hs ⊢
 split at hs
 ·simp at hs
 ·rename_i ti ht
  split at hs
  ·rename_i id i f
   dsimp only at hs ⊢
   split at hs
   ·rename_i old hb
    cases hs
    exact ⟨.tup [],_,rfl,fun st2 h2=>by simp only [ht,h2,hb];rfl⟩
   ·rename_i e te xs dp n hb
    split at hs
    ·rename_i hc
     split at hs
     ·rename_i c hy
      split at hs
      ·rename_i v hv
       cases hs
       exact ⟨.tup [],_,rfl,fun st2 h2=>by simp only [ht,h2,hb,hy];rw [if_pos hc,hv];rfl⟩
      ·simp at hs
     ·simp at hs
    ·rename_i hc0
     split at hs
     ·rename_i hc
      split at hs
      ·rename_i v hv
       refine ⟨.tup [],s.heap,?_,fun st2 h2=> ?_⟩
       ·cases hdd:(dp&&qW st.heap y.cells)<;>simp only [hdd,cond_true,cond_false]at hs<;>cases hs<;>rfl
       ·simp only [ht,h2,hb]
        rw [if_neg hc0,if_pos hc,hv]
        cases hdd:(dp&&qW st.heap y.cells)<;>simp only [hdd,cond_true,cond_false]at hs ⊢ <;>cases hs<;>rfl
      ·simp at hs
     ·simp at hs
   ·simp at hs
  ·simp at hs
end Go.T
/- T: names of elements. -/
namespace Go.T
open Go
def qag:(t:Ty)→Val t→Val (hd t)→Val (hd t)
 | .int _,v,_=>v
 | .bool,v,_=>v
 | .str,v,_=>v
 | .hdr,v,_=>v
 | .slice _ _,_,h=>h
 | .pair a b,v,h=>(qag a v.1 h.1,qag b v.2 h.2)
def qaG (t:Ty) (vs:List (Val t)) (hs:List (Val (hd t))):List (Val (hd t)):=List.zipWith (qag t) vs hs
def qod (t:Ty) (hs:List (Val (hd t))) (vs:List (Val t)):Prop:=hs.length=vs.length∧qaG t vs hs=hs∧ ∀i j:Nat,i<hs.length→hs[i]?=hs[j]?→vs[i]?=vs[j]?
open Classical in
noncomputable def lk (t:Ty) (hs:List (Val (hd t))) (vs:List (Val t)) (h:Val (hd t)):Val t:=vs.getD (hs.findIdx fun x=>decide (x=h)) (qc t)
theorem qeK: ∀t:Ty,(hd t).sz=t.sz
 | .int _ | .bool | .str | .hdr | .slice _ _=>rfl
 | .pair a b=>by simp [hd,Ty.sz,qeK a,qeK b]
theorem qfU {w:World}: ∀{t:Ty} {v:Val (hd t)} {cs:List Value} {B:List Nat},M w (hd t) v cs B→B=[]
 | .int _,_,_,_,h=>h.2
 | .bool,_,_,_,h=>h.2
 | .str,_,_,_,h=>h.2
 | .hdr,_,_,_,h=>h.2
 | .slice _ _,_,_,_,h=>h.2
 | .pair a b,_,_,_,h=>by
   obtain ⟨c1,c2,B1,B2,rfl,rfl,h1,h2⟩:=h
   rw [qfU h1,qfU h2];rfl
theorem qsR {w:World} {t:Ty}: ∀{vs:List (Val (hd t))} {cs:List Value} {B:List Nat},Ms (M w (hd t)) vs cs B→B=[]
 | [],_,_,h=>h.2
 | v::vs,_,_,h=>by
   obtain ⟨c1,c2,B1,B2,rfl,rfl,h1,h2⟩:=h
   rw [qfU h1,qsR h2];rfl
theorem flatten {w:World}: ∀{t:Ty} {v:Val t} {cs:List Value} {B:List Nat},M w t v cs B→ ∃h:Val (hd t),M w (hd t) h cs []∧Nst w t v h B∧qag t v h=h
 | .int _,v,_,_,h=>⟨v,⟨h.1,rfl⟩,h.2,rfl⟩
 | .bool,v,_,_,h=>⟨v,⟨h.1,rfl⟩,h.2,rfl⟩
 | .str,v,_,_,h=>⟨v,⟨h.1,rfl⟩,h.2,rfl⟩
 | .hdr,v,_,_,h=>⟨v,⟨h.1,rfl⟩,h.2,rfl⟩
 | .slice e t,v,cs,B,h=>by
   have hM:=h
   obtain ⟨u,inner,Bs,rfl,rfl,ho,hm⟩:=h
   have h1:u.oneCell'=true:=qOB hM u (by simp)
   exact ⟨u,⟨⟨rfl,h1⟩,rfl⟩,hM,rfl⟩
 | .pair a b,v,_,_,h=>by
   obtain ⟨c1,c2,B1,B2,rfl,rfl,h1,h2⟩:=h
   obtain ⟨x1,m1,n1,e1⟩:=flatten h1
   obtain ⟨x2,m2,n2,e2⟩:=flatten h2
   exact ⟨(x1,x2),⟨c1,c2,[],[],rfl,rfl,m1,m2⟩,⟨B1,B2,rfl,n1,n2⟩,by simp only [qag];rw [e1,e2]⟩
theorem qxB {w:World}: ∀{t:Ty} {v:Val t} {h:Val (hd t)} {cs:List Value} {B:List Nat},M w (hd t) (qag t v h) cs []→Nst w t v h B→M w t v cs B
 | .int _,_,_,_,_,h,hn=>⟨h.1,hn⟩
 | .bool,_,_,_,_,h,hn=>⟨h.1,hn⟩
 | .str,_,_,_,_,h,hn=>⟨h.1,hn⟩
 | .hdr,_,_,_,_,h,hn=>⟨h.1,hn⟩
 | .slice e t,v,u,cs,B,h,hn=>by
   obtain ⟨⟨rfl,_⟩,_⟩:=h
   exact hn
 | .pair a b,v,u,_,_,h,hn=>by
   obtain ⟨c1,c2,B1,B2,rfl,hB,h1,h2⟩:=h
   obtain ⟨D1,D2,rfl,n1,n2⟩:=hn
   have e1:B1=[]:=qfU h1
   have e2:B2=[]:=qfU h2
   subst e1;subst e2
   exact ⟨c1,c2,D1,D2,rfl,rfl,qxB h1 n1,qxB h2 n2⟩
theorem qFh {w:World} {t:Ty}: ∀{vs:List (Val t)} {cs:List Value} {B:List Nat},Ms (M w t) vs cs B→ ∃hs:List (Val (hd t)),Ms (M w (hd t)) hs cs []∧qam w t vs hs B∧qaG t vs hs=hs
 | [],_,_,h=>⟨[],⟨h.1,rfl⟩,h.2,rfl⟩
 | v::vs,_,_,h=>by
   obtain ⟨c1,c2,B1,B2,rfl,rfl,h1,h2⟩:=h
   obtain ⟨x1,m1,n1,e1⟩:=flatten h1
   obtain ⟨x2,m2,n2,e2⟩:=qFh h2
   exact ⟨x1::x2,⟨c1,c2,[],[],rfl,rfl,m1,m2⟩,⟨B1,B2,rfl,n1,n2⟩,by simp only [qaG,List.zipWith]at e2 ⊢;rw [e1,e2]⟩
theorem qzG {w:World} {t:Ty}: ∀{vs:List (Val t)} {hs:List (Val (hd t))} {B:List Nat},qam w t vs hs B→vs.length=hs.length
 | [],[],_,_=>rfl
 | [],_::_,_,hn=>hn.elim
 | _::_,[],_,hn=>hn.elim
 | v::vs,h::hs,_,hn=>by
   obtain ⟨_,_,_,_,h2⟩:=hn
   simp [qzG h2]
theorem qRC {w:World} {b b':Nat} {e e':TypeId} {sz:Nat} {v:Value} {n n':Nat} {xs xs':List Value} (h:w.ownsRow b e sz v n xs) (h':w.ownsRow b' e' sz v n' xs'):n=n'∧xs=xs':=by
 rcases h.2 with ⟨rfl,rfl⟩ | ⟨g,cap,cur,rfl,_,hg,_,_,_,ht⟩
 ·rcases h'.2 with ⟨_,rfl⟩ | ⟨g',cap',cur',e1,_⟩
  ·have h1:=h.1;have h2:=h'.1
   simp at h1 h2
   rw [h1,h2];exact ⟨rfl,rfl⟩
  ·simp at e1
 ·rcases h'.2 with ⟨e1,_⟩ | ⟨g',cap',cur',e1,_,hg',_,_,_,ht'⟩
  ·simp at e1
  ·simp only [Value.slice.injEq,Option.some.injEq,Addr.mk.injEq,and_true]at e1
   obtain ⟨rfl,rfl,rfl⟩:=e1
   rw [hg]at hg'
   simp only [Option.some.injEq,Obj.cells.injEq]at hg'
   obtain ⟨rfl,_⟩:=hg'
   exact ⟨rfl,ht.symm.trans ht'⟩
theorem qEC {α:Type} {R:α→List Value→List Nat→Prop} {sz:Nat} (hl: ∀x c b,R x c b→c.length=sz) (hR: ∀x y c b b',R x c b→R y c b'→x=y∧b=b'):
 ∀{xs ys:List α} {cs:List Value} {B B':List Nat},xs.length=ys.length→Ms R xs cs B→Ms R ys cs B'→xs=ys∧B=B'
 | [],[],_,_,_,_,h,h'=>⟨rfl,by rw [h.2,h'.2]⟩
 | [],_::_,_,_,_,hn,_,_=>by simp at hn
 | _::_,[],_,_,_,hn,_,_=>by simp at hn
 | x::xs,y::ys,_,_,_,hn,h,h'=>by
   obtain ⟨c1,c2,B1,B2,rfl,rfl,h1,h2⟩:=h
   obtain ⟨d1,d2,D1,D2,he,rfl,g1,g2⟩:=h'
   obtain ⟨rfl,rfl⟩:=List.append_inj he (by rw [hl _ _ _ h1,hl _ _ _ g1])
   obtain ⟨rfl,rfl⟩:=hR _ _ _ _ _ h1 g1
   obtain ⟨rfl,rfl⟩:=qEC hl hR (by simpa using hn) h2 g2
   exact ⟨rfl,rfl⟩
theorem qlC {w:World}: ∀{t:Ty} {v v':Val t} {cs:List Value} {B B':List Nat},M w t v cs B→M w t v' cs B'→v=v'∧B=B'
 | .int _,_,_,_,_,_,h,h'=>by rw [M]at h h';obtain ⟨rfl,rfl⟩:=h;obtain ⟨e,rfl⟩:=h';simp at e;exact ⟨e,rfl⟩
 | .bool,_,_,_,_,_,h,h'=>by rw [M]at h h';obtain ⟨rfl,rfl⟩:=h;obtain ⟨e,rfl⟩:=h';simp at e;exact ⟨e,rfl⟩
 | .str,_,_,_,_,_,h,h'=>by rw [M]at h h';obtain ⟨rfl,rfl⟩:=h;obtain ⟨e,rfl⟩:=h';simp at e;exact ⟨e,rfl⟩
 | .hdr,_,_,_,_,_,h,h'=>by rw [M]at h h';obtain ⟨⟨rfl,_⟩,rfl⟩:=h;obtain ⟨⟨e,_⟩,rfl⟩:=h';simp at e;exact ⟨e,rfl⟩
 | .slice e t,_,_,_,_,_,h,h'=>by
   rw [M]at h h'
   obtain ⟨u,inner,Bs,rfl,rfl,ho,hm⟩:=h
   obtain ⟨u',inner',Bs',e1,rfl,ho',hm'⟩:=h'
   obtain rfl:u=u':=by simpa using e1
   obtain ⟨hn,rfl⟩:=qRC ho ho'
   obtain ⟨rfl,rfl⟩:=qEC (sz:=t.sz) (fun _ _ _ h=>qe9 h) (fun _ _ _ _ _ h h'=>qlC h h') hn hm hm'
   exact ⟨rfl,rfl⟩
 | .pair a b,_,_,_,_,_,h,h'=>by
   obtain ⟨c1,c2,B1,B2,rfl,rfl,h1,h2⟩:=h
   obtain ⟨d1,d2,D1,D2,he,rfl,g1,g2⟩:=h'
   obtain ⟨rfl,rfl⟩:=List.append_inj he (by rw [qe9 h1,qe9 g1])
   obtain ⟨e1,rfl⟩:=qlC h1 g1
   obtain ⟨e2,rfl⟩:=qlC h2 g2
   exact ⟨Prod.ext e1 e2,rfl⟩
theorem qqR {w:World}: ∀{t:Ty} {v v':Val t} {h:Val (hd t)} {B B':List Nat},Nst w t v h B→Nst w t v' h B'→qag t v h=h→qag t v' h=h→v=v'
 | .int _,_,_,_,_,_,_,_,e,e' | .bool,_,_,_,_,_,_,_,e,e' | .str,_,_,_,_,_,_,_,e,e' | .hdr,_,_,_,_,_,_,_,e,e'=>by
   simp only [qag]at e e';exact e.trans e'.symm
 | .slice _ _,_,_,_,_,_,h,h',_,_=>(qlC h h').1
 | .pair a b,v,v',u,_,_,h,h',e,e'=>by
   obtain ⟨_,_,_,h1,h2⟩:=h
   obtain ⟨_,_,_,g1,g2⟩:=h'
   have e1:(qag a v.1 u.1,qag b v.2 u.2)=u:=e
   have e2:(qag a v'.1 u.1,qag b v'.2 u.2)=u:=e'
   exact Prod.ext (qqR h1 g1 (congrArg Prod.fst e1) (congrArg Prod.fst e2)) (qqR h2 g2 (congrArg Prod.snd e1) (congrArg Prod.snd e2))
theorem qoG {w:World} {t:Ty}: ∀{vs:List (Val t)} {hs:List (Val (hd t))} {B:List Nat},qam w t vs hs B→ ∃Bs:List (List Nat),B=Bs.flatten∧Bs.length=vs.length∧ ∀i v u,vs[i]?=some v→hs[i]?=some u→Nst w t v u (Bs.getD i [])
 | [],[],_,h=>⟨[],by rw [show _=_ from h];rfl,rfl,fun i v u hv=>by simp at hv⟩
 | [],_::_,_,h=>h.elim
 | _::_,[],_,h=>h.elim
 | v::vs,u::hs,_,h=>by
   obtain ⟨B1,B2,rfl,h1,h2⟩:=h
   obtain ⟨Bs,rfl,hl,hp⟩:=qoG h2
   refine ⟨B1::Bs,by simp,by simp [hl],fun i v' u' hv hu=> ?_⟩
   cases i with
   | zero=>simp at hv hu;subst hv;subst hu;simpa using h1
   | succ i=>simpa using hp i v' u' (by simpa using hv) (by simpa using hu)
theorem qnS {t:Ty} {vs:List (Val t)} {hs:List (Val (hd t))} (h:qaG t vs hs=hs) {i:Nat} {v:Val t} {u:Val (hd t)} (hv:vs[i]?=some v) (hu:hs[i]?=some u):qag t v u=u:=by
 have:=congrArg (fun l=>l[i]?) h
 simp only [qaG,List.getElem?_zipWith,hv,hu,Option.some.injEq]at this
 exact this
theorem qDq {w:World} {t:Ty} {vs:List (Val t)} {hs:List (Val (hd t))} {B:List Nat} (hn:qam w t vs hs B) (hm:qaG t vs hs=hs):qod t hs vs:=by
 have hl:=qzG hn
 refine ⟨hl.symm,hm,fun i j hi e=> ?_⟩
 obtain ⟨Bs,_,_,hp⟩:=qoG hn
 have h1:hs[i]?=some hs[i]:=List.getElem?_eq_getElem hi
 have h2:=e▸h1
 have hj:j<hs.length:=(List.getElem?_eq_some_iff.1 h2).1
 have v1:vs[i]?=some vs[i]:=List.getElem?_eq_getElem (by omega)
 have v2:vs[j]?=some vs[j]:=List.getElem?_eq_getElem (by omega)
 rw [v1,v2,qqR (hp i _ _ v1 h1) (hp j _ _ v2 h2) (qnS hm v1 h1) (qnS hm v2 h2)]
theorem qQA {t:Ty} {vs:List (Val t)} {hs:List (Val (hd t))} (g:qod t hs vs) {i:Nat} {u:Val (hd t)} {v:Val t} (hu:hs[i]?=some u) (hv:vs[i]?=some v):lk t hs vs u=v:=by
 unfold lk
 have hk:=List.findIdx_lt_length_of_exists (p:=fun x=> @decide (x=u) (Classical.propDecidable _)) (xs:=hs) ⟨u,List.mem_of_getElem? hu,by simp⟩
 have hpk:=List.findIdx_getElem (w:=hk)
 simp only [decide_eq_true_eq]at hpk
 have:=g.2.2 _ i hk (by rw [List.getElem?_eq_getElem hk,hpk,hu])
 rw [hv]at this
 rw [List.getD,this]
 rfl
noncomputable def qcs (e:Nat) (t':Ty) (xs:List (Val t')) (t:Ty) (hs:List (Val (hd t))) (vs:List (Val t)):Prop×LC:=
 if hh:t'=hd t then (∀y∈(hh▸xs:List (Val (hd t))),y∈hs,.sl e t ((hh▸xs:List (Val (hd t))).map (lk t hs vs)) 0)else (True,.sl e t' xs 0)
noncomputable def qcg (h:List Blk) (t:Ty) (hs:List (Val (hd t))) (vs:List (Val t)):LC→Option (Prop×LC)
 | .own id=>match h[id]? with
   | some (.row e t' xs _ _ _)=>some (qcs e t' xs t hs vs)
   | _=>none
 | .sl e t' xs _=>some (qcs e t' xs t hs vs)
 | .int k n=>some (True,.int k n)
 | .bool b=>some (True,.bool b)
 | .str s=>some (True,.str s)
 | .nils=>some (True,.nils)
 | _=>none
noncomputable def qiG (h:List Blk) (t:Ty) (hs:List (Val (hd t))) (vs:List (Val t)):List LC→Option (Prop×List LC)
 | []=>some (True,[])
 | c::r=>match qcg h t hs vs c,qiG h t hs vs r with
   | some (p,c'),some (q,r')=>some (p∧q,c'::r')
   | _,_=>none
def qCR:List LC→Bool
 | []=>false
 | .hdr _::_=>true
 | _::r=>qCR r
noncomputable def qhY (h:List Blk) (t:Ty) (hs:List (Val (hd t))) (vs:List (Val t)):LV→Option (Prop×LV)
 | .one c=>match qcg h t hs vs c with
   | some (p,c')=>some (p,.one c')
   | none=>none
 | .agg cs=>match qCR cs with
   | true=>match qu h (hd t) cs with
     | some (u,[])=>some (u∈hs,.agg (qbd 0 t (lk t hs vs u)))
     | _=>none
   | false=>match qiG h t hs vs cs with
     | some (p,cs')=>some (p,.agg cs')
     | none=>none
 | .tup _=>none
noncomputable def qi1 (h:List Blk) (t:Ty) (hs:List (Val (hd t))) (vs:List (Val t)):List LV→Option (Prop×List LV)
 | []=>some (True,[])
 | l::r=>match qhY h t hs vs l,qi1 h t hs vs r with
   | some (p,l'),some (q,r')=>some (p∧q,l'::r')
   | _,_=>none
theorem qom {w:World} {ok:Nat→Prop}: ∀{t:Ty} {v:Val t} {u:Val (hd t)} {cs:List Value} {B:List Nat},K w ok (hd t) u cs→Nst w t v u B→qag t v u=u→K w (fun _=>True) t v cs
 | .int _,_,_,_,_,h,_,e=>by have h:K w ok (.int _) _ _:=h;rw [K]at h ⊢;simp only [qag]at e;rw [h,e]
 | .bool,_,_,_,_,h,_,e=>by have h:K w ok .bool _ _:=h;rw [K]at h ⊢;simp only [qag]at e;rw [h,e]
 | .str,_,_,_,_,h,_,e=>by have h:K w ok .str _ _:=h;rw [K]at h ⊢;simp only [qag]at e;rw [h,e]
 | .hdr,_,_,_,_,h,_,e=>by have h:K w ok .hdr _ _:=h;rw [K]at h ⊢;simp only [qag]at e;rw [e];exact h
 | .slice e t,v,u,cs,B,h,hn,_=>by
   have h:K w ok .hdr u cs:=h
   rw [K]at h
   rw [h.1]
   exact M_K hn fun _ _=>trivial
 | .pair a b,v,u,cs,B,h,hn,e=>by
   obtain ⟨c1,c2,rfl,h1,h2⟩:=h
   obtain ⟨B1,B2,rfl,n1,n2⟩:=hn
   have e:(qag a v.1 u.1,qag b v.2 u.2)=u:=e
   exact ⟨c1,c2,rfl,qom h1 n1 (congrArg Prod.fst e),qom h2 n2 (congrArg Prod.snd e)⟩
theorem Rd.map {α β:Type} {w:World} {ok:Nat→Prop} {sz:Nat} {R:β→List Value→Prop} {A:Option Addr} {xs:List α} {f:α→β} (h:Rd w ok sz (fun x c=>R (f x) c) A xs):Rd w ok sz R A (xs.map f):=by
 intro i y hy
 rw [List.getElem?_map]at hy
 cases hx:xs[i]? with
 | none=>rw [hx]at hy;simp at hy
 | some x=>
   rw [hx]at hy
   simp only [Option.map_some,Option.some.injEq]at hy
   subst hy
   exact h i x hx
section
variable {w : World} {m : Mp} {h : List Blk}
def mT:Mp:=⟨fun _=>undef,fun _=>0,fun _=>[],fun _=>True⟩
theorem okT (n b:Nat):qr mT [] n b:=⟨trivial,fun id x hx=>by simp at hx⟩
theorem qCE {t:Ty} {hs:List (Val (hd t))} {vs:List (Val t)} {F:List Nat} (hN:qam w t vs hs F) (hm:qaG t vs hs=hs) {u:Val (hd t)} (hu:u∈hs): ∃B,Nst w t (lk t hs vs u) u B∧qag t (lk t hs vs u) u=u:=by
 obtain ⟨i,hi⟩:=List.getElem?_of_mem hu
 have hl:=qzG hN
 have hlt:i<vs.length:=by rw [hl];exact (List.getElem?_eq_some_iff.1 hi).1
 have hv:vs[i]?=some vs[i]:=List.getElem?_eq_getElem hlt
 obtain ⟨Bs,_,_,hp⟩:=qoG hN
 rw [qQA (qDq hN hm) hi hv]
 exact ⟨_,hp i _ _ hv hi,qnS hm hv hi⟩
theorem qDf {t:Ty} {hs:List (Val (hd t))} {vs:List (Val t)} {F:List Nat} (hN:qam w t vs hs F) (hm:qaG t vs hs=hs) {e:Nat} {t':Ty} {xs:List (Val t')} {A:Option Addr} {c:Nat} (hc:xs.length≤c) (hr:Rd w (fun _=>True) t'.sz (K w (fun _=>True) t') A xs) (hp:(qcs e t' xs t hs vs).1):
 C w mT [] (qcs e t' xs t hs vs).2 (.slice A xs.length c):=by
 unfold qcs at hp ⊢
 split
 ·rename_i hh
  subst hh
  simp only [dif_pos]at hp
  have hp: ∀y∈xs,y∈hs:=hp
  refine ⟨A,c,by simp,by simpa using hc,?_⟩
  refine Rd.map fun i x hx=> ?_
  obtain ⟨a,cs,hA,_,hK,hat⟩:=hr i x hx
  obtain ⟨B,hn,he⟩:=qCE hN hm (hp x (List.mem_of_getElem? hx))
  rw [qeK]at hat
  refine ⟨a,cs,hA,okT _ _,?_,hat⟩
  exact qaf (fun _ _ _=>rfl) (fun b _ _=>okT _ b) (qom hK hn he)
 ·refine ⟨A,c,rfl,hc,?_⟩
  exact qf6 (fun _ _ _=>rfl) (fun b _ _=>okT _ b) hr
theorem qCT {t:Ty} {hs:List (Val (hd t))} {vs:List (Val t)} {F:List Nat} (H: ∀id x,h[id]?=some x→BR w m h id x) (hN:qam w t vs hs F) (hm:qaG t vs hs=hs) {c:LC} {v:Value} {p:Prop} {c':LC} (hc:C w m h c v) (he:qcg h t hs vs c=some (p,c')) (hp:p):C w mT [] c' v:=by
 cases c with
 | own id=>
   simp only [qcg]at he
   split at he
   ·rename_i e t' xs dp mt n hx
    simp only [Option.some.injEq]at he
    have hp':(qcs e t' xs t hs vs).1:=by rw [he];exact hp
    simp only [C,hx]at hc
    subst hc
    obtain ⟨inner,ho,hin⟩:=H id _ hx
    have hk:Ks (K w (fun _=>True) t') xs inner:=by
       cases dp with
       | true=>exact hin.1.toKs fun x c b _ hM=>M_K hM fun _ _=>trivial
       | false=>exact hin.imp fun x c hk=>qaf (fun _ _ _=>rfl) (fun _ _ _=>trivial) hk
    obtain ⟨A,cp,hv,hcp,hr⟩:=qmx (ok:=fun _=>True) ho (fun x c hx=>qaj hx) hk fun _ _=>trivial
    have:=qDf hN hm hcp hr hp'
    rw [hv,show c'=(qcs e t' xs t hs vs).2 by rw [he]]
    exact this
   ·simp at he
 | sl e t' xs n=>
   simp only [qcg,Option.some.injEq]at he
   have hp':(qcs e t' xs t hs vs).1:=by rw [he];exact hp
   obtain ⟨A,cp,rfl,hcp,hr⟩:=hc
   have:=qDf hN hm hcp (qf6 (ok':=fun _=>True) (fun _ _ _=>rfl) (fun _ _ _=>trivial) hr) hp'
   rw [show c'=(qcs e t' xs t hs vs).2 by rw [he]]
   exact this
 | int k n=>simp only [qcg,Option.some.injEq,Prod.mk.injEq]at he;rw [←he.2];exact hc
 | bool b=>simp only [qcg,Option.some.injEq,Prod.mk.injEq]at he;rw [←he.2];exact hc
 | str s=>simp only [qcg,Option.some.injEq,Prod.mk.injEq]at he;rw [←he.2];exact hc
 | nils=>simp only [qcg,Option.some.injEq,Prod.mk.injEq]at he;rw [←he.2];exact hc
 | _=>simp [qcg]at he
theorem qD2 {t:Ty} {hs:List (Val (hd t))} {vs:List (Val t)} {F:List Nat} (H: ∀id x,h[id]?=some x→BR w m h id x) (hN:qam w t vs hs F) (hm:qaG t vs hs=hs): ∀{cs:List LC} {us:List Value} {p:Prop} {cs':List LC},F2 (C w m h) cs us→qiG h t hs vs cs=some (p,cs')→p→F2 (C w mT []) cs' us
 | [],_,_,_,.nil,he,_=>by simp only [qiG,Option.some.injEq,Prod.mk.injEq]at he;rw [←he.2];exact .nil
 | c::r,_,_,_,.cons h1 h2,he,hp=>by
   simp only [qiG]at he
   split at he
   ·rename_i p1 c1 p2 r2 e1 e2
    simp only [Option.some.injEq,Prod.mk.injEq]at he
    obtain ⟨rfl,rfl⟩:=he
    exact .cons (qCT H hN hm h1 e1 hp.1) (qD2 H hN hm h2 e2 hp.2)
   ·simp at he
theorem qKP {t:Ty} {hs:List (Val (hd t))} {vs:List (Val t)} {F:List Nat} (H: ∀id x,h[id]?=some x→BR w m h id x) (hN:qam w t vs hs F) (hm:qaG t vs hs=hs) {l l':LV} {v:Value} {p:Prop} (hv:V w m h l v) (he:qhY h t hs vs l=some (p,l')) (hp:p):V w mT [] l' v:=by
 cases l with
 | tup=>simp [qhY]at he
 | one c=>
   simp only [qhY]at he
   split at he
   ·rename_i p1 c1 e1
    simp only [Option.some.injEq,Prod.mk.injEq]at he
    obtain ⟨rfl,rfl⟩:=he
    exact qCT H hN hm (c:=c) hv e1 hp
   ·simp at he
 | agg cs=>
   obtain ⟨us,rfl,hf⟩:=hv
   simp only [qhY]at he
   split at he
   ·split at he
    ·rename_i u hi
     simp only [Option.some.injEq,Prod.mk.injEq]at he
     obtain ⟨rfl,rfl⟩:=he
     obtain ⟨v1,v2,hvs,hK,hr,_⟩:=qc2 (ok:=fun _=>True) H hf hi (fun c _=>by
      cases c<;>simp only [okC]
      ·exact fun _ _ _=>trivial
      ·intro x _
       exact ⟨fun _ _=>trivial,by split<;>simp⟩)
     cases hr
     rw [List.append_nil]at hvs
     obtain ⟨B,hn,hx⟩:=qCE hN hm hp
     refine ⟨us,rfl,?_⟩
     rw [hvs]
     exact qgD (qaf (fun _ _ _=>rfl) (fun b _ _=>okT _ b) (qom hK hn hx))
    ·simp at he
   ·split at he
    ·rename_i p1 cs1 e1
     simp only [Option.some.injEq,Prod.mk.injEq]at he
     obtain ⟨rfl,rfl⟩:=he
     exact ⟨us,rfl,qD2 H hN hm hf e1 hp⟩
    ·simp at he
theorem qEl {t:Ty} {hs:List (Val (hd t))} {vs:List (Val t)} {F:List Nat} (H: ∀id x,h[id]?=some x→BR w m h id x) (hN:qam w t vs hs F) (hm:qaG t vs hs=hs): ∀{ls:List LV} {us:List Value} {p:Prop} {ls':List LV},F2 (V w m h) ls us→qi1 h t hs vs ls=some (p,ls')→p→F2 (V w mT []) ls' us
 | [],_,_,_,.nil,he,_=>by simp only [qi1,Option.some.injEq,Prod.mk.injEq]at he;rw [←he.2];exact .nil
 | l::r,_,_,_,.cons h1 h2,he,hp=>by
   simp only [qi1]at he
   split at he
   ·rename_i p1 c1 p2 r2 e1 e2
    simp only [Option.some.injEq,Prod.mk.injEq]at he
    obtain ⟨rfl,rfl⟩:=he
    exact .cons (qKP H hN hm h1 e1 hp.1) (qEl H hN hm h2 e2 hp.2)
   ·simp at he
end
end Go.T
/- T: contracts of functions; several new rows at once. -/
namespace Go.T
open Go
@[reducible] def qa : List TI → Type
  | []=>Unit
  | ti::r=>Val ti.ty×qa r
structure G where
 ps:List TI
 rs:List TI
 dp:Bool
 pre:qa ps→Prop
 fn:qa ps→qa rs
def qar (agg:Bool) (cs:List Value) (u:Value):Prop:=match agg with
 | true=>u= .agg cs.toArray
 | false=>cs=[u]
def VKs (w:World) (ok:Nat→Prop):(tis:List TI)→qa tis→List Value→Prop
 | [],_,us=>us=[]
 | ti::r,x,us=> ∃u rest cs,us=u::rest∧K w ok ti.ty x.1 cs∧qar ti.agg cs u∧VKs w ok r x.2 rest
def VMs (w:World):(tis:List TI)→qa tis→List Value→List Nat→Prop
 | [],_,us,B=>us=[]∧B=[]
 | ti::r,x,us,B=> ∃u rest cs B1 B2,us=u::rest∧B=B1++B2∧M w ti.ty x.1 cs B1∧qar ti.agg cs u∧VMs w r x.2 rest B2
def qbG:List Value→Value
 | [u]=>u
 | us=> .tuple us.toArray
def qcH (P : Program) (f : FuncId) : Prop := ∃ fn, P.funcs[f]? = some fn ∧ fn.body.isNone = false ∧ (fn.name == "runtime.NumGoroutine") = false
structure Sound (P:Program) (f:FuncId) (g:G):Prop where
 enters:qcH P f
 runs: ∀x:qa g.ps,g.pre x→ ∀(w:World) (ext:Nat→Prop) (vs:Array Value),VKs w ext g.ps x vs.toList→(∀b,w.heap.size≤b→ext b)→
  Calls P f vs w fun e w'=> ∃us,e= .returned (qbG us)∧Fr (fun _=>False) w w'∧(match g.dp with
   | true=> ∃B,VMs w' g.rs (g.fn x) us B∧B.Nodup∧ ∀b∈B,w.heap.size≤b
   | false=>VKs w' ext g.rs (g.fn x) us)
def LV.isAgg:LV→Option Bool
 | .one _=>some false
 | .agg _=>some true
 | .tup _=>none
def qat (h:List Blk):(tis:List TI)→List LV→Option (qa tis)
 | [],[]=>some ()
 | ti::r,l::ls=>if l.isAgg=some ti.agg then match qu h ti.ty l.cells with
    | some (x,[])=>match qat h r ls with
      | some xs=>some (x,xs)
      | none=>none
    | _=>none
   else none
 | _,_=>none
def qad:(base:Nat)→(t:Ty)→Val t→List LC×List Blk
 | _,.int k,v=>([.int k v],[])
 | _,.bool,v=>([.bool v],[])
 | _,.str,v=>([.str v],[])
 | _,.hdr,v=>([.hdr v],[])
 | base,.slice e t,v=>([.own base],[.row e t v true true 0])
 | base,.pair a b,v=>
   ((qad base a v.1).1++(qad (base+(qad base a v.1).2.length) b v.2).1,(qad base a v.1).2++(qad (base+(qad base a v.1).2.length) b v.2).2)
def qbf:(base:Nat)→(tis:List TI)→qa tis→List LV1×List Blk
 | _,[],_=>([],[])
 | base,ti::r,x=>
   (⟨ti.agg,(qad base ti.ty x.1).1⟩::(qbf (base+(qad base ti.ty x.1).2.length) r x.2).1,(qad base ti.ty x.1).2++(qbf (base+(qad base ti.ty x.1).2.length) r x.2).2)
def qbD (n:Nat):(tis:List TI)→qa tis→List LV1
 | [],_=>[]
 | ti::r,x=>⟨ti.agg,qbd n ti.ty x.1⟩::qbD n r x.2
def qcy:List LV1→LV
 | [v]=>v.lv
 | vs=> .tup vs
abbrev Gam:=List (Nat×G)
def Gam.get:Gam→Nat→Option G
 | [],_=>none
 | (f,g)::r,f'=>if f=f' then some g else Gam.get r f'
def Blk.up (n:Nat):Blk→Blk
 | .row e t xs dp mt _=> .row e t xs dp mt n
 | b=>b
noncomputable def qc9 (st:St) (g:G) (args:List LV) (d:Option Tmp):Option Blk→Res
 | some (.nst _ t hs vs)=>match g.dp with
   | true=>match qi1 st.heap t hs vs args with
     | some (p,ls)=>match qat [] g.ps ls with
       | some x=>some (qaG t vs hs=hs∧p∧g.pre x,st.res d (qcy (qbf st.heap.length g.rs (g.fn x)).1) (st.heap++(qbf st.heap.length g.rs (g.fn x)).2.map (Blk.up st.heap.length)))
       | none=>none
     | none=>none
   | false=>none
 | _=>none
def LC.low:LC→Bool
 | .sl _ _ _ n=>n==0
 | .tptr _ _ _ n=>n==0
 | .own _=>false
 | .ptr .. =>false
 | _=>true
def qfn (args:List LV) (n:Nat):Nat:=bif args.all fun l=>l.cells.all LC.low then 0 else n
def qHe:Blk→Bool
 | .nst .. =>true
 | _=>false
noncomputable def qdN (Γ:Gam) (f:Nat) (args:List LV) (d:Option Tmp) (st:St):Res:=match Γ.get f with
 | none=>none
 | some g=>match qat st.heap g.ps args with
   | none=>qc9 st g args d (st.heap.find? qHe)
   | some x=>match g.dp with
     | true=>some (g.pre x,st.res d (qcy (qbf st.heap.length g.rs (g.fn x)).1) (st.heap++(qbf st.heap.length g.rs (g.fn x)).2.map (Blk.up st.heap.length)))
     | false=>some (g.pre x,st.res d (qcy (qbD (qfn args st.heap.length) g.rs (g.fn x))) (freeze st.heap (qf (args.flatMap LV.cells))))
theorem qFu {g:G} {args:List LV} {d:Option Tmp} {b:Option Blk} {st:St} {p:Prop} {s:St} (hs:qc9 st g args d b=some (p,s)): ∃l h,s=st.res d l h∧ ∀st2:St,st2.heap=st.heap→qc9 st2 g args d b=some (p,st2.res d l h):=by
 unfold qc9 at hs
 split at hs
 ·rename_i F t ns vs
  split at hs
  ·rename_i hd
   split at hs
   ·rename_i q ls hls
    split at hs
    ·rename_i x hx
     simp only [Option.some.injEq,Prod.mk.injEq]at hs
     obtain ⟨rfl,rfl⟩:=hs
     exact ⟨_,_,rfl,fun st2 h2=>by simp only [qc9,hd,h2,hls,hx]⟩
    ·simp at hs
   ·simp at hs
  ·simp at hs
 ·simp at hs
theorem qMC (Γ:Gam) (f:Nat) (args:List LV) (d:Option Tmp):qcL (qdN Γ f args d) d:=by
 intro st p s hs
 unfold qdN at hs ⊢
 split at hs
 ·simp at hs
 ·rename_i g hg
  split at hs
  ·rename_i hx
   obtain ⟨l,h,e,hk⟩:=qFu hs
   exact ⟨l,h,e,fun st2 h2=>by simp only [hg,h2,hx];exact hk st2 h2⟩
  ·rename_i x hx
   split at hs
   ·rename_i hd
    cases hs
    exact ⟨_,_,rfl,fun st2 h2=>by simp only [hg,h2,hx,hd]⟩
   ·rename_i hd
    cases hs
    exact ⟨_,_,rfl,fun st2 h2=>by simp only [hg,h2,hx,hd]⟩
section
variable {w0 w w' : World} {mine : Mine} {m m' : Mp} {h h1 : List Blk}
theorem HR.newL {xs:List Blk} (H:HR w0 mine w m h) (hw:qL h h1) (hfr:Fr (fun _=>False) w w')
 (hval: ∀i,i<h.length→m'.val i=m.val i) (hblk: ∀i,i<h.length→m'.blk i=m.blk i) (hnst: ∀i,i<h.length→m'.nst i=m.nst i) (hext:m'.ext=m.ext)
 (hokx: ∀n b,qr m h n b→b<w.heap.size→ ∀j x,xs[j]?=some x→okB m' n b (h.length+j) x)
 (hbr: ∀j x,xs[j]?=some x→BR w' m' (h1++xs) (h.length+j) x)
 (hnd: ∀j x,xs[j]?=some x→(fpB m' (h.length+j) x).Nodup)
 (hdj: ∀j x j' x',j≠j'→xs[j]?=some x→xs[j']?=some x'→ ∀b∈fpB m' (h.length+j) x,b∉fpB m' (h.length+j') x')
 (hlt: ∀j x,xs[j]?=some x→ ∀b∈fpB m' (h.length+j) x,w.heap.size≤b∧b<w'.heap.size):
 HR w0 mine w' m' (h1++xs)∧Oks w w' m m' h (h1++xs)∧qP m m' h (h1++xs):=by
 obtain ⟨H1,hok1,hs1⟩:=H.weaker hw
 have hl1:=hw.1
 have get: ∀id y,(h1++xs)[id]?=some y→(id<h.length∧h1[id]?=some y)∨(∃j,id=h.length+j∧xs[j]?=some y):=fun id y hy=>by
  by_cases hl:id<h1.length
  ·rw [List.getElem?_append_left hl]at hy;exact .inl ⟨by omega,hy⟩
  ·rw [List.getElem?_append_right (by omega)]at hy
   exact .inr ⟨id - h1.length,by omega,hy⟩
 have okB_eq: ∀n b id y,id<h.length→(okB m' n b id y↔okB m n b id y):=fun n b id y hl=>by
  cases y<;>simp [okB,hval id hl,hblk id hl,hnst id hl]
 have fpB_eq: ∀id y,id<h.length→fpB m' id y=fpB m id y:=fun id y hl=>by
  cases y<;>simp [fpB,hval id hl,hblk id hl,hnst id hl]
 have hok:Oks w w' m m' h (h1++xs):=fun n b hb hl=>⟨hfr.block b hl (fun h=>h),by rw [hext];exact hb.1,fun id y hy=>by
  rcases get id y hy with ⟨hl',hy'⟩ | ⟨j,rfl,hy'⟩
  ·exact (okB_eq n b id y hl').2 ((hok1 n b hb hl).2.2 id y hy')
  ·exact hokx n b hb hl j y hy'⟩
 have hs:qP m m' h (h1++xs):=fun id y hy=>by
  have hl:=(List.getElem?_eq_some_iff.1 hy).1
  obtain ⟨y1,hy1,hsm⟩:=hs1 id y hy
  refine ⟨y1,by rw [List.getElem?_append_left (by omega)];exact hy1,?_⟩
  cases y<;>cases y1<;>simp_all [Sim]
 refine ⟨⟨fun id y hy=> ?_,fun id y hy=> ?_,fun id y1 id' y2 hne h1' h2' b hb hb'=> ?_,fun id y hy b hb=> ?_,?_,hext.trans H.mx,H.nx,fun id v hp=>by
  obtain ⟨h1,h2⟩:=H.pn id v hp
  exact ⟨by simp;omega,by rw [hval id h1,hblk id h1];exact h2⟩⟩,hok,hs⟩
 ·rcases get id y hy with ⟨hl,hy'⟩ | ⟨j,rfl,hy'⟩
  ·obtain ⟨y0,hy0,hwk⟩: ∃y0,h[id]?=some y0∧qap y0 y:=⟨h[id],List.getElem?_eq_getElem hl,hw.2 id _ _ (List.getElem?_eq_getElem hl) hy'⟩
   exact qbN hok hs (hval id hl) (hblk id hl) (hnst id hl) (fun b hb=>hfr.block b (H1.lt id y hy' b hb).1 (fun hA=>hA)) (qhG hwk (H.br id y0 hy0))
  ·exact hbr j y hy'
 ·rcases get id y hy with ⟨hl,hy'⟩ | ⟨j,rfl,hy'⟩
  ·rw [fpB_eq id y hl];exact H1.nd id y hy'
  ·exact hnd j y hy'
 ·rcases get id y1 h1' with ⟨hl1,hy1⟩ | ⟨j1,rfl,hy1⟩<;>rcases get id' y2 h2' with ⟨hl2,hy2⟩ | ⟨j2,rfl,hy2⟩
  ·rw [fpB_eq id y1 hl1]at hb;rw [fpB_eq id' y2 hl2]at hb'
   exact H1.dj id y1 id' y2 hne hy1 hy2 b hb hb'
  ·rw [fpB_eq id y1 hl1]at hb
   have h1:=(H1.lt id y1 hy1 b hb).1
   have h2:=(hlt j2 y2 hy2 b hb').1
   omega
  ·rw [fpB_eq id' y2 hl2]at hb'
   have h1:=(H1.lt id' y2 hy2 b hb').1
   have h2:=(hlt j1 y1 hy1 b hb).1
   omega
  ·exact hdj j1 y1 j2 y2 (fun e=>hne (by omega)) hy1 hy2 b hb hb'
 ·rcases get id y hy with ⟨hl,hy'⟩ | ⟨j,rfl,hy'⟩
  ·rw [fpB_eq id y hl]at hb
   have:=H1.lt id y hy' b hb
   exact ⟨Nat.lt_of_lt_of_le this.1 hfr.size,this.2⟩
  ·have:=hlt j y hy' b hb
   exact ⟨this.2,.inl (Nat.le_trans H.fr.size this.1)⟩
 ·exact hfr.lift H fun k hk=>hk.elim
end
end Go.T
/- T: what a call gives. -/
namespace Go.T
open Go
abbrev qM:=Value×List Nat
def qM.fp (r:qM):List Nat:=r.1.ownBlock.toList++r.2
def qcu (w:World) (x:Blk) (r:qM):Prop:= ∃(e:Nat) (t:Ty) (xs:List (Val t)) (inner:List Value),x= .row e t xs true true 0∧w.ownsRow 0 e t.sz r.1 xs.length inner∧Ms (M w t) xs inner r.2
def qaW (base:Nat) (rl:List qM):LC→Value→Prop
 | .own id,u=> ∃j r,id=base+j∧rl[j]?=some r∧u=r.1
 | .int k n,u=>u= .int k n
 | .bool b,u=>u= .bool b
 | .str s,u=>u= .string s
 | .hdr v,u=>u=v∧v.oneCell'=true
 | _,_=>False
theorem qaW.left {base:Nat} {rl rl2:List qM} {c:LC} {u:Value} (h:qaW base rl c u):qaW base (rl++rl2) c u:=by
 cases c<;>simp only [qaW]at h ⊢ <;>try exact h
 obtain ⟨j,r,h1,h2,h3⟩:=h
 exact ⟨j,r,h1,by rw [List.getElem?_append_left (List.getElem?_eq_some_iff.1 h2).1];exact h2,h3⟩
theorem qaW.right {base:Nat} {rl rl2:List qM} {c:LC} {u:Value} (h:qaW (base+rl.length) rl2 c u):qaW base (rl++rl2) c u:=by
 cases c<;>simp only [qaW]at h ⊢ <;>try exact h
 obtain ⟨j,r,h1,h2,h3⟩:=h
 exact ⟨rl.length+j,r,by omega,by rw [List.getElem?_append_right (by omega)];simpa using h2,h3⟩
def qCm (n:Nat) (w:World) (x:Blk) (r:qM):Prop:= ∃(e:Nat) (t:Ty) (xs:List (Val t)) (inner:List Value),x= .row e t xs true true n∧w.ownsRow 0 e t.sz r.1 xs.length inner∧Ms (M w t) xs inner r.2
theorem qs0 {w:World}: ∀{t:Ty} {v:Val t} {cs:List Value} {B:List Nat} (base:Nat),M w t v cs B→ ∃rl:List qM,F2 (qcu w) (qad base t v).2 rl∧B=rl.flatMap qM.fp∧F2 (qaW base rl) (qad base t v).1 cs
 | .int _,_,_,_,_,h=>by rw [M]at h;obtain ⟨rfl,rfl⟩:=h;exact ⟨[],.nil,rfl,.cons rfl .nil⟩
 | .bool,_,_,_,_,h=>by rw [M]at h;obtain ⟨rfl,rfl⟩:=h;exact ⟨[],.nil,rfl,.cons rfl .nil⟩
 | .str,_,_,_,_,h=>by rw [M]at h;obtain ⟨rfl,rfl⟩:=h;exact ⟨[],.nil,rfl,.cons rfl .nil⟩
 | .hdr,_,_,_,_,h=>by rw [M]at h;obtain ⟨⟨rfl,h1⟩,rfl⟩:=h;exact ⟨[],.nil,rfl,.cons ⟨rfl,h1⟩ .nil⟩
 | .slice e t,xs,_,_,base,h=>by
   rw [M]at h
   obtain ⟨v,inner,Bs,rfl,rfl,ho,hm⟩:=h
   exact ⟨[(v,Bs)],.cons ⟨e,t,xs,inner,rfl,ho,hm⟩ .nil,by simp [qM.fp],.cons ⟨0,(v,Bs),by simp,rfl,rfl⟩ .nil⟩
 | .pair a b,v,_,_,base,h=>by
   rw [M]at h
   obtain ⟨c1,c2,B1,B2,rfl,rfl,h1,h2⟩:=h
   obtain ⟨r1,f1,rfl,g1⟩:=qs0 base h1
   obtain ⟨r2,f2,rfl,g2⟩:=qs0 (base+(qad base a v.1).2.length) h2
   refine ⟨r1++r2,f1.append f2,by simp,(g1.imp fun _ _ _ h=>h.left).append (g2.imp fun _ _ _ h=> ?_)⟩
   rw [f1.len]at h
   exact h.right
def V1R (base:Nat) (rl:List qM) (l:LV1) (u:Value):Prop:= ∃cs,F2 (qaW base rl) l.cs cs∧qar l.agg cs u
theorem qzt {w:World}: ∀{tis:List TI} {x:qa tis} {us:List Value} {B:List Nat} (base:Nat),VMs w tis x us B→ ∃rl:List qM,F2 (qcu w) (qbf base tis x).2 rl∧B=rl.flatMap qM.fp∧F2 (V1R base rl) (qbf base tis x).1 us
 | [],_,_,_,_,h=>by obtain ⟨rfl,rfl⟩:=h;exact ⟨[],.nil,rfl,.nil⟩
 | ti::r,x,_,_,base,h=>by
   obtain ⟨u,rest,cs,B1,B2,rfl,rfl,h1,hw,h2⟩:=h
   obtain ⟨r1,f1,rfl,g1⟩:=qs0 base h1
   obtain ⟨r2,f2,rfl,g2⟩:=qzt (base+(qad base ti.ty x.1).2.length) h2
   refine ⟨r1++r2,f1.append f2,by simp,.cons ⟨cs,g1.imp fun _ _ _ h=>h.left,hw⟩ (g2.imp fun _ _ _ h=> ?_)⟩
   obtain ⟨cs',hf,hw'⟩:=h
   refine ⟨cs',hf.imp fun _ _ _ h=> ?_,hw'⟩
   rw [f1.len]at h
   exact h.right
theorem qAM {α:Type} {f:α→List Nat}: ∀{l:List α} {i j:Nat} {x y:α},(l.flatMap f).Nodup→i≠j→l[i]?=some x→l[j]?=some y→ ∀b∈f x,b∉f y
 | a::l,i,j,x,y,hn,hne,hi,hj,b,hx=>by
   rw [List.flatMap_cons,List.nodup_append]at hn
   obtain ⟨_,h2,h3⟩:=hn
   have mem: ∀{k:Nat} {z:α},l[k]?=some z→ ∀b∈f z,b∈l.flatMap f:=fun hk b hb=>List.mem_flatMap.2 ⟨_,List.mem_of_getElem? hk,hb⟩
   cases i with
   | zero=>
     simp at hi;subst hi
     cases j with
     | zero=>exact absurd rfl hne
     | succ j=>exact fun hy=>h3 b hx b (mem (by simpa using hj) b hy) rfl
   | succ i=>
     cases j with
     | zero=>
       simp at hj;subst hj
       exact fun hy=>h3 b hy b (mem (by simpa using hi) b hx) rfl
     | succ j=>exact qAM (i:=i) (j:=j) h2 (fun e=>hne (by omega)) (by simpa using hi) (by simpa using hj) b hx
theorem qqw {α:Type} {f:α→List Nat}: ∀{l:List α} {i:Nat} {x:α},(l.flatMap f).Nodup→l[i]?=some x→(f x).Nodup
 | a::l,i,x,hn,hi=>by
   rw [List.flatMap_cons,List.nodup_append]at hn
   cases i with
   | zero=>simp at hi;subst hi;exact hn.1
   | succ i=>exact qqw hn.2.1 (by simpa using hi)
section
variable {w0 w w' : World} {mine : Mine} {m m' : Mp} {h h1 : List Blk}
def Mp.rows (m:Mp) (n:Nat) (rl:List qM):Mp:={m with val:=fun i=>if i<n then m.val i else (rl.getD (i - n) (undef,[])).1,nst:=fun i=>if i<n then m.nst i else (rl.getD (i - n) (undef,[])).2}
theorem qc3 {m:Mp} {n j:Nat} {rl:List qM} {r:qM} (h:rl[j]?=some r):(m.rows n rl).val (n+j)=r.1∧(m.rows n rl).nst (n+j)=r.2:=by
 have: ¬(n+j<n):=by omega
 simp [Mp.rows,h,List.getD,this]
theorem HR.results (H:HR w0 mine w m h) (hfr:Fr (fun _=>False) w w') {bl:List Blk} {rl:List qM} (hf:F2 (qcu w') bl rl) (hn:(rl.flatMap qM.fp).Nodup) (hlo: ∀b∈rl.flatMap qM.fp,w.heap.size≤b):
 HR w0 mine w' (m.rows h.length rl) (h++bl)∧Oks w w' m (m.rows h.length rl) h (h++bl)∧qP m (m.rows h.length rl) h (h++bl):=by
 have hmem: ∀{j:Nat} {r:qM},rl[j]?=some r→ ∀b∈r.fp,b∈rl.flatMap qM.fp:=fun hj b hb=>List.mem_flatMap.2 ⟨_,List.mem_of_getElem? hj,hb⟩
 have hfp: ∀{j:Nat} {x:Blk} {r:qM},rl[j]?=some r→qcu w' x r→fpB (m.rows h.length rl) (h.length+j) x=r.fp:=fun {j x r} hr hx=>by
  obtain ⟨e,t,xs,inner,rfl,_⟩:=hx
  obtain ⟨h1,h2⟩:=qc3 (m:=m) (n:=h.length) hr
  simp only [fpB,h1,h2,qM.fp]
 refine H.newL (qL.refl h) hfr (fun i hi=>by simp [Mp.rows,hi]) (fun _ _=>rfl) (fun i hi=>by simp [Mp.rows,hi]) rfl (fun n b hb hl j x hx=> ?_) (fun j x hx=> ?_) (fun j x hx=> ?_) (fun j x j' x' hne hx hx'=> ?_) (fun j x hx b hb=> ?_)
 ·obtain ⟨r,hr,hok⟩:=hf.get hx
  have hnb:b∉r.fp:=fun hm=>by have:=hlo b (hmem hr b hm);omega
  obtain ⟨h1,h2⟩:=qc3 (m:=m) (n:=h.length) hr
  obtain ⟨e,t,xs,inner,rfl,_⟩:=hok
  refine ⟨fun _ ho=>hnb ?_,fun _ _ hm=>hnb ?_⟩
  ·rw [h1]at ho;simp [qM.fp,ho]
  ·rw [h2]at hm;simp only [qM.fp];exact List.mem_append_right _ hm
 ·obtain ⟨r,hr,hok⟩:=hf.get hx
  obtain ⟨h1,h2⟩:=qc3 (m:=m) (n:=h.length) hr
  obtain ⟨e,t,xs,inner,rfl,ho,hm⟩:=hok
  exact ⟨inner,by rw [h1];exact ho,by simp only;rw [h2];exact ⟨hm,Nat.zero_le _⟩⟩
 ·obtain ⟨r,hr,hok⟩:=hf.get hx
  rw [hfp hr hok]
  exact qqw hn hr
 ·obtain ⟨r,hr,hok⟩:=hf.get hx
  obtain ⟨r',hr',hok'⟩:=hf.get hx'
  rw [hfp hr hok,hfp hr' hok']
  exact qAM hn hne hr hr'
 ·obtain ⟨r,hr,hok⟩:=hf.get hx
  rw [hfp hr hok]at hb
  refine ⟨hlo b (hmem hr b hb),?_⟩
  obtain ⟨e,t,xs,inner,rfl,ho,hm⟩:=hok
  rcases List.mem_append.1 hb with hb | hb
  ·exact (ho.lt b (by simpa using hb)).2
  ·exact qxr (fun x c b hx=>qhM hx) hm b hb
theorem HR.resultsUp (H:HR w0 mine w m h) (hfr:Fr (fun _=>False) w w') {bl:List Blk} {rl:List qM} (hf:F2 (qcu w') bl rl) (hn:(rl.flatMap qM.fp).Nodup) (hlo: ∀b∈rl.flatMap qM.fp,w.heap.size≤b):
 HR w0 mine w' (m.rows h.length rl) (h++bl.map (Blk.up h.length))∧Oks w w' m (m.rows h.length rl) h (h++bl.map (Blk.up h.length))∧qP m (m.rows h.length rl) h (h++bl.map (Blk.up h.length)):=by
 have hmem: ∀{j:Nat} {r:qM},rl[j]?=some r→ ∀b∈r.fp,b∈rl.flatMap qM.fp:=fun hj b hb=>List.mem_flatMap.2 ⟨_,List.mem_of_getElem? hj,hb⟩
 have hup:F2 (qCm h.length w') (bl.map (Blk.up h.length)) rl:=by
  clear hn hlo hmem
  induction hf with
  | nil=>exact .nil
  | cons h1 _ ih=>
    obtain ⟨e,t,xs,inner,rfl,h1⟩:=h1
    exact .cons ⟨e,t,xs,inner,rfl,h1⟩ ih
 have hfp: ∀{j:Nat} {x:Blk} {r:qM},rl[j]?=some r→qCm h.length w' x r→fpB (m.rows h.length rl) (h.length+j) x=r.fp:=fun {j x r} hr hx=>by
  obtain ⟨e,t,xs,inner,rfl,_⟩:=hx
  obtain ⟨h1,h2⟩:=qc3 (m:=m) (n:=h.length) hr
  simp only [fpB,h1,h2,qM.fp]
 refine H.newL (qL.refl h) hfr (fun i hi=>by simp [Mp.rows,hi]) (fun _ _=>rfl) (fun i hi=>by simp [Mp.rows,hi]) rfl (fun n b hb hl j x hx=> ?_) (fun j x hx=> ?_) (fun j x hx=> ?_) (fun j x j' x' hne hx hx'=> ?_) (fun j x hx b hb=> ?_)
 ·obtain ⟨r,hr,hok⟩:=hup.get hx
  have hnb:b∉r.fp:=fun hm=>by have:=hlo b (hmem hr b hm);omega
  obtain ⟨h1,h2⟩:=qc3 (m:=m) (n:=h.length) hr
  obtain ⟨e,t,xs,inner,rfl,_⟩:=hok
  refine ⟨fun _ ho=>hnb ?_,fun _ _ hm=>hnb ?_⟩
  ·rw [h1]at ho;simp [qM.fp,ho]
  ·rw [h2]at hm;simp only [qM.fp];exact List.mem_append_right _ hm
 ·obtain ⟨r,hr,hok⟩:=hup.get hx
  obtain ⟨h1,h2⟩:=qc3 (m:=m) (n:=h.length) hr
  obtain ⟨e,t,xs,inner,rfl,ho,hm⟩:=hok
  exact ⟨inner,by rw [h1];exact ho,by simp only;rw [h2];exact ⟨hm,Nat.le_add_right _ _⟩⟩
 ·obtain ⟨r,hr,hok⟩:=hup.get hx
  rw [hfp hr hok]
  exact qqw hn hr
 ·obtain ⟨r,hr,hok⟩:=hup.get hx
  obtain ⟨r',hr',hok'⟩:=hup.get hx'
  rw [hfp hr hok,hfp hr' hok']
  exact qAM hn hne hr hr'
 ·obtain ⟨r,hr,hok⟩:=hup.get hx
  rw [hfp hr hok]at hb
  refine ⟨hlo b (hmem hr b hb),?_⟩
  obtain ⟨e,t,xs,inner,rfl,ho,hm⟩:=hok
  rcases List.mem_append.1 hb with hb | hb
  ·exact (ho.lt b (by simpa using hb)).2
  ·exact qxr (fun x c b hx=>qhM hx) hm b hb
theorem qIX {bl:List Blk} {rl:List qM} (hf:F2 (qcu w') bl rl) {c:LC} {u:Value} (hc:qaW h.length rl c u):C w' (m.rows h.length rl) (h++bl) c u∧u.oneCell'=true:=by
 cases c<;>simp only [qaW]at hc<;>try exact hc.elim
 ·subst hc;exact ⟨rfl,rfl⟩
 ·subst hc;exact ⟨rfl,rfl⟩
 ·subst hc;exact ⟨rfl,rfl⟩
 ·obtain ⟨rfl,h1⟩:=hc;exact ⟨⟨rfl,h1⟩,h1⟩
 ·obtain ⟨j,r,rfl,hr,rfl⟩:=hc
  obtain ⟨x,hx,hok⟩:=hf.get' hr
  obtain ⟨h1,h2⟩:=qc3 (m:=m) (n:=h.length) hr
  obtain ⟨e,t,xs,inner,rfl,ho,hm⟩:=hok
  have:(h++bl)[h.length+j]?=some (.row e t xs true true 0):=by rw [List.getElem?_append_right (by omega)];simpa using hx
  refine ⟨by simp only [C,this];exact h1.symm,?_⟩
  obtain ⟨A,c,hv,_⟩:=qc8 ho
  rw [hv];rfl
theorem qsQ {bl:List Blk} {rl:List qM} (hf:F2 (qcu w') bl rl) {c:LC} {u:Value} (hc:qaW h.length rl c u):C w' (m.rows h.length rl) (h++bl.map (Blk.up h.length)) c u∧u.oneCell'=true:=by
 cases c<;>simp only [qaW]at hc<;>try exact hc.elim
 ·subst hc;exact ⟨rfl,rfl⟩
 ·subst hc;exact ⟨rfl,rfl⟩
 ·subst hc;exact ⟨rfl,rfl⟩
 ·obtain ⟨rfl,h1⟩:=hc;exact ⟨⟨rfl,h1⟩,h1⟩
 ·obtain ⟨j,r,rfl,hr,rfl⟩:=hc
  obtain ⟨x,hx,hok⟩:=hf.get' hr
  obtain ⟨h1,h2⟩:=qc3 (m:=m) (n:=h.length) hr
  obtain ⟨e,t,xs,inner,rfl,ho,hm⟩:=hok
  have:(h++bl.map (Blk.up h.length))[h.length+j]?=some (.row e t xs true true h.length):=by rw [List.getElem?_append_right (by omega)];simp [hx,Blk.up]
  refine ⟨by simp only [C,this];exact h1.symm,?_⟩
  obtain ⟨A,c,hv,_⟩:=qc8 ho
  rw [hv];rfl
theorem qER {bl:List Blk} {rl:List qM} (hf:F2 (qcu w') bl rl) {l:LV1} {u:Value} (hc:V1R h.length rl l u):V1 w' (m.rows h.length rl) (h++bl.map (Blk.up h.length)) l u:=by
 obtain ⟨agg,lcs⟩:=l
 obtain ⟨cs,h1,h2⟩:=hc
 cases agg with
 | true=>
   simp only [qar]at h2
   subst h2
   exact ⟨cs.toArray,rfl,by simpa using h1.imp fun _ _ _ hc=>(qsQ hf hc).1⟩
 | false=>
   simp only [qar]at h2
   subst h2
   cases h1 with
   | cons hc hr=>cases hr;exact ⟨_,rfl,(qsQ (m:=m) hf hc).1,(qsQ (m:=m) (h:=h) hf hc).2⟩
theorem qoO {ls:List LV1} {us:List Value} (hf:F2 (V1 w m h) ls us):V w m h (qcy ls) (qbG us):=by
 cases hf with
 | nil=>exact ⟨#[],rfl,.nil⟩
 | cons h1 h2=>
   cases h2 with
   | nil=>exact qsF h1
   | cons h2 h3=>exact ⟨_,rfl,by simpa using .cons h1 (.cons h2 h3)⟩
end
end Go.T
/- T: calls. -/
namespace Go.T
open Go
section
variable {P : Program} {tt : TT} {o : Oper} {a : Act} {w0 w w' : World} {mine : Mine} {m m' : Mp} {h h1 : List Blk} {st : St} {next : Act → World → Prop} {Q : Exit → Act → World → Prop}
theorem qQn {l:LV} {v:Value} (hv:V w m h l v): ∀c∈l.cells,∃u,C w m h c u:=by
 intro c hc
 cases l with
 | one c'=>simp [LV.cells]at hc;subst hc;exact ⟨v,hv⟩
 | agg cs=>
   obtain ⟨vs,rfl,hf⟩:=hv
   obtain ⟨i,hi⟩:=List.getElem?_of_mem hc
   obtain ⟨u,_,hC⟩:=hf.get hi
   exact ⟨u,hC⟩
 | tup=>simp [LV.cells]at hc
theorem qgy {ok:Nat→Prop} (H: ∀id x,h[id]?=some x→BR w m h id x): ∀{tis:List TI} {ls:List LV} {vs:List Value} {x:qa tis},F2 (V w m h) ls vs→qat h tis ls=some x→
 (∀l∈ls,∀c∈l.cells,okC w m h ok c)→VKs w ok tis x vs
 | [],_,_,_,.nil,_,_=>rfl
 | [],_,_,_,.cons _ _,hi,_=>by simp [qat]at hi
 | ti::r,_,_,_,.nil,hi,_=>by simp [qat]at hi
 | ti::r,_,_,x,.cons (a:=l) (b:=v) hv hvs,hi,hok=>by
   simp only [qat]at hi
   split at hi
   ·rename_i hag
    split at hi
    ·rename_i y hy
     split at hi
     ·rename_i ys hys
      cases hi
      have h2:=qgy H hvs hys fun l hl=>hok l (List.mem_cons_of_mem _ hl)
      cases l with
      | tup=>simp [LV.isAgg]at hag
      | one c=>
        simp only [LV.isAgg,Option.some.injEq]at hag
        obtain ⟨v1,v2,hvs',hk,hr,_⟩:=qc2 (ok:=ok) H (F2.cons hv .nil) hy (fun c hc=>hok _ List.mem_cons_self c hc)
        cases hr
        rw [List.append_nil]at hvs'
        refine ⟨v,_,[v],rfl,by rw [hvs'];exact hk,?_,h2⟩
        rw [←hag];rfl
      | agg cs=>
        simp only [LV.isAgg,Option.some.injEq]at hag
        obtain ⟨us,rfl,hf⟩:=hv
        obtain ⟨v1,v2,hvs',hk,hr,_⟩:=qc2 (ok:=ok) H hf hy (fun c hc=>hok _ List.mem_cons_self c hc)
        cases hr
        rw [List.append_nil]at hvs'
        refine ⟨.agg us,_,us.toList,rfl,by rw [hvs'];exact hk,?_,h2⟩
        rw [←hag];simp [qar]
     ·simp at hi
    ·simp at hi
   ·simp at hi
theorem qsP (H:HR w0 mine w m st.heap) (he:F2 (V w m st.heap) st.env a.tmps.toList): ∀xs:List Operand,F2 (V w m st.heap) (xs.map st.ev) (xs.map a.eval)
 | []=> .nil
 | x::xs=> .cons (R.ev H he x) (qsP H he xs)
theorem qAD: ∀(ids:List Nat) (h:List Blk) (i:Nat),(freeze h ids)[i]?=(h[i]?).map fun b=>if i∈ids then b.froze else b
 | [],h,i=>by simp [freeze]
 | j::r,h,i=>by
   have:freeze h (j::r)=freeze (h.modify j Blk.froze) r:=rfl
   rw [this,qAD r,List.getElem?_modify]
   cases h[i]? with
   | none=>simp
   | some b=>
     by_cases e:j=i
     ·subst e
      by_cases hm:j∈r
      ·simp [hm];cases b<;>rfl
      ·simp [hm]
     ·have e': ¬i=j:=fun h=>e h.symm
      simp [e,e']
theorem qJT {n:Nat} {agg:Bool} {t:Ty} {y:Val t} {cs:List Value} {u:Value} (hk:K w (qr m h n) t y cs) (hw:qar agg cs u):V1 w m h ⟨agg,qbd n t y⟩ u:=by
 have hc:=qgD hk
 cases agg with
 | true=>
   simp only [qar]at hw
   subst hw
   exact ⟨cs.toArray,rfl,by simpa using hc⟩
 | false=>
   simp only [qar]at hw
   subst hw
   generalize qbd n t y=es at hc
   cases hc with
   | cons h1 h2=>cases h2;exact ⟨_,rfl,h1,qkk hk u (by simp)⟩
theorem qop {n:Nat}: ∀{tis:List TI} {x:qa tis} {us:List Value},VKs w (qr m h n) tis x us→F2 (V1 w m h) (qbD n tis x) us
 | [],_,_,hv=>by rw [VKs]at hv;subst hv;exact .nil
 | ti::r,x,_,hv=>by
   obtain ⟨u,rest,cs,rfl,hk,hw,h2⟩:=hv
   exact .cons (qJT hk hw) (qop h2)
theorem qlr {ok ok':Nat→Prop} (hm: ∀b,ok b→b<w.heap.size→w'.heap[b]?=w.heap[b]?) (hok: ∀b,ok b→b<w.heap.size→ok' b): ∀{tis:List TI} {x:qa tis} {us:List Value},VKs w ok tis x us→VKs w' ok' tis x us
 | [],_,_,hv=>hv
 | ti::r,x,_,hv=>by
   obtain ⟨u,rest,cs,rfl,hk,hw,h2⟩:=hv
   exact ⟨u,rest,cs,rfl,qaf hm hok hk,hw,qlr hm hok h2⟩
theorem qDC {c:Call} {f:FuncId} (ho:o.op= .call c) (hc:c.callee= .value (.func f)) (hen:qcH P f):(execOp a.eval o).run P w= .ok (.enter f (c.args.map a.eval)) w:=by
 obtain ⟨fn,h1,h2,h3⟩:=hen
 simp only [execOp,ho,resolve,hc,Act.eval,Deferred.ofValue,Sem.run_bind]
 have h2':fn.body≠none:=by intro e;rw [e]at h2;simp at h2
 have h3' : fn.name ≠ "runtime.NumGoroutine" := by intro e; rw [e] at h3; simp at h3
 simp [invoke,callFunc,h1,h2',h3']
theorem qMA {f:FuncId} {g:G} (S:Sound P f g) {c:Call} (ho:o.op= .call c) (hc:c.callee= .value (.func f)) {b:Option Blk} (hb: ∀x,b=some x→x∈st.heap) {p:Prop} {st':St} (hs:qc9 st g (c.args.toList.map st.ev) o.dst b=some (p,st')) (hp:p)
 (hr:R w0 mine st a w) (hn: ∀a' w',R w0 mine st' a' w'→next a' w'):o.wp P a w next Q:=by
 obtain ⟨hd',m,H,he⟩:=hr
 unfold qc9 at hs
 split at hs
 ·rename_i F t ns vs
  split at hs
  ·rename_i hdp
   split at hs
   ·rename_i q ls hls
    split at hs
    ·rename_i x hx
     simp only [Option.some.injEq,Prod.mk.injEq]at hs
     obtain ⟨rfl,rfl⟩:=hs
     obtain ⟨hm,hq,hpre⟩:=hp
     obtain ⟨j,hj⟩:=List.getElem?_of_mem (hb _ rfl)
     have hN:qam w t vs ns F:=H.br j _ hj
     have hargs:=qsP H he c.args.toList
     have hvs:(c.args.map a.eval).toList=c.args.toList.map a.eval:=by simp
     rw [←hvs]at hargs
     have hargs':=qEl H.br hN hm hargs hls hq
     have hk:=qgy (ok:=fun _=>True) (m:=mT) (h:=[]) (fun id x hx=>by simp at hx) hargs' hx (fun l _ c _=>by
            cases c<;>simp only [okC]
            ·exact fun _ _ _=>trivial
            ·intro x _
             exact ⟨fun _ _=>trivial,by split<;>simp⟩)
     unfold Oper.wp
     rw [qDC ho hc S.enters,Oper.upon_enter]
     refine Calls.mono (S.runs x hpre w _ _ hk fun _ _=>trivial) fun e w' he'=> ?_
     obtain ⟨us,rfl,hfr,hres⟩:=he'
     rw [hdp]at hres
     obtain ⟨B,hM,hnd,hlo⟩:=hres
     obtain ⟨rl,hf,rfl,hcs⟩:=qzt st.heap.length hM
     obtain ⟨H',hok,hsm⟩:=HR.resultsUp H hfr hf hnd hlo
     refine hn _ _ ⟨by rw [qa5];exact hd',_,H',?_⟩
     show F2 (V w' _ _) (st.put o.dst _).env _
     rw [St.put_env]
     exact qcl (qaa hok hsm he) o.dst (qoO (hcs.imp fun _ _ _ h=>qER hf h))
    ·simp at hs
   ·simp at hs
  ·simp at hs
 ·simp at hs
theorem qE2: ∀{cs:List LC},cs.all LC.low=true→qf cs=[]
 | [],_=>rfl
 | c::r,h=>by
   simp only [List.all_cons,Bool.and_eq_true]at h
   have:=qE2 h.2
   cases c<;>first | exact this | (simp [LC.low]at h)
theorem qLv {Γ:Gam} (hΓ: ∀f g,Γ.get f=some g→Sound P f g) {c:Call} {f:Nat} (ho:o.op= .call c) (hc:c.callee= .value (.func f)) {p:Prop} {st':St} (hs:qdN Γ f (c.args.toList.map st.ev) o.dst st=some (p,st')) (hp:p)
 (hr:R w0 mine st a w) (hn: ∀a' w',R w0 mine st' a' w'→next a' w'):o.wp P a w next Q:=by
 unfold qdN at hs
 split at hs
 ·simp at hs
 rename_i g hg
 have S:=hΓ f g hg
 split at hs
 ·exact qMA S ho hc (fun x hx=>List.mem_of_find?_eq_some hx) hs hp hr hn
 rename_i x hx
 obtain ⟨hd,m,H,he⟩:=hr
 have hargs:=qsP H he c.args.toList
 have hvs:(c.args.map a.eval).toList=c.args.toList.map a.eval:=by simp
 rw [←hvs]at hargs
 unfold Oper.wp
 rw [qDC ho hc S.enters,Oper.upon_enter]
 split at hs
 ·rename_i hdp
  cases hs
  have hk:=qgy (ok:=fun _=>True) H.br hargs hx (fun l _ c _=>by
   cases c<;>simp only [okC]
   ·exact fun _ _ _=>trivial
   ·intro x _
    exact ⟨fun _ _=>trivial,by split<;>simp⟩)
  refine Calls.mono (S.runs x hp w _ _ hk fun _ _=>trivial) fun e w' he'=> ?_
  obtain ⟨us,rfl,hfr,hres⟩:=he'
  rw [hdp]at hres
  obtain ⟨B,hM,hnd,hlo⟩:=hres
  obtain ⟨rl,hf,rfl,hcs⟩:=qzt st.heap.length hM
  obtain ⟨H',hok,hsm⟩:=HR.resultsUp H hfr hf hnd hlo
  refine hn _ _ ⟨by rw [qa5];exact hd,_,H',?_⟩
  show F2 (V w' _ _) (st.put o.dst _).env _
  rw [St.put_env]
  exact qcl (qaa hok hsm he) o.dst (qoO (hcs.imp fun _ _ _ h=>qER hf h))
 ·rename_i hdp
  cases hs
  cases hlow:(c.args.toList.map st.ev).all fun l=>l.cells.all LC.low with
  | true=>
    have hl0:qfn (c.args.toList.map st.ev) st.heap.length=0:=by unfold qfn;rw [hlow];rfl
    have hmv:qf ((c.args.toList.map st.ev).flatMap LV.cells)=[]:=qE2 (List.all_eq_true.2 fun c' hc'=>by
        obtain ⟨l,hl,hc'⟩:=List.mem_flatMap.1 hc'
        exact List.all_eq_true.1 (List.all_eq_true.1 hlow l hl) c' hc')
    rw [hl0,hmv]at hn
    have hk:=qgy (ok:=qr m st.heap 0) H.br hargs hx (fun l hl c' hc'=>by
        have hw:=List.all_eq_true.1 (List.all_eq_true.1 hlow l hl) c' hc'
        cases c' with
        | sl e t xs n=>
          have:n=0:=by simpa [LC.low] using hw
          subst this
          exact fun b hb _=>hb
        | own id=>simp [LC.low]at hw
        | _=>trivial)
    have hext: ∀b,w.heap.size≤b→qr m st.heap 0 b:=fun b hb=>by
        refine ⟨by rw [H.mx];exact H.nx b (.inl (Nat.le_trans H.fr.size hb)),fun j z hj=> ?_⟩
        have hdj:b∉fpB m j z:=fun hm=>by have:=(H.lt j z hj b hm).1;omega
        cases z with
        | dead=>trivial
        | box cs=>show b≠m.blk j;simpa [fpB] using hdj
        | nst F t hs vs=>exact hdj
        | row e t xs dp mt k=>
          simp only [fpB,List.mem_append,not_or]at hdj
          refine ⟨fun _ hob=>hdj.1 (by simp [hob]),fun hd _ hm=> ?_⟩
          subst hd
          exact hdj.2 hm
    refine Calls.mono (S.runs x hp w _ _ hk hext) fun e w' he'=> ?_
    obtain ⟨us,rfl,hfr,hres⟩:=he'
    rw [hdp]at hres
    obtain ⟨H',hok,hsm⟩:=HR.results (bl:=[]) (rl:=[]) H hfr .nil (by simp) (by simp)
    rw [List.append_nil]at H' hok hsm
    refine hn _ _ ⟨by rw [qa5];exact hd,_,H',?_⟩
    show F2 (V w' _ _) (st.put o.dst _).env _
    rw [St.put_env]
    refine qcl (qaa hok hsm he) o.dst (qoO (qop ?_))
    have hsame: ∀b,qr m st.heap 0 b→qr (m.rows st.heap.length []) st.heap 0 b:=fun b hb=>⟨hb.1,fun j z hj=>by
        have hjl:j<st.heap.length:=(List.getElem?_eq_some_iff.1 hj).1
        have:=hb.2 j z hj
        cases z with
        | dead=>trivial
        | box cs=>exact this
        | nst F t hs vs=>exact this
        | row e t xs dp mt k=>simpa [okB,Mp.rows,hjl] using this⟩
    exact qlr (fun _ _ _=>rfl) (fun b hb _=>hsame b hb) hres
  | false=>
    have hl0:qfn (c.args.toList.map st.ev) st.heap.length=st.heap.length:=by unfold qfn;rw [hlow];rfl
    rw [hl0]at hn
    obtain ⟨H1,hok1,hs1⟩:=H.weaker (qL.freeze st.heap (qf ((c.args.toList.map st.ev).flatMap LV.cells)))
    generalize hids:qf ((c.args.toList.map st.ev).flatMap LV.cells)=ids at*
    have hlen:(freeze st.heap ids).length=st.heap.length:=(qL.freeze st.heap ids).1
    have top: ∀n b,qr m st.heap n b→b<w.heap.size→qr m (freeze st.heap ids) st.heap.length b:=fun n b hb hl=>by
        have:=qkD H1.lo_le (hok1 n b hb hl).2
        rwa [hlen]at this
    have hk:=qgy (ok:=qr m (freeze st.heap ids) st.heap.length) H.br hargs hx (fun l hl c' hc'=>by
        cases c' with
        | sl e t xs n=>exact fun b hb hlt=>top n b hb hlt
        | own id=>
          intro y hy
          have hid:id∈ids:=by rw [←hids];exact qAR (List.mem_flatMap.2 ⟨l,hl,hc'⟩)
          obtain ⟨i,hi⟩:=List.getElem?_of_mem hl
          obtain ⟨v,_,hV⟩:=hargs.get hi
          obtain ⟨u,hu⟩:=qQn hV _ hc'
          simp only [C,hy]at hu
          have hz:(freeze st.heap ids)[id]?=some y.froze:=by rw [qAD,hy];simp [hid]
          refine ⟨fun b hb=>⟨by rw [H.mx];exact H.nx b (H.lt id y hy b hb).2,fun j z hj=> ?_⟩,?_⟩
          ·by_cases e:j=id
           ·subst e
            rw [hz]at hj
            cases hj
            cases y with
            | box=>exact hu.elim
            | nst=>exact hu.elim
            | dead=>trivial
            | row e t xs dp mt k=>
              have hjl:=(List.getElem?_eq_some_iff.1 hy).1
              refine ⟨fun h _=> ?_,fun hdp' hle _=> ?_⟩
              ·simp at h;omega
              ·subst hdp'
               have:=H.lo_le j e t xs mt k hy
               omega
           ·have hzl:z∈(freeze st.heap ids)[j]?:=hj
            have hdj:=H1.dj id _ j z (fun e'=>e e'.symm) hz hj b (by cases y<;>exact hb)
            cases z with
            | dead=>trivial
            | box cs=>show b≠m.blk j;simpa [fpB] using hdj
            | nst F t hs vs=>exact hdj
            | row e t xs dp mt k=>
              simp only [fpB,List.mem_append,not_or]at hdj
              refine ⟨fun _ hob=>hdj.1 (by simp [hob]),fun hd _ hm=> ?_⟩
              subst hd
              exact hdj.2 hm
          ·cases y with
           | row e t xs dp mt k=>
             cases dp with
             | true=>trivial
             | false=>exact fun b hb hlt=>top k b hb hlt
           | _=>trivial
        | _=>trivial)
    have hext: ∀b,w.heap.size≤b→qr m (freeze st.heap ids) st.heap.length b:=fun b hb=>by
        refine ⟨by rw [H.mx];exact H.nx b (.inl (Nat.le_trans H.fr.size hb)),fun j z hj=> ?_⟩
        have hdj:b∉fpB m j z:=fun hm=>by have:=(H1.lt j z hj b hm).1;omega
        cases z with
        | dead=>trivial
        | box cs=>show b≠m.blk j;simpa [fpB] using hdj
        | nst F t hs vs=>exact hdj
        | row e t xs dp mt k=>
          simp only [fpB,List.mem_append,not_or]at hdj
          refine ⟨fun _ hob=>hdj.1 (by simp [hob]),fun hd _ hm=> ?_⟩
          subst hd
          exact hdj.2 hm
    refine Calls.mono (S.runs x hp w _ _ hk hext) fun e w' he'=> ?_
    obtain ⟨us,rfl,hfr,hres⟩:=he'
    rw [hdp]at hres
    obtain ⟨H',hok,hsm⟩:=HR.results (bl:=[]) (rl:=[]) H1 hfr .nil (by simp) (by simp)
    rw [hlen,List.append_nil]at H' hok hsm
    refine hn _ _ ⟨by rw [qa5];exact hd,_,H',?_⟩
    show F2 (V w' _ _) (st.put o.dst _).env _
    rw [St.put_env]
    refine qcl (qaa hok hsm (qaa hok1 hs1 he)) o.dst (qoO (qop ?_))
    have hsame: ∀b,qr m (freeze st.heap ids) st.heap.length b→qr (m.rows st.heap.length []) (freeze st.heap ids) st.heap.length b:=fun b hb=>⟨hb.1,fun j z hj=>by
        have hjl:j<st.heap.length:=by rw [←hlen];exact (List.getElem?_eq_some_iff.1 hj).1
        have:=hb.2 j z hj
        cases z with
        | dead=>trivial
        | box cs=>exact this
        | nst F t hs vs=>exact this
        | row e t xs dp mt k=>simpa [okB,Mp.rows,hjl] using this⟩
    exact qlr (fun _ _ _=>rfl) (fun b hb _=>hsame b hb) hres
theorem qln {m:Mp} {h:List Blk} (H:HR w0 mine w m h) {id e:Nat} {t:Ty} {xs:List (Val t)} {dp mt:Bool} {k:Nat} (hy:h[id]?=some (.row e t xs dp mt k)) {v:Value} (hv:C w m h (.own id) v):C w m (freeze h [id]) (.sl e t xs h.length) v:=by
 obtain ⟨H1,hok1,hs1⟩:=H.weaker (qL.freeze h [id])
 have hlen:(freeze h [id]).length=h.length:=(qL.freeze h [id]).1
 have top: ∀n b,qr m h n b→b<w.heap.size→qr m (freeze h [id]) h.length b:=fun n b hb hl=>by
  have:=qkD H1.lo_le (hok1 n b hb hl).2
  rwa [hlen]at this
 have hi:qu h (.slice e t) [.own id]=some (xs,[]):=by simp [qu,hy]
 have hz:(freeze h [id])[id]?=some (Blk.row e t xs dp mt k).froze:=by rw [qAD,hy];simp
 obtain ⟨v1,v2,hvs,hK,hr,_⟩:=qc2 (ok:=qr m (freeze h [id]) h.length) H.br (F2.cons hv .nil) hi (fun c hc=>by
  simp only [List.mem_singleton]at hc
  subst hc
  intro y hy'
  rw [hy]at hy'
  cases hy'
  refine ⟨fun b hb=>⟨by rw [H.mx];exact H.nx b (H.lt id _ hy b hb).2,fun j z hj=> ?_⟩,?_⟩
  ·by_cases e:j=id
   ·subst e
    rw [hz]at hj
    cases hj
    have hjl:=(List.getElem?_eq_some_iff.1 hy).1
    refine ⟨fun h _=> ?_,fun hdp' hle _=> ?_⟩
    ·simp at h;omega
    ·subst hdp'
     have:=H.lo_le j _ t xs mt k hy
     omega
   ·have hdj:=H1.dj id _ j z (fun e'=>e e'.symm) hz hj b (by exact hb)
    cases z with
    | dead=>trivial
    | box cs=>show b≠m.blk j;simpa [fpB] using hdj
    | nst F t hs vs=>exact hdj
    | row e t xs dp mt k=>
      simp only [fpB,List.mem_append,not_or]at hdj
      refine ⟨fun _ hob=>hdj.1 (by simp [hob]),fun hd _ hm=> ?_⟩
      subst hd
      exact hdj.2 hm
  ·cases dp with
   | true=>trivial
   | false=>exact fun b hb hlt=>top k b hb hlt)
 cases hr
 rw [List.append_nil]at hvs
 subst hvs
 obtain ⟨A,c,he,hc⟩:=hK
 cases he
 exact ⟨A,c,rfl,hc⟩
end
end Go.T
/- T: each operation's dependence. -/
namespace Go.T
open Go
def qgC (tt:TT) (t id:Nat) (lo hi:Option LV) (d:Option Tmp) (st:St):Res:=match tt.get t,st.heap[id]? with
 | some ti,some (.row e te xs _ _ _)=>match qaR 0 lo,qaR xs.length hi with
   | some l,some h=>if ti.agg=false∧ti.ty= .slice e te then some (0≤l∧l≤h∧h≤xs.length,{st.put d (.one (.sl e te ((xs.take h.toNat).drop l.toNat) st.heap.length))with heap:=freeze st.heap [id]})else none
   | _,_=>none
 | _,_=>none
def qcE (tt:TT) (t:Nat) (x:LV) (lo hi:Option LV) (d:Option Tmp) (st:St):Res:=match x with
 | .one (.own id)=>qgC tt t id lo hi d st
 | x=>qbi tt t x lo hi d st
noncomputable def qU (tt:TT) (Γ:Gam) (o:Oper) (st:St):Res:=match o.op with
 | .call c=>match c.callee with
   | .value (.func f)=>qdN Γ f (c.args.toList.map st.ev) o.dst st
   | _=>qJ tt o st
 | .slice t x lo hi none=>qcE tt t (st.ev x) (lo.map st.ev) (hi.map st.ev) o.dst st
 | _=>qJ tt o st
def qaY (o:Oper):Bool:=match o.op with
 | .move _ | .assign _ | .pick .. | .build .. | .load .. | .fieldAddr .. | .indexAddr .. | .binOp .. | .unOp .. | .extract .. | .nilCheck _ | .index .. =>true
 | .call c=>match c.callee with
   | .builtin .len=>true
   | _=>false
 | _=>false
def qbU (o:Oper) (st:St):Option Nat:=match o.op with
 | .load _ x | .fieldAddr _ x _ | .indexAddr _ x _ | .nilCheck x=>(st.ev x).rd
 | .call c=>match c.args.toList with
   | [x]=>(st.ev x).rd
   | _=>none
 | _=>none
section
variable {tt : TT} {Γ : Gam} {o : Oper}
theorem qrt (hq:qaY o=true) {st:St} {p:Prop} {s:St} (hs:qJ tt o st=some (p,s)): ∃l,s=st.put o.dst l∧ ∀st2:St,(∀x∈o.op.operands,st2.ev x=st.ev x)→(∀id,qbU o st=some id→st2.heap[id]?=st.heap[id]?)→qJ tt o st2=some (p,st2.put o.dst l):=by
 obtain ⟨dst,op,type,pos,after,guard⟩:=o
 cases op<;>simp only [qaY,Bool.false_eq_true]at hq
 case move x=>
  simp only [qJ]at hs ⊢
  cases hs
  exact ⟨_,rfl,fun st2 h2 _=>by rw [h2 x (by simp [Op.operands])]⟩
 case assign x=>
  simp only [qJ]at hs ⊢
  cases hs
  exact ⟨_,rfl,fun st2 h2 _=>by rw [h2 x (by simp [Op.operands])]⟩
 case pick c x y=>
  simp only [qJ]at hs
  split at hs
  ·rename_i b hc
   split at hs
   ·rename_i bx bY hx hy
    cases hs
    refine ⟨_,rfl,fun st2 h2 _=> ?_⟩
    simp only [qJ]
    rw [h2 c (by simp [Op.operands]),h2 x (by simp [Op.operands]),h2 y (by simp [Op.operands]),hc,hx,hy];rfl
   ·rename_i hne
    cases hs
    refine ⟨_,rfl,fun st2 h2 _=> ?_⟩
    simp only [qJ]
    rw [h2 c (by simp [Op.operands]),h2 x (by simp [Op.operands]),h2 y (by simp [Op.operands]),hc]
    simp only
  ·simp at hs
 case build t ps=>
  simp only [qJ]at hs
  split at hs
  ·rename_i ti ht
   split at hs
   ·simp at hs
   ·rename_i hne
    split at hs
    ·rename_i cs hf
     cases hs
     refine ⟨_,rfl,fun st2 h2 _=> ?_⟩
     simp only [qJ,ht]
     have:(ps.toList.map fun p=>(p.1,(st2.ev p.2).cells))=ps.toList.map fun p=>(p.1,(st.ev p.2).cells):=by
            refine List.map_congr_left fun q hq=> ?_
            rw [h2 q.2 (by simp only [Op.operands,List.mem_toArray,List.mem_map];exact ⟨q,hq,rfl⟩)]
     rw [if_neg hne,this,hf]
    ·simp at hs
  ·simp at hs
 case load t x=>
  simp only [qJ]at hs ⊢
  obtain ⟨l,h1,h2⟩:=qPl tt t (st.ev x) dst st p s hs
  exact ⟨l,h1,fun st2 he hr=>by rw [he x (by simp [Op.operands])];exact h2 st2 hr⟩
 case fieldAddr t x f=>
  simp only [qJ]at hs ⊢
  obtain ⟨l,h1,h2⟩:=qND tt t f (st.ev x) dst st p s hs
  exact ⟨l,h1,fun st2 he hr=>by rw [he x (by simp [Op.operands])];exact h2 st2 hr⟩
 case indexAddr t x y=>
  simp only [qJ]at hs ⊢
  obtain ⟨l,h1,h2⟩:=qH5 tt t (st.ev x) (st.ev y) dst st p s hs
  exact ⟨l,h1,fun st2 he hr=>by rw [he x (by simp [Op.operands]),he y (by simp [Op.operands])];exact h2 st2 hr⟩
 case binOp op t x y ty=>
  simp only [qJ]at hs ⊢
  obtain ⟨l,h1,h2⟩:=qFZ tt op t (st.ev x) (st.ev y) dst st p s hs
  exact ⟨l,h1,fun st2 he hr=>by rw [he x (by simp [Op.operands]),he y (by simp [Op.operands])];exact h2 st2 fun id h=>by simp at h⟩
 case unOp op t x=>
  simp only [qJ]at hs ⊢
  obtain ⟨l,h1,h2⟩:=qGu op (st.ev x) dst st p s hs
  exact ⟨l,h1,fun st2 he hr=>by rw [he x (by simp [Op.operands])];exact h2 st2 fun id h=>by simp at h⟩
 case extract x i=>
  simp only [qJ]at hs ⊢
  split at hs
  ·rename_i vs hx
   split at hs
   ·rename_i v hv
    cases hs
    exact ⟨_,rfl,fun st2 he hr=>by rw [he x (by simp [Op.operands]),hx];simp only [hv]⟩
   ·simp at hs
  ·simp at hs
 case nilCheck x=>
  simp only [qJ]at hs ⊢
  split at hs
  ·rename_i id i f hx
   split at hs
   ·simp at hs
   ·rename_i hb
    cases hs
    refine ⟨_,rfl,fun st2 he hr=> ?_⟩
    have hr':=hr id (by simp only [qbU,hx,LV.rd])
    rw [he x (by simp [Op.operands]),hx]
    simp only [hr']
    first
     | rfl
     | (split
        ·rename_i h';exact absurd h' hb
        ·rfl)
  ·simp at hs
 case index t x y=>
  simp only [qJ]at hs ⊢
  obtain ⟨l,h1,h2⟩:=qQ1 tt t (st.ev x) (st.ev y) dst st p s hs
  exact ⟨l,h1,fun st2 he hr=>by rw [he x (by simp [Op.operands]),he y (by simp [Op.operands])];exact h2 st2 fun id h=>by simp at h⟩
 case call c=>
  split at hq
  ·rename_i hc
   simp only [qJ,hc]at hs ⊢
   split at hs
   ·rename_i x t hx ht'
    split at hs
    ·rename_i ti ht
     split at hs
     ·rename_i n hl
      cases hs
      refine ⟨_,rfl,fun st2 he hr=> ?_⟩
      have hx':=he x (by
            have:x∈c.args:=by rw [←Array.mem_toList_iff,hx];simp
            simp [Op.operands,Call.operands,this])
      rw [hx']
      rw [qLD ti (st.ev x) (h:=st.heap) (h2:=st2.heap) (fun id hid=>hr id (by simp only [qbU,hx];exact hid)),hl]
      rfl
     ·simp at hs
    ·simp at hs
   ·simp at hs
  ·simp at hq
theorem qEM (mx:Bool) (x y:LV) (d:Option Tmp):qcL (qee mx x y d) d:=by
 intro st p s hs
 unfold qee at hs ⊢
 split at hs
 ·split at hs
  ·rename_i e
   cases hs
   exact ⟨_,st.heap,(by rw [St.res_self]),fun st2 h2=>by simp only [e,if_true,St.go];rw [←h2,St.res_self]⟩
  ·simp at hs
 ·simp at hs
theorem qPs (tt:TT) (s t:Nat) (x:LV) (d:Option Tmp):qcL (qgi tt s t x d) d:=by
 intro st p s' hs
 unfold qgi at hs ⊢
 split at hs
 ·rename_i ts td hts htd
  split at hs
  ·split at hs
   ·rename_i k hag hty
    cases hs
    exact ⟨_,st.heap,(by rw [St.res_self]),fun st2 h2=>by simp only [hts,htd,hag,hty,St.go];rw [←h2,St.res_self]⟩
   ·simp at hs
  ·split at hs
   ·rename_i id e xs dp mt k hb
    split at hs
    ·rename_i hc
     cases hs
     exact ⟨_,st.heap,(by rw [St.res_self]),fun st2 h2=>by simp only [hts,htd,h2,hb,if_pos hc,St.go];rw [←h2,St.res_self]⟩
    ·simp at hs
   ·simp at hs
  ·split at hs
   ·rename_i hc
    cases hs
    exact ⟨_,st.heap,(by rw [St.res_self]),fun st2 h2=>by simp only [hts,htd,if_pos hc,St.go];rw [←h2,St.res_self]⟩
   ·simp at hs
  ·simp at hs
 ·simp at hs
theorem qKs (tt:TT) (t:Nat) (x:LV) (lo hi:Option LV) (d:Option Tmp):qcL (qbi tt t x lo hi d) d:=by
 intro st p s hs
 unfold qbi at hs ⊢
 split at hs
 ·simp at hs
 ·rename_i ti ht
  split at hs
  ·split at hs
   ·rename_i l h hl hh
    split at hs
    ·rename_i hc
     cases hs
     exact ⟨_,st.heap,by rw [St.res_self],fun st2 h2=>by simp only [ht,hl,hh,if_pos hc];rw [←h2,St.res_self]⟩
    ·simp at hs
   ·simp at hs
  ·split at hs
   ·rename_i l h hl hh
    split at hs
    ·rename_i hc
     cases hs
     exact ⟨_,st.heap,by rw [St.res_self],fun st2 h2=>by simp only [ht,hl,hh,if_pos hc];rw [←h2,St.res_self]⟩
    ·simp at hs
   ·simp at hs
  ·simp at hs
theorem qP6 (tt:TT) (t id:Nat) (lo hi:Option LV) (d:Option Tmp):qcL (qgC tt t id lo hi d) d:=by
 intro st p s hs
 unfold qgC at hs ⊢
 split at hs
 ·rename_i ti e te xs dp mt k ht hy
  split at hs
  ·rename_i l h hl hh
   split at hs
   ·rename_i hc
    cases hs
    exact ⟨_,_,rfl,fun st2 h2=>by simp only [ht,h2,hy,hl,hh,if_pos hc];rfl⟩
   ·simp at hs
  ·simp at hs
 ·simp at hs
theorem qGt (tt:TT) (t:Nat) (x:LV) (lo hi:Option LV) (d:Option Tmp):qcL (qcE tt t x lo hi d) d:=by
 unfold qcE
 split
 ·exact qP6 tt t _ lo hi d
 ·exact qKs tt t _ lo hi d
theorem qJK {st:St} {p:Prop} {s:St} (hs:qU tt Γ o st=some (p,s)): ∃l h,s=st.res o.dst l h∧ ∀st2:St,(∀x∈o.op.operands,st2.ev x=st.ev x)→st2.heap=st.heap→qU tt Γ o st2=some (p,st2.res o.dst l h):=by
 by_cases hq:qaY o=true
 ·have hall: ∀st,qU tt Γ o st=qJ tt o st:=fun st=>by
   unfold qU
   unfold qaY at hq
   split
   ·rename_i c ho
    rw [ho]at hq
    simp only at hq
    split
    ·rename_i f hc;rw [hc]at hq;simp at hq
    ·rfl
   ·rename_i ho;rw [ho]at hq;simp at hq
   ·rfl
  rw [hall]at hs
  obtain ⟨l,h1,h2⟩:=qrt hq hs
  refine ⟨l,st.heap,by rw [h1,St.res_self],fun st2 he hh=> ?_⟩
  rw [hall,←hh,St.res_self]
  exact h2 st2 he fun id _=>by rw [hh]
 ·obtain ⟨dst,op,type,pos,after,guard⟩:=o
  cases op<;>simp only [qaY,not_true_eq_false]at hq<;>simp only [qU]at hs ⊢
  case call c=>
   split at hs
   ·rename_i f hc
    obtain ⟨l,h,h1,h2⟩:=qMC Γ f _ dst st p s hs
    refine ⟨l,h,h1,fun st2 he hh=> ?_⟩
    have:c.args.toList.map st2.ev=c.args.toList.map st.ev:=List.map_congr_left fun x hx=>he x (by
     have:x∈c.args:=by rw [←Array.mem_toList_iff];exact hx
     simp [Op.operands,Call.operands,this])
    rw [this]
    exact h2 st2 hh
   ·rename_i hne
    simp only [qJ]at hs ⊢
    split at hs
    ·rename_i hc;rw [hc]at hq;simp at hq
    ·rename_i hc
     split at hs
     ·rename_i x y t t' hx ht'
      split at hs
      ·rename_i e
       obtain ⟨l,h,h1,h2⟩:=qQr tt t (st.ev x) (st.ev y) dst st p s hs
       refine ⟨l,h,h1,fun st2 he hh=> ?_⟩
       have hx':=he x (by
             have:x∈c.args:=by rw [←Array.mem_toList_iff,hx];simp
             simp [Op.operands,Call.operands,this])
       have hy':=he y (by
             have:y∈c.args:=by rw [←Array.mem_toList_iff,hx];simp
             simp [Op.operands,Call.operands,this])
       rw [if_pos e,hx',hy']
       exact h2 st2 hh
      ·simp at hs
     ·simp at hs
    ·rename_i hc
     split at hs
     ·rename_i x y hx
      obtain ⟨l,h,h1,h2⟩:=qEM true (st.ev x) (st.ev y) dst st p s hs
      refine ⟨l,h,h1,fun st2 he hh=> ?_⟩
      have hx':=he x (by
            have:x∈c.args:=by rw [←Array.mem_toList_iff,hx];simp
            simp [Op.operands,Call.operands,this])
      have hy':=he y (by
            have:y∈c.args:=by rw [←Array.mem_toList_iff,hx];simp
            simp [Op.operands,Call.operands,this])
      rw [hx',hy']
      exact h2 st2 hh
     ·simp at hs
    ·rename_i hc
     split at hs
     ·rename_i x y hx
      obtain ⟨l,h,h1,h2⟩:=qEM false (st.ev x) (st.ev y) dst st p s hs
      refine ⟨l,h,h1,fun st2 he hh=> ?_⟩
      have hx':=he x (by
            have:x∈c.args:=by rw [←Array.mem_toList_iff,hx];simp
            simp [Op.operands,Call.operands,this])
      have hy':=he y (by
            have:y∈c.args:=by rw [←Array.mem_toList_iff,hx];simp
            simp [Op.operands,Call.operands,this])
      rw [hx',hy']
      exact h2 st2 hh
     ·simp at hs
    ·simp at hs
  case convert s1 t x=>
   simp only [qJ]at hs ⊢
   obtain ⟨l,h,h1,h2⟩:=qPs tt s1 t (st.ev x) dst st p s hs
   exact ⟨l,h,h1,fun st2 he hh=>by rw [he x (by simp [Op.operands])];exact h2 st2 hh⟩
  case slice t x lo hi mx=>
   cases mx with
   | some _=>simp [qJ]at hs
   | none=>
     simp only at hs ⊢
     obtain ⟨l,h,h1,h2⟩:=qGt tt t (st.ev x) (lo.map st.ev) (hi.map st.ev) dst st p s hs
     refine ⟨l,h,h1,fun st2 he hh=> ?_⟩
     have hlo:lo.map st2.ev=lo.map st.ev:=by
      cases lo with
      | none=>rfl
      | some y=>simp [he y (by simp [Op.operands])]
     have hhi:hi.map st2.ev=hi.map st.ev:=by
      cases hi with
      | none=>rfl
      | some y=>simp [he y (by simp [Op.operands])]
     rw [he x (by simp [Op.operands]),hlo,hhi]
     exact h2 st2 hh
  case alloc t=>
   simp only [qJ]at hs ⊢
   split at hs
   ·rename_i ti ht
    cases hs
    exact ⟨_,_,rfl,fun st2 he hh=>by simp only [St.new,hh];rfl⟩
   ·simp at hs
  case box t x=>
   simp only [qJ]at hs ⊢
   split at hs
   ·rename_i ti ht
    cases hs
    exact ⟨_,_,rfl,fun st2 he hh=>by rw [he x (by simp [Op.operands])];simp only [St.new,hh];rfl⟩
   ·simp at hs
  case store t x y=>
   simp only [qJ]at hs ⊢
   split at hs
   ·obtain ⟨l,h,h1,h2⟩:=qFC tt t (st.ev x) (st.ev y) st p s hs
    exact ⟨l,h,h1,fun st2 he hh=>by rw [he x (by simp [Op.operands]),he y (by simp [Op.operands])];exact h2 st2 hh⟩
   ·simp at hs
  case makeSlice t l c=>
   simp only [qJ]at hs ⊢
   split at hs
   ·rename_i ti k n k' cp ht el ec
    split at hs
    ·rename_i e te hag hty
     cases hs
     refine ⟨_,_,rfl,fun st2 he hh=> ?_⟩
     rw [he l (by simp [Op.operands]),he c (by simp [Op.operands]),el,ec]
     simp only [ht,hag,hty,St.new,hh]
     rfl
    ·simp at hs
   ·simp at hs
  case buildSlice t n ps=>
   simp only [qJ]at hs ⊢
   split at hs
   ·rename_i ti ht
    split at hs
    ·rename_i e te hag hty
     split at hs
     ·rename_i hc
      split at hs
      ·rename_i xs hxs
       cases hs
       refine ⟨_,_,rfl,fun st2 he hh=> ?_⟩
       have:(ps.toList.map fun p=>(st2.ev p.2).cells)=ps.toList.map fun p=>(st.ev p.2).cells:=by
               refine List.map_congr_left fun q hq=> ?_
               rw [he q.2 (by simp only [Op.operands,List.mem_toArray,List.mem_map];exact ⟨q,hq,rfl⟩)]
       simp only [this,hh]
       rw [if_pos hc,hxs]
       rfl
      ·simp at hs
     ·simp at hs
    ·simp at hs
   ·simp at hs
  all_goals (simp [qJ]at hs)
theorem qqm (hq:qaY o=true) (st:St):qU tt Γ o st=qJ tt o st:=by
 unfold qU
 unfold qaY at hq
 split
 ·rename_i c ho
  rw [ho]at hq
  simp only at hq
  split
  ·rename_i f hc;rw [hc]at hq;simp at hq
  ·rfl
 ·rename_i ho;rw [ho]at hq;simp at hq
 ·rfl
end
end Go.T
