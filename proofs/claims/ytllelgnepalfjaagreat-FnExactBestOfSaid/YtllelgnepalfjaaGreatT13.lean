import Derived.Test.YtllelgnepalfjaaGreatT12
import Derived.Laws.CopyOwn
set_option linter.unusedSimpArgs false
set_option linter.unusedVariables false
namespace Go.T
open Go
def sh (tt:TT) (t:Nat) (x y:LV) (d:Option Tmp) (st:St):Res:=match tt.get t,x,y with
 | some ti,.one (.own id),.one (.sl _ (.int k2) ys _)=>match ti.agg,ti.ty,st.heap[id]? with
   | false,.slice e (.int k),some (.row e' (.int a) xs dp true n)=>if e'=e/\a=k/\k2=k then some (List.length (α:=Int) ys<=List.length (α:=Int) xs,({st with heap:=st.heap.set id (.row e' (.int a) (List.append (α:=Int) ys (List.drop (α:=Int) (List.length (α:=Int) ys) xs)) dp true n)}:St).put d (.one (.int .i64 (List.length (α:=Int) ys:Int))))else none
   | _,_,_=>none
 | _,_,_=>none
section
variable {P : Program} {tt : TT} {o : Oper} {a : Act} {w0 w : World} {mine : Mine} {st : St} {next : Act -> World -> Prop} {Q : Exit -> Act -> World -> Prop}
theorem si {ok:Nat->Prop} {k:IntKind}: ∀{xs:List Int} {inner:List Value},Ks (K w ok (.int k)) xs inner↔inner=xs.map (Value.int k)
 | [],inner=>Iff.rfl
 | x::xs,inner=>by
   constructor
   ·rintro ⟨c1,c2,rfl,h1,h2⟩
    have h1:c1=[.int k x]:=h1
    rw [h1,si.1 h2];rfl
   ·intro h
    exact ⟨[.int k x],xs.map (Value.int k),h,rfl,si.2 rfl⟩
theorem nZ {k:IntKind}: ∀{xs:List Int} {inner:List Value} {B:List Nat},Ms (M w (.int k)) xs inner B↔inner=xs.map (Value.int k)/\B=[]
 | [],inner,B=>Iff.rfl
 | x::xs,inner,B=>by
   constructor
   ·rintro ⟨c1,c2,a,d,rfl,rfl,h1,h2⟩
    have h1:c1=[.int k x]/\a=[]:=h1
    obtain ⟨b,c⟩:=nZ.1 h2
    rw [h1.1,h1.2,b,c];exact ⟨rfl,rfl⟩
   ·rintro ⟨rfl,rfl⟩
    exact ⟨[.int k x],xs.map (Value.int k),[],[],rfl,rfl,⟨rfl,rfl⟩,nZ.2 ⟨rfl,rfl⟩⟩
theorem WZ (hT:bm P tt) {t M:Nat} {x y:Operand} {c:Call} (Y:o.op= .call c) (U:c.callee= .builtin .copy) (S:c.args= #[x,y]) (T:c.argTypes= #[t,M]) {p:Prop} {ah:St} (hs:sh tt t (st.ev x) (st.ev y) o.dst st=some (p,ah)) (ay:p) (az:R w0 mine st a w)
 (X: ∀N w',R w0 mine ah N w'->next N w'):o.wp P a w next Q:=by
 unfold sh at hs
 split at hs
 case h_2=>simp at hs
 rename_i ti id aB k2 ys ag a2 ex ai
 split at hs
 case h_2=>simp at hs
 rename_i e k e' aI xs dp n al a5 d
 split at hs
 case isFalse=>simp at hs
 rename_i ar
 obtain ⟨rfl,rfl,rfl⟩:=ar
 cases hs
 obtain ⟨hd,m,H,he⟩:=az
 obtain ⟨hu,tie,a3,a4⟩:=(hT t ti a2).slc al _ _ a5
 obtain ⟨ii,z,au,ac,_,_,_⟩:=(hT _ tie a3).info
 rw [a4]at ac
 have ab:(P.info? e').map (·.size)=some 1:=by rw [au];simp [ac,Ty.sz]
 have l:=R.ev H he x
 rw [ex]at l
 simp only [V,C,d]at l
 have ad:=R.ev H he y
 rw [ai]at ad
 obtain ⟨A,cap,ae,aC,aa⟩: ∃A cap,a.eval y= .slice A (List.length (α:=Int) ys) cap/\List.length (α:=Int) ys<=cap/\Rd w (qM m st.heap ag) 1 (K w (qM m st.heap ag) (.int k2)) A ys:=ad
 obtain ⟨inner,r,q⟩:=H.br id _ d
 have av:inner=List.map (α:=Int) (Value.int k2) xs:=by
  cases dp with
  | false=>exact si.1 q
  | true=>exact (nZ.1 q.1).1
 subst av
 by_cases aj:List.length (α:=Int) ys=0
 ·have a8:ys=[]:=List.eq_nil_of_length_eq_zero aj
  subst a8
  obtain ⟨E,D,B,ap⟩: ∃E D B,a.eval x= .slice E D B:=by
   rcases r.2 with ⟨h1,_⟩ | ⟨g,aA,cur,h1,_⟩
   ·exact ⟨none,0,0,l.trans h1⟩
   ·exact ⟨_,_,_,l.trans h1⟩
  have s:=run_copy_none (P:=P) w t M o.type e' E A D B 0 cap hu ab (Nat.zero_min _)
  refine dZ (v:=goInt 0) (w':=w) (by simp [execOp,Y,U,S,T,resolve,invoke,builtin,ap,ae,s,Result.andThen]) (X _ _ ?_)
  have F:R w0 mine {st with heap:=st.heap.set id (Blk.row e' (Ty.int k2) xs dp true n)} a w:=by
   have e:st.heap.set id (Blk.row e' (Ty.int k2) xs dp true n)=st.heap:=by
        obtain ⟨aw,aq⟩:=List.getElem?_eq_some_iff.1 d
        rw [<-aq];exact List.set_getElem_self aw
   rw [e]
   exact ⟨hd,m,H,he⟩
  exact F.put o.dst fun _ _ _=>rfl
 ·have h1:0<List.length (α:=Int) ys:=by omega
  have h2:0<List.length (α:=Int) xs:=by omega
  obtain ⟨g,O,cur,L,Z,W,a1,aH⟩:=rk r h2
  have ak: ∃f,A=some f:=by
   obtain ⟨f,_,h,_⟩:=aa 0 (ys[0]'h1) (List.getElem?_eq_getElem h1)
   exact ⟨f,h⟩
  obtain ⟨f,rfl⟩:=ak
  have a0: ∀j v,(List.map (α:=Int) (Value.int k2) ys)[j]?=some v->w.cell? (f.add j)=some v:=fun j v i=>by
   rw [List.getElem?_map]at i
   cases J:(ys:List Int)[j]? with
   | none=>rw [J]at i;simp at i
   | some u=>
     rw [J]at i
     simp only [Option.map_some,Option.some.injEq]at i
     subst i
     obtain ⟨a9,cs,e,_,hk,am⟩:=aa j u J
     cases e
     have hk:cs=[Value.int k2 u]:=hk
     subst hk
     have:=am 0 _ rfl
     simpa [Addr.add] using this
  have hlen:(List.map (α:=Int) (Value.int k2) ys).length=List.length (α:=Int) ys:=List.length_map _
  have aG:List.length (α:=Int) xs*1<=cur.size:=a1
  have s:=run_copy_row (P:=P) w t M o.type e' g 0 (List.length (α:=Int) xs) O f (List.length (α:=Int) ys) cap cur e' (List.map (α:=Int) (Value.int k2) ys) hu ab W (by rw [hlen];exact (Nat.min_eq_left ay).symm) a0 (by rw [hlen];omega) (fun v a6=>by
   obtain ⟨u,_,rfl⟩:=List.mem_map.1 a6
   rfl)
  rw [hlen]at s
  have a7:a.eval x= .slice (some ⟨g,0,none⟩) (List.length (α:=Int) xs) O:=l.trans L
  refine dZ (v:=goInt (List.length (α:=Int) ys)) (w':=w.setRow g (cur.toList.take 0++List.map (α:=Int) (Value.int k2) ys++cur.toList.drop (0+List.length (α:=Int) ys)).toArray) (by simp [execOp,Y,U,S,T,resolve,invoke,builtin,a7,ae,s,Result.andThen]) (X _ _ ?_)
  rw [L]at r
  have I:=rj r W 0 (List.map (α:=Int) (Value.int k2) ys) (by rw [hlen];show 0+_<=List.length (α:=Int) xs*1;omega)
  rw [<-L,hlen]at I
  have ao:List.take 0 (List.map (α:=Int) (Value.int k2) xs)++List.map (α:=Int) (Value.int k2) ys++List.drop (0+List.length (α:=Int) ys) (List.map (α:=Int) (Value.int k2) xs)=List.map (α:=Int) (Value.int k2) (List.append (α:=Int) ys (List.drop (α:=Int) (List.length (α:=Int) ys) xs)):=by
   simp
  rw [ao]at I
  have ax:(List.append (α:=Int) ys (List.drop (α:=Int) (List.length (α:=Int) ys) xs)).length=List.length (α:=Int) xs:=by
   simp;omega
  have G:=H.write (w':=w.setRow g (cur.toList.take 0++List.map (α:=Int) (Value.int k2) ys++cur.toList.drop (0+List.length (α:=Int) ys)).toArray) (m':=m) (bu.refl st.heap) d (x':= .row e' (.int k2) (List.append (α:=Int) ys (List.drop (α:=Int) (List.length (α:=Int) ys) xs)) dp true n) rfl rfl (fun _ _=>rfl) rfl (by simp [Sim]) (fun b an=> .inl an) (H.nd id _ d:(fpB m id (.row e' (.int k2) xs dp true n)).Nodup)
   (fun af b hk aD=>(hk.2 id _ d:okB m af b id (.row e' (.int k2) xs dp true n))) (g:=g) (by simp [fpB,Z]) (nq w _ _ _ rfl) (fun af b hk he=>by
        have:=(hk.2 id _ d).1 (.inl rfl)
        rw [Z,he]at this
        exact this rfl) (fun aE aF=>by
        refine ⟨_,by rw [ax];exact I,?_⟩
        cases dp with
        | false=>exact si.2 rfl
        | true=>exact ⟨nZ.2 ⟨rfl,(nZ.1 q.1).2⟩,q.2⟩)
  have F:R w0 mine {st with heap:=st.heap.set id (.row e' (.int k2) (List.append (α:=Int) ys (List.drop (α:=Int) (List.length (α:=Int) ys) xs)) dp true n)} a _:=⟨hd,m,G.1,bV G.2.1 G.2.2 he⟩
  exact F.put o.dst fun _ _ _=>rfl
end
def sj (tt:TT) (S:Sem):Sem:=fun o st=>match o.op with
 | .call c=>match c.callee,c.args.toList,c.argTypes.toList with
   | .builtin .copy,[x,y],[t,_]=>sh tt t (st.ev x) (st.ev y) o.dst st
   | _,_,_=>S o st
 | _=>S o st
theorem W0 {P:Program} {tt:TT} (hT:bm P tt) {S:Sem} (h:dt P S):dt P (sj tt S):=by
 intro o st p i hs f w0 mine a w next Q g e
 unfold sj at hs
 split at hs
 ·rename_i c k
  split at hs
  ·rename_i x y t l j b d
   have b:c.args= #[x,y]:=by rw [<-Array.toList_inj,b]
   have d:c.argTypes= #[t,l]:=by rw [<-Array.toList_inj,d]
   exact WZ hT k j b d hs f g e
  ·exact h o st p i hs f w0 mine a w next Q g e
 ·exact h o st p i hs f w0 mine a w next Q g e
attribute [simp] sj sh
end Go.T
namespace Go.T
open Go
def sk:List LC->Option (List Bool)
 | []=>some []
 | .bool b::r=>match sk r with
   | some l=>some (b::l)
   | none=>none
 | _=>none
def zy (f:Nat):Nat->List Bool->Bool
 | _,[]=>false
 | i,b::r=>bif decide (f=i)then b else zy f (i+1) r
def W1 (f:Nat) (v:Bool) (i:Nat) (b:Bool):Bool:=bif decide (f=i)then v else b
def zz (f:Nat) (v:Bool):Nat->List LC->Option (List LC)
 | _,[]=>some []
 | i,.bool b::r=>match zz f v (i+1) r with
   | some l=>some (.bool (W1 f v i b)::l)
   | none=>none
 | _,_=>none
abbrev Ars:=List (Nat×Nat)
def Ars.get:Ars->Nat->Option Nat
 | [],_=>none
 | (t,n)::r,t'=>if t=t' then some n else Ars.get r t'
def K8 (tt:TT) (a_s:Ars) (o:Oper) (st:St):Res:=match o.op with
 | .indexAddr t x y=>match Ars.get a_s t,st.ev x,st.ev y with
   | some n,.one (.ptr id 0 0),.one (.int _ i)=>match st.heap[id]? with
     | some (.box cs)=>if cs.length=n then some (0<=i/\i<(n:Int),st.put o.dst (.one (.ptr id 0 i.toNat)))else none
     | _=>none
   | _,_,_=>none
 | .index t x y=>match Ars.get a_s t,st.ev x,st.ev y with
   | some n,.agg cs,.one (.int _ i)=>if cs.length=n then match sk cs with
     | some l=>some (0<=i/\i<(n:Int),st.put o.dst (.one (.bool (zy i.toNat 0 l))))
     | none=>none
     else none
   | _,_,_=>none
 | .build t ps=>match Ars.get a_s t,tt.get t,ps.toList with
   | some _,some ti,[]=>some (True,st.put o.dst (.agg (eS ti.ty)))
   | _,_,_=>none
 | .load t x=>match tt.get t,st.ev x with
   | some ti,.one (.ptr id 0 f)=>if ti.agg=false/\ti.ty= .bool then match st.heap[id]? with
     | some (.box (c1::c2::cs))=>match sk (c1::c2::cs)with
       | some l=>some (f<(c1::c2::cs).length,st.put o.dst (.one (.bool (zy f 0 l))))
       | none=>none
     | _=>none
     else none
   | _,_=>none
 | .store t x y=>match tt.get t,st.ev x,st.ev y,o.dst with
   | some ti,.one (.ptr id 0 f),.one (.bool v),none=>if ti.agg=false/\ti.ty= .bool then match st.heap[id]? with
     | some (.box (c1::c2::cs))=>match zz f v 0 (c1::c2::cs)with
       | some l=>some (f<(c1::c2::cs).length,{st with heap:=st.heap.set id (.box l)})
       | none=>none
     | _=>none
     else none
   | _,_,_,_=>none
 | _=>none
section
variable {P : Program} {tt : TT} {a_s : Ars} {o : Oper} {a : Act} {w0 w : World} {mine : Mine} {st : St} {next : Act -> World -> Prop} {Q : Exit -> Act -> World -> Prop}
end
def W2 (tt:TT) (a_s:Ars) (S:Sem):Sem:=fun o st=>match K8 tt a_s o st with
 | some r=>some r
 | none=>S o st
attribute [simp] W2 K8 sk zz Ars.get dI
end Go.T
namespace Go.T
open Go
structure RN where
 n:Nat
 k:Nat
instance:CoeOut RN Nat:=⟨RN.n⟩
end Go.T
namespace Go.T
open Go
section
variable {P : Program} {tt : TT} {o : Oper} {a : Act} {w0 w : World} {mine : Mine} {st : St} {next : Act -> World -> Prop} {Q : Exit -> Act -> World -> Prop}
end
def K9 (tt:TT) (o:Oper) (st:St):Res:=match o.op with
 | .buildSlice t n ps=>match tt.get t with
   | some ti=>match ti.agg,ti.ty with
     | false,.slice e te=>
       if ps.toList.map (·.1)=List.range n/\n*te.sz<=65536/\(ps.toList.map fun p=>(st.ev p.2).cells).flatten.all LC.isDef=true/\(ps.toList.map fun p=>(st.ev p.2).cells).flatten.all LC.low=true/\bR st.heap (ps.toList.map fun p=>(st.ev p.2).cells).flatten=false then match dF st.heap te (ps.toList.map fun p=>(st.ev p.2).cells)with
        | some xs=>some (True,{(st.put o.dst (.one (.own st.heap.length)))with heap:=st.heap++[.row e te xs false true 0]})
        | none=>none
       else none
     | _,_=>none
   | none=>none
 | _=>none
def W3 (tt:TT) (S:Sem):Sem:=fun o st=>match K9 tt o st with
 | some r=>some r
 | none=>S o st
attribute [simp] W3 K9 LC.low
end Go.T
namespace Go.T
open Go
abbrev ei:=List (Nat×Nat×Nat)
def ei.get:ei->Nat->Nat->Option Nat
 | [],_,_=>none
 | (t,i,b)::r,t',a=>if t=t'/\i=a then some b else ei.get r t' a
def n0 (P:Program) (fs:ei):Bool:=fs.all fun p=>match P.underlying p.1 with
 | some (.struct l)=>match l[p.2.1]? with
   | some f=>f.type==p.2.2
   | none=>false
 | _=>false
theorem W4 {P:Program} {fs:ei} (h:n0 P fs=true) {t i b:Nat} (a:ei.get fs t i=some b): ∃l f,P.underlying t=some (.struct l)/\l[i]?=some f/\f.type=b:=by
 induction fs with
 | nil=>simp [ei.get]at a
 | cons p r d=>
   obtain ⟨t0,i0,f0⟩:=p
   simp only [n0,List.all_cons,Bool.and_eq_true]at h
   simp only [ei.get]at a
   split at a
   ·rename_i e
    obtain ⟨rfl,rfl⟩:=e
    cases a
    have h:=h.1
    split at h
    ·rename_i l hu
     split at h
     ·rename_i f c
      exact ⟨l,f,hu,c,by simpa using h⟩
     ·simp at h
    ·simp at h
   ·exact d h.2 a
def sm (tt:TT) (fs:ei) (o:Oper) (st:St):Res:=match o.op with
 | .field t x i=>match ei.get fs t i,tt.get t,st.ev x with
   | some b,some ti,.agg cs=>match tt.get b,ti.offs[i]? with
     | some a,some p=>if p.1+a.ty.sz<=cs.length then some (True,st.put o.dst (h8 a.agg ((cs.drop p.1).take a.ty.sz)))else none
     | _,_=>none
   | _,_,_=>none
 | _=>none
section
variable {P : Program} {tt : TT} {fs : ei} {o : Oper} {a : Act} {w0 w : World} {mine : Mine} {st : St} {next : Act -> World -> Prop} {Q : Exit -> Act -> World -> Prop}
theorem W5 (hT:bm P tt) (L:n0 P fs=true) {p:Prop} {J:St} (hs:sm tt fs o st=some (p,J)) (U:R w0 mine st a w) (B: ∀c w',R w0 mine J c w'->next c w'):o.wp P a w next Q:=by
 unfold sm at hs
 split at hs
 ·rename_i t x i D
  split at hs
  ·rename_i n ti cs N W ex
   split at hs
   ·rename_i b q X T
    split at hs
    ·rename_i hle
     cases hs
     obtain ⟨l,f,hu,r,z⟩:=W4 L N
     obtain ⟨f0,Y⟩:=q
     obtain ⟨Z,f2,F,g,E,_⟩:=(hT t ti W).offsStruct f0 Y i T
     rw [hu]at F
     cases F
     rw [r]at g
     cases g
     have u:=hT n b X
     have hle:f0+b.ty.sz<=cs.length:=hle
     obtain ⟨hd,m,H,he⟩:=U
     have G:=R.ev H he x
     rw [ex]at G
     obtain ⟨vs,I,g⟩:=G
     have hlen:vs.toList.length=cs.length:=g.len.symm
     have k:=(g.drop f0).take b.ty.sz
     have j:(isAgg n).run P w= .ok b.agg w:=u.isAgg w
     have V:(sizeOf n).run P w= .ok b.ty.sz w:=u.sizeOf w
     cases d:b.agg with
     | true=>
       rw [d]at j
       refine lN hd H he (v:= .agg (vs.extract f0 (f0+b.ty.sz))) (l:= .agg ((cs.drop f0).take b.ty.sz)) ?_ ?_ (fun c w' s=>B c w' (by rw [d];exact s))
       ·simp [execOp,D,I,Instr.field,run_underlying hu,r,z,asAgg,Go.part,j,V,E]
       ·refine ⟨_,rfl,?_⟩
        have e:(vs.extract f0 (f0+b.ty.sz)).toList=(vs.toList.drop f0).take b.ty.sz:=by
               simp [List.extract_eq_take_drop]
        rw [e];exact k
     | false=>
       rw [d]at j
       have h1:=u.one d
       rw [h1]at k hle
       have S:f0<cs.length:=by omega
       have A:f0<vs.toList.length:=by omega
       have y:(cs.drop f0).take 1=[cs[f0]]:=by rw [List.drop_eq_getElem_cons S];rfl
       have K:(vs.toList.drop f0).take 1=[vs.toList[f0]]:=by rw [List.drop_eq_getElem_cons A];rfl
       rw [y,K]at k
       have M:C w m st.heap cs[f0] vs.toList[f0]:=by cases k with | cons h _=>exact h
       refine cF hd H he (fun c w' s=>B c w' (by rw [d,h1,y];exact s)) (v:=vs.toList[f0]) ?_ M
       have O:vs[f0]?=some vs.toList[f0]:=by rw [<-Array.getElem?_toList,List.getElem?_eq_getElem A]
       simp [execOp,D,I,Instr.field,run_underlying hu,r,z,asAgg,Go.part,j,E,O]
    ·simp at hs
   ·simp at hs
  ·simp at hs
 ·simp at hs
end
def sn (tt:TT) (fs:ei) (S:Sem):Sem:=fun o st=>match sm tt fs o st with
 | some r=>some r
 | none=>S o st
theorem W6 {P:Program} {tt:TT} (hT:bm P tt) {fs:ei} (d:n0 P fs=true) {S:Sem} (h:dt P S):dt P (sn tt fs S):=by
 intro o st p g hs e w0 mine a w next Q c b
 unfold sn at hs
 split at hs
 ·rename_i r f
  cases hs
  exact W5 hT d f c b
 ·exact h o st p g hs e w0 mine a w next Q c b
attribute [simp] sn sm ei.get
end Go.T
