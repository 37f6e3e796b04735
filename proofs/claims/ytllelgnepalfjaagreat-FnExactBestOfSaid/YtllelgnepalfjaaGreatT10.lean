import Derived.Test.YtllelgnepalfjaaGreatT9
import Derived.Shelf.SlSortCmp.NoneTotal
import Derived.KernelRfl
set_option linter.unusedSimpArgs false
set_option linter.unusedVariables false
namespace Go.T
open Go Go.Proofs Go.Shelf Go.RowKit Go.Lib
open Go.Sort (HoldsK Holds putRowK putRow putCells flatK grow mapBlock ahead SWO PermIn SortedIn)
theorem KD {w:World} {t:Ty}: ∀{xs:List (Val t)} {cs:List Value} {B:List Nat},Ms (M w t) xs cs B-> ∃(b:List (List Value)) (a:List (List Nat)),cs=b.flatten/\B=a.flatten/\b.length=xs.length/\a.length=xs.length/\ ∀i x,xs[i]?=some x->M w t x (b.getD i []) (a.getD i [])
 | [],_,_,h=>⟨[],[],by simpa using h.1,by simpa using h.2,rfl,rfl,fun i x j=>by simp at j⟩
 | x::xs,_,_,h=>by
   obtain ⟨c1,c2,d,k,rfl,rfl,h1,h2⟩:=h
   obtain ⟨b,a,rfl,rfl,e,f,g⟩:=KD h2
   refine ⟨c1::b,d::a,by simp,by simp,by simp [e],by simp [f],fun i y c=> ?_⟩
   cases i with
   | zero=>simp at c;subst c;simpa using h1
   | succ i=>simpa using g i y (by simpa using c)
theorem KE {w:World} {t:Ty} {α:Type} {f:α->Val t} {c:α->List Value} {b:α->List Nat}: ∀{l:List α},(∀i∈l,M w t (f i) (c i) (b i))->Ms (M w t) (l.map f) (l.flatMap c) (l.flatMap b)
 | [],_=>⟨rfl,rfl⟩
 | i::l,h=>⟨c i,_,b i,_,by simp,by simp,h i (by simp),KE fun j a=>h j (by simp [a])⟩
section
variable {α : Type} {enc : α -> List Value} {k : Nat}
theorem KF (hk: ∀x,(enc x).length=k) (a:0<k): ∀(l:List α) (t:Nat),(l.flatMap enc)[t]?=(l[t / k]?).bind fun x=>(enc x)[t % k]?
 | [],t=>by simp
 | x::l,t=>by
   rw [List.flatMap_cons]
   by_cases h:t<k
   ·rw [List.getElem?_append_left (by rw [hk];exact h),Nat.div_eq_of_lt h,Nat.mod_eq_of_lt h]
    simp
   ·have hle:k<=t:=by omega
    rw [List.getElem?_append_right (by rw [hk];exact hle),hk,KF hk a l (t - k)]
    obtain ⟨s,rfl⟩: ∃s,t=s+k:=⟨t - k,by omega⟩
    rw [Nat.add_sub_cancel,Nat.add_div_right _ a,Nat.add_mod_right]
    simp
variable [Inhabited α]
theorem KG (hk: ∀x,(enc x).length=k) (a:0<k) (d:Array α):(flatK enc k d).toList=d.toList.flatMap enc:=by
 apply List.ext_getElem?
 intro t
 rw [KF hk a,Array.getElem?_toList,Array.getElem?_toList]
 by_cases b:t<d.size*k
 ·have h1:t / k<d.size:=by rw [Nat.div_lt_iff_lt_mul a];exact b
  have h2:t % k<(enc d[t / k]).length:=by rw [hk];exact Nat.mod_lt _ a
  rw [Array.getElem?_eq_getElem h1]
  simp only [flatK,Array.getElem?_map,Array.getElem?_range,b,if_true,Option.map_some,Option.bind_some]
  rw [getElem!_pos d (t / k) h1,getElem!_pos _ (t % k) h2,List.getElem?_eq_getElem h2]
 ·have h1:d.size<=t / k:=by
   rcases Nat.lt_or_ge (t / k) d.size with h | h
   ·rw [Nat.div_lt_iff_lt_mul a]at h;exact absurd h b
   ·exact h
  rw [Array.getElem?_eq_none h1,Array.getElem?_eq_none (by rw [Sort.size_flatK];omega)]
  rfl
theorem Wn (e:Value->Value) (w:World) (b off:Nat) (d:Array Value) {j:Nat} (a:j≠b):(putRow e w b off d).heap[j]?=w.heap[j]?:=by
 simp only [putRow,mapBlock,Array.getElem?_modify]
 rw [if_neg (fun q=>a q.symm)]
theorem Wo (e:Value->Value) (w:World) (b off:Nat) (d:Array Value) {cur:Array Value} {ty:TypeId} {fr:Nat×Nat} (a:w.heap[b]?=some (.cells cur ty fr)):(putRow e w b off d).heap[b]?=some (.cells (putCells e off d cur) ty fr):=by
 simp only [putRow,mapBlock,Array.getElem?_modify,if_true,a,Option.map_some]
 rfl
end
theorem Wp {W w':World} (h:Fr (fun _=>False) W w'): ∃q d,w'=grow (W.drewN q) d:=by
 refine ⟨w'.drawn - W.drawn,w'.heap.extract W.heap.size w'.heap.size,?_⟩
 obtain ⟨a,k,f,d,j⟩:=w'
 obtain ⟨heap,tape,drawn,os,output⟩:=W
 obtain ⟨rfl,rfl,rfl,hs,b,hd⟩:=h
 simp only at hs b hd
 have e:a=heap++a.extract heap.size a.size:=by
  apply Array.ext_getElem?
  intro i
  rw [Array.getElem?_append]
  split
  ·rename_i c;exact b i c (fun q=>q)
  ·rename_i c
   rw [Array.getElem?_extract]
   by_cases g:i<a.size
   ·rw [if_pos (by omega)];congr 1;omega
   ·rw [if_neg (by omega),Array.getElem?_eq_none (by omega)]
 simp only [grow,World.drewN,World.mk.injEq,true_and,and_true]
 exact ⟨e,by omega⟩
theorem KH {β:Type} (a:Array β) {n:Nat} (h:a.size=n):a.extract 0 n=a:=by subst h;exact Array.extract_size
def zd {t:Ty} (d:Val t->Val t->Prop) (c:Val t->Val t->Int) (fv:List (Val t)->List (Val t)) (xs:List (Val t)):Prop:=
 xs.length<=1048576/\(∀x∈xs,∀y∈xs,d x y)/\(∀x∈xs,¬c x x<0)/\(∀x∈xs,∀y∈xs,∀z∈xs,c x y<0->c y z<0->c x z<0)/\(∀x∈xs,∀y∈xs,∀z∈xs,¬c x y<0-> ¬c y z<0-> ¬c x z<0)/\
 ∀ys:List (Val t),ys.Perm xs->ys.Pairwise (fun a b=> ¬c b a<0)->ys=fv xs
theorem enter_of {P:Program} {f:FuncId} (h:ez P f): ∀args w,(callFunc f args).run P w= .ok (.enter f args) w:=by
 obtain ⟨fn,h1,h2,a⟩:=h
 intro args w
 have b:fn.body≠none:=by intro e;rw [e]at h2;simp at h2
 have c : fn.name ≠ "runtime.NumGoroutine" := by intro e; rw [e] at a; simp at a
 simp [callFunc,h1,b,c]
theorem Wq {P:Program} {ρ:Ren} (L:SlLaysF0.n6 P ρ) {f:FuncId} (a3:ρ.f 6=f) (a2:ez P f) {ti:TI} (aa:ti.agg=true) (an: ∀w,(isAgg (ρ.t 24)).run P w= .ok true w) (aK: ∀w,(Go.sizeOf (ρ.t 24)).run P w= .ok ti.ty.sz w)
 {e:Nat} {cmp:FuncId} {dp:Bool} {V:Val ti.ty->Val ti.ty->Prop} {J:Val ti.ty->Val ti.ty->Int} {fv:List (Val ti.ty)->List (Val ti.ty)}
 (S:Sound P cmp {ps:=[ti,ti],rs:=[⟨.int .i64,false,[],false⟩],dp:=dp,pre:=fun x=>V x.1 x.2.1,fn:=fun x=>(J x.1 x.2.1,())}):
 SoundSr P f {e:=e,t:=ti.ty,cmp:=cmp,pre:=zd V J fv,fv:=fv}:=by
 refine ⟨a2,fun xs aH w B u Z N=> ?_⟩
 subst a3
 obtain ⟨hlen,az,au,av,aw,am⟩:=aH
 have ar:=Z
 obtain ⟨aJ,inner,aN,hu,rfl,T,aA⟩:=Z
 obtain rfl:u=aJ:=by simpa using hu
 by_cases I:xs.length=0
 ·have aI:xs=[]:=List.eq_nil_of_length_eq_zero I
  have Q:fv xs=xs:=by subst aI;exact (am [] (List.Perm.refl _) List.Pairwise.nil).symm
  obtain ⟨A,c,rfl,_⟩:=gP T
  have H:Calls P (ρ.f 6) #[.slice A xs.length c,.func (.func cmp) #[] #[]] w fun e' w'=>e'= .returned (.tuple #[])/\w'=w:=by
   rw [I];exact AnyF.slices_SortFunc_none L A c _ w
  refine Calls.mono H fun e' w' h=> ?_
  obtain ⟨rfl,rfl⟩:=h
  refine ⟨rfl,Fr.refl _ _,_,?_,N,fun b a=> .inl a⟩
  show M _ (.slice e ti.ty) (fv xs) _ _
  rw [Q]
  exact ar
 rcases T.2 with ⟨_,aB⟩ | ⟨g,cap,cur,rfl,_,ae,ab,ax,ac,aO⟩
 ·exact absurd aB I
 have aD:0<xs.length:=Nat.pos_of_ne_zero I
 obtain ⟨F,p,rfl,rfl,aq,ao,aC⟩:=KD aA
 haveI:Inhabited (Fin xs.length):=⟨⟨0,aD⟩⟩
 have z: ∀i:Fin xs.length,M w ti.ty xs[i] (F.getD i []) (p.getD i.val []):=fun i=>aC i _ (List.getElem?_eq_getElem i.2)
 let enc:Fin xs.length->List Value:=fun i=>F.getD i []
 have hk: ∀i,(enc i).length=ti.ty.sz:=fun i=>fR (z i)
 have h1: ∀i,∀v∈enc i,v.oneCell'=true:=fun i=>IC (z i)
 have ah:0<ti.ty.sz:=ti.ty.sz_pos
 let o:Fin xs.length->Fin xs.length->Int:=fun i j=>J xs[i] xs[j]
 let d:Array (Fin xs.length):=(List.finRange xs.length).toArray
 have a1:d.toList=List.finRange xs.length:=rfl
 have y:d.size=xs.length:=by simp [d]
 have W: ∀{β:Type} (l:List (List β)),l.length=xs.length->(List.finRange xs.length).flatMap (fun i=>l.getD i.val [])=l.flatten:=fun l D=>by
  rw [List.flatMap_def]
  congr 1
  apply List.ext_getElem?
  intro i
  rw [List.getElem?_map]
  by_cases k:i<xs.length
  ·have:(List.finRange xs.length)[i]?=some ⟨i,k⟩:=by simp [k]
   rw [this]
   simp [List.getD,D,k]
  ·rw [List.getElem?_eq_none (by simp;omega),List.getElem?_eq_none (by omega)];rfl
 have a4:(flatK enc ti.ty.sz d).toList=F.flatten:=by rw [KG hk ah,a1];exact W F aq
 have ai:=T
 have X:g∉p.flatten:=by
  have:=(List.nodup_append.1 N).2.2
  exact fun hm=>this g (by simp [Value.ownBlock]) g hm rfl
 have ap:p.flatten.Nodup:=(List.nodup_append.1 N).2.1
 have af:g<w.heap.size:=(Array.getElem?_eq_some_iff.1 ae).1
 have hH:HoldsK enc ti.ty.sz w g 0 d:=fun j C=>by
  rw [Sort.size_flatK,y]at C
  refine ⟨?_,by rw [Nat.zero_add];exact World.ownsRow.frozenAt ai j⟩
  rw [Nat.zero_add,World.ownsRow.cellAt ai j C,<-a4,Array.getElem?_toList]
  rw [getElem!_pos _ j (by rw [Sort.size_flatK,y];exact C)]
  exact Array.getElem?_eq_getElem _
 have G: ∀(i:Fin xs.length),∀b∈p.getD i [],b≠g/\b<w.heap.size:=fun i b a=>⟨fun q=>X (by rw [<-q];exact rR a),gQ (z i) b a⟩
 have same: ∀(m:Nat) (r:Array (Fin xs.length)) (os:Array Obj) (b:Nat),b≠g->b<w.heap.size->(sortWorldK enc ti.ty.sz w g 0 m r os).heap[b]?=w.heap[b]?:=fun m r os b a D=>by
  unfold sortWorldK
  rw [Sort.heap_grow_old _ _ (by simpa [putRowK] using D)]
  exact Wn _ _ _ _ _ a
 have ay:CmpLays P cmp #[] enc ti.ty.sz o g 0 d.size w:=fun m os r _ i j=>by
  have Y: ∀i:Fin xs.length,K (sortWorldK enc ti.ty.sz w g 0 m r os) (fun _=>True) ti.ty xs[i] (enc i):=fun i=>
   M_K (dX (z i) fun b a=>same m r os b (G i b a).1 (G i b a).2) fun _ _=>trivial
  have aG:VKs (sortWorldK enc ti.ty.sz w g 0 m r os) (fun _=>True) [ti,ti] (xs[i],(xs[j],())) (#[.agg (enc i).toArray,.agg (enc j).toArray]++ #[]:Array Value).toList:=
   ⟨_,_,enc i,rfl,Y i,by simp [cb,aa],_,_,enc j,rfl,Y j,by simp [cb,aa],rfl⟩
  refine Calls.mono (S.runs (xs[i],(xs[j],())) (az _ (List.getElem_mem _) _ (List.getElem_mem _)) _ (fun _=>True) _ aG fun _ _=>trivial) fun e' w' h=> ?_
  obtain ⟨us,rfl,a5,al⟩:=h
  have aF:us=[.int .i64 (o i j)]:=by
   cases dp with
   | true=>
     obtain ⟨B,⟨U,rest,cs,aL,aM,rfl,rfl,hm,hw,E,_⟩,_⟩:=al
     obtain ⟨a0,_⟩:=hm
     subst a0
     have hw:[Value.int .i64 (o i j)]=[U]:=hw
     rw [E,<-(List.cons.inj hw).1]
   | false=>
     obtain ⟨U,rest,cs,rfl,hm,hw,E⟩:=al
     have hm:cs=[Value.int .i64 (o i j)]:=hm
     subst hm
     have hw:[Value.int .i64 (o i j)]=[U]:=hw
     have E:rest=[]:=E
     rw [E,<-(List.cons.inj hw).1]
  subst aF
  exact ⟨rfl,Wp a5⟩
 have mem: ∀i:Fin xs.length,xs[i]∈xs:=fun i=>List.getElem_mem _
 have hO:SWO (ltOf o):=⟨fun i=>by simpa [ltOf,o] using au _ (mem i),fun i j l h1 h2=>by
  simp only [ltOf,decide_eq_true_eq,o]at*
  exact av _ (mem i) _ (mem j) _ (mem l) h1 h2,fun i j l h1 h2=>by
  simp only [ltOf,decide_eq_false_iff_not,o]at*
  exact aw _ (mem i) _ (mem j) _ (mem l) h1 h2⟩
 have H:=AnyQ.slices_SortFunc L ti.ty.sz an aK enc hk h1 o hO cmp #[] g 0 cap d w (enter_of S.enters) ay hH af (by rw [y];omega)
 rw [y]at H
 refine Calls.mono H fun e' w' h=> ?_
 obtain ⟨rfl,d',n,os,aj,aE,rfl⟩:=h
 have s:d'.size=xs.length:=by rw [aj.1,y]
 have ak:d'.toList.Perm (List.finRange xs.length):=by
  have:=aj.2.2
  rw [KH d' s,KH d y]at this
  exact this
 have Q:fv xs=d'.toList.map fun i=>xs[i]:=by
  refine (am _ ?_ ?_).symm
  ·refine (ak.map _).trans ?_
   have:(List.finRange xs.length).map (fun i=>xs[i])=xs:=by
        apply List.ext_getElem?
        intro i
        rw [List.getElem?_map]
        by_cases k:i<xs.length
        ·have:(List.finRange xs.length)[i]?=some ⟨i,k⟩:=by simp [k]
         rw [this];simp [k]
        ·rw [List.getElem?_eq_none (by simp;omega),List.getElem?_eq_none (by omega)];rfl
   rw [this]
  ·rw [List.pairwise_map,List.pairwise_iff_getElem]
   intro i j k C a8
   have a7:i<d'.size:=by simpa using k
   have ag:j<d'.size:=by simpa using C
   have:=aE i j (Nat.zero_le _) a8 (by rw [<-s];exact ag)
   rw [getElem!_pos d' i a7,getElem!_pos d' j ag]at this
   simpa [ltOf,o] using this
 have O:(d'.toList.flatMap fun i=>p.getD i.val []).Perm p.flatten:=by
  rw [<-W p ao]
  exact ak.flatMap_right _
 refine ⟨rfl,⟨rfl,rfl,rfl,?_,fun b D a=>same n d' os b (fun q=>a (by simp [q,Value.ownBlock])) D,Nat.le_add_right _ _⟩,g::d'.toList.flatMap (fun i=>p.getD i.val []),?_,?_,fun b a=> .inl ?_⟩
 ·unfold sortWorldK;rw [Sort.size_grow];simp [putRowK]
 ·show M _ (.slice e ti.ty) (fv xs) _ _
  rw [Q]
  refine ⟨_,d'.toList.flatMap enc,_,rfl,rfl,?_,KE fun i _=>dX (z i) fun b a=>same n d' os b (G i b a).1 (G i b a).2⟩
  have a9:(d'.toList.map fun i=>xs[i]).length=xs.length:=by simp [s]
  rw [a9]
  have ad:=KG hk ah d'
  have a6:(d'.toList.flatMap enc).length=xs.length*ti.ty.sz:=by
   rw [<-ad,Array.length_toList,Sort.size_flatK,s]
  refine ⟨a6,.inr ⟨g,cap,putCells id 0 (flatK enc ti.ty.sz d') cur,rfl,Nat.zero_le _,?_,ab,ax,?_,?_⟩⟩
  ·unfold sortWorldK
   rw [Sort.heap_grow_old _ _ (by simpa [putRowK] using af)]
   exact Wo _ _ _ _ _ ae
  ·simp [putCells,ac]
  ·have hle:xs.length*ti.ty.sz<=cur.size:=by rw [ac];exact Nat.mul_le_mul_right _ ab
   rw [<-ad]
   apply List.ext_getElem?
   intro i
   rw [List.getElem?_take]
   split
   ·rename_i k
    have R:i<(flatK enc ti.ty.sz d').size:=by rw [Sort.size_flatK,s];exact k
    rw [Array.getElem?_toList,Array.getElem?_toList]
    simp only [putCells,Array.getElem?_mapIdx,Nat.zero_add,Nat.zero_le,true_and,R,if_true,Nat.sub_zero,id]
    rw [Array.getElem?_eq_getElem (by omega:i<cur.size),Array.getElem?_eq_getElem R]
    simp only [Option.map_some]
    rw [getElem!_pos _ i R]
   ·rename_i k
    rw [Array.getElem?_toList,Array.getElem?_eq_none (by rw [Sort.size_flatK,s];omega)]
 ·refine List.nodup_cons.2 ⟨fun hm=>X (O.mem_iff.1 hm),O.nodup_iff.2 ap⟩
 ·rcases List.mem_cons.1 a with rfl | a
  ·simp [Value.ownBlock]
  ·exact List.mem_append_right _ (O.mem_iff.1 a)
end Go.T
