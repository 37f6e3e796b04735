/- T: the library's sort of a row whose elements hold rows. -/
import Derived.Test.YthefcjjgchekiaaT9
import Derived.Shelf.SlSortCmp.NoneTotal
import Derived.KernelRfl
set_option linter.unusedSimpArgs false
set_option linter.unusedVariables false
namespace Go.T
open Go Go.Proofs Go.Shelf Go.RowKit Go.Lib
open Go.Sort (HoldsK Holds putRowK putRow putCells flatK grow mapBlock ahead SWO PermIn SortedIn)
theorem qEo {w:World} {t:Ty}: ∀{xs:List (Val t)} {cs:List Value} {B:List Nat},Ms (M w t) xs cs B→ ∃(Cs:List (List Value)) (Bs:List (List Nat)),cs=Cs.flatten∧B=Bs.flatten∧Cs.length=xs.length∧Bs.length=xs.length∧ ∀i x,xs[i]?=some x→M w t x (Cs.getD i []) (Bs.getD i [])
 | [],_,_,h=>⟨[],[],by simpa using h.1,by simpa using h.2,rfl,rfl,fun i x hx=>by simp at hx⟩
 | x::xs,_,_,h=>by
   obtain ⟨c1,c2,B1,B2,rfl,rfl,h1,h2⟩:=h
   obtain ⟨Cs,Bs,rfl,rfl,e1,e2,hp⟩:=qEo h2
   refine ⟨c1::Cs,B1::Bs,by simp,by simp,by simp [e1],by simp [e2],fun i y hy=> ?_⟩
   cases i with
   | zero=>simp at hy;subst hy;simpa using h1
   | succ i=>simpa using hp i y (by simpa using hy)
theorem qEq {w:World} {t:Ty} {α:Type} {f:α→Val t} {c:α→List Value} {b:α→List Nat}: ∀{l:List α},(∀i∈l,M w t (f i) (c i) (b i))→Ms (M w t) (l.map f) (l.flatMap c) (l.flatMap b)
 | [],_=>⟨rfl,rfl⟩
 | i::l,h=>⟨c i,_,b i,_,by simp,by simp,h i (by simp),qEq fun j hj=>h j (by simp [hj])⟩
section
variable {α : Type} {enc : α → List Value} {k : Nat}
theorem qCG (hk: ∀x,(enc x).length=k) (h0:0<k): ∀(l:List α) (t:Nat),(l.flatMap enc)[t]?=(l[t / k]?).bind fun x=>(enc x)[t % k]?
 | [],t=>by simp
 | x::l,t=>by
   rw [List.flatMap_cons]
   by_cases h:t<k
   ·rw [List.getElem?_append_left (by rw [hk];exact h),Nat.div_eq_of_lt h,Nat.mod_eq_of_lt h]
    simp
   ·have hle:k≤t:=by omega
    rw [List.getElem?_append_right (by rw [hk];exact hle),hk,qCG hk h0 l (t - k)]
    obtain ⟨s,rfl⟩: ∃s,t=s+k:=⟨t - k,by omega⟩
    rw [Nat.add_sub_cancel,Nat.add_div_right _ h0,Nat.add_mod_right]
    simp
variable [Inhabited α]
theorem qEI (hk: ∀x,(enc x).length=k) (h0:0<k) (d:Array α):(flatK enc k d).toList=d.toList.flatMap enc:=by
 apply List.ext_getElem?
 intro t
 rw [qCG hk h0,Array.getElem?_toList,Array.getElem?_toList]
 by_cases ht:t<d.size*k
 ·have h1:t / k<d.size:=by rw [Nat.div_lt_iff_lt_mul h0];exact ht
  have h2:t % k<(enc d[t / k]).length:=by rw [hk];exact Nat.mod_lt _ h0
  rw [Array.getElem?_eq_getElem h1]
  simp only [flatK,Array.getElem?_map,Array.getElem?_range,ht,if_true,Option.map_some,Option.bind_some]
  rw [getElem!_pos d (t / k) h1,getElem!_pos _ (t % k) h2,List.getElem?_eq_getElem h2]
 ·have h1:d.size≤t / k:=by
   rcases Nat.lt_or_ge (t / k) d.size with h | h
   ·rw [Nat.div_lt_iff_lt_mul h0]at h;exact absurd h ht
   ·exact h
  rw [Array.getElem?_eq_none h1,Array.getElem?_eq_none (by rw [Sort.size_flatK];omega)]
  rfl
theorem qJD (e:Value→Value) (w:World) (b off:Nat) (d:Array Value) {j:Nat} (hj:j≠b):(putRow e w b off d).heap[j]?=w.heap[j]?:=by
 simp only [putRow,mapBlock,Array.getElem?_modify]
 rw [if_neg (fun q=>hj q.symm)]
theorem qIO (e:Value→Value) (w:World) (b off:Nat) (d:Array Value) {cur:Array Value} {ty:TypeId} {fr:Nat×Nat} (hb:w.heap[b]?=some (.cells cur ty fr)):(putRow e w b off d).heap[b]?=some (.cells (putCells e off d cur) ty fr):=by
 simp only [putRow,mapBlock,Array.getElem?_modify,if_true,hb,Option.map_some]
 rfl
end
theorem qGX {W w':World} (h:Fr (fun _=>False) W w'): ∃q os',w'=grow (W.drewN q) os':=by
 refine ⟨w'.drawn - W.drawn,w'.heap.extract W.heap.size w'.heap.size,?_⟩
 obtain ⟨heap',tape',drawn',os',output'⟩:=w'
 obtain ⟨heap,tape,drawn,os,output⟩:=W
 obtain ⟨rfl,rfl,rfl,hs,hb,hd⟩:=h
 simp only at hs hb hd
 have e:heap'=heap++heap'.extract heap.size heap'.size:=by
  apply Array.ext_getElem?
  intro i
  rw [Array.getElem?_append]
  split
  ·rename_i hi;exact hb i hi (fun q=>q)
  ·rename_i hi
   rw [Array.getElem?_extract]
   by_cases hi2:i<heap'.size
   ·rw [if_pos (by omega)];congr 1;omega
   ·rw [if_neg (by omega),Array.getElem?_eq_none (by omega)]
 simp only [grow,World.drewN,World.mk.injEq,true_and,and_true]
 exact ⟨e,by omega⟩
theorem qFg {β:Type} (a:Array β) {n:Nat} (h:a.size=n):a.extract 0 n=a:=by subst h;exact Array.extract_size
def qvq {t:Ty} (cpre:Val t→Val t→Prop) (cf:Val t→Val t→Int) (fv:List (Val t)→List (Val t)) (xs:List (Val t)):Prop:=
 xs.length≤1048576∧(∀x∈xs,∀y∈xs,cpre x y)∧(∀x∈xs,¬cf x x<0)∧(∀x∈xs,∀y∈xs,∀z∈xs,cf x y<0→cf y z<0→cf x z<0)∧(∀x∈xs,∀y∈xs,∀z∈xs,¬cf x y<0→ ¬cf y z<0→ ¬cf x z<0)∧
 ∀ys:List (Val t),ys.Perm xs→ys.Pairwise (fun a b=> ¬cf b a<0)→ys=fv xs
theorem qJf {P:Program} {f:FuncId} (h:qcH P f): ∀args w,(callFunc f args).run P w= .ok (.enter f args) w:=by
 obtain ⟨fn,h1,h2,h3⟩:=h
 intro args w
 have h2':fn.body≠none:=by intro e;rw [e]at h2;simp at h2
 have h3' : fn.name ≠ "runtime.NumGoroutine" := by intro e; rw [e] at h3; simp at h3
 simp [callFunc,h1,h2',h3']
theorem qOk {P:Program} {ρ:Ren} (L:SlLaysF0.n6 P ρ) {f:FuncId} (hf:ρ.f 6=f) (hen:qcH P f) {ti:TI} (hag:ti.agg=true) (aE: ∀w,(isAgg (ρ.t 24)).run P w= .ok true w) (zE: ∀w,(Go.sizeOf (ρ.t 24)).run P w= .ok ti.ty.sz w)
 {e:Nat} {cmp:FuncId} {dp:Bool} {cpre:Val ti.ty→Val ti.ty→Prop} {cf:Val ti.ty→Val ti.ty→Int} {fv:List (Val ti.ty)→List (Val ti.ty)}
 (S:Sound P cmp {ps:=[ti,ti],rs:=[⟨.int .i64,false,[],false⟩],dp:=dp,pre:=fun x=>cpre x.1 x.2.1,fn:=fun x=>(cf x.1 x.2.1,())}):
 SoundSr P f {e:=e,t:=ti.ty,cmp:=cmp,pre:=qvq cpre cf fv,fv:=fv}:=by
 refine ⟨hen,fun xs hx w B u hM hB=> ?_⟩
 subst hf
 obtain ⟨hlen,hcp,hO1,hO2,hO3,huniq⟩:=hx
 have hM0:=hM
 obtain ⟨u',inner,Bs0,hu,rfl,ho,hms⟩:=hM
 obtain rfl:u=u':=by simpa using hu
 by_cases hz:xs.length=0
 ·have hxs:xs=[]:=List.eq_nil_of_length_eq_zero hz
  have hfv:fv xs=xs:=by subst hxs;exact (huniq [] (List.Perm.refl _) List.Pairwise.nil).symm
  obtain ⟨A,c,rfl,_⟩:=qd6 ho
  have hcon:Calls P (ρ.f 6) #[.slice A xs.length c,.func (.func cmp) #[] #[]] w fun e' w'=>e'= .returned (.tuple #[])∧w'=w:=by
   rw [hz];exact AnyF.slices_SortFunc_none L A c _ w
  refine Calls.mono hcon fun e' w' h=> ?_
  obtain ⟨rfl,rfl⟩:=h
  refine ⟨rfl,Fr.refl _ _,_,?_,hB,fun b hb=> .inl hb⟩
  show M _ (.slice e ti.ty) (fv xs) _ _
  rw [hfv]
  exact hM0
 rcases ho.2 with ⟨_,hn⟩ | ⟨gb,cap,cur,rfl,_,hg,hc,hcm,hcs,htake⟩
 ·exact absurd hn hz
 have hpos:0<xs.length:=Nat.pos_of_ne_zero hz
 obtain ⟨Cs,Bss,rfl,rfl,hCl,hBl,hp⟩:=qEo hms
 haveI:Inhabited (Fin xs.length):=⟨⟨0,hpos⟩⟩
 have hat: ∀i:Fin xs.length,M w ti.ty xs[i] (Cs.getD i []) (Bss.getD i.val []):=fun i=>hp i _ (List.getElem?_eq_getElem i.2)
 let enc:Fin xs.length→List Value:=fun i=>Cs.getD i []
 have hk: ∀i,(enc i).length=ti.ty.sz:=fun i=>qeS (hat i)
 have h1: ∀i,∀v∈enc i,v.oneCell'=true:=fun i=>qE2 (hat i)
 have hk0:0<ti.ty.sz:=ti.ty.sz_pos
 let cf':Fin xs.length→Fin xs.length→Int:=fun i j=>cf xs[i] xs[j]
 let d:Array (Fin xs.length):=(List.finRange xs.length).toArray
 have hdl:d.toList=List.finRange xs.length:=rfl
 have hds:d.size=xs.length:=by simp [d]
 have fr_list: ∀{β:Type} (l:List (List β)),l.length=xs.length→(List.finRange xs.length).flatMap (fun i=>l.getD i.val [])=l.flatten:=fun l hl=>by
  rw [List.flatMap_def]
  congr 1
  apply List.ext_getElem?
  intro i
  rw [List.getElem?_map]
  by_cases hi:i<xs.length
  ·have:(List.finRange xs.length)[i]?=some ⟨i,hi⟩:=by simp [hi]
   rw [this]
   simp [List.getD,hl,hi]
  ·rw [List.getElem?_eq_none (by simp;omega),List.getElem?_eq_none (by omega)];rfl
 have hflat:(flatK enc ti.ty.sz d).toList=Cs.flatten:=by rw [qEI hk hk0,hdl];exact fr_list Cs hCl
 have hown:=ho
 have hBB:gb∉Bss.flatten:=by
  have:=(List.nodup_append.1 hB).2.2
  exact fun hm=>this gb (by simp [Value.ownBlock]) gb hm rfl
 have hBn:Bss.flatten.Nodup:=(List.nodup_append.1 hB).2.1
 have hgl:gb<w.heap.size:=(Array.getElem?_eq_some_iff.1 hg).1
 have hH:HoldsK enc ti.ty.sz w gb 0 d:=fun j hj=>by
  rw [Sort.size_flatK,hds]at hj
  refine ⟨?_,by rw [Nat.zero_add];exact World.ownsRow.frozenAt hown j⟩
  rw [Nat.zero_add,World.ownsRow.cellAt hown j hj,←hflat,Array.getElem?_toList]
  rw [getElem!_pos _ j (by rw [Sort.size_flatK,hds];exact hj)]
  exact Array.getElem?_eq_getElem _
 have hbs: ∀(i:Fin xs.length),∀b∈Bss.getD i [],b≠gb∧b<w.heap.size:=fun i b hb=>⟨fun q=>hBB (by rw [←q];exact qn5 hb),qdS (hat i) b hb⟩
 have same: ∀(m:Nat) (dk:Array (Fin xs.length)) (os:Array Obj) (b:Nat),b≠gb→b<w.heap.size→(sortWorldK enc ti.ty.sz w gb 0 m dk os).heap[b]?=w.heap[b]?:=fun m dk os b hb hl=>by
  unfold sortWorldK
  rw [Sort.heap_grow_old _ _ (by simpa [putRowK] using hl)]
  exact qJD _ _ _ _ _ hb
 have hcmp:CmpLays P cmp #[] enc ti.ty.sz cf' gb 0 d.size w:=fun m os dk _ i j=>by
  have hK: ∀i:Fin xs.length,K (sortWorldK enc ti.ty.sz w gb 0 m dk os) (fun _=>True) ti.ty xs[i] (enc i):=fun i=>
   M_K (qcE (hat i) fun b hb=>same m dk os b (hbs i b hb).1 (hbs i b hb).2) fun _ _=>trivial
  have hv:VKs (sortWorldK enc ti.ty.sz w gb 0 m dk os) (fun _=>True) [ti,ti] (xs[i],(xs[j],())) (#[.agg (enc i).toArray,.agg (enc j).toArray]++ #[]:Array Value).toList:=
   ⟨_,_,enc i,rfl,hK i,by simp [qas,hag],_,_,enc j,rfl,hK j,by simp [qas,hag],rfl⟩
  refine Calls.mono (S.runs (xs[i],(xs[j],())) (hcp _ (List.getElem_mem _) _ (List.getElem_mem _)) _ (fun _=>True) _ hv fun _ _=>trivial) fun e' w' h=> ?_
  obtain ⟨us,rfl,hfr,hres⟩:=h
  have hus:us=[.int .i64 (cf' i j)]:=by
   cases dp with
   | true=>
     obtain ⟨B,⟨u1,rest,cs,B1,B2,rfl,rfl,hm,hw,hr,_⟩,_⟩:=hres
     obtain ⟨hcs',_⟩:=hm
     subst hcs'
     have hw:[Value.int .i64 (cf' i j)]=[u1]:=hw
     rw [hr,←(List.cons.inj hw).1]
   | false=>
     obtain ⟨u1,rest,cs,rfl,hm,hw,hr⟩:=hres
     have hm:cs=[Value.int .i64 (cf' i j)]:=hm
     subst hm
     have hw:[Value.int .i64 (cf' i j)]=[u1]:=hw
     have hr:rest=[]:=hr
     rw [hr,←(List.cons.inj hw).1]
  subst hus
  exact ⟨rfl,qGX hfr⟩
 have mem: ∀i:Fin xs.length,xs[i]∈xs:=fun i=>List.getElem_mem _
 have hO:SWO (ltOf cf'):=⟨fun i=>by simpa [ltOf,cf'] using hO1 _ (mem i),fun i j l h1 h2=>by
  simp only [ltOf,decide_eq_true_eq,cf']at*
  exact hO2 _ (mem i) _ (mem j) _ (mem l) h1 h2,fun i j l h1 h2=>by
  simp only [ltOf,decide_eq_false_iff_not,cf']at*
  exact hO3 _ (mem i) _ (mem j) _ (mem l) h1 h2⟩
 have hcon:=AnyQ.slices_SortFunc L ti.ty.sz aE zE enc hk h1 cf' hO cmp #[] gb 0 cap d w (qJf S.enters) hcmp hH hgl (by rw [hds];omega)
 rw [hds]at hcon
 refine Calls.mono hcon fun e' w' h=> ?_
 obtain ⟨rfl,d',n,os,hperm,hsort,rfl⟩:=h
 have hd's:d'.size=xs.length:=by rw [hperm.1,hds]
 have hpl:d'.toList.Perm (List.finRange xs.length):=by
  have:=hperm.2.2
  rw [qFg d' hd's,qFg d hds]at this
  exact this
 have hfv:fv xs=d'.toList.map fun i=>xs[i]:=by
  refine (huniq _ ?_ ?_).symm
  ·refine (hpl.map _).trans ?_
   have:(List.finRange xs.length).map (fun i=>xs[i])=xs:=by
        apply List.ext_getElem?
        intro i
        rw [List.getElem?_map]
        by_cases hi:i<xs.length
        ·have:(List.finRange xs.length)[i]?=some ⟨i,hi⟩:=by simp [hi]
         rw [this];simp [hi]
        ·rw [List.getElem?_eq_none (by simp;omega),List.getElem?_eq_none (by omega)];rfl
   rw [this]
  ·rw [List.pairwise_map,List.pairwise_iff_getElem]
   intro i j hi hj hij
   have hi':i<d'.size:=by simpa using hi
   have hj':j<d'.size:=by simpa using hj
   have:=hsort i j (Nat.zero_le _) hij (by rw [←hd's];exact hj')
   rw [getElem!_pos d' i hi',getElem!_pos d' j hj']at this
   simpa [ltOf,cf'] using this
 have hB':(d'.toList.flatMap fun i=>Bss.getD i.val []).Perm Bss.flatten:=by
  rw [←fr_list Bss hBl]
  exact hpl.flatMap_right _
 refine ⟨rfl,⟨rfl,rfl,rfl,?_,fun b hl hb=>same n d' os b (fun q=>hb (by simp [q,Value.ownBlock])) hl,Nat.le_add_right _ _⟩,gb::d'.toList.flatMap (fun i=>Bss.getD i.val []),?_,?_,fun b hb=> .inl ?_⟩
 ·unfold sortWorldK;rw [Sort.size_grow];simp [putRowK]
 ·show M _ (.slice e ti.ty) (fv xs) _ _
  rw [hfv]
  refine ⟨_,d'.toList.flatMap enc,_,rfl,rfl,?_,qEq fun i _=>qcE (hat i) fun b hb=>same n d' os b (hbs i b hb).1 (hbs i b hb).2⟩
  have hlen':(d'.toList.map fun i=>xs[i]).length=xs.length:=by simp [hd's]
  rw [hlen']
  have hfl:=qEI hk hk0 d'
  have hfs:(d'.toList.flatMap enc).length=xs.length*ti.ty.sz:=by
   rw [←hfl,Array.length_toList,Sort.size_flatK,hd's]
  refine ⟨hfs,.inr ⟨gb,cap,putCells id 0 (flatK enc ti.ty.sz d') cur,rfl,Nat.zero_le _,?_,hc,hcm,?_,?_⟩⟩
  ·unfold sortWorldK
   rw [Sort.heap_grow_old _ _ (by simpa [putRowK] using hgl)]
   exact qIO _ _ _ _ _ hg
  ·simp [putCells,hcs]
  ·have hle:xs.length*ti.ty.sz≤cur.size:=by rw [hcs];exact Nat.mul_le_mul_right _ hc
   rw [←hfl]
   apply List.ext_getElem?
   intro i
   rw [List.getElem?_take]
   split
   ·rename_i hi
    have hi2:i<(flatK enc ti.ty.sz d').size:=by rw [Sort.size_flatK,hd's];exact hi
    rw [Array.getElem?_toList,Array.getElem?_toList]
    simp only [putCells,Array.getElem?_mapIdx,Nat.zero_add,Nat.zero_le,true_and,hi2,if_true,Nat.sub_zero,id]
    rw [Array.getElem?_eq_getElem (by omega:i<cur.size),Array.getElem?_eq_getElem hi2]
    simp only [Option.map_some]
    rw [getElem!_pos _ i hi2]
   ·rename_i hi
    rw [Array.getElem?_toList,Array.getElem?_eq_none (by rw [Sort.size_flatK,hd's];omega)]
 ·refine List.nodup_cons.2 ⟨fun hm=>hBB (hB'.mem_iff.1 hm),hB'.nodup_iff.2 hBn⟩
 ·rcases List.mem_cons.1 hb with rfl | hb
  ·simp [Value.ownBlock]
  ·exact List.mem_append_right _ (hB'.mem_iff.1 hb)
end Go.T
