/- T: append of qd8 ('append(s, make(T, n)...)'): the translation hands the number itself. -/
import Derived.Test.YthefcjjgchekiaaGreatT11
import Derived.Lib.AppendZerosOnto
set_option linter.unusedSimpArgs false
set_option linter.unusedVariables false
namespace Go.T
open Go
section
variable {P : Program} {tt : TT} {o : Oper} {a : Act} {w0 w : World} {mine : Mine} {st : St} {next : Act → World → Prop} {Q : Exit → Act → World → Prop}
theorem q8c {z:Array Value} {t:Ty} (hz:z.toList=qav t) (n:Nat):(Builtin.zeroCells z n).toList=(List.replicate n (qav t)).flatten:=by
 have hzs:z.size=t.sz:=by have:=congrArg List.length hz;simpa [qcq] using this
 rw [←q2T hz n]
 apply List.ext_getElem?
 intro j
 simp [Builtin.zeroCells,madeCells,hzs]
theorem q9X (hT:qai P tt) {t tn ty e:Nat} {ti:TI} (ht:tt.get t=some ti) {te:Ty} (hag:ti.agg=false) (hty:ti.ty= .slice e te) {kn kq:IntKind} (htn:P.underlying tn=some (.int kn))
 {v:Value} {n k:Nat} {inner:List Value} (hown:w.ownsRow 0 e te.sz v n inner) (hlim:n+k≤1048576):
 ∃v' w',(Builtin.append_ #[t,tn] ty #[v,.int kq k]).run P w= .ok v' w'∧w'.ownsRow 0 e te.sz v' (n+k) (inner++(List.replicate k (qav te)).flatten)∧w.grownBy w' v.ownBlock∧(v'.ownBlock=v.ownBlock∨v'.ownBlock=some w.heap.size):=by
 have hti:=hT t ti ht
 obtain ⟨hu,tie,hte,htt⟩:=hti.slc hag e te hty
 obtain ⟨i,z,hi,hs,hz,hzc,hby⟩:=(hT e tie hte).info
 rw [htt]at hs hzc
 have hsz:0<te.sz:=te.sz_pos
 have hb:(n+k)*i.bytes≤1048576*65536:=Nat.mul_le_mul hlim hby
 have hkb:k*i.bytes≤(n+k)*i.bytes:=Nat.mul_le_mul_right _ (by omega)
 have hw:IntKind.i64.wrap (k:Int)=k:=by rw [IntKind.wrap_i64];omega
 have hneg: ¬((k:Int)<0):=by omega
 have h48i: ¬(281474976710656<(k:Int)*(i.bytes:Int)):=by
  rw [←Int.natCast_mul]
  omega
 have hzl: ∀n,(Builtin.zeroCells z.cells n).toList=(List.replicate n (qav te)).flatten:=q8c hzc
 have hzsz:z.cells.size=te.sz:=by have:=congrArg List.length hzc;simpa [qcq] using this
 have hrl:(List.replicate k (qav te)).flatten.length=k*te.sz:=by simp [qcq]
 have hlen:(inner++(List.replicate k (qav te)).flatten).length=(n+k)*te.sz:=by rw [List.length_append,hown.1,hrl,Nat.add_mul]
 have hmax:n+k≤maxLen:=by simp only [maxLen];omega
 -- what the growing arm leaves
 have grown: ∀(old:Nat),old<n+k→ ∀(row:Option Nat),
  (w.drew.alloc (.cells (inner.toArray++Builtin.zeroCells z.cells k++Builtin.zeroCells z.cells (grownCap w (n+k) old e - (n+k))) e)).ownsRow 0 e te.sz
        (.slice (some ⟨w.heap.size,0,none⟩) (n+k) (grownCap w (n+k) old e)) (n+k) (inner++(List.replicate k (qav te)).flatten)∧
  w.grownBy (w.drew.alloc (.cells (inner.toArray++Builtin.zeroCells z.cells k++Builtin.zeroCells z.cells (grownCap w (n+k) old e - (n+k))) e)) row:=by
  intro old ho row
  have hge:=grownCap_ge w (n+k) old e
  have hcm:grownCap w (n+k) old e≤maxLen:=grownCap_le_maxLen w (n+k) old e hmax
  refine ⟨⟨hlen,.inr ⟨w.heap.size,_,_,rfl,Nat.zero_le _,heap_alloc_new w.drew _,hge,hcm,?_,?_⟩⟩,⟨rfl,rfl,rfl,by simp,fun k hk _=>by first | exact heap_alloc_old w.drew _ k hk | exact heap_alloc_old w.drew _ hk⟩⟩
  ·simp only [Array.size_append,List.size_toArray,size_zeroCells,hzsz,hown.1,←Nat.add_mul]
   congr 1
   omega
  ·simp only [Array.toList_append,List.append_assoc,hzl]
   rw [←List.append_assoc,←hlen]
   exact List.take_left
 rcases hown.2 with ⟨rfl,rfl⟩ | ⟨g,cap,cur,rfl,hbg,hg,hnc,hcm,hcs,htake⟩
 ·have hx:inner=[]:=List.eq_nil_of_length_eq_zero (by simpa using hown.1)
  subst hx
  by_cases hm:k=0
  ·subst hm
   refine ⟨.slice none 0 0,w,?_,World.ownsRow_nil w 0 e te.sz,⟨rfl,rfl,rfl,Nat.le_refl _,fun _ _ _=>rfl⟩,Or.inl rfl⟩
   simp [Builtin.append_,run_underlying hu,run_underlying htn,sizeOf,typeInfo,hi,asInt,asIntOf,IntKind.wrap_i64]
  ·have hr:=Lib.run_append_nil_zeros (P:=P) w t tn ty e i z kq kn hu htn hi hz k (by omega) (by omega) (by omega) (by omega)
   have hgr:=grown 0 (by omega) (Value.ownBlock (.slice none 0 0))
   simp only [Nat.zero_add,List.nil_append,Array.empty_append]at hgr ⊢
   exact ⟨_,_,hr,hgr.1,hgr.2,Or.inr rfl⟩
 ·by_cases hroom:n+k≤cap
  ·have hfit:n*te.sz+(List.replicate k (qav te)).flatten.length≤cur.size:=by rw [hrl,hcs,←Nat.add_mul];exact Nat.mul_le_mul_right _ hroom
   have h1: ∀u∈(List.replicate k (qav te)).flatten,u.oneCell'=true:=fun u hu=>by
        obtain ⟨l,hl,hul⟩:=List.mem_flatten.1 hu
        obtain ⟨_,rfl⟩:=List.mem_replicate.1 hl
        exact qnX (qWA w fun _=>True) u hul
   have hst:=run_storeCells_at P g (n*te.sz) e (List.replicate k (qav te)).flatten 0 cur w hg (by simpa using hfit) h1
   simp only [Nat.add_zero]at hst
   have hr:(Builtin.append_ #[t,tn] ty #[.slice (some ⟨g,0,none⟩) n cap,.int kq k]).run P w=
    .ok (.slice (some ⟨g,0,none⟩) (n+k) cap) (w.setRow g (cur.toList.take (n*te.sz)++(List.replicate k (qav te)).flatten++cur.toList.drop (n*te.sz+(List.replicate k (qav te)).flatten.length)).toArray):=by
        by_cases hk:k=0
        ·subst hk
         simp at hst
         simp [Builtin.append_,run_underlying hu,run_underlying htn,sizeOf,typeInfo,hi,hs,asInt,asIntOf,IntKind.wrap_i64,hnc,Addr.add_lit,hst]
        ·have hns: ¬(k*te.sz=0):=Nat.mul_ne_zero hk (by omega)
         simp [Builtin.append_,run_underlying hu,run_underlying htn,sizeOf,typeInfo,zeroValue,hi,hz,hs,asInt,asIntOf,hw,hneg,hns,h48i,hroom,Addr.add_lit,hzl,hst]
   refine ⟨_,_,hr,⟨hlen,.inr ⟨g,cap,_,rfl,hbg,setRow_heap w g cur _ e _ hg,hroom,hcm,?_,?_⟩⟩,⟨rfl,rfl,rfl,by simp,fun k _ hk=>setRow_other w g k _ (fun e=>hk (by simp [Value.ownBlock,e]))⟩,Or.inl rfl⟩
   ·simp only [List.size_toArray,List.length_append,List.length_take,List.length_drop,Array.length_toList]
    omega
   ·rw [htake,←hlen]
    exact List.take_left
  ·have holds: ∀j u,inner[j]?=some u→w.cell? ((⟨g,0,none⟩:Addr).add j)=some u:=hown.cells (g:=g) rfl
   have hold:(Builtin.firstCells i.size n (.slice (some ⟨g,0,none⟩) n cap)).run P w.drew= .ok inner.toArray w.drew:=by
        have:=run_firstCells_some (P:=P) w.drew i.size n ⟨g,0,none⟩ n cap inner (by rw [hs];exact hown.1) holds
        simpa using this
   have hk:0<k:=by omega
   have hr:=Lib.run_append_grow_zeros (P:=P) w t tn ty e i z kq kn hu htn hi hz (some ⟨g,0,none⟩) n cap inner hold k hk (by omega) (by omega) (by omega) (by omega) (growslice_fits (by omega) (by omega))
   have hgr:=grown cap (by omega) (Value.ownBlock (.slice (some ⟨g,0,none⟩) n cap))
   exact ⟨_,_,hr,hgr.1,hgr.2,Or.inr rfl⟩
end
end Go.T
/- T: a slice that an element of an own row holds, taken out of it and put back: another value, another row. -/
namespace Go.T
open Go
def qZ:(t:Ty)→Nat→Val (hd t)→Value→Val (hd t)
 | .slice _ _,0,_,u=>u
 | .pair a b,f,h,u=>if f<a.sz then (qZ a f h.1 u,h.2)else (h.1,qZ b (f - a.sz) h.2 u)
 | _,_,h,_=>h
def fpH:(t:Ty)→Val (hd t)→List Nat
 | .slice _ _,u=>(Value.ownBlock u).toList
 | .pair a b,h=>fpH a h.1++fpH b h.2
 | _,_=>[]
def qsV (t:Ty) (hs:List (Val (hd t))):List Nat:=(hs.map (fpH t)).flatten
def Ty.flat2:Ty→Bool
 | .slice _ t=>t.flat
 | .pair a b=>a.flat2&&b.flat2
 | _=>true
theorem qPK: ∀{t:Ty} {f:Nat} {h:Val (hd t)} {u u':Value},q6 t f h=some u→q6 t f (qZ t f h u')=some u'
 | .int _,_,_,_,_,hh=>by simp [q6]at hh
 | .bool,_,_,_,_,hh=>by simp [q6]at hh
 | .str,_,_,_,_,hh=>by simp [q6]at hh
 | .hdr,_,_,_,_,hh=>by simp [q6]at hh
 | .slice _ _,f,h,u,u',hh=>by
   cases f with
   | succ f=>simp [q6]at hh
   | zero=>simp [q6,qZ]
 | .pair a b,f,h,u,u',hh=>by
   simp only [q6]at hh
   by_cases hf:f<a.sz
   ·rw [if_pos hf]at hh
    simp only [q6,qZ,if_pos hf]
    exact qPK hh
   ·rw [if_neg hf]at hh
    simp only [q6,qZ,if_neg hf]
    exact qPK hh
theorem qHs: ∀{t:Ty} {f:Nat} {h:Val (hd t)} {u u':Value},qZ t f (qZ t f h u) u'=qZ t f h u'
 | .int _,_,_,_,_ | .bool,_,_,_,_ | .str,_,_,_,_ | .hdr,_,_,_,_=>rfl
 | .slice _ _,f,_,_,_=>by cases f<;>rfl
 | .pair a b,f,h,u,u'=>by
   by_cases hf:f<a.sz
   ·simp only [qZ,if_pos hf,qHs]
   ·simp only [qZ,if_neg hf,qHs]
theorem qZZ: ∀{t:Ty} {f:Nat} {h:Val (hd t)} {u:Value},q6 t f h=some u→f<t.sz
 | .int _,_,_,_,hh=>by simp [q6]at hh
 | .bool,_,_,_,hh=>by simp [q6]at hh
 | .str,_,_,_,hh=>by simp [q6]at hh
 | .hdr,_,_,_,hh=>by simp [q6]at hh
 | .slice _ _,f,h,u,hh=>by
   cases f with
   | succ f=>simp [q6]at hh
   | zero=>simp [Ty.sz]
 | .pair a b,f,h,u,hh=>by
   simp only [q6]at hh
   simp only [Ty.sz]
   by_cases hf:f<a.sz
   ·omega
   ·rw [if_neg hf]at hh
    have:=qZZ hh
    omega
theorem qXi {w:World}: ∀{t:Ty} {v:Val t} {cs:List Value} {B:List Nat},t.flat=true→M w t v cs B→B=[]
 | .int _,_,_,_,_,h=>h.2
 | .bool,_,_,_,_,h=>h.2
 | .str,_,_,_,_,h=>h.2
 | .hdr,_,_,_,_,h=>h.2
 | .slice _ _,_,_,_,hf,_=>by simp [Ty.flat]at hf
 | .pair a b,v,cs,B,hf,h=>by
   simp only [Ty.flat,Bool.and_eq_true]at hf
   obtain ⟨_,_,B1,B2,_,rfl,h1,h2⟩:=h
   rw [qXi hf.1 h1,qXi hf.2 h2];rfl
theorem qO8 {w:World} {t:Ty} (hf:t.flat=true): ∀{xs:List (Val t)} {cs:List Value} {B:List Nat},Ms (M w t) xs cs B→B=[]
 | [],_,_,h=>h.2
 | _::_,_,_,h=>by
   obtain ⟨_,_,B1,B2,_,rfl,h1,h2⟩:=h
   rw [qXi hf h1,qO8 hf h2];rfl
theorem qIY {w:World}: ∀{t:Ty} {v:Val t} {h:Val (hd t)} {B:List Nat},t.flat2=true→Nst w t v h B→B=fpH t h
 | .int _,_,_,_,_,h=>h
 | .bool,_,_,_,_,h=>h
 | .str,_,_,_,_,h=>h
 | .hdr,_,_,_,_,h=>h
 | .slice _ _,_,u,B,hf,hn=>by
   obtain ⟨u',inner,Bs,hu,rfl,ho,hm⟩:=hn
   obtain rfl:u=u':=by simpa using hu
   rw [qO8 hf hm,List.append_nil];rfl
 | .pair a b,v,h,B,hf,hn=>by
   simp only [Ty.flat2,Bool.and_eq_true]at hf
   obtain ⟨B1,B2,rfl,h1,h2⟩:=hn
   rw [qIY hf.1 h1,qIY hf.2 h2];rfl
theorem q0G {w:World} {t:Ty} (hf:t.flat2=true): ∀{vs:List (Val t)} {hs:List (Val (hd t))} {B:List Nat},qaN w t vs hs B→B=qsV t hs
 | [],[],_,hn=>hn
 | [],_::_,_,hn=>hn.elim
 | _::_,[],_,hn=>hn.elim
 | _::_,_::_,_,hn=>by
   obtain ⟨B1,B2,rfl,h1,h2⟩:=hn
   rw [qIY hf h1,q0G hf h2];rfl
theorem qXy {e':Nat} {t':Ty} {w:World}: ∀{t:Ty} {f:Nat} {v:Val t} {h:Val (hd t)} {B:List Nat} {u:Value} {x:List (Val t')},Nst w t v h B→q6 t f h=some u→qce e' t' t f v=some x→
 ∃B1 Bc B2,B=B1++(Bc++B2)∧M w (.slice e' t') x [u] Bc∧ ∀(w':World) (y:List (Val t')) (u':Value) (Bn:List Nat),(∀b,b∈B1∨b∈B2→w'.heap[b]?=w.heap[b]?)→M w' (.slice e' t') y [u'] Bn→Nst w' t (qax e' t' t f v y) (qZ t f h u') (B1++(Bn++B2))
 | .int _,_,_,_,_,_,_,_,hh,_=>by simp [q6]at hh
 | .bool,_,_,_,_,_,_,_,hh,_=>by simp [q6]at hh
 | .str,_,_,_,_,_,_,_,hh,_=>by simp [q6]at hh
 | .hdr,_,_,_,_,_,_,_,hh,_=>by simp [q6]at hh
 | .slice e t,f,v,h,B,u,x,hn,hh,hs=>by
   cases f with
   | succ f=>simp [q6]at hh
   | zero=>
     have hh:(h:Value)=u:=Option.some.inj hh
     subst hh
     simp only [qce]at hs
     split at hs
     ·rename_i he
      obtain ⟨rfl,rfl⟩:=he
      cases hs
      exact ⟨[],B,[],by simp,hn,fun w' y u' Bn _ hm=>by simp [qax,qZ];exact hm⟩
     ·simp at hs
 | .pair a b,f,v,h,B,u,x,hn,hh,hs=>by
   obtain ⟨Ba,Bb,rfl,h1,h2⟩:=hn
   simp only [q6]at hh
   simp only [qce]at hs
   by_cases hf:f<a.sz
   ·rw [if_pos hf]at hh hs
    obtain ⟨B1,Bc,B2,rfl,hm,hk⟩:=qXy h1 hh hs
    refine ⟨B1,Bc,B2++Bb,by simp,hm,fun w' y u' Bn hw hm'=> ?_⟩
    refine ⟨B1++(Bn++B2),Bb,by simp,?_,?_⟩
    ·simp only [qax,qZ,if_pos hf]
     exact hk w' y u' Bn (fun b hb=>hw b (by rcases hb with hb | hb<;>simp [hb])) hm'
    ·simp only [qax,qZ,if_pos hf]
     exact qhi h2 fun b hb=>hw b (by simp [hb])
   ·rw [if_neg hf]at hh hs
    obtain ⟨B1,Bc,B2,rfl,hm,hk⟩:=qXy h2 hh hs
    refine ⟨Ba++B1,Bc,B2,by simp,hm,fun w' y u' Bn hw hm'=> ?_⟩
    refine ⟨Ba,B1++(Bn++B2),by simp,?_,?_⟩
    ·simp only [qax,qZ,if_neg hf]
     exact qhi h1 fun b hb=>hw b (by simp [hb])
    ·simp only [qax,qZ,if_neg hf]
     exact hk w' y u' Bn (fun b hb=>hw b (by rcases hb with hb | hb<;>simp [hb])) hm'
theorem qKd {e':Nat} {t':Ty} {w:World} {t:Ty} {f:Nat} {u:Value} {x:List (Val t')}: ∀{vs:List (Val t)} {hs:List (Val (hd t))} {B:List Nat} {i:Nat} {v:Val t} {h:Val (hd t)},qaN w t vs hs B→vs[i]?=some v→hs[i]?=some h→q6 t f h=some u→qce e' t' t f v=some x→
 ∃B1 Bc B2,B=B1++(Bc++B2)∧M w (.slice e' t') x [u] Bc∧ ∀(w':World) (y:List (Val t')) (u':Value) (Bn:List Nat),(∀b,b∈B1∨b∈B2→w'.heap[b]?=w.heap[b]?)→M w' (.slice e' t') y [u'] Bn→qaN w' t (vs.set i (qax e' t' t f v y)) (hs.set i (qZ t f h u')) (B1++(Bn++B2))
 | [],_,_,_,_,_,_,hv,_,_,_=>by simp at hv
 | _::_,[],_,_,_,_,hn,_,_,_,_=>hn.elim
 | v0::vs,h0::hs,B,i,v,h,hn,hv,hh,hu,hx=>by
   obtain ⟨Ba,Bb,rfl,h1,h2⟩:=hn
   cases i with
   | zero=>
     simp at hv hh
     subst hv;subst hh
     obtain ⟨B1,Bc,B2,rfl,hm,hk⟩:=qXy h1 hu hx
     exact ⟨B1,Bc,B2++Bb,by simp,hm,fun w' y u' Bn hw hm'=>⟨B1++(Bn++B2),Bb,by simp,hk w' y u' Bn (fun b hb=>hw b (by rcases hb with hb | hb<;>simp [hb])) hm',qrg h2 fun b hb=>hw b (by simp [hb])⟩⟩
   | succ i=>
     obtain ⟨B1,Bc,B2,rfl,hm,hk⟩:=qKd h2 (by simpa using hv) (by simpa using hh) hu hx
     exact ⟨Ba++B1,Bc,B2,by simp,hm,fun w' y u' Bn hw hm'=>⟨Ba,B1++(Bn++B2),by simp,qhi h1 fun b hb=>hw b (by simp [hb]),hk w' y u' Bn (fun b hb=>hw b (by rcases hb with hb | hb<;>simp [hb])) hm'⟩⟩
section
variable {P : Program} {w0 w w' : World} {mine : Mine} {m m' : Mp} {h : List Blk} {st : St} {a : Act} {o : Oper} {next : Act → World → Prop} {Q : Exit → Act → World → Prop}
theorem HR.take (H:HR w0 mine w m h) {j:Nat} {F:List Nat} {t:Ty} {hs:List (Val (hd t))} {vs:List (Val t)} (hj:h[j]?=some (.nst F t hs vs)) {e':Nat} {t':Ty} {f i:Nat} {v:Val t} {hh:Val (hd t)} {u:Value} {x:List (Val t')}
 (hv:vs[i]?=some v) (hhh:hs[i]?=some hh) (hu:q6 t f hh=some u) (hx:qce e' t' t f v=some x) (hf2:t.flat2=true):
 ∃m',m'.val h.length=u∧HR w0 mine w m' (h.set j (.nst (qsV t (hs.set i (qZ t f hh (.slice none 0 0)))) t (hs.set i (qZ t f hh (.slice none 0 0))) (vs.set i (qax e' t' t f v [])))++[.row e' t' x true true h.length])∧
  Oks w w m m' h (h.set j (.nst (qsV t (hs.set i (qZ t f hh (.slice none 0 0)))) t (hs.set i (qZ t f hh (.slice none 0 0))) (vs.set i (qax e' t' t f v [])))++[.row e' t' x true true h.length])∧
  qal m m' h (h.set j (.nst (qsV t (hs.set i (qZ t f hh (.slice none 0 0)))) t (hs.set i (qZ t f hh (.slice none 0 0))) (vs.set i (qax e' t' t f v [])))++[.row e' t' x true true h.length]):=by
 have hN:qaN w t vs hs F:=H.br j _ hj
 have hjl:=(List.getElem?_eq_some_iff.1 hj).1
 obtain ⟨B1,Bc,B2,hF,hM,hk⟩:=qKd hN hv hhh hu hx
 have hN':=hk w [] (.slice none 0 0) [] (fun _ _=>rfl) ⟨.slice none 0 0,[],[],rfl,by simp [Value.ownBlock],World.ownsRow_nil w 0 e' t'.sz,rfl,rfl⟩
 have hF':=q0G hf2 hN'
 rw [←hF']
 generalize hhs':hs.set i (qZ t f hh (.slice none 0 0))=hs' at*
 generalize hvs':vs.set i (qax e' t' t f v [])=vs' at*
 simp only [List.nil_append]at hN' ⊢
 obtain ⟨u',inner,Bs,hu',rfl,hown,hms⟩:=hM
 obtain rfl:u=u':=by simpa using hu'
 refine ⟨m.row h.length u Bs,by simp [Mp.row],?_⟩
 have get: ∀i y,(h.set j (.nst (B1++B2) t hs' vs')++[.row e' t' x true true h.length])[i]?=some y→(i=j∧y= .nst (B1++B2) t hs' vs')∨(i=h.length∧y= .row e' t' x true true h.length)∨(i≠j∧i<h.length∧h[i]?=some y):=fun i y hy=>by
  by_cases hl:i<h.length
  ·rw [List.getElem?_append_left (by simpa using hl),List.getElem?_set]at hy
   split at hy
   ·rename_i q;subst q;simp [hl]at hy;exact .inl ⟨rfl,hy.symm⟩
   ·rename_i q;exact .inr (.inr ⟨fun z=>q z.symm,hl,hy⟩)
  ·rw [List.getElem?_append_right (by simp;omega)]at hy
   rw [List.length_set]at hy
   have:i - h.length=0:=by
        rcases Nat.eq_zero_or_pos (i - h.length)with h0 | h0
        ·exact h0
        ·rw [List.getElem?_eq_none (by simp;omega)]at hy;simp at hy
   rw [this]at hy
   simp at hy
   exact .inr (.inl ⟨by omega,hy.symm⟩)
 have hsub: ∀b,b∈B1++B2→b∈F:=fun b hb=>by rw [hF];rcases List.mem_append.1 hb with hb | hb<;>simp [hb]
 have hsubc: ∀b,b∈u.ownBlock.toList++Bs→b∈F:=fun b hb=>by rw [hF];exact List.mem_append_right _ (List.mem_append_left _ hb)
 have hFn:F.Nodup:=H.nd j _ hj
 have hFn':=hFn;rw [hF]at hFn'
 have n1:=List.nodup_append.1 hFn'
 have n2:=List.nodup_append.1 n1.2.1
 have hdisj: ∀b,b∈u.ownBlock.toList++Bs→b∉B1++B2:=fun b hb hm=>by
  rcases List.mem_append.1 hm with hm | hm
  ·exact n1.2.2 b hm b (List.mem_append_left _ hb) rfl
  ·exact n2.2.2 b hb b hm rfl
 have fpn:fpB (m.row h.length u Bs) h.length (.row e' t' x true true h.length)=u.ownBlock.toList++Bs:=by simp [fpB,Mp.row]
 have fpo: ∀i y,i<h.length→fpB (m.row h.length u Bs) i y=fpB m i y:=fun i y hi=>by
  have:i≠h.length:=by omega
  cases y<;>simp [fpB,Mp.row,this]
 have okn: ∀n b i y,i<h.length→(okB (m.row h.length u Bs) n b i y↔okB m n b i y):=fun n b i y hi=>by
  have:i≠h.length:=by omega
  cases y<;>simp [okB,Mp.row,this]
 have hok:Oks w w m (m.row h.length u Bs) h (h.set j (.nst (B1++B2) t hs' vs')++[.row e' t' x true true h.length]):=fun n b hb _=>⟨rfl,hb.1,fun i y hy=>by
  have hbF:b∉F:=hb.2 j _ hj
  rcases get i y hy with ⟨rfl,rfl⟩ | ⟨rfl,rfl⟩ | ⟨hi,hil,hy'⟩
  ·exact fun hm=>hbF (hsub b hm)
  ·refine ⟨fun _ q=> ?_,fun _ _ q=> ?_⟩
   ·have q:u.ownBlock=some b:=by simpa [Mp.row] using q
    exact hbF (hsubc b (List.mem_append_left _ (by simp [q])))
   ·have q:b∈Bs:=by simpa [Mp.row] using q
    exact hbF (hsubc b (List.mem_append_right _ q))
  ·exact (okn n b i y hil).2 (hb.2 i y hy')⟩
 have hsm:qal m (m.row h.length u Bs) h (h.set j (.nst (B1++B2) t hs' vs')++[.row e' t' x true true h.length]):=fun i x0 hx0=>by
  have hil:i<h.length:=(List.getElem?_eq_some_iff.1 hx0).1
  have hne:i≠h.length:=by omega
  by_cases q:i=j
  ·subst q
   rw [hj]at hx0;cases hx0
   exact ⟨.nst (B1++B2) t hs' vs',by rw [List.getElem?_append_left (by simpa using hil),List.getElem?_set_self hil],trivial⟩
  ·refine ⟨x0,by rw [List.getElem?_append_left (by simpa using hil),List.getElem?_set_ne (fun z=>q z.symm)];exact hx0,?_⟩
   cases x0<;>simp [Sim,Mp.row,hne]
 refine ⟨⟨fun i y hy=> ?_,fun i y hy=> ?_,fun i y i' y' hne hy hy' b hb1 hb2=> ?_,fun i y hy b hb1=> ?_,H.fr,H.mx,H.nx,fun i v hpv=> ?_⟩,hok,hsm⟩
 ·rcases get i y hy with ⟨rfl,rfl⟩ | ⟨rfl,rfl⟩ | ⟨hi,hil,hy'⟩
  ·exact hN'
  ·exact ⟨inner,by simpa [Mp.row] using hown,by simpa [Mp.row] using hms,Nat.le_refl _⟩
  ·have hne:i≠h.length:=by omega
   exact qd6 hok hsm (by simp [Mp.row,hne]) rfl (by simp [Mp.row,hne]) (fun _ _=>rfl) (H.br i y hy')
 ·rcases get i y hy with ⟨rfl,rfl⟩ | ⟨rfl,rfl⟩ | ⟨hi,hil,hy'⟩
  ·show (B1++B2).Nodup
   exact List.nodup_append.2 ⟨n1.1,n2.2.1,fun b hb c hc q=>n1.2.2 b hb c (List.mem_append_right _ hc) q⟩
  ·rw [fpn];exact n2.1
  ·rw [fpo i y hil];exact H.nd i y hy'
 ·rcases get i y hy with ⟨rfl,rfl⟩ | ⟨rfl,rfl⟩ | ⟨hi,hil,hy1⟩
  ·rcases get i' y' hy' with ⟨rfl,rfl⟩ | ⟨rfl,rfl⟩ | ⟨hi',hil',hy2⟩
   ·exact hne rfl
   ·rw [fpn]at hb2;exact hdisj b hb2 hb1
   ·rw [fpo i' y' hil']at hb2
    exact H.dj i _ i' y' hne hj hy2 b (hsub b hb1) hb2
  ·rw [fpn]at hb1
   rcases get i' y' hy' with ⟨rfl,rfl⟩ | ⟨rfl,rfl⟩ | ⟨hi',hil',hy2⟩
   ·exact hdisj b hb1 hb2
   ·exact hne rfl
   ·rw [fpo i' y' hil']at hb2
    exact H.dj j _ i' y' (fun q=>hi' q.symm) hj hy2 b (hsubc b hb1) hb2
  ·rw [fpo i y hil]at hb1
   rcases get i' y' hy' with ⟨rfl,rfl⟩ | ⟨rfl,rfl⟩ | ⟨hi',hil',hy2⟩
   ·exact H.dj i y i' _ hne hy1 hj b hb1 (hsub b hb2)
   ·rw [fpn]at hb2
    exact H.dj i y j _ hi hy1 hj b hb1 (hsubc b hb2)
   ·rw [fpo i' y' hil']at hb2
    exact H.dj i y i' y' hne hy1 hy2 b hb1 hb2
 ·rcases get i y hy with ⟨rfl,rfl⟩ | ⟨rfl,rfl⟩ | ⟨hi,hil,hy1⟩
  ·exact H.lt i _ hj b (hsub b hb1)
  ·rw [fpn]at hb1;exact H.lt j _ hj b (hsubc b hb1)
  ·rw [fpo i y hil]at hb1;exact H.lt i y hy1 b hb1
 ·obtain ⟨h1,h2,h3⟩:=H.pn i v hpv
  have hne:i≠h.length:=by omega
  exact ⟨by simp;omega,by simpa [Mp.row,hne] using h2,h3⟩
end
end Go.T
/- T: 'x.F[i].G = append(x.F[i].G, make(T, n)...)': the append of a slice that a named row's element holds; the store that puts it back and tells the row's elements again. -/
namespace Go.T
open Go
section
variable {P : Program} {tt : TT} {w0 w w' : World} {mine : Mine} {m m' : Mp} {h : List Blk} {st : St} {a : Act} {o : Oper} {next : Act → World → Prop} {Q : Exit → Act → World → Prop}
def qii (e:Nat) (te t:Ty) (f i:Nat) (hs:List (Val (hd t))) (vs:List (Val t)):Blk:=
 .nst (qsV t (hs.set i (qZ t f (hs.getD i (qb (hd t))) (.slice none 0 0)))) t (hs.set i (qZ t f (hs.getD i (qb (hd t))) (.slice none 0 0))) (vs.set i (qax e te t f (vs.getD i (qb t)) []))
def qB6 (tt:TT) (jn f t tn:Nat) (i x y:LV) (d:Option Tmp) (st:St):Res:=match tt.get t,tt.get tn with
 | some ti,some tj=>match ti.agg,ti.ty,tj.agg,tj.ty with
   | false,.slice e te,false,.int _=>match i,x,y,st.heap[jn]? with
     | .one (.int _ i),.one (.hdr u),.one (.int _ n),some (.nst _ t0 hs vs)=>
       match qce e te t0 f (vs.getD i.toNat (qb t0)),q6 t0 f (hs.getD i.toNat (qb (hd t0)))with
       | some xs,some u'=>if t0.flat2=true∧te.flat=true then
           some (i.toNat<vs.length∧i.toNat<hs.length∧u'=u∧0≤n∧xs.length+n.toNat≤1048576,
             {(st.put d (.one (.own (st.heap.length+1))))with heap:=newRow (st.heap.set jn (qii e te t0 f i.toNat hs vs)++[.row e te xs true true st.heap.length]) e te (xs++List.replicate n.toNat (qb te)) true [st.heap.length]})
         else none
       | _,_=>none
     | _,_,_,_=>none
   | _,_,_,_=>none
 | _,_=>none
theorem zbP (hT:qai P tt) {c:Call} {jn f t tn:Nat} {ix x y:Operand} (ho:o.op= .call c) (hc:c.callee= .builtin .append) (ha:c.args= #[x,y]) (hat:c.argTypes= #[t,tn]) {p:Prop} {st':St}
 (hs:qB6 tt jn f t tn (st.ev ix) (st.ev x) (st.ev y) o.dst st=some (p,st')) (hp:p) (hr:R w0 mine st a w) (hn: ∀a' w',R w0 mine st' a' w'→next a' w'):o.wp P a w next Q:=by
 obtain ⟨hd',m,H,he⟩:=hr
 have hx:=R.ev H he x
 have hy:=R.ev H he y
 unfold qB6 at hs
 split at hs
 ·rename_i ti tj ht htn
  split at hs
  ·rename_i e te kn hag hty hag2 hty2
   split at hs
   ·rename_i k i u kq n F t0 hs0 vs ei ex ey hj
    rw [ex]at hx
    rw [ey]at hy
    have hxv:a.eval x=u:=hx.1
    have hyv:a.eval y= .int kq n:=hy
    split at hs
    ·rename_i xs u' hgs hgh
     split at hs
     ·rename_i hfl
      cases hs
      obtain ⟨hl1,hl2,rfl,hn0,hlim⟩:=hp
      have hv:vs[i.toNat]?=some (vs.getD i.toNat (qb t0)):=by simp [List.getD,hl1]
      have hh:hs0[i.toNat]?=some (hs0.getD i.toNat (qb (Go.T.hd t0))):=by simp [List.getD,hl2]
      obtain ⟨m1,hm1,H1,hok1,hsm1⟩:=H.take hj hv hh hgh hgs hfl.1
      have he1:=qaV hok1 hsm1 he
      have hnk:(n.toNat:Int)=n:=Int.toNat_of_nonneg hn0
      have hget:(st.heap.set jn (qii e te t0 f i.toNat hs0 vs)++[.row e te xs true true st.heap.length])[st.heap.length]?=some (.row e te xs true true st.heap.length):=by
       rw [List.getElem?_append_right (by simp)];simp
      have hdst:qiD (st.heap.set jn (qii e te t0 f i.toNat hs0 vs)++[.row e te xs true true st.heap.length]) e te (.one (.own st.heap.length))=some (xs,true,[st.heap.length]):=by
       simp only [qiD,hget];simp
      obtain ⟨inner,B,hown,p1,hs1,htop⟩:=q0L (st:=⟨st.env,st.heap.set jn (qii e te t0 f i.toNat hs0 vs)++[.row e te xs true true st.heap.length]⟩) H1 (x:= .one (.own st.heap.length)) (v:=u')
       (by simp only [V,C,hget];exact hm1.symm) hdst
      obtain ⟨v',w',hrun,hown',hg,hv'⟩:=q9X (ty:=o.type) (kq:=kq) hT ht hag hty ((hT tn tj htn).int hag2 _ hty2) hown (k:=n.toNat) hlim
      have pz:Part w m1 (st.heap.set jn (qii e te t0 f i.toNat hs0 vs)++[.row e te xs true true st.heap.length]) te (List.replicate n.toNat (qb te)) true ((List.replicate n.toNat (qav te)).flatten) []:=
       ⟨fun _=>qz1 (qss w) _,fun ok _ h2=>(qz1 (qss w) _).toKs fun x c b hb hm=>M_K hm fun k hk=>h2 k (hb k hk)⟩
      refine qeb (v:=v') (w':=w') ?_ (q1T (st:=⟨st.env,st.heap.set jn (qii e te t0 f i.toNat hs0 vs)++[.row e te xs true true st.heap.length]⟩) (o:=o) hd' H1 he1 p1 pz hs1 (fun _=>List.nil_sublist _) (fun _=>rfl) (by simp) htop (by rw [List.length_replicate];exact hown') hg (qYD _ _ _ hrun) hv' ?_)
      ·simp only [execOp,ho,resolve,hc,ha,hat,invoke,builtin,Sem.run_bind,Sem.run_pure,Result.andThen_ok,List.map_toArray,List.map_cons,List.map_nil,hxv,hyv]
       rw [←hnk,hrun]
       rfl
      ·intro a' w'' hr'
       refine hn a' w'' ?_
       simp only [hfl.2,Bool.true_or,List.append_nil,List.length_append,List.length_set,List.length_singleton]at hr'
       have: ∀d:Option Tmp,(St.put ⟨st.env,st.heap.set jn (qii e te t0 f i.toNat hs0 vs)++[.row e te xs true true st.heap.length]⟩ d (.one (.own (st.heap.length+1)))).env=(st.put d (.one (.own (st.heap.length+1)))).env:=fun d=>by cases d<;>rfl
       rw [this]at hr'
       exact hr'
     ·simp at hs
    ·simp at hs
   ·simp at hs
  ·simp at hs
 ·simp at hs
theorem qUV: ∀{t:Ty} {f:Nat} {x:Val (hd t)} {cs:List Value} {B:List Nat} {u0 u:Value},M w (hd t) x cs B→q6 t f x=some u0→u.oneCell'=true→M w (hd t) (qZ t f x u) (cs.set f u) B
 | .int _,_,_,_,_,_,_,_,hh,_=>by simp [q6]at hh
 | .bool,_,_,_,_,_,_,_,hh,_=>by simp [q6]at hh
 | .str,_,_,_,_,_,_,_,hh,_=>by simp [q6]at hh
 | .hdr,_,_,_,_,_,_,_,hh,_=>by simp [q6]at hh
 | .slice _ _,f,x,cs,B,u0,u,hm,hh,h1=>by
   cases f with
   | succ f=>simp [q6]at hh
   | zero=>
     obtain ⟨⟨rfl,_⟩,hB⟩:=hm
     exact ⟨⟨rfl,h1⟩,hB⟩
 | .pair a b,f,x,cs,B,u0,u,hm,hh,h1=>by
   obtain ⟨c1,c2,B1,B2,rfl,rfl,m1,m2⟩:=hm
   have hl:c1.length=a.sz:=by rw [qgq m1,qdg]
   simp only [q6]at hh
   by_cases hf:f<a.sz
   ·rw [if_pos hf]at hh
    simp only [qZ,if_pos hf]
    exact ⟨c1.set f u,c2,B1,B2,by rw [List.set_append_left _ _ (by omega)],rfl,qUV m1 hh h1,m2⟩
   ·rw [if_neg hf]at hh
    simp only [qZ,if_neg hf]
    exact ⟨c1,c2.set (f - a.sz) u,B1,B2,by rw [List.set_append_right _ _ (by omega),hl],rfl,m1,qUV m2 hh h1⟩
theorem HR.setHd (H:HR w0 mine w m h) {id e n:Nat} {t:Ty} {xs:List (Val (hd t))} (hb:h[id]?=some (.row e (hd t) xs true true n)) {i f:Nat} (hi:i<xs.length) {u0 u:Value} (hu0:q6 t f (xs.getD i (qb (hd t)))=some u0) (hu1:u.oneCell'=true):
 ∃g cur,(m.val id).ownBlock=some g∧w.heap[g]?=some (.cells cur e (0,0))∧i*t.sz+f+1≤cur.size∧
  HR w0 mine (w.setRow g (cur.toList.take (i*t.sz+f)++[u]++cur.toList.drop (i*t.sz+f+1)).toArray) m (h.set id (.row e (hd t) (xs.set i (qZ t f (xs.getD i (qb (hd t))) u)) true true n))∧
  Oks w (w.setRow g (cur.toList.take (i*t.sz+f)++[u]++cur.toList.drop (i*t.sz+f+1)).toArray) m m h (h.set id (.row e (hd t) (xs.set i (qZ t f (xs.getD i (qb (hd t))) u)) true true n))∧
  qal m m h (h.set id (.row e (hd t) (xs.set i (qZ t f (xs.getD i (qb (hd t))) u)) true true n)):=by
 obtain ⟨inner,hown,hin⟩:=H.br id _ hb
 obtain ⟨g,cap,cur,hval,hob,hg,hsz,htk⟩:=qQM hown hi
 have hel:xs[i]?=some (xs.getD i (qb (hd t))):=by simp [List.getD,List.getElem?_eq_getElem hi]
 have hflt:f<(hd t).sz:=by rw [qdg];exact qZZ hu0
 have hfit:=qCA (sz:=(hd t).sz) hi
 have hil:=qLb hown
 rw [←qdg t]
 refine ⟨g,cur,hob,hg,by omega,?_⟩
 rw [hval]at hown
 have hown':=qJd hown hg (i*(hd t).sz+f) [u] (by simp;omega)
 rw [←hval]at hown'
 simp only [List.length_singleton]at hown'
 rw [qYt (l:=inner) (by omega),qY3 hi hil hflt]at hown'
 exact H.write (w':=w.setRow g (cur.toList.take (i*(hd t).sz+f)++[u]++cur.toList.drop (i*(hd t).sz+f+1)).toArray) (m':=m) (qao.refl h) hb (x':= .row e (hd t) (xs.set i (qZ t f (xs.getD i (qb (hd t))) u)) true true n) rfl rfl (fun _ _=>rfl) rfl (by simp [Sim]) (fun b hb'=> .inl hb') (H.nd id _ hb:(fpB m id (.row e (hd t) xs true true n)).Nodup)
  (fun n' b hk hlt=>(hk.2 id _ hb:okB m n' b id (.row e (hd t) xs true true n))) (g:=g) (by simp [fpB,hob]) (qzj w _ _ _ rfl) (fun n' b hk he=>by
    have:=(hk.2 id _ hb).1 (.inl rfl)
    rw [hob,he]at this
    exact this rfl) (fun hok hs'=>by
    refine ⟨_,by rw [List.length_set];exact hown',?_⟩
    simp only at hin ⊢
    refine ⟨?_,hin.2⟩
    obtain ⟨B1,b,B2,hB,hM,hset⟩:=qYe (fun x c b hm=>qgq hm) hin.1 hel
    have:=hset _ _ b (qUV hM hu0 hu1)
    rw [←hB]at this
    refine this.imp fun x c b hbs hm=>qcH hm fun k hk=>setRow_other w g k _ fun e=> ?_
    exact qAW H hb hob (e▸hbs k hk))
theorem HR.give (H:HR w0 mine w m h) {j:Nat} {F:List Nat} {t:Ty} {hs:List (Val (hd t))} {vs:List (Val t)} (hj:h[j]?=some (.nst F t hs vs)) {e':Nat} {t':Ty} {f i:Nat} {v:Val t} {hh:Val (hd t)} {x ys:List (Val t')} {id n:Nat}
 (hv:vs[i]?=some v) (hhh:hs[i]?=some hh) (hu:q6 t f hh=some (.slice none 0 0)) (hx:qce e' t' t f v=some x) (hb:h[id]?=some (.row e' t' ys true true n)) (hft:t'.flat=true):
 ∃F',HR w0 mine w m ((h.set id .dead).set j (.nst F' t (hs.set i (qZ t f hh (m.val id))) (vs.set i (qax e' t' t f v ys))))∧
  Oks w w m m h ((h.set id .dead).set j (.nst F' t (hs.set i (qZ t f hh (m.val id))) (vs.set i (qax e' t' t f v ys))))∧qal m m h ((h.set id .dead).set j (.nst F' t (hs.set i (qZ t f hh (m.val id))) (vs.set i (qax e' t' t f v ys)))):=by
 have hN:qaN w t vs hs F:=H.br j _ hj
 have hjl:=(List.getElem?_eq_some_iff.1 hj).1
 have hil:=(List.getElem?_eq_some_iff.1 hb).1
 have hij:id≠j:=fun q=>by subst q;rw [hj]at hb;simp at hb
 obtain ⟨B1,Bc,B2,hF,hM,hk⟩:=qKd hN hv hhh hu hx
 obtain ⟨inner,hown,hms,_⟩:=H.br id _ hb
 have hnil:m.nst id=[]:=qO8 hft hms
 rw [hnil]at hms
 have hone:(m.val id).oneCell'=true:=by
  rcases hown.2 with ⟨hv0,_⟩ | ⟨g,cap,cur,hv0,_⟩<;>rw [hv0]<;>rfl
 have hN':=hk w ys (m.val id) ((m.val id).ownBlock.toList++[]) (fun _ _=>rfl) ⟨m.val id,inner,[],rfl,rfl,hown,hms⟩
 rw [List.append_nil]at hN'
 refine ⟨B1++((m.val id).ownBlock.toList++B2),?_⟩
 generalize hs.set i (qZ t f hh (m.val id))=hs' at*
 generalize vs.set i (qax e' t' t f v ys)=vs' at*
 generalize hF':B1++((m.val id).ownBlock.toList++B2)=F' at*
 have get: ∀k y,((h.set id .dead).set j (.nst F' t hs' vs'))[k]?=some y→(k=j∧y= .nst F' t hs' vs')∨(k=id∧y= .dead)∨(k≠j∧k≠id∧h[k]?=some y):=fun k y hy=>by
  rw [List.getElem?_set]at hy
  split at hy
  ·rename_i q;subst q;simp [hjl]at hy;exact .inl ⟨rfl,hy.symm⟩
  ·rename_i q
   rw [List.getElem?_set]at hy
   split at hy
   ·rename_i q2;subst q2;simp [hil]at hy;exact .inr (.inl ⟨rfl,hy.symm⟩)
   ·rename_i q2;exact .inr (.inr ⟨fun z=>q z.symm,fun z=>q2 z.symm,hy⟩)
 have fpid:fpB m id (.row e' t' ys true true n)=(m.val id).ownBlock.toList:=by simp [fpB,hnil]
 have hmem: ∀b,b∈F'→b∈F∨b∈(m.val id).ownBlock.toList:=fun b hb'=>by
  rw [←hF']at hb';rw [hF]
  rcases List.mem_append.1 hb' with h1 | h1
  ·exact .inl (by simp [h1])
  ·rcases List.mem_append.1 h1 with h1 | h1
   ·exact .inr h1
   ·exact .inl (by simp [h1])
 have hFn:F.Nodup:=H.nd j _ hj
 rw [hF]at hFn
 have n1:=List.nodup_append.1 hFn
 have n2:=List.nodup_append.1 n1.2.1
 have hon:((m.val id).ownBlock.toList).Nodup:=by cases (m.val id).ownBlock<;>simp
 have hod: ∀b,b∈(m.val id).ownBlock.toList→b∉F:=fun b hb'=>H.dj id _ j _ hij hb hj b (by rw [fpid];exact hb')
 have hF'n:F'.Nodup:=by
  rw [←hF']
  refine List.nodup_append.2 ⟨n1.1,List.nodup_append.2 ⟨hon,n2.2.1,fun b hb' c hc q=> ?_⟩,fun b hb' c hc q=> ?_⟩
  ·subst q;exact hod b hb' (by rw [hF];simp [hc])
  ·subst q
   rcases List.mem_append.1 hc with hc | hc
   ·exact hod b hc (by rw [hF];simp [hb'])
   ·exact n1.2.2 b hb' b (List.mem_append_right _ hc) rfl
 have hok:Oks w w m m h ((h.set id .dead).set j (.nst F' t hs' vs')):=fun k b hb' _=>⟨rfl,hb'.1,fun i y hy=>by
  rcases get i y hy with ⟨rfl,rfl⟩ | ⟨rfl,rfl⟩ | ⟨_,_,hy'⟩
  ·intro hm
   rcases hmem b hm with h1 | h1
   ·exact hb'.2 _ _ hj h1
   ·exact (hb'.2 id _ hb).1 (.inl rfl) (by simpa using h1)
  ·trivial
  ·exact hb'.2 i y hy'⟩
 have hsm:qal m m h ((h.set id .dead).set j (.nst F' t hs' vs')):=fun i x0 hx0=>by
  by_cases q:i=j
  ·subst q
   rw [hj]at hx0;cases hx0
   exact ⟨.nst F' t hs' vs',by simp [hjl],trivial⟩
  ·by_cases q2:i=id
   ·subst q2
    rw [hb]at hx0;cases hx0
    exact ⟨.dead,by rw [List.getElem?_set_ne (fun z=>q z.symm),List.getElem?_set_self hil],hone⟩
   ·refine ⟨x0,by rw [List.getElem?_set_ne (fun z=>q z.symm),List.getElem?_set_ne (fun z=>q2 z.symm)];exact hx0,?_⟩
    cases x0<;>simp [Sim]
 refine ⟨⟨fun i y hy=> ?_,fun i y hy=> ?_,fun i y i' y' hne hy hy' b hb1 hb2=> ?_,fun i y hy b hb1=> ?_,H.fr,H.mx,H.nx,fun i v hpv=> ?_⟩,hok,hsm⟩
 ·rcases get i y hy with ⟨rfl,rfl⟩ | ⟨rfl,rfl⟩ | ⟨_,_,hy'⟩
  ·exact hN'
  ·trivial
  ·exact qd6 hok hsm rfl rfl rfl (fun _ _=>rfl) (H.br i y hy')
 ·rcases get i y hy with ⟨rfl,rfl⟩ | ⟨rfl,rfl⟩ | ⟨_,_,hy'⟩
  ·exact hF'n
  ·exact List.nodup_nil
  ·exact H.nd i y hy'
 ·have key: ∀i y,h[i]?=some y→i≠j→i≠id→ ∀b,b∈fpB m i y→b∉F':=fun i y hy h1 h2 b hb' hm=>by
   rcases hmem b hm with h3 | h3
   ·exact H.dj i y j _ h1 hy hj b hb' h3
   ·exact H.dj i y id _ h2 hy hb b hb' (by rw [fpid];exact h3)
  rcases get i y hy with ⟨rfl,rfl⟩ | ⟨rfl,rfl⟩ | ⟨h1,h2,hy1⟩
  ·rcases get i' y' hy' with ⟨rfl,rfl⟩ | ⟨rfl,rfl⟩ | ⟨h1',h2',hy2⟩
   ·exact hne rfl
   ·simp [fpB]at hb2
   ·exact key i' y' hy2 h1' h2' b hb2 hb1
  ·simp [fpB]at hb1
  ·rcases get i' y' hy' with ⟨rfl,rfl⟩ | ⟨rfl,rfl⟩ | ⟨h1',h2',hy2⟩
   ·exact key i y hy1 h1 h2 b hb1 hb2
   ·simp [fpB]at hb2
   ·exact H.dj i y i' y' hne hy1 hy2 b hb1 hb2
 ·rcases get i y hy with ⟨rfl,rfl⟩ | ⟨rfl,rfl⟩ | ⟨_,_,hy1⟩
  ·rcases hmem b hb1 with h3 | h3
   ·exact H.lt i _ hj b h3
   ·exact H.lt id _ hb b (by rw [fpid];exact h3)
  ·simp [fpB]at hb1
  ·exact H.lt i y hy1 b hb1
 ·obtain ⟨h1,h2⟩:=H.pn i v hpv
  exact ⟨by simpa using h1,h2⟩
end
end Go.T
/- T: the store behind such an append; both as steps beside T's own. -/
namespace Go.T
open Go
theorem qTB {e:Nat} {t':Ty}: ∀{t:Ty} {f:Nat} {v:Val t} {h:Val (hd t)} {u:Value} {y:List (Val t')},qan t v h=h→qan t (qax e t' t f v y) (qZ t f h u)=qZ t f h u
 | .int _,_,_,_,_,_,hm=>hm
 | .bool,_,_,_,_,_,hm=>hm
 | .str,_,_,_,_,_,hm=>hm
 | .hdr,_,_,_,_,_,hm=>hm
 | .slice _ _,_,_,_,_,_,_=>rfl
 | .pair a b,f,v,h,u,y,hm=>by
   obtain ⟨h1,h2⟩:=Prod.mk.injEq .. ▸(show (qan a v.1 h.1,qan b v.2 h.2)=(h.1,h.2) from hm)
   by_cases hf:f<a.sz
   ·simp only [qan,qax,qZ,if_pos hf,h2,qTB h1]
   ·simp only [qan,qax,qZ,if_neg hf,h1,qTB h2]
theorem q4d {e:Nat} {t':Ty} {t:Ty} {f i:Nat} {vs:List (Val t)} {hs:List (Val (hd t))} {dv:Val t} {dh:Val (hd t)} {u:Value} {y:List (Val t')} (hl:hs.length=vs.length) (hm:qX t vs hs=hs):
 qX t (vs.set i (qax e t' t f (vs.getD i dv) y)) (hs.set i (qZ t f (hs.getD i dh) u))=hs.set i (qZ t f (hs.getD i dh) u):=by
 apply List.ext_getElem?
 intro k
 simp only [qX,List.getElem?_zipWith,List.getElem?_set]
 by_cases hk:i=k
 ·subst hk
  by_cases hil:i<vs.length
  ·have hih:i<hs.length:=by omega
   have:=qo7 hm (List.getElem?_eq_getElem hil) (List.getElem?_eq_getElem hih)
   simp [hil,hih,List.getD,qTB this]
  ·have hih: ¬i<hs.length:=by omega
   simp [hil,hih]
 ·simp only [if_neg hk]
  cases hv:vs[k]? with
  | none=>rw [List.getElem?_eq_none (by have:=List.getElem?_eq_none_iff.1 hv;omega)]
  | some v=>
    cases hh:hs[k]? with
    | none=>rfl
    | some u'=>simp [qo7 hm hv hh]
theorem q3h {α:Type} {l:List α} {i:Nat} {x d:α} (hi:i<l.length):(l.set i x).getD i d=x:=by simp [List.getD,hi]
theorem q3B {α:Type} (l:List α) (d:α) (n:Nat) (hn:n=l.length):((List.range n).map fun i=>l.getD i d)=l:=by
 subst hn
 apply List.ext_getElem?
 intro k
 simp only [List.getElem?_map]
 by_cases hk:k<l.length
 ·simp [hk,List.getD]
 ·rw [List.getElem?_eq_none (l:=List.range l.length) (by simp;omega),List.getElem?_eq_none (by omega)];rfl
section
variable {P : Program} {tt : TT} {w0 w w' : World} {mine : Mine} {m m' : Mp} {h : List Blk} {st : St} {a : Act} {o : Oper} {next : Act → World → Prop} {Q : Exit → Act → World → Prop}
def qBG (tt:TT) (jn t:Nat) (x y:LV) (st:St):Res:=match tt.get t with
 | some ti=>match ti.agg,ti.ty with
   | false,.slice e te=>match x,y with
     | .one (.ptr id i f),.one (.own id2)=>match st.heap[id]?,st.heap[jn]?,st.heap[id2]? with
       | some (.row e0 t1 hs1 true true _),some (.nst _ t0 hs vs),some (.row e2 t2 ys2 true true _)=>
         if hh:t1=hd t0∧e2=e∧t2=te then
          match qce e te t0 f (vs.getD i (qb t0)),q6 t0 f ((hh.1▸hs1:List (Val (hd t0))).getD i (qb (hd t0)))with
          | some _,some _=>if te.flat=true∧id≠id2 then
              some (i<vs.length∧hs.length=vs.length∧qX t0 vs hs=hs∧hs=(hh.1▸hs1:List (Val (hd t0))).set i (qZ t0 f ((hh.1▸hs1:List (Val (hd t0))).getD i (qb (hd t0))) (.slice none 0 0)),
               {st with heap:=((st.heap.set id2 .dead).set jn .dead).set id (.row e0 t0 (vs.set i (qax e te t0 f (vs.getD i (qb t0)) (hh.2.2▸ys2))) true true 0)})
            else none
          | _,_=>none
         else none
       | _,_,_=>none
     | _,_=>none
   | _,_=>none
 | none=>none
theorem zf2 (hT:qai P tt) {jn t:Nat} {x y:Operand} (ho:o.op= .store t x y) (hdst:o.dst=none) {p:Prop} {st':St}
 (hs:qBG tt jn t (st.ev x) (st.ev y) st=some (p,st')) (hp:p) (hr:R w0 mine st a w) (hn: ∀a' w',R w0 mine st' a' w'→next a' w'):o.wp P a w next Q:=by
 obtain ⟨hd',m,H,he⟩:=hr
 have hx:=R.ev H he x
 have hy:=R.ev H he y
 unfold qBG at hs
 split at hs
 ·rename_i ti ht
  have hti:=hT t ti ht
  split at hs
  ·rename_i e te hag hty
   split at hs
   ·rename_i id i f id2 ex ey
    rw [ex]at hx
    rw [ey]at hy
    split at hs
    ·rename_i e0 t1 hs1 n1 F t0 hs0 vs e2 t2 ys2 n2 hb hj hb2
     split at hs
     ·rename_i hh
      obtain ⟨rfl,rfl,rfl⟩:=hh
      split at hs
      ·rename_i x0 u0 hgs hgh
       split at hs
       ·rename_i hfl
        cases hs
        obtain ⟨hi,hl,hm,hhs⟩:=hp
        simp only at hgh hhs
        have hi1:i<hs1.length:=by have:=congrArg List.length hhs;simp at this;omega
        have hi0:i<hs0.length:=by omega
        simp only [V,C,hb2]at hy
        simp only [V,C,hb]at hx
        obtain ⟨g0,hg0,hxv⟩:=hx
        have hij:id≠jn:=fun q=>by subst q;rw [hj]at hb;simp at hb
        have h2j:id2≠jn:=fun q=>by subst q;rw [hj]at hb2;simp at hb2
        have hil:=(List.getElem?_eq_some_iff.1 hb).1
        have hjl:=(List.getElem?_eq_some_iff.1 hj).1
        have hgd:hs0.getD i (qb (Go.T.hd t0))=qZ t0 f (hs1.getD i (qb (Go.T.hd t0))) (.slice none 0 0):=by rw [hhs,q3h hi1]
        obtain ⟨F',H1,hok1,hsm1⟩:=H.give (f:=f) (i:=i) hj (show vs[i]?=some (vs.getD i (qb t0)) by simp [List.getD,hi]) (show hs0[i]?=some (hs0.getD i (qb (Go.T.hd t0))) by simp [List.getD,hi0])
                (by rw [hgd];exact qPK hgh) hgs hb2 hfl.1
        -- the names behind the store
        have hone:(m.val id2).oneCell'=true:=by
                obtain ⟨inner,hown,_⟩:=H.br id2 _ hb2
                rcases hown.2 with ⟨hv0,_⟩ | ⟨g,cap,cur,hv0,_⟩<;>rw [hv0]<;>rfl
        have hnm:hs0.set i (qZ t0 f (hs0.getD i (qb (Go.T.hd t0))) (m.val id2))=hs1.set i (qZ t0 f (hs1.getD i (qb (Go.T.hd t0))) (m.val id2)):=by
                rw [hgd,qHs]
                conv=>lhs;rw [hhs]
                rw [List.set_set]
        have hm':=q4d (e:=e2) (t':=t2) (f:=f) (i:=i) (dv:=qb t0) (dh:=qb (Go.T.hd t0)) (u:=m.val id2) (y:=ys2) hl hm
        rw [hnm]at H1 hok1 hsm1 hm'
        have hl':(hs1.set i (qZ t0 f (hs1.getD i (qb (Go.T.hd t0))) (m.val id2))).length=(vs.set i (qax e2 t2 t0 f (vs.getD i (qb t0)) ys2)).length:=by
                have:=congrArg List.length hhs
                simp at this ⊢;omega
        have hb1:((st.heap.set id2 .dead).set jn (.nst F' t0 (hs1.set i (qZ t0 f (hs1.getD i (qb (Go.T.hd t0))) (m.val id2))) (vs.set i (qax e2 t2 t0 f (vs.getD i (qb t0)) ys2))))[id]?=some (.row e0 (Go.T.hd t0) hs1 true true n1):=by
                rw [List.getElem?_set_ne (fun q=>hij q.symm),List.getElem?_set_ne (fun q=>hfl.2 q.symm)];exact hb
        obtain ⟨g,cur,hob,hg,hfit,H2,hok2,hsm2⟩:=H1.setHd hb1 hi1 hgh hone
        obtain rfl:g=g0:=by rw [hob]at hg0;exact Option.some.inj hg0
        obtain ⟨hcc,h1⟩:=qmH H.br (R.ev H he y) (by rw [ey];rfl) (by rw [ey];exact Nat.zero_lt_one)
        rw [ey]at hcc
        have hu:(a.eval y).cells.toList=[m.val id2]:=by
                generalize (a.eval y).cells.toList=l at hcc
                cases hcc with
                | cons h1 h2=>
                  cases h2
                  simp only [C,hb2]at h1
                  rw [h1]
        have hlen:(a.eval y).cells.toList.length=ti.ty.sz:=by rw [hu,hti.one hag];rfl
        have hrun:=qCi (P:=P) (w:=w) (f:=i*t0.sz+f) hti hg hlen (by rw [hti.one hag];omega) h1
        rw [hu,hti.one hag]at hrun
        rw [qdg]at hxv
        refine qCM (w':=w.setRow g (cur.toList.take (i*t0.sz+f)++[m.val id2]++cur.toList.drop (i*t0.sz+f+1)).toArray) (by simp only [execOp,ho,hxv,Instr.storeAt,Instr.sureAddr,Sem.run_bind,Sem.run_pure,Result.andThen_ok,hrun]) (hn _ _ ?_)
        generalize hs1.set i (qZ t0 f (hs1.getD i (qb (Go.T.hd t0))) (m.val id2))=hsn at*
        generalize vs.set i (qax e2 t2 t0 f (vs.getD i (qb t0)) ys2)=vsn at*
        have e1:=q3B hsn (qb (Go.T.hd t0)) vsn.length hl'.symm
        have e2:=q3B vsn (qb t0) vsn.length rfl
        obtain ⟨m3,H3,hok3,hsm3⟩:=H2.cls (is:=List.range vsn.length) (hs:=hsn) (vs:=vsn) (F:=F') (t:=t0) (e:=e0) (id:=id) (j:=jn) (mt:=true) (n:=n1)
                (by rw [e1,List.getElem?_set_self (by simpa using hil)]) (by rw [List.getElem?_set_ne hij,List.getElem?_set_self (by simpa using hjl)]) List.nodup_range (fun i hi=>by simpa using hi) hm' hl'
        have hX:((((st.heap.set id2 .dead).set jn (.nst F' t0 hsn vsn)).set id (.row e0 (Go.T.hd t0) hsn true true n1)).set jn .dead).set id (.row e0 t0 vsn true true 0)=((st.heap.set id2 .dead).set jn .dead).set id (.row e0 t0 vsn true true 0):=by
                rw [List.set_comm _ _ hij,List.set_set,List.set_set]
        rw [e2,hX]at H3 hok3 hsm3
        refine ⟨by rw [qbV];exact hd',m3,H3,?_⟩
        rw [hdst]
        exact qaV hok3 hsm3 (qaV hok2 hsm2 (qaV hok1 hsm1 he))
       ·simp at hs
      ·simp at hs
     ·simp at hs
    ·simp at hs
   ·simp at hs
  ·simp at hs
 ·simp at hs
end
end Go.T
/- T: the steps of such an append, beside T's own. -/
namespace Go.T
open Go
abbrev Azs:=List (Nat×Nat×Nat×Nat)
abbrev Gvs:=List (Nat×Nat)
def Azs.get:Azs→Nat→Option (Nat×Nat×Nat)
 | [],_=>none
 | (d,x)::r,d'=>if d=d' then some x else Azs.get r d'
def Gvs.get:Gvs→Nat→Option Nat
 | [],_=>none
 | (d,x)::r,d'=>if d=d' then some x else Gvs.get r d'
def qAe (tt:TT) (az:Azs) (gv:Gvs) (S:Sem):Sem:=fun o st=>match o.op with
 | .call c=>match o.dst,c.callee,c.args.toList,c.argTypes.toList with
   | some d,.builtin .append,[x,y],[t,tn]=>match Azs.get az d with
     | some (jn,f,ix)=>qB6 tt jn f t tn (st.ev (.tmp ix)) (st.ev x) (st.ev y) (some d) st
     | none=>none
   | _,_,_,_=>S o st
 | .store t (.tmp x) y=>match o.dst,Gvs.get gv x with
   | none,some jn=>qBG tt jn t (st.ev (.tmp x)) (st.ev y) st
   | _,_=>none
 | _=>S o st
theorem zp7 {P:Program} {tt:TT} (hT:qai P tt) {az:Azs} {gv:Gvs} {S:Sem} (h:qek P S):qek P (qAe tt az gv S):=by
 intro o st p st' hs hp w0 mine a w next Q hr hn
 unfold qAe at hs
 split at hs
 ·rename_i c ho
  split at hs
  ·rename_i d x y t tn hd hc ha hat
   have ha:c.args= #[x,y]:=by rw [←Array.toList_inj,ha]
   have hat:c.argTypes= #[t,tn]:=by rw [←Array.toList_inj,hat]
   split at hs
   ·rename_i jn f ix hg
    exact zbP hT (ix:= .tmp ix) ho hc ha hat (by rw [hd];exact hs) hp hr hn
   ·simp at hs
  ·exact h o st p st' hs hp w0 mine a w next Q hr hn
 ·rename_i t x y ho
  split at hs
  ·rename_i jn hd hg
   exact zf2 hT ho hd hs hp hr hn
  ·simp at hs
 ·exact h o st p st' hs hp w0 mine a w next Q hr hn
attribute [simp] Azs.get Gvs.get qAe qB6 qBG qii qZ Ty.flat2
end Go.T
