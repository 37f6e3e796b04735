import Derived.Test.YtllelgnepalfjaaGreatT11
import Derived.Lib.AppendZerosOnto
set_option linter.unusedSimpArgs false
set_option linter.unusedVariables false
namespace Go.T
open Go
section
variable {P : Program} {tt : TT} {o : Oper} {a : Act} {w0 w : World} {mine : Mine} {st : St} {next : Act -> World -> Prop} {Q : Exit -> Act -> World -> Prop}
theorem WU {z:Array Value} {t:Ty} (a:z.toList=bI t) (n:Nat):(Builtin.zeroCells z n).toList=(List.replicate n (bI t)).flatten:=by
 have b:z.size=t.sz:=by have:=congrArg List.length a;simpa [dH] using this
 rw [<-IW a n]
 apply List.ext_getElem?
 intro j
 simp [Builtin.zeroCells,madeCells,b]
theorem WV (hT:bm P tt) {t m ty e:Nat} {ti:TI} (R:tt.get t=some ti) {te:Ty} (E:ti.agg=false) (W:ti.ty= .slice e te) {y kq:IntKind} (h:P.underlying m=some (.int y))
 {v:Value} {n k:Nat} {inner:List Value} (c:w.ownsRow 0 e te.sz v n inner) (L:n+k<=1048576):
 ∃p w',(Builtin.append_ #[t,m] ty #[v,.int kq k]).run P w= .ok p w'/\w'.ownsRow 0 e te.sz p (n+k) (inner++(List.replicate k (bI te)).flatten)/\w.grownBy w' v.ownBlock/\(p.ownBlock=v.ownBlock∨p.ownBlock=some w.heap.size):=by
 have U:=hT t ti R
 obtain ⟨hu,tie,T,V⟩:=U.slc E e te W
 obtain ⟨i,z,d,hs,s,x,G⟩:=(hT e tie T).info
 rw [V]at hs x
 have ad:0<te.sz:=te.sz_pos
 have aa:(n+k)*i.bytes<=1048576*65536:=Nat.mul_le_mul L G
 have ab:k*i.bytes<=(n+k)*i.bytes:=Nat.mul_le_mul_right _ (by omega)
 have hw:IntKind.i64.wrap (k:Int)=k:=by rw [IntKind.wrap_i64];omega
 have O: ¬((k:Int)<0):=by omega
 have D: ¬(281474976710656<(k:Int)*(i.bytes:Int)):=by
  rw [<-Int.natCast_mul]
  omega
 have C: ∀n,(Builtin.zeroCells z.cells n).toList=(List.replicate n (bI te)).flatten:=WU x
 have Z:z.cells.size=te.sz:=by have:=congrArg List.length x;simpa [dH] using this
 have B:(List.replicate k (bI te)).flatten.length=k*te.sz:=by simp [dH]
 have hlen:(inner++(List.replicate k (bI te)).flatten).length=(n+k)*te.sz:=by rw [List.length_append,c.1,B,Nat.add_mul]
 have M:n+k<=maxLen:=by simp only [maxLen];omega
 
 have grown: ∀(a:Nat),a<n+k-> ∀(row:Option Nat),
  (w.drew.alloc (.cells (inner.toArray++Builtin.zeroCells z.cells k++Builtin.zeroCells z.cells (grownCap w (n+k) a e - (n+k))) e)).ownsRow 0 e te.sz
        (.slice (some ⟨w.heap.size,0,none⟩) (n+k) (grownCap w (n+k) a e)) (n+k) (inner++(List.replicate k (bI te)).flatten)/\
  w.grownBy (w.drew.alloc (.cells (inner.toArray++Builtin.zeroCells z.cells k++Builtin.zeroCells z.cells (grownCap w (n+k) a e - (n+k))) e)) row:=by
  intro a ac row
  have J:=grownCap_ge w (n+k) a e
  have q:grownCap w (n+k) a e<=maxLen:=grownCap_le_maxLen w (n+k) a e M
  refine ⟨⟨hlen,.inr ⟨w.heap.size,_,_,rfl,Nat.zero_le _,heap_alloc_new w.drew _,J,q,?_,?_⟩⟩,⟨rfl,rfl,rfl,by simp,fun k hk _=>by first | exact heap_alloc_old w.drew _ k hk | exact heap_alloc_old w.drew _ hk⟩⟩
  ·simp only [Array.size_append,List.size_toArray,size_zeroCells,Z,c.1,<-Nat.add_mul]
   congr 1
   omega
  ·simp only [Array.toList_append,List.append_assoc,C]
   rw [<-List.append_assoc,<-hlen]
   exact List.take_left
 rcases c.2 with ⟨rfl,rfl⟩ | ⟨g,cap,cur,rfl,F,A,N,q,H,S⟩
 ·have Y:inner=[]:=List.eq_nil_of_length_eq_zero (by simpa using c.1)
  subst Y
  by_cases hm:k=0
  ·subst hm
   refine ⟨.slice none 0 0,w,?_,World.ownsRow_nil w 0 e te.sz,⟨rfl,rfl,rfl,Nat.le_refl _,fun _ _ _=>rfl⟩,Or.inl rfl⟩
   simp [Builtin.append_,run_underlying hu,run_underlying h,sizeOf,typeInfo,d,asInt,asIntOf,IntKind.wrap_i64]
  ·have f:=Lib.run_append_nil_zeros (P:=P) w t m ty e i z kq y hu h d s k (by omega) (by omega) (by omega) (by omega)
   have b:=grown 0 (by omega) (Value.ownBlock (.slice none 0 0))
   simp only [Nat.zero_add,List.nil_append,Array.empty_append]at b ⊢
   exact ⟨_,_,f,b.1,b.2,Or.inr rfl⟩
 ·by_cases r:n+k<=cap
  ·have I:n*te.sz+(List.replicate k (bI te)).flatten.length<=cur.size:=by rw [B,H,<-Nat.add_mul];exact Nat.mul_le_mul_right _ r
   have h1: ∀u∈(List.replicate k (bI te)).flatten,u.oneCell'=true:=fun u hu=>by
        obtain ⟨l,K,X⟩:=List.mem_flatten.1 hu
        obtain ⟨_,rfl⟩:=List.mem_replicate.1 K
        exact lK (yf w fun _=>True) u X
   have o:=run_storeCells_at P g (n*te.sz) e (List.replicate k (bI te)).flatten 0 cur w A (by simpa using I) h1
   simp only [Nat.add_zero]at o
   have f:(Builtin.append_ #[t,m] ty #[.slice (some ⟨g,0,none⟩) n cap,.int kq k]).run P w=
    .ok (.slice (some ⟨g,0,none⟩) (n+k) cap) (w.setRow g (cur.toList.take (n*te.sz)++(List.replicate k (bI te)).flatten++cur.toList.drop (n*te.sz+(List.replicate k (bI te)).flatten.length)).toArray):=by
        by_cases hk:k=0
        ·subst hk
         simp at o
         simp [Builtin.append_,run_underlying hu,run_underlying h,sizeOf,typeInfo,d,hs,asInt,asIntOf,IntKind.wrap_i64,N,Addr.add_lit,o]
        ·have Q: ¬(k*te.sz=0):=Nat.mul_ne_zero hk (by omega)
         simp [Builtin.append_,run_underlying hu,run_underlying h,sizeOf,typeInfo,zeroValue,d,s,hs,asInt,asIntOf,hw,O,Q,D,r,Addr.add_lit,C,o]
   refine ⟨_,_,f,⟨hlen,.inr ⟨g,cap,_,rfl,F,setRow_heap w g cur _ e _ A,r,q,?_,?_⟩⟩,⟨rfl,rfl,rfl,by simp,fun k _ hk=>setRow_other w g k _ (fun e=>hk (by simp [Value.ownBlock,e]))⟩,Or.inl rfl⟩
   ·simp only [List.size_toArray,List.length_append,List.length_take,List.length_drop,Array.length_toList]
    omega
   ·rw [S,<-hlen]
    exact List.take_left
  ·have holds: ∀j u,inner[j]?=some u->w.cell? ((⟨g,0,none⟩:Addr).add j)=some u:=c.cells (g:=g) rfl
   have hold:(Builtin.firstCells i.size n (.slice (some ⟨g,0,none⟩) n cap)).run P w.drew= .ok inner.toArray w.drew:=by
        have:=run_firstCells_some (P:=P) w.drew i.size n ⟨g,0,none⟩ n cap inner (by rw [hs];exact c.1) holds
        simpa using this
   have hk:0<k:=by omega
   have f:=Lib.run_append_grow_zeros (P:=P) w t m ty e i z kq y hu h d s (some ⟨g,0,none⟩) n cap inner hold k hk (by omega) (by omega) (by omega) (by omega) (growslice_fits (by omega) (by omega))
   have b:=grown cap (by omega) (Value.ownBlock (.slice (some ⟨g,0,none⟩) n cap))
   exact ⟨_,_,f,b.1,b.2,Or.inr rfl⟩
end
end Go.T
namespace Go.T
open Go
def q6:(t:Ty)->Nat->Val (hd t)->Value->Val (hd t)
 | .slice _ _,0,_,u=>u
 | .pair a b,f,h,u=>if f<a.sz then (q6 a f h.1 u,h.2)else (h.1,q6 b (f - a.sz) h.2 u)
 | _,_,h,_=>h
def fpH:(t:Ty)->Val (hd t)->List Nat
 | .slice _ _,u=>(Value.ownBlock u).toList
 | .pair a b,h=>fpH a h.1++fpH b h.2
 | _,_=>[]
def nY (t:Ty) (hs:List (Val (hd t))):List Nat:=(hs.map (fpH t)).flatten
def Ty.flat2:Ty->Bool
 | .slice _ t=>t.flat
 | .pair a b=>a.flat2&&b.flat2
 | _=>true
theorem zp: ∀{t:Ty} {f:Nat} {h:Val (hd t)} {u e:Value},q8 t f h=some u->q8 t f (q6 t f h e)=some e
 | .int _,_,_,_,_,c=>by simp [q8]at c
 | .bool,_,_,_,_,c=>by simp [q8]at c
 | .str,_,_,_,_,c=>by simp [q8]at c
 | .hdr,_,_,_,_,c=>by simp [q8]at c
 | .slice _ _,f,h,u,e,c=>by
   cases f with
   | succ f=>simp [q8]at c
   | zero=>simp [q8,q6]
 | .pair a b,f,h,u,e,c=>by
   simp only [q8]at c
   by_cases d:f<a.sz
   ·rw [if_pos d]at c
    simp only [q8,q6,if_pos d]
    exact zp c
   ·rw [if_neg d]at c
    simp only [q8,q6,if_neg d]
    exact zp c
theorem zq: ∀{t:Ty} {f:Nat} {h:Val (hd t)} {u c:Value},q6 t f (q6 t f h u) c=q6 t f h c
 | .int _,_,_,_,_ | .bool,_,_,_,_ | .str,_,_,_,_ | .hdr,_,_,_,_=>rfl
 | .slice _ _,f,_,_,_=>by cases f<;>rfl
 | .pair a b,f,h,u,c=>by
   by_cases d:f<a.sz
   ·simp only [q6,if_pos d,zq]
   ·simp only [q6,if_neg d,zq]
theorem K3: ∀{t:Ty} {f:Nat} {h:Val (hd t)} {u:Value},q8 t f h=some u->f<t.sz
 | .int _,_,_,_,c=>by simp [q8]at c
 | .bool,_,_,_,c=>by simp [q8]at c
 | .str,_,_,_,c=>by simp [q8]at c
 | .hdr,_,_,_,c=>by simp [q8]at c
 | .slice _ _,f,h,u,c=>by
   cases f with
   | succ f=>simp [q8]at c
   | zero=>simp [Ty.sz]
 | .pair a b,f,h,u,c=>by
   simp only [q8]at c
   simp only [Ty.sz]
   by_cases d:f<a.sz
   ·omega
   ·rw [if_neg d]at c
    have:=K3 c
    omega
theorem zr {w:World}: ∀{t:Ty} {v:Val t} {cs:List Value} {B:List Nat},t.flat=true->M w t v cs B->B=[]
 | .int _,_,_,_,_,h=>h.2
 | .bool,_,_,_,_,h=>h.2
 | .str,_,_,_,_,h=>h.2
 | .hdr,_,_,_,_,h=>h.2
 | .slice _ _,_,_,_,c,_=>by simp [Ty.flat]at c
 | .pair a b,v,cs,B,c,h=>by
   simp only [Ty.flat,Bool.and_eq_true]at c
   obtain ⟨_,_,d,e,_,rfl,h1,h2⟩:=h
   rw [zr c.1 h1,zr c.2 h2];rfl
theorem zs {w:World} {t:Ty} (a:t.flat=true): ∀{xs:List (Val t)} {cs:List Value} {B:List Nat},Ms (M w t) xs cs B->B=[]
 | [],_,_,h=>h.2
 | _::_,_,_,h=>by
   obtain ⟨_,_,b,c,_,rfl,h1,h2⟩:=h
   rw [zr a h1,zs a h2];rfl
theorem zt {w:World}: ∀{t:Ty} {v:Val t} {h:Val (hd t)} {B:List Nat},t.flat2=true->Nst w t v h B->B=fpH t h
 | .int _,_,_,_,_,h=>h
 | .bool,_,_,_,_,h=>h
 | .str,_,_,_,_,h=>h
 | .hdr,_,_,_,_,h=>h
 | .slice _ _,_,u,B,c,d=>by
   obtain ⟨e,inner,i,hu,rfl,j,hm⟩:=d
   obtain rfl:u=e:=by simpa using hu
   rw [zs c hm,List.append_nil];rfl
 | .pair a b,v,h,B,c,d=>by
   simp only [Ty.flat2,Bool.and_eq_true]at c
   obtain ⟨f,g,rfl,h1,h2⟩:=d
   rw [zt c.1 h1,zt c.2 h2];rfl
theorem K4 {w:World} {t:Ty} (b:t.flat2=true): ∀{vs:List (Val t)} {hs:List (Val (hd t))} {B:List Nat},b0 w t vs hs B->B=nY t hs
 | [],[],_,a=>a
 | [],_::_,_,a=>a.elim
 | _::_,[],_,a=>a.elim
 | _::_,_::_,_,a=>by
   obtain ⟨c,d,rfl,h1,h2⟩:=a
   rw [zt b h1,K4 b h2];rfl
theorem zu {e':Nat} {t':Ty} {w:World}: ∀{t:Ty} {f:Nat} {v:Val t} {h:Val (hd t)} {B:List Nat} {u:Value} {x:List (Val t')},Nst w t v h B->q8 t f h=some u->du e' t' t f v=some x->
 ∃g l i,B=g++(l++i)/\M w (.slice e' t') x [u] l/\ ∀(w':World) (y:List (Val t')) (k:Value) (j:List Nat),(∀b,b∈g∨b∈i->w'.heap[b]?=w.heap[b]?)->M w' (.slice e' t') y [k] j->Nst w' t (bM e' t' t f v y) (q6 t f h k) (g++(j++i))
 | .int _,_,_,_,_,_,_,_,c,_=>by simp [q8]at c
 | .bool,_,_,_,_,_,_,_,c,_=>by simp [q8]at c
 | .str,_,_,_,_,_,_,_,c,_=>by simp [q8]at c
 | .hdr,_,_,_,_,_,_,_,c,_=>by simp [q8]at c
 | .slice e t,f,v,h,B,u,x,o,c,hs=>by
   cases f with
   | succ f=>simp [q8]at c
   | zero=>
     have c:(h:Value)=u:=Option.some.inj c
     subst c
     simp only [du]at hs
     split at hs
     ·rename_i he
      obtain ⟨rfl,rfl⟩:=he
      cases hs
      exact ⟨[],B,[],by simp,o,fun w' y k j _ hm=>by simp [bM,q6];exact hm⟩
     ·simp at hs
 | .pair a b,f,v,h,B,u,x,o,c,hs=>by
   obtain ⟨p,q,rfl,h1,h2⟩:=o
   simp only [q8]at c
   simp only [du]at hs
   by_cases m:f<a.sz
   ·rw [if_pos m]at c hs
    obtain ⟨g,l,i,rfl,hm,hk⟩:=zu h1 c hs
    refine ⟨g,l,i++q,by simp,hm,fun w' y k j hw n=> ?_⟩
    refine ⟨g++(j++i),q,by simp,?_,?_⟩
    ·simp only [bM,q6,if_pos m]
     exact hk w' y k j (fun b d=>hw b (by rcases d with d | d<;>simp [d])) n
    ·simp only [bM,q6,if_pos m]
     exact gR h2 fun b d=>hw b (by simp [d])
   ·rw [if_neg m]at c hs
    obtain ⟨g,l,i,rfl,hm,hk⟩:=zu h2 c hs
    refine ⟨p++g,l,i,by simp,hm,fun w' y k j hw n=> ?_⟩
    refine ⟨p,g++(j++i),by simp,?_,?_⟩
    ·simp only [bM,q6,if_neg m]
     exact gR h1 fun b d=>hw b (by simp [d])
    ·simp only [bM,q6,if_neg m]
     exact hk w' y k j (fun b d=>hw b (by rcases d with d | d<;>simp [d])) n
theorem zv {e':Nat} {t':Ty} {w:World} {t:Ty} {f:Nat} {u:Value} {x:List (Val t')}: ∀{vs:List (Val t)} {hs:List (Val (hd t))} {B:List Nat} {i:Nat} {v:Val t} {h:Val (hd t)},b0 w t vs hs B->vs[i]?=some v->hs[i]?=some h->q8 t f h=some u->du e' t' t f v=some x->
 ∃c g d,B=c++(g++d)/\M w (.slice e' t') x [u] g/\ ∀(w':World) (y:List (Val t')) (j:Value) (e:List Nat),(∀b,b∈c∨b∈d->w'.heap[b]?=w.heap[b]?)->M w' (.slice e' t') y [j] e->b0 w' t (vs.set i (bM e' t' t f v y)) (hs.set i (q6 t f h j)) (c++(e++d))
 | [],_,_,_,_,_,_,k,_,_,_=>by simp at k
 | _::_,[],_,_,_,_,n,_,_,_,_=>n.elim
 | s::vs,r::hs,B,i,v,h,n,k,l,hu,q=>by
   obtain ⟨o,p,rfl,h1,h2⟩:=n
   cases i with
   | zero=>
     simp at k l
     subst k;subst l
     obtain ⟨c,g,d,rfl,hm,hk⟩:=zu h1 hu q
     exact ⟨c,g,d++p,by simp,hm,fun w' y j e hw m=>⟨c++(e++d),p,by simp,hk w' y j e (fun b a=>hw b (by rcases a with a | a<;>simp [a])) m,nj h2 fun b a=>hw b (by simp [a])⟩⟩
   | succ i=>
     obtain ⟨c,g,d,rfl,hm,hk⟩:=zv h2 (by simpa using k) (by simpa using l) hu q
     exact ⟨o++c,g,d,by simp,hm,fun w' y j e hw m=>⟨o,c++(e++d),by simp,gR h1 fun b a=>hw b (by simp [a]),hk w' y j e (fun b a=>hw b (by rcases a with a | a<;>simp [a])) m⟩⟩
section
variable {P : Program} {w0 w w' : World} {mine : Mine} {m m' : Mp} {h : List Blk} {st : St} {a : Act} {o : Oper} {next : Act -> World -> Prop} {Q : Exit -> Act -> World -> Prop}
theorem HR.take (H:HR w0 mine w m h) {j:Nat} {F:List Nat} {t:Ty} {hs:List (Val (hd t))} {vs:List (Val t)} (o:h[j]?=some (.nst F t hs vs)) {e':Nat} {t':Ty} {f i:Nat} {v:Val t} {s:Val (hd t)} {u:Value} {x:List (Val t')}
 (aq:vs[i]?=some v) (al:hs[i]?=some s) (hu:q8 t f s=some u) (ar:du e' t' t f v=some x) (ak:t.flat2=true):
 ∃m',m'.val h.length=u/\HR w0 mine w m' (h.set j (.nst (nY t (hs.set i (q6 t f s (.slice none 0 0)))) t (hs.set i (q6 t f s (.slice none 0 0))) (vs.set i (bM e' t' t f v [])))++[.row e' t' x true true h.length])/\
  Oks w w m m' h (h.set j (.nst (nY t (hs.set i (q6 t f s (.slice none 0 0)))) t (hs.set i (q6 t f s (.slice none 0 0))) (vs.set i (bM e' t' t f v [])))++[.row e' t' x true true h.length])/\
  bA m m' h (h.set j (.nst (nY t (hs.set i (q6 t f s (.slice none 0 0)))) t (hs.set i (q6 t f s (.slice none 0 0))) (vs.set i (bM e' t' t f v [])))++[.row e' t' x true true h.length]):=by
 have ai:b0 w t vs hs F:=H.br j _ o
 have ay:=(List.getElem?_eq_some_iff.1 o).1
 obtain ⟨C,aw,D,S,ah,hk⟩:=zv ai aq al hu ar
 have T:=hk w [] (.slice none 0 0) [] (fun _ _=>rfl) ⟨.slice none 0 0,[],[],rfl,by simp [Value.ownBlock],World.ownsRow_nil w 0 e' t'.sz,rfl,rfl⟩
 have af:=K4 ak T
 rw [<-af]
 generalize ax:hs.set i (q6 t f s (.slice none 0 0))=K at*
 generalize az:vs.set i (bM e' t' t f v [])=O at*
 simp only [List.nil_append]at T ⊢
 obtain ⟨av,inner,p,ap,rfl,an,am⟩:=ah
 obtain rfl:u=av:=by simpa using ap
 refine ⟨m.row h.length u p,by simp [Mp.row],?_⟩
 have get: ∀i y,(h.set j (.nst (C++D) t K O)++[.row e' t' x true true h.length])[i]?=some y->(i=j/\y= .nst (C++D) t K O)∨(i=h.length/\y= .row e' t' x true true h.length)∨(i≠j/\i<h.length/\h[i]?=some y):=fun i y a=>by
  by_cases W:i<h.length
  ·rw [List.getElem?_append_left (by simpa using W),List.getElem?_set]at a
   split at a
   ·rename_i q;subst q;simp [W]at a;exact .inl ⟨rfl,a.symm⟩
   ·rename_i q;exact .inr (.inr ⟨fun z=>q z.symm,W,a⟩)
  ·rw [List.getElem?_append_right (by simp;omega)]at a
   rw [List.length_set]at a
   have:i - h.length=0:=by
        rcases Nat.eq_zero_or_pos (i - h.length)with Y | Y
        ·exact Y
        ·rw [List.getElem?_eq_none (by simp;omega)]at a;simp at a
   rw [this]at a
   simp at a
   exact .inr (.inl ⟨by omega,a.symm⟩)
 have P: ∀b,b∈C++D->b∈F:=fun b d=>by rw [S];rcases List.mem_append.1 d with d | d<;>simp [d]
 have L: ∀b,b∈u.ownBlock.toList++p->b∈F:=fun b d=>by rw [S];exact List.mem_append_right _ (List.mem_append_left _ d)
 have ag:F.Nodup:=H.nd j _ o
 have Z:=ag;rw [S]at Z
 have R:=List.nodup_append.1 Z
 have X:=List.nodup_append.1 R.2.1
 have aa: ∀b,b∈u.ownBlock.toList++p->b∉C++D:=fun b d hm=>by
  rcases List.mem_append.1 hm with hm | hm
  ·exact R.2.2 b hm b (List.mem_append_left _ d) rfl
  ·exact X.2.2 b d b hm rfl
 have I:fpB (m.row h.length u p) h.length (.row e' t' x true true h.length)=u.ownBlock.toList++p:=by simp [fpB,Mp.row]
 have G: ∀i y,i<h.length->fpB (m.row h.length u p) i y=fpB m i y:=fun i y E=>by
  have:i≠h.length:=by omega
  cases y<;>simp [fpB,Mp.row,this]
 have au: ∀n b i y,i<h.length->(okB (m.row h.length u p) n b i y↔okB m n b i y):=fun n b i y E=>by
  have:i≠h.length:=by omega
  cases y<;>simp [okB,Mp.row,this]
 have ab:Oks w w m (m.row h.length u p) h (h.set j (.nst (C++D) t K O)++[.row e' t' x true true h.length]):=fun n b d _=>⟨rfl,d.1,fun i y a=>by
  have U:b∉F:=d.2 j _ o
  rcases get i y a with ⟨rfl,rfl⟩ | ⟨rfl,rfl⟩ | ⟨E,k,A⟩
  ·exact fun hm=>U (P b hm)
  ·refine ⟨fun _ q=> ?_,fun _ _ q=> ?_⟩
   ·have q:u.ownBlock=some b:=by simpa [Mp.row] using q
    exact U (L b (List.mem_append_left _ (by simp [q])))
   ·have q:b∈p:=by simpa [Mp.row] using q
    exact U (L b (List.mem_append_right _ q))
  ·exact (au n b i y k).2 (d.2 i y A)⟩
 have ac:bA m (m.row h.length u p) h (h.set j (.nst (C++D) t K O)++[.row e' t' x true true h.length]):=fun i ad Q=>by
  have k:i<h.length:=(List.getElem?_eq_some_iff.1 Q).1
  have l:i≠h.length:=by omega
  by_cases q:i=j
  ·subst q
   rw [o]at Q;cases Q
   exact ⟨.nst (C++D) t K O,by rw [List.getElem?_append_left (by simpa using k),List.getElem?_set_self k],trivial⟩
  ·refine ⟨ad,by rw [List.getElem?_append_left (by simpa using k),List.getElem?_set_ne (fun z=>q z.symm)];exact Q,?_⟩
   cases ad<;>simp [Sim,Mp.row,l]
 refine ⟨⟨fun i y a=> ?_,fun i y a=> ?_,fun i y r B l a A b e g=> ?_,fun i y a b e=> ?_,H.fr,H.mx,H.nx,fun i v ao=> ?_⟩,ab,ac⟩
 ·rcases get i y a with ⟨rfl,rfl⟩ | ⟨rfl,rfl⟩ | ⟨E,k,A⟩
  ·exact T
  ·exact ⟨inner,by simpa [Mp.row] using an,by simpa [Mp.row] using am,Nat.le_refl _⟩
  ·have l:i≠h.length:=by omega
   exact eT ab ac (by simp [Mp.row,l]) rfl (by simp [Mp.row,l]) (fun _ _=>rfl) (H.br i y A)
 ·rcases get i y a with ⟨rfl,rfl⟩ | ⟨rfl,rfl⟩ | ⟨E,k,A⟩
  ·show (C++D).Nodup
   exact List.nodup_append.2 ⟨R.1,X.2.1,fun b d c aj q=>R.2.2 b d c (List.mem_append_right _ aj) q⟩
  ·rw [I];exact X.1
  ·rw [G i y k];exact H.nd i y A
 ·rcases get i y a with ⟨rfl,rfl⟩ | ⟨rfl,rfl⟩ | ⟨E,k,M⟩
  ·rcases get r B A with ⟨rfl,rfl⟩ | ⟨rfl,rfl⟩ | ⟨V,J,N⟩
   ·exact l rfl
   ·rw [I]at g;exact aa b g e
   ·rw [G r B J]at g
    exact H.dj i _ r B l o N b (P b e) g
  ·rw [I]at e
   rcases get r B A with ⟨rfl,rfl⟩ | ⟨rfl,rfl⟩ | ⟨V,J,N⟩
   ·exact aa b e g
   ·exact l rfl
   ·rw [G r B J]at g
    exact H.dj j _ r B (fun q=>V q.symm) o N b (L b e) g
  ·rw [G i y k]at e
   rcases get r B A with ⟨rfl,rfl⟩ | ⟨rfl,rfl⟩ | ⟨V,J,N⟩
   ·exact H.dj i y r _ l M o b e (P b g)
   ·rw [I]at g
    exact H.dj i y j _ E M o b e (L b g)
   ·rw [G r B J]at g
    exact H.dj i y r B l M N b e g
 ·rcases get i y a with ⟨rfl,rfl⟩ | ⟨rfl,rfl⟩ | ⟨E,k,M⟩
  ·exact H.lt i _ o b (P b e)
  ·rw [I]at e;exact H.lt j _ o b (L b e)
  ·rw [G i y k]at e;exact H.lt i y M b e
 ·obtain ⟨h1,h2,ae⟩:=H.pn i v ao
  have l:i≠h.length:=by omega
  exact ⟨by simp;omega,by simpa [Mp.row,l] using h2,ae⟩
end
end Go.T
namespace Go.T
open Go
section
variable {P : Program} {tt : TT} {w0 w w' : World} {mine : Mine} {m m' : Mp} {h : List Blk} {st : St} {a : Act} {o : Oper} {next : Act -> World -> Prop} {Q : Exit -> Act -> World -> Prop}
def iz (e:Nat) (te t:Ty) (f i:Nat) (hs:List (Val (hd t))) (vs:List (Val t)):Blk:=
 .nst (nY t (hs.set i (q6 t f (hs.getD i (qa (hd t))) (.slice none 0 0)))) t (hs.set i (q6 t f (hs.getD i (qa (hd t))) (.slice none 0 0))) (vs.set i (bM e te t f (vs.getD i (qa t)) []))
def sd (tt:TT) (jn f t b:Nat) (i x y:LV) (d:Option Tmp) (st:St):Res:=match tt.get t,tt.get b with
 | some ti,some a=>match ti.agg,ti.ty,a.agg,a.ty with
   | false,.slice e te,false,.int _=>match i,x,y,st.heap[jn]? with
     | .one (.int _ i),.one (.hdr u),.one (.int _ n),some (.nst _ t0 hs vs)=>
       match du e te t0 f (vs.getD i.toNat (qa t0)),q8 t0 f (hs.getD i.toNat (qa (hd t0)))with
       | some xs,some c=>if t0.flat2=true/\te.flat=true then
           some (i.toNat<vs.length/\i.toNat<hs.length/\c=u/\0<=n/\xs.length+n.toNat<=1048576,
             {(st.put d (.one (.own (st.heap.length+1))))with heap:=newRow (st.heap.set jn (iz e te t0 f i.toNat hs vs)++[.row e te xs true true st.heap.length]) e te (xs++List.replicate n.toNat (qa te)) true [st.heap.length]})
         else none
       | _,_=>none
     | _,_,_,_=>none
   | _,_,_,_=>none
 | _,_=>none
theorem WW (hT:bm P tt) {c:Call} {jn f t l:Nat} {ix x y:Operand} (ah:o.op= .call c) (M:c.callee= .builtin .append) (G:c.args= #[x,y]) (K:c.argTypes= #[t,l]) {p:Prop} {D:St}
 (hs:sd tt jn f t l (st.ev ix) (st.ev x) (st.ev y) o.dst st=some (p,D)) (al:p) (am:R w0 mine st a w) (ae: ∀h w',R w0 mine D h w'->next h w'):o.wp P a w next Q:=by
 obtain ⟨N,m,H,he⟩:=am
 have z:=R.ev H he x
 have A:=R.ev H he y
 unfold sd at hs
 split at hs
 ·rename_i ti a2 ap aq
  split at hs
  ·rename_i e te a7 I au J av
   split at hs
   ·rename_i k i u kq n F t0 g vs a6 ex E Z
    rw [ex]at z
    rw [E]at A
    have ay:a.eval x=u:=z.1
    have az:a.eval y= .int kq n:=A
    split at hs
    ·rename_i xs a3 X W
     split at hs
     ·rename_i q
      cases hs
      obtain ⟨aa,ab,rfl,af,ac⟩:=al
      have aw:vs[i.toNat]?=some (vs.getD i.toNat (qa t0)):=by simp [List.getD,aa]
      have Y:g[i.toNat]?=some (g.getD i.toNat (qa (Go.T.hd t0))):=by simp [List.getD,ab]
      obtain ⟨m1,ad,H1,ai,ao⟩:=H.take Z aw Y W X q.1
      have S:=bV ai ao he
      have ag:(n.toNat:Int)=n:=Int.toNat_of_nonneg af
      have r:(st.heap.set jn (iz e te t0 f i.toNat g vs)++[.row e te xs true true st.heap.length])[st.heap.length]?=some (.row e te xs true true st.heap.length):=by
       rw [List.getElem?_append_right (by simp)];simp
      have O:h9 (st.heap.set jn (iz e te t0 f i.toNat g vs)++[.row e te xs true true st.heap.length]) e te (.one (.own st.heap.length))=some (xs,true,[st.heap.length]):=by
       simp only [h9,r];simp
      obtain ⟨inner,B,aj,a0,an,ar⟩:=I4 (st:=⟨st.env,st.heap.set jn (iz e te t0 f i.toNat g vs)++[.row e te xs true true st.heap.length]⟩) H1 (x:= .one (.own st.heap.length)) (v:=a3)
       (by simp only [V,C,r];exact ad.symm) O
      obtain ⟨a4,w',s,ak,U,ax⟩:=WV (ty:=o.type) (kq:=kq) hT ap I au ((hT l a2 aq).int J _ av) aj (k:=n.toNat) ac
      have a1:Part w m1 (st.heap.set jn (iz e te t0 f i.toNat g vs)++[.row e te xs true true st.heap.length]) te (List.replicate n.toNat (qa te)) true ((List.replicate n.toNat (bI te)).flatten) []:=
       ⟨fun _=>rp (nu w) _,fun ok _ h2=>(rp (nu w) _).toKs fun x c b L hm=>M_K hm fun k hk=>h2 k (L k hk)⟩
      refine dZ (v:=a4) (w':=w') ?_ (I3 (st:=⟨st.env,st.heap.set jn (iz e te t0 f i.toNat g vs)++[.row e te xs true true st.heap.length]⟩) (o:=o) N H1 S a0 a1 an (fun _=>List.nil_sublist _) (fun _=>rfl) (by simp) ar (by rw [List.length_replicate];exact ak) U (IB _ _ _ s) ax ?_)
      ·simp only [execOp,ah,resolve,M,G,K,invoke,builtin,Sem.run_bind,Sem.run_pure,Result.andThen_ok,List.map_toArray,List.map_cons,List.map_nil,ay,az]
       rw [<-ag,s]
       rfl
      ·intro h a5 j
       refine ae h a5 ?_
       simp only [q.2,Bool.true_or,List.append_nil,List.length_append,List.length_set,List.length_singleton]at j
       have: ∀d:Option Tmp,(St.put ⟨st.env,st.heap.set jn (iz e te t0 f i.toNat g vs)++[.row e te xs true true st.heap.length]⟩ d (.one (.own (st.heap.length+1)))).env=(st.put d (.one (.own (st.heap.length+1)))).env:=fun d=>by cases d<;>rfl
       rw [this]at j
       exact j
     ·simp at hs
    ·simp at hs
   ·simp at hs
  ·simp at hs
 ·simp at hs
theorem zw: ∀{t:Ty} {f:Nat} {x:Val (hd t)} {cs:List Value} {B:List Nat} {e u:Value},M w (hd t) x cs B->q8 t f x=some e->u.oneCell'=true->M w (hd t) (q6 t f x u) (cs.set f u) B
 | .int _,_,_,_,_,_,_,_,c,_=>by simp [q8]at c
 | .bool,_,_,_,_,_,_,_,c,_=>by simp [q8]at c
 | .str,_,_,_,_,_,_,_,c,_=>by simp [q8]at c
 | .hdr,_,_,_,_,_,_,_,c,_=>by simp [q8]at c
 | .slice _ _,f,x,cs,B,e,u,hm,c,h1=>by
   cases f with
   | succ f=>simp [q8]at c
   | zero=>
     obtain ⟨⟨rfl,_⟩,i⟩:=hm
     exact ⟨⟨rfl,h1⟩,i⟩
 | .pair a b,f,x,cs,B,e,u,hm,c,h1=>by
   obtain ⟨c1,c2,g,h,rfl,rfl,m1,m2⟩:=hm
   have j:c1.length=a.sz:=by rw [fR m1,ey]
   simp only [q8]at c
   by_cases d:f<a.sz
   ·rw [if_pos d]at c
    simp only [q6,if_pos d]
    exact ⟨c1.set f u,c2,g,h,by rw [List.set_append_left _ _ (by omega)],rfl,zw m1 c h1,m2⟩
   ·rw [if_neg d]at c
    simp only [q6,if_neg d]
    exact ⟨c1,c2.set (f - a.sz) u,g,h,by rw [List.set_append_right _ _ (by omega),j],rfl,m1,zw m2 c h1⟩
theorem HR.setHd (H:HR w0 mine w m h) {id e n:Nat} {t:Ty} {xs:List (Val (hd t))} (a:h[id]?=some (.row e (hd t) xs true true n)) {i f:Nat} (d:i<xs.length) {J u:Value} (s:q8 t f (xs.getD i (qa (hd t)))=some J) (I:u.oneCell'=true):
 ∃g cur,(m.val id).ownBlock=some g/\w.heap[g]?=some (.cells cur e (0,0))/\i*t.sz+f+1<=cur.size/\
  HR w0 mine (w.setRow g (cur.toList.take (i*t.sz+f)++[u]++cur.toList.drop (i*t.sz+f+1)).toArray) m (h.set id (.row e (hd t) (xs.set i (q6 t f (xs.getD i (qa (hd t))) u)) true true n))/\
  Oks w (w.setRow g (cur.toList.take (i*t.sz+f)++[u]++cur.toList.drop (i*t.sz+f+1)).toArray) m m h (h.set id (.row e (hd t) (xs.set i (q6 t f (xs.getD i (qa (hd t))) u)) true true n))/\
  bA m m h (h.set id (.row e (hd t) (xs.set i (q6 t f (xs.getD i (qa (hd t))) u)) true true n)):=by
 obtain ⟨inner,o,q⟩:=H.br id _ a
 obtain ⟨g,cap,cur,v,j,r,Q,R⟩:=rk o d
 have D:xs[i]?=some (xs.getD i (qa (hd t))):=by simp [List.getD,List.getElem?_eq_getElem d]
 have E:f<(hd t).sz:=by rw [ey];exact K3 s
 have M:=rm (sz:=(hd t).sz) d
 have F:=ya o
 rw [<-ey t]
 refine ⟨g,cur,j,r,by omega,?_⟩
 rw [v]at o
 have p:=rj o r (i*(hd t).sz+f) [u] (by simp;omega)
 rw [<-v]at p
 simp only [List.length_singleton]at p
 rw [IU (l:=inner) (by omega),IV d F E]at p
 exact H.write (w':=w.setRow g (cur.toList.take (i*(hd t).sz+f)++[u]++cur.toList.drop (i*(hd t).sz+f+1)).toArray) (m':=m) (bu.refl h) a (x':= .row e (hd t) (xs.set i (q6 t f (xs.getD i (qa (hd t))) u)) true true n) rfl rfl (fun _ _=>rfl) rfl (by simp [Sim]) (fun b B=> .inl B) (H.nd id _ a:(fpB m id (.row e (hd t) xs true true n)).Nodup)
  (fun y b hk N=>(hk.2 id _ a:okB m y b id (.row e (hd t) xs true true n))) (g:=g) (by simp [fpB,j]) (nq w _ _ _ rfl) (fun y b hk he=>by
    have:=(hk.2 id _ a).1 (.inl rfl)
    rw [j,he]at this
    exact this rfl) (fun O P=>by
    refine ⟨_,by rw [List.length_set];exact p,?_⟩
    simp only at q ⊢
    refine ⟨?_,q.2⟩
    obtain ⟨K,b,L,z,A,G⟩:=yd (fun x c b hm=>fR hm) q.1 D
    have:=G _ _ b (zw A s I)
    rw [<-z]at this
    refine this.imp fun x c b C hm=>dX hm fun k hk=>setRow_other w g k _ fun e=> ?_
    exact rn H a j (e▸C k hk))
theorem HR.give (H:HR w0 mine w m h) {j:Nat} {F:List Nat} {t:Ty} {hs:List (Val (hd t))} {vs:List (Val t)} (o:h[j]?=some (.nst F t hs vs)) {e':Nat} {t':Ty} {f i:Nat} {v:Val t} {A:Val (hd t)} {x ys:List (Val t')} {id n:Nat}
 (aq:vs[i]?=some v) (al:hs[i]?=some A) (hu:q8 t f A=some (.slice none 0 0)) (ar:du e' t' t f v=some x) (l:h[id]?=some (.row e' t' ys true true n)) (ak:t'.flat=true):
 ∃e,HR w0 mine w m ((h.set id .dead).set j (.nst e t (hs.set i (q6 t f A (m.val id))) (vs.set i (bM e' t' t f v ys))))/\
  Oks w w m m h ((h.set id .dead).set j (.nst e t (hs.set i (q6 t f A (m.val id))) (vs.set i (bM e' t' t f v ys))))/\bA m m h ((h.set id .dead).set j (.nst e t (hs.set i (q6 t f A (m.val id))) (vs.set i (bM e' t' t f v ys)))):=by
 have aj:b0 w t vs hs F:=H.br j _ o
 have Z:=(List.getElem?_eq_some_iff.1 o).1
 have Y:=(List.getElem?_eq_some_iff.1 l).1
 have am:id≠j:=fun q=>by subst q;rw [o]at l;simp at l
 obtain ⟨R,av,S,I,aw,hk⟩:=zv aj aq al hu ar
 obtain ⟨inner,ae,O,_⟩:=H.br id _ l
 have ab:m.nst id=[]:=zs ak O
 rw [ab]at O
 have ao:(m.val id).oneCell'=true:=by
  rcases ae.2 with ⟨ag,_⟩ | ⟨g,cap,cur,ag,_⟩<;>rw [ag]<;>rfl
 have X:=hk w ys (m.val id) ((m.val id).ownBlock.toList++[]) (fun _ _=>rfl) ⟨m.val id,inner,[],rfl,rfl,ae,O⟩
 rw [List.append_nil]at X
 refine ⟨R++((m.val id).ownBlock.toList++S),?_⟩
 generalize hs.set i (q6 t f A (m.val id))=D at*
 generalize vs.set i (bM e' t' t f v ys)=G at*
 generalize V:R++((m.val id).ownBlock.toList++S)=e at*
 have get: ∀k y,((h.set id .dead).set j (.nst e t D G))[k]?=some y->(k=j/\y= .nst e t D G)∨(k=id/\y= .dead)∨(k≠j/\k≠id/\h[k]?=some y):=fun k y a=>by
  rw [List.getElem?_set]at a
  split at a
  ·rename_i q;subst q;simp [Z]at a;exact .inl ⟨rfl,a.symm⟩
  ·rename_i q
   rw [List.getElem?_set]at a
   split at a
   ·rename_i B;subst B;simp [Y]at a;exact .inr (.inl ⟨rfl,a.symm⟩)
   ·rename_i B;exact .inr (.inr ⟨fun z=>q z.symm,fun z=>B z.symm,a⟩)
 have M:fpB m id (.row e' t' ys true true n)=(m.val id).ownBlock.toList:=by simp [fpB,ab]
 have N: ∀b,b∈e->b∈F∨b∈(m.val id).ownBlock.toList:=fun b d=>by
  rw [<-V]at d;rw [I]
  rcases List.mem_append.1 d with h1 | h1
  ·exact .inl (by simp [h1])
  ·rcases List.mem_append.1 h1 with h1 | h1
   ·exact .inr h1
   ·exact .inl (by simp [h1])
 have W:F.Nodup:=H.nd j _ o
 rw [I]at W
 have Q:=List.nodup_append.1 W
 have au:=List.nodup_append.1 Q.2.1
 have an:((m.val id).ownBlock.toList).Nodup:=by cases (m.val id).ownBlock<;>simp
 have ac: ∀b,b∈(m.val id).ownBlock.toList->b∉F:=fun b d=>H.dj id _ j _ am l o b (by rw [M];exact d)
 have ai:e.Nodup:=by
  rw [<-V]
  refine List.nodup_append.2 ⟨Q.1,List.nodup_append.2 ⟨an,au.2.1,fun b d c u q=> ?_⟩,fun b d c u q=> ?_⟩
  ·subst q;exact ac b d (by rw [I];simp [u])
  ·subst q
   rcases List.mem_append.1 u with u | u
   ·exact ac b u (by rw [I];simp [d])
   ·exact Q.2.2 b d b (List.mem_append_right _ u) rfl
 have ad:Oks w w m m h ((h.set id .dead).set j (.nst e t D G)):=fun k b d _=>⟨rfl,d.1,fun i y a=>by
  rcases get i y a with ⟨rfl,rfl⟩ | ⟨rfl,rfl⟩ | ⟨_,_,r⟩
  ·intro hm
   rcases N b hm with h1 | h1
   ·exact d.2 _ _ o h1
   ·exact (d.2 id _ l).1 (.inl rfl) (by simpa using h1)
  ·trivial
  ·exact d.2 i y r⟩
 have af:bA m m h ((h.set id .dead).set j (.nst e t D G)):=fun i ah E=>by
  by_cases q:i=j
  ·subst q
   rw [o]at E;cases E
   exact ⟨.nst e t D G,by simp [Z],trivial⟩
  ·by_cases B:i=id
   ·subst B
    rw [l]at E;cases E
    exact ⟨.dead,by rw [List.getElem?_set_ne (fun z=>q z.symm),List.getElem?_set_self Y],ao⟩
   ·refine ⟨ah,by rw [List.getElem?_set_ne (fun z=>q z.symm),List.getElem?_set_ne (fun z=>B z.symm)];exact E,?_⟩
    cases ah<;>simp [Sim]
 refine ⟨⟨fun i y a=> ?_,fun i y a=> ?_,fun i y K L aa a r b p C=> ?_,fun i y a b p=> ?_,H.fr,H.mx,H.nx,fun i v ap=> ?_⟩,ad,af⟩
 ·rcases get i y a with ⟨rfl,rfl⟩ | ⟨rfl,rfl⟩ | ⟨_,_,r⟩
  ·exact X
  ·trivial
  ·exact eT ad af rfl rfl rfl (fun _ _=>rfl) (H.br i y r)
 ·rcases get i y a with ⟨rfl,rfl⟩ | ⟨rfl,rfl⟩ | ⟨_,_,r⟩
  ·exact ai
  ·exact List.nodup_nil
  ·exact H.nd i y r
 ·have key: ∀i y,h[i]?=some y->i≠j->i≠id-> ∀b,b∈fpB m i y->b∉e:=fun i y a h1 h2 b d hm=>by
   rcases N b hm with s | s
   ·exact H.dj i y j _ h1 a o b d s
   ·exact H.dj i y id _ h2 a l b d (by rw [M];exact s)
  rcases get i y a with ⟨rfl,rfl⟩ | ⟨rfl,rfl⟩ | ⟨h1,h2,J⟩
  ·rcases get K L r with ⟨rfl,rfl⟩ | ⟨rfl,rfl⟩ | ⟨T,U,P⟩
   ·exact aa rfl
   ·simp [fpB]at C
   ·exact key K L P T U b C p
  ·simp [fpB]at p
  ·rcases get K L r with ⟨rfl,rfl⟩ | ⟨rfl,rfl⟩ | ⟨T,U,P⟩
   ·exact key i y J h1 h2 b p C
   ·simp [fpB]at C
   ·exact H.dj i y K L aa J P b p C
 ·rcases get i y a with ⟨rfl,rfl⟩ | ⟨rfl,rfl⟩ | ⟨_,_,J⟩
  ·rcases N b p with s | s
   ·exact H.lt i _ o b s
   ·exact H.lt id _ l b (by rw [M];exact s)
  ·simp [fpB]at p
  ·exact H.lt i y J b p
 ·obtain ⟨h1,h2⟩:=H.pn i v ap
  exact ⟨by simpa using h1,h2⟩
end
end Go.T
namespace Go.T
open Go
theorem zx {e:Nat} {t':Ty}: ∀{t:Ty} {f:Nat} {v:Val t} {h:Val (hd t)} {u:Value} {y:List (Val t')},bC t v h=h->bC t (bM e t' t f v y) (q6 t f h u)=q6 t f h u
 | .int _,_,_,_,_,_,hm=>hm
 | .bool,_,_,_,_,_,hm=>hm
 | .str,_,_,_,_,_,hm=>hm
 | .hdr,_,_,_,_,_,hm=>hm
 | .slice _ _,_,_,_,_,_,_=>rfl
 | .pair a b,f,v,h,u,y,hm=>by
   obtain ⟨h1,h2⟩:=Prod.mk.injEq .. ▸(show (bC a v.1 h.1,bC b v.2 h.2)=(h.1,h.2) from hm)
   by_cases c:f<a.sz
   ·simp only [bC,bM,q6,if_pos c,h2,zx h1]
   ·simp only [bC,bM,q6,if_neg c,h1,zx h2]
theorem K5 {e:Nat} {t' t:Ty} {f i:Nat} {vs:List (Val t)} {hs:List (Val (hd t))} {dv:Val t} {dh:Val (hd t)} {u:Value} {y:List (Val t')} (g:hs.length=vs.length) (hm:qZ t vs hs=hs):
 qZ t (vs.set i (bM e t' t f (vs.getD i dv) y)) (hs.set i (q6 t f (hs.getD i dh) u))=hs.set i (q6 t f (hs.getD i dh) u):=by
 apply List.ext_getElem?
 intro k
 simp only [qZ,List.getElem?_zipWith,List.getElem?_set]
 by_cases hk:i=k
 ·subst hk
  by_cases b:i<vs.length
  ·have a:i<hs.length:=by omega
   have:=lP hm (List.getElem?_eq_getElem b) (List.getElem?_eq_getElem a)
   simp [b,a,List.getD,zx this]
  ·have a: ¬i<hs.length:=by omega
   simp [b,a]
 ·simp only [if_neg hk]
  cases c:vs[k]? with
  | none=>rw [List.getElem?_eq_none (by have:=List.getElem?_eq_none_iff.1 c;omega)]
  | some v=>
    cases d:hs[k]? with
    | none=>rfl
    | some h=>simp [lP hm c d]
theorem K6 {α:Type} {l:List α} {i:Nat} {x d:α} (a:i<l.length):(l.set i x).getD i d=x:=by simp [List.getD,a]
theorem K7 {α:Type} (l:List α) (d:α) (n:Nat) (a:n=l.length):((List.range n).map fun i=>l.getD i d)=l:=by
 subst a
 apply List.ext_getElem?
 intro k
 simp only [List.getElem?_map]
 by_cases hk:k<l.length
 ·simp [hk,List.getD]
 ·rw [List.getElem?_eq_none (l:=List.range l.length) (by simp;omega),List.getElem?_eq_none (by omega)];rfl
section
variable {P : Program} {tt : TT} {w0 w w' : World} {mine : Mine} {m m' : Mp} {h : List Blk} {st : St} {a : Act} {o : Oper} {next : Act -> World -> Prop} {Q : Exit -> Act -> World -> Prop}
def se (tt:TT) (jn t:Nat) (x y:LV) (st:St):Res:=match tt.get t with
 | some ti=>match ti.agg,ti.ty with
   | false,.slice e te=>match x,y with
     | .one (.ptr id i f),.one (.own c)=>match st.heap[id]?,st.heap[jn]?,st.heap[c]? with
       | some (.row d t1 b true true _),some (.nst _ t0 hs vs),some (.row g t2 h true true _)=>
         if a:t1=hd t0/\g=e/\t2=te then
          match du e te t0 f (vs.getD i (qa t0)),q8 t0 f ((a.1▸b:List (Val (hd t0))).getD i (qa (hd t0)))with
          | some _,some _=>if te.flat=true/\id≠c then
              some (i<vs.length/\hs.length=vs.length/\qZ t0 vs hs=hs/\hs=(a.1▸b:List (Val (hd t0))).set i (q6 t0 f ((a.1▸b:List (Val (hd t0))).getD i (qa (hd t0))) (.slice none 0 0)),
               {st with heap:=((st.heap.set c .dead).set jn .dead).set id (.row d t0 (vs.set i (bM e te t0 f (vs.getD i (qa t0)) (a.2.2▸h))) true true 0)})
            else none
          | _,_=>none
         else none
       | _,_,_=>none
     | _,_=>none
   | _,_=>none
 | none=>none
theorem WX (hT:bm P tt) {jn t:Nat} {x y:Operand} (a3:o.op= .store t x y) (ar:o.dst=none) {p:Prop} {al:St}
 (hs:se tt jn t (st.ev x) (st.ev y) st=some (p,al)) (a8:p) (a9:R w0 mine st a w) (a1: ∀W w',R w0 mine al W w'->next W w'):o.wp P a w next Q:=by
 obtain ⟨aq,m,H,he⟩:=a9
 have O:=R.ev H he x
 have ak:=R.ev H he y
 unfold se at hs
 split at hs
 ·rename_i ti aB
  have E:=hT t ti aB
  split at hs
  ·rename_i e te J aE
   split at hs
   ·rename_i id i f b ex A
    rw [ex]at O
    rw [A]at ak
    split at hs
    ·rename_i s t1 c S F t0 r vs h t2 G aF v B k
     split at hs
     ·rename_i aw
      obtain ⟨rfl,rfl,rfl⟩:=aw
      split at hs
      ·rename_i aH aG av L
       split at hs
       ·rename_i X
        cases hs
        obtain ⟨M,a0,hm,z⟩:=a8
        simp only at L z
        have aa:i<c.length:=by have:=congrArg List.length z;simp at this;omega
        have ax:i<r.length:=by omega
        simp only [V,C,k]at ak
        simp only [V,C,v]at O
        obtain ⟨g0,Y,aj⟩:=O
        have N:id≠jn:=fun q=>by subst q;rw [B]at v;simp at v
        have aC:b≠jn:=fun q=>by subst q;rw [B]at k;simp at k
        have ay:=(List.getElem?_eq_some_iff.1 v).1
        have az:=(List.getElem?_eq_some_iff.1 B).1
        have Z:r.getD i (qa (Go.T.hd t0))=q6 t0 f (c.getD i (qa (Go.T.hd t0))) (.slice none 0 0):=by rw [z,K6 aa]
        obtain ⟨I,H1,ad,ag⟩:=H.give (f:=f) (i:=i) B (show vs[i]?=some (vs.getD i (qa t0)) by simp [List.getD,M]) (show r[i]?=some (r.getD i (qa (Go.T.hd t0))) by simp [List.getD,ax])
                (by rw [Z];exact zp L) av k X.1
        
        have a6:(m.val b).oneCell'=true:=by
                obtain ⟨inner,a7,_⟩:=H.br b _ k
                rcases a7.2 with ⟨ai,_⟩ | ⟨g,cap,cur,ai,_⟩<;>rw [ai]<;>rfl
        have a2:r.set i (q6 t0 f (r.getD i (qa (Go.T.hd t0))) (m.val b))=c.set i (q6 t0 f (c.getD i (qa (Go.T.hd t0))) (m.val b)):=by
                rw [Z,zq]
                conv=>lhs;rw [z]
                rw [List.set_set]
        have ac:=K5 (e:=h) (t':=t2) (f:=f) (i:=i) (dv:=qa t0) (dh:=qa (Go.T.hd t0)) (u:=m.val b) (y:=G) a0 hm
        rw [a2]at H1 ad ag ac
        have ab:(c.set i (q6 t0 f (c.getD i (qa (Go.T.hd t0))) (m.val b))).length=(vs.set i (bM h t2 t0 f (vs.getD i (qa t0)) G)).length:=by
                have:=congrArg List.length z
                simp at this ⊢;omega
        have ap:((st.heap.set b .dead).set jn (.nst I t0 (c.set i (q6 t0 f (c.getD i (qa (Go.T.hd t0))) (m.val b))) (vs.set i (bM h t2 t0 f (vs.getD i (qa t0)) G))))[id]?=some (.row s (Go.T.hd t0) c true true S):=by
                rw [List.getElem?_set_ne (fun q=>N q.symm),List.getElem?_set_ne (fun q=>X.2 q.symm)];exact v
        obtain ⟨g,cur,a4,au,aD,am,a5,aA⟩:=H1.setHd ap aa L a6
        obtain rfl:g=g0:=by rw [a4]at Y;exact Option.some.inj Y
        obtain ⟨K,h1⟩:=jI H.br (R.ev H he y) (by rw [A];rfl) (by rw [A];exact Nat.zero_lt_one)
        rw [A]at K
        have hu:(a.eval y).cells.toList=[m.val b]:=by
                generalize (a.eval y).cells.toList=l at K
                cases K with
                | cons h1 h2=>
                  cases h2
                  simp only [C,k]at h1
                  rw [h1]
        have hlen:(a.eval y).cells.toList.length=ti.ty.sz:=by rw [hu,E.one J];rfl
        have af:=ri (P:=P) (w:=w) (f:=i*t0.sz+f) E au hlen (by rw [E.one J];omega) h1
        rw [hu,E.one J]at af
        rw [ey]at aj
        refine q2 (w':=w.setRow g (cur.toList.take (i*t0.sz+f)++[m.val b]++cur.toList.drop (i*t0.sz+f+1)).toArray) (by simp only [execOp,a3,aj,Instr.storeAt,Instr.sureAddr,Sem.run_bind,Sem.run_pure,Result.andThen_ok,af]) (a1 _ _ ?_)
        generalize c.set i (q6 t0 f (c.getD i (qa (Go.T.hd t0))) (m.val b))=D at*
        generalize vs.set i (bM h t2 t0 f (vs.getD i (qa t0)) G)=d at*
        have an:=K7 D (qa (Go.T.hd t0)) d.length ab.symm
        have h:=K7 d (qa t0) d.length rfl
        obtain ⟨m3,U,ae,ah⟩:=am.cls (is:=List.range d.length) (hs:=D) (vs:=d) (F:=I) (t:=t0) (e:=s) (id:=id) (j:=jn) (mt:=true) (n:=S)
                (by rw [an,List.getElem?_set_self (by simpa using ay)]) (by rw [List.getElem?_set_ne N,List.getElem?_set_self (by simpa using az)]) List.nodup_range (fun i M=>by simpa using M) ac ab
        have ao:((((st.heap.set b .dead).set jn (.nst I t0 D d)).set id (.row s (Go.T.hd t0) D true true S)).set jn .dead).set id (.row s t0 d true true 0)=((st.heap.set b .dead).set jn .dead).set id (.row s t0 d true true 0):=by
                rw [List.set_comm _ _ N,List.set_set,List.set_set]
        rw [h,ao]at U ae ah
        refine ⟨by rw [c0];exact aq,m3,U,?_⟩
        rw [ar]
        exact bV ae ah (bV a5 aA (bV ad ag he))
       ·simp at hs
      ·simp at hs
     ·simp at hs
    ·simp at hs
   ·simp at hs
  ·simp at hs
 ·simp at hs
end
end Go.T
namespace Go.T
open Go
abbrev Azs:=List (Nat×Nat×Nat×Nat)
abbrev Gvs:=List (Nat×Nat)
def Azs.get:Azs->Nat->Option (Nat×Nat×Nat)
 | [],_=>none
 | (d,x)::r,d'=>if d=d' then some x else Azs.get r d'
def Gvs.get:Gvs->Nat->Option Nat
 | [],_=>none
 | (d,x)::r,d'=>if d=d' then some x else Gvs.get r d'
def sg (tt:TT) (a:Azs) (b:Gvs) (S:Sem):Sem:=fun o st=>match o.op with
 | .call c=>match o.dst,c.callee,c.args.toList,c.argTypes.toList with
   | some d,.builtin .append,[x,y],[t,e]=>match Azs.get a d with
     | some (jn,f,ix)=>sd tt jn f t e (st.ev (.tmp ix)) (st.ev x) (st.ev y) (some d) st
     | none=>none
   | _,_,_,_=>S o st
 | .store t (.tmp x) y=>match o.dst,Gvs.get b x with
   | none,some jn=>se tt jn t (st.ev (.tmp x)) (st.ev y) st
   | _,_=>none
 | _=>S o st
theorem WY {P:Program} {tt:TT} (hT:bm P tt) {m:Azs} {n:Gvs} {S:Sem} (h:dt P S):dt P (sg tt m n S):=by
 intro o st p l hs e w0 mine a w next Q g b
 unfold sg at hs
 split at hs
 ·rename_i c k
  split at hs
  ·rename_i d x y t s hd q i j
   have i:c.args= #[x,y]:=by rw [<-Array.toList_inj,i]
   have j:c.argTypes= #[t,s]:=by rw [<-Array.toList_inj,j]
   split at hs
   ·rename_i jn f ix r
    exact WW hT (ix:= .tmp ix) k q i j (by rw [hd];exact hs) e g b
   ·simp at hs
  ·exact h o st p l hs e w0 mine a w next Q g b
 ·rename_i t x y k
  split at hs
  ·rename_i jn hd r
   exact WX hT k hd hs e g b
  ·simp at hs
 ·exact h o st p l hs e w0 mine a w next Q g b
attribute [simp] Azs.get Gvs.get sg sd se iz q6 Ty.flat2
end Go.T
