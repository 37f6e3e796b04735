import Derived.Test.YtllelgnepalfjaaGreatT4
import Derived.Laws.CopyRow
set_option linter.unusedSimpArgs false
set_option linter.unusedVariables false
namespace Go.T
open Go
def okC (w:World) (m:Mp) (h:List Blk) (ok:Nat->Prop):LC->Prop
 | .sl _ _ _ n=> ∀b,qM m h n b->b<w.heap.size->ok b
 | .own id=> ∀x,h[id]?=some x->(∀b∈fpB m id x,ok b)/\(match x with
   | .row _ _ _ false _ n=> ∀b,qM m h n b->b<w.heap.size->ok b
   | _=>True)
 | _=>True
theorem ib {w:World} {m:Mp} {h:List Blk} {ok:Nat->Prop} (H: ∀id x,h[id]?=some x->BR w m h id x): ∀{t:Ty} {lcs:List LC} {vs:List Value} {v:Val t} {rest:List LC},
 F2 (C w m h) lcs vs->qL h t lcs=some (v,rest)->(∀c∈lcs,okC w m h ok c)-> ∃p D,vs=p++D/\K w ok t v p/\F2 (C w m h) rest D/\ ∃pre,lcs=pre++rest
 | .int k,lcs,vs,v,rest,g,d,_hok=>by
   cases g with
   | nil=>simp [qL]at d
   | cons f j=>
     rename_i c u cs us
     cases c<;>first | (simp [qL]at d;done) | skip
     all_goals simp only [qL]at d
     split at d
     ·rename_i e;subst e;cases d
      simp only [C]at f;subst f
      exact ⟨[_],us,rfl,by rw [K],j,[_],rfl⟩
     ·simp at d
 | .bool,lcs,vs,v,rest,g,d,_hok=>by
   cases g with
   | nil=>simp [qL]at d
   | cons f j=>
     rename_i c u cs us
     cases c<;>first | (simp [qL]at d;done) | skip
     all_goals simp only [qL]at d
     cases d
     simp only [C]at f;subst f
     exact ⟨[_],us,rfl,by rw [K],j,[_],rfl⟩
 | .str,lcs,vs,v,rest,g,d,_hok=>by
   cases g with
   | nil=>simp [qL]at d
   | cons f j=>
     rename_i c u cs us
     cases c<;>first | (simp [qL]at d;done) | skip
     all_goals simp only [qL]at d
     cases d
     simp only [C]at f;subst f
     exact ⟨[_],us,rfl,by rw [K],j,[_],rfl⟩
 | .hdr,lcs,vs,v,rest,g,d,_hok=>by
   cases g with
   | nil=>simp [qL]at d
   | cons f j=>
     rename_i c u cs us
     cases c<;>first | (simp [qL]at d;done) | skip
     all_goals simp only [qL]at d
     cases d
     obtain ⟨rfl,h1⟩:=f
     exact ⟨[_],us,rfl,by rw [K];exact ⟨rfl,h1⟩,j,[_],rfl⟩
 | .slice e t,lcs,vs,v,rest,g,d,q=>by
   cases g with
   | nil=>simp [qL]at d
   | cons f j=>
     rename_i c u cs us
     have F:=q c (by simp)
     cases c<;>first | (simp [qL]at d;done) | skip
     all_goals simp only [qL]at d
     case sl e' t' xs n=>
        split at d
        ·rename_i he
         obtain ⟨rfl,rfl⟩:=he
         cases d
         obtain ⟨A,c,rfl,s,B⟩:=f
         exact ⟨[_],us,rfl,by rw [K];exact ⟨A,c,rfl,s,lL (fun b _ _=>rfl) (fun b l z=>F b l z) B⟩,j,[_],rfl⟩
        ·simp at d
     case nils=>
        cases d
        simp only [C]at f;subst f
        exact ⟨[_],us,rfl,by rw [K];exact ⟨none,0,rfl,Nat.le_refl _,fun i x o=>by simp at o⟩,j,[_],rfl⟩
     case own id=>
        split at d
        ·rename_i e' t' xs dp mt n o
         split at d
         ·rename_i he
          obtain ⟨rfl,rfl⟩:=he
          cases d
          simp only [C,o]at f
          subst f
          obtain ⟨E,R⟩:=F _ o
          obtain ⟨inner,S,r⟩:=H id _ o
          have Q:Ks (K w ok t') xs inner:=by
             cases dp with
             | true=>
               exact r.1.toKs fun x c b l J=>M_K J fun k hk=>E k (by simp only [fpB];exact List.mem_append_right _ (l k hk))
             | false=>
               simp only at r
               exact r.imp fun x c hk=>cv (fun b _ _=>rfl) (fun b l z=>R b l z) hk
          obtain ⟨A,c,U,s,B⟩:=p2 (ok:=ok) S (fun x c hk=>cE hk) Q (fun b l=>E b (by simp only [fpB];exact List.mem_append_left _ (by simp [l])))
          refine ⟨[_],us,rfl,?_,j,[_],rfl⟩
          rw [K]
          exact ⟨A,c,by rw [U],s,B⟩
         ·simp at d
        ·simp at d
 | .pair a b,lcs,vs,v,rest,g,d,q=>by
   simp only [qL]at d
   split at d
   ·rename_i x cs L
    split at d
    ·rename_i y cs' l
     cases d
     obtain ⟨p,D,rfl,O,M,pre,G⟩:=ib H g L q
     obtain ⟨I,W,rfl,P,N,V,T⟩:=ib H M l (fun c f=>q c (by rw [G];simp [f]))
     refine ⟨p++I,W,by simp,?_,N,pre++V,by rw [G,T];simp⟩
     rw [K]
     exact ⟨p,I,rfl,O,P⟩
    ·simp at d
   ·simp at d
def qY (m:Mp) (h:List Blk) (ids:List Nat):List Nat:=ids.flatMap fun id=>match h[id]? with
 | some x=>fpB m id x
 | none=>[]
theorem ic (m:Mp) (h:List Blk) (a b:List Nat):qY m h (a++b)=qY m h a++qY m h b:=by simp [qY]
theorem ns (a b:List LC):qG (a++b)=qG a++qG b:=by simp [qG]
theorem ya {w:World} {base:Nat} {e:TypeId} {size:Nat} {v:Value} {n:Nat} {xs:List Value} (h:w.ownsRow base e size v n xs):xs.length=n*size:=h.1
theorem yb {w:World} {ok:Nat->Prop}: ∀{t:Ty} {v:Val t} {cs:List Value},t.flat=true->K w ok t v cs->M w t v cs []
 | .int _,_,_,_,h=>by rw [K]at h;rw [M];exact ⟨h,rfl⟩
 | .bool,_,_,_,h=>by rw [K]at h;rw [M];exact ⟨h,rfl⟩
 | .str,_,_,_,h=>by rw [K]at h;rw [M];exact ⟨h,rfl⟩
 | .hdr,_,_,_,h=>by rw [K]at h;rw [M];exact ⟨h,rfl⟩
 | .slice _ _,_,_,c,_=>by simp [Ty.flat]at c
 | .pair a b,_,_,c,h=>by
   simp [Ty.flat]at c
   rw [K]at h;rw [M]
   obtain ⟨c1,c2,rfl,h1,h2⟩:=h
   exact ⟨c1,c2,[],[],rfl,rfl,yb c.1 h1,yb c.2 h2⟩
theorem rf {w:World} {ok:Nat->Prop} {t:Ty} (a:t.flat=true): ∀{xs:List (Val t)} {cs:List Value},Ks (K w ok t) xs cs->Ms (M w t) xs cs []
 | [],_,h=>⟨h,rfl⟩
 | x::xs,_,h=>by
   obtain ⟨c1,c2,rfl,h1,h2⟩:=h
   exact ⟨c1,c2,[],[],rfl,rfl,yb a h1,rf a h2⟩
theorem ie {w:World} {m:Mp} {h:List Blk} (H: ∀id x,h[id]?=some x->BR w m h id x): ∀{t:Ty} {lcs:List LC} {vs:List Value} {v:Val t} {rest:List LC},
 F2 (C w m h) lcs vs->qL h t lcs=some (v,rest)->bR h lcs=true-> ∃l p pre,vs=l++p/\lcs=pre++rest/\M w t v l (qY m h (qG pre))/\F2 (C w m h) rest p
 | .int k,lcs,vs,v,rest,g,d,_hok=>by
   cases g with
   | nil=>simp [qL]at d
   | cons f i=>
     rename_i c u cs us
     cases c<;>first | (simp [qL]at d;done) | skip
     all_goals simp only [qL]at d
     split at d
     ·rename_i e;subst e;cases d
      simp only [C]at f;subst f
      exact ⟨[_],us,[_],rfl,rfl,by rw [M];exact ⟨rfl,rfl⟩,i⟩
     ·simp at d
 | .bool,lcs,vs,v,rest,g,d,_hok=>by
   cases g with
   | nil=>simp [qL]at d
   | cons f i=>
     rename_i c u cs us
     cases c<;>first | (simp [qL]at d;done) | skip
     all_goals simp only [qL]at d
     cases d
     simp only [C]at f;subst f
     exact ⟨[_],us,[_],rfl,rfl,by rw [M];exact ⟨rfl,rfl⟩,i⟩
 | .str,lcs,vs,v,rest,g,d,_hok=>by
   cases g with
   | nil=>simp [qL]at d
   | cons f i=>
     rename_i c u cs us
     cases c<;>first | (simp [qL]at d;done) | skip
     all_goals simp only [qL]at d
     cases d
     simp only [C]at f;subst f
     exact ⟨[_],us,[_],rfl,rfl,by rw [M];exact ⟨rfl,rfl⟩,i⟩
 | .hdr,lcs,vs,v,rest,g,d,_hok=>by
   cases g with
   | nil=>simp [qL]at d
   | cons f i=>
     rename_i c u cs us
     cases c<;>first | (simp [qL]at d;done) | skip
     all_goals simp only [qL]at d
     cases d
     obtain ⟨rfl,h1⟩:=f
     exact ⟨[_],us,[_],rfl,rfl,by rw [M];exact ⟨⟨rfl,h1⟩,rfl⟩,i⟩
 | .slice e t,lcs,vs,v,rest,g,d,j=>by
   cases g with
   | nil=>simp [qL]at d
   | cons f i=>
     rename_i c u cs us
     simp only [bR,List.all_cons,Bool.and_eq_true]at j
     cases c<;>first | (simp [qL]at d;done) | skip
     all_goals simp only [qL]at d
     case sl e' t' xs n=>simp [LC.deep]at j
     case nils=>
        cases d
        simp only [C]at f;subst f
        exact ⟨[_],us,[_],rfl,rfl,by rw [M];exact ⟨.slice none 0 0,[],[],rfl,by simp [qY,qG,LC.movedId,Value.ownBlock],World.ownsRow_nil w 0 e t.sz,rfl,rfl⟩,i⟩
     case own id=>
        split at d
        ·rename_i e' t' xs dp mt n o
         split at d
         ·rename_i he
          obtain ⟨rfl,rfl⟩:=he
          cases d
          simp only [C,o]at f
          subst f
          have A:dp=true:=by simpa [LC.deep,o] using j.1
          subst A
          obtain ⟨inner,I,E⟩:=H id _ o
          refine ⟨[_],us,[_],rfl,rfl,?_,i⟩
          rw [M]
          exact ⟨_,inner,m.nst id,rfl,by simp [qY,qG,LC.movedId,o,fpB],I,E.1⟩
         ·simp at d
        ·simp at d
 | .pair a b,lcs,vs,v,rest,g,d,j=>by
   simp only [qL]at d
   split at d
   ·rename_i x cs s
    split at d
    ·rename_i y cs' z
     cases d
     obtain ⟨l,p,pre,rfl,q,F,B⟩:=ie H g s j
     obtain ⟨r,L,K,rfl,J,G,D⟩:=ie H B z (by
         subst q
         simp only [bR,List.all_append,Bool.and_eq_true]at j
         exact j.2)
     refine ⟨l++r,L,pre++K,by simp,by rw [q,J];simp,?_,D⟩
     rw [M,ns,ic]
     exact ⟨l,r,_,_,rfl,rfl,F,G⟩
    ·simp at d
   ·simp at d
theorem rh {w:World} {m:Mp} {h:List Blk} {ok:Nat->Prop}: ∀{t:Ty} {v g:Val t} {cs:List Value} {f:Nat} {c:LC} {u:Value},K w ok t v cs->bS t v f c=some g->C w m h c u->f<t.sz/\K w ok t g (cs.set f u)
 | .int k,v,g,cs,f,c,u,hk,hs,d=>by
   rw [K]at hk;subst hk
   cases f<;>cases c<;>first | (simp [bS]at hs;done) | skip
   all_goals simp only [bS]at hs
   split at hs
   ·rename_i e;subst e;cases hs
    simp only [C]at d;subst d
    exact ⟨by simp [Ty.sz],by rw [K];rfl⟩
   ·simp at hs
 | .bool,v,g,cs,f,c,u,hk,hs,d=>by
   rw [K]at hk;subst hk
   cases f<;>cases c<;>first | (simp [bS]at hs;done) | skip
   all_goals simp only [bS]at hs
   cases hs
   simp only [C]at d;subst d
   exact ⟨by simp [Ty.sz],by rw [K];rfl⟩
 | .str,v,g,cs,f,c,u,hk,hs,d=>by
   rw [K]at hk;subst hk
   cases f<;>cases c<;>first | (simp [bS]at hs;done) | skip
   all_goals simp only [bS]at hs
   cases hs
   simp only [C]at d;subst d
   exact ⟨by simp [Ty.sz],by rw [K];rfl⟩
 | .hdr,v,g,cs,f,c,u,hk,hs,d=>by
   cases f<;>cases c<;>simp [bS]at hs
 | .slice _ _,v,g,cs,f,c,u,hk,hs,d=>by
   cases f<;>cases c<;>simp [bS]at hs
 | .pair a b,v,g,cs,f,c,u,hk,hs,d=>by
   rw [K]at hk
   obtain ⟨c1,c2,rfl,h1,h2⟩:=hk
   have n:=cE h1
   simp only [bS]at hs
   split at hs
   ·rename_i l
    split at hs
    ·rename_i x o;cases hs
     obtain ⟨j,i⟩:=rh h1 o d
     refine ⟨by simp [Ty.sz];omega,?_⟩
     rw [K,List.set_append_left _ _ (by omega)]
     exact ⟨_,_,rfl,i,h2⟩
    ·simp at hs
   ·rename_i l
    split at hs
    ·rename_i y p;cases hs
     obtain ⟨j,i⟩:=rh h2 p d
     refine ⟨by simp [Ty.sz];omega,?_⟩
     rw [K,List.set_append_right _ _ (by omega),n]
     exact ⟨_,_,rfl,h1,i⟩
    ·simp at hs
theorem yc {w:World} {m:Mp} {h:List Blk}: ∀{t:Ty} {v g:Val t} {cs:List Value} {B:List Nat} {f:Nat} {c:LC} {u:Value},M w t v cs B->bS t v f c=some g->C w m h c u->M w t g (cs.set f u) B
 | .int k,v,g,cs,B,f,c,u,hk,hs,d=>by
   rw [M]at hk;obtain ⟨rfl,rfl⟩:=hk
   cases f<;>cases c<;>first | (simp [bS]at hs;done) | skip
   all_goals simp only [bS]at hs
   split at hs
   ·rename_i e;subst e;cases hs
    simp only [C]at d;subst d
    rw [M];exact ⟨rfl,rfl⟩
   ·simp at hs
 | .bool,v,g,cs,B,f,c,u,hk,hs,d=>by
   rw [M]at hk;obtain ⟨rfl,rfl⟩:=hk
   cases f<;>cases c<;>first | (simp [bS]at hs;done) | skip
   all_goals simp only [bS]at hs
   cases hs
   simp only [C]at d;subst d
   rw [M];exact ⟨rfl,rfl⟩
 | .str,v,g,cs,B,f,c,u,hk,hs,d=>by
   rw [M]at hk;obtain ⟨rfl,rfl⟩:=hk
   cases f<;>cases c<;>first | (simp [bS]at hs;done) | skip
   all_goals simp only [bS]at hs
   cases hs
   simp only [C]at d;subst d
   rw [M];exact ⟨rfl,rfl⟩
 | .hdr,v,g,cs,B,f,c,u,hk,hs,d=>by
   cases f<;>cases c<;>simp [bS]at hs
 | .slice _ _,v,g,cs,B,f,c,u,hk,hs,d=>by
   cases f<;>cases c<;>simp [bS]at hs
 | .pair a b,v,g,cs,B,f,c,u,hk,hs,d=>by
   rw [M]at hk
   obtain ⟨c1,c2,o,p,rfl,rfl,h1,h2⟩:=hk
   have j:=fR h1
   simp only [bS]at hs
   split at hs
   ·rename_i i
    split at hs
    ·rename_i x l;cases hs
     rw [M,List.set_append_left _ _ (by omega)]
     exact ⟨_,_,_,_,rfl,rfl,yc h1 l d,h2⟩
    ·simp at hs
   ·rename_i i
    split at hs
    ·rename_i y n;cases hs
     rw [M,List.set_append_right _ _ (by omega),j]
     exact ⟨_,_,_,_,rfl,rfl,h1,yc h2 n d⟩
    ·simp at hs
theorem yd {α:Type} {T:α->List Value->List Nat->Prop} {xs:List α} {cs:List Value} {B:List Nat} {sz:Nat} (hs: ∀x c b,T x c b->c.length=sz) (h:Ms T xs cs B) {i:Nat} {x:α} (j:xs[i]?=some x):
 ∃f b g,B=f++b++g/\T x ((cs.drop (i*sz)).take sz) b/\ ∀x' d a,T x' d a->Ms T (xs.set i x') (cs.take (i*sz)++d++cs.drop (i*sz+sz)) (f++a++g):=by
 induction xs generalizing cs B i with
 | nil=>simp at j
 | cons y xs q=>
   obtain ⟨c1,c2,k,n,rfl,rfl,h1,h2⟩:=h
   have l:=hs _ _ _ h1
   cases i with
   | zero=>
     simp at j;subst j
     refine ⟨[],k,n,by simp,?_,fun x' d a m=> ?_⟩
     ·have:((c1++c2).drop (0*sz)).take sz=c1:=by simp [<-l]
      rw [this];exact h1
     ·simp only [Nat.zero_mul,List.take_zero,List.nil_append,Nat.zero_add,List.set_cons_zero]
      exact ⟨d,c2,a,n,by rw [<-l];simp,rfl,m,h2⟩
   | succ i=>
     obtain ⟨f,b,g,rfl,m,o⟩:=q h2 (i:=i) (by simpa using j)
     have e:(i+1)*sz=c1.length+i*sz:=by rw [l,Nat.succ_mul,Nat.add_comm]
     refine ⟨k++f,b,g,by simp,?_,fun x' d a p=> ?_⟩
     ·rw [e,List.drop_append,List.drop_eq_nil_of_le (by omega)]
      simpa using m
     ·refine ⟨c1,c2.take (i*sz)++d++c2.drop (i*sz+sz),k,f++a++g,?_,by simp,h1,o x' d a p⟩
      rw [e,show c1.length+i*sz+sz=c1.length+(i*sz+sz) by omega,List.drop_append,List.take_append,List.drop_eq_nil_of_le (by omega),List.take_of_length_le (by omega)]
      simp
end Go.T
namespace Go.T
open Go
section
variable {w0 w w' : World} {mine : Mine} {m m' : Mp} {h h1 : List Blk}
theorem UI {id:Nat} {x:Blk} (c:m'.val id=m.val id) (a:m'.blk id=m.blk id) (b:m'.nst id=m.nst id):fpB m' id x=fpB m id x:=by
 cases x<;>simp [fpB,c,a,b]
theorem UJ {n b id:Nat} {x:Blk} (d:m'.val id=m.val id) (a:m'.blk id=m.blk id) (c:m'.nst id=m.nst id):okB m' n b id x↔okB m n b id x:=by
 cases x<;>simp [okB,d,a,c]
theorem HR.write (H:HR w0 mine w m h) (hw:bu h h1) {id:Nat} {x x':Blk} (o:h1[id]?=some x)
 (D:m'.val=m.val) (A:m'.blk=m.blk) (K: ∀i,i≠id->m'.nst i=m.nst i) (N:m'.ext=m.ext) (ac:Sim m m' id x x')
 (I: ∀b∈fpB m' id x',b∈fpB m id x∨(b<w.heap.size/\(w0.heap.size<=b∨mine.own b)/\ ∀i y,h1[i]?=some y->i≠id->b∉fpB m i y))
 (R:(fpB m' id x').Nodup) (T: ∀n b,qM m h n b->b<w.heap.size->okB m' n b id x') {g:Nat} (O:g∈fpB m id x)
 (s:Fr (fun k=>k=g) w w') (W: ∀n b,qM m h n b->b≠g)
 (Q:Oks w w' m m' h (h1.set id x')->bA m m' h (h1.set id x')->BR w' m' (h1.set id x') id x'):
 HR w0 mine w' m' (h1.set id x')/\Oks w w' m m' h (h1.set id x')/\bA m m' h (h1.set id x'):=by
 obtain ⟨H1,S,V⟩:=H.weaker hw
 have P:=(List.getElem?_eq_some_iff.1 o).1
 have get: ∀i y,(h1.set id x')[i]?=some y->(i≠id/\h1[i]?=some y)∨(i=id/\y=x'):=fun i y c=>by
  by_cases e:id=i
  ·subst e
   rw [List.getElem?_set_self P]at c
   cases c;exact .inr ⟨rfl,rfl⟩
  ·rw [List.getElem?_set_ne e]at c
   exact .inl ⟨fun h=>e h.symm,c⟩
 have q: ∀i y,i≠id->fpB m' i y=fpB m i y:=fun i y a=>UI (by rw [D]) (by rw [A]) (K i a)
 have L:Oks w w' m m' h (h1.set id x'):=fun n b B t=>⟨s.block b t (W n b B),by rw [N];exact B.1,fun i y c=>by
  rcases get i y c with ⟨a,f⟩ | ⟨rfl,rfl⟩
  ·exact (UJ (by rw [D]) (by rw [A]) (K i a)).2 ((S n b B t).2.2 i y f)
  ·exact T n b B t⟩
 have hs:bA m m' h (h1.set id x'):=fun i y c=>by
  obtain ⟨l,p,ad⟩:=V i y c
  by_cases e:id=i
  ·subst e
   rw [o]at p;cases p
   refine ⟨x',List.getElem?_set_self P,?_⟩
   cases y<;>cases x<;>cases x'<;>simp_all [Sim]
  ·refine ⟨l,by rw [List.getElem?_set_ne e];exact p,?_⟩
   cases y<;>cases l<;>simp_all [Sim]
 refine ⟨⟨fun i y c=> ?_,fun i y c=> ?_,fun i l u z a F G b d r=> ?_,fun i y c b d=> ?_,s.lift H1 fun k hk=>⟨id,x,o,hk▸O⟩,N.trans H.mx,H.nx,fun id v U=>by
  obtain ⟨h1,h2⟩:=H.pn id v U
  exact ⟨by simp;rw [hw.1];exact h1,by rw [D,A];exact h2⟩⟩,L,hs⟩
 ·rcases get i y c with ⟨a,f⟩ | ⟨rfl,rfl⟩
  ·have aa:BR w m h i y∨True:= .inr trivial
   
   have ab:Oks w w' m m' h1 (h1.set id x')∨True:= .inr trivial
   have Z:=H1.br i y f
   
   obtain ⟨E,Y,X⟩: ∃E,h[i]?=some E/\cJ E y:=by
        have t:i<h.length:=by rw [<-hw.1];exact (List.getElem?_eq_some_iff.1 f).1
        exact ⟨h[i],List.getElem?_eq_getElem t,hw.2 i _ _ (List.getElem?_eq_getElem t) f⟩
   refine eT L hs (by rw [D]) (by rw [A]) (K i a) (fun b d=>s.block b (H1.lt i y f b d).1 fun e=> ?_) (nk X (H.br i E Y))
   exact H1.dj i y id x a f o b d (e▸O)
  ·exact Q L hs
 ·rcases get i y c with ⟨a,f⟩ | ⟨rfl,rfl⟩
  ·rw [q i y a];exact H1.nd i y f
  ·exact R
 ·rcases get i l F with ⟨J,p⟩ | ⟨rfl,rfl⟩<;>rcases get u z G with ⟨C,M⟩ | ⟨rfl,rfl⟩
  ·rw [q i l J]at d;rw [q u z C]at r
   exact H1.dj i l u z a p M b d r
  ·rw [q i l J]at d
   rcases I b r with j | ⟨_,_,j⟩
   ·exact H1.dj i l _ x a p o b d j
   ·exact j i l p J d
  ·rw [q u z C]at r
   rcases I b d with j | ⟨_,_,j⟩
   ·exact H1.dj u z _ x C M o b r j
   ·exact j u z M C r
  ·exact a rfl
 ·rcases get i y c with ⟨a,f⟩ | ⟨rfl,rfl⟩
  ·rw [q i y a]at d
   have:=H1.lt i y f b d
   exact ⟨Nat.lt_of_lt_of_le this.1 s.size,this.2⟩
  ·rcases I b d with j | ⟨F,G,_⟩
   ·have:=H1.lt _ x o b j
    exact ⟨Nat.lt_of_lt_of_le this.1 s.size,this.2⟩
   ·exact ⟨Nat.lt_of_lt_of_le F s.size,G⟩
end
section
variable {P : Program} {tt : TT} {o : Oper} {a : Act} {w0 w : World} {mine : Mine} {st : St} {next : Act -> World -> Prop} {Q : Exit -> Act -> World -> Prop}
theorem ri {t:Nat} {ti:TI} (e:TIok P tt t ti) {g f:Nat} {ty:TypeId} {cur:Array Value} (c:w.heap[g]?=some (.cells cur ty (0,0))) {v:Value} (b:v.cells.toList.length=ti.ty.sz) (h:f+ti.ty.sz<=cur.size)
 (h1: ∀u∈v.cells.toList,u.oneCell'=true):
 (storeVar t ⟨g,f,none⟩ v).run P w= .ok () (w.setRow g (cur.toList.take f++v.cells.toList++cur.toList.drop (f+ti.ty.sz)).toArray):=by
 have a:=run_storeCells_at P g f ty v.cells.toList 0 cur w c (by omega) h1
 have d:v.cells.size=ti.ty.sz:=by simpa using b
 simp only [Nat.add_zero]at a
 rw [b]at a
 simp [storeVar,e.sizeOf,d,a]
theorem UK (hT:bm P tt) {t:Nat} {ti:TI} (I:tt.get t=some ti) {x y:Operand} (l:o.op= .store t x y) (B:o.dst=none) {id i f:Nat} (ex:st.ev x= .one (.ptr id i f)) {c:List LC} (d:st.heap[id]?=some (.box c))
 (k:(st.ev y).cells.length=ti.ty.sz) (A:(st.ev y).cells.all LC.isDef=true) (D:f+ti.ty.sz<=c.length) (F:R w0 mine st a w)
 (E: ∀q w',R w0 mine {st with heap:=st.heap.set id (.box (c.take f++(st.ev y).cells++c.drop (f+(st.ev y).cells.length)))} q w'->next q w'):o.wp P a w next Q:=by
 obtain ⟨hd,m,H,he⟩:=F
 have J:=hT t ti I
 have p:=R.ev H he x
 rw [ex]at p
 simp only [V,C,d]at p
 obtain ⟨rfl,L⟩:=p
 obtain ⟨s,h1⟩:=jI H.br (R.ev H he y) A (by rw [k];exact ti.ty.sz_pos)
 obtain ⟨arr,ty,hblk,e,r⟩:=H.br id _ d
 have v:arr.size=c.length:=by simpa using e.len.symm
 have K:(a.eval y).cells.toList.length=ti.ty.sz:=by rw [<-s.len,k]
 have G:=ri (P:=P) (w:=w) J hblk K (by rw [v];exact D) h1
 refine q2 (w':=w.setRow (m.blk id) (arr.toList.take f++(a.eval y).cells.toList++arr.toList.drop (f+ti.ty.sz)).toArray) (by simp [execOp,l,L,Instr.storeAt,Instr.sureAddr,G]) (E _ _ ?_)
 have j:=H.write (w':=w.setRow (m.blk id) (arr.toList.take f++(a.eval y).cells.toList++arr.toList.drop (f+ti.ty.sz)).toArray) (m':=m) (bu.refl st.heap) d (x':= .box (c.take f++(st.ev y).cells++c.drop (f+(st.ev y).cells.length))) rfl rfl (fun _ _=>rfl) rfl (by simp [Sim]) (fun b z=> .inl z) (by simp [fpB])
  (fun n b hk M=>(hk.2 id _ d:okB m n b id (.box c))) (g:=m.blk id) (by simp [fpB]) (nq w _ _ _ rfl) (fun n b hk=>(hk.2 id _ d:okB m n b id (.box c))) (fun l hs=>by
    refine ⟨_,ty,setRow_heap w _ arr _ ty _ hblk,?_,?_⟩
    ·have:F2 (C w m st.heap) (c.take f++(st.ev y).cells++c.drop (f+(st.ev y).cells.length)) (arr.toList.take f++(a.eval y).cells.toList++arr.toList.drop (f+ti.ty.sz)):=by
        rw [k]
        exact ((e.take f).append s).append (e.drop _)
     have h2:=this.imp fun _ _ _ h=>fS l hs h
     rw [List.toList_toArray]
     exact h2
    ·intro u hu
     rw [List.toList_toArray]at hu
     simp only [List.mem_append]at hu
     rcases hu with (hu | hu) | hu
     ·exact r u (List.mem_of_mem_take hu)
     ·exact h1 u hu
     ·exact r u (List.mem_of_mem_drop hu))
 refine ⟨by rw [c0];exact hd,m,j.1,?_⟩
 rw [B]
 exact bV j.2.1 j.2.2 he
theorem rj {base:Nat} {e:TypeId} {size g n cap:Nat} {xs:List Value} (h:w.ownsRow base e size (.slice (some ⟨g,0,none⟩) n cap) n xs) {cur:Array Value} {ty:TypeId} (b:w.heap[g]?=some (.cells cur ty (0,0))) (f:Nat) (vs:List Value) (t:f+vs.length<=n*size):
 (w.setRow g (cur.toList.take f++vs++cur.toList.drop (f+vs.length)).toArray).ownsRow base e size (.slice (some ⟨g,0,none⟩) n cap) n (xs.take f++vs++xs.drop (f+vs.length)):=by
 obtain ⟨m,a⟩:=h
 rcases a with ⟨a,_⟩ | ⟨r,p,q,a,k,c,i,l,s,o⟩
 ·simp at a
 ·simp only [Value.slice.injEq,Option.some.injEq,Addr.mk.injEq,and_true,true_and]at a
  obtain ⟨rfl,rfl⟩:=a
  rw [b]at c
  cases c
  have u:n*size<=cap*size:=Nat.mul_le_mul_right _ i
  refine ⟨by simp [m];omega,.inr ⟨g,cap,_,rfl,k,setRow_heap w g cur _ e _ b,i,l,?_,?_⟩⟩
  ·simp;omega
  ·rw [<-o]
   apply List.ext_getElem?
   intro j
   simp only [List.getElem?_take,List.getElem?_append,List.length_take,List.length_append,List.getElem?_drop,Array.length_toList]
   by_cases d:j<n*size
   ·simp only [d,if_true]
    split<;>rename_i h1
    ·split<;>rename_i h2
     ·rw [if_pos (by omega),if_pos (by omega)]
      rw [if_pos (by omega)]
     ·rw [if_pos (by omega),if_neg (by omega)]
      congr 1;omega
    ·rw [if_neg (by omega),if_pos (by omega)]
     congr 1;omega
   ·simp only [d,if_false]
    rw [if_neg (by omega)]
    rw [if_neg (by omega)]
end
end Go.T
namespace Go.T
open Go
section
variable {P : Program} {tt : TT} {o : Oper} {a : Act} {w0 w : World} {mine : Mine} {st : St} {next : Act -> World -> Prop} {Q : Exit -> Act -> World -> Prop}
theorem rk {m:Mp} {id e:Nat} {t:Ty} {xs:List (Val t)} {inner:List Value} (f:w.ownsRow 0 e t.sz (m.val id) xs.length inner) {i:Nat} (k:i<xs.length):
 ∃g cap cur,m.val id= .slice (some ⟨g,0,none⟩) xs.length cap/\(m.val id).ownBlock=some g/\w.heap[g]?=some (.cells cur e (0,0))/\xs.length*t.sz<=cur.size/\cur.toList.take (xs.length*t.sz)=inner:=by
 rcases f.2 with ⟨_,j⟩ | ⟨g,cap,cur,a,_,c,d,_,b,h⟩
 ·omega
 ·exact ⟨g,cap,cur,a,by rw [a];rfl,c,by rw [b];exact Nat.mul_le_mul_right _ d,h⟩
theorem rm {i n sz:Nat} (a:i<n):i*sz+sz<=n*sz:=by
 have:(i+1)*sz<=n*sz:=Nat.mul_le_mul_right _ a
 rwa [Nat.succ_mul]at this
theorem rn {m:Mp} {h:List Blk} (H:HR w0 mine w m h) {id e:Nat} {t:Ty} {xs:List (Val t)} {mt:Bool} {n:Nat} (c:h[id]?=some (.row e t xs true mt n)) {g:Nat} (b:(m.val id).ownBlock=some g):g∉m.nst id:=by
 have a:=H.nd _ _ c
 simp only [fpB,b]at a
 simp at a
 exact a.1
theorem IU {l:List Value} {k:Nat} {u:Value} (hk:k<l.length):l.take k++[u]++l.drop (k+1)=l.set k u:=by
 rw [List.set_eq_take_append_cons_drop,if_pos hk];simp
theorem IV {inner:List Value} {i sz f n:Nat} {u:Value} (a:i<n) (d:inner.length=n*sz) (b:f<sz):
 inner.set (i*sz+f) u=inner.take (i*sz)++((inner.drop (i*sz)).take sz).set f u++inner.drop (i*sz+sz):=by
 have c:=rm (sz:=sz) a
 have e:inner=inner.take (i*sz)++((inner.drop (i*sz)).take sz++inner.drop (i*sz+sz)):=by
  rw [<-List.drop_drop,List.take_append_drop,List.take_append_drop]
 conv=>lhs;rw [e]
 have h1:(inner.take (i*sz)).length=i*sz:=by simp;omega
 have h2:((inner.drop (i*sz)).take sz).length=sz:=by simp;omega
 rw [List.set_append_right _ _ (by omega),h1,List.set_append_left _ _ (by omega),show i*sz+f - i*sz=f by omega,List.append_assoc]
theorem ye: ∀{t:Ty} {v e:Val t} {f:Nat} {c:LC},bS t v f c=some e->c.isDef=true
 | .int _,_,_,f,c,h=>by cases f<;>cases c<;>simp_all [bS,LC.isDef]
 | .bool,_,_,f,c,h=>by cases f<;>cases c<;>simp_all [bS,LC.isDef]
 | .str,_,_,f,c,h=>by cases f<;>cases c<;>simp_all [bS,LC.isDef]
 | .hdr,_,_,f,c,h=>by cases f<;>cases c<;>simp_all [bS]
 | .slice _ _,_,_,f,c,h=>by cases f<;>cases c<;>simp_all [bS]
 | .pair a b,v,e,f,c,h=>by
   simp only [bS]at h
   split at h
   ·split at h
    ·rename_i d;exact ye d
    ·simp at h
   ·split at h
    ·rename_i d;exact ye d
    ·simp at h
theorem UL (hT:bm P tt) {t:Nat} {ti:TI} (af:tt.get t=some ti) {x y:Operand} (ab:o.op= .store t x y) (X:o.dst=none) {id i f:Nat} (ex:st.ev x= .one (.ptr id i f)) {e:Nat} {te:Ty} {xs:List (Val te)} {dp:Bool} {n:Nat}
 (d:st.heap[id]?=some (.row e te xs dp true n)) {c:LC} (z:(st.ev y).cells=[c]) (A:ti.agg=false) {v:Val te} (hs:bS te (xs.getD i (qa te)) f c=some v) (h:i<xs.length) (ad:R w0 mine st a w)
 (aa: ∀G w',R w0 mine {st with heap:=st.heap.set id (.row e te (xs.set i v) dp true n)} G w'->next G w'):o.wp P a w next Q:=by
 obtain ⟨hd,m,H,he⟩:=ad
 have s:=hT t ti af
 have F:=R.ev H he x
 rw [ex]at F
 simp only [V,C,d]at F
 obtain ⟨g0,K,ag⟩:=F
 obtain ⟨inner,q,j⟩:=H.br id _ d
 obtain ⟨g,cap,cur,M,p,J,an,ao⟩:=rk q h
 obtain rfl:g=g0:=by rw [p]at K;exact Option.some.inj K
 have W:c.isDef=true:=ye hs
 obtain ⟨B,h1⟩:=jI H.br (R.ev H he y) (by rw [z];simp [W]) (by rw [z];simp)
 rw [z]at B
 obtain ⟨u,hu,D⟩: ∃u,(a.eval y).cells.toList=[u]/\C w m st.heap c u:=by
  generalize (a.eval y).cells.toList=l at B
  cases B with
  | cons h1 h2=>cases h2;exact ⟨_,rfl,h1⟩
 have I:xs[i]?=some (xs.getD i (qa te)):=by simp [List.getD,List.getElem?_eq_getElem h]
 have ak:=rm (sz:=te.sz) h
 
 have Y:f<te.sz:=by
  obtain ⟨aj,cs,_,_,hk⟩:=IK H d h
  exact (rh hk hs D).1
 have hlen:(a.eval y).cells.toList.length=ti.ty.sz:=by rw [hu,s.one A];rfl
 have L:=ri (P:=P) (w:=w) (f:=i*te.sz+f) s J hlen (by rw [s.one A];omega) h1
 rw [hu,s.one A]at L
 have Z:=ya q
 refine q2 (w':=w.setRow g (cur.toList.take (i*te.sz+f)++[u]++cur.toList.drop (i*te.sz+f+1)).toArray) (by simp only [execOp,ab,ag,Instr.storeAt,Instr.sureAddr,Sem.run_bind,Sem.run_pure,Result.andThen_ok,L]) (aa _ _ ?_)
 rw [M]at q
 have r:=rj q J (i*te.sz+f) [u] (by simp;omega)
 rw [<-M]at r
 simp only [List.length_singleton]at r
 rw [IU (l:=inner) (by omega),IV h Z Y]at r
 have E:=H.write (w':=w.setRow g (cur.toList.take (i*te.sz+f)++[u]++cur.toList.drop (i*te.sz+f+1)).toArray) (m':=m) (bu.refl st.heap) d (x':= .row e te (xs.set i v) dp true n) rfl rfl (fun _ _=>rfl) rfl (by simp [Sim]) (fun b T=> .inl T) (H.nd id _ d:(fpB m id (.row e te xs dp true n)).Nodup)
  (fun N b hk al=>(hk.2 id _ d:okB m N b id (.row e te xs dp true n))) (g:=g) (by simp [fpB,p]) (nq w _ _ _ rfl) (fun N b hk he=>by
    have:=(hk.2 id _ d).1 (.inl rfl)
    rw [p,he]at this
    exact this rfl) (fun ac am=>by
    refine ⟨_,by rw [List.length_set];exact r,?_⟩
    cases dp with
    | false=>
      simp only at j ⊢
      have hk:=j.get (fun x c hk=>cE hk) I
      have:=j.set (fun x c hk=>cE hk) i h (rh hk hs D).2
      exact this.imp fun x c hk=>x7 ac hk
    | true=>
      simp only at j ⊢
      refine ⟨?_,j.2⟩
      obtain ⟨ah,b,ai,O,S,ae⟩:=yd (fun x c b hm=>fR hm) j.1 I
      have:=ae v _ b (yc S hs D)
      rw [<-O]at this
      refine this.imp fun x c b U hm=>dX hm fun k hk=>setRow_other w g k _ fun e=> ?_
      exact rn H d p (e▸U k hk))
 refine ⟨by rw [c0];exact hd,m,E.1,?_⟩
 rw [X]
 exact bV E.2.1 E.2.2 he
theorem yf: ∀{t:Ty} (w:World) (ok:Nat->Prop),K w ok t (qa t) (bI t)
 | .int _,w,ok=>by rw [K];rfl
 | .bool,w,ok=>by rw [K];rfl
 | .str,w,ok=>by rw [K];rfl
 | .hdr,w,ok=>by rw [K];exact ⟨rfl,rfl⟩
 | .slice _ _,w,ok=>by rw [K];exact ⟨none,0,rfl,Nat.le_refl _,fun i x c=>by simp [qa]at c⟩
 | .pair a b,w,ok=>by rw [K];exact ⟨_,_,rfl,yf w ok,yf w ok⟩
theorem nu: ∀{t:Ty} (w:World),M w t (qa t) (bI t) []
 | .int _,w=>by rw [M];exact ⟨rfl,rfl⟩
 | .bool,w=>by rw [M];exact ⟨rfl,rfl⟩
 | .str,w=>by rw [M];exact ⟨rfl,rfl⟩
 | .hdr,w=>by rw [M];exact ⟨⟨rfl,rfl⟩,rfl⟩
 | .slice e t,w=>by rw [M];exact ⟨.slice none 0 0,[],[],rfl,by simp [Value.ownBlock],World.ownsRow_nil w 0 e t.sz,rfl,rfl⟩
 | .pair a b,w=>by rw [M];exact ⟨_,_,[],[],rfl,rfl,nu w,nu w⟩
theorem dH: ∀t:Ty,(bI t).length=t.sz
 | .int _ | .bool | .str | .hdr | .slice _ _=>by simp [bI,Ty.sz]
 | .pair a b=>by simp [bI,Ty.sz,dH a,dH b]
theorem IW {z:Array Value} {t:Ty} (e:z.toList=bI t): ∀n:Nat,(madeCells z (n*t.sz)).toList=(List.replicate n (bI t)).flatten:=by
 intro n
 have g:z.size=t.sz:=by have:=congrArg List.length e;simpa [dH] using this
 have d:=t.sz_pos
 apply List.ext_getElem?
 intro j
 have b:((List.replicate n (bI t)).flatten).length=n*t.sz:=by simp [dH]
 by_cases a:j<n*t.sz
 ·have h1:(madeCells z (n*t.sz)).toList[j]?=some (z[j % z.size]!):=by simp [madeCells,a]
  rw [h1]
  have hm:j % t.sz<t.sz:=Nat.mod_lt _ d
  have h2:((List.replicate n (bI t)).flatten)[j]?=(bI t)[j % t.sz]?:=by
   clear h1 b
   induction n generalizing j with
   | zero=>simp at a
   | succ n h=>
     rw [List.replicate_succ,List.flatten_cons]
     by_cases c:j<t.sz
     ·rw [List.getElem?_append_left (by rw [dH];exact c),Nat.mod_eq_of_lt c]
     ·rw [List.getElem?_append_right (by rw [dH];omega),dH,h (j - t.sz) (by rw [Nat.succ_mul]at a;omega) (Nat.mod_lt _ d)]
      rw [<-Nat.mod_eq_sub_mod (by omega)]
  rw [h2,g,<-e]
  have:j % t.sz<z.size:=by omega
  simp [this]
 ·have f:(madeCells z (n*t.sz)).toList.length=n*t.sz:=by simp [size_madeCells]
  rw [List.getElem?_eq_none (by rw [f];omega),List.getElem?_eq_none (by rw [b];omega)]
theorem rp {α:Type} {T:α->List Value->List Nat->Prop} {x:α} {c:List Value} (h:T x c []): ∀n:Nat,Ms T (List.replicate n x) ((List.replicate n c).flatten) []
 | 0=>⟨rfl,rfl⟩
 | n+1=>⟨c,_,[],[],by simp [List.replicate_succ],rfl,h,rp h n⟩
theorem ig (h:List Blk): ∀(ids:List Nat) (n:Nat),los h n ids<=n
 | [],n=>Nat.le_refl _
 | i::r,n=>by
   simp only [los,List.foldl_cons]
   exact Nat.le_trans (ig h r _) (Nat.min_le_left _ _)
theorem IX (h:List Blk): ∀(ids:List Nat) (n i:Nat),i∈ids->los h n ids<=lo h i
 | j::r,n,i,a=>by
   simp only [los,List.foldl_cons]
   rcases List.mem_cons.1 a with rfl | a
   ·exact Nat.le_trans (ig h r _) (Nat.min_le_right _ _)
   ·exact IX h r _ i a
theorem HR.newRow {m:Mp} {h h1:List Blk} {w':World} (H:HR w0 mine w m h) (hw:bu h h1) {e:Nat} {t:Ty} {xs:List (Val t)} {dp mt:Bool} {n:Nat} {v:Value} {inner:List Value} {B:List Nat}
 (j:Fr (fun _=>False) w w') (l:w'.ownsRow 0 e t.sz v xs.length inner) (f: ∀b,v.ownBlock=some b->w.heap.size<=b)
 (g: ∀b∈B,b<w.heap.size/\(w0.heap.size<=b∨mine.own b)/\ ∀i y,h1[i]?=some y->b∉fpB m i y) (z:B.Nodup)
 (C:dp=true-> ∀k b,qM m h k b->k<=n->b∉B) (u:dp=true->n<=h.length) (F:dp=false->B=[])
 (s:Oks w w' m (m.row h.length v B) h (h1++[.row e t xs dp mt n])->match dp with
   | true=>Ms (M w' t) xs inner B
   | false=>Ks (K w' (qM (m.row h.length v B) (h1++[.row e t xs dp mt n]) n) t) xs inner):
 HR w0 mine w' (m.row h.length v B) (h1++[.row e t xs dp mt n])/\Oks w w' m (m.row h.length v B) h (h1++[.row e t xs dp mt n])/\bA m (m.row h.length v B) h (h1++[.row e t xs dp mt n]):=by
 have q:=H.new hw (w':=w') (m':=m.row h.length v B) (.row e t xs dp mt n) j (fun i r=>by simp [Mp.row];intro e;omega) (fun i _=>rfl) (fun i r=>by simp [Mp.row];intro e;omega) rfl
  (fun k b hk E=>by
    refine ⟨fun _ c=> ?_,fun p hle=> ?_⟩
    ·simp only [Mp.row,if_true]at c
     have:=f b c
     omega
    ·simp only [Mp.row,if_true]
     exact C p k b hk hle)
  (fun A hs=>by
    refine ⟨inner,by simp only [Mp.row,if_true];exact l,?_⟩
    have:=s A
    cases dp with
    | true=>simp only [Mp.row,if_true];exact ⟨this,u rfl⟩
    | false=>exact this)
  (by
    simp only [fpB,Mp.row,if_true]
    rw [List.nodup_append]
    refine ⟨by cases v.ownBlock<;>simp,by cases dp<;>simp [z],fun x D y d e=> ?_⟩
    have h1:=f x (by simpa using D)
    cases dp with
    | false=>simp at d
    | true=>have:=(g y d).1;omega)
  (fun b a=>by
    simp only [fpB,Mp.row,if_true]at a
    rcases List.mem_append.1 a with a | a
    ·have c:v.ownBlock=some b:=by simpa using a
     have h1:=f b c
     refine ⟨(l.lt b c).2,.inl (Nat.le_trans H.fr.size h1),fun i y d hm=> ?_⟩
     have:=((H.weaker hw).1.lt i y d b hm).1
     omega
    ·cases dp with
     | false=>simp at a
     | true=>
       obtain ⟨h1,h2,o⟩:=g b a
       exact ⟨Nat.lt_of_lt_of_le h1 j.size,h2,o⟩)
 exact q
end
end Go.T
namespace Go.T
open Go
theorem jJ: ∀{l:List Nat},dc l=true->l.Nodup
 | [],_=>List.nodup_nil
 | x::r,h=>by
   simp only [dc,Bool.and_eq_true,Bool.not_eq_true']at h
   refine List.nodup_cons.2 ⟨fun hm=> ?_,jJ h.2⟩
   have:=h.1
   simp at this
   exact this hm
theorem ea (h:List Blk) (ids:List Nat):(kill h ids).length=h.length:=(bu.kill h ids).1
theorem lO: ∀(ids:List Nat) (h:List Blk) (i:Nat) (y:Blk),(kill h ids)[i]?=some y->(i∈ids/\y= .dead)∨(i∉ids/\h[i]?=some y)
 | [],h,i,y,c=> .inr ⟨by simp,c⟩
 | j::r,h,i,y,c=>by
   have f:(kill (h.set j .dead) r)[i]?=some y:=c
   rcases lO r (h.set j .dead) i y f with ⟨hm,rfl⟩ | ⟨hm,a⟩
   ·exact .inl ⟨List.mem_cons_of_mem _ hm,rfl⟩
   ·by_cases e:j=i
    ·subst e
     have d:j<h.length:=by
      have:=(List.getElem?_eq_some_iff.1 a).1
      simpa using this
     rw [List.getElem?_set_self d]at a
     cases a
     exact .inl ⟨List.mem_cons_self,rfl⟩
    ·rw [List.getElem?_set_ne e]at a
     exact .inr ⟨fun b=>by rcases List.mem_cons.1 b with rfl | b;exact e rfl;exact hm b,a⟩
section
variable {w0 w : World} {mine : Mine} {m : Mp} {h : List Blk}
theorem fT {ids:List Nat} {b:Nat} (a:b∈qY m h ids): ∃id x,id∈ids/\h[id]?=some x/\b∈fpB m id x:=by
 simp only [qY,List.mem_flatMap]at a
 obtain ⟨id,d,a⟩:=a
 cases c:h[id]? with
 | none=>simp [c]at a
 | some x=>rw [c]at a;exact ⟨id,x,d,c,a⟩
theorem jK (H:HR w0 mine w m h): ∀{ids:List Nat},ids.Nodup->(qY m h ids).Nodup
 | [],_=>List.nodup_nil
 | i::r,g=>by
   obtain ⟨h1,h2⟩:=List.nodup_cons.1 g
   have e:qY m h (i::r)=qY m h [i]++qY m h r:=by rw [<-ic];rfl
   rw [e,List.nodup_append]
   refine ⟨?_,jK H h2,fun x a y l e=> ?_⟩
   ·simp only [qY,List.flatMap_cons,List.flatMap_nil,List.append_nil]
    cases a:h[i]? with
    | none=>exact List.nodup_nil
    | some x=>exact H.nd i x a
   ·subst e
    obtain ⟨n,p,b,j,c⟩:=fT a
    obtain ⟨o,q,f,k,d⟩:=fT l
    simp at b
    subst b
    exact H.dj n p o q (fun e=>h1 (e▸f)) j k x c d
theorem gT (H:HR w0 mine w m h) {ids:List Nat} {b:Nat} (a:b∈qY m h ids):b<w.heap.size/\(w0.heap.size<=b∨mine.own b)/\ ∀i y,(kill h ids)[i]?=some y->b∉fpB m i y:=by
 obtain ⟨id,x,d,c,a⟩:=fT a
 refine ⟨(H.lt id x c b a).1,(H.lt id x c b a).2,fun i y g hm=> ?_⟩
 rcases lO ids h i y g with ⟨_,rfl⟩ | ⟨f,j⟩
 ·simp [fpB]at hm
 ·exact H.dj id x i y (fun e=>f (e▸d)) c j b a hm
theorem rq {ids:List Nat} {n k b:Nat} (hk:qM m h k b) (hle:k<=los h n ids):b∉qY m h ids:=by
 intro a
 obtain ⟨id,x,f,d,a⟩:=fT a
 have h1:=Nat.le_trans hle (IX h ids n id f)
 have c:=hk.2 id x d
 cases x with
 | dead=>simp [fpB]at a
 | box cs=>simp [fpB]at a;exact c a
 | nst F t hs vs=>exact c a
 | row e t xs dp mt g=>
   simp only [fpB]at a
   have j:lo h id<=id:=by
    simp only [lo,d]
    cases dp with
    | true=>exact Nat.min_le_left _ _
    | false=>exact Nat.le_refl _
   rcases List.mem_append.1 a with a | a
   ·exact c.1 (.inr (by omega)) (by simpa using a)
   ·cases dp with
    | false=>simp at a
    | true=>
      have i:lo h id<=g:=by simp only [lo,d];exact Nat.min_le_right _ _
      exact c.2 rfl (by omega) a
end
theorem yg: ∀(vs:List Value) (j off:Nat) (cur:Array Value),off+j+vs.length<=cur.size->
 ((vs.zipIdx j).foldl (fun (cs:Array Value) p=>cs.setIfInBounds (off+p.2) p.1) cur).toList=cur.toList.take (off+j)++vs++cur.toList.drop (off+j+vs.length)
 | [],j,off,cur,_=>by simp
 | v::r,j,off,cur,a=>by
   simp only [List.length_cons]at a
   rw [List.zipIdx_cons,List.foldl_cons,yg r (j+1) off _ (by simp;omega)]
   have e:=list_seg_step cur.toList (off+j) v r (by simp;omega)
   simp only [Array.toList_setIfInBounds]
   rw [show off+(j+1)=off+j+1 by omega]
   simpa [Nat.add_assoc,Nat.add_comm,Nat.add_left_comm] using e
end Go.T
namespace Go.T
open Go
theorem IY (sz:Nat): ∀(ps:List (Nat×Value)) (k:Nat) (cur:Array Value),ps.map (·.1)=(List.range ps.length).map (k+ ·)->(∀p∈ps,p.2.cells.size=sz)->(k+ps.length)*sz<=cur.size->
 ∃res,Instr.fill (fun i=>some (i*sz,sz)) cur ps=some res/\res.toList=cur.toList.take (k*sz)++(ps.map fun p=>p.2.cells.toList).flatten++cur.toList.drop ((k+ps.length)*sz)
 | [],k,cur,_,_,_=>⟨cur,rfl,by simp⟩
 | (i,v)::r,k,cur,b,hs,d=>by
   simp only [List.length_cons,List.range_succ_eq_map,List.map_cons,List.map_map,List.cons.injEq]at b
   obtain ⟨l,b⟩:=b
   have s:k=i:=by rw [l];rfl
   subst s
   clear l
   have m:v.cells.size=sz:=hs (k,v) (by simp)
   have A:k*sz+sz<=cur.size:=by
    have:(k+1)*sz<=(k+(r.length+1))*sz:=Nat.mul_le_mul_right _ (by omega)
    rw [Nat.succ_mul]at this
    simp only [List.length_cons]at d
    omega
   have y:v.cells.toList.length=sz:=by simpa using m
   have e:=yg v.cells.toList 0 (k*sz) cur (by omega)
   simp only [Nat.add_zero]at e
   have f:(v.cells.zipIdx.foldl (fun (cs:Array Value) (p:Value×Nat)=>cs.setIfInBounds (k*sz+p.2) p.1) cur).toList=cur.toList.take (k*sz)++v.cells.toList++cur.toList.drop (k*sz+sz):=by
    rw [y]at e
    rw [<-e,<-Array.foldl_toList,Array.toList_zipIdx]
   generalize n:v.cells.zipIdx.foldl (fun (cs:Array Value) (p:Value×Nat)=>cs.setIfInBounds (k*sz+p.2) p.1) cur=c2 at f
   have q:c2.size=cur.size:=by
    have:=congrArg List.length f
    simp at this
    omega
   obtain ⟨res,u,w⟩:=IY sz r (k+1) c2 (by
    rw [b];apply List.map_congr_left;intro a _;simp;omega) (fun p t=>hs p (List.mem_cons_of_mem _ t)) (by rw [q];simp only [List.length_cons]at d;rw [show k+1+r.length=k+(r.length+1) by omega];exact d)
   refine ⟨res,?_,?_⟩
   ·have h1: ¬(k*sz+v.cells.size>cur.size):=by omega
    have o:v.cells.zipIdx.foldl (fun (cs:Array Value) (x:Value×Nat)=>match x with | (c,j)=>cs.setIfInBounds (k*sz+j) c) cur=c2:=n
    simp only [Instr.fill]
    rw [if_neg (by simp [m];omega),o]
    exact u
   ·rw [w,f]
    simp only [List.length_cons,List.map_cons,List.flatten_cons]
    have g:(k+1)*sz=k*sz+sz:=Nat.succ_mul _ _
    have z:(cur.toList.take (k*sz)++v.cells.toList).length=k*sz+sz:=by simp;omega
    have h:(k+1+r.length)*sz=k*sz+sz+r.length*sz:=by rw [Nat.add_mul,g]
    rw [g,h,List.take_append_of_le_length (by omega),List.take_of_length_le (by omega),List.drop_append,List.drop_eq_nil_of_le (by omega),z,List.nil_append,List.drop_drop]
    have:k*sz+sz+(k*sz+sz+r.length*sz - (k*sz+sz))=(k+(r.length+1))*sz:=by
      rw [show k+(r.length+1)=k+1+r.length by omega,h];omega
    rw [this]
    simp
section
variable {P : Program} {tt : TT} {o : Oper} {a : Act} {w0 w : World} {mine : Mine} {st : St} {next : Act -> World -> Prop} {Q : Exit -> Act -> World -> Prop}
theorem R.newedW {m m':Mp} {w':World} {h1:List Blk} {x:Blk} (hd:a.defers=[]) (he:F2 (V w m st.heap) st.env a.tmps.toList) (b:HR w0 mine w' m' (h1++[x])/\Oks w w' m m' st.heap (h1++[x])/\bA m m' st.heap (h1++[x]))
 (d:Option Tmp) {c:LC} {v:Value} (e:C w' m' (h1++[x]) c v):R w0 mine {(st.put d (.one c))with heap:=h1++[x]} (a.put d v) w':=by
 refine ⟨by rw [c0];exact hd,m',b.1,?_⟩
 show F2 (V w' m' (h1++[x])) (st.put d (.one c)).env _
 rw [St.put_env]
 exact dY (bV b.2.1 b.2.2 he) d (l:= .one c) e
theorem jL {w':World} {m:Mp} {h h1:List Blk} (a:h1.length=h.length) {e:Nat} {t:Ty} {xs:List (Val t)} {dp mt:Bool} {n:Nat} {v:Value} {B:List Nat}:C w' (m.row h.length v B) (h1++[.row e t xs dp mt n]) (.own h.length) v:=by
 have:(h1++[.row e t xs dp mt n])[h.length]?=some (.row e t xs dp mt n):=by rw [<-a];simp
 simp only [C,this,Mp.row,if_true]
theorem UM (hT:bm P tt) {t:Nat} {ti:TI} (K:tt.get t=some ti) {l c:Operand} (F:o.op= .makeSlice t l c) {e:Nat} {te:Ty} (x:ti.agg=false) (O:ti.ty= .slice e te) {k j:IntKind} {n d:Int}
 (el:st.ev l= .one (.int k n)) (s:st.ev c= .one (.int j d)) (u:0<=n) (E:n<=d) (y:d<=1048576) (I:R w0 mine st a w)
 (D: ∀p w',R w0 mine (st.new o.dst (.row e te (List.replicate n.toNat (qa te)) true true st.heap.length) (.own st.heap.length)) p w'->next p w'):o.wp P a w next Q:=by
 obtain ⟨hd,m,H,he⟩:=I
 have M:=hT t ti K
 have q:=R.ev H he l
 have f:=R.ev H he c
 rw [el]at q;rw [s]at f
 have C:a.eval l= .int k n:=q
 have f:a.eval c= .int j d:=f
 obtain ⟨hu,tie,L,N⟩:=M.slc x e te O
 obtain ⟨i,z,A,hs,S,r,U⟩:=(hT e tie L).info
 rw [N]at hs r
 have J:=run_make (P:=P) w t e i z hu A S k j n d u E (by
  have h1:(i.bytes:Int)*d<=65536*1048576:=by
   have g:(i.bytes:Int)<=65536:=by omega
   exact Int.le_trans (Int.mul_le_mul_of_nonneg_right g (by omega)) (Int.mul_le_mul_of_nonneg_left y (by omega))
  omega) (by omega)
 refine dZ (v:= .slice (some ⟨w.heap.size,0,none⟩) n.toNat d.toNat) (w':=w.alloc (.cells (madeCells z.cells (d.toNat*i.size)) e)) (by simp only [execOp,F,C,f];rw [Sem.run_bind,J];rfl) (D _ _ ?_)
 have T:(madeCells z.cells (d.toNat*i.size)).toList=(List.replicate d.toNat (bI te)).flatten:=by rw [hs];exact IW r _
 have G:(w.alloc (.cells (madeCells z.cells (d.toNat*i.size)) e)).ownsRow 0 e te.sz (.slice (some ⟨w.heap.size,0,none⟩) n.toNat d.toNat) (List.replicate n.toNat (qa te)).length (List.replicate n.toNat (bI te)).flatten:=by
  rw [List.length_replicate]
  refine ⟨by simp [dH],.inr ⟨w.heap.size,d.toNat,_,rfl,Nat.zero_le _,heap_alloc_new w _,by omega,by simp only [maxLen];omega,by rw [size_madeCells,hs],?_⟩⟩
  rw [T,show d.toNat=n.toNat+(d.toNat - n.toNat) by omega,<-List.replicate_append_replicate,List.flatten_append,List.take_left' (by simp [dH])]
 exact R.newedW hd he (HR.newRow H (bu.refl _) (dp:=true) (mt:=true) (n:=st.heap.length) (B:=[]) (np w _ _) G (fun b g=>by simp [Value.ownBlock]at g;omega) (by simp) List.nodup_nil (by simp) (fun _=>Nat.le_refl _) (fun h=>by simp at h) (fun _=>rp (nu _) _)) _ (jL rfl)
end
end Go.T
