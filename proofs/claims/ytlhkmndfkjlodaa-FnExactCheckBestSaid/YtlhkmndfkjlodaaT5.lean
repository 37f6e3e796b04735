/- T: what is put together and what is stored. -/
import Derived.Test.YtlhkmndfkjlodaaT4
import Derived.Laws.CopyRow
set_option linter.unusedSimpArgs false
set_option linter.unusedVariables false
namespace Go.T
open Go
def okC (w:World) (m:Mp) (h:List Blk) (ok:Nat→Prop):LC→Prop
 | .sl _ _ _ n=> ∀b,qr m h n b→b<w.heap.size→ok b
 | .own id=> ∀x,h[id]?=some x→(∀b∈fpB m id x,ok b)∧(match x with
   | .row _ _ _ false _ n=> ∀b,qr m h n b→b<w.heap.size→ok b
   | _=>True)
 | _=>True
theorem qc2 {w:World} {m:Mp} {h:List Blk} {ok:Nat→Prop} (H: ∀id x,h[id]?=some x→BR w m h id x): ∀{t:Ty} {lcs:List LC} {vs:List Value} {v:Val t} {rest:List LC},
 F2 (C w m h) lcs vs→qu h t lcs=some (v,rest)→(∀c∈lcs,okC w m h ok c)→ ∃v1 v2,vs=v1++v2∧K w ok t v v1∧F2 (C w m h) rest v2∧ ∃pre,lcs=pre++rest
 | .int k,lcs,vs,v,rest,hf,hi,_hok=>by
   cases hf with
   | nil=>simp [qu]at hi
   | cons hc hr=>
     rename_i c u cs us
     cases c<;>first | (simp [qu]at hi;done) | skip
     all_goals simp only [qu]at hi
     split at hi
     ·rename_i e;subst e;cases hi
      simp only [C]at hc;subst hc
      exact ⟨[_],us,rfl,by rw [K],hr,[_],rfl⟩
     ·simp at hi
 | .bool,lcs,vs,v,rest,hf,hi,_hok=>by
   cases hf with
   | nil=>simp [qu]at hi
   | cons hc hr=>
     rename_i c u cs us
     cases c<;>first | (simp [qu]at hi;done) | skip
     all_goals simp only [qu]at hi
     cases hi
     simp only [C]at hc;subst hc
     exact ⟨[_],us,rfl,by rw [K],hr,[_],rfl⟩
 | .str,lcs,vs,v,rest,hf,hi,_hok=>by
   cases hf with
   | nil=>simp [qu]at hi
   | cons hc hr=>
     rename_i c u cs us
     cases c<;>first | (simp [qu]at hi;done) | skip
     all_goals simp only [qu]at hi
     cases hi
     simp only [C]at hc;subst hc
     exact ⟨[_],us,rfl,by rw [K],hr,[_],rfl⟩
 | .hdr,lcs,vs,v,rest,hf,hi,_hok=>by
   cases hf with
   | nil=>simp [qu]at hi
   | cons hc hr=>
     rename_i c u cs us
     cases c<;>first | (simp [qu]at hi;done) | skip
     all_goals simp only [qu]at hi
     cases hi
     obtain ⟨rfl,h1⟩:=hc
     exact ⟨[_],us,rfl,by rw [K];exact ⟨rfl,h1⟩,hr,[_],rfl⟩
 | .slice e t,lcs,vs,v,rest,hf,hi,hok=>by
   cases hf with
   | nil=>simp [qu]at hi
   | cons hc hr=>
     rename_i c u cs us
     have hokc:=hok c (by simp)
     cases c<;>first | (simp [qu]at hi;done) | skip
     all_goals simp only [qu]at hi
     case sl e' t' xs n=>
        split at hi
        ·rename_i he
         obtain ⟨rfl,rfl⟩:=he
         cases hi
         obtain ⟨A,c,rfl,hl,hrd⟩:=hc
         exact ⟨[_],us,rfl,by rw [K];exact ⟨A,c,rfl,hl,qf6 (fun b _ _=>rfl) (fun b hb hlt=>hokc b hb hlt) hrd⟩,hr,[_],rfl⟩
        ·simp at hi
     case nils=>
        cases hi
        simp only [C]at hc;subst hc
        exact ⟨[_],us,rfl,by rw [K];exact ⟨none,0,rfl,Nat.le_refl _,fun i x hx=>by simp at hx⟩,hr,[_],rfl⟩
     case own id=>
        split at hi
        ·rename_i e' t' xs dp mt n hx
         split at hi
         ·rename_i he
          obtain ⟨rfl,rfl⟩:=he
          cases hi
          simp only [C,hx]at hc
          subst hc
          obtain ⟨hfp,hn⟩:=hokc _ hx
          obtain ⟨inner,hown,hin⟩:=H id _ hx
          have hks:Ks (K w ok t') xs inner:=by
             cases dp with
             | true=>
               exact hin.1.toKs fun x c b hb hM=>M_K hM fun k hk=>hfp k (by simp only [fpB];exact List.mem_append_right _ (hb k hk))
             | false=>
               simp only at hin
               exact hin.imp fun x c hk=>qaf (fun b _ _=>rfl) (fun b hb hlt=>hn b hb hlt) hk
          obtain ⟨A,c,hv,hl,hrd⟩:=qmx (ok:=ok) hown (fun x c hk=>qaj hk) hks (fun b hb=>hfp b (by simp only [fpB];exact List.mem_append_left _ (by simp [hb])))
          refine ⟨[_],us,rfl,?_,hr,[_],rfl⟩
          rw [K]
          exact ⟨A,c,by rw [hv],hl,hrd⟩
         ·simp at hi
        ·simp at hi
 | .pair a b,lcs,vs,v,rest,hf,hi,hok=>by
   simp only [qu]at hi
   split at hi
   ·rename_i x cs ha
    split at hi
    ·rename_i y cs' hb
     cases hi
     obtain ⟨v1,v2,rfl,hk1,hf2,pre,hpre⟩:=qc2 H hf ha hok
     obtain ⟨v3,v4,rfl,hk2,hf4,pre',hpre'⟩:=qc2 H hf2 hb (fun c hc=>hok c (by rw [hpre];simp [hc]))
     refine ⟨v1++v3,v4,by simp,?_,hf4,pre++pre',by rw [hpre,hpre'];simp⟩
     rw [K]
     exact ⟨v1,v3,rfl,hk1,hk2⟩
    ·simp at hi
   ·simp at hi
def qA (m:Mp) (h:List Blk) (ids:List Nat):List Nat:=ids.flatMap fun id=>match h[id]? with
 | some x=>fpB m id x
 | none=>[]
theorem qdn (m:Mp) (h:List Blk) (a b:List Nat):qA m h (a++b)=qA m h a++qA m h b:=by simp [qA]
theorem qBH (a b:List LC):qf (a++b)=qf a++qf b:=by simp [qf]
theorem qD7 {w:World} {base:Nat} {e:TypeId} {size:Nat} {v:Value} {n:Nat} {xs:List Value} (h:w.ownsRow base e size v n xs):xs.length=n*size:=h.1
theorem qs5 {w:World} {ok:Nat→Prop}: ∀{t:Ty} {v:Val t} {cs:List Value},t.flat=true→K w ok t v cs→M w t v cs []
 | .int _,_,_,_,h=>by rw [K]at h;rw [M];exact ⟨h,rfl⟩
 | .bool,_,_,_,h=>by rw [K]at h;rw [M];exact ⟨h,rfl⟩
 | .str,_,_,_,h=>by rw [K]at h;rw [M];exact ⟨h,rfl⟩
 | .hdr,_,_,_,h=>by rw [K]at h;rw [M];exact ⟨h,rfl⟩
 | .slice _ _,_,_,hf,_=>by simp [Ty.flat]at hf
 | .pair a b,_,_,hf,h=>by
   simp [Ty.flat]at hf
   rw [K]at h;rw [M]
   obtain ⟨c1,c2,rfl,h1,h2⟩:=h
   exact ⟨c1,c2,[],[],rfl,rfl,qs5 hf.1 h1,qs5 hf.2 h2⟩
theorem qoR {w:World} {ok:Nat→Prop} {t:Ty} (hf:t.flat=true): ∀{xs:List (Val t)} {cs:List Value},Ks (K w ok t) xs cs→Ms (M w t) xs cs []
 | [],_,h=>⟨h,rfl⟩
 | x::xs,_,h=>by
   obtain ⟨c1,c2,rfl,h1,h2⟩:=h
   exact ⟨c1,c2,[],[],rfl,rfl,qs5 hf h1,qoR hf h2⟩
theorem qfE {w:World} {m:Mp} {h:List Blk} (H: ∀id x,h[id]?=some x→BR w m h id x): ∀{t:Ty} {lcs:List LC} {vs:List Value} {v:Val t} {rest:List LC},
 F2 (C w m h) lcs vs→qu h t lcs=some (v,rest)→qW h lcs=true→ ∃v1 v2 pre,vs=v1++v2∧lcs=pre++rest∧M w t v v1 (qA m h (qf pre))∧F2 (C w m h) rest v2
 | .int k,lcs,vs,v,rest,hf,hi,_hok=>by
   cases hf with
   | nil=>simp [qu]at hi
   | cons hc hr=>
     rename_i c u cs us
     cases c<;>first | (simp [qu]at hi;done) | skip
     all_goals simp only [qu]at hi
     split at hi
     ·rename_i e;subst e;cases hi
      simp only [C]at hc;subst hc
      exact ⟨[_],us,[_],rfl,rfl,by rw [M];exact ⟨rfl,rfl⟩,hr⟩
     ·simp at hi
 | .bool,lcs,vs,v,rest,hf,hi,_hok=>by
   cases hf with
   | nil=>simp [qu]at hi
   | cons hc hr=>
     rename_i c u cs us
     cases c<;>first | (simp [qu]at hi;done) | skip
     all_goals simp only [qu]at hi
     cases hi
     simp only [C]at hc;subst hc
     exact ⟨[_],us,[_],rfl,rfl,by rw [M];exact ⟨rfl,rfl⟩,hr⟩
 | .str,lcs,vs,v,rest,hf,hi,_hok=>by
   cases hf with
   | nil=>simp [qu]at hi
   | cons hc hr=>
     rename_i c u cs us
     cases c<;>first | (simp [qu]at hi;done) | skip
     all_goals simp only [qu]at hi
     cases hi
     simp only [C]at hc;subst hc
     exact ⟨[_],us,[_],rfl,rfl,by rw [M];exact ⟨rfl,rfl⟩,hr⟩
 | .hdr,lcs,vs,v,rest,hf,hi,_hok=>by
   cases hf with
   | nil=>simp [qu]at hi
   | cons hc hr=>
     rename_i c u cs us
     cases c<;>first | (simp [qu]at hi;done) | skip
     all_goals simp only [qu]at hi
     cases hi
     obtain ⟨rfl,h1⟩:=hc
     exact ⟨[_],us,[_],rfl,rfl,by rw [M];exact ⟨⟨rfl,h1⟩,rfl⟩,hr⟩
 | .slice e t,lcs,vs,v,rest,hf,hi,hdp=>by
   cases hf with
   | nil=>simp [qu]at hi
   | cons hc hr=>
     rename_i c u cs us
     simp only [qW,List.all_cons,Bool.and_eq_true]at hdp
     cases c<;>first | (simp [qu]at hi;done) | skip
     all_goals simp only [qu]at hi
     case sl e' t' xs n=>simp [LC.deep]at hdp
     case nils=>
        cases hi
        simp only [C]at hc;subst hc
        exact ⟨[_],us,[_],rfl,rfl,by rw [M];exact ⟨.slice none 0 0,[],[],rfl,by simp [qA,qf,LC.movedId,Value.ownBlock],World.ownsRow_nil w 0 e t.sz,rfl,rfl⟩,hr⟩
     case own id=>
        split at hi
        ·rename_i e' t' xs dp mt n hx
         split at hi
         ·rename_i he
          obtain ⟨rfl,rfl⟩:=he
          cases hi
          simp only [C,hx]at hc
          subst hc
          have hdp1:dp=true:=by simpa [LC.deep,hx] using hdp.1
          subst hdp1
          obtain ⟨inner,hown,hin⟩:=H id _ hx
          refine ⟨[_],us,[_],rfl,rfl,?_,hr⟩
          rw [M]
          exact ⟨_,inner,m.nst id,rfl,by simp [qA,qf,LC.movedId,hx,fpB],hown,hin.1⟩
         ·simp at hi
        ·simp at hi
 | .pair a b,lcs,vs,v,rest,hf,hi,hdp=>by
   simp only [qu]at hi
   split at hi
   ·rename_i x cs ha
    split at hi
    ·rename_i y cs' hb
     cases hi
     obtain ⟨v1,v2,pre,rfl,hpre,hk1,hf2⟩:=qfE H hf ha hdp
     obtain ⟨v3,v4,pre',rfl,hpre',hk2,hf4⟩:=qfE H hf2 hb (by
         subst hpre
         simp only [qW,List.all_append,Bool.and_eq_true]at hdp
         exact hdp.2)
     refine ⟨v1++v3,v4,pre++pre',by simp,by rw [hpre,hpre'];simp,?_,hf4⟩
     rw [M,qBH,qdn]
     exact ⟨v1,v3,_,_,rfl,rfl,hk1,hk2⟩
    ·simp at hi
   ·simp at hi
theorem qov {w:World} {m:Mp} {h:List Blk} {ok:Nat→Prop}: ∀{t:Ty} {v v':Val t} {cs:List Value} {f:Nat} {c:LC} {u:Value},K w ok t v cs→qT t v f c=some v'→C w m h c u→f<t.sz∧K w ok t v' (cs.set f u)
 | .int k,v,v',cs,f,c,u,hk,hs,hc=>by
   rw [K]at hk;subst hk
   cases f<;>cases c<;>first | (simp [qT]at hs;done) | skip
   all_goals simp only [qT]at hs
   split at hs
   ·rename_i e;subst e;cases hs
    simp only [C]at hc;subst hc
    exact ⟨by simp [Ty.sz],by rw [K];rfl⟩
   ·simp at hs
 | .bool,v,v',cs,f,c,u,hk,hs,hc=>by
   rw [K]at hk;subst hk
   cases f<;>cases c<;>first | (simp [qT]at hs;done) | skip
   all_goals simp only [qT]at hs
   cases hs
   simp only [C]at hc;subst hc
   exact ⟨by simp [Ty.sz],by rw [K];rfl⟩
 | .str,v,v',cs,f,c,u,hk,hs,hc=>by
   rw [K]at hk;subst hk
   cases f<;>cases c<;>first | (simp [qT]at hs;done) | skip
   all_goals simp only [qT]at hs
   cases hs
   simp only [C]at hc;subst hc
   exact ⟨by simp [Ty.sz],by rw [K];rfl⟩
 | .hdr,v,v',cs,f,c,u,hk,hs,hc=>by
   cases f<;>cases c<;>simp [qT]at hs
 | .slice _ _,v,v',cs,f,c,u,hk,hs,hc=>by
   cases f<;>cases c<;>simp [qT]at hs
 | .pair a b,v,v',cs,f,c,u,hk,hs,hc=>by
   rw [K]at hk
   obtain ⟨c1,c2,rfl,h1,h2⟩:=hk
   have hl:=qaj h1
   simp only [qT]at hs
   split at hs
   ·rename_i hf
    split at hs
    ·rename_i x hx;cases hs
     obtain ⟨h3,h4⟩:=qov h1 hx hc
     refine ⟨by simp [Ty.sz];omega,?_⟩
     rw [K,List.set_append_left _ _ (by omega)]
     exact ⟨_,_,rfl,h4,h2⟩
    ·simp at hs
   ·rename_i hf
    split at hs
    ·rename_i y hy;cases hs
     obtain ⟨h3,h4⟩:=qov h2 hy hc
     refine ⟨by simp [Ty.sz];omega,?_⟩
     rw [K,List.set_append_right _ _ (by omega),hl]
     exact ⟨_,_,rfl,h1,h4⟩
    ·simp at hs
theorem qst {w:World} {m:Mp} {h:List Blk}: ∀{t:Ty} {v v':Val t} {cs:List Value} {B:List Nat} {f:Nat} {c:LC} {u:Value},M w t v cs B→qT t v f c=some v'→C w m h c u→M w t v' (cs.set f u) B
 | .int k,v,v',cs,B,f,c,u,hk,hs,hc=>by
   rw [M]at hk;obtain ⟨rfl,rfl⟩:=hk
   cases f<;>cases c<;>first | (simp [qT]at hs;done) | skip
   all_goals simp only [qT]at hs
   split at hs
   ·rename_i e;subst e;cases hs
    simp only [C]at hc;subst hc
    rw [M];exact ⟨rfl,rfl⟩
   ·simp at hs
 | .bool,v,v',cs,B,f,c,u,hk,hs,hc=>by
   rw [M]at hk;obtain ⟨rfl,rfl⟩:=hk
   cases f<;>cases c<;>first | (simp [qT]at hs;done) | skip
   all_goals simp only [qT]at hs
   cases hs
   simp only [C]at hc;subst hc
   rw [M];exact ⟨rfl,rfl⟩
 | .str,v,v',cs,B,f,c,u,hk,hs,hc=>by
   rw [M]at hk;obtain ⟨rfl,rfl⟩:=hk
   cases f<;>cases c<;>first | (simp [qT]at hs;done) | skip
   all_goals simp only [qT]at hs
   cases hs
   simp only [C]at hc;subst hc
   rw [M];exact ⟨rfl,rfl⟩
 | .hdr,v,v',cs,B,f,c,u,hk,hs,hc=>by
   cases f<;>cases c<;>simp [qT]at hs
 | .slice _ _,v,v',cs,B,f,c,u,hk,hs,hc=>by
   cases f<;>cases c<;>simp [qT]at hs
 | .pair a b,v,v',cs,B,f,c,u,hk,hs,hc=>by
   rw [M]at hk
   obtain ⟨c1,c2,B1,B2,rfl,rfl,h1,h2⟩:=hk
   have hl:=qe9 h1
   simp only [qT]at hs
   split at hs
   ·rename_i hf
    split at hs
    ·rename_i x hx;cases hs
     rw [M,List.set_append_left _ _ (by omega)]
     exact ⟨_,_,_,_,rfl,rfl,qst h1 hx hc,h2⟩
    ·simp at hs
   ·rename_i hf
    split at hs
    ·rename_i y hy;cases hs
     rw [M,List.set_append_right _ _ (by omega),hl]
     exact ⟨_,_,_,_,rfl,rfl,h1,qst h2 hy hc⟩
    ·simp at hs
theorem qFm {α:Type} {T:α→List Value→List Nat→Prop} {xs:List α} {cs:List Value} {B:List Nat} {sz:Nat} (hs: ∀x c b,T x c b→c.length=sz) (h:Ms T xs cs B) {i:Nat} {x:α} (hi:xs[i]?=some x):
 ∃B1 b B2,B=B1++b++B2∧T x ((cs.drop (i*sz)).take sz) b∧ ∀x' c' b',T x' c' b'→Ms T (xs.set i x') (cs.take (i*sz)++c'++cs.drop (i*sz+sz)) (B1++b'++B2):=by
 induction xs generalizing cs B i with
 | nil=>simp at hi
 | cons y xs ih=>
   obtain ⟨c1,c2,b1,b2,rfl,rfl,h1,h2⟩:=h
   have hl:=hs _ _ _ h1
   cases i with
   | zero=>
     simp at hi;subst hi
     refine ⟨[],b1,b2,by simp,?_,fun x' c' b' ht=> ?_⟩
     ·have:((c1++c2).drop (0*sz)).take sz=c1:=by simp [←hl]
      rw [this];exact h1
     ·simp only [Nat.zero_mul,List.take_zero,List.nil_append,Nat.zero_add,List.set_cons_zero]
      exact ⟨c',c2,b',b2,by rw [←hl];simp,rfl,ht,h2⟩
   | succ i=>
     obtain ⟨B1,b,B2,rfl,ht,hset⟩:=ih h2 (i:=i) (by simpa using hi)
     have e:(i+1)*sz=c1.length+i*sz:=by rw [hl,Nat.succ_mul,Nat.add_comm]
     refine ⟨b1++B1,b,B2,by simp,?_,fun x' c' b' ht'=> ?_⟩
     ·rw [e,List.drop_append,List.drop_eq_nil_of_le (by omega)]
      simpa using ht
     ·refine ⟨c1,c2.take (i*sz)++c'++c2.drop (i*sz+sz),b1,B1++b'++B2,?_,by simp,h1,hset x' c' b' ht'⟩
      rw [e,show c1.length+i*sz+sz=c1.length+(i*sz+sz) by omega,List.drop_append,List.take_append,List.drop_eq_nil_of_le (by omega),List.take_of_length_le (by omega)]
      simp
end Go.T
/- T: stores. -/
namespace Go.T
open Go
section
variable {w0 w w' : World} {mine : Mine} {m m' : Mp} {h h1 : List Blk}
theorem qOx {id:Nat} {x:Blk} (hv:m'.val id=m.val id) (hb:m'.blk id=m.blk id) (hn:m'.nst id=m.nst id):fpB m' id x=fpB m id x:=by
 cases x<;>simp [fpB,hv,hb,hn]
theorem qQg {n b id:Nat} {x:Blk} (hv:m'.val id=m.val id) (hb:m'.blk id=m.blk id) (hn:m'.nst id=m.nst id):okB m' n b id x↔okB m n b id x:=by
 cases x<;>simp [okB,hv,hb,hn]
theorem HR.write (H:HR w0 mine w m h) (hw:qL h h1) {id:Nat} {x x':Blk} (hx:h1[id]?=some x)
 (hv:m'.val=m.val) (hb:m'.blk=m.blk) (hns: ∀i,i≠id→m'.nst i=m.nst i) (hext:m'.ext=m.ext) (hsim:Sim m m' id x x')
 (hfp: ∀b∈fpB m' id x',b∈fpB m id x∨(b<w.heap.size∧(w0.heap.size≤b∨mine.own b)∧ ∀i y,h1[i]?=some y→i≠id→b∉fpB m i y))
 (hnd:(fpB m' id x').Nodup) (hokx: ∀n b,qr m h n b→b<w.heap.size→okB m' n b id x') {g:Nat} (hg:g∈fpB m id x)
 (hfr:Fr (fun k=>k=g) w w') (htop: ∀n b,qr m h n b→b≠g)
 (hbr:Oks w w' m m' h (h1.set id x')→qP m m' h (h1.set id x')→BR w' m' (h1.set id x') id x'):
 HR w0 mine w' m' (h1.set id x')∧Oks w w' m m' h (h1.set id x')∧qP m m' h (h1.set id x'):=by
 obtain ⟨H1,hok1,hs1⟩:=H.weaker hw
 have hl:=(List.getElem?_eq_some_iff.1 hx).1
 have get: ∀i y,(h1.set id x')[i]?=some y→(i≠id∧h1[i]?=some y)∨(i=id∧y=x'):=fun i y hy=>by
  by_cases e:id=i
  ·subst e
   rw [List.getElem?_set_self hl]at hy
   cases hy;exact .inr ⟨rfl,rfl⟩
  ·rw [List.getElem?_set_ne e]at hy
   exact .inl ⟨fun h=>e h.symm,hy⟩
 have fpe: ∀i y,i≠id→fpB m' i y=fpB m i y:=fun i y hne=>qOx (by rw [hv]) (by rw [hb]) (hns i hne)
 have hok:Oks w w' m m' h (h1.set id x'):=fun n b hbk hlt=>⟨hfr.block b hlt (htop n b hbk),by rw [hext];exact hbk.1,fun i y hy=>by
  rcases get i y hy with ⟨hne,hy'⟩ | ⟨rfl,rfl⟩
  ·exact (qQg (by rw [hv]) (by rw [hb]) (hns i hne)).2 ((hok1 n b hbk hlt).2.2 i y hy')
  ·exact hokx n b hbk hlt⟩
 have hs:qP m m' h (h1.set id x'):=fun i y hy=>by
  obtain ⟨y1,hy1,hsm⟩:=hs1 i y hy
  by_cases e:id=i
  ·subst e
   rw [hx]at hy1;cases hy1
   refine ⟨x',List.getElem?_set_self hl,?_⟩
   cases y<;>cases x<;>cases x'<;>simp_all [Sim]
  ·refine ⟨y1,by rw [List.getElem?_set_ne e];exact hy1,?_⟩
   cases y<;>cases y1<;>simp_all [Sim]
 refine ⟨⟨fun i y hy=> ?_,fun i y hy=> ?_,fun i y1 i' y2 hne h1' h2' b hb1 hb2=> ?_,fun i y hy b hb1=> ?_,hfr.lift H1 fun k hk=>⟨id,x,hx,hk▸hg⟩,hext.trans H.mx,H.nx,fun id v hp=>by
  obtain ⟨h1,h2⟩:=H.pn id v hp
  exact ⟨by simp;rw [hw.1];exact h1,by rw [hv,hb];exact h2⟩⟩,hok,hs⟩
 ·rcases get i y hy with ⟨hne,hy'⟩ | ⟨rfl,rfl⟩
  ·have hbr1:BR w m h i y∨True:= .inr trivial
   -- from the weaker heap to the written one
   have hok2:Oks w w' m m' h1 (h1.set id x')∨True:= .inr trivial
   have hB:=H1.br i y hy'
   -- relate h1 to h by the original's relation
   obtain ⟨y0,hy0,hwk⟩: ∃y0,h[i]?=some y0∧qap y0 y:=by
        have hlt:i<h.length:=by rw [←hw.1];exact (List.getElem?_eq_some_iff.1 hy').1
        exact ⟨h[i],List.getElem?_eq_getElem hlt,hw.2 i _ _ (List.getElem?_eq_getElem hlt) hy'⟩
   refine qbN hok hs (by rw [hv]) (by rw [hb]) (hns i hne) (fun b hb1=>hfr.block b (H1.lt i y hy' b hb1).1 fun e=> ?_) (qhG hwk (H.br i y0 hy0))
   exact H1.dj i y id x hne hy' hx b hb1 (e▸hg)
  ·exact hbr hok hs
 ·rcases get i y hy with ⟨hne,hy'⟩ | ⟨rfl,rfl⟩
  ·rw [fpe i y hne];exact H1.nd i y hy'
  ·exact hnd
 ·rcases get i y1 h1' with ⟨hne1,hy1⟩ | ⟨rfl,rfl⟩<;>rcases get i' y2 h2' with ⟨hne2,hy2⟩ | ⟨rfl,rfl⟩
  ·rw [fpe i y1 hne1]at hb1;rw [fpe i' y2 hne2]at hb2
   exact H1.dj i y1 i' y2 hne hy1 hy2 b hb1 hb2
  ·rw [fpe i y1 hne1]at hb1
   rcases hfp b hb2 with hh | ⟨_,_,hh⟩
   ·exact H1.dj i y1 _ x hne hy1 hx b hb1 hh
   ·exact hh i y1 hy1 hne1 hb1
  ·rw [fpe i' y2 hne2]at hb2
   rcases hfp b hb1 with hh | ⟨_,_,hh⟩
   ·exact H1.dj i' y2 _ x hne2 hy2 hx b hb2 hh
   ·exact hh i' y2 hy2 hne2 hb2
  ·exact hne rfl
 ·rcases get i y hy with ⟨hne,hy'⟩ | ⟨rfl,rfl⟩
  ·rw [fpe i y hne]at hb1
   have:=H1.lt i y hy' b hb1
   exact ⟨Nat.lt_of_lt_of_le this.1 hfr.size,this.2⟩
  ·rcases hfp b hb1 with hh | ⟨h1',h2',_⟩
   ·have:=H1.lt _ x hx b hh
    exact ⟨Nat.lt_of_lt_of_le this.1 hfr.size,this.2⟩
   ·exact ⟨Nat.lt_of_lt_of_le h1' hfr.size,h2'⟩
end
section
variable {P : Program} {tt : TT} {o : Oper} {a : Act} {w0 w : World} {mine : Mine} {st : St} {next : Act → World → Prop} {Q : Exit → Act → World → Prop}
theorem qsE {t:Nat} {ti:TI} (hti:TIok P tt t ti) {g f:Nat} {ty:TypeId} {cur:Array Value} (hg:w.heap[g]?=some (.cells cur ty (0,0))) {v:Value} (hl:v.cells.toList.length=ti.ty.sz) (hfit:f+ti.ty.sz≤cur.size)
 (h1: ∀u∈v.cells.toList,u.oneCell'=true):
 (storeVar t ⟨g,f,none⟩ v).run P w= .ok () (w.setRow g (cur.toList.take f++v.cells.toList++cur.toList.drop (f+ti.ty.sz)).toArray):=by
 have hst:=run_storeCells_at P g f ty v.cells.toList 0 cur w hg (by omega) h1
 have hsz:v.cells.size=ti.ty.sz:=by simpa using hl
 simp only [Nat.add_zero]at hst
 rw [hl]at hst
 simp [storeVar,hti.sizeOf,hsz,hst]
theorem qLI (hT:qN P tt) {t:Nat} {ti:TI} (ht:tt.get t=some ti) {x y:Operand} (ho:o.op= .store t x y) (hdst:o.dst=none) {id i f:Nat} (ex:st.ev x= .one (.ptr id i f)) {old:List LC} (hb:st.heap[id]?=some (.box old))
 (hl:(st.ev y).cells.length=ti.ty.sz) (hdef:(st.ev y).cells.all LC.isDef=true) (hfit:f+ti.ty.sz≤old.length) (hr:R w0 mine st a w)
 (hn: ∀a' w',R w0 mine {st with heap:=st.heap.set id (.box (old.take f++(st.ev y).cells++old.drop (f+(st.ev y).cells.length)))} a' w'→next a' w'):o.wp P a w next Q:=by
 obtain ⟨hd,m,H,he⟩:=hr
 have hti:=hT t ti ht
 have hx:=R.ev H he x
 rw [ex]at hx
 simp only [V,C,hb]at hx
 obtain ⟨rfl,hxv⟩:=hx
 obtain ⟨hc,h1⟩:=qgQ H.br (R.ev H he y) hdef (by rw [hl];exact ti.ty.sz_pos)
 obtain ⟨arr,ty,hblk,hf,h1'⟩:=H.br id _ hb
 have hasz:arr.size=old.length:=by simpa using hf.len.symm
 have hvl:(a.eval y).cells.toList.length=ti.ty.sz:=by rw [←hc.len,hl]
 have hrun:=qsE (P:=P) (w:=w) hti hblk hvl (by rw [hasz];exact hfit) h1
 refine quA (w':=w.setRow (m.blk id) (arr.toList.take f++(a.eval y).cells.toList++arr.toList.drop (f+ti.ty.sz)).toArray) (by simp [execOp,ho,hxv,Instr.storeAt,Instr.sureAddr,hrun]) (hn _ _ ?_)
 have hh:=H.write (w':=w.setRow (m.blk id) (arr.toList.take f++(a.eval y).cells.toList++arr.toList.drop (f+ti.ty.sz)).toArray) (m':=m) (qL.refl st.heap) hb (x':= .box (old.take f++(st.ev y).cells++old.drop (f+(st.ev y).cells.length))) rfl rfl (fun _ _=>rfl) rfl (by simp [Sim]) (fun b hb'=> .inl hb') (by simp [fpB])
  (fun n b hk hlt=>(hk.2 id _ hb:okB m n b id (.box old))) (g:=m.blk id) (by simp [fpB]) (qvf w _ _ _ rfl) (fun n b hk=>(hk.2 id _ hb:okB m n b id (.box old))) (fun ho hs=>by
    refine ⟨_,ty,setRow_heap w _ arr _ ty _ hblk,?_,?_⟩
    ·have:F2 (C w m st.heap) (old.take f++(st.ev y).cells++old.drop (f+(st.ev y).cells.length)) (arr.toList.take f++(a.eval y).cells.toList++arr.toList.drop (f+ti.ty.sz)):=by
        rw [hl]
        exact ((hf.take f).append hc).append (hf.drop _)
     have h2:=this.imp fun _ _ _ h=>qbK ho hs h
     rw [List.toList_toArray]
     exact h2
    ·intro u hu
     rw [List.toList_toArray]at hu
     simp only [List.mem_append]at hu
     rcases hu with (hu | hu) | hu
     ·exact h1' u (List.mem_of_mem_take hu)
     ·exact h1 u hu
     ·exact h1' u (List.mem_of_mem_drop hu))
 refine ⟨by rw [qa5];exact hd,m,hh.1,?_⟩
 rw [hdst]
 exact qaa hh.2.1 hh.2.2 he
theorem qDn {base:Nat} {e:TypeId} {size:Nat} {g n cap:Nat} {xs:List Value} (h:w.ownsRow base e size (.slice (some ⟨g,0,none⟩) n cap) n xs) {cur:Array Value} {ty:TypeId} (hg:w.heap[g]?=some (.cells cur ty (0,0))) (f:Nat) (vs:List Value) (hfit:f+vs.length≤n*size):
 (w.setRow g (cur.toList.take f++vs++cur.toList.drop (f+vs.length)).toArray).ownsRow base e size (.slice (some ⟨g,0,none⟩) n cap) n (xs.take f++vs++xs.drop (f+vs.length)):=by
 obtain ⟨hl,hh⟩:=h
 rcases hh with ⟨hh,_⟩ | ⟨g',cap',cur',hh,hb,hgg,hnc,hcm,hcs,htake⟩
 ·simp at hh
 ·simp only [Value.slice.injEq,Option.some.injEq,Addr.mk.injEq,and_true,true_and]at hh
  obtain ⟨rfl,rfl⟩:=hh
  rw [hg]at hgg
  cases hgg
  have hnm:n*size≤cap*size:=Nat.mul_le_mul_right _ hnc
  refine ⟨by simp [hl];omega,.inr ⟨g,cap,_,rfl,hb,setRow_heap w g cur _ e _ hg,hnc,hcm,?_,?_⟩⟩
  ·simp;omega
  ·rw [←htake]
   apply List.ext_getElem?
   intro j
   simp only [List.getElem?_take,List.getElem?_append,List.length_take,List.length_append,List.getElem?_drop,Array.length_toList]
   by_cases hj:j<n*size
   ·simp only [hj,if_true]
    split<;>rename_i h1
    ·split<;>rename_i h2
     ·rw [if_pos (by omega),if_pos (by omega)]
      rw [if_pos (by omega)]
     ·rw [if_pos (by omega),if_neg (by omega)]
      congr 1;omega
    ·rw [if_neg (by omega),if_pos (by omega)]
     congr 1;omega
   ·simp only [hj,if_false]
    rw [if_neg (by omega)]
    rw [if_neg (by omega)]
end
end Go.T
/- T: stores into rows; new rows. -/
namespace Go.T
open Go
section
variable {P : Program} {tt : TT} {o : Oper} {a : Act} {w0 w : World} {mine : Mine} {st : St} {next : Act → World → Prop} {Q : Exit → Act → World → Prop}
theorem qCo {m:Mp} {id e:Nat} {t:Ty} {xs:List (Val t)} {inner:List Value} (hown:w.ownsRow 0 e t.sz (m.val id) xs.length inner) {i:Nat} (hi:i<xs.length):
 ∃g cap cur,m.val id= .slice (some ⟨g,0,none⟩) xs.length cap∧(m.val id).ownBlock=some g∧w.heap[g]?=some (.cells cur e (0,0))∧xs.length*t.sz≤cur.size∧cur.toList.take (xs.length*t.sz)=inner:=by
 rcases hown.2 with ⟨_,h0⟩ | ⟨g,cap,cur,hv,_,hg,hnc,_,hcs,htk⟩
 ·omega
 ·exact ⟨g,cap,cur,hv,by rw [hv];rfl,hg,by rw [hcs];exact Nat.mul_le_mul_right _ hnc,htk⟩
theorem qtN {i n sz:Nat} (hi:i<n):i*sz+sz≤n*sz:=by
 have:(i+1)*sz≤n*sz:=Nat.mul_le_mul_right _ hi
 rwa [Nat.succ_mul]at this
theorem qAO {m:Mp} {h:List Blk} (H:HR w0 mine w m h) {id e:Nat} {t:Ty} {xs:List (Val t)} {mt:Bool} {n:Nat} (hx:h[id]?=some (.row e t xs true mt n)) {g:Nat} (hg:(m.val id).ownBlock=some g):g∉m.nst id:=by
 have hnd:=H.nd _ _ hx
 simp only [fpB,hg]at hnd
 simp at hnd
 exact hnd.1
theorem qFU {l:List Value} {k:Nat} {u:Value} (hk:k<l.length):l.take k++[u]++l.drop (k+1)=l.set k u:=by
 rw [List.set_eq_take_append_cons_drop,if_pos hk];simp
theorem qJd {inner:List Value} {i sz f n:Nat} {u:Value} (hi:i<n) (hl:inner.length=n*sz) (hf:f<sz):
 inner.set (i*sz+f) u=inner.take (i*sz)++((inner.drop (i*sz)).take sz).set f u++inner.drop (i*sz+sz):=by
 have hfit:=qtN (sz:=sz) hi
 have e:inner=inner.take (i*sz)++((inner.drop (i*sz)).take sz++inner.drop (i*sz+sz)):=by
  rw [←List.drop_drop,List.take_append_drop,List.take_append_drop]
 conv=>lhs;rw [e]
 have h1:(inner.take (i*sz)).length=i*sz:=by simp;omega
 have h2:((inner.drop (i*sz)).take sz).length=sz:=by simp;omega
 rw [List.set_append_right _ _ (by omega),h1,List.set_append_left _ _ (by omega),show i*sz+f - i*sz=f by omega,List.append_assoc]
theorem qsY: ∀{t:Ty} {v v':Val t} {f:Nat} {c:LC},qT t v f c=some v'→c.isDef=true
 | .int _,_,_,f,c,h=>by cases f<;>cases c<;>simp_all [qT,LC.isDef]
 | .bool,_,_,f,c,h=>by cases f<;>cases c<;>simp_all [qT,LC.isDef]
 | .str,_,_,f,c,h=>by cases f<;>cases c<;>simp_all [qT,LC.isDef]
 | .hdr,_,_,f,c,h=>by cases f<;>cases c<;>simp_all [qT]
 | .slice _ _,_,_,f,c,h=>by cases f<;>cases c<;>simp_all [qT]
 | .pair a b,v,v',f,c,h=>by
   simp only [qT]at h
   split at h
   ·split at h
    ·rename_i hx;exact qsY hx
    ·simp at h
   ·split at h
    ·rename_i hx;exact qsY hx
    ·simp at h
theorem qNI (hT:qN P tt) {t:Nat} {ti:TI} (ht:tt.get t=some ti) {x y:Operand} (ho:o.op= .store t x y) (hdst:o.dst=none) {id i f:Nat} (ex:st.ev x= .one (.ptr id i f)) {e:Nat} {te:Ty} {xs:List (Val te)} {dp:Bool} {n:Nat}
 (hb:st.heap[id]?=some (.row e te xs dp true n)) {c:LC} (ey:(st.ev y).cells=[c]) (hag:ti.agg=false) {v:Val te} (hs:qT te (xs.getD i (qc te)) f c=some v) (hi:i<xs.length) (hr:R w0 mine st a w)
 (hn: ∀a' w',R w0 mine {st with heap:=st.heap.set id (.row e te (xs.set i v) dp true n)} a' w'→next a' w'):o.wp P a w next Q:=by
 obtain ⟨hd,m,H,he⟩:=hr
 have hti:=hT t ti ht
 have hx:=R.ev H he x
 rw [ex]at hx
 simp only [V,C,hb]at hx
 obtain ⟨g0,hg0,hxv⟩:=hx
 obtain ⟨inner,hown,hin⟩:=H.br id _ hb
 obtain ⟨g,cap,cur,hval,hob,hg,hsz,htk⟩:=qCo hown hi
 obtain rfl:g=g0:=by rw [hob]at hg0;exact Option.some.inj hg0
 have hcd:c.isDef=true:=qsY hs
 obtain ⟨hcc,h1⟩:=qgQ H.br (R.ev H he y) (by rw [ey];simp [hcd]) (by rw [ey];simp)
 rw [ey]at hcc
 obtain ⟨u,hu,hcu⟩: ∃u,(a.eval y).cells.toList=[u]∧C w m st.heap c u:=by
  generalize (a.eval y).cells.toList=l at hcc
  cases hcc with
  | cons h1 h2=>cases h2;exact ⟨_,rfl,h1⟩
 have hel:xs[i]?=some (xs.getD i (qc te)):=by simp [List.getD,List.getElem?_eq_getElem hi]
 have hfit:=qtN (sz:=te.sz) hi
 -- the place is within the element
 have hflt:f<te.sz:=by
  obtain ⟨g',cs,_,_,hk⟩:=qFg H hb hi
  exact (qov hk hs hcu).1
 have hlen:(a.eval y).cells.toList.length=ti.ty.sz:=by rw [hu,hti.one hag];rfl
 have hrun:=qsE (P:=P) (w:=w) (f:=i*te.sz+f) hti hg hlen (by rw [hti.one hag];omega) h1
 rw [hu,hti.one hag]at hrun
 have hil:=qD7 hown
 refine quA (w':=w.setRow g (cur.toList.take (i*te.sz+f)++[u]++cur.toList.drop (i*te.sz+f+1)).toArray) (by simp only [execOp,ho,hxv,Instr.storeAt,Instr.sureAddr,Sem.run_bind,Sem.run_pure,Result.andThen_ok,hrun]) (hn _ _ ?_)
 rw [hval]at hown
 have hown':=qDn hown hg (i*te.sz+f) [u] (by simp;omega)
 rw [←hval]at hown'
 simp only [List.length_singleton]at hown'
 rw [qFU (l:=inner) (by omega),qJd hi hil hflt]at hown'
 have hh:=H.write (w':=w.setRow g (cur.toList.take (i*te.sz+f)++[u]++cur.toList.drop (i*te.sz+f+1)).toArray) (m':=m) (qL.refl st.heap) hb (x':= .row e te (xs.set i v) dp true n) rfl rfl (fun _ _=>rfl) rfl (by simp [Sim]) (fun b hb'=> .inl hb') (H.nd id _ hb:(fpB m id (.row e te xs dp true n)).Nodup)
  (fun n' b hk hlt=>(hk.2 id _ hb:okB m n' b id (.row e te xs dp true n))) (g:=g) (by simp [fpB,hob]) (qvf w _ _ _ rfl) (fun n' b hk he=>by
    have:=(hk.2 id _ hb).1 (.inl rfl)
    rw [hob,he]at this
    exact this rfl) (fun hok hs'=>by
    refine ⟨_,by rw [List.length_set];exact hown',?_⟩
    cases dp with
    | false=>
      simp only at hin ⊢
      have hk:=hin.get (fun x c hk=>qaj hk) hel
      have:=hin.set (fun x c hk=>qaj hk) i hi (qov hk hs hcu).2
      exact this.imp fun x c hk=>quV hok hk
    | true=>
      simp only at hin ⊢
      refine ⟨?_,hin.2⟩
      obtain ⟨B1,b,B2,hB,hM,hset⟩:=qFm (fun x c b hm=>qe9 hm) hin.1 hel
      have:=hset v _ b (qst hM hs hcu)
      rw [←hB]at this
      refine this.imp fun x c b hbs hm=>qb1 hm fun k hk=>setRow_other w g k _ fun e=> ?_
      exact qAO H hb hob (e▸hbs k hk))
 refine ⟨by rw [qa5];exact hd,m,hh.1,?_⟩
 rw [hdst]
 exact qaa hh.2.1 hh.2.2 he
theorem qy4: ∀{t:Ty} (w:World),M w t (qc t) (q8 t) []
 | .int _,w=>by rw [M];exact ⟨rfl,rfl⟩
 | .bool,w=>by rw [M];exact ⟨rfl,rfl⟩
 | .str,w=>by rw [M];exact ⟨rfl,rfl⟩
 | .hdr,w=>by rw [M];exact ⟨⟨rfl,rfl⟩,rfl⟩
 | .slice e t,w=>by rw [M];exact ⟨.slice none 0 0,[],[],rfl,by simp [Value.ownBlock],World.ownsRow_nil w 0 e t.sz,rfl,rfl⟩
 | .pair a b,w=>by rw [M];exact ⟨_,_,[],[],rfl,rfl,qy4 w,qy4 w⟩
theorem qbl: ∀t:Ty,(q8 t).length=t.sz
 | .int _ | .bool | .str | .hdr | .slice _ _=>by simp [q8,Ty.sz]
 | .pair a b=>by simp [q8,Ty.sz,qbl a,qbl b]
theorem qLE {z:Array Value} {t:Ty} (hz:z.toList=q8 t): ∀n:Nat,(madeCells z (n*t.sz)).toList=(List.replicate n (q8 t)).flatten:=by
 intro n
 have hzs:z.size=t.sz:=by have:=congrArg List.length hz;simpa [qbl] using this
 have hp:=t.sz_pos
 apply List.ext_getElem?
 intro j
 have hl:((List.replicate n (q8 t)).flatten).length=n*t.sz:=by simp [qbl]
 by_cases hj:j<n*t.sz
 ·have h1:(madeCells z (n*t.sz)).toList[j]?=some (z[j % z.size]!):=by simp [madeCells,hj]
  rw [h1]
  have hm:j % t.sz<t.sz:=Nat.mod_lt _ hp
  have h2:((List.replicate n (q8 t)).flatten)[j]?=(q8 t)[j % t.sz]?:=by
   clear h1 hl
   induction n generalizing j with
   | zero=>simp at hj
   | succ n ih=>
     rw [List.replicate_succ,List.flatten_cons]
     by_cases hlt:j<t.sz
     ·rw [List.getElem?_append_left (by rw [qbl];exact hlt),Nat.mod_eq_of_lt hlt]
     ·rw [List.getElem?_append_right (by rw [qbl];omega),qbl,ih (j - t.sz) (by rw [Nat.succ_mul]at hj;omega) (Nat.mod_lt _ hp)]
      rw [←Nat.mod_eq_sub_mod (by omega)]
  rw [h2,hzs,←hz]
  have:j % t.sz<z.size:=by omega
  simp [this]
 ·have hl2:(madeCells z (n*t.sz)).toList.length=n*t.sz:=by simp [size_madeCells]
  rw [List.getElem?_eq_none (by rw [hl2];omega),List.getElem?_eq_none (by rw [hl];omega)]
theorem qEp {α:Type} {T:α→List Value→List Nat→Prop} {x:α} {c:List Value} (h:T x c []): ∀n:Nat,Ms T (List.replicate n x) ((List.replicate n c).flatten) []
 | 0=>⟨rfl,rfl⟩
 | n+1=>⟨c,_,[],[],by simp [List.replicate_succ],rfl,h,qEp h n⟩
theorem qcV (h:List Blk): ∀(ids:List Nat) (n:Nat),los h n ids≤n
 | [],n=>Nat.le_refl _
 | i::r,n=>by
   simp only [los,List.foldl_cons]
   exact Nat.le_trans (qcV h r _) (Nat.min_le_left _ _)
theorem qDw (h:List Blk): ∀(ids:List Nat) (n i:Nat),i∈ids→los h n ids≤lo h i
 | j::r,n,i,hi=>by
   simp only [los,List.foldl_cons]
   rcases List.mem_cons.1 hi with rfl | hi
   ·exact Nat.le_trans (qcV h r _) (Nat.min_le_right _ _)
   ·exact qDw h r _ i hi
theorem HR.newRow {m:Mp} {h h1:List Blk} {w':World} (H:HR w0 mine w m h) (hw:qL h h1) {e:Nat} {t:Ty} {xs:List (Val t)} {dp mt:Bool} {n:Nat} {v:Value} {inner:List Value} {B:List Nat}
 (hfr:Fr (fun _=>False) w w') (hown:w'.ownsRow 0 e t.sz v xs.length inner) (hfresh: ∀b,v.ownBlock=some b→w.heap.size≤b)
 (hB: ∀b∈B,b<w.heap.size∧(w0.heap.size≤b∨mine.own b)∧ ∀i y,h1[i]?=some y→b∉fpB m i y) (hnd:B.Nodup)
 (hokB:dp=true→ ∀k b,qr m h k b→k≤n→b∉B) (hn:dp=true→n≤h.length) (hnB:dp=false→B=[])
 (hin:Oks w w' m (m.row h.length v B) h (h1++[.row e t xs dp mt n])→match dp with
   | true=>Ms (M w' t) xs inner B
   | false=>Ks (K w' (qr (m.row h.length v B) (h1++[.row e t xs dp mt n]) n) t) xs inner):
 HR w0 mine w' (m.row h.length v B) (h1++[.row e t xs dp mt n])∧Oks w w' m (m.row h.length v B) h (h1++[.row e t xs dp mt n])∧qP m (m.row h.length v B) h (h1++[.row e t xs dp mt n]):=by
 have hh:=H.new hw (w':=w') (m':=m.row h.length v B) (.row e t xs dp mt n) hfr (fun i hi=>by simp [Mp.row];intro e;omega) (fun i _=>rfl) (fun i hi=>by simp [Mp.row];intro e;omega) rfl
  (fun k b hk hlt=>by
    refine ⟨fun _ hob=> ?_,fun hdp hle=> ?_⟩
    ·simp only [Mp.row,if_true]at hob
     have:=hfresh b hob
     omega
    ·simp only [Mp.row,if_true]
     exact hokB hdp k b hk hle)
  (fun ho hs=>by
    refine ⟨inner,by simp only [Mp.row,if_true];exact hown,?_⟩
    have:=hin ho
    cases dp with
    | true=>simp only [Mp.row,if_true];exact ⟨this,hn rfl⟩
    | false=>exact this)
  (by
    simp only [fpB,Mp.row,if_true]
    rw [List.nodup_append]
    refine ⟨by cases v.ownBlock<;>simp,by cases dp<;>simp [hnd],fun x hx y hy e=> ?_⟩
    have h1:=hfresh x (by simpa using hx)
    cases dp with
    | false=>simp at hy
    | true=>have:=(hB y hy).1;omega)
  (fun b hb=>by
    simp only [fpB,Mp.row,if_true]at hb
    rcases List.mem_append.1 hb with hb | hb
    ·have hob:v.ownBlock=some b:=by simpa using hb
     have h1:=hfresh b hob
     refine ⟨(hown.lt b hob).2,.inl (Nat.le_trans H.fr.size h1),fun i y hy hm=> ?_⟩
     have:=((H.weaker hw).1.lt i y hy b hm).1
     omega
    ·cases dp with
     | false=>simp at hb
     | true=>
       obtain ⟨h1,h2,h3⟩:=hB b hb
       exact ⟨Nat.lt_of_lt_of_le h1 hfr.size,h2,h3⟩)
 exact hh
end
end Go.T
/- T: what is handed on; makes, literals, appends. -/
namespace Go.T
open Go
theorem qiD: ∀{l:List Nat},qaO l=true→l.Nodup
 | [],_=>List.nodup_nil
 | x::r,h=>by
   simp only [qaO,Bool.and_eq_true,Bool.not_eq_true']at h
   refine List.nodup_cons.2 ⟨fun hm=> ?_,qiD h.2⟩
   have:=h.1
   simp at this
   exact this hm
theorem qaX (h:List Blk) (ids:List Nat):(kill h ids).length=h.length:=(qL.kill h ids).1
theorem qg1: ∀(ids:List Nat) (h:List Blk) (i:Nat) (y:Blk),(kill h ids)[i]?=some y→(i∈ids∧y= .dead)∨(i∉ids∧h[i]?=some y)
 | [],h,i,y,hy=> .inr ⟨by simp,hy⟩
 | j::r,h,i,y,hy=>by
   have hy':(kill (h.set j .dead) r)[i]?=some y:=hy
   rcases qg1 r (h.set j .dead) i y hy' with ⟨hm,rfl⟩ | ⟨hm,hg⟩
   ·exact .inl ⟨List.mem_cons_of_mem _ hm,rfl⟩
   ·by_cases e:j=i
    ·subst e
     have hl:j<h.length:=by
      have:=(List.getElem?_eq_some_iff.1 hg).1
      simpa using this
     rw [List.getElem?_set_self hl]at hg
     cases hg
     exact .inl ⟨List.mem_cons_self,rfl⟩
    ·rw [List.getElem?_set_ne e]at hg
     exact .inr ⟨fun hm'=>by rcases List.mem_cons.1 hm' with rfl | hm';exact e rfl;exact hm hm',hg⟩
section
variable {w0 w : World} {mine : Mine} {m : Mp} {h : List Blk}
theorem qfR {ids:List Nat} {b:Nat} (hb:b∈qA m h ids): ∃id x,id∈ids∧h[id]?=some x∧b∈fpB m id x:=by
 simp only [qA,List.mem_flatMap]at hb
 obtain ⟨id,hid,hb⟩:=hb
 cases hx:h[id]? with
 | none=>simp [hx]at hb
 | some x=>rw [hx]at hb;exact ⟨id,x,hid,hx,hb⟩
theorem qj4 (H:HR w0 mine w m h): ∀{ids:List Nat},ids.Nodup→(qA m h ids).Nodup
 | [],_=>List.nodup_nil
 | i::r,hn=>by
   obtain ⟨h1,h2⟩:=List.nodup_cons.1 hn
   have e:qA m h (i::r)=qA m h [i]++qA m h r:=by rw [←qdn];rfl
   rw [e,List.nodup_append]
   refine ⟨?_,qj4 H h2,fun x hx y hy e=> ?_⟩
   ·simp only [qA,List.flatMap_cons,List.flatMap_nil,List.append_nil]
    cases hx:h[i]? with
    | none=>exact List.nodup_nil
    | some x=>exact H.nd i x hx
   ·subst e
    obtain ⟨id1,x1,hi1,hx1,hb1⟩:=qfR hx
    obtain ⟨id2,x2,hi2,hx2,hb2⟩:=qfR hy
    simp at hi1
    subst hi1
    exact H.dj id1 x1 id2 x2 (fun e=>h1 (e▸hi2)) hx1 hx2 x hb1 hb2
theorem qcK (H:HR w0 mine w m h) {ids:List Nat} {b:Nat} (hb:b∈qA m h ids):b<w.heap.size∧(w0.heap.size≤b∨mine.own b)∧ ∀i y,(kill h ids)[i]?=some y→b∉fpB m i y:=by
 obtain ⟨id,x,hid,hx,hb⟩:=qfR hb
 refine ⟨(H.lt id x hx b hb).1,(H.lt id x hx b hb).2,fun i y hy hm=> ?_⟩
 rcases qg1 ids h i y hy with ⟨_,rfl⟩ | ⟨hni,hy'⟩
 ·simp [fpB]at hm
 ·exact H.dj id x i y (fun e=>hni (e▸hid)) hx hy' b hb hm
theorem qBC {ids:List Nat} {n k b:Nat} (hk:qr m h k b) (hle:k≤los h n ids):b∉qA m h ids:=by
 intro hb
 obtain ⟨id,x,hid,hx,hb⟩:=qfR hb
 have h1:=Nat.le_trans hle (qDw h ids n id hid)
 have hko:=hk.2 id x hx
 cases x with
 | dead=>simp [fpB]at hb
 | box cs=>simp [fpB]at hb;exact hko hb
 | nst F t hs vs=>exact hko hb
 | row e t xs dp mt k'=>
   simp only [fpB]at hb
   have hlid:lo h id≤id:=by
    simp only [lo,hx]
    cases dp with
    | true=>exact Nat.min_le_left _ _
    | false=>exact Nat.le_refl _
   rcases List.mem_append.1 hb with hb | hb
   ·exact hko.1 (.inr (by omega)) (by simpa using hb)
   ·cases dp with
    | false=>simp at hb
    | true=>
      have hl2:lo h id≤k':=by simp only [lo,hx];exact Nat.min_le_right _ _
      exact hko.2 rfl (by omega) hb
end
theorem qsU: ∀(vs:List Value) (j off:Nat) (cur:Array Value),off+j+vs.length≤cur.size→
 ((vs.zipIdx j).foldl (fun (cs:Array Value) p=>cs.setIfInBounds (off+p.2) p.1) cur).toList=cur.toList.take (off+j)++vs++cur.toList.drop (off+j+vs.length)
 | [],j,off,cur,_=>by simp
 | v::r,j,off,cur,hl=>by
   simp only [List.length_cons]at hl
   rw [List.zipIdx_cons,List.foldl_cons,qsU r (j+1) off _ (by simp;omega)]
   have e:=list_seg_step cur.toList (off+j) v r (by simp;omega)
   simp only [Array.toList_setIfInBounds]
   rw [show off+(j+1)=off+j+1 by omega]
   simpa [Nat.add_assoc,Nat.add_comm,Nat.add_left_comm] using e
end Go.T
/- T: makes and literals. -/
namespace Go.T
open Go
theorem qEU (sz:Nat): ∀(ps:List (Nat×Value)) (k:Nat) (cur:Array Value),ps.map (·.1)=(List.range ps.length).map (k+ ·)→(∀p∈ps,p.2.cells.size=sz)→(k+ps.length)*sz≤cur.size→
 ∃res,Instr.fill (fun i=>some (i*sz,sz)) cur ps=some res∧res.toList=cur.toList.take (k*sz)++(ps.map fun p=>p.2.cells.toList).flatten++cur.toList.drop ((k+ps.length)*sz)
 | [],k,cur,_,_,_=>⟨cur,rfl,by simp⟩
 | (i,v)::r,k,cur,hi,hs,hl=>by
   simp only [List.length_cons,List.range_succ_eq_map,List.map_cons,List.map_map,List.cons.injEq]at hi
   obtain ⟨hik,hi⟩:=hi
   have hki:k=i:=by rw [hik];rfl
   subst hki
   clear hik
   have hv:v.cells.size=sz:=hs (k,v) (by simp)
   have hksz:k*sz+sz≤cur.size:=by
    have:(k+1)*sz≤(k+(r.length+1))*sz:=Nat.mul_le_mul_right _ (by omega)
    rw [Nat.succ_mul]at this
    simp only [List.length_cons]at hl
    omega
   have hvl:v.cells.toList.length=sz:=by simpa using hv
   have hput:=qsU v.cells.toList 0 (k*sz) cur (by omega)
   simp only [Nat.add_zero]at hput
   have hsz':(v.cells.zipIdx.foldl (fun (cs:Array Value) (p:Value×Nat)=>cs.setIfInBounds (k*sz+p.2) p.1) cur).toList=cur.toList.take (k*sz)++v.cells.toList++cur.toList.drop (k*sz+sz):=by
    rw [hvl]at hput
    rw [←hput,←Array.foldl_toList,Array.toList_zipIdx]
   generalize hc2:v.cells.zipIdx.foldl (fun (cs:Array Value) (p:Value×Nat)=>cs.setIfInBounds (k*sz+p.2) p.1) cur=c2 at hsz'
   have hc2l:c2.size=cur.size:=by
    have:=congrArg List.length hsz'
    simp at this
    omega
   obtain ⟨res,hr,hres⟩:=qEU sz r (k+1) c2 (by
    rw [hi];apply List.map_congr_left;intro a _;simp;omega) (fun p hp=>hs p (List.mem_cons_of_mem _ hp)) (by rw [hc2l];simp only [List.length_cons]at hl;rw [show k+1+r.length=k+(r.length+1) by omega];exact hl)
   refine ⟨res,?_,?_⟩
   ·have h1: ¬(k*sz+v.cells.size>cur.size):=by omega
    have hc2':v.cells.zipIdx.foldl (fun (cs:Array Value) (x:Value×Nat)=>match x with | (c,j)=>cs.setIfInBounds (k*sz+j) c) cur=c2:=hc2
    simp only [Instr.fill]
    rw [if_neg (by simp [hv];omega),hc2']
    exact hr
   ·rw [hres,hsz']
    simp only [List.length_cons,List.map_cons,List.flatten_cons]
    have e1:(k+1)*sz=k*sz+sz:=Nat.succ_mul _ _
    have l1:(cur.toList.take (k*sz)++v.cells.toList).length=k*sz+sz:=by simp;omega
    have hge:(k+1+r.length)*sz=k*sz+sz+r.length*sz:=by rw [Nat.add_mul,e1]
    rw [e1,hge,List.take_append_of_le_length (by omega),List.take_of_length_le (by omega),List.drop_append,List.drop_eq_nil_of_le (by omega),l1,List.nil_append,List.drop_drop]
    have:k*sz+sz+(k*sz+sz+r.length*sz - (k*sz+sz))=(k+(r.length+1))*sz:=by
      rw [show k+(r.length+1)=k+1+r.length by omega,hge];omega
    rw [this]
    simp
section
variable {P : Program} {tt : TT} {o : Oper} {a : Act} {w0 w : World} {mine : Mine} {st : St} {next : Act → World → Prop} {Q : Exit → Act → World → Prop}
theorem R.newedW {m m':Mp} {w':World} {h1:List Blk} {x:Blk} (hd:a.defers=[]) (he:F2 (V w m st.heap) st.env a.tmps.toList) (hh:HR w0 mine w' m' (h1++[x])∧Oks w w' m m' st.heap (h1++[x])∧qP m m' st.heap (h1++[x]))
 (d:Option Tmp) {c:LC} {v:Value} (hv:C w' m' (h1++[x]) c v):R w0 mine {(st.put d (.one c))with heap:=h1++[x]} (a.put d v) w':=by
 refine ⟨by rw [qa5];exact hd,m',hh.1,?_⟩
 show F2 (V w' m' (h1++[x])) (st.put d (.one c)).env _
 rw [St.put_env]
 exact qcl (qaa hh.2.1 hh.2.2 he) d (l:= .one c) hv
theorem qd7 {w':World} {m:Mp} {h h1:List Blk} (hl:h1.length=h.length) {e:Nat} {t:Ty} {xs:List (Val t)} {dp mt:Bool} {n:Nat} {v:Value} {B:List Nat}:C w' (m.row h.length v B) (h1++[.row e t xs dp mt n]) (.own h.length) v:=by
 have:(h1++[.row e t xs dp mt n])[h.length]?=some (.row e t xs dp mt n):=by rw [←hl];simp
 simp only [C,this,Mp.row,if_true]
theorem qFH (hT:qN P tt) {t:Nat} {ti:TI} (ht:tt.get t=some ti) {l c:Operand} (ho:o.op= .makeSlice t l c) {e:Nat} {te:Ty} (hag:ti.agg=false) (hty:ti.ty= .slice e te) {k k':IntKind} {n cp:Int}
 (el:st.ev l= .one (.int k n)) (ec:st.ev c= .one (.int k' cp)) (h0:0≤n) (hnc:n≤cp) (hc:cp≤1048576) (hr:R w0 mine st a w)
 (hn: ∀a' w',R w0 mine (st.new o.dst (.row e te (List.replicate n.toNat (qc te)) true true st.heap.length) (.own st.heap.length)) a' w'→next a' w'):o.wp P a w next Q:=by
 obtain ⟨hd,m,H,he⟩:=hr
 have hti:=hT t ti ht
 have hl:=R.ev H he l
 have hcv:=R.ev H he c
 rw [el]at hl;rw [ec]at hcv
 have hlv:a.eval l= .int k n:=hl
 have hcv:a.eval c= .int k' cp:=hcv
 obtain ⟨hu,tie,hte,htt⟩:=hti.slc hag e te hty
 obtain ⟨i,z,hi,hs,hz,hzc,hby⟩:=(hT e tie hte).info
 rw [htt]at hs hzc
 have hrun:=run_make (P:=P) w t e i z hu hi hz k k' n cp h0 hnc (by
  have h1:(i.bytes:Int)*cp≤65536*1048576:=by
   have hb:(i.bytes:Int)≤65536:=by omega
   exact Int.le_trans (Int.mul_le_mul_of_nonneg_right hb (by omega)) (Int.mul_le_mul_of_nonneg_left hc (by omega))
  omega) (by omega)
 refine qbC (v:= .slice (some ⟨w.heap.size,0,none⟩) n.toNat cp.toNat) (w':=w.alloc (.cells (madeCells z.cells (cp.toNat*i.size)) e)) (by simp only [execOp,ho,hlv,hcv];rw [Sem.run_bind,hrun];rfl) (hn _ _ ?_)
 have hzl:(madeCells z.cells (cp.toNat*i.size)).toList=(List.replicate cp.toNat (q8 te)).flatten:=by rw [hs];exact qLE hzc _
 have hown:(w.alloc (.cells (madeCells z.cells (cp.toNat*i.size)) e)).ownsRow 0 e te.sz (.slice (some ⟨w.heap.size,0,none⟩) n.toNat cp.toNat) (List.replicate n.toNat (qc te)).length (List.replicate n.toNat (q8 te)).flatten:=by
  rw [List.length_replicate]
  refine ⟨by simp [qbl],.inr ⟨w.heap.size,cp.toNat,_,rfl,Nat.zero_le _,heap_alloc_new w _,by omega,by simp only [maxLen];omega,by rw [size_madeCells,hs],?_⟩⟩
  rw [hzl,show cp.toNat=n.toNat+(cp.toNat - n.toNat) by omega,←List.replicate_append_replicate,List.flatten_append,List.take_left' (by simp [qbl])]
 exact R.newedW hd he (HR.newRow H (qL.refl _) (dp:=true) (mt:=true) (n:=st.heap.length) (B:=[]) (qkf w _ _) hown (fun b hb=>by simp [Value.ownBlock]at hb;omega) (by simp) List.nodup_nil (by simp) (fun _=>Nat.le_refl _) (fun h=>by simp at h) (fun _=>qEp (qy4 _) _)) _ (qd7 rfl)
end
end Go.T
