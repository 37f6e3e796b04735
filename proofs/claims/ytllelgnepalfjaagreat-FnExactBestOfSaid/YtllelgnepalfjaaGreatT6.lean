import Derived.Test.YtllelgnepalfjaaGreatT5
import Derived.Laws.OwnMore
set_option linter.unusedSimpArgs false
set_option linter.unusedVariables false
namespace Go.T
open Go
section
variable {w0 w w' : World} {mine : Mine} {m m' : Mp} {h h' : List Blk}
theorem nv (hk: ∀(id e:Nat) (t:Ty) (xs:List (Val t)) (mt:Bool) (k:Nat),h[id]?=some (Blk.row e t xs true mt k)->k<=id) {n b:Nat} (f:qM m h n b):qM m h h.length b:=by
 refine ⟨f.1,?_⟩
 intro id x d
 have g:=(List.getElem?_eq_some_iff.1 d).1
 have c:=f.2 id x d
 cases x with
 | box=>exact c
 | nst=>exact c
 | dead=>trivial
 | row e t xs dp mt k=>
   refine ⟨fun a=>c.1 ?_,fun hd hle=> ?_⟩
   ·rcases a with a | a
    ·exact .inl a
    ·omega
   ·subst hd
    have:=hk id e t xs mt k d
    omega
theorem HR.lo_le (H:HR w0 mine w m h): ∀(id e:Nat) (t:Ty) (xs:List (Val t)) (mt:Bool) (k:Nat),h[id]?=some (Blk.row e t xs true mt k)->k<=id:=fun id e t xs mt k a=>by
 obtain ⟨_,_,_,hk⟩:=H.br id _ a
 exact hk
theorem rr (H:HR w0 mine w m h) {ids:List Nat} {b:Nat} (c:b∈qY m h ids) (n:Nat):qM m (kill h ids) n b:=by
 refine ⟨by rw [H.mx];exact H.nx b (gT H c).2.1,?_⟩
 intro i y f
 have a:=(gT H c).2.2 i y f
 cases y with
 | dead=>trivial
 | nst F t hs vs=>exact a
 | box cs=>show b≠m.blk i;simpa [fpB] using a
 | row e t xs dp mt k=>
   simp only [fpB,List.mem_append,not_or]at a
   refine ⟨fun _ d=>a.1 (by simp [d]),fun hd _ hm=> ?_⟩
   subst hd
   exact a.2 hm
theorem yh {ok:Nat->Prop} (H: ∀id x,h[id]?=some x->BR w m h id x) {t:Ty}: ∀{d:List (List LC)} {f:List (List Value)} {xs:List (Val t)},F2 (F2 (C w m h)) d f->dF h t d=some xs->(∀c∈d.flatten,okC w m h ok c)->
 Ks (K w ok t) xs f.flatten/\xs.length=d.length/\ ∀vs∈f,vs.length=t.sz
 | [],_,xs,.nil,a,_=>by simp [dF]at a;subst a;exact ⟨rfl,rfl,by simp⟩
 | cs::d,_,xs,.cons (b:=vs) (bs:=f) e j,a,g=>by
   simp only [dF]at a
   split at a
   ·rename_i v l
    split at a
    ·rename_i q n
     cases a
     obtain ⟨o,p,rfl,hk,k,_⟩:=ib H e l (fun c e=>g c (by simp [e]))
     cases k
     obtain ⟨h1,h2,i⟩:=yh H j n (fun c e=>g c (by simp only [List.flatten_cons,List.mem_append];exact .inr e))
     refine ⟨⟨o,f.flatten,by simp,hk,h1⟩,by simp [h2],fun vs hm=> ?_⟩
     rcases List.mem_cons.1 hm with rfl | hm
     ·simpa using cE hk
     ·exact i vs hm
    ·simp at a
   ·simp at a
theorem IZ (H: ∀id x,h[id]?=some x->BR w m h id x) {t:Ty}: ∀{c:List (List LC)} {d:List (List Value)} {xs:List (Val t)},F2 (F2 (C w m h)) c d->dF h t c=some xs->bR h c.flatten=true->
 Ms (M w t) xs d.flatten (qY m h (qG c.flatten))
 | [],_,xs,.nil,a,_=>by simp [dF]at a;subst a;exact ⟨rfl,rfl⟩
 | cs::c,_,xs,.cons (b:=vs) (bs:=d) f g,a,hd=>by
   simp only [List.flatten_cons,bR,List.all_append,Bool.and_eq_true]at hd
   simp only [dF]at a
   split at a
   ·rename_i v j
    split at a
    ·rename_i o k
     cases a
     obtain ⟨l,n,pre,rfl,e,hm,i⟩:=ie H f j hd.1
     cases i
     rw [List.append_nil]at e
     subst e
     refine ⟨l,d.flatten,_,_,by simp,?_,hm,IZ H g k hd.2⟩
     rw [List.flatten_cons,ns,ic]
    ·simp at a
   ·simp at a
theorem UN (H:HR w0 mine w m h) {ids:List Nat} {x:Blk} (hm: ∀i,i<h.length->m'.val i=m.val i/\m'.blk i=m.blk i/\m'.nst i=m.nst i) (q:m'.ext=m.ext) (v: ∀n b,b<w.heap.size->okB m' n b h.length x) (A: ∀(e:Nat) (t:Ty) (xs:List (Val t)) (mt:Bool) (k:Nat),x≠Blk.row e t xs true mt k)
 (u:Oks w w' m m' h (kill h ids++[x])) {c:LC} (p: ∀id,c= .own id->id∈ids):okC w m h (qM m' (kill h ids++[x]) (h.length+1)) c:=by
 have hlen:(kill h ids++[x]).length=h.length+1:=by simp [ea]
 have s: ∀(id e:Nat) (t:Ty) (xs:List (Val t)) (mt:Bool) (k:Nat),(kill h ids++[x])[id]?=some (Blk.row e t xs true mt k)->k<=id:=by
  intro id e t xs mt k d
  by_cases l:id<(kill h ids).length
  ·rw [List.getElem?_append_left l]at d
   rcases lO ids h id _ d with ⟨_,a⟩ | ⟨_,a⟩
   ·simp at a
   ·exact H.lo_le id e t xs mt k a
  ·rw [List.getElem?_append_right (by omega)]at d
   have:id - (kill h ids).length=0:=by
        rcases Nat.eq_zero_or_pos (id - (kill h ids).length)with a | a
        ·exact a
        ·rw [List.getElem?_eq_none (by simp;omega)]at d;cases d
   rw [this]at d
   simp at d
   exact absurd d (A e t xs mt k)
 have top: ∀n b,qM m h n b->b<w.heap.size->qM m' (kill h ids++[x]) (h.length+1) b:=fun n b f j=>by
  have:=nv s (u n b f j).2
  rwa [hlen]at this
 cases c with
 | sl e t xs n=>exact fun b f j=>top n b f j
 | own id=>
   intro y d
   have r:=p id rfl
   refine ⟨fun b f=> ?_,?_⟩
   ·have o:b∈qY m h ids:=by
       simp only [qY,List.mem_flatMap]
       exact ⟨id,r,by rw [d];exact f⟩
    have j:=(H.lt id y d b f).1
    refine ⟨by rw [q];exact (rr H o 0).1,?_⟩
    intro i z g
    by_cases l:i<(kill h ids).length
    ·rw [List.getElem?_append_left l]at g
     obtain ⟨B,C,e3⟩:=hm i (by rw [ea]at l;exact l)
     have:=(rr H o (h.length+1)).2 i z g
     cases z<;>simp_all [okB]
    ·rw [List.getElem?_append_right (by omega)]at g
     have a:i - (kill h ids).length=0:=by
      rcases Nat.eq_zero_or_pos (i - (kill h ids).length)with a | a
      ·exact a
      ·rw [List.getElem?_eq_none (by simp;omega)]at g;cases g
     rw [a]at g
     simp at g
     subst g
     have:i=h.length:=by rw [ea]at l a;omega
     subst this
     exact v _ b j
   ·cases y with
    | row e t xs dp mt n=>
      cases dp with
      | true=>trivial
      | false=>exact fun b f j=>top n b f j
    | _=>trivial
 | _=>trivial
end
end Go.T
