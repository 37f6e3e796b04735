/- T: literals of slices, appends. -/
import Derived.Test.YtlhkmndfkjlodaaT5
import Derived.Laws.OwnMore
set_option linter.unusedSimpArgs false
set_option linter.unusedVariables false
namespace Go.T
open Go
section
variable {w0 w w' : World} {mine : Mine} {m m' : Mp} {h h' : List Blk}
theorem qkD (hk: ∀(id e:Nat) (t:Ty) (xs:List (Val t)) (mt:Bool) (k:Nat),h[id]?=some (Blk.row e t xs true mt k)→k≤id) {n b:Nat} (hb:qr m h n b):qr m h h.length b:=by
 refine ⟨hb.1,?_⟩
 intro id x hx
 have hl:=(List.getElem?_eq_some_iff.1 hx).1
 have h0:=hb.2 id x hx
 cases x with
 | box=>exact h0
 | nst=>exact h0
 | dead=>trivial
 | row e t xs dp mt k=>
   refine ⟨fun hh=>h0.1 ?_,fun hd hle=> ?_⟩
   ·rcases hh with hh | hh
    ·exact .inl hh
    ·omega
   ·subst hd
    have:=hk id e t xs mt k hx
    omega
theorem HR.lo_le (H:HR w0 mine w m h): ∀(id e:Nat) (t:Ty) (xs:List (Val t)) (mt:Bool) (k:Nat),h[id]?=some (Blk.row e t xs true mt k)→k≤id:=fun id e t xs mt k hx=>by
 obtain ⟨_,_,_,hk⟩:=H.br id _ hx
 exact hk
theorem qnL (H:HR w0 mine w m h) {ids:List Nat} {b:Nat} (hb:b∈qA m h ids) (n:Nat):qr m (kill h ids) n b:=by
 refine ⟨by rw [H.mx];exact H.nx b (qcK H hb).2.1,?_⟩
 intro i y hy
 have hf:=(qcK H hb).2.2 i y hy
 cases y with
 | dead=>trivial
 | nst F t hs vs=>exact hf
 | box cs=>show b≠m.blk i;simpa [fpB] using hf
 | row e t xs dp mt k=>
   simp only [fpB,List.mem_append,not_or]at hf
   refine ⟨fun _ hob=>hf.1 (by simp [hob]),fun hd _ hm=> ?_⟩
   subst hd
   exact hf.2 hm
theorem qqO {ok:Nat→Prop} (H: ∀id x,h[id]?=some x→BR w m h id x) {t:Ty}: ∀{css:List (List LC)} {vss:List (List Value)} {xs:List (Val t)},F2 (F2 (C w m h)) css vss→qaQ h t css=some xs→(∀c∈css.flatten,okC w m h ok c)→
 Ks (K w ok t) xs vss.flatten∧xs.length=css.length∧ ∀vs∈vss,vs.length=t.sz
 | [],_,xs,.nil,hi,_=>by simp [qaQ]at hi;subst hi;exact ⟨rfl,rfl,by simp⟩
 | cs::css,_,xs,.cons (b:=vs) (bs:=vss) hc hcs,hi,hok=>by
   simp only [qaQ]at hi
   split at hi
   ·rename_i v hv
    split at hi
    ·rename_i vs' hvs
     cases hi
     obtain ⟨v1,v2,rfl,hk,hr,_⟩:=qc2 H hc hv (fun c hc=>hok c (by simp [hc]))
     cases hr
     obtain ⟨h1,h2,h3⟩:=qqO H hcs hvs (fun c hc=>hok c (by simp only [List.flatten_cons,List.mem_append];exact .inr hc))
     refine ⟨⟨v1,vss.flatten,by simp,hk,h1⟩,by simp [h2],fun vs hm=> ?_⟩
     rcases List.mem_cons.1 hm with rfl | hm
     ·simpa using qaj hk
     ·exact h3 vs hm
    ·simp at hi
   ·simp at hi
theorem qCu (H: ∀id x,h[id]?=some x→BR w m h id x) {t:Ty}: ∀{css:List (List LC)} {vss:List (List Value)} {xs:List (Val t)},F2 (F2 (C w m h)) css vss→qaQ h t css=some xs→qW h css.flatten=true→
 Ms (M w t) xs vss.flatten (qA m h (qf css.flatten))
 | [],_,xs,.nil,hi,_=>by simp [qaQ]at hi;subst hi;exact ⟨rfl,rfl⟩
 | cs::css,_,xs,.cons (b:=vs) (bs:=vss) hc hcs,hi,hd=>by
   simp only [List.flatten_cons,qW,List.all_append,Bool.and_eq_true]at hd
   simp only [qaQ]at hi
   split at hi
   ·rename_i v hv
    split at hi
    ·rename_i vs' hvs
     cases hi
     obtain ⟨v1,v2,pre,rfl,hpre,hm,hr⟩:=qfE H hc hv hd.1
     cases hr
     rw [List.append_nil]at hpre
     subst hpre
     refine ⟨v1,vss.flatten,_,_,by simp,?_,hm,qCu H hcs hvs hd.2⟩
     rw [List.flatten_cons,qBH,qdn]
    ·simp at hi
   ·simp at hi
theorem qOO (H:HR w0 mine w m h) {ids:List Nat} {x:Blk} (hm: ∀i,i<h.length→m'.val i=m.val i∧m'.blk i=m.blk i∧m'.nst i=m.nst i) (hext:m'.ext=m.ext) (hx: ∀n b,b<w.heap.size→okB m' n b h.length x) (hxd: ∀(e:Nat) (t:Ty) (xs:List (Val t)) (mt:Bool) (k:Nat),x≠Blk.row e t xs true mt k)
 (hok:Oks w w' m m' h (kill h ids++[x])) {c:LC} (hc: ∀id,c= .own id→id∈ids):okC w m h (qr m' (kill h ids++[x]) (h.length+1)) c:=by
 have hlen:(kill h ids++[x]).length=h.length+1:=by simp [qaX]
 have hlo: ∀(id e:Nat) (t:Ty) (xs:List (Val t)) (mt:Bool) (k:Nat),(kill h ids++[x])[id]?=some (Blk.row e t xs true mt k)→k≤id:=by
  intro id e t xs mt k hy
  by_cases hl:id<(kill h ids).length
  ·rw [List.getElem?_append_left hl]at hy
   rcases qg1 ids h id _ hy with ⟨_,h0⟩ | ⟨_,h0⟩
   ·simp at h0
   ·exact H.lo_le id e t xs mt k h0
  ·rw [List.getElem?_append_right (by omega)]at hy
   have:id - (kill h ids).length=0:=by
        rcases Nat.eq_zero_or_pos (id - (kill h ids).length)with h0 | h0
        ·exact h0
        ·rw [List.getElem?_eq_none (by simp;omega)]at hy;cases hy
   rw [this]at hy
   simp at hy
   exact absurd hy (hxd e t xs mt k)
 have top: ∀n b,qr m h n b→b<w.heap.size→qr m' (kill h ids++[x]) (h.length+1) b:=fun n b hb hlt=>by
  have:=qkD hlo (hok n b hb hlt).2
  rwa [hlen]at this
 cases c with
 | sl e t xs n=>exact fun b hb hlt=>top n b hb hlt
 | own id=>
   intro y hy
   have hid:=hc id rfl
   refine ⟨fun b hb=> ?_,?_⟩
   ·have hbi:b∈qA m h ids:=by
       simp only [qA,List.mem_flatMap]
       exact ⟨id,hid,by rw [hy];exact hb⟩
    have hlt:=(H.lt id y hy b hb).1
    refine ⟨by rw [hext];exact (qnL H hbi 0).1,?_⟩
    intro i z hz
    by_cases hl:i<(kill h ids).length
    ·rw [List.getElem?_append_left hl]at hz
     obtain ⟨e1,e2,e3⟩:=hm i (by rw [qaX]at hl;exact hl)
     have:=(qnL H hbi (h.length+1)).2 i z hz
     cases z<;>simp_all [okB]
    ·rw [List.getElem?_append_right (by omega)]at hz
     have h0:i - (kill h ids).length=0:=by
      rcases Nat.eq_zero_or_pos (i - (kill h ids).length)with h0 | h0
      ·exact h0
      ·rw [List.getElem?_eq_none (by simp;omega)]at hz;cases hz
     rw [h0]at hz
     simp at hz
     subst hz
     have:i=h.length:=by rw [qaX]at hl h0;omega
     subst this
     exact hx _ b hlt
   ·cases y with
    | row e t xs dp mt n=>
      cases dp with
      | true=>trivial
      | false=>exact fun b hb hlt=>top n b hb hlt
    | _=>trivial
 | _=>trivial
end
end Go.T
