/- T: append of qa4 ('append(s, make(T, n)...)'): the translation hands the number itself. -/
import Derived.Test.YtlhkmndfkjlodaaT10
import Derived.Lib.AppendZerosOnto
set_option linter.unusedSimpArgs false
set_option linter.unusedVariables false
namespace Go.T
open Go
section
variable {P : Program} {tt : TT} {o : Oper} {a : Act} {w0 w : World} {mine : Mine} {st : St} {next : Act → World → Prop} {Q : Exit → Act → World → Prop}
end
end Go.T
/- T: a slice that an element of an own row holds, taken out of it and put back: another value, another row. -/
namespace Go.T
open Go
def qao:(t:Ty)→Nat→Val (hd t)→Value→Val (hd t)
 | .slice _ _,0,_,u=>u
 | .pair a b,f,h,u=>if f<a.sz then (qao a f h.1 u,h.2)else (h.1,qao b (f - a.sz) h.2 u)
 | _,_,h,_=>h
def fpH:(t:Ty)→Val (hd t)→List Nat
 | .slice _ _,u=>(Value.ownBlock u).toList
 | .pair a b,h=>fpH a h.1++fpH b h.2
 | _,_=>[]
def qkG (t:Ty) (hs:List (Val (hd t))):List Nat:=(hs.map (fpH t)).flatten
def Ty.flat2:Ty→Bool
 | .slice _ t=>t.flat
 | .pair a b=>a.flat2&&b.flat2
 | _=>true
theorem qAw {w:World}: ∀{t:Ty} {v:Val t} {cs:List Value} {B:List Nat},t.flat=true→M w t v cs B→B=[]
 | .int _,_,_,_,_,h=>h.2
 | .bool,_,_,_,_,h=>h.2
 | .str,_,_,_,_,h=>h.2
 | .hdr,_,_,_,_,h=>h.2
 | .slice _ _,_,_,_,hf,_=>by simp [Ty.flat]at hf
 | .pair a b,v,cs,B,hf,h=>by
   simp only [Ty.flat,Bool.and_eq_true]at hf
   obtain ⟨_,_,B1,B2,_,rfl,h1,h2⟩:=h
   rw [qAw hf.1 h1,qAw hf.2 h2];rfl
theorem qBU {w:World} {t:Ty} (hf:t.flat=true): ∀{xs:List (Val t)} {cs:List Value} {B:List Nat},Ms (M w t) xs cs B→B=[]
 | [],_,_,h=>h.2
 | _::_,_,_,h=>by
   obtain ⟨_,_,B1,B2,_,rfl,h1,h2⟩:=h
   rw [qAw hf h1,qBU hf h2];rfl
theorem quj {w:World}: ∀{t:Ty} {v:Val t} {h:Val (hd t)} {B:List Nat},t.flat2=true→Nst w t v h B→B=fpH t h
 | .int _,_,_,_,_,h=>h
 | .bool,_,_,_,_,h=>h
 | .str,_,_,_,_,h=>h
 | .hdr,_,_,_,_,h=>h
 | .slice _ _,_,u,B,hf,hn=>by
   obtain ⟨u',inner,Bs,hu,rfl,ho,hm⟩:=hn
   obtain rfl:u=u':=by simpa using hu
   rw [qBU hf hm,List.append_nil];rfl
 | .pair a b,v,h,B,hf,hn=>by
   simp only [Ty.flat2,Bool.and_eq_true]at hf
   obtain ⟨B1,B2,rfl,h1,h2⟩:=hn
   rw [quj hf.1 h1,quj hf.2 h2];rfl
theorem qEO {w:World} {t:Ty} (hf:t.flat2=true): ∀{vs:List (Val t)} {hs:List (Val (hd t))} {B:List Nat},qam w t vs hs B→B=qkG t hs
 | [],[],_,hn=>hn
 | [],_::_,_,hn=>hn.elim
 | _::_,[],_,hn=>hn.elim
 | _::_,_::_,_,hn=>by
   obtain ⟨B1,B2,rfl,h1,h2⟩:=hn
   rw [quj hf h1,qEO hf h2];rfl
theorem qAL {e':Nat} {t':Ty} {w:World}: ∀{t:Ty} {f:Nat} {v:Val t} {h:Val (hd t)} {B:List Nat} {u:Value} {x:List (Val t')},Nst w t v h B→qaP t f h=some u→qbv e' t' t f v=some x→
 ∃B1 Bc B2,B=B1++(Bc++B2)∧M w (.slice e' t') x [u] Bc∧ ∀(w':World) (y:List (Val t')) (u':Value) (Bn:List Nat),(∀b,b∈B1∨b∈B2→w'.heap[b]?=w.heap[b]?)→M w' (.slice e' t') y [u'] Bn→Nst w' t (qaE e' t' t f v y) (qao t f h u') (B1++(Bn++B2))
 | .int _,_,_,_,_,_,_,_,hh,_=>by simp [qaP]at hh
 | .bool,_,_,_,_,_,_,_,hh,_=>by simp [qaP]at hh
 | .str,_,_,_,_,_,_,_,hh,_=>by simp [qaP]at hh
 | .hdr,_,_,_,_,_,_,_,hh,_=>by simp [qaP]at hh
 | .slice e t,f,v,h,B,u,x,hn,hh,hs=>by
   cases f with
   | succ f=>simp [qaP]at hh
   | zero=>
     have hh:(h:Value)=u:=Option.some.inj hh
     subst hh
     simp only [qbv]at hs
     split at hs
     ·rename_i he
      obtain ⟨rfl,rfl⟩:=he
      cases hs
      exact ⟨[],B,[],by simp,hn,fun w' y u' Bn _ hm=>by simp [qaE,qao];exact hm⟩
     ·simp at hs
 | .pair a b,f,v,h,B,u,x,hn,hh,hs=>by
   obtain ⟨Ba,Bb,rfl,h1,h2⟩:=hn
   simp only [qaP]at hh
   simp only [qbv]at hs
   by_cases hf:f<a.sz
   ·rw [if_pos hf]at hh hs
    obtain ⟨B1,Bc,B2,rfl,hm,hk⟩:=qAL h1 hh hs
    refine ⟨B1,Bc,B2++Bb,by simp,hm,fun w' y u' Bn hw hm'=> ?_⟩
    refine ⟨B1++(Bn++B2),Bb,by simp,?_,?_⟩
    ·simp only [qaE,qao,if_pos hf]
     exact hk w' y u' Bn (fun b hb=>hw b (by rcases hb with hb | hb<;>simp [hb])) hm'
    ·simp only [qaE,qao,if_pos hf]
     exact qfz h2 fun b hb=>hw b (by simp [hb])
   ·rw [if_neg hf]at hh hs
    obtain ⟨B1,Bc,B2,rfl,hm,hk⟩:=qAL h2 hh hs
    refine ⟨Ba++B1,Bc,B2,by simp,hm,fun w' y u' Bn hw hm'=> ?_⟩
    refine ⟨Ba,B1++(Bn++B2),by simp,?_,?_⟩
    ·simp only [qaE,qao,if_neg hf]
     exact qfz h1 fun b hb=>hw b (by simp [hb])
    ·simp only [qaE,qao,if_neg hf]
     exact hk w' y u' Bn (fun b hb=>hw b (by rcases hb with hb | hb<;>simp [hb])) hm'
theorem qDP {e':Nat} {t':Ty} {w:World} {t:Ty} {f:Nat} {u:Value} {x:List (Val t')}: ∀{vs:List (Val t)} {hs:List (Val (hd t))} {B:List Nat} {i:Nat} {v:Val t} {h:Val (hd t)},qam w t vs hs B→vs[i]?=some v→hs[i]?=some h→qaP t f h=some u→qbv e' t' t f v=some x→
 ∃B1 Bc B2,B=B1++(Bc++B2)∧M w (.slice e' t') x [u] Bc∧ ∀(w':World) (y:List (Val t')) (u':Value) (Bn:List Nat),(∀b,b∈B1∨b∈B2→w'.heap[b]?=w.heap[b]?)→M w' (.slice e' t') y [u'] Bn→qam w' t (vs.set i (qaE e' t' t f v y)) (hs.set i (qao t f h u')) (B1++(Bn++B2))
 | [],_,_,_,_,_,_,hv,_,_,_=>by simp at hv
 | _::_,[],_,_,_,_,hn,_,_,_,_=>hn.elim
 | v0::vs,h0::hs,B,i,v,h,hn,hv,hh,hu,hx=>by
   obtain ⟨Ba,Bb,rfl,h1,h2⟩:=hn
   cases i with
   | zero=>
     simp at hv hh
     subst hv;subst hh
     obtain ⟨B1,Bc,B2,rfl,hm,hk⟩:=qAL h1 hu hx
     exact ⟨B1,Bc,B2++Bb,by simp,hm,fun w' y u' Bn hw hm'=>⟨B1++(Bn++B2),Bb,by simp,hk w' y u' Bn (fun b hb=>hw b (by rcases hb with hb | hb<;>simp [hb])) hm',qu3 h2 fun b hb=>hw b (by simp [hb])⟩⟩
   | succ i=>
     obtain ⟨B1,Bc,B2,rfl,hm,hk⟩:=qDP h2 (by simpa using hv) (by simpa using hh) hu hx
     exact ⟨Ba++B1,Bc,B2,by simp,hm,fun w' y u' Bn hw hm'=>⟨Ba,B1++(Bn++B2),by simp,qfz h1 fun b hb=>hw b (by simp [hb]),hk w' y u' Bn (fun b hb=>hw b (by rcases hb with hb | hb<;>simp [hb])) hm'⟩⟩
section
variable {P : Program} {w0 w w' : World} {mine : Mine} {m m' : Mp} {h : List Blk} {st : St} {a : Act} {o : Oper} {next : Act → World → Prop} {Q : Exit → Act → World → Prop}
theorem HR.take (H:HR w0 mine w m h) {j:Nat} {F:List Nat} {t:Ty} {hs:List (Val (hd t))} {vs:List (Val t)} (hj:h[j]?=some (.nst F t hs vs)) {e':Nat} {t':Ty} {f i:Nat} {v:Val t} {hh:Val (hd t)} {u:Value} {x:List (Val t')}
 (hv:vs[i]?=some v) (hhh:hs[i]?=some hh) (hu:qaP t f hh=some u) (hx:qbv e' t' t f v=some x) (hf2:t.flat2=true):
 ∃m',m'.val h.length=u∧HR w0 mine w m' (h.set j (.nst (qkG t (hs.set i (qao t f hh (.slice none 0 0)))) t (hs.set i (qao t f hh (.slice none 0 0))) (vs.set i (qaE e' t' t f v [])))++[.row e' t' x true true h.length])∧
  Oks w w m m' h (h.set j (.nst (qkG t (hs.set i (qao t f hh (.slice none 0 0)))) t (hs.set i (qao t f hh (.slice none 0 0))) (vs.set i (qaE e' t' t f v [])))++[.row e' t' x true true h.length])∧
  qP m m' h (h.set j (.nst (qkG t (hs.set i (qao t f hh (.slice none 0 0)))) t (hs.set i (qao t f hh (.slice none 0 0))) (vs.set i (qaE e' t' t f v [])))++[.row e' t' x true true h.length]):=by
 have hN:qam w t vs hs F:=H.br j _ hj
 have hjl:=(List.getElem?_eq_some_iff.1 hj).1
 obtain ⟨B1,Bc,B2,hF,hM,hk⟩:=qDP hN hv hhh hu hx
 have hN':=hk w [] (.slice none 0 0) [] (fun _ _=>rfl) ⟨.slice none 0 0,[],[],rfl,by simp [Value.ownBlock],World.ownsRow_nil w 0 e' t'.sz,rfl,rfl⟩
 have hF':=qEO hf2 hN'
 rw [←hF']
 generalize hhs':hs.set i (qao t f hh (.slice none 0 0))=hs' at*
 generalize hvs':vs.set i (qaE e' t' t f v [])=vs' at*
 simp only [List.nil_append]at hN' ⊢
 obtain ⟨u',inner,Bs,hu',rfl,hown,hms⟩:=hM
 obtain rfl:u=u':=by simpa using hu'
 refine ⟨m.row h.length u Bs,by simp [Mp.row],?_⟩
 have get: ∀i y,(h.set j (.nst (B1++B2) t hs' vs')++[.row e' t' x true true h.length])[i]?=some y→(i=j∧y= .nst (B1++B2) t hs' vs')∨(i=h.length∧y= .row e' t' x true true h.length)∨(i≠j∧i<h.length∧h[i]?=some y):=fun i y hy=>by
  by_cases hl:i<h.length
  ·rw [List.getElem?_append_left (by simpa using hl),List.getElem?_set]at hy
   split at hy
   ·rename_i q;subst q;simp [hl]at hy;exact .inl ⟨rfl,hy.symm⟩
   ·rename_i q;exact .inr (.inr ⟨fun z=>q z.symm,hl,hy⟩)
  ·rw [List.getElem?_append_right (by simp;omega)]at hy
   rw [List.length_set]at hy
   have:i - h.length=0:=by
        rcases Nat.eq_zero_or_pos (i - h.length)with h0 | h0
        ·exact h0
        ·rw [List.getElem?_eq_none (by simp;omega)]at hy;simp at hy
   rw [this]at hy
   simp at hy
   exact .inr (.inl ⟨by omega,hy.symm⟩)
 have hsub: ∀b,b∈B1++B2→b∈F:=fun b hb=>by rw [hF];rcases List.mem_append.1 hb with hb | hb<;>simp [hb]
 have hsubc: ∀b,b∈u.ownBlock.toList++Bs→b∈F:=fun b hb=>by rw [hF];exact List.mem_append_right _ (List.mem_append_left _ hb)
 have hFn:F.Nodup:=H.nd j _ hj
 have hFn':=hFn;rw [hF]at hFn'
 have n1:=List.nodup_append.1 hFn'
 have n2:=List.nodup_append.1 n1.2.1
 have hdisj: ∀b,b∈u.ownBlock.toList++Bs→b∉B1++B2:=fun b hb hm=>by
  rcases List.mem_append.1 hm with hm | hm
  ·exact n1.2.2 b hm b (List.mem_append_left _ hb) rfl
  ·exact n2.2.2 b hb b hm rfl
 have fpn:fpB (m.row h.length u Bs) h.length (.row e' t' x true true h.length)=u.ownBlock.toList++Bs:=by simp [fpB,Mp.row]
 have fpo: ∀i y,i<h.length→fpB (m.row h.length u Bs) i y=fpB m i y:=fun i y hi=>by
  have:i≠h.length:=by omega
  cases y<;>simp [fpB,Mp.row,this]
 have okn: ∀n b i y,i<h.length→(okB (m.row h.length u Bs) n b i y↔okB m n b i y):=fun n b i y hi=>by
  have:i≠h.length:=by omega
  cases y<;>simp [okB,Mp.row,this]
 have hok:Oks w w m (m.row h.length u Bs) h (h.set j (.nst (B1++B2) t hs' vs')++[.row e' t' x true true h.length]):=fun n b hb _=>⟨rfl,hb.1,fun i y hy=>by
  have hbF:b∉F:=hb.2 j _ hj
  rcases get i y hy with ⟨rfl,rfl⟩ | ⟨rfl,rfl⟩ | ⟨hi,hil,hy'⟩
  ·exact fun hm=>hbF (hsub b hm)
  ·refine ⟨fun _ q=> ?_,fun _ _ q=> ?_⟩
   ·have q:u.ownBlock=some b:=by simpa [Mp.row] using q
    exact hbF (hsubc b (List.mem_append_left _ (by simp [q])))
   ·have q:b∈Bs:=by simpa [Mp.row] using q
    exact hbF (hsubc b (List.mem_append_right _ q))
  ·exact (okn n b i y hil).2 (hb.2 i y hy')⟩
 have hsm:qP m (m.row h.length u Bs) h (h.set j (.nst (B1++B2) t hs' vs')++[.row e' t' x true true h.length]):=fun i x0 hx0=>by
  have hil:i<h.length:=(List.getElem?_eq_some_iff.1 hx0).1
  have hne:i≠h.length:=by omega
  by_cases q:i=j
  ·subst q
   rw [hj]at hx0;cases hx0
   exact ⟨.nst (B1++B2) t hs' vs',by rw [List.getElem?_append_left (by simpa using hil),List.getElem?_set_self hil],trivial⟩
  ·refine ⟨x0,by rw [List.getElem?_append_left (by simpa using hil),List.getElem?_set_ne (fun z=>q z.symm)];exact hx0,?_⟩
   cases x0<;>simp [Sim,Mp.row,hne]
 refine ⟨⟨fun i y hy=> ?_,fun i y hy=> ?_,fun i y i' y' hne hy hy' b hb1 hb2=> ?_,fun i y hy b hb1=> ?_,H.fr,H.mx,H.nx,fun i v hpv=> ?_⟩,hok,hsm⟩
 ·rcases get i y hy with ⟨rfl,rfl⟩ | ⟨rfl,rfl⟩ | ⟨hi,hil,hy'⟩
  ·exact hN'
  ·exact ⟨inner,by simpa [Mp.row] using hown,by simpa [Mp.row] using hms,Nat.le_refl _⟩
  ·have hne:i≠h.length:=by omega
   exact qbN hok hsm (by simp [Mp.row,hne]) rfl (by simp [Mp.row,hne]) (fun _ _=>rfl) (H.br i y hy')
 ·rcases get i y hy with ⟨rfl,rfl⟩ | ⟨rfl,rfl⟩ | ⟨hi,hil,hy'⟩
  ·show (B1++B2).Nodup
   exact List.nodup_append.2 ⟨n1.1,n2.2.1,fun b hb c hc q=>n1.2.2 b hb c (List.mem_append_right _ hc) q⟩
  ·rw [fpn];exact n2.1
  ·rw [fpo i y hil];exact H.nd i y hy'
 ·rcases get i y hy with ⟨rfl,rfl⟩ | ⟨rfl,rfl⟩ | ⟨hi,hil,hy1⟩
  ·rcases get i' y' hy' with ⟨rfl,rfl⟩ | ⟨rfl,rfl⟩ | ⟨hi',hil',hy2⟩
   ·exact hne rfl
   ·rw [fpn]at hb2;exact hdisj b hb2 hb1
   ·rw [fpo i' y' hil']at hb2
    exact H.dj i _ i' y' hne hj hy2 b (hsub b hb1) hb2
  ·rw [fpn]at hb1
   rcases get i' y' hy' with ⟨rfl,rfl⟩ | ⟨rfl,rfl⟩ | ⟨hi',hil',hy2⟩
   ·exact hdisj b hb1 hb2
   ·exact hne rfl
   ·rw [fpo i' y' hil']at hb2
    exact H.dj j _ i' y' (fun q=>hi' q.symm) hj hy2 b (hsubc b hb1) hb2
  ·rw [fpo i y hil]at hb1
   rcases get i' y' hy' with ⟨rfl,rfl⟩ | ⟨rfl,rfl⟩ | ⟨hi',hil',hy2⟩
   ·exact H.dj i y i' _ hne hy1 hj b hb1 (hsub b hb2)
   ·rw [fpn]at hb2
    exact H.dj i y j _ hi hy1 hj b hb1 (hsubc b hb2)
   ·rw [fpo i' y' hil']at hb2
    exact H.dj i y i' y' hne hy1 hy2 b hb1 hb2
 ·rcases get i y hy with ⟨rfl,rfl⟩ | ⟨rfl,rfl⟩ | ⟨hi,hil,hy1⟩
  ·exact H.lt i _ hj b (hsub b hb1)
  ·rw [fpn]at hb1;exact H.lt j _ hj b (hsubc b hb1)
  ·rw [fpo i y hil]at hb1;exact H.lt i y hy1 b hb1
 ·obtain ⟨h1,h2,h3⟩:=H.pn i v hpv
  have hne:i≠h.length:=by omega
  exact ⟨by simp;omega,by simpa [Mp.row,hne] using h2,h3⟩
end
end Go.T
/- T: 'x.F[i].G = append(x.F[i].G, make(T, n)...)': the append of a slice that a named row's element holds; the store that puts it back and tells the row's elements again. -/
namespace Go.T
open Go
section
variable {P : Program} {tt : TT} {w0 w w' : World} {mine : Mine} {m m' : Mp} {h : List Blk} {st : St} {a : Act} {o : Oper} {next : Act → World → Prop} {Q : Exit → Act → World → Prop}
def qBX (e:Nat) (te t:Ty) (f i:Nat) (hs:List (Val (hd t))) (vs:List (Val t)):Blk:=
 .nst (qkG t (hs.set i (qao t f (hs.getD i (qc (hd t))) (.slice none 0 0)))) t (hs.set i (qao t f (hs.getD i (qc (hd t))) (.slice none 0 0))) (vs.set i (qaE e te t f (vs.getD i (qc t)) []))
def qCt (tt:TT) (jn f t tn:Nat) (i x y:LV) (d:Option Tmp) (st:St):Res:=match tt.get t,tt.get tn with
 | some ti,some tj=>match ti.agg,ti.ty,tj.agg,tj.ty with
   | false,.slice e te,false,.int _=>match i,x,y,st.heap[jn]? with
     | .one (.int _ i),.one (.hdr u),.one (.int _ n),some (.nst _ t0 hs vs)=>
       match qbv e te t0 f (vs.getD i.toNat (qc t0)),qaP t0 f (hs.getD i.toNat (qc (hd t0)))with
       | some xs,some u'=>if t0.flat2=true∧te.flat=true then
           some (i.toNat<vs.length∧i.toNat<hs.length∧u'=u∧0≤n∧xs.length+n.toNat≤1048576,
             {(st.put d (.one (.own (st.heap.length+1))))with heap:=newRow (st.heap.set jn (qBX e te t0 f i.toNat hs vs)++[.row e te xs true true st.heap.length]) e te (xs++List.replicate n.toNat (qc te)) true [st.heap.length]})
         else none
       | _,_=>none
     | _,_,_,_=>none
   | _,_,_,_=>none
 | _,_=>none
end
end Go.T
/- T: the store behind such an append; both as steps beside T's own. -/
namespace Go.T
open Go
section
variable {P : Program} {tt : TT} {w0 w w' : World} {mine : Mine} {m m' : Mp} {h : List Blk} {st : St} {a : Act} {o : Oper} {next : Act → World → Prop} {Q : Exit → Act → World → Prop}
def qB9 (tt:TT) (jn t:Nat) (x y:LV) (st:St):Res:=match tt.get t with
 | some ti=>match ti.agg,ti.ty with
   | false,.slice e te=>match x,y with
     | .one (.ptr id i f),.one (.own id2)=>match st.heap[id]?,st.heap[jn]?,st.heap[id2]? with
       | some (.row e0 t1 hs1 true true _),some (.nst _ t0 hs vs),some (.row e2 t2 ys2 true true _)=>
         if hh:t1=hd t0∧e2=e∧t2=te then
          match qbv e te t0 f (vs.getD i (qc t0)),qaP t0 f ((hh.1▸hs1:List (Val (hd t0))).getD i (qc (hd t0)))with
          | some _,some _=>if te.flat=true∧id≠id2 then
              some (i<vs.length∧hs.length=vs.length∧qaG t0 vs hs=hs∧hs=(hh.1▸hs1:List (Val (hd t0))).set i (qao t0 f ((hh.1▸hs1:List (Val (hd t0))).getD i (qc (hd t0))) (.slice none 0 0)),
               {st with heap:=((st.heap.set id2 .dead).set jn .dead).set id (.row e0 t0 (vs.set i (qaE e te t0 f (vs.getD i (qc t0)) (hh.2.2▸ys2))) true true 0)})
            else none
          | _,_=>none
         else none
       | _,_,_=>none
     | _,_=>none
   | _,_=>none
 | none=>none
end
end Go.T
/- T: the steps of such an append, beside T's own. -/
namespace Go.T
open Go
abbrev Azs:=List (Nat×Nat×Nat×Nat)
abbrev Gvs:=List (Nat×Nat)
def Azs.get:Azs→Nat→Option (Nat×Nat×Nat)
 | [],_=>none
 | (d,x)::r,d'=>if d=d' then some x else Azs.get r d'
def Gvs.get:Gvs→Nat→Option Nat
 | [],_=>none
 | (d,x)::r,d'=>if d=d' then some x else Gvs.get r d'
def qO0 (tt:TT) (az:Azs) (gv:Gvs) (S:Sem):Sem:=fun o st=>match o.op with
 | .call c=>match o.dst,c.callee,c.args.toList,c.argTypes.toList with
   | some d,.builtin .append,[x,y],[t,tn]=>match Azs.get az d with
     | some (jn,f,ix)=>qCt tt jn f t tn (st.ev (.tmp ix)) (st.ev x) (st.ev y) (some d) st
     | none=>none
   | _,_,_,_=>S o st
 | .store t (.tmp x) y=>match o.dst,Gvs.get gv x with
   | none,some jn=>qB9 tt jn t (st.ev (.tmp x)) (st.ev y) st
   | _,_=>none
 | _=>S o st
attribute [simp] Azs.get Gvs.get qO0 qCt qB9 qBX qao Ty.flat2
end Go.T
