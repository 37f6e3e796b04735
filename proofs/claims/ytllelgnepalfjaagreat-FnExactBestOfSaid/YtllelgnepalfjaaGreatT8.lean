import Derived.Test.YtllelgnepalfjaaGreatT7
import Derived.Orders
set_option linter.unusedSimpArgs false
set_option linter.unusedVariables false
namespace Go.T
open Go
def St.lit (st:St) (t:Nat) (b:Bool):St:={st with env:=st.env.set t (.one (.bool b))}
theorem St.lit_self {st:St} {t:Nat} {b:Bool} (h:st.env[t]?=some (.one (.bool b))):st.lit t b=st:=by
 obtain ⟨env,heap⟩:=st
 simp only [St.lit,St.mk.injEq,and_true]
 apply List.ext_getElem?
 intro j
 by_cases e:t=j
 ·subst e
  rw [List.getElem?_set_self (List.getElem?_eq_some_iff.1 h).1]
  exact h.symm
 ·rw [List.getElem?_set_ne e]
def b2 (ops:Array Oper) (o:Oper) (st:St) (yes no:St->Prop):Prop:=match o.guard with
 | none=>yes st
 | some (j,want)=>match (ops[j]?).bind (·.dst)with
   | none=>no st
   | some t=>match st.env[t]? with
     | some (.one (.bool b))=>(b=want->yes (st.lit t want))/\(b= !want->no (st.lit t (!want)))
     | some (.tup _)=>no st
     | none=>no st
     | _=>False
def Jm (P:Program) (o:Oper) (st:St) (k:St->Prop):Prop:=
 ∀(w0:World) (mine:Mine) (a:Act) (w:World) (next:Act->World->Prop) (Q:Exit->Act->World->Prop),R w0 mine st a w->(∀b w' c,R w0 mine c b w'->k c->next b w')->o.wp P a w next Q
def opW (P:Program) (tt:TT) (Γ:Gam) (o:Oper) (st:St) (k:St->Prop):Prop:=match b1 tt Γ o st with
 | some (p,a)=>p/\k a
 | none=>Jm P o st k
def fX (P:Program) (tt:TT) (Γ:Gam) (ops:Array Oper):List Oper->St->(St->Prop)->Prop
 | [],st,k=>k st
 | o::os,st,k=>b2 ops o st (fun st=>opW P tt Γ o st fun st=>fX P tt Γ ops os st k) (fun st=>fX P tt Γ ops os (st.put o.dst (.tup [])) k)
section
variable {P : Program} {tt : TT} {Γ : Gam} {o : Oper} {ops : Array Oper} {a : Act} {w0 w w' : World} {mine : Mine} {st : St} {next : Act -> World -> Prop} {Q : Exit -> Act -> World -> Prop}
theorem Vn (hT:bm P tt) {t:Nat} {x:Operand} {lo c:Option Operand} (f:o.op= .slice t x lo c none) {p:Prop} {q:St} (hs:gZ tt t (st.ev x) (lo.map st.ev) (c.map st.ev) o.dst st=some (p,q)) (g:p) (i:R w0 mine st a w)
 (d: ∀b w',R w0 mine q b w'->next b w'):o.wp P a w next Q:=by
 unfold gZ at hs
 split at hs
 ·rename_i id ex
  obtain ⟨hd,m,H,he⟩:=i
  have n:=R.ev H he x
  rw [ex]at n
  unfold lW at hs
  split at hs
  ·rename_i ti e te xs dp mt k z A
   split at hs
   ·rename_i l h u s
    split at hs
    ·rename_i r
     cases hs
     obtain ⟨H1,v,y⟩:=H.weaker (bu.freeze st.heap [id])
     exact IP (st:={st with heap:=freeze st.heap [id]}) hT f (hT t ti z) hd H1 (bV v y he) (rF H A n) u s r g fun b w' j=>d b w' (by
            have e:({st with heap:=freeze st.heap [id]}:St).put o.dst (.one (.sl e te ((xs.take h.toNat).drop l.toNat) st.heap.length))={st.put o.dst (.one (.sl e te ((xs.take h.toNat).drop l.toNat) st.heap.length))with heap:=freeze st.heap [id]}:=by cases o.dst<;>rfl
            rw [e]at j
            exact j)
    ·simp at hs
   ·simp at hs
  ·simp at hs
 ·exact IQ hT f hs g i d
theorem yw (hT:bm P tt) (l: ∀f g,Γ.get f=some g->Sound P f g) {p:Prop} {j:St} (hs:b1 tt Γ o st=some (p,j)) (d:p) (e:R w0 mine st a w) (b: ∀i w',R w0 mine j i w'->next i w'):o.wp P a w next Q:=by
 unfold b1 at hs
 split at hs
 ·rename_i c h
  split at hs
  ·rename_i f k
   exact Vh l h k hs d e b
  ·exact I7 hT hs d e b
 ·rename_i t x lo m h
  exact Vn hT h hs d e b
 ·exact I7 hT hs d e b
theorem R.slot (c:R w0 mine st a w) {t:Nat} {l:LV} (h:st.env[t]?=some l): ∃m h v,a.tmps[t]?=some v/\V w m h l v:=by
 obtain ⟨_,m,H,he⟩:=c
 obtain ⟨v,d,b⟩:=he.get h
 exact ⟨m,_,v,by simpa using d,b⟩
theorem R.noslot (b:R w0 mine st a w) {t:Nat} (h:st.env[t]?=none):a.tmps[t]?=none:=by
 obtain ⟨_,m,H,he⟩:=b
 have:=he.len
 simp at h
 simp
 simp at this
 omega
theorem Vo {j t:Nat} (h:(ops[j]?).bind (·.dst)=some t) (tmps:Array Value):yielded ops tmps j=match tmps[t]? with | some (.bool b)=>some b | _=>none:=by
 unfold yielded
 rw [h]
 simp only [Option.bind_some]
 cases tmps[t]? with
 | none=>rfl
 | some v=>cases v<;>rfl
theorem Vp {j:Nat} (h:(ops[j]?).bind (·.dst)=none) (tmps:Array Value):yielded ops tmps j=none:=by
 simp [yielded,h]
theorem yx {yes no:St->Prop} (h:b2 ops o st yes no) (g:R w0 mine st a w):(Region.wanted o (yielded ops a.tmps)=true/\yes st)∨(Region.wanted o (yielded ops a.tmps)=false/\no st):=by
 unfold b2 at h
 unfold Region.wanted
 split at h
 ·rename_i f
  rw [f];exact .inl ⟨rfl,h⟩
 ·rename_i j want f
  rw [f]
  simp only
  split at h
  ·rename_i d
   rw [Vp d]
   exact .inr ⟨rfl,h⟩
  ·rename_i t d
   rw [Vo d]
   split at h
   ·rename_i b hs
    obtain ⟨m,k,v,i,c⟩:=g.slot hs
    have l:v= .bool b:=c
    subst l
    rw [i]
    simp only
    by_cases e:b=want
    ·subst e
     have:=h.1 rfl
     rw [St.lit_self hs]at this
     exact .inl ⟨by simp,this⟩
    ·have e':b= !want:=by cases b<;>cases want<;>simp_all
     have:=h.2 e'
     rw [<-e',St.lit_self hs]at this
     exact .inr ⟨by simpa using e,this⟩
   ·rename_i ls hs
    obtain ⟨m,k,v,i,c⟩:=g.slot hs
    obtain ⟨vs,rfl,_⟩:=c
    rw [i]
    exact .inr ⟨rfl,h⟩
   ·rename_i hs
    rw [g.noslot hs]
    exact .inr ⟨rfl,h⟩
   ·exact h.elim
theorem R.skip (b:R w0 mine st a w) (d:Option Tmp):R w0 mine (st.put d (.tup [])) (a.put d undef) w:=
 b.put d fun m H he=>⟨#[],rfl,.nil⟩
end
end Go.T
namespace Go.T
open Go
inductive Tree
 | done
 | first (i:Nat) (t:Tree)
 | quiet (i:Nat) (t:Tree)
 | grow (i:Nat) (t:Tree)
 | pure (i:Nat) (t:Tree)
 | keep (i:Nat) (t:Tree)
 | alt (i:Nat) (t r:Tree)
 | stop
 | sem (ids:List Nat) (t:Tree)
abbrev Smx:=Oper->St->Res
def dI:Smx:=fun _ _=>none
structure SX where
 ids:List Nat
 S:Smx
def sx0:SX:=⟨[],dI⟩
noncomputable def fy (sx:SX) (i:Nat) (tt:TT) (Γ:Gam) (o:Oper) (st:St):Res:=bif sx.ids.contains i then sx.S o st else b1 tt Γ o st
def eW (sx:SX) (i:Nat) (tt:TT) (Γ:Gam) (o:Oper) (st:St) (K:St->Prop):Prop:=match fy sx i tt Γ o st with
 | some (p,a)=>p/\K a
 | none=>False
def eB (sx:SX) (tt:TT) (Γ:Gam) (ops:Array Oper) (i:Nat) (st:St) (K:St->Prop):Prop:=match ops[i]? with
 | none=>False
 | some o=>b2 ops o st (fun st=>eW sx i tt Γ o st K) (fun st=>K (st.put o.dst (.tup [])))
def cK (sx:SX) (tt:TT) (Γ:Gam) (ops:Array Oper) (i:Nat) (st:St) (K:St->Prop):Prop:=match ops[i]? with
 | none=>False
 | some o=>b2 ops o st (fun _=>eW sx i tt Γ o st K) (fun _=>K (st.put o.dst (.tup [])))
def lX (sx:SX) (tt:TT) (Γ:Gam) (ops:Array Oper):Nat->Array Bool->St->(St->Prop)->Prop
 | 0,a,st,k=>Region.ready .any ops a=[]/\k st
 | fuel+1,a,st,k=>(Region.ready .any ops a=[]->k st)/\ ∀i∈Region.ready .any ops a,cK sx tt Γ ops i st fun b=>lX sx tt Γ ops fuel (a.setIfInBounds i true) b k
section
variable {sx : SX} {P : Program} {tt : TT} {Γ : Gam} {o : Oper} {ops : Array Oper} {a : Act} {w0 w w' : World} {mine : Mine} {st : St} {next : Act -> World -> Prop} {Q : Exit -> Act -> World -> Prop}
def dt (P:Program) (S:Smx):Prop:= ∀(o:Oper) (st:St) (p:Prop) (c:St),S o st=some (p,c)->p-> ∀(w0:World) (mine:Mine) (a:Act) (w:World) (next:Act->World->Prop) (Q:Exit->Act->World->Prop),R w0 mine st a w->(∀b w',R w0 mine c b w'->next b w')->o.wp P a w next Q
def ih (P:Program) (S:Smx) (w0:World) (mine:Mine):Prop:= ∀(o:Oper) (st:St) (p:Prop) (c:St),S o st=some (p,c)->p-> ∀(a:Act) (w:World) (next:Act->World->Prop) (Q:Exit->Act->World->Prop),R w0 mine st a w->(∀b w',R w0 mine c b w'->next b w')->o.wp P a w next Q
theorem dt.at {S:Smx} (h:dt P S):ih P S w0 mine:=fun o st p e hs c a w next Q d b=>h o st p e hs c w0 mine a w next Q d b
theorem qp (P:Program):dt P dI:=fun _ _ _ _ h=>by simp [dI]at h
theorem Jo {yes no yes' no':St->Prop} (f: ∀s,yes s->yes' s) (a: ∀s,no s->no' s) (h:b2 ops o st yes no):b2 ops o st yes' no':=by
 unfold b2 at h ⊢
 split
 ·rename_i d;simp only [d]at h;exact f _ h
 ·rename_i j want d
  simp only [d]at h
  split
  ·rename_i c;simp only [c]at h;exact a _ h
  ·rename_i t c
   simp only [c]at h
   split
   ·rename_i b hs;simp only [hs]at h;exact ⟨fun e=>f _ (h.1 e),fun e=>a _ (h.2 e)⟩
   ·rename_i ls hs;simp only [hs]at h;exact a _ h
   ·rename_i hs;simp only [hs]at h;exact a _ h
   ·rename_i h1 h2 g
    split at h
    ·rename_i b hs;exact absurd hs (h1 b)
    ·rename_i ls hs;exact absurd hs (h2 ls)
    ·rename_i hs;exact absurd hs g
    ·exact h
theorem Vq {yes no:St->Prop} (h:b2 ops o st yes no):b2 ops o st (fun _=>yes st) (fun _=>no st):=by
 unfold b2 at h ⊢
 split
 ·rename_i c;simp only [c]at h;exact h
 ·rename_i j want c
  simp only [c]at h
  split
  ·rename_i a;simp only [a]at h;exact h
  ·rename_i t a
   simp only [a]at h
   split
   ·rename_i b hs
    simp only [hs]at h
    refine ⟨fun e=> ?_,fun e=> ?_⟩
    ·have:=h.1 e
     rw [<-e,St.lit_self hs]at this
     exact this
    ·have:=h.2 e
     rw [<-e,St.lit_self hs]at this
     exact this
   ·rename_i ls hs;simp only [hs]at h;exact h
   ·rename_i hs;simp only [hs]at h;exact h
   ·rename_i h1 h2 d
    split at h
    ·rename_i b hs;exact absurd hs (h1 b)
    ·rename_i ls hs;exact absurd hs (h2 ls)
    ·rename_i hs;exact absurd hs d
    ·exact h
theorem lY {i:Nat} {K:St->Prop} (h:eB sx tt Γ ops i st K):cK sx tt Γ ops i st K:=by
 unfold eB at h
 unfold cK
 cases a:ops[i]? with
 | none=>rw [a]at h;exact h.elim
 | some o=>rw [a]at h;exact Vq h
theorem Jp {i:Nat} {K a:St->Prop} (b: ∀s,K s->a s) (h:cK sx tt Γ ops i st K):cK sx tt Γ ops i st a:=by
 unfold cK at h ⊢
 cases c:ops[i]? with
 | none=>rw [c]at h;exact h.elim
 | some o=>
   rw [c]at h
   refine Jo (fun s h=> ?_) (fun s h=>b _ h) h
   unfold eW at h ⊢
   cases hs:fy sx i tt Γ o st with
   | none=>rw [hs]at h;exact h.elim
   | some r=>rw [hs]at h;exact ⟨h.1,b _ h.2⟩
theorem rG (hT:bm P tt) (e: ∀f g,Γ.get f=some g->Sound P f g) (d:ih P sx.S w0 mine) {k:St->Prop} (c: ∀a w st,R w0 mine st a w->k st->Q .normal a w):
 ∀(fuel:Nat) (j:Array Bool) (st:St) (a:Act) (w:World),lX sx tt Γ ops fuel j st k->R w0 mine st a w->wpAny P .any ops Q fuel j a w
 | 0,j,st,a,w,h,b=>⟨h.1,c a w st b h.2⟩
 | fuel+1,j,st,a,w,h,b=>by
   refine ⟨fun r=>c a w st b (h.1 r),fun i s=> ?_⟩
   have h1:=h.2 i s
   unfold cK at h1
   unfold wpOp
   split at h1
   ·exact h1.elim
   ·rename_i o t
    simp only [t]
    rcases yx h1 b with ⟨hw,h'⟩ | ⟨hw,h'⟩
    ·rw [if_pos hw]
     unfold eW fy at h'
     cases q:sx.ids.contains i with
     | true=>
       rw [q]at h'
       simp only [cond_true]at h'
       split at h'
       ·rename_i p l hs
        exact .inl (d o st p l hs h'.1 a w _ _ b fun m w' n=>rG hT e d c fuel _ l m w' h'.2 n)
       ·exact h'.elim
     | false=>
       rw [q]at h'
       simp only [cond_false]at h'
       split at h'
       ·rename_i p l hs
        exact .inl (yw hT e hs h'.1 b fun m w' n=>rG hT e d c fuel _ l m w' h'.2 n)
       ·exact h'.elim
    ·rw [if_neg (by rw [hw];simp)]
     exact rG hT e d c fuel _ _ _ _ h' (b.skip o.dst)
theorem Jq {d:Option Tmp} {l:LV} {x:Operand} (h: ∀t,d=some t->x≠ .tmp t):(st.put d l).ev x=st.ev x:=by
 cases d with
 | none=>rfl
 | some t=>
   cases x with
   | tmp u=>
     have:t≠u:=fun e=>h t rfl (e▸rfl)
     simp only [St.put,St.ev,List.getD_eq_getElem?_getD]
     rw [List.getElem?_set_ne this]
   | _=>rfl
theorem Jr {d:Option Tmp} {l:LV} {t:Nat} (h:d≠some t):(st.put d l).env[t]?=st.env[t]?:=by
 cases d with
 | none=>rfl
 | some u=>
   have:u≠t:=fun e=>h (e▸rfl)
   simp only [St.put]
   rw [List.getElem?_set_ne this]
theorem Vr {d:Option Tmp} {l:LV} {h':List Blk} {x:Operand} (h: ∀t,d=some t->x≠ .tmp t):(st.res d l h').ev x=st.ev x:=by
 have:(st.res d l h').ev x=(st.put d l).ev x:=by cases x<;>rfl
 rw [this,Jq h]
theorem Js {d d':Option Tmp} {l l':LV} {h':List Blk} (h: ∀t,d=some t->d'≠some t):(st.put d l).res d' l' h'=(st.res d' l' h').put d l:=by
 cases d with
 | none=>rfl
 | some t=>
   cases d' with
   | none=>rfl
   | some u=>
     have:t≠u:=fun e=>h t rfl (e▸rfl)
     simp only [St.res,St.put,St.mk.injEq,and_true]
     exact List.set_comm _ _ this
theorem St.put_heap' (st:St) (d:Option Tmp) (l:LV):(st.put d l).heap=st.heap:=by cases d<;>rfl
theorem Jt {tt:TT} {t:Nat} {x:LV} {lo f:Option LV} {d:Option Tmp} {st:St} {p:Prop} {s:St} (hs:ew tt t x lo f d st=some (p,s)): ∃l,s=st.put d l/\ ∀st2:St,ew tt t x lo f d st2=some (p,st2.put d l):=by
 unfold ew at hs
 split at hs
 ·simp at hs
 ·rename_i ti g
  split at hs
  ·rename_i i
   split at hs
   ·rename_i l h c b
    split at hs
    ·rename_i a
     simp only [Option.some.injEq,Prod.mk.injEq]at hs
     obtain ⟨rfl,rfl⟩:=hs
     exact ⟨_,rfl,fun st2=>by simp only [ew,g,c,b];rw [if_pos a]⟩
    ·simp at hs
   ·simp at hs
  ·rename_i e te xs n
   split at hs
   ·rename_i l h c b
    split at hs
    ·rename_i a
     simp only [Option.some.injEq,Prod.mk.injEq]at hs
     obtain ⟨rfl,rfl⟩:=hs
     exact ⟨_,rfl,fun st2=>by simp only [ew,g,c,b];rw [if_pos a]⟩
    ·simp at hs
   ·simp at hs
  ·simp at hs
inductive Md
 | any
 | eq
 | grow
 | box
def HpM:Md->List Blk->List Blk->Prop
 | .any,_,_=>True
 | .eq,h,h2=>h2=h
 | .grow,h,h2=> ∃l,h2=h++l
 | .box,h,h2=> ∀(id:Nat) (cs:List LC),h[id]?=some (.box cs)->h2[id]?=some (.box cs)
theorem HpM.refl (md:Md) (h:List Blk):HpM md h h:=by
 cases md
 ·trivial
 ·rfl
 ·exact ⟨[],by simp⟩
 ·exact fun _ _ h=>h
theorem HpM.trans {md:Md} {h1 h2 c:List Blk} (a:HpM md h1 h2) (b:HpM md h2 c):HpM md h1 c:=by
 cases md with
 | any=>trivial
 | eq=>exact Eq.trans b a
 | grow=>obtain ⟨l,rfl⟩:=a;obtain ⟨l',rfl⟩:=b;exact ⟨l++l',by simp⟩
 | box=>exact fun id cs h=>b id cs (a id cs h)
theorem HpM.app (h l:List Blk):HpM .box h (h++l):=fun id cs e=>by rw [List.getElem?_append_left (List.getElem?_eq_some_iff.1 e).1];exact e
theorem HpM.kill {h:List Blk}: ∀(ids:List Nat) (h1:List Blk),HpM .box h h1->(∀id∈ids,∀cs,h[id]?≠some (.box cs))->HpM .box h (kill h1 ids)
 | [],h1,H,_=>H
 | i::r,h1,H,a=>by
   refine HpM.kill r (h1.set i .dead) (fun id cs e=> ?_) fun id b=>a id (by simp [b])
   have:i≠id:=fun e'=>a i (by simp) cs (e'▸e)
   rw [List.getElem?_set_ne this]
   exact H id cs e
theorem HpM.freeze: ∀(ids:List Nat) (h1:List Blk),HpM .box h1 (freeze h1 ids)
 | [],_=>fun _ _ e=>e
 | i::r,h1=>by
   refine HpM.trans (md:= .box) (fun id cs e=> ?_) (HpM.freeze r (h1.modify i Blk.froze))
   rw [List.getElem?_modify]
   by_cases e':i=id
   ·subst e';simp [e,Blk.froze]
   ·simp [e',e]
theorem yy {h:List Blk}: ∀{t:Ty} {cs r:List LC} {v:Val t},qL h t cs=some (v,r)-> ∀id∈qG cs,id∈qG r∨ ∀b,h[id]?≠some (.box b)
 | .pair a b,cs,r,v,d,id,hm=>by
   simp only [qL]at d
   split at d
   ·rename_i x j h1
    split at d
    ·rename_i y l h2
     simp only [Option.some.injEq,Prod.mk.injEq]at d
     obtain ⟨rfl,rfl⟩:=d
     rcases yy h1 id hm with hm | hm
     ·exact yy h2 id hm
     ·exact .inr hm
    ·simp at d
   ·simp at d
 | .int _,[],_,_,d,_,_=>by simp [qL]at d
 | .bool,[],_,_,d,_,_=>by simp [qL]at d
 | .str,[],_,_,d,_,_=>by simp [qL]at d
 | .hdr,[],_,_,d,_,_=>by simp [qL]at d
 | .slice _ _,[],_,_,d,_,_=>by simp [qL]at d
 | .int k,c::cs,r,v,d,id,hm=>by
   cases c<;>simp [qL]at d
   obtain ⟨_,_,rfl⟩:=d
   exact .inl hm
 | .bool,c::cs,r,v,d,id,hm=>by
   cases c<;>simp [qL]at d
   obtain ⟨_,rfl⟩:=d
   exact .inl hm
 | .str,c::cs,r,v,d,id,hm=>by
   cases c<;>simp [qL]at d
   obtain ⟨_,rfl⟩:=d
   exact .inl hm
 | .hdr,c::cs,r,v,d,id,hm=>by
   cases c<;>simp [qL]at d
   obtain ⟨_,rfl⟩:=d
   exact .inl hm
 | .slice e t,c::cs,r,v,d,id,hm=>by
   cases c<;>simp [qL]at d
   case own i=>
    split at d
    ·rename_i e' t' xs _ _ _ g
     simp at d
     obtain ⟨_,_,rfl⟩:=d
     simp only [qG,List.filterMap_cons,LC.movedId,List.mem_cons]at hm
     rcases hm with rfl | hm
     ·exact .inr fun b f=>by rw [g]at f;simp at f
     ·exact .inl hm
    ·simp at d
   case nils=>
    obtain ⟨_,rfl⟩:=d
    exact .inl hm
   case sl=>
    obtain ⟨_,_,rfl⟩:=d
    exact .inl hm
theorem Ju {h:List Blk} {t:Ty}: ∀{c:List (List LC)} {vs:List (Val t)},dF h t c=some vs-> ∀id∈qG c.flatten,∀b,h[id]?≠some (.box b)
 | [],_,_,id,hm=>by simp [qG]at hm
 | cs::r,vs,a,id,hm=>by
   simp only [dF]at a
   split at a
   ·rename_i v h1
    split at a
    ·rename_i d h2
     simp only [List.flatten_cons,qG,List.filterMap_append,List.mem_append]at hm
     rcases hm with hm | hm
     ·rcases yy h1 id hm with hm | hm
      ·simp [qG]at hm
      ·exact hm
     ·exact Ju h2 id hm
    ·simp at a
   ·simp at a
theorem Vs {h:List Blk} {e:Nat} {te:Ty} {x:LV} {r:List (Val te)×Bool×List Nat} (hd:h9 h e te x=some r): ∀id∈r.2.2,∀b,h[id]?≠some (.box b):=by
 unfold h9 at hd
 split at hd
 ·cases hd;intro id a;simp at a
 ·rename_i i
  split at hd
  ·rename_i d
   split at hd
   ·cases hd
    intro id a b c
    simp only [List.mem_singleton]at a
    subst a
    rw [d]at c;simp at c
   ·simp at hd
  ·simp at hd
 ·simp at hd
theorem Vt {h:List Blk} {e:Nat} {te:Ty} {x:LV} {r:List (Val te)×Bool×List Nat} (hd:lG h e te x=some r): ∀id∈r.2.2,∀b,h[id]?≠some (.box b):=by
 unfold lG at hd
 split at hd
 ·cases hd;intro id a;simp at a
 ·rename_i i
  split at hd
  ·rename_i d
   split at hd
   ·cases hd
    intro id a b c
    simp only at a
    split at a
    ·simp at a
    ·simp only [List.mem_singleton]at a
     subst a
     rw [d]at c;simp at c
   ·simp at hd
  ·simp at hd
 ·split at hd
  ·cases hd;intro id a;simp at a
  ·simp at hd
 ·simp at hd
def rdM:Md->Oper->St->Prop
 | .any,o,st=>fW o st=none
 | .eq,_,_=>True
 | .grow,o,st=> ∀id,fW o st=some id->id<st.heap.length
 | .box,o,st=> ∀id,fW o st=some id-> ∃cs,st.heap[id]?=some (.box cs)
def rH (o:Oper):Bool:=ec o||match o.op with
 | .alloc _ | .box .. | .makeSlice .. | .buildSlice .. | .slice .. =>true
 | .call c=>match c.callee with
   | .value (.func _)=>true
   | .builtin .append=>true
   | _=>false
 | _=>false
def rI (o:Oper):Bool:=ec o||match o.op with
 | .alloc _ | .box .. | .makeSlice .. =>true
 | _=>false
def mdB:Md->Oper->Bool
 | .any,_=>true
 | .eq,o=>ec o
 | .grow,o=>rI o
 | .box,o=>rH o
theorem Vu {md:Md} (a:mdB md o=true) {p:Prop} {s:St} (hs:b1 tt Γ o st=some (p,s)):HpM md st.heap s.heap:=by
 have quiet:ec o=true->s.heap=st.heap:=fun b=>by
  rw [yv b]at hs
  obtain ⟨m,g,_⟩:=yu b hs
  rw [g];cases o.dst<;>rfl
 cases md with
 | any=>trivial
 | eq=>exact quiet a
 | grow=>
   simp only [mdB,rI,Bool.or_eq_true]at a
   rcases a with b | a
   ·exact ⟨[],by rw [quiet b];simp⟩
   ·obtain ⟨dst,op,type,pos,after,guard⟩:=o
    cases op<;>simp only [Bool.false_eq_true]at a
    case alloc t=>
        simp only [b1,bz]at hs
        split at hs
        ·cases hs;exact ⟨_,rfl⟩
        ·simp at hs
    case box t x=>
        simp only [b1,bz]at hs
        split at hs
        ·cases hs;exact ⟨_,rfl⟩
        ·simp at hs
    case makeSlice t l c=>
        simp only [b1,bz]at hs
        split at hs
        ·split at hs
         ·cases hs;exact ⟨_,rfl⟩
         ·simp at hs
        ·simp at hs
 | box=>
   simp only [mdB,rH,Bool.or_eq_true]at a
   rcases a with b | a
   ·rw [quiet b];exact HpM.refl .box _
   ·obtain ⟨dst,op,type,pos,after,guard⟩:=o
    cases op<;>simp only [Bool.false_eq_true]at a
    case alloc t=>
      simp only [b1,bz]at hs
      split at hs
      ·cases hs;exact HpM.app _ _
      ·simp at hs
    case box t x=>
      simp only [b1,bz]at hs
      split at hs
      ·cases hs;exact HpM.app _ _
      ·simp at hs
    case makeSlice t l c=>
      simp only [b1,bz]at hs
      split at hs
      ·split at hs
       ·cases hs;exact HpM.app _ _
       ·simp at hs
      ·simp at hs
    case buildSlice t n ps=>
      simp only [b1,bz]at hs
      split at hs
      ·split at hs
       ·split at hs
        ·split at hs
         ·rename_i xs j
          cases hs
          exact HpM.trans (md:= .box) (HpM.kill _ _ (HpM.refl .box _) (Ju j)) (HpM.app _ _)
         ·simp at hs
        ·simp at hs
       ·simp at hs
      ·simp at hs
    case slice t x lo k mx=>
      cases mx with
      | some _=>simp [b1,bz]at hs
      | none=>
        simp only [b1]at hs
        unfold gZ at hs
        split at hs
        ·unfold lW at hs
         split at hs
         ·split at hs
          ·split at hs
           ·cases hs;exact HpM.freeze _ _
           ·simp at hs
          ·simp at hs
         ·simp at hs
        ·obtain ⟨l,rfl,_⟩:=Jt hs
         rw [St.put_heap'];exact HpM.refl .box _
    case call c=>
      simp only [b1]at hs
      split at hs
      ·rename_i f e
       unfold jN at hs
       split at hs
       ·simp at hs
       ·split at hs
        ·unfold gX at hs
         split at hs
         ·split at hs
          ·split at hs
           ·split at hs
            ·cases hs;exact HpM.app _ _
            ·simp at hs
           ·simp at hs
          ·simp at hs
         ·simp at hs
        ·split at hs
         ·cases hs;exact HpM.app _ _
         ·cases hs;exact HpM.freeze _ _
      ·split at a
       ·rename_i h _ f e
        exact absurd e (h f)
       ·rename_i e
        simp only [bz,e]at hs
        split at hs
        ·split at hs
         ·unfold jE at hs
          split at hs
          ·simp at hs
          ·split at hs
           ·split at hs
            ·rename_i hd
             split at hs
             ·rename_i i
              split at hs
              ·cases hs
               refine HpM.trans (md:= .box) (HpM.kill _ _ (HpM.refl .box _) fun id d=> ?_) (HpM.app _ _)
               rcases List.mem_append.1 d with d | d
               ·exact Vs hd id d
               ·exact Vt i id d
              ·simp at hs
             ·simp at hs
            ·simp at hs
           ·simp at hs
         ·simp at hs
        ·simp at hs
       ·simp at a
structure Agree (ops:Array Oper) (o:Oper) (free:Md) (st st2:St):Prop where
 ev: ∀x∈o.op.operands,st2.ev x=st.ev x
 gd: ∀j want t,o.guard=some (j,want)->(ops[j]?).bind (·.dst)=some t->st2.env[t]?=st.env[t]?
 heap:HpM free st.heap st2.heap
theorem Agree.trans {free:Md} {s1 s2 s3:St} (h:Agree ops o free s1 s2) (h':Agree ops o free s2 s3):Agree ops o free s1 s3:=
 ⟨fun x a=>(h'.ev x a).trans (h.ev x a),fun j wt t h1 h2=>(h'.gd j wt t h1 h2).trans (h.gd j wt t h1 h2),h.heap.trans h'.heap⟩
theorem nD {free:Md} {st2:St} (a:Agree ops o free st st2) (yes no:Prop):b2 ops o st2 (fun _=>yes) (fun _=>no)↔b2 ops o st (fun _=>yes) (fun _=>no):=by
 unfold b2
 split
 ·exact Iff.rfl
 ·rename_i j want c
  split
  ·exact Iff.rfl
  ·rename_i t b
   rw [a.gd j want t c b]
def Yl (sx:SX) (tt:TT) (Γ:Gam) (ops:Array Oper) (i:Nat) (o:Oper) (free:Md) (st:St) (l:LV):Prop:= ∀st2,Agree ops o free st st2-> ∀K:St->Prop,K (st2.put o.dst l)->cK sx tt Γ ops i st2 K
theorem Yl.mono {i:Nat} {free:Md} {st2:St} {l:LV} (h:Yl sx tt Γ ops i o free st l) (a:Agree ops o free st st2):Yl sx tt Γ ops i o free st2 l:=fun c b=>h c (a.trans b)
theorem Jv {yes no:Prop} (h:b2 ops o st (fun _=>yes) (fun _=>no)):(yes/\ ∀yes' no':Prop,yes'->b2 ops o st (fun _=>yes') (fun _=>no'))∨(no/\ ∀yes' no':Prop,no'->b2 ops o st (fun _=>yes') (fun _=>no')):=by
 unfold b2 at h
 split at h
 ·rename_i a
  exact .inl ⟨h,fun y n f=>by unfold b2;simp only [a];exact f⟩
 ·rename_i j want a
  split at h
  ·rename_i d
   exact .inr ⟨h,fun y n c=>by unfold b2;simp only [a,d];exact c⟩
  ·rename_i t d
   split at h
   ·rename_i b hs
    by_cases e:b=want
    ·refine .inl ⟨h.1 e,fun y n f=> ?_⟩
     unfold b2;simp only [a,d,hs]
     exact ⟨fun _=>f,fun e'=>by subst e;cases b<;>simp at e'⟩
    ·have e':b= !want:=by cases b<;>cases want<;>simp_all
     refine .inr ⟨h.2 e',fun y n c=> ?_⟩
     unfold b2;simp only [a,d,hs]
     exact ⟨fun g=>absurd g e,fun _=>c⟩
   ·rename_i ls hs
    exact .inr ⟨h,fun y n c=>by unfold b2;simp only [a,d,hs];exact c⟩
   ·rename_i hs
    exact .inr ⟨h,fun y n c=>by unfold b2;simp only [a,d,hs];exact c⟩
   ·exact h.elim
theorem rJ {i:Nat} {free:Md} (k:sx.ids.contains i=false) (f:ops[i]?=some o) (g:ec o=true) (b:rdM free o st) {K:St->Prop} (h:cK sx tt Γ ops i st K): ∃l,K (st.put o.dst l)/\Yl sx tt Γ ops i o free st l:=by
 unfold cK at h
 simp only [f]at h
 rcases Jv h with ⟨h1,h2⟩ | ⟨h1,h2⟩
 ·unfold eW fy at h1
  simp only [k,cond_false]at h1
  split at h1
  ·rename_i p s hs
   obtain ⟨q,hk⟩:=h1
   rw [yv g]at hs
   obtain ⟨l,rfl,n⟩:=yu g hs
   refine ⟨l,hk,fun st2 a m d=> ?_⟩
   unfold cK
   simp only [f]
   rw [nD a]
   refine h2 _ _ ?_
   unfold eW fy
   simp only [k,cond_false]
   rw [yv g,n st2 a.ev fun id c=> ?_]
   ·exact ⟨q,d⟩
   ·have e:=a.heap
    cases free with
    | any=>simp only [rdM]at b;rw [b]at c;simp at c
    | eq=>have e:st2.heap=st.heap:=e;rw [e]
    | grow=>
      obtain ⟨r,e⟩:=e
      rw [e,List.getElem?_append_left (b id c)]
    | box=>
      obtain ⟨cs,j⟩:=b id c
      rw [j];exact e id cs j
  ·exact h1.elim
 ·refine ⟨.tup [],h1,fun st2 a m d=> ?_⟩
  unfold cK
  simp only [f]
  rw [nD a]
  exact h2 _ _ d
def nE (o:Oper) (st:St):Prop:=match o.op with
 | .slice _ x _ _ none=>match st.ev x with
   | .one (.own _)=>False
   | _=>True
 | _=>False
theorem Vv {st:St} (b:nE o st) {p:Prop} {s:St} (hs:b1 tt Γ o st=some (p,s)): ∃l,s=st.put o.dst l/\ ∀st2:St,(∀x∈o.op.operands,st2.ev x=st.ev x)->b1 tt Γ o st2=some (p,st2.put o.dst l):=by
 obtain ⟨dst,op,type,pos,after,guard⟩:=o
 unfold nE at b
 split at b
 ·rename_i t x lo a c
  have c:op= .slice t x lo a none:=c
  subst c
  have e: ∀(l h:Option LV) (st2:St),gZ tt t (st.ev x) l h dst st2=ew tt t (st.ev x) l h dst st2:=fun l h st2=>by
   unfold gZ
   split
   ·rename_i id f;rw [f]at b;exact b.elim
   ·rfl
  simp only [b1]at hs ⊢
  rw [e]at hs
  obtain ⟨l,d,hk⟩:=Jt hs
  refine ⟨l,d,fun st2 h2=> ?_⟩
  have m1:st2.ev x=st.ev x:=h2 x (by cases lo<;>cases a<;>simp [Op.operands])
  have m2:lo.map st2.ev=lo.map st.ev:=by
   cases lo with
   | none=>rfl
   | some y=>simp only [Option.map_some];rw [h2 y (by cases a<;>simp [Op.operands])]
  have m3:a.map st2.ev=a.map st.ev:=by
   cases a with
   | none=>rfl
   | some y=>simp only [Option.map_some];rw [h2 y (by cases lo<;>simp [Op.operands])]
  rw [m1,m2,m3,e]
  exact hk st2
 ·exact b.elim
theorem Vw {i:Nat} (d:sx.ids.contains i=false) (c:ops[i]?=some o) (g:nE o st) {K:St->Prop} (h:cK sx tt Γ ops i st K): ∃l,K (st.put o.dst l)/\Yl sx tt Γ ops i o .any st l:=by
 unfold cK at h
 simp only [c]at h
 rcases Jv h with ⟨h1,h2⟩ | ⟨h1,h2⟩
 ·unfold eW fy at h1
  simp only [d,cond_false]at h1
  split at h1
  ·rename_i p s hs
   obtain ⟨j,hk⟩:=h1
   obtain ⟨l,rfl,f⟩:=Vv g hs
   refine ⟨l,hk,fun st2 a e b=> ?_⟩
   unfold cK
   simp only [c]
   rw [nD a]
   refine h2 _ _ ?_
   unfold eW fy
   simp only [d,cond_false]
   rw [f st2 a.ev]
   exact ⟨j,b⟩
  ·exact h1.elim
 ·refine ⟨.tup [],h1,fun st2 a e b=> ?_⟩
  unfold cK
  simp only [c]
  rw [nD a]
  exact h2 _ _ b
theorem Jw {x:Operand} {t:Tmp} (a:x∈o.op.operands) (e:x= .tmp t):t∈o.looksAt ops:=by
 subst e
 exact List.mem_append_left _ (List.mem_filterMap.2 ⟨.tmp t,by simpa using a,rfl⟩)
theorem Jx {j:Nat} {want:Bool} {t:Tmp} (b:o.guard=some (j,want)) (a:(ops[j]?).bind (·.dst)=some t):t∈o.looksAt ops:=by
 simp [Oper.looksAt,b,a]
theorem Vx {j:Nat} {b a:Oper} {l:LV} {free:Md} (y:ops[j]?=some a) (A:sx.ids.contains j=false) (u:b.apart ops a=true) (z:mdB free a=true) {K:St->Prop} (h:cK sx tt Γ ops j (st.put b.dst l) K):
 cK sx tt Γ ops j st fun q=>K (q.put b.dst l)/\Agree ops b free st q:=by
 obtain ⟨h1,h2,n⟩:=Oper.apart_spec u
 have k:Agree ops a .eq st (st.put b.dst l):=⟨fun x c=>Jq fun t i e=>h1 t i (Jw c e),fun g want t f d=>Jr fun e=>h1 t e (Jx f d),St.put_heap _ _ _⟩
 have m: ∀(l':LV) (h':List Blk),HpM free st.heap h'->Agree ops b free st (st.res a.dst l' h'):=fun l' h' w=>⟨fun x c=>Vr fun t i e=>n t i (Jw c e),fun g want t f d=>by
  have:(st.res a.dst l' h').env=(st.put a.dst l').env:=rfl
  rw [this]
  exact Jr fun e=>n t e (Jx f d),w⟩
 unfold cK at h ⊢
 simp only [y]at h ⊢
 rw [nD k]at h
 refine Jo (fun _ h=> ?_) (fun _ h=> ?_) h
 ·unfold eW fy at h ⊢
  simp only [A,cond_false]at h ⊢
  split at h
  ·rename_i p s hs
   obtain ⟨l',h',rfl,v⟩:=Vm hs
   have o:=v st (fun x c=>(k.ev x c).symm) (St.put_heap _ _ _).symm
   rw [o]
   refine ⟨h.1,?_,m l' h' (Vu z o)⟩
   rw [<-Js h2];exact h.2
  ·exact h.elim
 ·have e:(st.put b.dst l).put a.dst (.tup [])=(st.put a.dst (.tup [])).put b.dst l:=by
   have:=Js (st:=st) (l:=l) (l':= .tup []) (h':=st.heap) h2
   rw [St.res_self]at this
   have r:(st.put b.dst l).res a.dst (.tup []) st.heap=(st.put b.dst l).put a.dst (.tup []):=by
        have:=St.res_self (st.put b.dst l) a.dst (.tup [])
        rw [St.put_heap]at this
        exact this
   rw [<-r];exact this
  rw [e]at h
  refine ⟨h,?_⟩
  have:=m (.tup []) st.heap (HpM.refl _ _)
  rwa [St.res_self]at this
def OkS (ops:Array Oper) (i:Nat) (S:List Nat):Prop:= ∀j∈S,j≠i-> ∃a e,ops[j]?=some a/\e∈a.after/\Region.binds .any e=true/\e.on∈S
theorem nF {i:Nat} {m:Oper} {l:LV} {free:Md} {S:List Nat} (O:ops[i]?=some m) (E:OkS ops i S) (F:i∈S) {k:St->Prop}:
 ∀(fuel:Nat) (a:Array Bool) (st:St),
  (∀j b,ops[j]?=some b->j≠i->a.getD j true=false->(∀e∈b.after,Region.binds .any e=true->e.on≠i)->m.apart ops b=true)->
  (∀s∈S,a.getD s true=false)->
  (∀j b,ops[j]?=some b->a.getD j true=false->j∉S->mdB free b=true/\sx.ids.contains j=false)->
  i∈Region.ready .any ops a->Yl sx tt Γ ops i m free st l->
  lX sx tt Γ ops fuel (a.setIfInBounds i true) (st.put m.dst l) k->lX sx tt Γ ops (fuel+1) a st k:=by
 have self: ∀s,Agree ops m free s s:=fun s=>⟨fun _ _=>rfl,fun _ _ _ _ _=>rfl,HpM.refl _ _⟩
 intro fuel
 induction fuel with
 | zero=>
   intro a st _ _ _ d p H
   refine ⟨fun h=>(by rw [h]at d;cases d),fun j n=> ?_⟩
   by_cases c:j=i
   ·subst c;exact p st (self st) _ H
   ·have:=ready_mono n c
    rw [H.1]at this
    cases this
 | succ fuel M=>
   intro a st B q v d p H
   refine ⟨fun h=>(by rw [h]at d;cases d),fun j n=> ?_⟩
   by_cases c:j=i
   ·subst c;exact p st (self st) _ H
   ·have h1:=H.2 j (ready_mono n c)
    obtain ⟨o,b,f,A⟩:=mem_ready.1 n
    have D: ∀x:Nat,a.getD x true=false->a.getD x false≠true:=fun x y h1=>by
        rcases Nat.lt_or_ge x a.size with h' | h'
        ·simp [h']at y h1;rw [y]at h1;cases h1
        ·simp [Array.getElem?_eq_none h']at h1
    have J: ∀e∈b.after,Region.binds .any e=true->e.on≠i:=fun e he r heq=>by
        have h1:=A e he r
        rw [heq]at h1
        exact D i (q i F) h1
    have t:j∉S:=fun hm=>by
        obtain ⟨P,e,C,he,r,L⟩:=E j hm c
        rw [f]at C;cases C
        exact D _ (q _ L) (A e he r)
    have h2:=Vx (free:=free) f (v j b f o t).2 (B j b f c o J) (v j b f o t).1 h1
    have keep: ∀s,(a.setIfInBounds j true).getD s true=false->a.getD s true=false:=fun s hs=>by
        by_cases e:j=s
        ·subst e;exact o
        ·rw [getD_set_ne true e]at hs;exact hs
    refine Jp (fun N z=>M (a.setIfInBounds j true) N (fun g ok' u G w I=>B g ok' u G (keep g w) I) (fun s hs=> ?_) (fun g ok' u w K=>v g ok' u (keep g w) K) (ready_mono d (Ne.symm c)) (p.mono z.2) ?_) h2
    ·rw [getD_set_ne true (fun e:j=s=>t (by subst e;exact hs))];exact q s hs
    ·rw [Array.setIfInBounds_comm _ _ c]
     exact z.1
end
end Go.T
namespace Go.T
open Go
def jO (ops:Array Oper) (i:Nat):Bool:=match ops[i]? with
 | some o=>ec o
 | none=>false
def yz (ops:Array Oper) (i:Nat):Bool:=match ops[i]? with
 | some o=>rI o
 | none=>false
def yA (ops:Array Oper) (i:Nat):Bool:=match ops[i]? with
 | some o=>rH o
 | none=>false
def sliceAt (ops:Array Oper) (i:Nat):Bool:=(ops[i]?).isSome
def lZ (ops:Array Oper) (S:List Nat) (j:Nat):Bool:=match ops[j]? with
 | some o=>o.after.any fun e=>Region.binds .any e&&S.contains e.on
 | none=>false
def c3 (ops:Array Oper) (i:Nat):List Nat:=(List.range ops.size).foldl (fun S j=>if j !=i&&lZ ops S j then j::S else S) [i]
def rK (ids:List Nat) (ops:Array Oper) (a:Array Bool):Bool:=ids.isEmpty||(List.range ops.size).all fun j=>a.getD j true|| !ids.contains j
def cc (ids:List Nat) (ops:Array Oper):Tree->Nat->Array Bool->List Nat->Bool
 | .done,_,a,_=>(Region.ready .any ops a).isEmpty
 | .first i t,fuel+1,a,_=>(Region.ready .any ops a).contains i&&Region.free .any ops a i&&jO ops i&&rK ids ops a&&cc ids ops t fuel (a.setIfInBounds i true) []
 | .pure i t,fuel+1,a,_=>(Region.ready .any ops a).contains i&&Region.free .any ops a i&&sliceAt ops i&&rK ids ops a&&cc ids ops t fuel (a.setIfInBounds i true) []
 | .quiet i t,fuel+1,a,_=>(Region.ready .any ops a).contains i&&Region.free .any ops a i&&jO ops i&& !ids.contains i&&
    ((c3 ops i).contains i&&(c3 ops i).all (fun j=>j==i||lZ ops (c3 ops i) j)&&(c3 ops i).all (fun j=>a.getD j true==false)&&
      (List.range ops.size).all fun j=>a.getD j true||(c3 ops i).contains j||(jO ops j&& !ids.contains j))&&
    cc ids ops t fuel (a.setIfInBounds i true) []
 | .grow i t,fuel+1,a,_=>(Region.ready .any ops a).contains i&&Region.free .any ops a i&&jO ops i&& !ids.contains i&&
    ((c3 ops i).contains i&&(c3 ops i).all (fun j=>j==i||lZ ops (c3 ops i) j)&&(c3 ops i).all (fun j=>a.getD j true==false)&&
      (List.range ops.size).all fun j=>a.getD j true||(c3 ops i).contains j||(yz ops j&& !ids.contains j))&&
    cc ids ops t fuel (a.setIfInBounds i true) []
 | .keep i t,fuel+1,a,_=>(Region.ready .any ops a).contains i&&Region.free .any ops a i&&jO ops i&& !ids.contains i&&
    ((c3 ops i).contains i&&(c3 ops i).all (fun j=>j==i||lZ ops (c3 ops i) j)&&(c3 ops i).all (fun j=>a.getD j true==false)&&
      (List.range ops.size).all fun j=>a.getD j true||(c3 ops i).contains j||(yA ops j&& !ids.contains j))&&
    cc ids ops t fuel (a.setIfInBounds i true) []
 | .alt i t r,fuel+1,a,acc=>cc ids ops t fuel (a.setIfInBounds i true) []&&cc ids ops r (fuel+1) a (i::acc)
 | .stop,_+1,a,acc=> !acc.isEmpty&&(!(Region.ready .any ops a).isEmpty)&&(Region.ready .any ops a).all fun i=>acc.contains i
 | _,_,_,_=>false
def nG (ops:Array Oper) (i:Nat) (st:St):Prop:=match ops[i]? with
 | some o=>fW o st=none
 | none=>False
def nH (ops:Array Oper) (i:Nat) (st:St):Prop:=match ops[i]? with
 | some o=>nE o st
 | none=>False
def nI (ops:Array Oper) (i:Nat) (st:St):Prop:=match ops[i]? with
 | some o=>match fW o st with
   | some id=>id<st.heap.length
   | none=>True
 | none=>False
def yB:Option Blk->Prop
 | some (.box _)=>True
 | _=>False
def nJ (ops:Array Oper) (i:Nat) (st:St):Prop:=match ops[i]? with
 | some o=>match fW o st with
   | some id=>yB st.heap[id]?
   | none=>True
 | none=>False
def ed (sx:SX) (tt:TT) (Γ:Gam) (ops:Array Oper):Tree->St->(St->Prop)->Prop
 | .done,st,k=>k st
 | .first i t,st,k=>nG ops i st/\eB sx tt Γ ops i st fun st=>ed sx tt Γ ops t st k
 | .pure i t,st,k=>nH ops i st/\eB sx tt Γ ops i st fun st=>ed sx tt Γ ops t st k
 | .quiet i t,st,k=>eB sx tt Γ ops i st fun st=>ed sx tt Γ ops t st k
 | .grow i t,st,k=>nI ops i st/\eB sx tt Γ ops i st fun st=>ed sx tt Γ ops t st k
 | .keep i t,st,k=>nJ ops i st/\eB sx tt Γ ops i st fun st=>ed sx tt Γ ops t st k
 | .alt i t r,st,k=>(eB sx tt Γ ops i st fun st=>ed sx tt Γ ops t st k)/\ed sx tt Γ ops r st k
 | .stop,_,_=>True
 | .sem _ _,_,_=>False
section
variable {sx : SX} {tt : TT} {Γ : Gam} {ops : Array Oper}
theorem nK {i:Nat} (h:jO ops i=true): ∃o,ops[i]?=some o/\ec o=true:=by
 unfold jO at h
 split at h
 ·rename_i o a;exact ⟨o,a,h⟩
 ·simp at h
theorem Vy {i:Nat} (h:yz ops i=true): ∃o,ops[i]?=some o/\rI o=true:=by
 unfold yz at h
 split at h
 ·rename_i o a;exact ⟨o,a,h⟩
 ·simp at h
theorem Vz {i:Nat} (h:yA ops i=true): ∃o,ops[i]?=some o/\rH o=true:=by
 unfold yA at h
 split at h
 ·rename_i o a;exact ⟨o,a,h⟩
 ·simp at h
theorem yC {S:List Nat} {j:Nat} (h:lZ ops S j=true): ∃b e,ops[j]?=some b/\e∈b.after/\Region.binds .any e=true/\e.on∈S:=by
 unfold lZ at h
 split at h
 ·rename_i o c
  obtain ⟨e,he,a⟩:=Array.any_eq_true'.1 h
  simp only [Bool.and_eq_true]at a
  exact ⟨o,e,c,he,a.1,by simpa using a.2⟩
 ·simp at h
theorem rL {ids:List Nat} {a:Array Bool} (h:rK ids ops a=true) {j:Nat} (b:j<ops.size) (c:a.getD j true=false):ids.contains j=false:=by
 unfold rK at h
 rcases Bool.or_eq_true .. |>.mp h with h | h
 ·have:ids=[]:=by simpa using h
  subst this;rfl
 ·have:=List.all_eq_true.1 h j (by simpa using b)
  rw [c]at this
  simpa using this
theorem ij {k:St->Prop}: ∀(t:Tree) (fuel:Nat) (b:Array Bool) (acc:List Nat) (st:St),cc sx.ids ops t fuel b acc=true->ed sx tt Γ ops t st k->
 (∀f,fuel=f+1-> ∀i∈acc,cK sx tt Γ ops i st fun s=>lX sx tt Γ ops f (b.setIfInBounds i true) s k)->lX sx tt Γ ops fuel b st k
 | .done,fuel,b,acc,st,a,h,_=>by
   have u:Region.ready .any ops b=[]:=by
    cases fuel<;>simpa [cc] using a
   cases fuel with
   | zero=>exact ⟨u,h⟩
   | succ f=>exact ⟨fun _=>h,by rw [u];simp⟩
 | .first i t,0,b,acc,st,a,h,_=>by simp [cc]at a
 | .first i t,fuel+1,b,acc,st,a,h,_=>by
   simp only [cc,Bool.and_eq_true]at a
   obtain ⟨⟨⟨⟨u,v⟩,m⟩,E⟩,a⟩:=a
   obtain ⟨o,c,m⟩:=nK m
   obtain ⟨d,hs⟩:=h
   unfold nG at d
   simp only [c]at d
   have n:i∈Region.ready .any ops b:=by simpa using u
   obtain ⟨l,hk,x⟩:=rJ (free:= .any) (rL E (Array.getElem?_eq_some_iff.1 c).1 (mem_ready.1 n).1) c m d (lY hs)
   refine nF (S:=[i]) c (fun j g p=>by simp at g;exact absurd g p) (by simp) fuel b st (Region.free_spec c v) (fun s hs=> ?_) (fun j I q w _=>⟨rfl,rL E (Array.getElem?_eq_some_iff.1 q).1 w⟩) n x ?_
   ·simp at hs;subst hs;exact (mem_ready.1 n).1
   ·exact ij t fuel _ [] _ a hk (fun _ _ _ h=>by simp at h)
 | .pure i t,0,b,acc,st,a,h,_=>by simp [cc]at a
 | .pure i t,fuel+1,b,acc,st,a,h,_=>by
   simp only [cc,Bool.and_eq_true]at a
   obtain ⟨⟨⟨⟨u,v⟩,_⟩,E⟩,a⟩:=a
   obtain ⟨d,hs⟩:=h
   unfold nH at d
   split at d
   ·rename_i o c
    have n:i∈Region.ready .any ops b:=by simpa using u
    obtain ⟨l,hk,x⟩:=Vw (rL E (Array.getElem?_eq_some_iff.1 c).1 (mem_ready.1 n).1) c d (lY hs)
    refine nF (S:=[i]) c (fun j g p=>by simp at g;exact absurd g p) (by simp) fuel b st (Region.free_spec c v) (fun s hs=> ?_) (fun j I q w _=>⟨rfl,rL E (Array.getElem?_eq_some_iff.1 q).1 w⟩) n x ?_
    ·simp at hs;subst hs;exact (mem_ready.1 n).1
    ·exact ij t fuel _ [] _ a hk (fun _ _ _ h=>by simp at h)
   ·exact d.elim
 | .quiet i t,0,b,acc,st,a,h,_=>by simp [cc]at a
 | .quiet i t,fuel+1,b,acc,st,a,h,_=>by
   simp only [cc,Bool.and_eq_true]at a
   obtain ⟨⟨⟨⟨⟨u,v⟩,m⟩,H⟩,⟨⟨C,A⟩,B⟩,z⟩,a⟩:=a
   obtain ⟨o,c,m⟩:=nK m
   obtain ⟨l,hk,x⟩:=rJ (free:= .eq) (by simpa using H) c m trivial (lY h)
   have n:i∈Region.ready .any ops b:=by simpa using u
   refine nF (S:=c3 ops i) c (fun j g p=> ?_) (by simpa using C) fuel b st (Region.free_spec c v) (fun s hs=> ?_) (fun j I q w F=> ?_) n x ?_
   ·have:=List.all_eq_true.1 A j g
    simp only [Bool.or_eq_true,beq_iff_eq]at this
    rcases this with e | e
    ·exact absurd e p
    ·exact yC e
   ·have:=List.all_eq_true.1 B s hs
    simpa using this
   ·have D:j<ops.size:=(Array.getElem?_eq_some_iff.1 q).1
    have:=List.all_eq_true.1 z j (by simpa using D)
    simp only [Bool.or_eq_true,Bool.and_eq_true]at this
    rcases this with (e | e) | e
    ·rw [w]at e;simp at e
    ·exact absurd (by simpa using e) F
    ·obtain ⟨M,y,G⟩:=nK e.1
     rw [q]at y;cases y;exact ⟨G,by simpa using e.2⟩
   ·exact ij t fuel _ [] _ a hk (fun _ _ _ h=>by simp at h)
 | .grow i t,0,b,acc,st,a,h,_=>by simp [cc]at a
 | .grow i t,fuel+1,b,acc,st,a,h,_=>by
   simp only [cc,Bool.and_eq_true]at a
   obtain ⟨⟨⟨⟨⟨u,v⟩,m⟩,H⟩,⟨⟨C,A⟩,B⟩,z⟩,a⟩:=a
   obtain ⟨o,c,m⟩:=nK m
   obtain ⟨d,h⟩:=h
   have L:rdM .grow o st:=fun id K=>by
    unfold nI at d
    simp only [c,K]at d
    exact d
   obtain ⟨l,hk,x⟩:=rJ (free:= .grow) (by simpa using H) c m L (lY h)
   have n:i∈Region.ready .any ops b:=by simpa using u
   refine nF (S:=c3 ops i) c (fun j g p=> ?_) (by simpa using C) fuel b st (Region.free_spec c v) (fun s hs=> ?_) (fun j I q w F=> ?_) n x ?_
   ·have:=List.all_eq_true.1 A j g
    simp only [Bool.or_eq_true,beq_iff_eq]at this
    rcases this with e | e
    ·exact absurd e p
    ·exact yC e
   ·have:=List.all_eq_true.1 B s hs
    simpa using this
   ·have D:j<ops.size:=(Array.getElem?_eq_some_iff.1 q).1
    have:=List.all_eq_true.1 z j (by simpa using D)
    simp only [Bool.or_eq_true,Bool.and_eq_true]at this
    rcases this with (e | e) | e
    ·rw [w]at e;simp at e
    ·exact absurd (by simpa using e) F
    ·obtain ⟨M,y,G⟩:=Vy e.1
     rw [q]at y;cases y;exact ⟨G,by simpa using e.2⟩
   ·exact ij t fuel _ [] _ a hk (fun _ _ _ h=>by simp at h)
 | .keep i t,0,b,acc,st,a,h,_=>by simp [cc]at a
 | .keep i t,fuel+1,b,acc,st,a,h,_=>by
   simp only [cc,Bool.and_eq_true]at a
   obtain ⟨⟨⟨⟨⟨u,v⟩,m⟩,H⟩,⟨⟨C,A⟩,B⟩,z⟩,a⟩:=a
   obtain ⟨o,c,m⟩:=nK m
   obtain ⟨d,h⟩:=h
   have L:rdM .box o st:=fun id K=>by
    unfold nJ at d
    simp only [c,K]at d
    unfold yB at d
    split at d
    ·rename_i cs P;exact ⟨cs,P⟩
    ·exact d.elim
   obtain ⟨l,hk,x⟩:=rJ (free:= .box) (by simpa using H) c m L (lY h)
   have n:i∈Region.ready .any ops b:=by simpa using u
   refine nF (S:=c3 ops i) c (fun j g p=> ?_) (by simpa using C) fuel b st (Region.free_spec c v) (fun s hs=> ?_) (fun j I q w F=> ?_) n x ?_
   ·have:=List.all_eq_true.1 A j g
    simp only [Bool.or_eq_true,beq_iff_eq]at this
    rcases this with e | e
    ·exact absurd e p
    ·exact yC e
   ·have:=List.all_eq_true.1 B s hs
    simpa using this
   ·have D:j<ops.size:=(Array.getElem?_eq_some_iff.1 q).1
    have:=List.all_eq_true.1 z j (by simpa using D)
    simp only [Bool.or_eq_true,Bool.and_eq_true]at this
    rcases this with (e | e) | e
    ·rw [w]at e;simp at e
    ·exact absurd (by simpa using e) F
    ·obtain ⟨M,y,G⟩:=Vz e.1
     rw [q]at y;cases y;exact ⟨G,by simpa using e.2⟩
   ·exact ij t fuel _ [] _ a hk (fun _ _ _ h=>by simp at h)
 | .alt i t r,0,b,acc,st,a,h,_=>by simp [cc]at a
 | .alt i t r,fuel+1,b,acc,st,a,h,J=>by
   simp only [cc,Bool.and_eq_true]at a
   refine ij r (fuel+1) b (i::acc) st a.2 h.2 fun f Q j g=> ?_
   rcases List.mem_cons.1 g with rfl | g
   ·have:f=fuel:=by omega
    subst this
    exact Jp (fun s hs=>ij t f _ [] s a.1 hs (fun _ _ _ h=>by simp at h)) (lY h.1)
   ·exact J f Q j g
 | .stop,0,b,acc,st,a,h,_=>by simp [cc]at a
 | .stop,fuel+1,b,acc,st,a,h,J=>by
   simp only [cc,Bool.and_eq_true]at a
   obtain ⟨⟨_,p⟩,O⟩:=a
   refine ⟨fun N=>(by rw [N]at p;simp at p),fun i R=> ?_⟩
   have:=List.all_eq_true.1 O i R
   exact J fuel rfl i (by simpa using this)
 | .sem _ _,_,_,_,_,_,h,_=>h.elim
end
end Go.T
namespace Go.T
open Go
inductive X
 | normal
 | ret
 | exit (id:Nat)
def Le (s b:St):Prop:= ∀(w0:World) (mine:Mine) (a:Act) (w:World),(∀id,mine.pin id=none)->R w0 mine s a w->R w0 mine b a w
def LeP (s b:St):Prop:= ∀(w0:World) (mine:Mine) (a:Act) (w:World),R w0 mine s a w->R w0 mine b a w
theorem Le.refl (s:St):Le s s:=fun _ _ _ _ _ h=>h
theorem Le.trans {s1 s2 s3:St} (h:Le s1 s2) (h':Le s2 s3):Le s1 s3:=fun w0 mine a w b c=>h' w0 mine a w b (h w0 mine a w b c)
def jP (k:St->Prop) (Q:X->St->Prop):X->St->Prop
 | .normal,st=>k st
 | .ret,st=>Q .ret st
 | .exit id,st=>Q (.exit id) st
def l0 (id:Nat) (Q:X->St->Prop):X->St->Prop
 | .normal,st=>Q .normal st
 | .ret,st=>Q .ret st
 | .exit id',st=>if id'=id then Q .normal st else Q (.exit id') st
def St.litO (st:St) (c:Operand) (b:Bool):St:=match c with
 | .tmp t=>st.lit t b
 | _=>st
def yD (c:Operand) (st:St) (x y:St->Prop):Prop:=match st.ev c with
 | .one (.bool b)=>(b=true->x (st.litO c true))/\(b=false->y (st.litO c false))
 | _=>False
def Jy (L:St->St->Prop) (round:(X->St->Prop)->St->Prop) (Q:X->St->Prop) (st:St):Prop:=
 ∃(α:Type) (mk:α->St) (I:α->Prop) (μ:α->Nat),(∃x,L st (mk x)/\I x)/\ ∀x,I x->round (jP (fun a=> ∃x',L a (mk x')/\I x'/\μ x'<μ x) Q) (mk x)
def wpT (P:Program) (tt:TT) (Γ:Gam) (tr:Nat->Tree) (L:St->St->Prop):Code->(X->St->Prop)->St->Prop
 | .skip,Q,st=>Q .normal st
 | .region _ ops false,Q,st=>fX P tt Γ ops ops.toList st (Q .normal)
 | .region id ops true,Q,st=>ed sx0 tt Γ ops (tr id) st (Q .normal)
 | .seq a b,Q,st=>wpT P tt Γ tr L a (jP (wpT P tt Γ tr L b Q) Q) st
 | .cond c x y,Q,st=>yD c st (wpT P tt Γ tr L x Q) (wpT P tt Γ tr L y Q)
 | .block id c,Q,st=>wpT P tt Γ tr L c (l0 id Q) st
 | .loop c,Q,st=>Jy L (wpT P tt Γ tr L c) Q st
 | .exit id,Q,st=>Q (.exit id) st
 | .ret,Q,st=>Q .ret st
 | _,_,_=>False
def Jz (ops:Array Oper):Tree->Bool
 | .sem ids t=>cc ids ops t ops.size (Array.replicate ops.size false) []
 | t=>cc [] ops t ops.size (Array.replicate ops.size false) []
def qi (tr:Nat->Tree):Code->Bool
 | .region id ops true=>Jz ops (tr id)
 | .seq a b=>qi tr a&&qi tr b
 | .cond _ a b=>qi tr a&&qi tr b
 | .block _ a=>qi tr a
 | .loop a=>qi tr a
 | _=>true
def fY (w0:World) (mine:Mine) (Q:X->St->Prop):Exit->Act->World->Prop
 | .normal,a,w=> ∃st,R w0 mine st a w/\Q .normal st
 | .ret,a,w=> ∃st,R w0 mine st a w/\Q .ret st
 | .exit id,a,w=> ∃st,R w0 mine st a w/\Q (.exit id) st
 | _,_,_=>False
section
variable {P : Program} {tt : TT} {Γ : Gam} {tr : Nat -> Tree} {L : St -> St -> Prop} {w0 : World} {mine : Mine}
theorem R.litO {st:St} {a:Act} {w:World} {c:Operand} {b:Bool} (h:st.ev c= .one (.bool b)):st.litO c b=st:=by
 cases c with
 | tmp t=>
   refine St.lit_self ?_
   simp only [St.ev,List.getD_eq_getElem?_getD]at h
   cases d:st.env[t]? with
   | none=>rw [d]at h;simp at h
   | some l=>rw [d]at h;simp at h;rw [h]
 | _=>rfl
theorem VA {a:Nat->Prop}: ∀{n:Nat},a n-> ∃m,a m/\ ∀k,a k->m<=k:=by
 intro n
 induction n using Nat.strongRecOn with
 | _ n d=>
   intro c
   by_cases h: ∃k,k<n/\a k
   ·obtain ⟨k,hk,b⟩:=h
    exact d k hk b
   ·exact ⟨n,c,fun k hk=>by
       rcases Nat.lt_or_ge k n with h' | h'
       ·exact absurd ⟨k,h',hk⟩ h
       ·exact h'⟩
end
end Go.T
namespace Go.T
open Go
def nL (tt:TT) (st:St):ResultVar->Option LV
 | .tmp t=>some (st.env.getD t (.one .undef))
 | .cell a t=>match tt.get t with
   | none=>none
   | some ti=>match st.env.getD a (.one .undef)with
     | .one (.ptr id _ f)=>match st.heap[id]? with
       | some (.box cs)=>if f+ti.ty.sz<=cs.length then some (h8 ti.agg ((cs.drop f).take ti.ty.sz))else none
       | _=>none
     | _=>none
def eX (tt:TT) (st:St):List ResultVar->Option (List LV)
 | []=>some []
 | r::rs=>match nL tt st r with
   | none=>none
   | some l=>match eX tt st rs with
     | none=>none
     | some ls=>some (l::ls)
def jQ (tt:TT) (dp:Bool) (rs:List TI) (a:List ResultVar) (y:qb rs) (st:St):Prop:=match eX tt st a with
 | none=>False
 | some ls=>cQ st.heap rs ls=some y/\(dp=true->bR st.heap (ls.flatMap LV.cells)=true/\dc (qG (ls.flatMap LV.cells))=true)
def yE (tt:TT) (g:G) (a:List ResultVar) (x:qb g.ps):X->St->Prop
 | .normal,st=>jQ tt g.dp g.rs a (g.fn x) st
 | .ret,st=>jQ tt g.dp g.rs a (g.fn x) st
 | .exit _,_=>False
def nM (g:G) (ntmps:Nat) (x:qb g.ps):St:={env:=(fx 0 g.ps x).map LV1.lv++List.replicate (ntmps - g.ps.length) (.tup []),heap:=[]}
section
variable {P : Program} {tt : TT} {Γ : Gam} {tr : Nat -> Tree} {w0 w : World} {mine : Mine} {m : Mp} {h : List Blk} {st : St} {a : Act}
def jR:ResultVar->Array Value->Sem Value
 | .tmp t,tmps=>pure (tmps.getD t undef)
 | .cell a t,tmps=>do loadVar t (<-asAddr (tmps.getD a undef))
theorem VB (hT:bm P tt) (H:HR w0 mine w m st.heap) (he:F2 (V w m st.heap) st.env a.tmps.toList) {r:ResultVar} {l:LV} (h:nL tt st r=some l): ∃v,(jR r a.tmps).run P w= .ok v w/\V w m st.heap l v:=by
 cases r with
 | tmp t=>
   simp only [nL,Option.some.injEq]at h
   subst h
   exact ⟨a.tmps.getD t undef,rfl,R.ev H he (.tmp t)⟩
 | cell b t=>
   simp only [nL]at h
   split at h
   ·simp at h
   ·rename_i ti g
    split at h
    ·rename_i id i f q
     have c:V w m st.heap (st.ev (.tmp b)) (a.eval (.tmp b)):=R.ev H he (.tmp b)
     have s:st.ev (.tmp b)= .one (.ptr id i f):=q
     rw [s]at c
     split at h
     ·rename_i cs e
      split at h
      ·rename_i u
       cases h
       simp only [V,C,e]at c
       obtain ⟨rfl,j⟩:=c
       obtain ⟨arr,ty,hblk,n,h1⟩:=H.br id _ e
       have d:=(II hblk).sub f ti.ty.sz
       rw [nr]at d
       obtain ⟨v,o,p⟩:=IJ (hT t ti g) d (ra n f ti.ty.sz) (by simp;omega) (hT t ti g).one
       refine ⟨v,?_,p⟩
       have k:a.tmps.getD b undef= .pointer (some ⟨m.blk id,f,none⟩):=j
       simp only [jR,k,asAddr,Sem.run_bind,Sem.run_pure,Result.andThen_ok,o]
      ·simp at h
     ·simp at h
    ·simp at h
theorem yF (hT:bm P tt) (H:HR w0 mine w m st.heap) (he:F2 (V w m st.heap) st.env a.tmps.toList): ∀{rs:List ResultVar} {ls:List LV},eX tt st rs=some ls-> ∃vs:List Value,(rs.mapM fun r=>jR r a.tmps).run P w= .ok vs w/\F2 (V w m st.heap) ls vs
 | [],ls,h=>by simp [eX]at h;subst h;exact ⟨[],rfl,.nil⟩
 | r::rs,ls,h=>by
   simp only [eX]at h
   split at h
   ·simp at h
   ·rename_i l d
    split at h
    ·simp at h
    ·rename_i f e
     cases h
     obtain ⟨v,h1,h2⟩:=VB hT H he d
     obtain ⟨vs,b,c⟩:=yF hT H he e
     refine ⟨v::vs,?_,.cons h2 c⟩
     simp only [List.mapM_cons,Sem.run_bind,h1,Result.andThen_ok,b,Sem.run_pure]
theorem VC (fn:Func) (tmps:Array Value):results fn tmps=(fn.results.mapM fun r=>jR r tmps)>>=fun vs=>pure (if h:vs.size=1 then vs[0]else .tuple vs):=by
 unfold results
 have:(fun r:ResultVar=>jR r tmps)=fun r:ResultVar=>(match r with
  | .tmp t=>(pure (tmps.getD t undef):Sem Value)
  | .cell a t=>(do loadVar t (<-asAddr (tmps.getD a undef)):Sem Value)):=by
  funext r
  cases r<;>rfl
 rw [this]
 rfl
theorem JA (fn:Func) {vs:List Value} (h:(fn.results.toList.mapM fun r=>jR r a.tmps).run P w= .ok vs w):(results fn a.tmps).run P w= .ok (fw vs) w:=by
 have hm:(fn.results.mapM fun r=>jR r a.tmps).run P w= .ok vs.toArray w:=by
  rw [Array.mapM_eq_mapM_toList]
  simp [h]
 rw [VC,Sem.run_bind,hm]
 simp only [Result.andThen_ok,Sem.run_pure]
 congr 1
 match vs with
 | []=>rfl
 | [v]=>rfl
 | v::b::r=>simp [fw]
theorem JB (H: ∀id x,h[id]?=some x->BR w m h id x): ∀{k:List TI} {ls:List LV} {vs:List Value} {x:qb k},F2 (V w m h) ls vs->cQ h k ls=some x->bR h (ls.flatMap LV.cells)=true->
 VMs w k x vs (qY m h (qG (ls.flatMap LV.cells)))
 | [],_,_,_,.nil,_,_=>⟨rfl,rfl⟩
 | [],_,_,_,.cons _ _,d,_=>by simp [cQ]at d
 | ti::r,_,_,_,.nil,d,_=>by simp [cQ]at d
 | ti::r,_,_,x,.cons (a:=l) (b:=v) n q,d,hd=>by
   simp only [cQ]at d
   simp only [List.flatMap_cons,bR,List.all_append,Bool.and_eq_true]at hd
   split at d
   ·rename_i e
    split at d
    ·rename_i y o
     split at d
     ·rename_i ys s
      cases d
      have h2:=JB H q s hd.2
      rw [List.flatMap_cons,ns,ic]
      cases l with
      | tup=>simp [LV.isAgg]at e
      | one c=>
        simp only [LV.isAgg,Option.some.injEq]at e
        obtain ⟨t,u,pre,g,f,i,j⟩:=ie H (F2.cons n .nil) o hd.1
        cases j
        rw [List.append_nil]at g f
        refine ⟨v,_,[v],_,_,rfl,rfl,?_,?_,h2⟩
        ·rw [g,show (LV.one c).cells=pre from f];exact i
        ·rw [<-e];rfl
      | agg cs=>
        simp only [LV.isAgg,Option.some.injEq]at e
        obtain ⟨us,rfl,p⟩:=n
        obtain ⟨t,u,pre,g,f,i,j⟩:=ie H p o hd.1
        cases j
        rw [List.append_nil]at g f
        refine ⟨.agg us,_,us.toList,_,_,rfl,rfl,?_,?_,h2⟩
        ·rw [g,show (LV.agg cs).cells=pre from f];exact i
        ·rw [<-e];simp [cb]
     ·simp at d
    ·simp at d
   ·simp at d
theorem VD {ls:List LV1} {us:List Value} (a:F2 (V1 w m h) ls us):F2 (V w m h) (ls.map LV1.lv) us:=by
 induction a with
 | nil=>exact .nil
 | cons h1 _ b=>exact .cons (rb h1) b
theorem JC {ok:Nat->Prop}: ∀{a:List TI} {x:qb a} {us:List Value},VKs w ok a x us->us.length=a.length
 | [],_,_,h=>by rw [VKs]at h;rw [h];rfl
 | ti::r,x,_,h=>by obtain ⟨u,rest,cs,rfl,_,_,h2⟩:=h;simp [JC h2]
theorem VE (hT : bm P tt) {f : FuncId} {fn : Func} {c : Code} {g : G} (r : P.funcs[f]? = some fn) (d : fn.body = some c) (K : (fn.name == "runtime.NumGoroutine") = false)
 (o: ∀x:qb g.ps,g.pre x-> ∀(w0:World) (mine:Mine) (a:Act) (w:World),(∀id,mine.pin id=none)->R w0 mine (nM g fn.ntmps x) a w->c.wp P (fY w0 mine (yE tt g fn.results.toList x)) a w):Sound P f g:=by
 refine ⟨⟨fn,r,by rw [d];rfl,K⟩,fun x L w ext vs z I=> ?_⟩
 refine calls_of_wp r d ?_
 let mine:Mine:=⟨fun _=>False,ext,fun _=>none⟩
 let m0:Mp:=⟨fun _=>undef,fun _=>0,fun _=>[],ext⟩
 have H:HR w mine w m0 []:=⟨by simp,by simp,by simp,by simp,Fr.refl _ w,rfl,fun b d=>I b (by rcases d with h | h;exact h;exact h.elim),fun id v h=>by simp [mine]at h⟩
 have F:F2 (V w m0 []) (nM g fn.ntmps x).env (vs++Array.replicate (fn.ntmps - vs.size) undef).toList:=by
  have s:vs.size=g.ps.length:=by have:=JC z;simpa using this
  rw [Array.toList_append,Array.toList_replicate,s]
  refine (VD (rD (rE (fun _ _ _=>rfl) (fun b d _=>(⟨d,by simp⟩:qM m0 [] 0 b)) z))).append ?_
  generalize fn.ntmps - g.ps.length=k
  induction k with
  | zero=>exact .nil
  | succ k M=>rw [List.replicate_succ,List.replicate_succ];exact .cons ⟨#[],rfl,.nil⟩ M
 have C:R w mine (nM g fn.ntmps x) {tmps:=vs++Array.replicate (fn.ntmps - vs.size) undef,defers:=[]} w:=⟨rfl,m0,H,F⟩
 have fin: ∀(st:St) (a:Act) (w':World),R w mine st a w'->jQ tt g.dp g.rs fn.results.toList (g.fn x) st->a.defers=[]/\ ∃v,(results fn a.tmps).run P w'= .ok v w'/\(∃us,(Ending.returned v)= .returned (fw us)/\Fr (fun _=>False) w w'/\(match g.dp with
  | true=> ∃B,VMs w' g.rs (g.fn x) us B/\B.Nodup/\ ∀b∈B,w.heap.size<=b
  | false=>VKs w' ext g.rs (g.fn x) us)):=by
  intro st a w' j h
  obtain ⟨hd,m,i,he⟩:=j
  refine ⟨hd,?_⟩
  unfold jQ at h
  split at h
  ·exact h.elim
  ·rename_i ls J
   obtain ⟨A,o,q⟩:=yF hT i he J
   refine ⟨fw A,JA fn o,A,rfl,i.fr,?_⟩
   cases E:g.dp with
   | true=>
     obtain ⟨h1,h2⟩:=h.2 E
     refine ⟨_,JB i.br q h.1 h1,jK i (jJ h2),fun b d=> ?_⟩
     obtain ⟨id,y,_,p,D⟩:=fT d
     rcases (i.lt id y p b D).2 with h | h
     ·exact h
     ·exact h.elim
   | false=>
     have u:m.ext=ext:=i.mx
     refine lU i.br q h.1 fun l s c N=> ?_
     cases c with
     | sl e t xs n=>exact fun b d _=>by rw [<-u];exact d.1
     | own id=>
       intro y p
       refine ⟨fun b d=>i.nx b (i.lt id y p b d).2,?_⟩
       cases y with
       | row e t xs dp mt k=>
         cases dp with
         | true=>trivial
         | false=>exact fun b d _=>by rw [<-u];exact d.1
       | _=>trivial
     | _=>trivial
 refine wp_mono (o x L _ _ _ _ (fun _=>rfl) C) fun e a w' he=> ?_
 cases e with
 | normal=>obtain ⟨st,j,h⟩:=he;exact fin st a w' j h
 | ret=>obtain ⟨st,j,h⟩:=he;exact fin st a w' j h
 | exit id=>obtain ⟨st,_,h⟩:=he;exact h.elim
 | _=>exact he.elim
end
end Go.T
namespace Go.T
open Go
def fZ:Ty->List Value->Option (List Value)
 | .int k,.int c n::r=>if k=c/\n=0 then some r else none
 | .bool,.bool b::r=>if b=false then some r else none
 | .str,.string s::r=>if s.data.toList.isEmpty then some r else none
 | .slice _ _,.slice none 0 0::r=>some r
 | .hdr,.slice none 0 0::r=>some r
 | .pair a b,vs=>match fZ a vs with
   | some r=>fZ b r
   | none=>none
 | _,_=>none
theorem yG: ∀{t:Ty} {vs r:List Value},fZ t vs=some r->vs=bI t++r
 | .int k,vs,r,h=>by
   unfold fZ at h
   split at h<;>try (simp at h;done)
   all_goals simp_all [bI]
 | .bool,vs,r,h=>by
   unfold fZ at h
   split at h<;>try (simp at h;done)
   all_goals simp_all [bI]
 | .str,vs,r,h=>by
   unfold fZ at h
   split at h<;>try (simp at h;done)
   all_goals try (rename_i heq _;cases heq;done)
   all_goals (simp_all [bI])
   all_goals (rename_i s _;apply ByteArray.ext;simp_all)
 | .hdr,vs,r,h=>by
   unfold fZ at h
   split at h<;>try (simp at h;done)
   all_goals simp_all [bI]
 | .slice e t,vs,r,h=>by
   unfold fZ at h
   split at h<;>try (simp at h;done)
   all_goals simp_all [bI]
 | .pair a b,vs,r,h=>by
   simp only [fZ]at h
   split at h
   ·rename_i d c
    rw [yG c,yG h,bI,List.append_assoc]
   ·simp at h
def yH (P:Program) (tt:TT) (ti:TI):TypeDesc->Bool
 | .struct fs=>ti.agg&&decide ((fs.toList.mapM fun (f:Field)=>(P.info? f.type).map fun i=>(f.offset,i.size))=some ti.offs)
 | .array n e=>ti.agg&&match P.info? e,tt.get e with
   | some j,some te=>j.size==te.ty.sz&&ti.ty.sz==n*te.ty.sz
   | _,_=>false
 | .slice e=> !ti.agg&&match ti.ty with
   | .slice e' te=>e'==e&&match tt.get e with
     | some tie=>decide (tie.ty=te)
     | none=>false
   | _=>false
 | _=> !ti.agg
theorem VF {P:Program} {tt:TT} {ti:TI} {d:TypeDesc} (h:yH P tt ti d=true):q1 P tt ti d:=by
 unfold yH at h
 split at h
 ·simp only [Bool.and_eq_true,decide_eq_true_eq]at h
  exact h
 ·simp only [Bool.and_eq_true]at h
  obtain ⟨h1,h2⟩:=h
  split at h2
  ·rename_i j te b e
   simp only [Bool.and_eq_true,beq_iff_eq]at h2
   exact ⟨h1,j,b,te,e,h2.1,h2.2⟩
  ·simp at h2
 ·simp only [Bool.and_eq_true,Bool.not_eq_true']at h
  obtain ⟨h1,h2⟩:=h
  split at h2
  ·rename_i e' te f
   simp only [Bool.and_eq_true,beq_iff_eq]at h2
   obtain ⟨rfl,h2⟩:=h2
   split at h2
   ·rename_i tie c
    simp only [decide_eq_true_eq]at h2
    exact ⟨h1,te,tie,f,c,h2⟩
   ·simp at h2
  ·simp at h2
 ·rename_i d h1 h2 a
  simp only [Bool.not_eq_true']at h
  cases d<;>first | (simp only [q1];exact h) | exact (h1 _ rfl).elim | exact (h2 _ _ rfl).elim | exact (a _ rfl).elim
def JD (P:Program) (t:Nat) (ti:TI):Bool:=match P.info? t with
 | some i=>i.size==ti.ty.sz&&decide (i.bytes<=65536)&&match i.zero with
   | some z=>match fZ ti.ty z.cells.toList with
     | some []=>true
     | _=>false
   | none=>false
 | none=>false
def l1 (P:Program) (tt:TT) (t:Nat) (ti:TI):Bool:=ti.agg||(ti.ty.sz==1&&match ti.ty with
 | .bool=>match P.underlying t with
   | some .bool=>true
   | _=>false
 | .str=>match P.underlying t with
   | some .string=>true
   | _=>false
 | .int k=>match P.underlying t with
   | some (.int a)=>decide (a=k)
   | _=>false
 | .slice e te=>match P.underlying t with
   | some (.slice e')=>e'==e&&match tt.get e with
     | some tie=>decide (tie.ty=te)
     | none=>false
   | _=>false
 | _=>true)
def JE (P:Program) (t:Nat) (ti:TI):Bool:= !ti.ints||match P.underlying t with
 | some (.struct fs)=>match fs.toList with
   | [f, g] => !P.stoodInHeld t && !P.eqGuardType P.depth t && f.offset == 0 && g.offset == 1 && !(f.name == "_") && !(g.name == "_") && match P.underlying f.type, P.underlying g.type with
     | some (.int _),some (.int _)=>true
     | _,_=>false
   | _=>false
 | _=>false
def JF (P:Program) (t:Nat) (ti:TI):Bool:=ti.offs.isEmpty||match P.underlying t with
 | some (.struct fs)=>(List.range ti.offs.length).all fun i=>match ti.offs[i]?,fs[i]? with
   | some p,some fl=>fl.offset==p.1&&(match P.info? fl.type with
     | some j=>j.size==p.2
     | none=>false)&&decide (0<p.2)&&decide (p.1+p.2<=ti.ty.sz)
   | _,_=>false
 | _=>false
def yI (P:Program) (tt:TT) (t:Nat) (ti:TI):Bool:=JD P t ti&&(match P.underlying t with
 | some d=>yH P tt ti d
 | none=>false)&&l1 P tt t ti&&JE P t ti&&JF P t ti
def VG (P:Program) (tt:TT):Bool:=tt.all fun p=>yI P tt p.1 p.2
theorem TT.get_mem {tt:TT} {t:Nat} {ti:TI} (h:tt.get t=some ti):(t,ti)∈tt:=by
 induction tt with
 | nil=>simp [TT.get]at h
 | cons p r a=>
   obtain ⟨u,b⟩:=p
   simp only [TT.get]at h
   split at h
   ·rename_i e;cases h;subst e;exact List.mem_cons_self
   ·exact List.mem_cons_of_mem _ (a h)
theorem VH {P:Program} {tt:TT} {t:Nat} {ti:TI} (h:yI P tt t ti=true):TIok P tt t ti:=by
 simp only [yI,Bool.and_eq_true]at h
 obtain ⟨⟨⟨⟨o,u⟩,b⟩,hints⟩,q⟩:=h
 refine ⟨?_,?_,?_,?_,?_,?_,?_,?_,?_⟩
 ·unfold JD at o
  split at o
  ·rename_i i v
   simp only [Bool.and_eq_true,beq_iff_eq,decide_eq_true_eq]at o
   obtain ⟨⟨h1,h2⟩,a⟩:=o
   split at a
   ·rename_i z K
    split at a
    ·rename_i A
     refine ⟨i,z,v,h1,K,?_,h2⟩
     have:=yG A
     simpa using this
    ·simp at a
   ·simp at a
  ·simp at o
 ·split at u
  ·rename_i d hd;exact ⟨d,hd,VF u⟩
  ·simp at u
 ·intro c
  simp only [l1,c,Bool.false_or,Bool.and_eq_true,beq_iff_eq]at b
  exact b.1
 ·intro c m
  simp only [l1,c,Bool.false_or,Bool.and_eq_true,m]at b
  have h2:=b.2
  split at h2
  ·rename_i hu;exact hu
  ·simp at h2
 ·intro c m
  simp only [l1,c,Bool.false_or,Bool.and_eq_true,m]at b
  have h2:=b.2
  split at h2
  ·rename_i hu;exact hu
  ·simp at h2
 ·intro c k m
  simp only [l1,c,Bool.false_or,Bool.and_eq_true,m]at b
  have h2:=b.2
  split at h2
  ·rename_i L hu
   have:L=k:=by simpa using h2
   rw [hu,this]
  ·simp at h2
 ·intro v
  simp only [JE,v,Bool.not_true,Bool.false_or]at hints
  split at hints
  ·rename_i fs hu
   split at hints
   ·rename_i f g C
    simp only [Bool.and_eq_true,Bool.not_eq_true',beq_iff_eq,beq_eq_false_iff_ne]at hints
    obtain ⟨⟨⟨⟨⟨⟨h1,h2⟩,a⟩,s⟩,x⟩,y⟩,w⟩:=hints
    split at w
    ·rename_i k l hk F
     refine ⟨f,g,k,l,?_,h1,h2,a,s,x,y,hk,F⟩
     rw [hu]
     congr 2
     rw [<-Array.toList_inj,C]
    ·simp at w
   ·simp at hints
  ·simp at hints
 ·intro c e te m
  simp only [l1,c,Bool.false_or,Bool.and_eq_true,m]at b
  have h2:=b.2
  split at h2
  ·rename_i e' hu
   simp only [Bool.and_eq_true,beq_iff_eq]at h2
   obtain ⟨rfl,a⟩:=h2
   refine ⟨hu,?_⟩
   split at a
   ·rename_i tie J;exact ⟨tie,J,by simpa using a⟩
   ·simp at a
  ·simp at h2
 ·intro f n i r
  unfold JF at q
  have G:ti.offs.isEmpty=false:=by
   cases H:ti.offs with
   | nil=>rw [H]at r;simp at r
   | cons=>rfl
  rw [G,Bool.false_or]at q
  split at q
  ·rename_i fs hu
   have D:i<ti.offs.length:=(List.getElem?_eq_some_iff.1 r).1
   have:=List.all_eq_true.1 q i (by simpa using D)
   rw [r]at this
   split at this
   ·rename_i p fl I B
    cases I
    simp only [Bool.and_eq_true,beq_iff_eq,decide_eq_true_eq]at this
    obtain ⟨⟨⟨h1,h2⟩,a⟩,s⟩:=this
    split at h2
    ·rename_i j E
     exact ⟨fs,fl,hu,B,h1,j,E,by simpa using h2,a,s⟩
    ·simp at h2
   ·simp at this
  ·simp at q
theorem JG {P:Program} {tt:TT} (h:VG P tt=true):bm P tt:=fun _ _ a=>VH (List.all_eq_true.1 h _ (TT.get_mem a))
end Go.T
namespace Go.T
open Go
def ik (z:Bool) (top n:Nat):Nat:=bif z&&n==0 then 0 else top
def LC.ren (a:Nat->Option Nat) (z:Bool) (top:Nat):LC->LC
 | .own id=>match a id with
   | some j=> .own j
   | none=> .undef
 | .ptr id i f=>match a id with
   | some j=> .ptr j i f
   | none=> .undef
 | .sl e t xs n=> .sl e t xs (ik z top n)
 | .tptr t v f n=> .tptr t v f (ik z top n)
 | .int k n=> .int k n
 | .bool b=> .bool b
 | .str s=> .str s
 | .hdr v=> .hdr v
 | .nils=> .nils
 | .nilp=> .nilp
 | .fn f=> .fn f
 | .clo _ _=> .undef
 | .undef=> .undef
def LV.ren (a:Nat->Option Nat) (z:Bool) (top:Nat):LV->LV
 | .one c=> .one (c.ren a z top)
 | .agg cs=> .agg (cs.map (LC.ren a z top))
 | .tup vs=> .tup (vs.map fun v=>⟨v.agg,v.cs.map (LC.ren a z top)⟩)
def Blk.ren (a:Nat->Option Nat) (z:Bool) (top:Nat):Blk->Blk
 | .box cs=> .box (cs.map (LC.ren a z top))
 | .row e t xs dp mt n=> .row e t xs dp mt (bif dp then 0 else ik z top n)
 | .nst F t hs vs=> .nst F t hs vs
 | .dead=> .dead
def cr:List Nat->Nat->Nat->Option Nat
 | [],_,_=>none
 | x::r,k,id=>if x=id then some k else cr r (k+1) id
def l2 (a:Nat->Option Nat) (z:Bool) (top:Nat):List Bool->List LV->List LV
 | _,[]=>[]
 | [],_::r=> .one .undef::l2 a z top [] r
 | true::b,l::r=>l.ren a z top::l2 a z top b r
 | false::b,_::r=> .one .undef::l2 a z top b r
def St.renum (z:Bool) (order:List Nat) (keep:List Bool) (st:St):St:={env:=l2 (cr order 0) z order.length keep st.env,heap:=order.map fun id=>(st.heap.getD id .dead).ren (cr order 0) z order.length}
def LC.idOf:LC->Option Nat
 | .own id=>some id
 | .ptr id _ _=>some id
 | _=>none
def il (acc:List Nat):List LC->List Nat
 | []=>acc
 | c::r=>match c.idOf with
   | some id=>if acc.contains id then il acc r else il (acc++[id]) r
   | none=>il acc r
def rM:List Bool->List LV->List LC
 | true::a,l::r=>l.cells++rM a r
 | false::a,_::r=>rM a r
 | _,_=>[]
def JH (h:List Blk) (id:Nat):List LC:=match h[id]? with
 | some (Blk.box cs)=>cs
 | _=>[]
def JI (h:List Blk) (ids:List Nat):List LC:=ids.flatMap (JH h)
def im:List Blk->Nat->List Nat
 | [],_=>[]
 | .nst .. ::r,i=>i::im r (i+1)
 | _::r,i=>im r (i+1)
theorem JJ: ∀(h:List Blk) (i:Nat),∀k∈im h i,i<=k
 | [],_,_,hk=>by simp [im]at hk
 | b::r,i,k,hk=>by
   have a:=JJ r (i+1) k
   cases b<;>simp only [im,List.mem_cons]at hk
   case nst=>rcases hk with rfl | hk;exact Nat.le_refl _;have:=a hk;omega
   all_goals (have:=a hk;omega)
theorem JK: ∀(h:List Blk) (i:Nat),(im h i).Nodup
 | [],_=>List.nodup_nil
 | b::r,i=>by
   have a:=JK r (i+1)
   cases b
   case nst=>exact List.nodup_cons.2 ⟨fun hm=>by have:=JJ r (i+1) i hm;omega,a⟩
   all_goals exact a
def St.order (st:St) (keep:List Bool):List Nat:=
 let a:=il (im st.heap 0) (rM keep st.env)
 il a (JI st.heap a)
def St.gc (z:Bool) (keep:List Bool) (st:St):St:=st.renum z (st.order keep) keep
theorem nN: ∀{cs:List LC} {acc:List Nat},acc.Nodup->(il acc cs).Nodup
 | [],_,h=>h
 | c::r,acc,h=>by
   simp only [il]
   split
   ·rename_i id _
    split
    ·exact nN h
    ·rename_i b
     refine nN ?_
     rw [List.nodup_append]
     refine ⟨h,by simp,fun x d y a e=>b ?_⟩
     simp at a
     subst a;subst e
     simpa using d
   ·exact nN h
theorem JL: ∀{l:List Nat} {k id j:Nat},cr l k id=some j->k<=j/\l[j - k]?=some id
 | x::r,k,id,j,h=>by
   simp only [cr]at h
   split at h
   ·rename_i e;cases h;subst e;simp
   ·obtain ⟨h1,h2⟩:=JL h
    refine ⟨by omega,?_⟩
    rw [show j - k=(j - (k+1))+1 by omega]
    simpa using h2
section
variable {w0 w : World} {mine : Mine} {m : Mp} {h : List Blk} {order : List Nat} {z : Bool}
def Mp.ren (m:Mp) (order:List Nat):Mp:={m with val:=fun j=>m.val (order.getD j 0),blk:=fun j=>m.blk (order.getD j 0),nst:=fun j=>m.nst (order.getD j 0)}
def fz (z:Bool) (h:List Blk) (order:List Nat):List Blk:=order.map fun id=>(h.getD id .dead).ren (cr order 0) z order.length
theorem JM {j:Nat} {y:Blk} (a:(fz z h order)[j]?=some y): ∃id,order[j]?=some id/\order.getD j 0=id/\j<order.length/\y=(h.getD id .dead).ren (cr order 0) z order.length:=by
 simp only [fz,List.getElem?_map]at a
 cases b:order[j]? with
 | none=>rw [b]at a;simp at a
 | some id=>
   rw [b]at a
   simp at a
   exact ⟨id,rfl,by simp [b],(List.getElem?_eq_some_iff.1 b).1,by rw [<-a];simp⟩
theorem JN {j id:Nat} {x:Blk} (a:cr order 0 id=some j) (b:h[id]?=some x):(fz z h order)[j]?=some (x.ren (cr order 0) z order.length)/\order.getD j 0=id:=by
 obtain ⟨_,h2⟩:=JL a
 simp only [Nat.sub_zero]at h2
 refine ⟨?_,by simp [h2]⟩
 simp only [fz,List.getElem?_map,h2,Option.map_some,List.getD,b,Option.getD_some]
theorem VI (z:Bool) (top n:Nat):ik z top n=top∨(n=0/\ik z top n=0):=by
 unfold ik
 cases z with
 | false=>exact .inl rfl
 | true=>
   cases n with
   | zero=>exact .inr ⟨rfl,rfl⟩
   | succ n=>exact .inl rfl
theorem rN {n b:Nat} (f:qM m h n b):qM (m.ren order) (fz z h order) (ik z order.length n) b:=by
 refine ⟨f.1,fun j y i=> ?_⟩
 obtain ⟨id,l,a,g,rfl⟩:=JM i
 cases d:h[id]? with
 | none=>simp only [List.getD,d,Option.getD_none,Blk.ren];trivial
 | some x=>
   have:=f.2 id x d
   simp only [List.getD,d,Option.getD_some]
   cases x with
   | dead=>trivial
   | nst F t hs vs=>exact this
   | box cs=>simp only [Blk.ren,okB,Mp.ren,a];exact this
   | row e t xs dp mt k=>
     rcases VI z order.length n with c | ⟨rfl,c⟩
     ·rw [c]
      refine ⟨fun hm=> ?_,fun hd hle=> ?_⟩
      ·have h1:=this.1 (.inl (hm.resolve_right (by omega)))
       simp only [Mp.ren,a];exact h1
      ·subst hd
       simp at hle
       rw [hle]at g
       simp at g
     ·rw [c]
      refine ⟨fun _=> ?_,fun hd _=> ?_⟩
      ·have h1:=this.1 (.inr (Nat.zero_le _))
       simp only [Mp.ren,a];exact h1
      ·have h1:=this.2 hd (Nat.zero_le _)
       simp only [Mp.ren,a];exact h1
theorem yJ: ∀{c:LC} {v:Value},C w m h c v->C w (m.ren order) (fz z h order) (c.ren (cr order 0) z order.length) v
 | .int _ _,_,d | .bool _,_,d | .str _,_,d | .hdr _,_,d | .nils,_,d | .nilp,_,d | .fn _,_,d=>d
 | .undef,_,_=>trivial
 | .clo _ _,_,_=>trivial
 | .sl e t xs n,v,d=>by
   obtain ⟨A,c,he,q,r⟩:=d
   exact ⟨A,c,he,q,lL (fun _ _ _=>rfl) (fun b l _=>rN l) r⟩
 | .tptr t x f n,v,d=>by
   obtain ⟨a,cs,he,hk,p,l⟩:=d
   exact ⟨a,cs,he,cv (fun _ _ _=>rfl) (fun b l _=>rN l) hk,p,rN l⟩
 | .own id,v,d=>by
   simp only [LC.ren]
   cases o:cr order 0 id with
   | none=>trivial
   | some j=>
     simp only [C]at d ⊢
     cases g:h[id]? with
     | none=>rw [g]at d;exact d.elim
     | some x=>
       obtain ⟨h1,h2⟩:=JN o g
       rw [g]at d
       rw [h1]
       cases x with
       | box=>exact d.elim
       | nst=>exact d.elim
       | dead=>exact d
       | row e t xs dp mt k=>simp only [Blk.ren,Mp.ren,h2];exact d
 | .ptr id i f,v,d=>by
   simp only [LC.ren]
   cases o:cr order 0 id with
   | none=>trivial
   | some j=>
     simp only [C]at d ⊢
     cases g:h[id]? with
     | none=>rw [g]at d;exact d.elim
     | some x=>
       obtain ⟨h1,h2⟩:=JN o g
       rw [g]at d
       rw [h1]
       cases x with
       | box=>simp only [Blk.ren,Mp.ren,h2];exact d
       | nst=>exact d.elim
       | dead=>exact d
       | row e t xs dp mt k=>simp only [Blk.ren,Mp.ren,h2];exact d
theorem yK {cs:List LC} {vs:List Value} (a:F2 (C w m h) cs vs):F2 (C w (m.ren order) (fz z h order)) (cs.map (LC.ren (cr order 0) z order.length)) vs:=by
 induction a with
 | nil=>exact .nil
 | cons h1 _ b=>exact .cons (yJ h1) b
theorem VJ: ∀{l:LV} {v:Value},V w m h l v->V w (m.ren order) (fz z h order) (l.ren (cr order 0) z order.length) v
 | .one c,v,b=>yJ (c:=c) b
 | .agg cs,v,b=>by obtain ⟨vs,he,a⟩:=b;exact ⟨vs,he,yK a⟩
 | .tup ls,v,b=>by
   obtain ⟨vs,he,a⟩:=b
   refine ⟨vs,he,?_⟩
   clear he
   generalize vs.toList=us at a
   induction a with
   | nil=>exact .nil
   | cons h1 _ f=>
     refine .cons ?_ f
     unfold V1 at h1 ⊢
     split at h1
     ·rename_i e;simp only [e];obtain ⟨vs,he,a⟩:=h1;exact ⟨vs,he,yK a⟩
     ·rename_i e;simp only [e];obtain ⟨c,he,d,h2⟩:=h1;exact ⟨_,by rw [he];rfl,yJ d,h2⟩
theorem VK (s:order.Nodup) (B: ∀id,mine.pin id=none) (H:HR w0 mine w m h):HR w0 mine w (m.ren order) (fz z h order):=by
 have back: ∀j y,(fz z h order)[j]?=some y->(∃id x,order[j]?=some id/\order.getD j 0=id/\h[id]?=some x/\y=x.ren (cr order 0) z order.length)∨y= .dead:=fun j y g=>by
  obtain ⟨id,i,a,G,rfl⟩:=JM g
  cases d:h[id]? with
  | none=>right;simp only [List.getD,d,Option.getD_none,Blk.ren]
  | some x=>left;exact ⟨id,x,i,a,d,by simp only [List.getD,d,Option.getD_some]⟩
 have l: ∀j id x,order.getD j 0=id->fpB (m.ren order) j (x.ren (cr order 0) z order.length)=fpB m id x:=fun j id x a=>by
  cases x<;>simp only [Blk.ren,fpB,Mp.ren,a]
 refine ⟨fun j y g=> ?_,fun j y g=> ?_,fun j y p E u g D b f n=> ?_,fun j y g b f=> ?_,H.fr,H.mx,H.nx,fun id v o=>by rw [B id]at o;simp at o⟩
 ·rcases back j y g with ⟨id,x,i,a,d,rfl⟩ | rfl
  ·have:=H.br id x d
   cases x with
   | dead=>trivial
   | nst F t hs vs=>exact this
   | box cs=>
     obtain ⟨arr,ty,h1,h2,q⟩:=this
     exact ⟨arr,ty,by simp only [Mp.ren,a];exact h1,yK h2,q⟩
   | row e t xs dp mt k=>
     obtain ⟨inner,h1,h2⟩:=this
     refine ⟨inner,by simp only [Mp.ren,a];exact h1,?_⟩
     cases dp with
     | true=>simp only [Mp.ren,a]at h2 ⊢;exact ⟨h2.1,Nat.zero_le _⟩
     | false=>exact h2.imp fun x c hk=>cv (fun _ _ _=>rfl) (fun b f _=>rN f) hk
  ·trivial
 ·rcases back j y g with ⟨id,x,i,a,d,rfl⟩ | rfl
  ·rw [l j id x a];exact H.nd id x d
  ·exact List.nodup_nil
 ·rcases back j y g with ⟨id,x,i,a,d,rfl⟩ | rfl
  ·rcases back p E D with ⟨id',x',A,r,C,rfl⟩ | rfl
   ·rw [l j id x a]at f
    rw [l p id' x' r]at n
    refine H.dj id x id' x' (fun e=>u ?_) d C b f n
    subst e
    have h1:=(List.getElem?_eq_some_iff.1 i)
    have h2:=(List.getElem?_eq_some_iff.1 A)
    exact (List.getElem_inj s).1 (h1.2.trans h2.2.symm)
   ·simp [fpB]at n
  ·simp [fpB]at f
 ·rcases back j y g with ⟨id,x,i,a,d,rfl⟩ | rfl
  ·rw [l j id x a]at f;exact H.lt id x d b f
  ·simp [fpB]at f
theorem VL {a:List Bool}: ∀{env:List LV} {vs:List Value},F2 (V w m h) env vs->F2 (V w (m.ren order) (fz z h order)) (l2 (cr order 0) z order.length a env) vs:=by
 intro env vs c
 induction c generalizing a with
 | nil=>cases a with
   | nil=>exact .nil
   | cons k a=>cases k<;>exact .nil
 | cons h1 _ b=>cases a with
   | nil=>exact .cons trivial b
   | cons k a=>cases k with
     | true=>exact .cons (VJ h1) b
     | false=>exact .cons trivial b
theorem Le.renum {st:St} (keep:List Bool) (b:order.Nodup):Le st (st.renum z order keep):=fun w0 mine a w c d=>by
 obtain ⟨hd,m,H,he⟩:=d
 exact ⟨hd,m.ren order,VK b c H,VL he⟩
theorem Le.gc (st:St) (z:Bool) (keep:List Bool):Le st (st.gc z keep):=Le.renum keep (nN (nN (JK _ _)))
def jS:List Bool->List LV->List LV
 | _,[]=>[]
 | [],_::r=> .one .undef::jS [] r
 | true::a,l::r=>l::jS a r
 | false::a,_::r=> .one .undef::jS a r
def St.forget (keep:List Bool) (st:St):St:={env:=jS keep st.env,heap:=st.heap}
theorem VM {a:List Bool}: ∀{env:List LV} {vs:List Value},F2 (V w m h) env vs->F2 (V w m h) (jS a env) vs:=by
 intro env vs c
 induction c generalizing a with
 | nil=>cases a with
   | nil=>exact .nil
   | cons k a=>cases k<;>exact .nil
 | cons h1 _ b=>cases a with
   | nil=>exact .cons trivial b
   | cons k a=>cases k with
     | true=>exact .cons h1 b
     | false=>exact .cons trivial b
theorem LeP.of_forget {st b:St} (keep:List Bool) (h:st.forget keep=b):LeP st b:=h▸fun w0 mine a w c=>by
 obtain ⟨hd,m,H,he⟩:=c
 exact ⟨hd,m,H,VM he⟩
end
end Go.T
namespace Go.T
open Go
section
variable {P : Program} {tt : TT} {Γ : Gam} {tr : Nat -> Tree} {L : St -> St -> Prop} {Q : X -> St -> Prop} {e : List LV} {h : List Blk}
@[simp] theorem q5k : wpT P tt Γ tr L .skip Q ⟨e, h⟩ = Q .normal ⟨e, h⟩ := rfl
@[simp] theorem q5H {id : Nat} {ops : List Oper} : wpT P tt Γ tr L (.region id ⟨ops⟩ false) Q ⟨e, h⟩ = fX P tt Γ ⟨ops⟩ ops ⟨e, h⟩ (Q .normal) := rfl
@[simp] theorem q4n {id : Nat} {ops : Array Oper} : wpT P tt Γ tr L (.region id ops true) Q ⟨e, h⟩ = ed sx0 tt Γ ops (tr id) ⟨e, h⟩ (Q .normal) := rfl
@[simp] theorem q4d {a b : Code} : wpT P tt Γ tr L (.seq a b) Q ⟨e, h⟩ = wpT P tt Γ tr L a (jP (wpT P tt Γ tr L b Q) Q) ⟨e, h⟩ := rfl
@[simp] theorem q4l {c : Operand} {x y : Code} : wpT P tt Γ tr L (.cond c x y) Q ⟨e, h⟩ = yD c ⟨e, h⟩ (wpT P tt Γ tr L x Q) (wpT P tt Γ tr L y Q) := rfl
@[simp] theorem q5v {id : Nat} {c : Code} : wpT P tt Γ tr L (.block id c) Q ⟨e, h⟩ = wpT P tt Γ tr L c (l0 id Q) ⟨e, h⟩ := rfl
@[simp] theorem q4R {c : Code} : wpT P tt Γ tr L (.loop c) Q ⟨e, h⟩ = Jy L (wpT P tt Γ tr L c) Q ⟨e, h⟩ := rfl
@[simp] theorem q5i {id : Nat} : wpT P tt Γ tr L (.exit id) Q ⟨e, h⟩ = Q (.exit id) ⟨e, h⟩ := rfl
@[simp] theorem q5C : wpT P tt Γ tr L .ret Q ⟨e, h⟩ = Q .ret ⟨e, h⟩ := rfl
variable {ops : Array Oper} {k : St -> Prop}
@[simp] theorem q54 : fX P tt Γ ops [] ⟨e, h⟩ k = k ⟨e, h⟩ := rfl
@[simp] theorem q4b {d : Option Tmp} {op : Op} {ty : TypeId} {pos : String} {a : Array Edge} {os : List Oper} : fX P tt Γ ops (⟨d, op, ty, pos, a, none⟩ :: os) ⟨e, h⟩ k = opW P tt Γ ⟨d, op, ty, pos, a, none⟩ ⟨e, h⟩ fun st => fX P tt Γ ops os st k := rfl
@[simp] theorem q4v {d : Option Tmp} {op : Op} {ty : TypeId} {pos : String} {a : Array Edge} {g : Nat × Bool} {os : List Oper} : fX P tt Γ ops (⟨d, op, ty, pos, a, some g⟩ :: os) ⟨e, h⟩ k = b2 ops ⟨d, op, ty, pos, a, some g⟩ ⟨e, h⟩ (fun st => opW P tt Γ ⟨d, op, ty, pos, a, some g⟩ st fun st => fX P tt Γ ops os st k) (fun st => fX P tt Γ ops os (st.put d (.tup [])) k) := rfl
@[simp] theorem q36 {k : St -> Prop} {st : St} : jP k Q .normal st = k st := rfl
@[simp] theorem q4a {k : St -> Prop} {st : St} : jP k Q .ret st = Q .ret st := rfl
@[simp] theorem q5n {k : St -> Prop} {st : St} {id : Nat} : jP k Q (.exit id) st = Q (.exit id) st := rfl
@[simp] theorem q4w {id : Nat} {st : St} : l0 id Q .normal st = Q .normal st := rfl
@[simp] theorem q4P {id : Nat} {st : St} : l0 id Q .ret st = Q .ret st := rfl
@[simp] theorem q5a {id j : Nat} {st : St} : l0 id Q (.exit j) st = if j = id then Q .normal st else Q (.exit j) st := rfl
@[simp] theorem q3H {k : St -> Prop} : jP k Q .normal = k := rfl
@[simp] theorem q46 {id : Nat} : l0 id Q .normal = Q .normal := rfl
@[simp] theorem q3W {P : Program} {tt : TT} {Γ : Gam} {e : List LV} {h : List Blk} {o : Oper} {k : St -> Prop} : opW P tt Γ o ⟨e, h⟩ k = (match b1 tt Γ o ⟨e, h⟩ with
  | some (p,a)=>p/\k a
  | none=>Jm P o ⟨e,h⟩ k):=rfl
@[simp] theorem q4f {c : Operand} {e : List LV} {h : List Blk} {x y : St -> Prop} : yD c ⟨e, h⟩ x y = (match (St.mk e h).ev c with
  | .one (.bool b)=>(b=true->x ((St.mk e h).litO c true))/\(b=false->y ((St.mk e h).litO c false))
  | _=>False):=rfl
@[simp] theorem q3L {a b : Ty} (p : Val (.pair a b)) : (Prod.mk (α := Val a) (β := Val b) (Prod.fst (α := Val a) (β := Val b) p) (Prod.snd (α := Val a) (β := Val b) p)) = p := by cases p; rfl
@[simp] theorem q4Q {e : List LV} {h : List Blk} {t : Nat} : (St.mk e h).ev (.tmp t) = e.getD t (.one .undef) := rfl
@[simp] theorem q5x {e : List LV} {h : List Blk} {v : Value} : (St.mk e h).ev (.const v) = nh v := rfl
@[simp] theorem q5F {e : List LV} {h : List Blk} {f : Nat} : (St.mk e h).ev (.func f) = .one (.fn f) := rfl
@[simp] theorem q4i {e : List LV} {h : List Blk} {t : Nat} {v : LV} : (St.mk e h).put (some t) v = ⟨e.set t v, h⟩ := rfl
@[simp] theorem q5z {e : List LV} {h : List Blk} {v : LV} : (St.mk e h).put none v = ⟨e, h⟩ := rfl
@[simp] theorem q3Y {e : List LV} {h : List Blk} {d : Option Tmp} {c : LC} : (St.mk e h).go d c = some (True, (St.mk e h).put d (.one c)) := rfl
@[simp] theorem q4q {e : List LV} {h : List Blk} {t : Nat} {b : Blk} {c : LC} : (St.mk e h).new (some t) b c = ⟨e.set t (.one c), h ++ [b]⟩ := rfl
@[simp] theorem q5b {e : List LV} {h : List Blk} {b : Blk} {c : LC} : (St.mk e h).new none b c = ⟨e, h ++ [b]⟩ := rfl
@[simp] theorem q5G {e : List LV} {h h' : List Blk} {t : Nat} {l : LV} : (St.mk e h).res (some t) l h' = ⟨e.set t l, h'⟩ := rfl
@[simp] theorem q5L {e : List LV} {h h' : List Blk} {l : LV} : (St.mk e h).res none l h' = ⟨e, h'⟩ := rfl
@[simp] theorem q5E {e : List LV} {h : List Blk} {t : Nat} {b : Bool} : (St.mk e h).lit t b = ⟨e.set t (.one (.bool b)), h⟩ := rfl
@[simp] theorem q3N {e : List LV} {h : List Blk} {t : Nat} {b : Bool} : (St.mk e h).litO (.tmp t) b = ⟨e.set t (.one (.bool b)), h⟩ := rfl
@[simp] theorem q4S {e : List LV} {h : List Blk} {v : Value} {b : Bool} : (St.mk e h).litO (.const v) b = ⟨e, h⟩ := rfl
attribute [simp] ni lJ TI.row jF dG ew lW gZ b1 bz nh h8 LV.cells LV1.lv lA lB lC lD lE lF lH jE lenOf p0 p1 h9 lG newRow jG
 eu fx eS qL dF cQ lT LC.low bS LC.movedId bR LC.deep kill freeze Blk.froze los lo dc Ty.flat Ty.sz LC.isDef LV.isAgg b2 nM yE jQ eX nL jN Gam.get q9 eA Blk.up gW
 St.gc St.order St.renum rM il im JI JH l2 LV.ren LC.ren ik LC.idOf Blk.ren cr ed eB eW sx0 fy nG fW LV.rd List.replicate
end
end Go.T
