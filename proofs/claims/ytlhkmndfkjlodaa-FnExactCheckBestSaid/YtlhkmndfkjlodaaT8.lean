/- T: regions in their order. -/
import Derived.Test.YtlhkmndfkjlodaaT7
import Derived.Orders
set_option linter.unusedSimpArgs false
set_option linter.unusedVariables false
namespace Go.T
open Go
def St.lit (st:St) (t:Nat) (b:Bool):St:={st with env:=st.env.set t (.one (.bool b))}
theorem St.lit_self {st:St} {t:Nat} {b:Bool} (h:st.env[t]?=some (.one (.bool b))):st.lit t b=st:=by
 obtain ⟨env,heap⟩:=st
 simp only [St.lit,St.mk.injEq,and_true]
 apply List.ext_getElem?
 intro j
 by_cases e:t=j
 ·subst e
  rw [List.getElem?_set_self (List.getElem?_eq_some_iff.1 h).1]
  exact h.symm
 ·rw [List.getElem?_set_ne e]
def qV (ops:Array Oper) (o:Oper) (st:St) (yes no:St→Prop):Prop:=match o.guard with
 | none=>yes st
 | some (j,want)=>match (ops[j]?).bind (·.dst)with
   | none=>no st
   | some t=>match st.env[t]? with
     | some (.one (.bool b))=>(b=want→yes (st.lit t want))∧(b= !want→no (st.lit t (!want)))
     | some (.tup _)=>no st
     | none=>no st
     | _=>False
def qDB (P:Program) (o:Oper) (st:St) (k:St→Prop):Prop:=
 ∀(w0:World) (mine:Mine) (a:Act) (w:World) (next:Act→World→Prop) (Q:Exit→Act→World→Prop),R w0 mine st a w→(∀a' w' st',R w0 mine st' a' w'→k st'→next a' w')→o.wp P a w next Q
def opW (P:Program) (tt:TT) (Γ:Gam) (o:Oper) (st:St) (k:St→Prop):Prop:=match qU tt Γ o st with
 | some (p,st')=>p∧k st'
 | none=>qDB P o st k
def qcf (P:Program) (tt:TT) (Γ:Gam) (ops:Array Oper):List Oper→St→(St→Prop)→Prop
 | [],st,k=>k st
 | o::os,st,k=>qV ops o st (fun st=>opW P tt Γ o st fun st=>qcf P tt Γ ops os st k) (fun st=>qcf P tt Γ ops os (st.put o.dst (.tup [])) k)
section
variable {P : Program} {tt : TT} {Γ : Gam} {o : Oper} {ops : Array Oper} {a : Act} {w0 w w' : World} {mine : Mine} {st : St} {next : Act → World → Prop} {Q : Exit → Act → World → Prop}
theorem qRH (hT:qN P tt) {t:Nat} {x:Operand} {lo hi:Option Operand} (ho:o.op= .slice t x lo hi none) {p:Prop} {st':St} (hs:qcE tt t (st.ev x) (lo.map st.ev) (hi.map st.ev) o.dst st=some (p,st')) (hp:p) (hr:R w0 mine st a w)
 (hn: ∀a' w',R w0 mine st' a' w'→next a' w'):o.wp P a w next Q:=by
 unfold qcE at hs
 split at hs
 ·rename_i id ex
  obtain ⟨hd,m,H,he⟩:=hr
  have hx:=R.ev H he x
  rw [ex]at hx
  unfold qgC at hs
  split at hs
  ·rename_i ti e te xs dp mt k ht hy
   split at hs
   ·rename_i l h hl hh
    split at hs
    ·rename_i hc
     cases hs
     obtain ⟨H1,hok1,hs1⟩:=H.weaker (qL.freeze st.heap [id])
     exact qC0 (st:={st with heap:=freeze st.heap [id]}) hT ho (hT t ti ht) hd H1 (qaa hok1 hs1 he) (qln H hy hx) hl hh hc hp fun a' w' hr'=>hn a' w' (by
            have e:({st with heap:=freeze st.heap [id]}:St).put o.dst (.one (.sl e te ((xs.take h.toNat).drop l.toNat) st.heap.length))={st.put o.dst (.one (.sl e te ((xs.take h.toNat).drop l.toNat) st.heap.length))with heap:=freeze st.heap [id]}:=by cases o.dst<;>rfl
            rw [e]at hr'
            exact hr')
    ·simp at hs
   ·simp at hs
  ·simp at hs
 ·exact qDK hT ho hs hp hr hn
theorem qsy (hT:qN P tt) (hΓ: ∀f g,Γ.get f=some g→Sound P f g) {p:Prop} {st':St} (hs:qU tt Γ o st=some (p,st')) (hp:p) (hr:R w0 mine st a w) (hn: ∀a' w',R w0 mine st' a' w'→next a' w'):o.wp P a w next Q:=by
 unfold qU at hs
 split at hs
 ·rename_i c ho
  split at hs
  ·rename_i f hc
   exact qLv hΓ ho hc hs hp hr hn
  ·exact qDs hT hs hp hr hn
 ·rename_i t x lo hi ho
  exact qRH hT ho hs hp hr hn
 ·exact qDs hT hs hp hr hn
theorem R.slot (hr:R w0 mine st a w) {t:Nat} {l:LV} (h:st.env[t]?=some l): ∃m h v,a.tmps[t]?=some v∧V w m h l v:=by
 obtain ⟨_,m,H,he⟩:=hr
 obtain ⟨v,hv,hV⟩:=he.get h
 exact ⟨m,_,v,by simpa using hv,hV⟩
theorem R.noslot (hr:R w0 mine st a w) {t:Nat} (h:st.env[t]?=none):a.tmps[t]?=none:=by
 obtain ⟨_,m,H,he⟩:=hr
 have:=he.len
 simp at h
 simp
 simp at this
 omega
theorem qNB {j t:Nat} (h:(ops[j]?).bind (·.dst)=some t) (tmps:Array Value):yielded ops tmps j=match tmps[t]? with | some (.bool b)=>some b | _=>none:=by
 unfold yielded
 rw [h]
 simp only [Option.bind_some]
 cases tmps[t]? with
 | none=>rfl
 | some v=>cases v<;>rfl
theorem qFW {j:Nat} (h:(ops[j]?).bind (·.dst)=none) (tmps:Array Value):yielded ops tmps j=none:=by
 simp [yielded,h]
theorem qtl {yes no:St→Prop} (h:qV ops o st yes no) (hr:R w0 mine st a w):(Region.wanted o (yielded ops a.tmps)=true∧yes st)∨(Region.wanted o (yielded ops a.tmps)=false∧no st):=by
 unfold qV at h
 unfold Region.wanted
 split at h
 ·rename_i hg
  rw [hg];exact .inl ⟨rfl,h⟩
 ·rename_i j want hg
  rw [hg]
  simp only
  split at h
  ·rename_i hb
   rw [qFW hb]
   exact .inr ⟨rfl,h⟩
  ·rename_i t hb
   rw [qNB hb]
   split at h
   ·rename_i b hs
    obtain ⟨m,hh,v,hv,hV⟩:=hr.slot hs
    have hv':v= .bool b:=hV
    subst hv'
    rw [hv]
    simp only
    by_cases e:b=want
    ·subst e
     have:=h.1 rfl
     rw [St.lit_self hs]at this
     exact .inl ⟨by simp,this⟩
    ·have e':b= !want:=by cases b<;>cases want<;>simp_all
     have:=h.2 e'
     rw [←e',St.lit_self hs]at this
     exact .inr ⟨by simpa using e,this⟩
   ·rename_i ls hs
    obtain ⟨m,hh,v,hv,hV⟩:=hr.slot hs
    obtain ⟨vs,rfl,_⟩:=hV
    rw [hv]
    exact .inr ⟨rfl,h⟩
   ·rename_i hs
    rw [hr.noslot hs]
    exact .inr ⟨rfl,h⟩
   ·exact h.elim
theorem R.skip (hr:R w0 mine st a w) (d:Option Tmp):R w0 mine (st.put d (.tup [])) (a.put d undef) w:=
 hr.put d fun m H he=>⟨#[],rfl,.nil⟩
end
end Go.T
/- T: regions in any order. -/
namespace Go.T
open Go
inductive Tree
 | done
 | first (i:Nat) (t:Tree)
 | quiet (i:Nat) (t:Tree)
 | grow (i:Nat) (t:Tree)
 | pure (i:Nat) (t:Tree)
 | keep (i:Nat) (t:Tree)
 | alt (i:Nat) (t r:Tree)
 | stop
 | sem (ids:List Nat) (t:Tree)
abbrev Smx:=Oper→St→Res
def qbe:Smx:=fun _ _=>none
structure SX where
 ids:List Nat
 S:Smx
def sx0:SX:=⟨[],qbe⟩
noncomputable def qbx (sx:SX) (i:Nat) (tt:TT) (Γ:Gam) (o:Oper) (st:St):Res:=bif sx.ids.contains i then sx.S o st else qU tt Γ o st
def qbo (sx:SX) (i:Nat) (tt:TT) (Γ:Gam) (o:Oper) (st:St) (K:St→Prop):Prop:=match qbx sx i tt Γ o st with
 | some (p,st')=>p∧K st'
 | none=>False
def qba (sx:SX) (tt:TT) (Γ:Gam) (ops:Array Oper) (i:Nat) (st:St) (K:St→Prop):Prop:=match ops[i]? with
 | none=>False
 | some o=>qV ops o st (fun st=>qbo sx i tt Γ o st K) (fun st=>K (st.put o.dst (.tup [])))
def qas (sx:SX) (tt:TT) (Γ:Gam) (ops:Array Oper) (i:Nat) (st:St) (K:St→Prop):Prop:=match ops[i]? with
 | none=>False
 | some o=>qV ops o st (fun _=>qbo sx i tt Γ o st K) (fun _=>K (st.put o.dst (.tup [])))
def qf4 (sx:SX) (tt:TT) (Γ:Gam) (ops:Array Oper):Nat→Array Bool→St→(St→Prop)→Prop
 | 0,listed,st,k=>Region.ready .any ops listed=[]∧k st
 | fuel+1,listed,st,k=>(Region.ready .any ops listed=[]→k st)∧ ∀i∈Region.ready .any ops listed,qas sx tt Γ ops i st fun st'=>qf4 sx tt Γ ops fuel (listed.setIfInBounds i true) st' k
section
variable {sx : SX} {P : Program} {tt : TT} {Γ : Gam} {o : Oper} {ops : Array Oper} {a : Act} {w0 w w' : World} {mine : Mine} {st : St} {next : Act → World → Prop} {Q : Exit → Act → World → Prop}
def qfj (P:Program) (S:Smx):Prop:= ∀(o:Oper) (st:St) (p:Prop) (st':St),S o st=some (p,st')→p→ ∀(w0:World) (mine:Mine) (a:Act) (w:World) (next:Act→World→Prop) (Q:Exit→Act→World→Prop),R w0 mine st a w→(∀a' w',R w0 mine st' a' w'→next a' w')→o.wp P a w next Q
def qda (P:Program) (S:Smx) (w0:World) (mine:Mine):Prop:= ∀(o:Oper) (st:St) (p:Prop) (st':St),S o st=some (p,st')→p→ ∀(a:Act) (w:World) (next:Act→World→Prop) (Q:Exit→Act→World→Prop),R w0 mine st a w→(∀a' w',R w0 mine st' a' w'→next a' w')→o.wp P a w next Q
theorem qfj.at {S:Smx} (h:qfj P S):qda P S w0 mine:=fun o st p st' hs hp a w next Q hr hn=>h o st p st' hs hp w0 mine a w next Q hr hn
theorem qm (P:Program):qfj P qbe:=fun _ _ _ _ h=>by simp [qbe]at h
theorem qEm {yes no yes' no':St→Prop} (hy: ∀s,yes s→yes' s) (hn: ∀s,no s→no' s) (h:qV ops o st yes no):qV ops o st yes' no':=by
 unfold qV at h ⊢
 split
 ·rename_i hg;simp only [hg]at h;exact hy _ h
 ·rename_i j want hg
  simp only [hg]at h
  split
  ·rename_i hb;simp only [hb]at h;exact hn _ h
  ·rename_i t hb
   simp only [hb]at h
   split
   ·rename_i b hs;simp only [hs]at h;exact ⟨fun e=>hy _ (h.1 e),fun e=>hn _ (h.2 e)⟩
   ·rename_i ls hs;simp only [hs]at h;exact hn _ h
   ·rename_i hs;simp only [hs]at h;exact hn _ h
   ·rename_i h1 h2 h3
    split at h
    ·rename_i b hs;exact absurd hs (h1 b)
    ·rename_i ls hs;exact absurd hs (h2 ls)
    ·rename_i hs;exact absurd hs h3
    ·exact h
theorem qQN {yes no:St→Prop} (h:qV ops o st yes no):qV ops o st (fun _=>yes st) (fun _=>no st):=by
 unfold qV at h ⊢
 split
 ·rename_i hg;simp only [hg]at h;exact h
 ·rename_i j want hg
  simp only [hg]at h
  split
  ·rename_i hb;simp only [hb]at h;exact h
  ·rename_i t hb
   simp only [hb]at h
   split
   ·rename_i b hs
    simp only [hs]at h
    refine ⟨fun e=> ?_,fun e=> ?_⟩
    ·have:=h.1 e
     rw [←e,St.lit_self hs]at this
     exact this
    ·have:=h.2 e
     rw [←e,St.lit_self hs]at this
     exact this
   ·rename_i ls hs;simp only [hs]at h;exact h
   ·rename_i hs;simp only [hs]at h;exact h
   ·rename_i h1 h2 h3
    split at h
    ·rename_i b hs;exact absurd hs (h1 b)
    ·rename_i ls hs;exact absurd hs (h2 ls)
    ·rename_i hs;exact absurd hs h3
    ·exact h
theorem qf9 {i:Nat} {K:St→Prop} (h:qba sx tt Γ ops i st K):qas sx tt Γ ops i st K:=by
 unfold qba at h
 unfold qas
 cases ho:ops[i]? with
 | none=>rw [ho]at h;exact h.elim
 | some o=>rw [ho]at h;exact qQN h
theorem qCD {i:Nat} {K K':St→Prop} (hK: ∀s,K s→K' s) (h:qas sx tt Γ ops i st K):qas sx tt Γ ops i st K':=by
 unfold qas at h ⊢
 cases ho:ops[i]? with
 | none=>rw [ho]at h;exact h.elim
 | some o=>
   rw [ho]at h
   refine qEm (fun s h=> ?_) (fun s h=>hK _ h) h
   unfold qbo at h ⊢
   cases hs:qbx sx i tt Γ o st with
   | none=>rw [hs]at h;exact h.elim
   | some r=>rw [hs]at h;exact ⟨h.1,hK _ h.2⟩
theorem qmO (hT:qN P tt) (hΓ: ∀f g,Γ.get f=some g→Sound P f g) (hS:qda P sx.S w0 mine) {k:St→Prop} (hQ: ∀a w st,R w0 mine st a w→k st→Q .normal a w):
 ∀(fuel:Nat) (listed:Array Bool) (st:St) (a:Act) (w:World),qf4 sx tt Γ ops fuel listed st k→R w0 mine st a w→wpAny P .any ops Q fuel listed a w
 | 0,listed,st,a,w,h,hr=>⟨h.1,hQ a w st hr h.2⟩
 | fuel+1,listed,st,a,w,h,hr=>by
   refine ⟨fun h0=>hQ a w st hr (h.1 h0),fun i hi=> ?_⟩
   have h1:=h.2 i hi
   unfold qas at h1
   unfold wpOp
   split at h1
   ·exact h1.elim
   ·rename_i o ho
    simp only [ho]
    rcases qtl h1 hr with ⟨hw,h'⟩ | ⟨hw,h'⟩
    ·rw [if_pos hw]
     unfold qbo qbx at h'
     cases hb:sx.ids.contains i with
     | true=>
       rw [hb]at h'
       simp only [cond_true]at h'
       split at h'
       ·rename_i p st' hs
        exact .inl (hS o st p st' hs h'.1 a w _ _ hr fun a' w' hr'=>qmO hT hΓ hS hQ fuel _ st' a' w' h'.2 hr')
       ·exact h'.elim
     | false=>
       rw [hb]at h'
       simp only [cond_false]at h'
       split at h'
       ·rename_i p st' hs
        exact .inl (qsy hT hΓ hs h'.1 hr fun a' w' hr'=>qmO hT hΓ hS hQ fuel _ st' a' w' h'.2 hr')
       ·exact h'.elim
    ·rw [if_neg (by rw [hw];simp)]
     exact qmO hT hΓ hS hQ fuel _ _ _ _ h' (hr.skip o.dst)
theorem qCS {d:Option Tmp} {l:LV} {x:Operand} (h: ∀t,d=some t→x≠ .tmp t):(st.put d l).ev x=st.ev x:=by
 cases d with
 | none=>rfl
 | some t=>
   cases x with
   | tmp u=>
     have:t≠u:=fun e=>h t rfl (e▸rfl)
     simp only [St.put,St.ev,List.getD_eq_getElem?_getD]
     rw [List.getElem?_set_ne this]
   | _=>rfl
theorem qCr {d:Option Tmp} {l:LV} {t:Nat} (h:d≠some t):(st.put d l).env[t]?=st.env[t]?:=by
 cases d with
 | none=>rfl
 | some u=>
   have:u≠t:=fun e=>h (e▸rfl)
   simp only [St.put]
   rw [List.getElem?_set_ne this]
theorem qHw {d:Option Tmp} {l:LV} {h':List Blk} {x:Operand} (h: ∀t,d=some t→x≠ .tmp t):(st.res d l h').ev x=st.ev x:=by
 have:(st.res d l h').ev x=(st.put d l).ev x:=by cases x<;>rfl
 rw [this,qCS h]
theorem qDi {d d':Option Tmp} {l l':LV} {h':List Blk} (h: ∀t,d=some t→d'≠some t):(st.put d l).res d' l' h'=(st.res d' l' h').put d l:=by
 cases d with
 | none=>rfl
 | some t=>
   cases d' with
   | none=>rfl
   | some u=>
     have:t≠u:=fun e=>h t rfl (e▸rfl)
     simp only [St.res,St.put,St.mk.injEq,and_true]
     exact List.set_comm _ _ this
theorem St.put_heap' (st:St) (d:Option Tmp) (l:LV):(st.put d l).heap=st.heap:=by cases d<;>rfl
theorem qED {tt:TT} {t:Nat} {x:LV} {lo hi:Option LV} {d:Option Tmp} {st:St} {p:Prop} {s:St} (hs:qbi tt t x lo hi d st=some (p,s)): ∃l,s=st.put d l∧ ∀st2:St,qbi tt t x lo hi d st2=some (p,st2.put d l):=by
 unfold qbi at hs
 split at hs
 ·simp at hs
 ·rename_i ti ht
  split at hs
  ·rename_i sv
   split at hs
   ·rename_i l h hl hh
    split at hs
    ·rename_i hc
     simp only [Option.some.injEq,Prod.mk.injEq]at hs
     obtain ⟨rfl,rfl⟩:=hs
     exact ⟨_,rfl,fun st2=>by simp only [qbi,ht,hl,hh];rw [if_pos hc]⟩
    ·simp at hs
   ·simp at hs
  ·rename_i e te xs n
   split at hs
   ·rename_i l h hl hh
    split at hs
    ·rename_i hc
     simp only [Option.some.injEq,Prod.mk.injEq]at hs
     obtain ⟨rfl,rfl⟩:=hs
     exact ⟨_,rfl,fun st2=>by simp only [qbi,ht,hl,hh];rw [if_pos hc]⟩
    ·simp at hs
   ·simp at hs
  ·simp at hs
inductive Md
 | any
 | eq
 | grow
 | box
def HpM:Md→List Blk→List Blk→Prop
 | .any,_,_=>True
 | .eq,h,h2=>h2=h
 | .grow,h,h2=> ∃l,h2=h++l
 | .box,h,h2=> ∀(id:Nat) (cs:List LC),h[id]?=some (.box cs)→h2[id]?=some (.box cs)
theorem HpM.refl (md:Md) (h:List Blk):HpM md h h:=by
 cases md
 ·trivial
 ·rfl
 ·exact ⟨[],by simp⟩
 ·exact fun _ _ h=>h
theorem HpM.trans {md:Md} {h1 h2 h3:List Blk} (a:HpM md h1 h2) (b:HpM md h2 h3):HpM md h1 h3:=by
 cases md with
 | any=>trivial
 | eq=>exact Eq.trans b a
 | grow=>obtain ⟨l,rfl⟩:=a;obtain ⟨l',rfl⟩:=b;exact ⟨l++l',by simp⟩
 | box=>exact fun id cs h=>b id cs (a id cs h)
theorem HpM.app (h l:List Blk):HpM .box h (h++l):=fun id cs e=>by rw [List.getElem?_append_left (List.getElem?_eq_some_iff.1 e).1];exact e
theorem HpM.kill {h:List Blk}: ∀(ids:List Nat) (h1:List Blk),HpM .box h h1→(∀id∈ids,∀cs,h[id]?≠some (.box cs))→HpM .box h (kill h1 ids)
 | [],h1,H,_=>H
 | i::r,h1,H,hn=>by
   refine HpM.kill r (h1.set i .dead) (fun id cs e=> ?_) fun id hid=>hn id (by simp [hid])
   have:i≠id:=fun e'=>hn i (by simp) cs (e'▸e)
   rw [List.getElem?_set_ne this]
   exact H id cs e
theorem HpM.freeze: ∀(ids:List Nat) (h1:List Blk),HpM .box h1 (freeze h1 ids)
 | [],_=>fun _ _ e=>e
 | i::r,h1=>by
   refine HpM.trans (md:= .box) (fun id cs e=> ?_) (HpM.freeze r (h1.modify i Blk.froze))
   rw [List.getElem?_modify]
   by_cases e':i=id
   ·subst e';simp [e,Blk.froze]
   ·simp [e',e]
theorem quU {h:List Blk}: ∀{t:Ty} {cs r:List LC} {v:Val t},qu h t cs=some (v,r)→ ∀id∈qf cs,id∈qf r∨ ∀b,h[id]?≠some (.box b)
 | .pair a b,cs,r,v,hi,id,hm=>by
   simp only [qu]at hi
   split at hi
   ·rename_i x cs1 h1
    split at hi
    ·rename_i y cs2 h2
     simp only [Option.some.injEq,Prod.mk.injEq]at hi
     obtain ⟨rfl,rfl⟩:=hi
     rcases quU h1 id hm with hm | hm
     ·exact quU h2 id hm
     ·exact .inr hm
    ·simp at hi
   ·simp at hi
 | .int _,[],_,_,hi,_,_=>by simp [qu]at hi
 | .bool,[],_,_,hi,_,_=>by simp [qu]at hi
 | .str,[],_,_,hi,_,_=>by simp [qu]at hi
 | .hdr,[],_,_,hi,_,_=>by simp [qu]at hi
 | .slice _ _,[],_,_,hi,_,_=>by simp [qu]at hi
 | .int k,c::cs,r,v,hi,id,hm=>by
   cases c<;>simp [qu]at hi
   obtain ⟨_,_,rfl⟩:=hi
   exact .inl hm
 | .bool,c::cs,r,v,hi,id,hm=>by
   cases c<;>simp [qu]at hi
   obtain ⟨_,rfl⟩:=hi
   exact .inl hm
 | .str,c::cs,r,v,hi,id,hm=>by
   cases c<;>simp [qu]at hi
   obtain ⟨_,rfl⟩:=hi
   exact .inl hm
 | .hdr,c::cs,r,v,hi,id,hm=>by
   cases c<;>simp [qu]at hi
   obtain ⟨_,rfl⟩:=hi
   exact .inl hm
 | .slice e t,c::cs,r,v,hi,id,hm=>by
   cases c<;>simp [qu]at hi
   case own i=>
    split at hi
    ·rename_i e' t' xs _ _ _ hr
     simp at hi
     obtain ⟨_,_,rfl⟩:=hi
     simp only [qf,List.filterMap_cons,LC.movedId,List.mem_cons]at hm
     rcases hm with rfl | hm
     ·exact .inr fun b hb=>by rw [hr]at hb;simp at hb
     ·exact .inl hm
    ·simp at hi
   case nils=>
    obtain ⟨_,rfl⟩:=hi
    exact .inl hm
   case sl=>
    obtain ⟨_,_,rfl⟩:=hi
    exact .inl hm
theorem qDj {h:List Blk} {t:Ty}: ∀{css:List (List LC)} {vs:List (Val t)},qaQ h t css=some vs→ ∀id∈qf css.flatten,∀b,h[id]?≠some (.box b)
 | [],_,_,id,hm=>by simp [qf]at hm
 | cs::r,vs,hi,id,hm=>by
   simp only [qaQ]at hi
   split at hi
   ·rename_i v h1
    split at hi
    ·rename_i vs' h2
     simp only [List.flatten_cons,qf,List.filterMap_append,List.mem_append]at hm
     rcases hm with hm | hm
     ·rcases quU h1 id hm with hm | hm
      ·simp [qf]at hm
      ·exact hm
     ·exact qDj h2 id hm
    ·simp at hi
   ·simp at hi
theorem qMg {h:List Blk} {e:Nat} {te:Ty} {x:LV} {r:List (Val te)×Bool×List Nat} (hd:qgs h e te x=some r): ∀id∈r.2.2,∀b,h[id]?≠some (.box b):=by
 unfold qgs at hd
 split at hd
 ·cases hd;intro id hid;simp at hid
 ·rename_i i
  split at hd
  ·rename_i hr
   split at hd
   ·cases hd
    intro id hid b hb
    simp only [List.mem_singleton]at hid
    subst hid
    rw [hr]at hb;simp at hb
   ·simp at hd
  ·simp at hd
 ·simp at hd
theorem qJ3 {h:List Blk} {e:Nat} {te:Ty} {x:LV} {r:List (Val te)×Bool×List Nat} (hd:qf1 h e te x=some r): ∀id∈r.2.2,∀b,h[id]?≠some (.box b):=by
 unfold qf1 at hd
 split at hd
 ·cases hd;intro id hid;simp at hid
 ·rename_i i
  split at hd
  ·rename_i hr
   split at hd
   ·cases hd
    intro id hid b hb
    simp only at hid
    split at hid
    ·simp at hid
    ·simp only [List.mem_singleton]at hid
     subst hid
     rw [hr]at hb;simp at hb
   ·simp at hd
  ·simp at hd
 ·split at hd
  ·cases hd;intro id hid;simp at hid
  ·simp at hd
 ·simp at hd
def rdM:Md→Oper→St→Prop
 | .any,o,st=>qbU o st=none
 | .eq,_,_=>True
 | .grow,o,st=> ∀id,qbU o st=some id→id<st.heap.length
 | .box,o,st=> ∀id,qbU o st=some id→ ∃cs,st.heap[id]?=some (.box cs)
def qm3 (o:Oper):Bool:=qaY o||match o.op with
 | .alloc _ | .box .. | .makeSlice .. | .buildSlice .. | .slice .. =>true
 | .call c=>match c.callee with
   | .value (.func _)=>true
   | .builtin .append=>true
   | _=>false
 | _=>false
def qlL (o:Oper):Bool:=qaY o||match o.op with
 | .alloc _ | .box .. | .makeSlice .. =>true
 | _=>false
def mdB:Md→Oper→Bool
 | .any,_=>true
 | .eq,o=>qaY o
 | .grow,o=>qlL o
 | .box,o=>qm3 o
theorem qPn {md:Md} (hb:mdB md o=true) {p:Prop} {s:St} (hs:qU tt Γ o st=some (p,s)):HpM md st.heap s.heap:=by
 have quiet:qaY o=true→s.heap=st.heap:=fun hq=>by
  rw [qqm hq]at hs
  obtain ⟨l2,h4,_⟩:=qrt hq hs
  rw [h4];cases o.dst<;>rfl
 cases md with
 | any=>trivial
 | eq=>exact quiet hb
 | grow=>
   simp only [mdB,qlL,Bool.or_eq_true]at hb
   rcases hb with hq | hb
   ·exact ⟨[],by rw [quiet hq];simp⟩
   ·obtain ⟨dst,op,type,pos,after,guard⟩:=o
    cases op<;>simp only [Bool.false_eq_true]at hb
    case alloc t=>
        simp only [qU,qJ]at hs
        split at hs
        ·cases hs;exact ⟨_,rfl⟩
        ·simp at hs
    case box t x=>
        simp only [qU,qJ]at hs
        split at hs
        ·cases hs;exact ⟨_,rfl⟩
        ·simp at hs
    case makeSlice t l c=>
        simp only [qU,qJ]at hs
        split at hs
        ·split at hs
         ·cases hs;exact ⟨_,rfl⟩
         ·simp at hs
        ·simp at hs
 | box=>
   simp only [mdB,qm3,Bool.or_eq_true]at hb
   rcases hb with hq | hb
   ·rw [quiet hq];exact HpM.refl .box _
   ·obtain ⟨dst,op,type,pos,after,guard⟩:=o
    cases op<;>simp only [Bool.false_eq_true]at hb
    case alloc t=>
      simp only [qU,qJ]at hs
      split at hs
      ·cases hs;exact HpM.app _ _
      ·simp at hs
    case box t x=>
      simp only [qU,qJ]at hs
      split at hs
      ·cases hs;exact HpM.app _ _
      ·simp at hs
    case makeSlice t l c=>
      simp only [qU,qJ]at hs
      split at hs
      ·split at hs
       ·cases hs;exact HpM.app _ _
       ·simp at hs
      ·simp at hs
    case buildSlice t n ps=>
      simp only [qU,qJ]at hs
      split at hs
      ·split at hs
       ·split at hs
        ·split at hs
         ·rename_i xs hxs
          cases hs
          exact HpM.trans (md:= .box) (HpM.kill _ _ (HpM.refl .box _) (qDj hxs)) (HpM.app _ _)
         ·simp at hs
        ·simp at hs
       ·simp at hs
      ·simp at hs
    case slice t x lo hi mx=>
      cases mx with
      | some _=>simp [qU,qJ]at hs
      | none=>
        simp only [qU]at hs
        unfold qcE at hs
        split at hs
        ·unfold qgC at hs
         split at hs
         ·split at hs
          ·split at hs
           ·cases hs;exact HpM.freeze _ _
           ·simp at hs
          ·simp at hs
         ·simp at hs
        ·obtain ⟨l,rfl,_⟩:=qED hs
         rw [St.put_heap'];exact HpM.refl .box _
    case call c=>
      simp only [qU]at hs
      split at hs
      ·rename_i f hc
       unfold qdN at hs
       split at hs
       ·simp at hs
       ·split at hs
        ·unfold qc9 at hs
         split at hs
         ·split at hs
          ·split at hs
           ·split at hs
            ·cases hs;exact HpM.app _ _
            ·simp at hs
           ·simp at hs
          ·simp at hs
         ·simp at hs
        ·split at hs
         ·cases hs;exact HpM.app _ _
         ·cases hs;exact HpM.freeze _ _
      ·split at hb
       ·rename_i hne _ f hc
        exact absurd hc (hne f)
       ·rename_i hc
        simp only [qJ,hc]at hs
        split at hs
        ·split at hs
         ·unfold qdp at hs
          split at hs
          ·simp at hs
          ·split at hs
           ·split at hs
            ·rename_i hd
             split at hs
             ·rename_i hsr
              split at hs
              ·cases hs
               refine HpM.trans (md:= .box) (HpM.kill _ _ (HpM.refl .box _) fun id hid=> ?_) (HpM.app _ _)
               rcases List.mem_append.1 hid with hid | hid
               ·exact qMg hd id hid
               ·exact qJ3 hsr id hid
              ·simp at hs
             ·simp at hs
            ·simp at hs
           ·simp at hs
         ·simp at hs
        ·simp at hs
       ·simp at hb
structure Agree (ops:Array Oper) (o:Oper) (free:Md) (st st2:St):Prop where
 ev: ∀x∈o.op.operands,st2.ev x=st.ev x
 gd: ∀j want t,o.guard=some (j,want)→(ops[j]?).bind (·.dst)=some t→st2.env[t]?=st.env[t]?
 heap:HpM free st.heap st2.heap
theorem Agree.trans {free:Md} {s1 s2 s3:St} (h:Agree ops o free s1 s2) (h':Agree ops o free s2 s3):Agree ops o free s1 s3:=
 ⟨fun x hx=>(h'.ev x hx).trans (h.ev x hx),fun j wt t h1 h2=>(h'.gd j wt t h1 h2).trans (h.gd j wt t h1 h2),h.heap.trans h'.heap⟩
theorem qjX {free:Md} {st2:St} (ha:Agree ops o free st st2) (yes no:Prop):qV ops o st2 (fun _=>yes) (fun _=>no)↔qV ops o st (fun _=>yes) (fun _=>no):=by
 unfold qV
 split
 ·exact Iff.rfl
 ·rename_i j want hg
  split
  ·exact Iff.rfl
  ·rename_i t hb
   rw [ha.gd j want t hg hb]
def Yl (sx:SX) (tt:TT) (Γ:Gam) (ops:Array Oper) (i:Nat) (o:Oper) (free:Md) (st:St) (l:LV):Prop:= ∀st2,Agree ops o free st st2→ ∀K:St→Prop,K (st2.put o.dst l)→qas sx tt Γ ops i st2 K
theorem Yl.mono {i:Nat} {free:Md} {st2:St} {l:LV} (h:Yl sx tt Γ ops i o free st l) (ha:Agree ops o free st st2):Yl sx tt Γ ops i o free st2 l:=fun st3 ha'=>h st3 (ha.trans ha')
theorem qFk {yes no:Prop} (h:qV ops o st (fun _=>yes) (fun _=>no)):(yes∧ ∀yes' no':Prop,yes'→qV ops o st (fun _=>yes') (fun _=>no'))∨(no∧ ∀yes' no':Prop,no'→qV ops o st (fun _=>yes') (fun _=>no')):=by
 unfold qV at h
 split at h
 ·rename_i hg
  exact .inl ⟨h,fun y n hy=>by unfold qV;simp only [hg];exact hy⟩
 ·rename_i j want hg
  split at h
  ·rename_i hb
   exact .inr ⟨h,fun y n hn=>by unfold qV;simp only [hg,hb];exact hn⟩
  ·rename_i t hb
   split at h
   ·rename_i b hs
    by_cases e:b=want
    ·refine .inl ⟨h.1 e,fun y n hy=> ?_⟩
     unfold qV;simp only [hg,hb,hs]
     exact ⟨fun _=>hy,fun e'=>by subst e;cases b<;>simp at e'⟩
    ·have e':b= !want:=by cases b<;>cases want<;>simp_all
     refine .inr ⟨h.2 e',fun y n hn=> ?_⟩
     unfold qV;simp only [hg,hb,hs]
     exact ⟨fun e''=>absurd e'' e,fun _=>hn⟩
   ·rename_i ls hs
    exact .inr ⟨h,fun y n hn=>by unfold qV;simp only [hg,hb,hs];exact hn⟩
   ·rename_i hs
    exact .inr ⟨h,fun y n hn=>by unfold qV;simp only [hg,hb,hs];exact hn⟩
   ·exact h.elim
theorem qmT {i:Nat} {free:Md} (hsm:sx.ids.contains i=false) (hi:ops[i]?=some o) (hq:qaY o=true) (hf:rdM free o st) {K:St→Prop} (h:qas sx tt Γ ops i st K): ∃l,K (st.put o.dst l)∧Yl sx tt Γ ops i o free st l:=by
 unfold qas at h
 simp only [hi]at h
 rcases qFk h with ⟨h1,h2⟩ | ⟨h1,h2⟩
 ·unfold qbo qbx at h1
  simp only [hsm,cond_false]at h1
  split at h1
  ·rename_i p s hs
   obtain ⟨hp,hk⟩:=h1
   rw [qqm hq]at hs
   obtain ⟨l,rfl,hc⟩:=qrt hq hs
   refine ⟨l,hk,fun st2 ha K' hK'=> ?_⟩
   unfold qas
   simp only [hi]
   rw [qjX ha]
   refine h2 _ _ ?_
   unfold qbo qbx
   simp only [hsm,cond_false]
   rw [qqm hq,hc st2 ha.ev fun id hid=> ?_]
   ·exact ⟨hp,hK'⟩
   ·have e:=ha.heap
    cases free with
    | any=>simp only [rdM]at hf;rw [hf]at hid;simp at hid
    | eq=>have e:st2.heap=st.heap:=e;rw [e]
    | grow=>
      obtain ⟨l2,e⟩:=e
      rw [e,List.getElem?_append_left (hf id hid)]
    | box=>
      obtain ⟨cs,hcs⟩:=hf id hid
      rw [hcs];exact e id cs hcs
  ·exact h1.elim
 ·refine ⟨.tup [],h1,fun st2 ha K' hK'=> ?_⟩
  unfold qas
  simp only [hi]
  rw [qjX ha]
  exact h2 _ _ hK'
def qiQ (o:Oper) (st:St):Prop:=match o.op with
 | .slice _ x _ _ none=>match st.ev x with
   | .one (.own _)=>False
   | _=>True
 | _=>False
theorem qOp {st:St} (hp:qiQ o st) {p:Prop} {s:St} (hs:qU tt Γ o st=some (p,s)): ∃l,s=st.put o.dst l∧ ∀st2:St,(∀x∈o.op.operands,st2.ev x=st.ev x)→qU tt Γ o st2=some (p,st2.put o.dst l):=by
 obtain ⟨dst,op,type,pos,after,guard⟩:=o
 unfold qiQ at hp
 split at hp
 ·rename_i t x lo hi ho
  have ho:op= .slice t x lo hi none:=ho
  subst ho
  have e: ∀(l:Option LV) (h:Option LV) (st2:St),qcE tt t (st.ev x) l h dst st2=qbi tt t (st.ev x) l h dst st2:=fun l h st2=>by
   unfold qcE
   split
   ·rename_i id hx;rw [hx]at hp;exact hp.elim
   ·rfl
  simp only [qU]at hs ⊢
  rw [e]at hs
  obtain ⟨l,hl,hk⟩:=qED hs
  refine ⟨l,hl,fun st2 h2=> ?_⟩
  have m1:st2.ev x=st.ev x:=h2 x (by cases lo<;>cases hi<;>simp [Op.operands])
  have m2:lo.map st2.ev=lo.map st.ev:=by
   cases lo with
   | none=>rfl
   | some y=>simp only [Option.map_some];rw [h2 y (by cases hi<;>simp [Op.operands])]
  have m3:hi.map st2.ev=hi.map st.ev:=by
   cases hi with
   | none=>rfl
   | some y=>simp only [Option.map_some];rw [h2 y (by cases lo<;>simp [Op.operands])]
  rw [m1,m2,m3,e]
  exact hk st2
 ·exact hp.elim
theorem qNu {i:Nat} (hsm:sx.ids.contains i=false) (hi:ops[i]?=some o) (hp:qiQ o st) {K:St→Prop} (h:qas sx tt Γ ops i st K): ∃l,K (st.put o.dst l)∧Yl sx tt Γ ops i o .any st l:=by
 unfold qas at h
 simp only [hi]at h
 rcases qFk h with ⟨h1,h2⟩ | ⟨h1,h2⟩
 ·unfold qbo qbx at h1
  simp only [hsm,cond_false]at h1
  split at h1
  ·rename_i p s hs
   obtain ⟨hp',hk⟩:=h1
   obtain ⟨l,rfl,hc⟩:=qOp hp hs
   refine ⟨l,hk,fun st2 ha K' hK'=> ?_⟩
   unfold qas
   simp only [hi]
   rw [qjX ha]
   refine h2 _ _ ?_
   unfold qbo qbx
   simp only [hsm,cond_false]
   rw [hc st2 ha.ev]
   exact ⟨hp',hK'⟩
  ·exact h1.elim
 ·refine ⟨.tup [],h1,fun st2 ha K' hK'=> ?_⟩
  unfold qas
  simp only [hi]
  rw [qjX ha]
  exact h2 _ _ hK'
theorem qDb {x:Operand} {t:Tmp} (hx:x∈o.op.operands) (e:x= .tmp t):t∈o.looksAt ops:=by
 subst e
 exact List.mem_append_left _ (List.mem_filterMap.2 ⟨.tmp t,by simpa using hx,rfl⟩)
theorem qBW {j:Nat} {want:Bool} {t:Tmp} (hg:o.guard=some (j,want)) (hb:(ops[j]?).bind (·.dst)=some t):t∈o.looksAt ops:=by
 simp [Oper.looksAt,hg,hb]
theorem qPz {j:Nat} {oi oj:Oper} {l:LV} {free:Md} (hj:ops[j]?=some oj) (hsj:sx.ids.contains j=false) (hap:oi.apart ops oj=true) (hqj:mdB free oj=true) {K:St→Prop} (h:qas sx tt Γ ops j (st.put oi.dst l) K):
 qas sx tt Γ ops j st fun st'=>K (st'.put oi.dst l)∧Agree ops oi free st st':=by
 obtain ⟨h1,h2,h3⟩:=Oper.apart_spec hap
 have ag:Agree ops oj .eq st (st.put oi.dst l):=⟨fun x hx=>qCS fun t ht e=>h1 t ht (qDb hx e),fun g want t hg hb=>qCr fun e=>h1 t e (qBW hg hb),St.put_heap _ _ _⟩
 have agi: ∀(l':LV) (h':List Blk),HpM free st.heap h'→Agree ops oi free st (st.res oj.dst l' h'):=fun l' h' hh=>⟨fun x hx=>qHw fun t ht e=>h3 t ht (qDb hx e),fun g want t hg hb=>by
  have:(st.res oj.dst l' h').env=(st.put oj.dst l').env:=rfl
  rw [this]
  exact qCr fun e=>h3 t e (qBW hg hb),hh⟩
 unfold qas at h ⊢
 simp only [hj]at h ⊢
 rw [qjX ag]at h
 refine qEm (fun _ h=> ?_) (fun _ h=> ?_) h
 ·unfold qbo qbx at h ⊢
  simp only [hsj,cond_false]at h ⊢
  split at h
  ·rename_i p s hs
   obtain ⟨l',h',rfl,hc⟩:=qJK hs
   have hs':=hc st (fun x hx=>(ag.ev x hx).symm) (St.put_heap _ _ _).symm
   rw [hs']
   refine ⟨h.1,?_,agi l' h' (qPn hqj hs')⟩
   rw [←qDi h2];exact h.2
  ·exact h.elim
 ·have e:(st.put oi.dst l).put oj.dst (.tup [])=(st.put oj.dst (.tup [])).put oi.dst l:=by
   have:=qDi (st:=st) (l:=l) (l':= .tup []) (h':=st.heap) h2
   rw [St.res_self]at this
   have e2:(st.put oi.dst l).res oj.dst (.tup []) st.heap=(st.put oi.dst l).put oj.dst (.tup []):=by
        have:=St.res_self (st.put oi.dst l) oj.dst (.tup [])
        rw [St.put_heap]at this
        exact this
   rw [←e2];exact this
  rw [e]at h
  refine ⟨h,?_⟩
  have:=agi (.tup []) st.heap (HpM.refl _ _)
  rwa [St.res_self]at this
def OkS (ops:Array Oper) (i:Nat) (S:List Nat):Prop:= ∀j∈S,j≠i→ ∃oj e,ops[j]?=some oj∧e∈oj.after∧Region.binds .any e=true∧e.on∈S
theorem qjA {i:Nat} {oi:Oper} {l:LV} {free:Md} {S:List Nat} (hi:ops[i]?=some oi) (hS:OkS ops i S) (hiS:i∈S) {k:St→Prop}:
 ∀(fuel:Nat) (listed:Array Bool) (st:St),
  (∀j oj,ops[j]?=some oj→j≠i→listed.getD j true=false→(∀e∈oj.after,Region.binds .any e=true→e.on≠i)→oi.apart ops oj=true)→
  (∀s∈S,listed.getD s true=false)→
  (∀j oj,ops[j]?=some oj→listed.getD j true=false→j∉S→mdB free oj=true∧sx.ids.contains j=false)→
  i∈Region.ready .any ops listed→Yl sx tt Γ ops i oi free st l→
  qf4 sx tt Γ ops fuel (listed.setIfInBounds i true) (st.put oi.dst l) k→qf4 sx tt Γ ops (fuel+1) listed st k:=by
 have qt1: ∀s,Agree ops oi free s s:=fun s=>⟨fun _ _=>rfl,fun _ _ _ _ _=>rfl,HpM.refl _ _⟩
 intro fuel
 induction fuel with
 | zero=>
   intro listed st _ _ _ hr hy H
   refine ⟨fun h=>(by rw [h]at hr;cases hr),fun j hj=> ?_⟩
   by_cases hji:j=i
   ·subst hji;exact hy st (qt1 st) _ H
   ·have:=ready_mono hj hji
    rw [H.1]at this
    cases this
 | succ fuel ih=>
   intro listed st hfree hSu hqu hr hy H
   refine ⟨fun h=>(by rw [h]at hr;cases hr),fun j hj=> ?_⟩
   by_cases hji:j=i
   ·subst hji;exact hy st (qt1 st) _ H
   ·have h1:=H.2 j (ready_mono hj hji)
    obtain ⟨hjun,oj,hoj,hall⟩:=mem_ready.1 hj
    have unl: ∀x:Nat,listed.getD x true=false→listed.getD x false≠true:=fun x h0 h1=>by
        rcases Nat.lt_or_ge x listed.size with h' | h'
        ·simp [h']at h0 h1;rw [h0]at h1;cases h1
        ·simp [Array.getElem?_eq_none h']at h1
    have hnot: ∀e∈oj.after,Region.binds .any e=true→e.on≠i:=fun e he hb heq=>by
        have h1:=hall e he hb
        rw [heq]at h1
        exact unl i (hSu i hiS) h1
    have hjS:j∉S:=fun hm=>by
        obtain ⟨oj',e,ho',he,hb,hon⟩:=hS j hm hji
        rw [hoj]at ho';cases ho'
        exact unl _ (hSu _ hon) (hall e he hb)
    have h2:=qPz (free:=free) hoj (hqu j oj hoj hjun hjS).2 (hfree j oj hoj hji hjun hnot) (hqu j oj hoj hjun hjS).1 h1
    have keep: ∀s,(listed.setIfInBounds j true).getD s true=false→listed.getD s true=false:=fun s hs=>by
        by_cases e:j=s
        ·subst e;exact hjun
        ·rw [getD_set_ne true e]at hs;exact hs
    refine qCD (fun st' h3=>ih (listed.setIfInBounds j true) st' (fun k' ok' hk' hki' hun hno=>hfree k' ok' hk' hki' (keep k' hun) hno) (fun s hs=> ?_) (fun k' ok' hk' hun hns=>hqu k' ok' hk' (keep k' hun) hns) (ready_mono hr (Ne.symm hji)) (hy.mono h3.2) ?_) h2
    ·rw [getD_set_ne true (fun e:j=s=>hjS (by subst e;exact hs))];exact hSu s hs
    ·rw [Array.setIfInBounds_comm _ _ hji]
     exact h3.1
end
end Go.T
/- T: the order of a region's branches, planned. -/
namespace Go.T
open Go
def qeY (ops:Array Oper) (i:Nat):Bool:=match ops[i]? with
 | some o=>qaY o
 | none=>false
def qwS (ops:Array Oper) (i:Nat):Bool:=match ops[i]? with
 | some o=>qlL o
 | none=>false
def qwY (ops:Array Oper) (i:Nat):Bool:=match ops[i]? with
 | some o=>qm3 o
 | none=>false
def sliceAt (ops:Array Oper) (i:Nat):Bool:=(ops[i]?).isSome
def qfA (ops:Array Oper) (S:List Nat) (j:Nat):Bool:=match ops[j]? with
 | some o=>o.after.any fun e=>Region.binds .any e&&S.contains e.on
 | none=>false
def qaA (ops:Array Oper) (i:Nat):List Nat:=(List.range ops.size).foldl (fun S j=>if j !=i&&qfA ops S j then j::S else S) [i]
def qnl (ids:List Nat) (ops:Array Oper) (listed:Array Bool):Bool:=ids.isEmpty||(List.range ops.size).all fun j=>listed.getD j true|| !ids.contains j
def qY (ids:List Nat) (ops:Array Oper):Tree→Nat→Array Bool→List Nat→Bool
 | .done,_,listed,_=>(Region.ready .any ops listed).isEmpty
 | .first i t,fuel+1,listed,_=>(Region.ready .any ops listed).contains i&&Region.free .any ops listed i&&qeY ops i&&qnl ids ops listed&&qY ids ops t fuel (listed.setIfInBounds i true) []
 | .pure i t,fuel+1,listed,_=>(Region.ready .any ops listed).contains i&&Region.free .any ops listed i&&sliceAt ops i&&qnl ids ops listed&&qY ids ops t fuel (listed.setIfInBounds i true) []
 | .quiet i t,fuel+1,listed,_=>(Region.ready .any ops listed).contains i&&Region.free .any ops listed i&&qeY ops i&& !ids.contains i&&
    ((qaA ops i).contains i&&(qaA ops i).all (fun j=>j==i||qfA ops (qaA ops i) j)&&(qaA ops i).all (fun j=>listed.getD j true==false)&&
      (List.range ops.size).all fun j=>listed.getD j true||(qaA ops i).contains j||(qeY ops j&& !ids.contains j))&&
    qY ids ops t fuel (listed.setIfInBounds i true) []
 | .grow i t,fuel+1,listed,_=>(Region.ready .any ops listed).contains i&&Region.free .any ops listed i&&qeY ops i&& !ids.contains i&&
    ((qaA ops i).contains i&&(qaA ops i).all (fun j=>j==i||qfA ops (qaA ops i) j)&&(qaA ops i).all (fun j=>listed.getD j true==false)&&
      (List.range ops.size).all fun j=>listed.getD j true||(qaA ops i).contains j||(qwS ops j&& !ids.contains j))&&
    qY ids ops t fuel (listed.setIfInBounds i true) []
 | .keep i t,fuel+1,listed,_=>(Region.ready .any ops listed).contains i&&Region.free .any ops listed i&&qeY ops i&& !ids.contains i&&
    ((qaA ops i).contains i&&(qaA ops i).all (fun j=>j==i||qfA ops (qaA ops i) j)&&(qaA ops i).all (fun j=>listed.getD j true==false)&&
      (List.range ops.size).all fun j=>listed.getD j true||(qaA ops i).contains j||(qwY ops j&& !ids.contains j))&&
    qY ids ops t fuel (listed.setIfInBounds i true) []
 | .alt i t r,fuel+1,listed,acc=>qY ids ops t fuel (listed.setIfInBounds i true) []&&qY ids ops r (fuel+1) listed (i::acc)
 | .stop,_+1,listed,acc=> !acc.isEmpty&&(!(Region.ready .any ops listed).isEmpty)&&(Region.ready .any ops listed).all fun i=>acc.contains i
 | _,_,_,_=>false
def qjt (ops:Array Oper) (i:Nat) (st:St):Prop:=match ops[i]? with
 | some o=>qbU o st=none
 | none=>False
def qjo (ops:Array Oper) (i:Nat) (st:St):Prop:=match ops[i]? with
 | some o=>qiQ o st
 | none=>False
def qkh (ops:Array Oper) (i:Nat) (st:St):Prop:=match ops[i]? with
 | some o=>match qbU o st with
   | some id=>id<st.heap.length
   | none=>True
 | none=>False
def qpl:Option Blk→Prop
 | some (.box _)=>True
 | _=>False
def qkn (ops:Array Oper) (i:Nat) (st:St):Prop:=match ops[i]? with
 | some o=>match qbU o st with
   | some id=>qpl st.heap[id]?
   | none=>True
 | none=>False
def qaV (sx:SX) (tt:TT) (Γ:Gam) (ops:Array Oper):Tree→St→(St→Prop)→Prop
 | .done,st,k=>k st
 | .first i t,st,k=>qjt ops i st∧qba sx tt Γ ops i st fun st=>qaV sx tt Γ ops t st k
 | .pure i t,st,k=>qjo ops i st∧qba sx tt Γ ops i st fun st=>qaV sx tt Γ ops t st k
 | .quiet i t,st,k=>qba sx tt Γ ops i st fun st=>qaV sx tt Γ ops t st k
 | .grow i t,st,k=>qkh ops i st∧qba sx tt Γ ops i st fun st=>qaV sx tt Γ ops t st k
 | .keep i t,st,k=>qkn ops i st∧qba sx tt Γ ops i st fun st=>qaV sx tt Γ ops t st k
 | .alt i t r,st,k=>(qba sx tt Γ ops i st fun st=>qaV sx tt Γ ops t st k)∧qaV sx tt Γ ops r st k
 | .stop,_,_=>True
 | .sem _ _,_,_=>False
section
variable {sx : SX} {tt : TT} {Γ : Gam} {ops : Array Oper}
theorem qkt {i:Nat} (h:qeY ops i=true): ∃o,ops[i]?=some o∧qaY o=true:=by
 unfold qeY at h
 split at h
 ·rename_i o ho;exact ⟨o,ho,h⟩
 ·simp at h
theorem qOi {i:Nat} (h:qwS ops i=true): ∃o,ops[i]?=some o∧qlL o=true:=by
 unfold qwS at h
 split at h
 ·rename_i o ho;exact ⟨o,ho,h⟩
 ·simp at h
theorem qHu {i:Nat} (h:qwY ops i=true): ∃o,ops[i]?=some o∧qm3 o=true:=by
 unfold qwY at h
 split at h
 ·rename_i o ho;exact ⟨o,ho,h⟩
 ·simp at h
theorem qrw {S:List Nat} {j:Nat} (h:qfA ops S j=true): ∃oj e,ops[j]?=some oj∧e∈oj.after∧Region.binds .any e=true∧e.on∈S:=by
 unfold qfA at h
 split at h
 ·rename_i o ho
  obtain ⟨e,he,hb⟩:=Array.any_eq_true'.1 h
  simp only [Bool.and_eq_true]at hb
  exact ⟨o,e,ho,he,hb.1,by simpa using hb.2⟩
 ·simp at h
theorem qlN {ids:List Nat} {listed:Array Bool} (h:qnl ids ops listed=true) {j:Nat} (hj:j<ops.size) (hun:listed.getD j true=false):ids.contains j=false:=by
 unfold qnl at h
 rcases Bool.or_eq_true .. |>.mp h with h | h
 ·have:ids=[]:=by simpa using h
  subst this;rfl
 ·have:=List.all_eq_true.1 h j (by simpa using hj)
  rw [hun]at this
  simpa using this
theorem qcW {k:St→Prop}: ∀(t:Tree) (fuel:Nat) (listed:Array Bool) (acc:List Nat) (st:St),qY sx.ids ops t fuel listed acc=true→qaV sx tt Γ ops t st k→
 (∀f,fuel=f+1→ ∀i∈acc,qas sx tt Γ ops i st fun s=>qf4 sx tt Γ ops f (listed.setIfInBounds i true) s k)→qf4 sx tt Γ ops fuel listed st k
 | .done,fuel,listed,acc,st,hp,h,_=>by
   have hr:Region.ready .any ops listed=[]:=by
    cases fuel<;>simpa [qY] using hp
   cases fuel with
   | zero=>exact ⟨hr,h⟩
   | succ f=>exact ⟨fun _=>h,by rw [hr];simp⟩
 | .first i t,0,listed,acc,st,hp,h,_=>by simp [qY]at hp
 | .first i t,fuel+1,listed,acc,st,hp,h,_=>by
   simp only [qY,Bool.and_eq_true]at hp
   obtain ⟨⟨⟨⟨hr,hfr⟩,hq⟩,hno⟩,hp⟩:=hp
   obtain ⟨o,ho,hq⟩:=qkt hq
   obtain ⟨hrd,hs⟩:=h
   unfold qjt at hrd
   simp only [ho]at hrd
   have hri:i∈Region.ready .any ops listed:=by simpa using hr
   obtain ⟨l,hk,hy⟩:=qmT (free:= .any) (qlN hno (Array.getElem?_eq_some_iff.1 ho).1 (mem_ready.1 hri).1) ho hq hrd (qf9 hs)
   refine qjA (S:=[i]) ho (fun j hj hne=>by simp at hj;exact absurd hj hne) (by simp) fuel listed st (Region.free_spec ho hfr) (fun s hs=> ?_) (fun j oj hoj hun _=>⟨rfl,qlN hno (Array.getElem?_eq_some_iff.1 hoj).1 hun⟩) hri hy ?_
   ·simp at hs;subst hs;exact (mem_ready.1 hri).1
   ·exact qcW t fuel _ [] _ hp hk (fun _ _ _ h=>by simp at h)
 | .pure i t,0,listed,acc,st,hp,h,_=>by simp [qY]at hp
 | .pure i t,fuel+1,listed,acc,st,hp,h,_=>by
   simp only [qY,Bool.and_eq_true]at hp
   obtain ⟨⟨⟨⟨hr,hfr⟩,_⟩,hno⟩,hp⟩:=hp
   obtain ⟨hrd,hs⟩:=h
   unfold qjo at hrd
   split at hrd
   ·rename_i o ho
    have hri:i∈Region.ready .any ops listed:=by simpa using hr
    obtain ⟨l,hk,hy⟩:=qNu (qlN hno (Array.getElem?_eq_some_iff.1 ho).1 (mem_ready.1 hri).1) ho hrd (qf9 hs)
    refine qjA (S:=[i]) ho (fun j hj hne=>by simp at hj;exact absurd hj hne) (by simp) fuel listed st (Region.free_spec ho hfr) (fun s hs=> ?_) (fun j oj hoj hun _=>⟨rfl,qlN hno (Array.getElem?_eq_some_iff.1 hoj).1 hun⟩) hri hy ?_
    ·simp at hs;subst hs;exact (mem_ready.1 hri).1
    ·exact qcW t fuel _ [] _ hp hk (fun _ _ _ h=>by simp at h)
   ·exact hrd.elim
 | .quiet i t,0,listed,acc,st,hp,h,_=>by simp [qY]at hp
 | .quiet i t,fuel+1,listed,acc,st,hp,h,_=>by
   simp only [qY,Bool.and_eq_true]at hp
   obtain ⟨⟨⟨⟨⟨hr,hfr⟩,hq⟩,hsi⟩,⟨⟨hc,hS⟩,hU⟩,hQ⟩,hp⟩:=hp
   obtain ⟨o,ho,hq⟩:=qkt hq
   obtain ⟨l,hk,hy⟩:=qmT (free:= .eq) (by simpa using hsi) ho hq trivial (qf9 h)
   have hri:i∈Region.ready .any ops listed:=by simpa using hr
   refine qjA (S:=qaA ops i) ho (fun j hj hne=> ?_) (by simpa using hc) fuel listed st (Region.free_spec ho hfr) (fun s hs=> ?_) (fun j oj hoj hun hns=> ?_) hri hy ?_
   ·have:=List.all_eq_true.1 hS j hj
    simp only [Bool.or_eq_true,beq_iff_eq]at this
    rcases this with e | e
    ·exact absurd e hne
    ·exact qrw e
   ·have:=List.all_eq_true.1 hU s hs
    simpa using this
   ·have hjl:j<ops.size:=(Array.getElem?_eq_some_iff.1 hoj).1
    have:=List.all_eq_true.1 hQ j (by simpa using hjl)
    simp only [Bool.or_eq_true,Bool.and_eq_true]at this
    rcases this with (e | e) | e
    ·rw [hun]at e;simp at e
    ·exact absurd (by simpa using e) hns
    ·obtain ⟨o',ho',hq'⟩:=qkt e.1
     rw [hoj]at ho';cases ho';exact ⟨hq',by simpa using e.2⟩
   ·exact qcW t fuel _ [] _ hp hk (fun _ _ _ h=>by simp at h)
 | .grow i t,0,listed,acc,st,hp,h,_=>by simp [qY]at hp
 | .grow i t,fuel+1,listed,acc,st,hp,h,_=>by
   simp only [qY,Bool.and_eq_true]at hp
   obtain ⟨⟨⟨⟨⟨hr,hfr⟩,hq⟩,hsi⟩,⟨⟨hc,hS⟩,hU⟩,hQ⟩,hp⟩:=hp
   obtain ⟨o,ho,hq⟩:=qkt hq
   obtain ⟨hrd,h⟩:=h
   have hrd':rdM .grow o st:=fun id hid=>by
    unfold qkh at hrd
    simp only [ho,hid]at hrd
    exact hrd
   obtain ⟨l,hk,hy⟩:=qmT (free:= .grow) (by simpa using hsi) ho hq hrd' (qf9 h)
   have hri:i∈Region.ready .any ops listed:=by simpa using hr
   refine qjA (S:=qaA ops i) ho (fun j hj hne=> ?_) (by simpa using hc) fuel listed st (Region.free_spec ho hfr) (fun s hs=> ?_) (fun j oj hoj hun hns=> ?_) hri hy ?_
   ·have:=List.all_eq_true.1 hS j hj
    simp only [Bool.or_eq_true,beq_iff_eq]at this
    rcases this with e | e
    ·exact absurd e hne
    ·exact qrw e
   ·have:=List.all_eq_true.1 hU s hs
    simpa using this
   ·have hjl:j<ops.size:=(Array.getElem?_eq_some_iff.1 hoj).1
    have:=List.all_eq_true.1 hQ j (by simpa using hjl)
    simp only [Bool.or_eq_true,Bool.and_eq_true]at this
    rcases this with (e | e) | e
    ·rw [hun]at e;simp at e
    ·exact absurd (by simpa using e) hns
    ·obtain ⟨o',ho',hq'⟩:=qOi e.1
     rw [hoj]at ho';cases ho';exact ⟨hq',by simpa using e.2⟩
   ·exact qcW t fuel _ [] _ hp hk (fun _ _ _ h=>by simp at h)
 | .keep i t,0,listed,acc,st,hp,h,_=>by simp [qY]at hp
 | .keep i t,fuel+1,listed,acc,st,hp,h,_=>by
   simp only [qY,Bool.and_eq_true]at hp
   obtain ⟨⟨⟨⟨⟨hr,hfr⟩,hq⟩,hsi⟩,⟨⟨hc,hS⟩,hU⟩,hQ⟩,hp⟩:=hp
   obtain ⟨o,ho,hq⟩:=qkt hq
   obtain ⟨hrd,h⟩:=h
   have hrd':rdM .box o st:=fun id hid=>by
    unfold qkn at hrd
    simp only [ho,hid]at hrd
    unfold qpl at hrd
    split at hrd
    ·rename_i cs hcs;exact ⟨cs,hcs⟩
    ·exact hrd.elim
   obtain ⟨l,hk,hy⟩:=qmT (free:= .box) (by simpa using hsi) ho hq hrd' (qf9 h)
   have hri:i∈Region.ready .any ops listed:=by simpa using hr
   refine qjA (S:=qaA ops i) ho (fun j hj hne=> ?_) (by simpa using hc) fuel listed st (Region.free_spec ho hfr) (fun s hs=> ?_) (fun j oj hoj hun hns=> ?_) hri hy ?_
   ·have:=List.all_eq_true.1 hS j hj
    simp only [Bool.or_eq_true,beq_iff_eq]at this
    rcases this with e | e
    ·exact absurd e hne
    ·exact qrw e
   ·have:=List.all_eq_true.1 hU s hs
    simpa using this
   ·have hjl:j<ops.size:=(Array.getElem?_eq_some_iff.1 hoj).1
    have:=List.all_eq_true.1 hQ j (by simpa using hjl)
    simp only [Bool.or_eq_true,Bool.and_eq_true]at this
    rcases this with (e | e) | e
    ·rw [hun]at e;simp at e
    ·exact absurd (by simpa using e) hns
    ·obtain ⟨o',ho',hq'⟩:=qHu e.1
     rw [hoj]at ho';cases ho';exact ⟨hq',by simpa using e.2⟩
   ·exact qcW t fuel _ [] _ hp hk (fun _ _ _ h=>by simp at h)
 | .alt i t r,0,listed,acc,st,hp,h,_=>by simp [qY]at hp
 | .alt i t r,fuel+1,listed,acc,st,hp,h,ha=>by
   simp only [qY,Bool.and_eq_true]at hp
   refine qcW r (fuel+1) listed (i::acc) st hp.2 h.2 fun f hf j hj=> ?_
   rcases List.mem_cons.1 hj with rfl | hj
   ·have:f=fuel:=by omega
    subst this
    exact qCD (fun s hs=>qcW t f _ [] s hp.1 hs (fun _ _ _ h=>by simp at h)) (qf9 h.1)
   ·exact ha f hf j hj
 | .stop,0,listed,acc,st,hp,h,_=>by simp [qY]at hp
 | .stop,fuel+1,listed,acc,st,hp,h,ha=>by
   simp only [qY,Bool.and_eq_true]at hp
   obtain ⟨⟨_,hne⟩,hall⟩:=hp
   refine ⟨fun h0=>(by rw [h0]at hne;simp at hne),fun i hi=> ?_⟩
   have:=List.all_eq_true.1 hall i hi
   exact ha fuel rfl i (by simpa using this)
 | .sem _ _,_,_,_,_,_,h,_=>h.elim
end
end Go.T
/- T: code. -/
namespace Go.T
open Go
inductive X
 | normal
 | ret
 | exit (id:Nat)
def Le (s s':St):Prop:= ∀(w0:World) (mine:Mine) (a:Act) (w:World),(∀id,mine.pin id=none)→R w0 mine s a w→R w0 mine s' a w
def LeP (s s':St):Prop:= ∀(w0:World) (mine:Mine) (a:Act) (w:World),R w0 mine s a w→R w0 mine s' a w
theorem Le.refl (s:St):Le s s:=fun _ _ _ _ _ h=>h
theorem Le.trans {s1 s2 s3:St} (h:Le s1 s2) (h':Le s2 s3):Le s1 s3:=fun w0 mine a w hp hr=>h' w0 mine a w hp (h w0 mine a w hp hr)
def qdo (k:St→Prop) (Q:X→St→Prop):X→St→Prop
 | .normal,st=>k st
 | .ret,st=>Q .ret st
 | .exit id,st=>Q (.exit id) st
def qfI (id:Nat) (Q:X→St→Prop):X→St→Prop
 | .normal,st=>Q .normal st
 | .ret,st=>Q .ret st
 | .exit id',st=>if id'=id then Q .normal st else Q (.exit id') st
def St.litO (st:St) (c:Operand) (b:Bool):St:=match c with
 | .tmp t=>st.lit t b
 | _=>st
def qwU (c:Operand) (st:St) (x y:St→Prop):Prop:=match st.ev c with
 | .one (.bool b)=>(b=true→x (st.litO c true))∧(b=false→y (st.litO c false))
 | _=>False
def qCq (L:St→St→Prop) (round:(X→St→Prop)→St→Prop) (Q:X→St→Prop) (st:St):Prop:=
 ∃(α:Type) (mk:α→St) (I:α→Prop) (μ:α→Nat),(∃x,L st (mk x)∧I x)∧ ∀x,I x→round (qdo (fun s'=> ∃x',L s' (mk x')∧I x'∧μ x'<μ x) Q) (mk x)
def wpT (P:Program) (tt:TT) (Γ:Gam) (tr:Nat→Tree) (L:St→St→Prop):Code→(X→St→Prop)→St→Prop
 | .skip,Q,st=>Q .normal st
 | .region _ ops false,Q,st=>qcf P tt Γ ops ops.toList st (Q .normal)
 | .region id ops true,Q,st=>qaV sx0 tt Γ ops (tr id) st (Q .normal)
 | .seq a b,Q,st=>wpT P tt Γ tr L a (qdo (wpT P tt Γ tr L b Q) Q) st
 | .cond c x y,Q,st=>qwU c st (wpT P tt Γ tr L x Q) (wpT P tt Γ tr L y Q)
 | .block id c,Q,st=>wpT P tt Γ tr L c (qfI id Q) st
 | .loop c,Q,st=>qCq L (wpT P tt Γ tr L c) Q st
 | .exit id,Q,st=>Q (.exit id) st
 | .ret,Q,st=>Q .ret st
 | _,_,_=>False
def qBI (ops:Array Oper):Tree→Bool
 | .sem ids t=>qY ids ops t ops.size (Array.replicate ops.size false) []
 | t=>qY [] ops t ops.size (Array.replicate ops.size false) []
def qg (tr:Nat→Tree):Code→Bool
 | .region id ops true=>qBI ops (tr id)
 | .seq a b=>qg tr a&&qg tr b
 | .cond _ a b=>qg tr a&&qg tr b
 | .block _ a=>qg tr a
 | .loop a=>qg tr a
 | _=>true
def qcb (w0:World) (mine:Mine) (Q:X→St→Prop):Exit→Act→World→Prop
 | .normal,a,w=> ∃st,R w0 mine st a w∧Q .normal st
 | .ret,a,w=> ∃st,R w0 mine st a w∧Q .ret st
 | .exit id,a,w=> ∃st,R w0 mine st a w∧Q (.exit id) st
 | _,_,_=>False
section
variable {P : Program} {tt : TT} {Γ : Gam} {tr : Nat → Tree} {L : St → St → Prop} {w0 : World} {mine : Mine}
theorem R.litO {st:St} {a:Act} {w:World} {c:Operand} {b:Bool} (h:st.ev c= .one (.bool b)):st.litO c b=st:=by
 cases c with
 | tmp t=>
   refine St.lit_self ?_
   simp only [St.ev,List.getD_eq_getElem?_getD]at h
   cases hx:st.env[t]? with
   | none=>rw [hx]at h;simp at h
   | some l=>rw [hx]at h;simp at h;rw [h]
 | _=>rfl
theorem qMf {J:Nat→Prop}: ∀{n:Nat},J n→ ∃m,J m∧ ∀k,J k→m≤k:=by
 intro n
 induction n using Nat.strongRecOn with
 | _ n ih=>
   intro hn
   by_cases h: ∃k,k<n∧J k
   ·obtain ⟨k,hk,hJ⟩:=h
    exact ih k hk hJ
   ·exact ⟨n,hn,fun k hk=>by
       rcases Nat.lt_or_ge k n with h' | h'
       ·exact absurd ⟨k,h',hk⟩ h
       ·exact h'⟩
end
end Go.T
/- T: functions. -/
namespace Go.T
open Go
def qic (tt:TT) (st:St):ResultVar→Option LV
 | .tmp t=>some (st.env.getD t (.one .undef))
 | .cell a t=>match tt.get t with
   | none=>none
   | some ti=>match st.env.getD a (.one .undef)with
     | .one (.ptr id _ f)=>match st.heap[id]? with
       | some (.box cs)=>if f+ti.ty.sz≤cs.length then some (qc5 ti.agg ((cs.drop f).take ti.ty.sz))else none
       | _=>none
     | _=>none
def qbu (tt:TT) (st:St):List ResultVar→Option (List LV)
 | []=>some []
 | r::rs=>match qic tt st r with
   | none=>none
   | some l=>match qbu tt st rs with
     | none=>none
     | some ls=>some (l::ls)
def qeX (tt:TT) (dp:Bool) (rs:List TI) (rvs:List ResultVar) (y:qa rs) (st:St):Prop:=match qbu tt st rvs with
 | none=>False
 | some ls=>qat st.heap rs ls=some y∧(dp=true→qW st.heap (ls.flatMap LV.cells)=true∧qaO (qf (ls.flatMap LV.cells))=true)
def qsS (tt:TT) (g:G) (rvs:List ResultVar) (x:qa g.ps):X→St→Prop
 | .normal,st=>qeX tt g.dp g.rs rvs (g.fn x) st
 | .ret,st=>qeX tt g.dp g.rs rvs (g.fn x) st
 | .exit _,_=>False
def qix (g:G) (ntmps:Nat) (x:qa g.ps):St:={env:=(qbD 0 g.ps x).map LV1.lv++List.replicate (ntmps - g.ps.length) (.tup []),heap:=[]}
section
variable {P : Program} {tt : TT} {Γ : Gam} {tr : Nat → Tree} {w0 w : World} {mine : Mine} {m : Mp} {h : List Blk} {st : St} {a : Act}
def qes:ResultVar→Array Value→Sem Value
 | .tmp t,tmps=>pure (tmps.getD t undef)
 | .cell a t,tmps=>do loadVar t (←asAddr (tmps.getD a undef))
theorem qN6 (hT:qN P tt) (H:HR w0 mine w m st.heap) (he:F2 (V w m st.heap) st.env a.tmps.toList) {r:ResultVar} {l:LV} (h:qic tt st r=some l): ∃v,(qes r a.tmps).run P w= .ok v w∧V w m st.heap l v:=by
 cases r with
 | tmp t=>
   simp only [qic,Option.some.injEq]at h
   subst h
   exact ⟨a.tmps.getD t undef,rfl,R.ev H he (.tmp t)⟩
 | cell ad t=>
   simp only [qic]at h
   split at h
   ·simp at h
   ·rename_i ti ht
    split at h
    ·rename_i id i f hx
     have hev:V w m st.heap (st.ev (.tmp ad)) (a.eval (.tmp ad)):=R.ev H he (.tmp ad)
     have hx':st.ev (.tmp ad)= .one (.ptr id i f):=hx
     rw [hx']at hev
     split at h
     ·rename_i cs hb
      split at h
      ·rename_i hfit
       cases h
       simp only [V,C,hb]at hev
       obtain ⟨rfl,hax⟩:=hev
       obtain ⟨arr,ty,hblk,hf,h1⟩:=H.br id _ hb
       have hat:=(qEP hblk).sub f ti.ty.sz
       rw [qhu]at hat
       obtain ⟨v,hrun,hv⟩:=qC3 (hT t ti ht) hat (qot hf f ti.ty.sz) (by simp;omega) (hT t ti ht).one
       refine ⟨v,?_,hv⟩
       have hax':a.tmps.getD ad undef= .pointer (some ⟨m.blk id,f,none⟩):=hax
       simp only [qes,hax',asAddr,Sem.run_bind,Sem.run_pure,Result.andThen_ok,hrun]
      ·simp at h
     ·simp at h
    ·simp at h
theorem qE4 (hT:qN P tt) (H:HR w0 mine w m st.heap) (he:F2 (V w m st.heap) st.env a.tmps.toList): ∀{rs:List ResultVar} {ls:List LV},qbu tt st rs=some ls→ ∃vs:List Value,(rs.mapM fun r=>qes r a.tmps).run P w= .ok vs w∧F2 (V w m st.heap) ls vs
 | [],ls,h=>by simp [qbu]at h;subst h;exact ⟨[],rfl,.nil⟩
 | r::rs,ls,h=>by
   simp only [qbu]at h
   split at h
   ·simp at h
   ·rename_i l hl
    split at h
    ·simp at h
    ·rename_i ls' hls
     cases h
     obtain ⟨v,h1,h2⟩:=qN6 hT H he hl
     obtain ⟨vs,h3,h4⟩:=qE4 hT H he hls
     refine ⟨v::vs,?_,.cons h2 h4⟩
     simp only [List.mapM_cons,Sem.run_bind,h1,Result.andThen_ok,h3,Sem.run_pure]
theorem qRi (fn:Func) (tmps:Array Value):results fn tmps=(fn.results.mapM fun r=>qes r tmps)>>=fun vs=>pure (if h:vs.size=1 then vs[0]else .tuple vs):=by
 unfold results
 have:(fun r:ResultVar=>qes r tmps)=fun r:ResultVar=>(match r with
  | .tmp t=>(pure (tmps.getD t undef):Sem Value)
  | .cell a' t=>(do loadVar t (←asAddr (tmps.getD a' undef)):Sem Value)):=by
  funext r
  cases r<;>rfl
 rw [this]
 rfl
theorem qLo (fn:Func) {vs:List Value} (h:(fn.results.toList.mapM fun r=>qes r a.tmps).run P w= .ok vs w):(results fn a.tmps).run P w= .ok (qbG vs) w:=by
 have hm:(fn.results.mapM fun r=>qes r a.tmps).run P w= .ok vs.toArray w:=by
  rw [Array.mapM_eq_mapM_toList]
  simp [h]
 rw [qRi,Sem.run_bind,hm]
 simp only [Result.andThen_ok,Sem.run_pure]
 congr 1
 match vs with
 | []=>rfl
 | [v]=>rfl
 | v::v'::r=>simp [qbG]
theorem qCa (H: ∀id x,h[id]?=some x→BR w m h id x): ∀{tis:List TI} {ls:List LV} {vs:List Value} {x:qa tis},F2 (V w m h) ls vs→qat h tis ls=some x→qW h (ls.flatMap LV.cells)=true→
 VMs w tis x vs (qA m h (qf (ls.flatMap LV.cells)))
 | [],_,_,_,.nil,_,_=>⟨rfl,rfl⟩
 | [],_,_,_,.cons _ _,hi,_=>by simp [qat]at hi
 | ti::r,_,_,_,.nil,hi,_=>by simp [qat]at hi
 | ti::r,_,_,x,.cons (a:=l) (b:=v) hv hvs,hi,hd=>by
   simp only [qat]at hi
   simp only [List.flatMap_cons,qW,List.all_append,Bool.and_eq_true]at hd
   split at hi
   ·rename_i hag
    split at hi
    ·rename_i y hy
     split at hi
     ·rename_i ys hys
      cases hi
      have h2:=qCa H hvs hys hd.2
      rw [List.flatMap_cons,qBH,qdn]
      cases l with
      | tup=>simp [LV.isAgg]at hag
      | one c=>
        simp only [LV.isAgg,Option.some.injEq]at hag
        obtain ⟨v1,v2,pre,hvs',hpre,hM,hr⟩:=qfE H (F2.cons hv .nil) hy hd.1
        cases hr
        rw [List.append_nil]at hvs' hpre
        refine ⟨v,_,[v],_,_,rfl,rfl,?_,?_,h2⟩
        ·rw [hvs',show (LV.one c).cells=pre from hpre];exact hM
        ·rw [←hag];rfl
      | agg cs=>
        simp only [LV.isAgg,Option.some.injEq]at hag
        obtain ⟨us,rfl,hf⟩:=hv
        obtain ⟨v1,v2,pre,hvs',hpre,hM,hr⟩:=qfE H hf hy hd.1
        cases hr
        rw [List.append_nil]at hvs' hpre
        refine ⟨.agg us,_,us.toList,_,_,rfl,rfl,?_,?_,h2⟩
        ·rw [hvs',show (LV.agg cs).cells=pre from hpre];exact hM
        ·rw [←hag];simp [qar]
     ·simp at hi
    ·simp at hi
   ·simp at hi
theorem qJJ {ls:List LV1} {us:List Value} (hf:F2 (V1 w m h) ls us):F2 (V w m h) (ls.map LV1.lv) us:=by
 induction hf with
 | nil=>exact .nil
 | cons h1 _ ih=>exact .cons (qsF h1) ih
theorem qCf {ok:Nat→Prop}: ∀{tis:List TI} {x:qa tis} {us:List Value},VKs w ok tis x us→us.length=tis.length
 | [],_,_,h=>by rw [VKs]at h;rw [h];rfl
 | ti::r,x,_,h=>by obtain ⟨u,rest,cs,rfl,_,_,h2⟩:=h;simp [qCf h2]
theorem qHE (hT : qN P tt) {f : FuncId} {fn : Func} {c : Code} {g : G} (hf : P.funcs[f]? = some fn) (hb : fn.body = some c) (hname : (fn.name == "runtime.NumGoroutine") = false)
 (hrun: ∀x:qa g.ps,g.pre x→ ∀(w0:World) (mine:Mine) (a:Act) (w:World),(∀id,mine.pin id=none)→R w0 mine (qix g fn.ntmps x) a w→c.wp P (qcb w0 mine (qsS tt g fn.results.toList x)) a w):Sound P f g:=by
 refine ⟨⟨fn,hf,by rw [hb];rfl,hname⟩,fun x hx w ext vs hvs hext=> ?_⟩
 refine calls_of_wp hf hb ?_
 let mine:Mine:=⟨fun _=>False,ext,fun _=>none⟩
 let m0:Mp:=⟨fun _=>undef,fun _=>0,fun _=>[],ext⟩
 have H:HR w mine w m0 []:=⟨by simp,by simp,by simp,by simp,Fr.refl _ w,rfl,fun b hb=>hext b (by rcases hb with h | h;exact h;exact h.elim),fun id v h=>by simp [mine]at h⟩
 have henv:F2 (V w m0 []) (qix g fn.ntmps x).env (vs++Array.replicate (fn.ntmps - vs.size) undef).toList:=by
  have hl:vs.size=g.ps.length:=by have:=qCf hvs;simpa using this
  rw [Array.toList_append,Array.toList_replicate,hl]
  refine (qJJ (qop (qlr (fun _ _ _=>rfl) (fun b hb _=>(⟨hb,by simp⟩:qr m0 [] 0 b)) hvs))).append ?_
  generalize fn.ntmps - g.ps.length=k
  induction k with
  | zero=>exact .nil
  | succ k ih=>rw [List.replicate_succ,List.replicate_succ];exact .cons ⟨#[],rfl,.nil⟩ ih
 have hR:R w mine (qix g fn.ntmps x) {tmps:=vs++Array.replicate (fn.ntmps - vs.size) undef,defers:=[]} w:=⟨rfl,m0,H,henv⟩
 have fin: ∀(st:St) (a:Act) (w':World),R w mine st a w'→qeX tt g.dp g.rs fn.results.toList (g.fn x) st→a.defers=[]∧ ∃v,(results fn a.tmps).run P w'= .ok v w'∧(∃us,(Ending.returned v)= .returned (qbG us)∧Fr (fun _=>False) w w'∧(match g.dp with
  | true=> ∃B,VMs w' g.rs (g.fn x) us B∧B.Nodup∧ ∀b∈B,w.heap.size≤b
  | false=>VKs w' ext g.rs (g.fn x) us)):=by
  intro st a w' hr h
  obtain ⟨hd,m,H',he⟩:=hr
  refine ⟨hd,?_⟩
  unfold qeX at h
  split at h
  ·exact h.elim
  ·rename_i ls hls
   obtain ⟨vs',hrun,hV⟩:=qE4 hT H' he hls
   refine ⟨qbG vs',qLo fn hrun,vs',rfl,H'.fr,?_⟩
   cases hdp:g.dp with
   | true=>
     obtain ⟨h1,h2⟩:=h.2 hdp
     refine ⟨_,qCa H'.br hV h.1 h1,qj4 H' (qiD h2),fun b hb=> ?_⟩
     obtain ⟨id,y,_,hy,hb'⟩:=qfR hb
     rcases (H'.lt id y hy b hb').2 with h | h
     ·exact h
     ·exact h.elim
   | false=>
     have hmx:m.ext=ext:=H'.mx
     refine qgy H'.br hV h.1 fun l hl c hc=> ?_
     cases c with
     | sl e t xs n=>exact fun b hb _=>by rw [←hmx];exact hb.1
     | own id=>
       intro y hy
       refine ⟨fun b hb=>H'.nx b (H'.lt id y hy b hb).2,?_⟩
       cases y with
       | row e t xs dp mt k=>
         cases dp with
         | true=>trivial
         | false=>exact fun b hb _=>by rw [←hmx];exact hb.1
       | _=>trivial
     | _=>trivial
 refine wp_mono (hrun x hx _ _ _ _ (fun _=>rfl) hR) fun e a w' he=> ?_
 cases e with
 | normal=>obtain ⟨st,hr,h⟩:=he;exact fin st a w' hr h
 | ret=>obtain ⟨st,hr,h⟩:=he;exact fin st a w' hr h
 | exit id=>obtain ⟨st,_,h⟩:=he;exact h.elim
 | _=>exact he.elim
end
end Go.T
/- T: the table of types, checked. -/
namespace Go.T
open Go
def qch:Ty→List Value→Option (List Value)
 | .int k,.int k' n::r=>if k=k'∧n=0 then some r else none
 | .bool,.bool b::r=>if b=false then some r else none
 | .str,.string s::r=>if s.data.toList.isEmpty then some r else none
 | .slice _ _,.slice none 0 0::r=>some r
 | .hdr,.slice none 0 0::r=>some r
 | .pair a b,vs=>match qch a vs with
   | some r=>qch b r
   | none=>none
 | _,_=>none
theorem qum: ∀{t:Ty} {vs r:List Value},qch t vs=some r→vs=q8 t++r
 | .int k,vs,r,h=>by
   unfold qch at h
   split at h<;>try (simp at h;done)
   all_goals simp_all [q8]
 | .bool,vs,r,h=>by
   unfold qch at h
   split at h<;>try (simp at h;done)
   all_goals simp_all [q8]
 | .str,vs,r,h=>by
   unfold qch at h
   split at h<;>try (simp at h;done)
   all_goals try (rename_i heq _;cases heq;done)
   all_goals (simp_all [q8])
   all_goals (rename_i s _;apply ByteArray.ext;simp_all)
 | .hdr,vs,r,h=>by
   unfold qch at h
   split at h<;>try (simp at h;done)
   all_goals simp_all [q8]
 | .slice e t,vs,r,h=>by
   unfold qch at h
   split at h<;>try (simp at h;done)
   all_goals simp_all [q8]
 | .pair a b,vs,r,h=>by
   simp only [qch]at h
   split at h
   ·rename_i r' hr
    rw [qum hr,qum h,q8,List.append_assoc]
   ·simp at h
def qvZ (P:Program) (tt:TT) (ti:TI):TypeDesc→Bool
 | .struct fs=>ti.agg&&decide ((fs.toList.mapM fun (f:Field)=>(P.info? f.type).map fun i=>(f.offset,i.size))=some ti.offs)
 | .array n e=>ti.agg&&match P.info? e,tt.get e with
   | some j,some te=>j.size==te.ty.sz&&ti.ty.sz==n*te.ty.sz
   | _,_=>false
 | .slice e=> !ti.agg&&match ti.ty with
   | .slice e' te=>e'==e&&match tt.get e with
     | some tie=>decide (tie.ty=te)
     | none=>false
   | _=>false
 | _=> !ti.agg
theorem qRj {P:Program} {tt:TT} {ti:TI} {d:TypeDesc} (h:qvZ P tt ti d=true):qoD P tt ti d:=by
 unfold qvZ at h
 split at h
 ·simp only [Bool.and_eq_true,decide_eq_true_eq]at h
  exact h
 ·simp only [Bool.and_eq_true]at h
  obtain ⟨h1,h2⟩:=h
  split at h2
  ·rename_i j te hj hte
   simp only [Bool.and_eq_true,beq_iff_eq]at h2
   exact ⟨h1,j,hj,te,hte,h2.1,h2.2⟩
  ·simp at h2
 ·simp only [Bool.and_eq_true,Bool.not_eq_true']at h
  obtain ⟨h1,h2⟩:=h
  split at h2
  ·rename_i e' te hty
   simp only [Bool.and_eq_true,beq_iff_eq]at h2
   obtain ⟨rfl,h2⟩:=h2
   split at h2
   ·rename_i tie ht
    simp only [decide_eq_true_eq]at h2
    exact ⟨h1,te,tie,hty,ht,h2⟩
   ·simp at h2
  ·simp at h2
 ·rename_i d h1 h2 h3
  simp only [Bool.not_eq_true']at h
  cases d<;>first | (simp only [qoD];exact h) | exact (h1 _ rfl).elim | exact (h2 _ _ rfl).elim | exact (h3 _ rfl).elim
def qDY (P:Program) (t:Nat) (ti:TI):Bool:=match P.info? t with
 | some i=>i.size==ti.ty.sz&&decide (i.bytes≤65536)&&match i.zero with
   | some z=>match qch ti.ty z.cells.toList with
     | some []=>true
     | _=>false
   | none=>false
 | none=>false
def qfB (P:Program) (tt:TT) (t:Nat) (ti:TI):Bool:=ti.agg||(ti.ty.sz==1&&match ti.ty with
 | .bool=>match P.underlying t with
   | some .bool=>true
   | _=>false
 | .str=>match P.underlying t with
   | some .string=>true
   | _=>false
 | .int k=>match P.underlying t with
   | some (.int k')=>decide (k'=k)
   | _=>false
 | .slice e te=>match P.underlying t with
   | some (.slice e')=>e'==e&&match tt.get e with
     | some tie=>decide (tie.ty=te)
     | none=>false
   | _=>false
 | _=>true)
def qCB (P:Program) (t:Nat) (ti:TI):Bool:= !ti.ints||match P.underlying t with
 | some (.struct fs)=>match fs.toList with
   | [f, g] => !P.stoodInHeld t && !P.eqGuardType P.depth t && f.offset == 0 && g.offset == 1 && !(f.name == "_") && !(g.name == "_") && match P.underlying f.type, P.underlying g.type with
     | some (.int _),some (.int _)=>true
     | _,_=>false
   | _=>false
 | _=>false
def qDV (P:Program) (t:Nat) (ti:TI):Bool:=ti.offs.isEmpty||match P.underlying t with
 | some (.struct fs)=>(List.range ti.offs.length).all fun i=>match ti.offs[i]?,fs[i]? with
   | some p,some fl=>fl.offset==p.1&&(match P.info? fl.type with
     | some j=>j.size==p.2
     | none=>false)&&decide (0<p.2)&&decide (p.1+p.2≤ti.ty.sz)
   | _,_=>false
 | _=>false
def qsC (P:Program) (tt:TT) (t:Nat) (ti:TI):Bool:=qDY P t ti&&(match P.underlying t with
 | some d=>qvZ P tt ti d
 | none=>false)&&qfB P tt t ti&&qCB P t ti&&qDV P t ti
def qRK (P:Program) (tt:TT):Bool:=tt.all fun p=>qsC P tt p.1 p.2
theorem TT.get_mem {tt:TT} {t:Nat} {ti:TI} (h:tt.get t=some ti):(t,ti)∈tt:=by
 induction tt with
 | nil=>simp [TT.get]at h
 | cons p r ih=>
   obtain ⟨u,ti'⟩:=p
   simp only [TT.get]at h
   split at h
   ·rename_i e;cases h;subst e;exact List.mem_cons_self
   ·exact List.mem_cons_of_mem _ (ih h)
theorem qIR {P:Program} {tt:TT} {t:Nat} {ti:TI} (h:qsC P tt t ti=true):TIok P tt t ti:=by
 simp only [qsC,Bool.and_eq_true]at h
 obtain ⟨⟨⟨⟨hinfo,hdesc⟩,hkind⟩,hints⟩,hoffs⟩:=h
 refine ⟨?_,?_,?_,?_,?_,?_,?_,?_,?_⟩
 ·unfold qDY at hinfo
  split at hinfo
  ·rename_i i hi
   simp only [Bool.and_eq_true,beq_iff_eq,decide_eq_true_eq]at hinfo
   obtain ⟨⟨h1,h2⟩,h3⟩:=hinfo
   split at h3
   ·rename_i z hz
    split at h3
    ·rename_i hc
     refine ⟨i,z,hi,h1,hz,?_,h2⟩
     have:=qum hc
     simpa using this
    ·simp at h3
   ·simp at h3
  ·simp at hinfo
 ·split at hdesc
  ·rename_i d hd;exact ⟨d,hd,qRj hdesc⟩
  ·simp at hdesc
 ·intro ha
  simp only [qfB,ha,Bool.false_or,Bool.and_eq_true,beq_iff_eq]at hkind
  exact hkind.1
 ·intro ha hty
  simp only [qfB,ha,Bool.false_or,Bool.and_eq_true,hty]at hkind
  have h2:=hkind.2
  split at h2
  ·rename_i hu;exact hu
  ·simp at h2
 ·intro ha hty
  simp only [qfB,ha,Bool.false_or,Bool.and_eq_true,hty]at hkind
  have h2:=hkind.2
  split at h2
  ·rename_i hu;exact hu
  ·simp at h2
 ·intro ha k hty
  simp only [qfB,ha,Bool.false_or,Bool.and_eq_true,hty]at hkind
  have h2:=hkind.2
  split at h2
  ·rename_i k' hu
   have:k'=k:=by simpa using h2
   rw [hu,this]
  ·simp at h2
 ·intro hi
  simp only [qCB,hi,Bool.not_true,Bool.false_or]at hints
  split at hints
  ·rename_i fs hu
   split at hints
   ·rename_i f g hfs
    simp only [Bool.and_eq_true,Bool.not_eq_true',beq_iff_eq,beq_eq_false_iff_ne]at hints
    obtain ⟨⟨⟨⟨⟨⟨h1,h2⟩,h3⟩,h4⟩,h5⟩,h6⟩,h7⟩:=hints
    split at h7
    ·rename_i k l hk hl
     refine ⟨f,g,k,l,?_,h1,h2,h3,h4,h5,h6,hk,hl⟩
     rw [hu]
     congr 2
     rw [←Array.toList_inj,hfs]
    ·simp at h7
   ·simp at hints
  ·simp at hints
 ·intro ha e te hty
  simp only [qfB,ha,Bool.false_or,Bool.and_eq_true,hty]at hkind
  have h2:=hkind.2
  split at h2
  ·rename_i e' hu
   simp only [Bool.and_eq_true,beq_iff_eq]at h2
   obtain ⟨rfl,h3⟩:=h2
   refine ⟨hu,?_⟩
   split at h3
   ·rename_i tie ht;exact ⟨tie,ht,by simpa using h3⟩
   ·simp at h3
  ·simp at h2
 ·intro f n i ho
  unfold qDV at hoffs
  have hne:ti.offs.isEmpty=false:=by
   cases hof:ti.offs with
   | nil=>rw [hof]at ho;simp at ho
   | cons=>rfl
  rw [hne,Bool.false_or]at hoffs
  split at hoffs
  ·rename_i fs hu
   have hil:i<ti.offs.length:=(List.getElem?_eq_some_iff.1 ho).1
   have:=List.all_eq_true.1 hoffs i (by simpa using hil)
   rw [ho]at this
   split at this
   ·rename_i p fl hp hfl
    cases hp
    simp only [Bool.and_eq_true,beq_iff_eq,decide_eq_true_eq]at this
    obtain ⟨⟨⟨h1,h2⟩,h3⟩,h4⟩:=this
    split at h2
    ·rename_i j hj
     exact ⟨fs,fl,hu,hfl,h1,j,hj,by simpa using h2,h3,h4⟩
    ·simp at h2
   ·simp at this
  ·simp at hoffs
theorem qNL {P:Program} {tt:TT} (h:qRK P tt=true):qN P tt:=fun _ _ ht=>qIR (List.all_eq_true.1 h _ (TT.get_mem ht))
end Go.T
/- T: what is forgotten, what is renumbered. -/
namespace Go.T
open Go
def qdk (z:Bool) (top n:Nat):Nat:=bif z&&n==0 then 0 else top
def LC.ren (π:Nat→Option Nat) (z:Bool) (top:Nat):LC→LC
 | .own id=>match π id with
   | some j=> .own j
   | none=> .undef
 | .ptr id i f=>match π id with
   | some j=> .ptr j i f
   | none=> .undef
 | .sl e t xs n=> .sl e t xs (qdk z top n)
 | .tptr t v f n=> .tptr t v f (qdk z top n)
 | .int k n=> .int k n
 | .bool b=> .bool b
 | .str s=> .str s
 | .hdr v=> .hdr v
 | .nils=> .nils
 | .nilp=> .nilp
 | .fn f=> .fn f
 | .clo _ _=> .undef
 | .undef=> .undef
def LV.ren (π:Nat→Option Nat) (z:Bool) (top:Nat):LV→LV
 | .one c=> .one (c.ren π z top)
 | .agg cs=> .agg (cs.map (LC.ren π z top))
 | .tup vs=> .tup (vs.map fun v=>⟨v.agg,v.cs.map (LC.ren π z top)⟩)
def Blk.ren (π:Nat→Option Nat) (z:Bool) (top:Nat):Blk→Blk
 | .box cs=> .box (cs.map (LC.ren π z top))
 | .row e t xs dp mt n=> .row e t xs dp mt (bif dp then 0 else qdk z top n)
 | .nst F t hs vs=> .nst F t hs vs
 | .dead=> .dead
def qau:List Nat→Nat→Nat→Option Nat
 | [],_,_=>none
 | x::r,k,id=>if x=id then some k else qau r (k+1) id
def qge (π:Nat→Option Nat) (z:Bool) (top:Nat):List Bool→List LV→List LV
 | _,[]=>[]
 | [],_::r=> .one .undef::qge π z top [] r
 | true::ks,l::r=>l.ren π z top::qge π z top ks r
 | false::ks,_::r=> .one .undef::qge π z top ks r
def St.renum (z:Bool) (order:List Nat) (keep:List Bool) (st:St):St:={env:=qge (qau order 0) z order.length keep st.env,heap:=order.map fun id=>(st.heap.getD id .dead).ren (qau order 0) z order.length}
def LC.idOf:LC→Option Nat
 | .own id=>some id
 | .ptr id _ _=>some id
 | _=>none
def qdd (acc:List Nat):List LC→List Nat
 | []=>acc
 | c::r=>match c.idOf with
   | some id=>if acc.contains id then qdd acc r else qdd (acc++[id]) r
   | none=>qdd acc r
def qm6:List Bool→List LV→List LC
 | true::ks,l::r=>l.cells++qm6 ks r
 | false::ks,_::r=>qm6 ks r
 | _,_=>[]
def qE0 (h:List Blk) (id:Nat):List LC:=match h[id]? with
 | some (Blk.box cs)=>cs
 | _=>[]
def qEF (h:List Blk) (ids:List Nat):List LC:=ids.flatMap (qE0 h)
def qcN:List Blk→Nat→List Nat
 | [],_=>[]
 | .nst .. ::r,i=>i::qcN r (i+1)
 | _::r,i=>qcN r (i+1)
theorem qDt: ∀(h:List Blk) (i:Nat),∀k∈qcN h i,i≤k
 | [],_,_,hk=>by simp [qcN]at hk
 | b::r,i,k,hk=>by
   have ih:=qDt r (i+1) k
   cases b<;>simp only [qcN,List.mem_cons]at hk
   case nst=>rcases hk with rfl | hk;exact Nat.le_refl _;have:=ih hk;omega
   all_goals (have:=ih hk;omega)
theorem qCN: ∀(h:List Blk) (i:Nat),(qcN h i).Nodup
 | [],_=>List.nodup_nil
 | b::r,i=>by
   have ih:=qCN r (i+1)
   cases b
   case nst=>exact List.nodup_cons.2 ⟨fun hm=>by have:=qDt r (i+1) i hm;omega,ih⟩
   all_goals exact ih
def St.order (st:St) (keep:List Bool):List Nat:=
 let a:=qdd (qcN st.heap 0) (qm6 keep st.env)
 qdd a (qEF st.heap a)
def St.gc (z:Bool) (keep:List Bool) (st:St):St:=st.renum z (st.order keep) keep
theorem qju: ∀{cs:List LC} {acc:List Nat},acc.Nodup→(qdd acc cs).Nodup
 | [],_,h=>h
 | c::r,acc,h=>by
   simp only [qdd]
   split
   ·rename_i id _
    split
    ·exact qju h
    ·rename_i hn
     refine qju ?_
     rw [List.nodup_append]
     refine ⟨h,by simp,fun x hx y hy e=>hn ?_⟩
     simp at hy
     subst hy;subst e
     simpa using hx
   ·exact qju h
theorem qCi: ∀{l:List Nat} {k id j:Nat},qau l k id=some j→k≤j∧l[j - k]?=some id
 | x::r,k,id,j,h=>by
   simp only [qau]at h
   split at h
   ·rename_i e;cases h;subst e;simp
   ·obtain ⟨h1,h2⟩:=qCi h
    refine ⟨by omega,?_⟩
    rw [show j - k=(j - (k+1))+1 by omega]
    simpa using h2
section
variable {w0 w : World} {mine : Mine} {m : Mp} {h : List Blk} {order : List Nat} {z : Bool}
def Mp.ren (m:Mp) (order:List Nat):Mp:={m with val:=fun j=>m.val (order.getD j 0),blk:=fun j=>m.blk (order.getD j 0),nst:=fun j=>m.nst (order.getD j 0)}
def qby (z:Bool) (h:List Blk) (order:List Nat):List Blk:=order.map fun id=>(h.getD id .dead).ren (qau order 0) z order.length
theorem qB0 {j:Nat} {y:Blk} (hy:(qby z h order)[j]?=some y): ∃id,order[j]?=some id∧order.getD j 0=id∧j<order.length∧y=(h.getD id .dead).ren (qau order 0) z order.length:=by
 simp only [qby,List.getElem?_map]at hy
 cases ho:order[j]? with
 | none=>rw [ho]at hy;simp at hy
 | some id=>
   rw [ho]at hy
   simp at hy
   exact ⟨id,rfl,by simp [ho],(List.getElem?_eq_some_iff.1 ho).1,by rw [←hy];simp⟩
theorem qEw {j id:Nat} {x:Blk} (hp:qau order 0 id=some j) (hx:h[id]?=some x):(qby z h order)[j]?=some (x.ren (qau order 0) z order.length)∧order.getD j 0=id:=by
 obtain ⟨_,h2⟩:=qCi hp
 simp only [Nat.sub_zero]at h2
 refine ⟨?_,by simp [h2]⟩
 simp only [qby,List.getElem?_map,h2,Option.map_some,List.getD,hx,Option.getD_some]
theorem qIF (z:Bool) (top n:Nat):qdk z top n=top∨(n=0∧qdk z top n=0):=by
 unfold qdk
 cases z with
 | false=>exact .inl rfl
 | true=>
   cases n with
   | zero=>exact .inr ⟨rfl,rfl⟩
   | succ n=>exact .inl rfl
theorem qoU {n b:Nat} (hb:qr m h n b):qr (m.ren order) (qby z h order) (qdk z order.length n) b:=by
 refine ⟨hb.1,fun j y hy=> ?_⟩
 obtain ⟨id,ho,hg,hj,rfl⟩:=qB0 hy
 cases hx:h[id]? with
 | none=>simp only [List.getD,hx,Option.getD_none,Blk.ren];trivial
 | some x=>
   have:=hb.2 id x hx
   simp only [List.getD,hx,Option.getD_some]
   cases x with
   | dead=>trivial
   | nst F t hs vs=>exact this
   | box cs=>simp only [Blk.ren,okB,Mp.ren,hg];exact this
   | row e t xs dp mt k=>
     rcases qIF z order.length n with ht | ⟨rfl,ht⟩
     ·rw [ht]
      refine ⟨fun hm=> ?_,fun hd hle=> ?_⟩
      ·have h1:=this.1 (.inl (hm.resolve_right (by omega)))
       simp only [Mp.ren,hg];exact h1
      ·subst hd
       simp at hle
       rw [hle]at hj
       simp at hj
     ·rw [ht]
      refine ⟨fun _=> ?_,fun hd _=> ?_⟩
      ·have h1:=this.1 (.inr (Nat.zero_le _))
       simp only [Mp.ren,hg];exact h1
      ·have h1:=this.2 hd (Nat.zero_le _)
       simp only [Mp.ren,hg];exact h1
theorem qsB: ∀{c:LC} {v:Value},C w m h c v→C w (m.ren order) (qby z h order) (c.ren (qau order 0) z order.length) v
 | .int _ _,_,hc | .bool _,_,hc | .str _,_,hc | .hdr _,_,hc | .nils,_,hc | .nilp,_,hc | .fn _,_,hc=>hc
 | .undef,_,_=>trivial
 | .clo _ _,_,_=>trivial
 | .sl e t xs n,v,hc=>by
   obtain ⟨A,c,he,hl,hr⟩:=hc
   exact ⟨A,c,he,hl,qf6 (fun _ _ _=>rfl) (fun b hb _=>qoU hb) hr⟩
 | .tptr t x f n,v,hc=>by
   obtain ⟨a,cs,he,hk,hat,hb⟩:=hc
   exact ⟨a,cs,he,qaf (fun _ _ _=>rfl) (fun b hb _=>qoU hb) hk,hat,qoU hb⟩
 | .own id,v,hc=>by
   simp only [LC.ren]
   cases hp:qau order 0 id with
   | none=>trivial
   | some j=>
     simp only [C]at hc ⊢
     cases hx:h[id]? with
     | none=>rw [hx]at hc;exact hc.elim
     | some x=>
       obtain ⟨h1,h2⟩:=qEw hp hx
       rw [hx]at hc
       rw [h1]
       cases x with
       | box=>exact hc.elim
       | nst=>exact hc.elim
       | dead=>exact hc
       | row e t xs dp mt k=>simp only [Blk.ren,Mp.ren,h2];exact hc
 | .ptr id i f,v,hc=>by
   simp only [LC.ren]
   cases hp:qau order 0 id with
   | none=>trivial
   | some j=>
     simp only [C]at hc ⊢
     cases hx:h[id]? with
     | none=>rw [hx]at hc;exact hc.elim
     | some x=>
       obtain ⟨h1,h2⟩:=qEw hp hx
       rw [hx]at hc
       rw [h1]
       cases x with
       | box=>simp only [Blk.ren,Mp.ren,h2];exact hc
       | nst=>exact hc.elim
       | dead=>exact hc
       | row e t xs dp mt k=>simp only [Blk.ren,Mp.ren,h2];exact hc
theorem qvE {cs:List LC} {vs:List Value} (hf:F2 (C w m h) cs vs):F2 (C w (m.ren order) (qby z h order)) (cs.map (LC.ren (qau order 0) z order.length)) vs:=by
 induction hf with
 | nil=>exact .nil
 | cons h1 _ ih=>exact .cons (qsB h1) ih
theorem qJ6: ∀{l:LV} {v:Value},V w m h l v→V w (m.ren order) (qby z h order) (l.ren (qau order 0) z order.length) v
 | .one c,v,hv=>qsB (c:=c) hv
 | .agg cs,v,hv=>by obtain ⟨vs,he,hf⟩:=hv;exact ⟨vs,he,qvE hf⟩
 | .tup ls,v,hv=>by
   obtain ⟨vs,he,hf⟩:=hv
   refine ⟨vs,he,?_⟩
   clear he
   generalize vs.toList=us at hf
   induction hf with
   | nil=>exact .nil
   | cons h1 _ ih=>
     refine .cons ?_ ih
     unfold V1 at h1 ⊢
     split at h1
     ·rename_i e;simp only [e];obtain ⟨vs,he,hf⟩:=h1;exact ⟨vs,he,qvE hf⟩
     ·rename_i e;simp only [e];obtain ⟨c,he,hc,h2⟩:=h1;exact ⟨_,by rw [he];rfl,qsB hc,h2⟩
theorem qLl (hn:order.Nodup) (hpin: ∀id,mine.pin id=none) (H:HR w0 mine w m h):HR w0 mine w (m.ren order) (qby z h order):=by
 have back: ∀j y,(qby z h order)[j]?=some y→(∃id x,order[j]?=some id∧order.getD j 0=id∧h[id]?=some x∧y=x.ren (qau order 0) z order.length)∨y= .dead:=fun j y hy=>by
  obtain ⟨id,ho,hg,hj,rfl⟩:=qB0 hy
  cases hx:h[id]? with
  | none=>right;simp only [List.getD,hx,Option.getD_none,Blk.ren]
  | some x=>left;exact ⟨id,x,ho,hg,hx,by simp only [List.getD,hx,Option.getD_some]⟩
 have fp: ∀j id x,order.getD j 0=id→fpB (m.ren order) j (x.ren (qau order 0) z order.length)=fpB m id x:=fun j id x hg=>by
  cases x<;>simp only [Blk.ren,fpB,Mp.ren,hg]
 refine ⟨fun j y hy=> ?_,fun j y hy=> ?_,fun j y j' y' hne hy hy' b hb hb'=> ?_,fun j y hy b hb=> ?_,H.fr,H.mx,H.nx,fun id v hp=>by rw [hpin id]at hp;simp at hp⟩
 ·rcases back j y hy with ⟨id,x,ho,hg,hx,rfl⟩ | rfl
  ·have:=H.br id x hx
   cases x with
   | dead=>trivial
   | nst F t hs vs=>exact this
   | box cs=>
     obtain ⟨arr,ty,h1,h2,h3⟩:=this
     exact ⟨arr,ty,by simp only [Mp.ren,hg];exact h1,qvE h2,h3⟩
   | row e t xs dp mt k=>
     obtain ⟨inner,h1,h2⟩:=this
     refine ⟨inner,by simp only [Mp.ren,hg];exact h1,?_⟩
     cases dp with
     | true=>simp only [Mp.ren,hg]at h2 ⊢;exact ⟨h2.1,Nat.zero_le _⟩
     | false=>exact h2.imp fun x c hk=>qaf (fun _ _ _=>rfl) (fun b hb _=>qoU hb) hk
  ·trivial
 ·rcases back j y hy with ⟨id,x,ho,hg,hx,rfl⟩ | rfl
  ·rw [fp j id x hg];exact H.nd id x hx
  ·exact List.nodup_nil
 ·rcases back j y hy with ⟨id,x,ho,hg,hx,rfl⟩ | rfl
  ·rcases back j' y' hy' with ⟨id',x',ho',hg',hx',rfl⟩ | rfl
   ·rw [fp j id x hg]at hb
    rw [fp j' id' x' hg']at hb'
    refine H.dj id x id' x' (fun e=>hne ?_) hx hx' b hb hb'
    subst e
    have h1:=(List.getElem?_eq_some_iff.1 ho)
    have h2:=(List.getElem?_eq_some_iff.1 ho')
    exact (List.getElem_inj hn).1 (h1.2.trans h2.2.symm)
   ·simp [fpB]at hb'
  ·simp [fpB]at hb
 ·rcases back j y hy with ⟨id,x,ho,hg,hx,rfl⟩ | rfl
  ·rw [fp j id x hg]at hb;exact H.lt id x hx b hb
  ·simp [fpB]at hb
theorem qLn {ks:List Bool}: ∀{env:List LV} {vs:List Value},F2 (V w m h) env vs→F2 (V w (m.ren order) (qby z h order)) (qge (qau order 0) z order.length ks env) vs:=by
 intro env vs hf
 induction hf generalizing ks with
 | nil=>cases ks with
   | nil=>exact .nil
   | cons k ks=>cases k<;>exact .nil
 | cons h1 _ ih=>cases ks with
   | nil=>exact .cons trivial ih
   | cons k ks=>cases k with
     | true=>exact .cons (qJ6 h1) ih
     | false=>exact .cons trivial ih
theorem Le.renum {st:St} (keep:List Bool) (hn:order.Nodup):Le st (st.renum z order keep):=fun w0 mine a w hp hr=>by
 obtain ⟨hd,m,H,he⟩:=hr
 exact ⟨hd,m.ren order,qLl hn hp H,qLn he⟩
theorem Le.gc (st:St) (z:Bool) (keep:List Bool):Le st (st.gc z keep):=Le.renum keep (qju (qju (qCN _ _)))
def qdI:List Bool→List LV→List LV
 | _,[]=>[]
 | [],_::r=> .one .undef::qdI [] r
 | true::ks,l::r=>l::qdI ks r
 | false::ks,_::r=> .one .undef::qdI ks r
def St.forget (keep:List Bool) (st:St):St:={env:=qdI keep st.env,heap:=st.heap}
theorem qK1 {ks:List Bool}: ∀{env:List LV} {vs:List Value},F2 (V w m h) env vs→F2 (V w m h) (qdI ks env) vs:=by
 intro env vs hf
 induction hf generalizing ks with
 | nil=>cases ks with
   | nil=>exact .nil
   | cons k ks=>cases k<;>exact .nil
 | cons h1 _ ih=>cases ks with
   | nil=>exact .cons trivial ih
   | cons k ks=>cases k with
     | true=>exact .cons h1 ih
     | false=>exact .cons trivial ih
theorem LeP.of_forget {st st':St} (keep:List Bool) (h:st.forget keep=st'):LeP st st':=h▸fun w0 mine a w hr=>by
 obtain ⟨hd,m,H,he⟩:=hr
 exact ⟨hd,m,H,qK1 he⟩
end
end Go.T
/- T: running by rewriting: lemmas at states that are written out. -/
namespace Go.T
open Go
section
variable {P : Program} {tt : TT} {Γ : Gam} {tr : Nat → Tree} {L : St → St → Prop} {Q : X → St → Prop} {e : List LV} {h : List Blk}
@[simp] theorem qSZ : wpT P tt Γ tr L .skip Q ⟨e, h⟩ = Q .normal ⟨e, h⟩ := rfl
@[simp] theorem qTT {id : Nat} {ops : List Oper} : wpT P tt Γ tr L (.region id ⟨ops⟩ false) Q ⟨e, h⟩ = qcf P tt Γ ⟨ops⟩ ops ⟨e, h⟩ (Q .normal) := rfl
@[simp] theorem qTG {id : Nat} {ops : Array Oper} : wpT P tt Γ tr L (.region id ops true) Q ⟨e, h⟩ = qaV sx0 tt Γ ops (tr id) ⟨e, h⟩ (Q .normal) := rfl
@[simp] theorem qTl {a b : Code} : wpT P tt Γ tr L (.seq a b) Q ⟨e, h⟩ = wpT P tt Γ tr L a (qdo (wpT P tt Γ tr L b Q) Q) ⟨e, h⟩ := rfl
@[simp] theorem qTD {c : Operand} {x y : Code} : wpT P tt Γ tr L (.cond c x y) Q ⟨e, h⟩ = qwU c ⟨e, h⟩ (wpT P tt Γ tr L x Q) (wpT P tt Γ tr L y Q) := rfl
@[simp] theorem qTs {id : Nat} {c : Code} : wpT P tt Γ tr L (.block id c) Q ⟨e, h⟩ = wpT P tt Γ tr L c (qfI id Q) ⟨e, h⟩ := rfl
@[simp] theorem qUL {c : Code} : wpT P tt Γ tr L (.loop c) Q ⟨e, h⟩ = qCq L (wpT P tt Γ tr L c) Q ⟨e, h⟩ := rfl
@[simp] theorem qSV {id : Nat} : wpT P tt Γ tr L (.exit id) Q ⟨e, h⟩ = Q (.exit id) ⟨e, h⟩ := rfl
@[simp] theorem qTC : wpT P tt Γ tr L .ret Q ⟨e, h⟩ = Q .ret ⟨e, h⟩ := rfl
variable {ops : Array Oper} {k : St → Prop}
@[simp] theorem qUO : qcf P tt Γ ops [] ⟨e, h⟩ k = k ⟨e, h⟩ := rfl
@[simp] theorem qTf {d : Option Tmp} {op : Op} {ty : TypeId} {pos : String} {aft : Array Edge} {os : List Oper} : qcf P tt Γ ops (⟨d, op, ty, pos, aft, none⟩ :: os) ⟨e, h⟩ k = opW P tt Γ ⟨d, op, ty, pos, aft, none⟩ ⟨e, h⟩ fun st => qcf P tt Γ ops os st k := rfl
@[simp] theorem qT2 {d : Option Tmp} {op : Op} {ty : TypeId} {pos : String} {aft : Array Edge} {g : Nat × Bool} {os : List Oper} : qcf P tt Γ ops (⟨d, op, ty, pos, aft, some g⟩ :: os) ⟨e, h⟩ k = qV ops ⟨d, op, ty, pos, aft, some g⟩ ⟨e, h⟩ (fun st => opW P tt Γ ⟨d, op, ty, pos, aft, some g⟩ st fun st => qcf P tt Γ ops os st k) (fun st => qcf P tt Γ ops os (st.put d (.tup [])) k) := rfl
@[simp] theorem qS8 {k : St → Prop} {st : St} : qdo k Q .normal st = k st := rfl
@[simp] theorem qTe {k : St → Prop} {st : St} : qdo k Q .ret st = Q .ret st := rfl
@[simp] theorem qS4 {k : St → Prop} {st : St} {id : Nat} : qdo k Q (.exit id) st = Q (.exit id) st := rfl
@[simp] theorem qT6 {id : Nat} {st : St} : qfI id Q .normal st = Q .normal st := rfl
@[simp] theorem qUJ {id : Nat} {st : St} : qfI id Q .ret st = Q .ret st := rfl
@[simp] theorem qSK {id j : Nat} {st : St} : qfI id Q (.exit j) st = if j = id then Q .normal st else Q (.exit j) st := rfl
@[simp] theorem qSg {k : St → Prop} : qdo k Q .normal = k := rfl
@[simp] theorem qSz {id : Nat} : qfI id Q .normal = Q .normal := rfl
@[simp] theorem qSE {P : Program} {tt : TT} {Γ : Gam} {e : List LV} {h : List Blk} {o : Oper} {k : St → Prop} : opW P tt Γ o ⟨e, h⟩ k = (match qU tt Γ o ⟨e, h⟩ with
  | some (p,st')=>p∧k st'
  | none=>qDB P o ⟨e,h⟩ k):=rfl
@[simp] theorem qTp {c : Operand} {e : List LV} {h : List Blk} {x y : St → Prop} : qwU c ⟨e, h⟩ x y = (match (St.mk e h).ev c with
  | .one (.bool b)=>(b=true→x ((St.mk e h).litO c true))∧(b=false→y ((St.mk e h).litO c false))
  | _=>False):=rfl
@[simp] theorem qSl {a b : Ty} (p : Val (.pair a b)) : (Prod.mk (α := Val a) (β := Val b) (Prod.fst (α := Val a) (β := Val b) p) (Prod.snd (α := Val a) (β := Val b) p)) = p := by cases p; rfl
@[simp] theorem qUK {e : List LV} {h : List Blk} {t : Nat} : (St.mk e h).ev (.tmp t) = e.getD t (.one .undef) := rfl
@[simp] theorem qTy {e : List LV} {h : List Blk} {v : Value} : (St.mk e h).ev (.const v) = qh2 v := rfl
@[simp] theorem qTM {e : List LV} {h : List Blk} {f : Nat} : (St.mk e h).ev (.func f) = .one (.fn f) := rfl
@[simp] theorem qTu {e : List LV} {h : List Blk} {t : Nat} {v : LV} : (St.mk e h).put (some t) v = ⟨e.set t v, h⟩ := rfl
@[simp] theorem qTz {e : List LV} {h : List Blk} {v : LV} : (St.mk e h).put none v = ⟨e, h⟩ := rfl
@[simp] theorem qSG {e : List LV} {h : List Blk} {d : Option Tmp} {c : LC} : (St.mk e h).go d c = some (True, (St.mk e h).put d (.one c)) := rfl
@[simp] theorem qTR {e : List LV} {h : List Blk} {t : Nat} {b : Blk} {c : LC} : (St.mk e h).new (some t) b c = ⟨e.set t (.one c), h ++ [b]⟩ := rfl
@[simp] theorem qSM {e : List LV} {h : List Blk} {b : Blk} {c : LC} : (St.mk e h).new none b c = ⟨e, h ++ [b]⟩ := rfl
@[simp] theorem qTO {e : List LV} {h h' : List Blk} {t : Nat} {l : LV} : (St.mk e h).res (some t) l h' = ⟨e.set t l, h'⟩ := rfl
@[simp] theorem qT1 {e : List LV} {h h' : List Blk} {l : LV} : (St.mk e h).res none l h' = ⟨e, h'⟩ := rfl
@[simp] theorem qTL {e : List LV} {h : List Blk} {t : Nat} {b : Bool} : (St.mk e h).lit t b = ⟨e.set t (.one (.bool b)), h⟩ := rfl
@[simp] theorem qSn {e : List LV} {h : List Blk} {t : Nat} {b : Bool} : (St.mk e h).litO (.tmp t) b = ⟨e.set t (.one (.bool b)), h⟩ := rfl
@[simp] theorem qUM {e : List LV} {h : List Blk} {v : Value} {b : Bool} : (St.mk e h).litO (.const v) b = ⟨e, h⟩ := rfl
attribute [simp] qj0 qgi TI.row qee qaR qbi qgC qcE qU qJ qh2 qc5 LV.cells LV1.lv qfw qfq qgO qfx qgb qfV qg0 qdp lenOf qog qlo qgs qf1 newRow qeQ
 qbd qbD qa4 qu qaQ qat qfn LC.low qT LC.movedId qW LC.deep kill freeze Blk.froze los lo qaO Ty.flat Ty.sz LC.isDef LV.isAgg qV qix qsS qeX qbu qic qdN Gam.get qad qbf Blk.up qcy
 St.gc St.order St.renum qm6 qdd qcN qEF qE0 qge LV.ren LC.ren qdk LC.idOf Blk.ren qau qaV qba qbo sx0 qbx qjt qbU LV.rd List.replicate
end
end Go.T
