/- T: regions in their order. -/
import Derived.Test.YtlhkmndfkjlodaaT7
import Derived.Orders
set_option linter.unusedSimpArgs false
set_option linter.unusedVariables false
namespace Go.T
open Go
def St.lit (st:St) (t:Nat) (b:Bool):St:={st with env:=st.env.set t (.one (.bool b))}
theorem St.lit_self {st:St} {t:Nat} {b:Bool} (h:st.env[t]?=some (.one (.bool b))):st.lit t b=st:=by
 obtain ⟨env,heap⟩:=st
 simp only [St.lit,St.mk.injEq,and_true]
 apply List.ext_getElem?
 intro j
 by_cases e:t=j
 ·subst e
  rw [List.getElem?_set_self (List.getElem?_eq_some_iff.1 h).1]
  exact h.symm
 ·rw [List.getElem?_set_ne e]
def qar (ops:Array Oper) (o:Oper) (st:St) (yes no:St→Prop):Prop:=match o.guard with
 | none=>yes st
 | some (j,want)=>match (ops[j]?).bind (·.dst)with
   | none=>no st
   | some t=>match st.env[t]? with
     | some (.one (.bool b))=>(b=want→yes (st.lit t want))∧(b= !want→no (st.lit t (!want)))
     | some (.tup _)=>no st
     | none=>no st
     | _=>False
def qI5 (P:Program) (o:Oper) (st:St) (k:St→Prop):Prop:=
 ∀(w0:World) (mine:Mine) (a:Act) (w:World) (next:Act→World→Prop) (Q:Exit→Act→World→Prop),R w0 mine st a w→(∀a' w' st',R w0 mine st' a' w'→k st'→next a' w')→o.wp P a w next Q
def opW (P:Program) (tt:TT) (Γ:Gam) (o:Oper) (st:St) (k:St→Prop):Prop:=match qan tt Γ o st with
 | some (p,st')=>p∧k st'
 | none=>qI5 P o st k
def qfg (P:Program) (tt:TT) (Γ:Gam) (ops:Array Oper):List Oper→St→(St→Prop)→Prop
 | [],st,k=>k st
 | o::os,st,k=>qar ops o st (fun st=>opW P tt Γ o st fun st=>qfg P tt Γ ops os st k) (fun st=>qfg P tt Γ ops os (st.put o.dst (.tup [])) k)
section
variable {P : Program} {tt : TT} {Γ : Gam} {o : Oper} {ops : Array Oper} {a : Act} {w0 w w' : World} {mine : Mine} {st : St} {next : Act → World → Prop} {Q : Exit → Act → World → Prop}
theorem qYT (hT:qP P tt) {t:Nat} {x:Operand} {lo hi:Option Operand} (ho:o.op= .slice t x lo hi none) {p:Prop} {st':St} (hs:qfG tt t (st.ev x) (lo.map st.ev) (hi.map st.ev) o.dst st=some (p,st')) (hp:p) (hr:R w0 mine st a w)
 (hn: ∀a' w',R w0 mine st' a' w'→next a' w'):o.wp P a w next Q:=by
 unfold qfG at hs
 split at hs
 ·rename_i id ex
  obtain ⟨hd,m,H,he⟩:=hr
  have hx:=R.ev H he x
  rw [ex]at hx
  unfold qjo at hs
  split at hs
  ·rename_i ti e te xs dp mt k ht hy
   split at hs
   ·rename_i l h hl hh
    split at hs
    ·rename_i hc
     cases hs
     obtain ⟨H1,hok1,hs1⟩:=H.weaker (qV.freeze st.heap [id])
     exact qIo (st:={st with heap:=freeze st.heap [id]}) hT ho (hT t ti ht) hd H1 (qaJ hok1 hs1 he) (qo1 H hy hx) hl hh hc hp fun a' w' hr'=>hn a' w' (by
            have e:({st with heap:=freeze st.heap [id]}:St).put o.dst (.one (.sl e te ((xs.take h.toNat).drop l.toNat) st.heap.length))={st.put o.dst (.one (.sl e te ((xs.take h.toNat).drop l.toNat) st.heap.length))with heap:=freeze st.heap [id]}:=by cases o.dst<;>rfl
            rw [e]at hr'
            exact hr')
    ·simp at hs
   ·simp at hs
  ·simp at hs
 ·exact qJf hT ho hs hp hr hn
theorem qwk (hT:qP P tt) (hΓ: ∀f g,Γ.get f=some g→Sound P f g) {p:Prop} {st':St} (hs:qan tt Γ o st=some (p,st')) (hp:p) (hr:R w0 mine st a w) (hn: ∀a' w',R w0 mine st' a' w'→next a' w'):o.wp P a w next Q:=by
 unfold qan at hs
 split at hs
 ·rename_i c ho
  split at hs
  ·rename_i f hc
   exact qSm hΓ ho hc hs hp hr hn
  ·exact qIQ hT hs hp hr hn
 ·rename_i t x lo hi ho
  exact qYT hT ho hs hp hr hn
 ·exact qIQ hT hs hp hr hn
theorem R.slot (hr:R w0 mine st a w) {t:Nat} {l:LV} (h:st.env[t]?=some l): ∃m h v,a.tmps[t]?=some v∧V w m h l v:=by
 obtain ⟨_,m,H,he⟩:=hr
 obtain ⟨v,hv,hV⟩:=he.get h
 exact ⟨m,_,v,by simpa using hv,hV⟩
theorem R.noslot (hr:R w0 mine st a w) {t:Nat} (h:st.env[t]?=none):a.tmps[t]?=none:=by
 obtain ⟨_,m,H,he⟩:=hr
 have:=he.len
 simp at h
 simp
 simp at this
 omega
theorem qUG {j t:Nat} (h:(ops[j]?).bind (·.dst)=some t) (tmps:Array Value):yielded ops tmps j=match tmps[t]? with | some (.bool b)=>some b | _=>none:=by
 unfold yielded
 rw [h]
 simp only [Option.bind_some]
 cases tmps[t]? with
 | none=>rfl
 | some v=>cases v<;>rfl
theorem qLz {j:Nat} (h:(ops[j]?).bind (·.dst)=none) (tmps:Array Value):yielded ops tmps j=none:=by
 simp [yielded,h]
theorem qw7 {yes no:St→Prop} (h:qar ops o st yes no) (hr:R w0 mine st a w):(Region.wanted o (yielded ops a.tmps)=true∧yes st)∨(Region.wanted o (yielded ops a.tmps)=false∧no st):=by
 unfold qar at h
 unfold Region.wanted
 split at h
 ·rename_i hg
  rw [hg];exact .inl ⟨rfl,h⟩
 ·rename_i j want hg
  rw [hg]
  simp only
  split at h
  ·rename_i hb
   rw [qLz hb]
   exact .inr ⟨rfl,h⟩
  ·rename_i t hb
   rw [qUG hb]
   split at h
   ·rename_i b hs
    obtain ⟨m,hh,v,hv,hV⟩:=hr.slot hs
    have hv':v= .bool b:=hV
    subst hv'
    rw [hv]
    simp only
    by_cases e:b=want
    ·subst e
     have:=h.1 rfl
     rw [St.lit_self hs]at this
     exact .inl ⟨by simp,this⟩
    ·have e':b= !want:=by cases b<;>cases want<;>simp_all
     have:=h.2 e'
     rw [←e',St.lit_self hs]at this
     exact .inr ⟨by simpa using e,this⟩
   ·rename_i ls hs
    obtain ⟨m,hh,v,hv,hV⟩:=hr.slot hs
    obtain ⟨vs,rfl,_⟩:=hV
    rw [hv]
    exact .inr ⟨rfl,h⟩
   ·rename_i hs
    rw [hr.noslot hs]
    exact .inr ⟨rfl,h⟩
   ·exact h.elim
theorem R.skip (hr:R w0 mine st a w) (d:Option Tmp):R w0 mine (st.put d (.tup [])) (a.put d undef) w:=
 hr.put d fun m H he=>⟨#[],rfl,.nil⟩
end
end Go.T
/- T: regions in any order. -/
namespace Go.T
open Go
inductive Tree
 | done
 | first (i:Nat) (t:Tree)
 | quiet (i:Nat) (t:Tree)
 | grow (i:Nat) (t:Tree)
 | pure (i:Nat) (t:Tree)
 | keep (i:Nat) (t:Tree)
 | alt (i:Nat) (t r:Tree)
 | stop
 | sem (ids:List Nat) (t:Tree)
abbrev Smx:=Oper→St→Res
def qcL:Smx:=fun _ _=>none
structure SX where
 ids:List Nat
 S:Smx
def sx0:SX:=⟨[],qcL⟩
noncomputable def qeB (sx:SX) (i:Nat) (tt:TT) (Γ:Gam) (o:Oper) (st:St):Res:=bif sx.ids.contains i then sx.S o st else qan tt Γ o st
def qev (sx:SX) (i:Nat) (tt:TT) (Γ:Gam) (o:Oper) (st:St) (K:St→Prop):Prop:=match qeB sx i tt Γ o st with
 | some (p,st')=>p∧K st'
 | none=>False
def qdn (sx:SX) (tt:TT) (Γ:Gam) (ops:Array Oper) (i:Nat) (st:St) (K:St→Prop):Prop:=match ops[i]? with
 | none=>False
 | some o=>qar ops o st (fun st=>qev sx i tt Γ o st K) (fun st=>K (st.put o.dst (.tup [])))
def qch (sx:SX) (tt:TT) (Γ:Gam) (ops:Array Oper) (i:Nat) (st:St) (K:St→Prop):Prop:=match ops[i]? with
 | none=>False
 | some o=>qar ops o st (fun _=>qev sx i tt Γ o st K) (fun _=>K (st.put o.dst (.tup [])))
def qiV (sx:SX) (tt:TT) (Γ:Gam) (ops:Array Oper):Nat→Array Bool→St→(St→Prop)→Prop
 | 0,listed,st,k=>Region.ready .any ops listed=[]∧k st
 | fuel+1,listed,st,k=>(Region.ready .any ops listed=[]→k st)∧ ∀i∈Region.ready .any ops listed,qch sx tt Γ ops i st fun st'=>qiV sx tt Γ ops fuel (listed.setIfInBounds i true) st' k
section
variable {sx : SX} {P : Program} {tt : TT} {Γ : Gam} {o : Oper} {ops : Array Oper} {a : Act} {w0 w w' : World} {mine : Mine} {st : St} {next : Act → World → Prop} {Q : Exit → Act → World → Prop}
def qc1 (P:Program) (S:Smx):Prop:= ∀(o:Oper) (st:St) (p:Prop) (st':St),S o st=some (p,st')→p→ ∀(w0:World) (mine:Mine) (a:Act) (w:World) (next:Act→World→Prop) (Q:Exit→Act→World→Prop),R w0 mine st a w→(∀a' w',R w0 mine st' a' w'→next a' w')→o.wp P a w next Q
def qgo (P:Program) (S:Smx) (w0:World) (mine:Mine):Prop:= ∀(o:Oper) (st:St) (p:Prop) (st':St),S o st=some (p,st')→p→ ∀(a:Act) (w:World) (next:Act→World→Prop) (Q:Exit→Act→World→Prop),R w0 mine st a w→(∀a' w',R w0 mine st' a' w'→next a' w')→o.wp P a w next Q
theorem qc1.at {S:Smx} (h:qc1 P S):qgo P S w0 mine:=fun o st p st' hs hp a w next Q hr hn=>h o st p st' hs hp w0 mine a w next Q hr hn
theorem qx (P:Program):qc1 P qcL:=fun _ _ _ _ h=>by simp [qcL]at h
theorem qJO {yes no yes' no':St→Prop} (hy: ∀s,yes s→yes' s) (hn: ∀s,no s→no' s) (h:qar ops o st yes no):qar ops o st yes' no':=by
 unfold qar at h ⊢
 split
 ·rename_i hg;simp only [hg]at h;exact hy _ h
 ·rename_i j want hg
  simp only [hg]at h
  split
  ·rename_i hb;simp only [hb]at h;exact hn _ h
  ·rename_i t hb
   simp only [hb]at h
   split
   ·rename_i b hs;simp only [hs]at h;exact ⟨fun e=>hy _ (h.1 e),fun e=>hn _ (h.2 e)⟩
   ·rename_i ls hs;simp only [hs]at h;exact hn _ h
   ·rename_i hs;simp only [hs]at h;exact hn _ h
   ·rename_i h1 h2 h3
    split at h
    ·rename_i b hs;exact absurd hs (h1 b)
    ·rename_i ls hs;exact absurd hs (h2 ls)
    ·rename_i hs;exact absurd hs h3
    ·exact h
theorem qXT {yes no:St→Prop} (h:qar ops o st yes no):qar ops o st (fun _=>yes st) (fun _=>no st):=by
 unfold qar at h ⊢
 split
 ·rename_i hg;simp only [hg]at h;exact h
 ·rename_i j want hg
  simp only [hg]at h
  split
  ·rename_i hb;simp only [hb]at h;exact h
  ·rename_i t hb
   simp only [hb]at h
   split
   ·rename_i b hs
    simp only [hs]at h
    refine ⟨fun e=> ?_,fun e=> ?_⟩
    ·have:=h.1 e
     rw [←e,St.lit_self hs]at this
     exact this
    ·have:=h.2 e
     rw [←e,St.lit_self hs]at this
     exact this
   ·rename_i ls hs;simp only [hs]at h;exact h
   ·rename_i hs;simp only [hs]at h;exact h
   ·rename_i h1 h2 h3
    split at h
    ·rename_i b hs;exact absurd hs (h1 b)
    ·rename_i ls hs;exact absurd hs (h2 ls)
    ·rename_i hs;exact absurd hs h3
    ·exact h
theorem qiY {i:Nat} {K:St→Prop} (h:qdn sx tt Γ ops i st K):qch sx tt Γ ops i st K:=by
 unfold qdn at h
 unfold qch
 cases ho:ops[i]? with
 | none=>rw [ho]at h;exact h.elim
 | some o=>rw [ho]at h;exact qXT h
theorem qH2 {i:Nat} {K K':St→Prop} (hK: ∀s,K s→K' s) (h:qch sx tt Γ ops i st K):qch sx tt Γ ops i st K':=by
 unfold qch at h ⊢
 cases ho:ops[i]? with
 | none=>rw [ho]at h;exact h.elim
 | some o=>
   rw [ho]at h
   refine qJO (fun s h=> ?_) (fun s h=>hK _ h) h
   unfold qev at h ⊢
   cases hs:qeB sx i tt Γ o st with
   | none=>rw [hs]at h;exact h.elim
   | some r=>rw [hs]at h;exact ⟨h.1,hK _ h.2⟩
theorem qp7 (hT:qP P tt) (hΓ: ∀f g,Γ.get f=some g→Sound P f g) (hS:qgo P sx.S w0 mine) {k:St→Prop} (hQ: ∀a w st,R w0 mine st a w→k st→Q .normal a w):
 ∀(fuel:Nat) (listed:Array Bool) (st:St) (a:Act) (w:World),qiV sx tt Γ ops fuel listed st k→R w0 mine st a w→wpAny P .any ops Q fuel listed a w
 | 0,listed,st,a,w,h,hr=>⟨h.1,hQ a w st hr h.2⟩
 | fuel+1,listed,st,a,w,h,hr=>by
   refine ⟨fun h0=>hQ a w st hr (h.1 h0),fun i hi=> ?_⟩
   have h1:=h.2 i hi
   unfold qch at h1
   unfold wpOp
   split at h1
   ·exact h1.elim
   ·rename_i o ho
    simp only [ho]
    rcases qw7 h1 hr with ⟨hw,h'⟩ | ⟨hw,h'⟩
    ·rw [if_pos hw]
     unfold qev qeB at h'
     cases hb:sx.ids.contains i with
     | true=>
       rw [hb]at h'
       simp only [cond_true]at h'
       split at h'
       ·rename_i p st' hs
        exact .inl (hS o st p st' hs h'.1 a w _ _ hr fun a' w' hr'=>qp7 hT hΓ hS hQ fuel _ st' a' w' h'.2 hr')
       ·exact h'.elim
     | false=>
       rw [hb]at h'
       simp only [cond_false]at h'
       split at h'
       ·rename_i p st' hs
        exact .inl (qwk hT hΓ hs h'.1 hr fun a' w' hr'=>qp7 hT hΓ hS hQ fuel _ st' a' w' h'.2 hr')
       ·exact h'.elim
    ·rw [if_neg (by rw [hw];simp)]
     exact qp7 hT hΓ hS hQ fuel _ _ _ _ h' (hr.skip o.dst)
theorem qId {d:Option Tmp} {l:LV} {x:Operand} (h: ∀t,d=some t→x≠ .tmp t):(st.put d l).ev x=st.ev x:=by
 cases d with
 | none=>rfl
 | some t=>
   cases x with
   | tmp u=>
     have:t≠u:=fun e=>h t rfl (e▸rfl)
     simp only [St.put,St.ev,List.getD_eq_getElem?_getD]
     rw [List.getElem?_set_ne this]
   | _=>rfl
theorem qHN {d:Option Tmp} {l:LV} {t:Nat} (h:d≠some t):(st.put d l).env[t]?=st.env[t]?:=by
 cases d with
 | none=>rfl
 | some u=>
   have:u≠t:=fun e=>h (e▸rfl)
   simp only [St.put]
   rw [List.getElem?_set_ne this]
theorem qNJ {d:Option Tmp} {l:LV} {h':List Blk} {x:Operand} (h: ∀t,d=some t→x≠ .tmp t):(st.res d l h').ev x=st.ev x:=by
 have:(st.res d l h').ev x=(st.put d l).ev x:=by cases x<;>rfl
 rw [this,qId h]
theorem qIG {d d':Option Tmp} {l l':LV} {h':List Blk} (h: ∀t,d=some t→d'≠some t):(st.put d l).res d' l' h'=(st.res d' l' h').put d l:=by
 cases d with
 | none=>rfl
 | some t=>
   cases d' with
   | none=>rfl
   | some u=>
     have:t≠u:=fun e=>h t rfl (e▸rfl)
     simp only [St.res,St.put,St.mk.injEq,and_true]
     exact List.set_comm _ _ this
theorem St.put_heap' (st:St) (d:Option Tmp) (l:LV):(st.put d l).heap=st.heap:=by cases d<;>rfl
theorem qKc {tt:TT} {t:Nat} {x:LV} {lo hi:Option LV} {d:Option Tmp} {st:St} {p:Prop} {s:St} (hs:qd8 tt t x lo hi d st=some (p,s)): ∃l,s=st.put d l∧ ∀st2:St,qd8 tt t x lo hi d st2=some (p,st2.put d l):=by
 unfold qd8 at hs
 split at hs
 ·simp at hs
 ·rename_i ti ht
  split at hs
  ·rename_i sv
   split at hs
   ·rename_i l h hl hh
    split at hs
    ·rename_i hc
     simp only [Option.some.injEq,Prod.mk.injEq]at hs
     obtain ⟨rfl,rfl⟩:=hs
     exact ⟨_,rfl,fun st2=>by simp only [qd8,ht,hl,hh];rw [if_pos hc]⟩
    ·simp at hs
   ·simp at hs
  ·rename_i e te xs n
   split at hs
   ·rename_i l h hl hh
    split at hs
    ·rename_i hc
     simp only [Option.some.injEq,Prod.mk.injEq]at hs
     obtain ⟨rfl,rfl⟩:=hs
     exact ⟨_,rfl,fun st2=>by simp only [qd8,ht,hl,hh];rw [if_pos hc]⟩
    ·simp at hs
   ·simp at hs
  ·simp at hs
inductive Md
 | any
 | eq
 | grow
 | box
def HpM:Md→List Blk→List Blk→Prop
 | .any,_,_=>True
 | .eq,h,h2=>h2=h
 | .grow,h,h2=> ∃l,h2=h++l
 | .box,h,h2=> ∀(id:Nat) (cs:List LC),h[id]?=some (.box cs)→h2[id]?=some (.box cs)
theorem HpM.refl (md:Md) (h:List Blk):HpM md h h:=by
 cases md
 ·trivial
 ·rfl
 ·exact ⟨[],by simp⟩
 ·exact fun _ _ h=>h
theorem HpM.trans {md:Md} {h1 h2 h3:List Blk} (a:HpM md h1 h2) (b:HpM md h2 h3):HpM md h1 h3:=by
 cases md with
 | any=>trivial
 | eq=>exact Eq.trans b a
 | grow=>obtain ⟨l,rfl⟩:=a;obtain ⟨l',rfl⟩:=b;exact ⟨l++l',by simp⟩
 | box=>exact fun id cs h=>b id cs (a id cs h)
theorem HpM.app (h l:List Blk):HpM .box h (h++l):=fun id cs e=>by rw [List.getElem?_append_left (List.getElem?_eq_some_iff.1 e).1];exact e
theorem HpM.kill {h:List Blk}: ∀(ids:List Nat) (h1:List Blk),HpM .box h h1→(∀id∈ids,∀cs,h[id]?≠some (.box cs))→HpM .box h (kill h1 ids)
 | [],h1,H,_=>H
 | i::r,h1,H,hn=>by
   refine HpM.kill r (h1.set i .dead) (fun id cs e=> ?_) fun id hid=>hn id (by simp [hid])
   have:i≠id:=fun e'=>hn i (by simp) cs (e'▸e)
   rw [List.getElem?_set_ne this]
   exact H id cs e
theorem HpM.freeze: ∀(ids:List Nat) (h1:List Blk),HpM .box h1 (freeze h1 ids)
 | [],_=>fun _ _ e=>e
 | i::r,h1=>by
   refine HpM.trans (md:= .box) (fun id cs e=> ?_) (HpM.freeze r (h1.modify i Blk.froze))
   rw [List.getElem?_modify]
   by_cases e':i=id
   ·subst e';simp [e,Blk.froze]
   ·simp [e',e]
theorem qy2 {h:List Blk}: ∀{t:Ty} {cs r:List LC} {v:Val t},qu h t cs=some (v,r)→ ∀id∈qk cs,id∈qk r∨ ∀b,h[id]?≠some (.box b)
 | .pair a b,cs,r,v,hi,id,hm=>by
   simp only [qu]at hi
   split at hi
   ·rename_i x cs1 h1
    split at hi
    ·rename_i y cs2 h2
     simp only [Option.some.injEq,Prod.mk.injEq]at hi
     obtain ⟨rfl,rfl⟩:=hi
     rcases qy2 h1 id hm with hm | hm
     ·exact qy2 h2 id hm
     ·exact .inr hm
    ·simp at hi
   ·simp at hi
 | .int _,[],_,_,hi,_,_=>by simp [qu]at hi
 | .bool,[],_,_,hi,_,_=>by simp [qu]at hi
 | .str,[],_,_,hi,_,_=>by simp [qu]at hi
 | .hdr,[],_,_,hi,_,_=>by simp [qu]at hi
 | .slice _ _,[],_,_,hi,_,_=>by simp [qu]at hi
 | .int k,c::cs,r,v,hi,id,hm=>by
   cases c<;>simp [qu]at hi
   obtain ⟨_,_,rfl⟩:=hi
   exact .inl hm
 | .bool,c::cs,r,v,hi,id,hm=>by
   cases c<;>simp [qu]at hi
   obtain ⟨_,rfl⟩:=hi
   exact .inl hm
 | .str,c::cs,r,v,hi,id,hm=>by
   cases c<;>simp [qu]at hi
   obtain ⟨_,rfl⟩:=hi
   exact .inl hm
 | .hdr,c::cs,r,v,hi,id,hm=>by
   cases c<;>simp [qu]at hi
   obtain ⟨_,rfl⟩:=hi
   exact .inl hm
 | .slice e t,c::cs,r,v,hi,id,hm=>by
   cases c<;>simp [qu]at hi
   case own i=>
    split at hi
    ·rename_i e' t' xs _ _ _ hr
     simp at hi
     obtain ⟨_,_,rfl⟩:=hi
     simp only [qk,List.filterMap_cons,LC.movedId,List.mem_cons]at hm
     rcases hm with rfl | hm
     ·exact .inr fun b hb=>by rw [hr]at hb;simp at hb
     ·exact .inl hm
    ·simp at hi
   case nils=>
    obtain ⟨_,rfl⟩:=hi
    exact .inl hm
   case sl=>
    obtain ⟨_,_,rfl⟩:=hi
    exact .inl hm
theorem qIH {h:List Blk} {t:Ty}: ∀{css:List (List LC)} {vs:List (Val t)},qcw h t css=some vs→ ∀id∈qk css.flatten,∀b,h[id]?≠some (.box b)
 | [],_,_,id,hm=>by simp [qk]at hm
 | cs::r,vs,hi,id,hm=>by
   simp only [qcw]at hi
   split at hi
   ·rename_i v h1
    split at hi
    ·rename_i vs' h2
     simp only [List.flatten_cons,qk,List.filterMap_append,List.mem_append]at hm
     rcases hm with hm | hm
     ·rcases qy2 h1 id hm with hm | hm
      ·simp [qk]at hm
      ·exact hm
     ·exact qIH h2 id hm
    ·simp at hi
   ·simp at hi
theorem qTf {h:List Blk} {e:Nat} {te:Ty} {x:LV} {r:List (Val te)×Bool×List Nat} (hd:qjf h e te x=some r): ∀id∈r.2.2,∀b,h[id]?≠some (.box b):=by
 unfold qjf at hd
 split at hd
 ·cases hd;intro id hid;simp at hid
 ·rename_i i
  split at hd
  ·rename_i hr
   split at hd
   ·cases hd
    intro id hid b hb
    simp only [List.mem_singleton]at hid
    subst hid
    rw [hr]at hb;simp at hb
   ·simp at hd
  ·simp at hd
 ·simp at hd
theorem qQw {h:List Blk} {e:Nat} {te:Ty} {x:LV} {r:List (Val te)×Bool×List Nat} (hd:qiQ h e te x=some r): ∀id∈r.2.2,∀b,h[id]?≠some (.box b):=by
 unfold qiQ at hd
 split at hd
 ·cases hd;intro id hid;simp at hid
 ·rename_i i
  split at hd
  ·rename_i hr
   split at hd
   ·cases hd
    intro id hid b hb
    simp only at hid
    split at hid
    ·simp at hid
    ·simp only [List.mem_singleton]at hid
     subst hid
     rw [hr]at hb;simp at hb
   ·simp at hd
  ·simp at hd
 ·split at hd
  ·cases hd;intro id hid;simp at hid
  ·simp at hd
 ·simp at hd
def rdM:Md→Oper→St→Prop
 | .any,o,st=>qeW o st=none
 | .eq,_,_=>True
 | .grow,o,st=> ∀id,qeW o st=some id→id<st.heap.length
 | .box,o,st=> ∀id,qeW o st=some id→ ∃cs,st.heap[id]?=some (.box cs)
def qqu (o:Oper):Bool:=qcV o||match o.op with
 | .alloc _ | .box .. | .makeSlice .. | .buildSlice .. | .slice .. =>true
 | .call c=>match c.callee with
   | .value (.func _)=>true
   | .builtin .append=>true
   | _=>false
 | _=>false
def qpm (o:Oper):Bool:=qcV o||match o.op with
 | .alloc _ | .box .. | .makeSlice .. =>true
 | _=>false
def mdB:Md→Oper→Bool
 | .any,_=>true
 | .eq,o=>qcV o
 | .grow,o=>qpm o
 | .box,o=>qqu o
theorem qWA {md:Md} (hb:mdB md o=true) {p:Prop} {s:St} (hs:qan tt Γ o st=some (p,s)):HpM md st.heap s.heap:=by
 have quiet:qcV o=true→s.heap=st.heap:=fun hq=>by
  rw [quf hq]at hs
  obtain ⟨l2,h4,_⟩:=qvs hq hs
  rw [h4];cases o.dst<;>rfl
 cases md with
 | any=>trivial
 | eq=>exact quiet hb
 | grow=>
   simp only [mdB,qpm,Bool.or_eq_true]at hb
   rcases hb with hq | hb
   ·exact ⟨[],by rw [quiet hq];simp⟩
   ·obtain ⟨dst,op,type,pos,after,guard⟩:=o
    cases op<;>simp only [Bool.false_eq_true]at hb
    case alloc t=>
        simp only [qan,qW]at hs
        split at hs
        ·cases hs;exact ⟨_,rfl⟩
        ·simp at hs
    case box t x=>
        simp only [qan,qW]at hs
        split at hs
        ·cases hs;exact ⟨_,rfl⟩
        ·simp at hs
    case makeSlice t l c=>
        simp only [qan,qW]at hs
        split at hs
        ·split at hs
         ·cases hs;exact ⟨_,rfl⟩
         ·simp at hs
        ·simp at hs
 | box=>
   simp only [mdB,qqu,Bool.or_eq_true]at hb
   rcases hb with hq | hb
   ·rw [quiet hq];exact HpM.refl .box _
   ·obtain ⟨dst,op,type,pos,after,guard⟩:=o
    cases op<;>simp only [Bool.false_eq_true]at hb
    case alloc t=>
      simp only [qan,qW]at hs
      split at hs
      ·cases hs;exact HpM.app _ _
      ·simp at hs
    case box t x=>
      simp only [qan,qW]at hs
      split at hs
      ·cases hs;exact HpM.app _ _
      ·simp at hs
    case makeSlice t l c=>
      simp only [qan,qW]at hs
      split at hs
      ·split at hs
       ·cases hs;exact HpM.app _ _
       ·simp at hs
      ·simp at hs
    case buildSlice t n ps=>
      simp only [qan,qW]at hs
      split at hs
      ·split at hs
       ·split at hs
        ·split at hs
         ·rename_i xs hxs
          cases hs
          exact HpM.trans (md:= .box) (HpM.kill _ _ (HpM.refl .box _) (qIH hxs)) (HpM.app _ _)
         ·simp at hs
        ·simp at hs
       ·simp at hs
      ·simp at hs
    case slice t x lo hi mx=>
      cases mx with
      | some _=>simp [qan,qW]at hs
      | none=>
        simp only [qan]at hs
        unfold qfG at hs
        split at hs
        ·unfold qjo at hs
         split at hs
         ·split at hs
          ·split at hs
           ·cases hs;exact HpM.freeze _ _
           ·simp at hs
          ·simp at hs
         ·simp at hs
        ·obtain ⟨l,rfl,_⟩:=qKc hs
         rw [St.put_heap'];exact HpM.refl .box _
    case call c=>
      simp only [qan]at hs
      split at hs
      ·rename_i f hc
       unfold qgY at hs
       split at hs
       ·simp at hs
       ·split at hs
        ·unfold qgn at hs
         split at hs
         ·split at hs
          ·split at hs
           ·split at hs
            ·cases hs;exact HpM.app _ _
            ·simp at hs
           ·simp at hs
          ·simp at hs
         ·simp at hs
        ·split at hs
         ·cases hs;exact HpM.app _ _
         ·cases hs;exact HpM.freeze _ _
      ·split at hb
       ·rename_i hne _ f hc
        exact absurd hc (hne f)
       ·rename_i hc
        simp only [qW,hc]at hs
        split at hs
        ·split at hs
         ·unfold qgH at hs
          split at hs
          ·simp at hs
          ·split at hs
           ·split at hs
            ·rename_i hd
             split at hs
             ·rename_i hsr
              split at hs
              ·cases hs
               refine HpM.trans (md:= .box) (HpM.kill _ _ (HpM.refl .box _) fun id hid=> ?_) (HpM.app _ _)
               rcases List.mem_append.1 hid with hid | hid
               ·exact qTf hd id hid
               ·exact qQw hsr id hid
              ·simp at hs
             ·simp at hs
            ·simp at hs
           ·simp at hs
         ·simp at hs
        ·simp at hs
       ·simp at hb
structure Agree (ops:Array Oper) (o:Oper) (free:Md) (st st2:St):Prop where
 ev: ∀x∈o.op.operands,st2.ev x=st.ev x
 gd: ∀j want t,o.guard=some (j,want)→(ops[j]?).bind (·.dst)=some t→st2.env[t]?=st.env[t]?
 heap:HpM free st.heap st2.heap
theorem Agree.trans {free:Md} {s1 s2 s3:St} (h:Agree ops o free s1 s2) (h':Agree ops o free s2 s3):Agree ops o free s1 s3:=
 ⟨fun x hx=>(h'.ev x hx).trans (h.ev x hx),fun j wt t h1 h2=>(h'.gd j wt t h1 h2).trans (h.gd j wt t h1 h2),h.heap.trans h'.heap⟩
theorem qnj {free:Md} {st2:St} (ha:Agree ops o free st st2) (yes no:Prop):qar ops o st2 (fun _=>yes) (fun _=>no)↔qar ops o st (fun _=>yes) (fun _=>no):=by
 unfold qar
 split
 ·exact Iff.rfl
 ·rename_i j want hg
  split
  ·exact Iff.rfl
  ·rename_i t hb
   rw [ha.gd j want t hg hb]
def Yl (sx:SX) (tt:TT) (Γ:Gam) (ops:Array Oper) (i:Nat) (o:Oper) (free:Md) (st:St) (l:LV):Prop:= ∀st2,Agree ops o free st st2→ ∀K:St→Prop,K (st2.put o.dst l)→qch sx tt Γ ops i st2 K
theorem Yl.mono {i:Nat} {free:Md} {st2:St} {l:LV} (h:Yl sx tt Γ ops i o free st l) (ha:Agree ops o free st st2):Yl sx tt Γ ops i o free st2 l:=fun st3 ha'=>h st3 (ha.trans ha')
theorem qKQ {yes no:Prop} (h:qar ops o st (fun _=>yes) (fun _=>no)):(yes∧ ∀yes' no':Prop,yes'→qar ops o st (fun _=>yes') (fun _=>no'))∨(no∧ ∀yes' no':Prop,no'→qar ops o st (fun _=>yes') (fun _=>no')):=by
 unfold qar at h
 split at h
 ·rename_i hg
  exact .inl ⟨h,fun y n hy=>by unfold qar;simp only [hg];exact hy⟩
 ·rename_i j want hg
  split at h
  ·rename_i hb
   exact .inr ⟨h,fun y n hn=>by unfold qar;simp only [hg,hb];exact hn⟩
  ·rename_i t hb
   split at h
   ·rename_i b hs
    by_cases e:b=want
    ·refine .inl ⟨h.1 e,fun y n hy=> ?_⟩
     unfold qar;simp only [hg,hb,hs]
     exact ⟨fun _=>hy,fun e'=>by subst e;cases b<;>simp at e'⟩
    ·have e':b= !want:=by cases b<;>cases want<;>simp_all
     refine .inr ⟨h.2 e',fun y n hn=> ?_⟩
     unfold qar;simp only [hg,hb,hs]
     exact ⟨fun e''=>absurd e'' e,fun _=>hn⟩
   ·rename_i ls hs
    exact .inr ⟨h,fun y n hn=>by unfold qar;simp only [hg,hb,hs];exact hn⟩
   ·rename_i hs
    exact .inr ⟨h,fun y n hn=>by unfold qar;simp only [hg,hb,hs];exact hn⟩
   ·exact h.elim
theorem qqi {i:Nat} {free:Md} (hsm:sx.ids.contains i=false) (hi:ops[i]?=some o) (hq:qcV o=true) (hf:rdM free o st) {K:St→Prop} (h:qch sx tt Γ ops i st K): ∃l,K (st.put o.dst l)∧Yl sx tt Γ ops i o free st l:=by
 unfold qch at h
 simp only [hi]at h
 rcases qKQ h with ⟨h1,h2⟩ | ⟨h1,h2⟩
 ·unfold qev qeB at h1
  simp only [hsm,cond_false]at h1
  split at h1
  ·rename_i p s hs
   obtain ⟨hp,hk⟩:=h1
   rw [quf hq]at hs
   obtain ⟨l,rfl,hc⟩:=qvs hq hs
   refine ⟨l,hk,fun st2 ha K' hK'=> ?_⟩
   unfold qch
   simp only [hi]
   rw [qnj ha]
   refine h2 _ _ ?_
   unfold qev qeB
   simp only [hsm,cond_false]
   rw [quf hq,hc st2 ha.ev fun id hid=> ?_]
   ·exact ⟨hp,hK'⟩
   ·have e:=ha.heap
    cases free with
    | any=>simp only [rdM]at hf;rw [hf]at hid;simp at hid
    | eq=>have e:st2.heap=st.heap:=e;rw [e]
    | grow=>
      obtain ⟨l2,e⟩:=e
      rw [e,List.getElem?_append_left (hf id hid)]
    | box=>
      obtain ⟨cs,hcs⟩:=hf id hid
      rw [hcs];exact e id cs hcs
  ·exact h1.elim
 ·refine ⟨.tup [],h1,fun st2 ha K' hK'=> ?_⟩
  unfold qch
  simp only [hi]
  rw [qnj ha]
  exact h2 _ _ hK'
def ql7 (o:Oper) (st:St):Prop:=match o.op with
 | .slice _ x _ _ none=>match st.ev x with
   | .one (.own _)=>False
   | _=>True
 | _=>False
theorem qVy {st:St} (hp:ql7 o st) {p:Prop} {s:St} (hs:qan tt Γ o st=some (p,s)): ∃l,s=st.put o.dst l∧ ∀st2:St,(∀x∈o.op.operands,st2.ev x=st.ev x)→qan tt Γ o st2=some (p,st2.put o.dst l):=by
 obtain ⟨dst,op,type,pos,after,guard⟩:=o
 unfold ql7 at hp
 split at hp
 ·rename_i t x lo hi ho
  have ho:op= .slice t x lo hi none:=ho
  subst ho
  have e: ∀(l:Option LV) (h:Option LV) (st2:St),qfG tt t (st.ev x) l h dst st2=qd8 tt t (st.ev x) l h dst st2:=fun l h st2=>by
   unfold qfG
   split
   ·rename_i id hx;rw [hx]at hp;exact hp.elim
   ·rfl
  simp only [qan]at hs ⊢
  rw [e]at hs
  obtain ⟨l,hl,hk⟩:=qKc hs
  refine ⟨l,hl,fun st2 h2=> ?_⟩
  have m1:st2.ev x=st.ev x:=h2 x (by cases lo<;>cases hi<;>simp [Op.operands])
  have m2:lo.map st2.ev=lo.map st.ev:=by
   cases lo with
   | none=>rfl
   | some y=>simp only [Option.map_some];rw [h2 y (by cases hi<;>simp [Op.operands])]
  have m3:hi.map st2.ev=hi.map st.ev:=by
   cases hi with
   | none=>rfl
   | some y=>simp only [Option.map_some];rw [h2 y (by cases lo<;>simp [Op.operands])]
  rw [m1,m2,m3,e]
  exact hk st2
 ·exact hp.elim
theorem qUw {i:Nat} (hsm:sx.ids.contains i=false) (hi:ops[i]?=some o) (hp:ql7 o st) {K:St→Prop} (h:qch sx tt Γ ops i st K): ∃l,K (st.put o.dst l)∧Yl sx tt Γ ops i o .any st l:=by
 unfold qch at h
 simp only [hi]at h
 rcases qKQ h with ⟨h1,h2⟩ | ⟨h1,h2⟩
 ·unfold qev qeB at h1
  simp only [hsm,cond_false]at h1
  split at h1
  ·rename_i p s hs
   obtain ⟨hp',hk⟩:=h1
   obtain ⟨l,rfl,hc⟩:=qVy hp hs
   refine ⟨l,hk,fun st2 ha K' hK'=> ?_⟩
   unfold qch
   simp only [hi]
   rw [qnj ha]
   refine h2 _ _ ?_
   unfold qev qeB
   simp only [hsm,cond_false]
   rw [hc st2 ha.ev]
   exact ⟨hp',hK'⟩
  ·exact h1.elim
 ·refine ⟨.tup [],h1,fun st2 ha K' hK'=> ?_⟩
  unfold qch
  simp only [hi]
  rw [qnj ha]
  exact h2 _ _ hK'
theorem qIy {x:Operand} {t:Tmp} (hx:x∈o.op.operands) (e:x= .tmp t):t∈o.looksAt ops:=by
 subst e
 exact List.mem_append_left _ (List.mem_filterMap.2 ⟨.tmp t,by simpa using hx,rfl⟩)
theorem qHi {j:Nat} {want:Bool} {t:Tmp} (hg:o.guard=some (j,want)) (hb:(ops[j]?).bind (·.dst)=some t):t∈o.looksAt ops:=by
 simp [Oper.looksAt,hg,hb]
theorem qWK {j:Nat} {oi oj:Oper} {l:LV} {free:Md} (hj:ops[j]?=some oj) (hsj:sx.ids.contains j=false) (hap:oi.apart ops oj=true) (hqj:mdB free oj=true) {K:St→Prop} (h:qch sx tt Γ ops j (st.put oi.dst l) K):
 qch sx tt Γ ops j st fun st'=>K (st'.put oi.dst l)∧Agree ops oi free st st':=by
 obtain ⟨h1,h2,h3⟩:=Oper.apart_spec hap
 have ag:Agree ops oj .eq st (st.put oi.dst l):=⟨fun x hx=>qId fun t ht e=>h1 t ht (qIy hx e),fun g want t hg hb=>qHN fun e=>h1 t e (qHi hg hb),St.put_heap _ _ _⟩
 have agi: ∀(l':LV) (h':List Blk),HpM free st.heap h'→Agree ops oi free st (st.res oj.dst l' h'):=fun l' h' hh=>⟨fun x hx=>qNJ fun t ht e=>h3 t ht (qIy hx e),fun g want t hg hb=>by
  have:(st.res oj.dst l' h').env=(st.put oj.dst l').env:=rfl
  rw [this]
  exact qHN fun e=>h3 t e (qHi hg hb),hh⟩
 unfold qch at h ⊢
 simp only [hj]at h ⊢
 rw [qnj ag]at h
 refine qJO (fun _ h=> ?_) (fun _ h=> ?_) h
 ·unfold qev qeB at h ⊢
  simp only [hsj,cond_false]at h ⊢
  split at h
  ·rename_i p s hs
   obtain ⟨l',h',rfl,hc⟩:=qPW hs
   have hs':=hc st (fun x hx=>(ag.ev x hx).symm) (St.put_heap _ _ _).symm
   rw [hs']
   refine ⟨h.1,?_,agi l' h' (qWA hqj hs')⟩
   rw [←qIG h2];exact h.2
  ·exact h.elim
 ·have e:(st.put oi.dst l).put oj.dst (.tup [])=(st.put oj.dst (.tup [])).put oi.dst l:=by
   have:=qIG (st:=st) (l:=l) (l':= .tup []) (h':=st.heap) h2
   rw [St.res_self]at this
   have e2:(st.put oi.dst l).res oj.dst (.tup []) st.heap=(st.put oi.dst l).put oj.dst (.tup []):=by
        have:=St.res_self (st.put oi.dst l) oj.dst (.tup [])
        rw [St.put_heap]at this
        exact this
   rw [←e2];exact this
  rw [e]at h
  refine ⟨h,?_⟩
  have:=agi (.tup []) st.heap (HpM.refl _ _)
  rwa [St.res_self]at this
def OkS (ops:Array Oper) (i:Nat) (S:List Nat):Prop:= ∀j∈S,j≠i→ ∃oj e,ops[j]?=some oj∧e∈oj.after∧Region.binds .any e=true∧e.on∈S
theorem qm3 {i:Nat} {oi:Oper} {l:LV} {free:Md} {S:List Nat} (hi:ops[i]?=some oi) (hS:OkS ops i S) (hiS:i∈S) {k:St→Prop}:
 ∀(fuel:Nat) (listed:Array Bool) (st:St),
  (∀j oj,ops[j]?=some oj→j≠i→listed.getD j true=false→(∀e∈oj.after,Region.binds .any e=true→e.on≠i)→oi.apart ops oj=true)→
  (∀s∈S,listed.getD s true=false)→
  (∀j oj,ops[j]?=some oj→listed.getD j true=false→j∉S→mdB free oj=true∧sx.ids.contains j=false)→
  i∈Region.ready .any ops listed→Yl sx tt Γ ops i oi free st l→
  qiV sx tt Γ ops fuel (listed.setIfInBounds i true) (st.put oi.dst l) k→qiV sx tt Γ ops (fuel+1) listed st k:=by
 have qxN: ∀s,Agree ops oi free s s:=fun s=>⟨fun _ _=>rfl,fun _ _ _ _ _=>rfl,HpM.refl _ _⟩
 intro fuel
 induction fuel with
 | zero=>
   intro listed st _ _ _ hr hy H
   refine ⟨fun h=>(by rw [h]at hr;cases hr),fun j hj=> ?_⟩
   by_cases hji:j=i
   ·subst hji;exact hy st (qxN st) _ H
   ·have:=ready_mono hj hji
    rw [H.1]at this
    cases this
 | succ fuel ih=>
   intro listed st hfree hSu hqu hr hy H
   refine ⟨fun h=>(by rw [h]at hr;cases hr),fun j hj=> ?_⟩
   by_cases hji:j=i
   ·subst hji;exact hy st (qxN st) _ H
   ·have h1:=H.2 j (ready_mono hj hji)
    obtain ⟨hjun,oj,hoj,hall⟩:=mem_ready.1 hj
    have unl: ∀x:Nat,listed.getD x true=false→listed.getD x false≠true:=fun x h0 h1=>by
        rcases Nat.lt_or_ge x listed.size with h' | h'
        ·simp [h']at h0 h1;rw [h0]at h1;cases h1
        ·simp [Array.getElem?_eq_none h']at h1
    have hnot: ∀e∈oj.after,Region.binds .any e=true→e.on≠i:=fun e he hb heq=>by
        have h1:=hall e he hb
        rw [heq]at h1
        exact unl i (hSu i hiS) h1
    have hjS:j∉S:=fun hm=>by
        obtain ⟨oj',e,ho',he,hb,hon⟩:=hS j hm hji
        rw [hoj]at ho';cases ho'
        exact unl _ (hSu _ hon) (hall e he hb)
    have h2:=qWK (free:=free) hoj (hqu j oj hoj hjun hjS).2 (hfree j oj hoj hji hjun hnot) (hqu j oj hoj hjun hjS).1 h1
    have keep: ∀s,(listed.setIfInBounds j true).getD s true=false→listed.getD s true=false:=fun s hs=>by
        by_cases e:j=s
        ·subst e;exact hjun
        ·rw [getD_set_ne true e]at hs;exact hs
    refine qH2 (fun st' h3=>ih (listed.setIfInBounds j true) st' (fun k' ok' hk' hki' hun hno=>hfree k' ok' hk' hki' (keep k' hun) hno) (fun s hs=> ?_) (fun k' ok' hk' hun hns=>hqu k' ok' hk' (keep k' hun) hns) (ready_mono hr (Ne.symm hji)) (hy.mono h3.2) ?_) h2
    ·rw [getD_set_ne true (fun e:j=s=>hjS (by subst e;exact hs))];exact hSu s hs
    ·rw [Array.setIfInBounds_comm _ _ hji]
     exact h3.1
end
end Go.T
/- T: the order of a region's branches, planned. -/
namespace Go.T
open Go
def qhE (ops:Array Oper) (i:Nat):Bool:=match ops[i]? with
 | some o=>qcV o
 | none=>false
def qBh (ops:Array Oper) (i:Nat):Bool:=match ops[i]? with
 | some o=>qpm o
 | none=>false
def qBm (ops:Array Oper) (i:Nat):Bool:=match ops[i]? with
 | some o=>qqu o
 | none=>false
def sliceAt (ops:Array Oper) (i:Nat):Bool:=(ops[i]?).isSome
def qia (ops:Array Oper) (S:List Nat) (j:Nat):Bool:=match ops[j]? with
 | some o=>o.after.any fun e=>Region.binds .any e&&S.contains e.on
 | none=>false
def qcm (ops:Array Oper) (i:Nat):List Nat:=(List.range ops.size).foldl (fun S j=>if j !=i&&qia ops S j then j::S else S) [i]
def qqL (ids:List Nat) (ops:Array Oper) (listed:Array Bool):Bool:=ids.isEmpty||(List.range ops.size).all fun j=>listed.getD j true|| !ids.contains j
def qaz (ids:List Nat) (ops:Array Oper):Tree→Nat→Array Bool→List Nat→Bool
 | .done,_,listed,_=>(Region.ready .any ops listed).isEmpty
 | .first i t,fuel+1,listed,_=>(Region.ready .any ops listed).contains i&&Region.free .any ops listed i&&qhE ops i&&qqL ids ops listed&&qaz ids ops t fuel (listed.setIfInBounds i true) []
 | .pure i t,fuel+1,listed,_=>(Region.ready .any ops listed).contains i&&Region.free .any ops listed i&&sliceAt ops i&&qqL ids ops listed&&qaz ids ops t fuel (listed.setIfInBounds i true) []
 | .quiet i t,fuel+1,listed,_=>(Region.ready .any ops listed).contains i&&Region.free .any ops listed i&&qhE ops i&& !ids.contains i&&
    ((qcm ops i).contains i&&(qcm ops i).all (fun j=>j==i||qia ops (qcm ops i) j)&&(qcm ops i).all (fun j=>listed.getD j true==false)&&
      (List.range ops.size).all fun j=>listed.getD j true||(qcm ops i).contains j||(qhE ops j&& !ids.contains j))&&
    qaz ids ops t fuel (listed.setIfInBounds i true) []
 | .grow i t,fuel+1,listed,_=>(Region.ready .any ops listed).contains i&&Region.free .any ops listed i&&qhE ops i&& !ids.contains i&&
    ((qcm ops i).contains i&&(qcm ops i).all (fun j=>j==i||qia ops (qcm ops i) j)&&(qcm ops i).all (fun j=>listed.getD j true==false)&&
      (List.range ops.size).all fun j=>listed.getD j true||(qcm ops i).contains j||(qBh ops j&& !ids.contains j))&&
    qaz ids ops t fuel (listed.setIfInBounds i true) []
 | .keep i t,fuel+1,listed,_=>(Region.ready .any ops listed).contains i&&Region.free .any ops listed i&&qhE ops i&& !ids.contains i&&
    ((qcm ops i).contains i&&(qcm ops i).all (fun j=>j==i||qia ops (qcm ops i) j)&&(qcm ops i).all (fun j=>listed.getD j true==false)&&
      (List.range ops.size).all fun j=>listed.getD j true||(qcm ops i).contains j||(qBm ops j&& !ids.contains j))&&
    qaz ids ops t fuel (listed.setIfInBounds i true) []
 | .alt i t r,fuel+1,listed,acc=>qaz ids ops t fuel (listed.setIfInBounds i true) []&&qaz ids ops r (fuel+1) listed (i::acc)
 | .stop,_+1,listed,acc=> !acc.isEmpty&&(!(Region.ready .any ops listed).isEmpty)&&(Region.ready .any ops listed).all fun i=>acc.contains i
 | _,_,_,_=>false
def qmS (ops:Array Oper) (i:Nat) (st:St):Prop:=match ops[i]? with
 | some o=>qeW o st=none
 | none=>False
def qmO (ops:Array Oper) (i:Nat) (st:St):Prop:=match ops[i]? with
 | some o=>ql7 o st
 | none=>False
def qnJ (ops:Array Oper) (i:Nat) (st:St):Prop:=match ops[i]? with
 | some o=>match qeW o st with
   | some id=>id<st.heap.length
   | none=>True
 | none=>False
def qs4:Option Blk→Prop
 | some (.box _)=>True
 | _=>False
def qnQ (ops:Array Oper) (i:Nat) (st:St):Prop:=match ops[i]? with
 | some o=>match qeW o st with
   | some id=>qs4 st.heap[id]?
   | none=>True
 | none=>False
def qcS (sx:SX) (tt:TT) (Γ:Gam) (ops:Array Oper):Tree→St→(St→Prop)→Prop
 | .done,st,k=>k st
 | .first i t,st,k=>qmS ops i st∧qdn sx tt Γ ops i st fun st=>qcS sx tt Γ ops t st k
 | .pure i t,st,k=>qmO ops i st∧qdn sx tt Γ ops i st fun st=>qcS sx tt Γ ops t st k
 | .quiet i t,st,k=>qdn sx tt Γ ops i st fun st=>qcS sx tt Γ ops t st k
 | .grow i t,st,k=>qnJ ops i st∧qdn sx tt Γ ops i st fun st=>qcS sx tt Γ ops t st k
 | .keep i t,st,k=>qnQ ops i st∧qdn sx tt Γ ops i st fun st=>qcS sx tt Γ ops t st k
 | .alt i t r,st,k=>(qdn sx tt Γ ops i st fun st=>qcS sx tt Γ ops t st k)∧qcS sx tt Γ ops r st k
 | .stop,_,_=>True
 | .sem _ _,_,_=>False
section
variable {sx : SX} {tt : TT} {Γ : Gam} {ops : Array Oper}
theorem qnY {i:Nat} (h:qhE ops i=true): ∃o,ops[i]?=some o∧qcV o=true:=by
 unfold qhE at h
 split at h
 ·rename_i o ho;exact ⟨o,ho,h⟩
 ·simp at h
theorem qVt {i:Nat} (h:qBh ops i=true): ∃o,ops[i]?=some o∧qpm o=true:=by
 unfold qBh at h
 split at h
 ·rename_i o ho;exact ⟨o,ho,h⟩
 ·simp at h
theorem qNE {i:Nat} (h:qBm ops i=true): ∃o,ops[i]?=some o∧qqu o=true:=by
 unfold qBm at h
 split at h
 ·rename_i o ho;exact ⟨o,ho,h⟩
 ·simp at h
theorem qvt {S:List Nat} {j:Nat} (h:qia ops S j=true): ∃oj e,ops[j]?=some oj∧e∈oj.after∧Region.binds .any e=true∧e.on∈S:=by
 unfold qia at h
 split at h
 ·rename_i o ho
  obtain ⟨e,he,hb⟩:=Array.any_eq_true'.1 h
  simp only [Bool.and_eq_true]at hb
  exact ⟨o,e,ho,he,hb.1,by simpa using hb.2⟩
 ·simp at h
theorem qpo {ids:List Nat} {listed:Array Bool} (h:qqL ids ops listed=true) {j:Nat} (hj:j<ops.size) (hun:listed.getD j true=false):ids.contains j=false:=by
 unfold qqL at h
 rcases Bool.or_eq_true .. |>.mp h with h | h
 ·have:ids=[]:=by simpa using h
  subst this;rfl
 ·have:=List.all_eq_true.1 h j (by simpa using hj)
  rw [hun]at this
  simpa using this
theorem qf8 {k:St→Prop}: ∀(t:Tree) (fuel:Nat) (listed:Array Bool) (acc:List Nat) (st:St),qaz sx.ids ops t fuel listed acc=true→qcS sx tt Γ ops t st k→
 (∀f,fuel=f+1→ ∀i∈acc,qch sx tt Γ ops i st fun s=>qiV sx tt Γ ops f (listed.setIfInBounds i true) s k)→qiV sx tt Γ ops fuel listed st k
 | .done,fuel,listed,acc,st,hp,h,_=>by
   have hr:Region.ready .any ops listed=[]:=by
    cases fuel<;>simpa [qaz] using hp
   cases fuel with
   | zero=>exact ⟨hr,h⟩
   | succ f=>exact ⟨fun _=>h,by rw [hr];simp⟩
 | .first i t,0,listed,acc,st,hp,h,_=>by simp [qaz]at hp
 | .first i t,fuel+1,listed,acc,st,hp,h,_=>by
   simp only [qaz,Bool.and_eq_true]at hp
   obtain ⟨⟨⟨⟨hr,hfr⟩,hq⟩,hno⟩,hp⟩:=hp
   obtain ⟨o,ho,hq⟩:=qnY hq
   obtain ⟨hrd,hs⟩:=h
   unfold qmS at hrd
   simp only [ho]at hrd
   have hri:i∈Region.ready .any ops listed:=by simpa using hr
   obtain ⟨l,hk,hy⟩:=qqi (free:= .any) (qpo hno (Array.getElem?_eq_some_iff.1 ho).1 (mem_ready.1 hri).1) ho hq hrd (qiY hs)
   refine qm3 (S:=[i]) ho (fun j hj hne=>by simp at hj;exact absurd hj hne) (by simp) fuel listed st (Region.free_spec ho hfr) (fun s hs=> ?_) (fun j oj hoj hun _=>⟨rfl,qpo hno (Array.getElem?_eq_some_iff.1 hoj).1 hun⟩) hri hy ?_
   ·simp at hs;subst hs;exact (mem_ready.1 hri).1
   ·exact qf8 t fuel _ [] _ hp hk (fun _ _ _ h=>by simp at h)
 | .pure i t,0,listed,acc,st,hp,h,_=>by simp [qaz]at hp
 | .pure i t,fuel+1,listed,acc,st,hp,h,_=>by
   simp only [qaz,Bool.and_eq_true]at hp
   obtain ⟨⟨⟨⟨hr,hfr⟩,_⟩,hno⟩,hp⟩:=hp
   obtain ⟨hrd,hs⟩:=h
   unfold qmO at hrd
   split at hrd
   ·rename_i o ho
    have hri:i∈Region.ready .any ops listed:=by simpa using hr
    obtain ⟨l,hk,hy⟩:=qUw (qpo hno (Array.getElem?_eq_some_iff.1 ho).1 (mem_ready.1 hri).1) ho hrd (qiY hs)
    refine qm3 (S:=[i]) ho (fun j hj hne=>by simp at hj;exact absurd hj hne) (by simp) fuel listed st (Region.free_spec ho hfr) (fun s hs=> ?_) (fun j oj hoj hun _=>⟨rfl,qpo hno (Array.getElem?_eq_some_iff.1 hoj).1 hun⟩) hri hy ?_
    ·simp at hs;subst hs;exact (mem_ready.1 hri).1
    ·exact qf8 t fuel _ [] _ hp hk (fun _ _ _ h=>by simp at h)
   ·exact hrd.elim
 | .quiet i t,0,listed,acc,st,hp,h,_=>by simp [qaz]at hp
 | .quiet i t,fuel+1,listed,acc,st,hp,h,_=>by
   simp only [qaz,Bool.and_eq_true]at hp
   obtain ⟨⟨⟨⟨⟨hr,hfr⟩,hq⟩,hsi⟩,⟨⟨hc,hS⟩,hU⟩,hQ⟩,hp⟩:=hp
   obtain ⟨o,ho,hq⟩:=qnY hq
   obtain ⟨l,hk,hy⟩:=qqi (free:= .eq) (by simpa using hsi) ho hq trivial (qiY h)
   have hri:i∈Region.ready .any ops listed:=by simpa using hr
   refine qm3 (S:=qcm ops i) ho (fun j hj hne=> ?_) (by simpa using hc) fuel listed st (Region.free_spec ho hfr) (fun s hs=> ?_) (fun j oj hoj hun hns=> ?_) hri hy ?_
   ·have:=List.all_eq_true.1 hS j hj
    simp only [Bool.or_eq_true,beq_iff_eq]at this
    rcases this with e | e
    ·exact absurd e hne
    ·exact qvt e
   ·have:=List.all_eq_true.1 hU s hs
    simpa using this
   ·have hjl:j<ops.size:=(Array.getElem?_eq_some_iff.1 hoj).1
    have:=List.all_eq_true.1 hQ j (by simpa using hjl)
    simp only [Bool.or_eq_true,Bool.and_eq_true]at this
    rcases this with (e | e) | e
    ·rw [hun]at e;simp at e
    ·exact absurd (by simpa using e) hns
    ·obtain ⟨o',ho',hq'⟩:=qnY e.1
     rw [hoj]at ho';cases ho';exact ⟨hq',by simpa using e.2⟩
   ·exact qf8 t fuel _ [] _ hp hk (fun _ _ _ h=>by simp at h)
 | .grow i t,0,listed,acc,st,hp,h,_=>by simp [qaz]at hp
 | .grow i t,fuel+1,listed,acc,st,hp,h,_=>by
   simp only [qaz,Bool.and_eq_true]at hp
   obtain ⟨⟨⟨⟨⟨hr,hfr⟩,hq⟩,hsi⟩,⟨⟨hc,hS⟩,hU⟩,hQ⟩,hp⟩:=hp
   obtain ⟨o,ho,hq⟩:=qnY hq
   obtain ⟨hrd,h⟩:=h
   have hrd':rdM .grow o st:=fun id hid=>by
    unfold qnJ at hrd
    simp only [ho,hid]at hrd
    exact hrd
   obtain ⟨l,hk,hy⟩:=qqi (free:= .grow) (by simpa using hsi) ho hq hrd' (qiY h)
   have hri:i∈Region.ready .any ops listed:=by simpa using hr
   refine qm3 (S:=qcm ops i) ho (fun j hj hne=> ?_) (by simpa using hc) fuel listed st (Region.free_spec ho hfr) (fun s hs=> ?_) (fun j oj hoj hun hns=> ?_) hri hy ?_
   ·have:=List.all_eq_true.1 hS j hj
    simp only [Bool.or_eq_true,beq_iff_eq]at this
    rcases this with e | e
    ·exact absurd e hne
    ·exact qvt e
   ·have:=List.all_eq_true.1 hU s hs
    simpa using this
   ·have hjl:j<ops.size:=(Array.getElem?_eq_some_iff.1 hoj).1
    have:=List.all_eq_true.1 hQ j (by simpa using hjl)
    simp only [Bool.or_eq_true,Bool.and_eq_true]at this
    rcases this with (e | e) | e
    ·rw [hun]at e;simp at e
    ·exact absurd (by simpa using e) hns
    ·obtain ⟨o',ho',hq'⟩:=qVt e.1
     rw [hoj]at ho';cases ho';exact ⟨hq',by simpa using e.2⟩
   ·exact qf8 t fuel _ [] _ hp hk (fun _ _ _ h=>by simp at h)
 | .keep i t,0,listed,acc,st,hp,h,_=>by simp [qaz]at hp
 | .keep i t,fuel+1,listed,acc,st,hp,h,_=>by
   simp only [qaz,Bool.and_eq_true]at hp
   obtain ⟨⟨⟨⟨⟨hr,hfr⟩,hq⟩,hsi⟩,⟨⟨hc,hS⟩,hU⟩,hQ⟩,hp⟩:=hp
   obtain ⟨o,ho,hq⟩:=qnY hq
   obtain ⟨hrd,h⟩:=h
   have hrd':rdM .box o st:=fun id hid=>by
    unfold qnQ at hrd
    simp only [ho,hid]at hrd
    unfold qs4 at hrd
    split at hrd
    ·rename_i cs hcs;exact ⟨cs,hcs⟩
    ·exact hrd.elim
   obtain ⟨l,hk,hy⟩:=qqi (free:= .box) (by simpa using hsi) ho hq hrd' (qiY h)
   have hri:i∈Region.ready .any ops listed:=by simpa using hr
   refine qm3 (S:=qcm ops i) ho (fun j hj hne=> ?_) (by simpa using hc) fuel listed st (Region.free_spec ho hfr) (fun s hs=> ?_) (fun j oj hoj hun hns=> ?_) hri hy ?_
   ·have:=List.all_eq_true.1 hS j hj
    simp only [Bool.or_eq_true,beq_iff_eq]at this
    rcases this with e | e
    ·exact absurd e hne
    ·exact qvt e
   ·have:=List.all_eq_true.1 hU s hs
    simpa using this
   ·have hjl:j<ops.size:=(Array.getElem?_eq_some_iff.1 hoj).1
    have:=List.all_eq_true.1 hQ j (by simpa using hjl)
    simp only [Bool.or_eq_true,Bool.and_eq_true]at this
    rcases this with (e | e) | e
    ·rw [hun]at e;simp at e
    ·exact absurd (by simpa using e) hns
    ·obtain ⟨o',ho',hq'⟩:=qNE e.1
     rw [hoj]at ho';cases ho';exact ⟨hq',by simpa using e.2⟩
   ·exact qf8 t fuel _ [] _ hp hk (fun _ _ _ h=>by simp at h)
 | .alt i t r,0,listed,acc,st,hp,h,_=>by simp [qaz]at hp
 | .alt i t r,fuel+1,listed,acc,st,hp,h,ha=>by
   simp only [qaz,Bool.and_eq_true]at hp
   refine qf8 r (fuel+1) listed (i::acc) st hp.2 h.2 fun f hf j hj=> ?_
   rcases List.mem_cons.1 hj with rfl | hj
   ·have:f=fuel:=by omega
    subst this
    exact qH2 (fun s hs=>qf8 t f _ [] s hp.1 hs (fun _ _ _ h=>by simp at h)) (qiY h.1)
   ·exact ha f hf j hj
 | .stop,0,listed,acc,st,hp,h,_=>by simp [qaz]at hp
 | .stop,fuel+1,listed,acc,st,hp,h,ha=>by
   simp only [qaz,Bool.and_eq_true]at hp
   obtain ⟨⟨_,hne⟩,hall⟩:=hp
   refine ⟨fun h0=>(by rw [h0]at hne;simp at hne),fun i hi=> ?_⟩
   have:=List.all_eq_true.1 hall i hi
   exact ha fuel rfl i (by simpa using this)
 | .sem _ _,_,_,_,_,_,h,_=>h.elim
end
end Go.T
/- T: code. -/
namespace Go.T
open Go
inductive X
 | normal
 | ret
 | exit (id:Nat)
def Le (s s':St):Prop:= ∀(w0:World) (mine:Mine) (a:Act) (w:World),(∀id,mine.pin id=none)→R w0 mine s a w→R w0 mine s' a w
def LeP (s s':St):Prop:= ∀(w0:World) (mine:Mine) (a:Act) (w:World),R w0 mine s a w→R w0 mine s' a w
theorem Le.refl (s:St):Le s s:=fun _ _ _ _ _ h=>h
theorem Le.trans {s1 s2 s3:St} (h:Le s1 s2) (h':Le s2 s3):Le s1 s3:=fun w0 mine a w hp hr=>h' w0 mine a w hp (h w0 mine a w hp hr)
def qgG (k:St→Prop) (Q:X→St→Prop):X→St→Prop
 | .normal,st=>k st
 | .ret,st=>Q .ret st
 | .exit id,st=>Q (.exit id) st
def qip (id:Nat) (Q:X→St→Prop):X→St→Prop
 | .normal,st=>Q .normal st
 | .ret,st=>Q .ret st
 | .exit id',st=>if id'=id then Q .normal st else Q (.exit id') st
def St.litO (st:St) (c:Operand) (b:Bool):St:=match c with
 | .tmp t=>st.lit t b
 | _=>st
def qBk (c:Operand) (st:St) (x y:St→Prop):Prop:=match st.ev c with
 | .one (.bool b)=>(b=true→x (st.litO c true))∧(b=false→y (st.litO c false))
 | _=>False
def qHL (L:St→St→Prop) (round:(X→St→Prop)→St→Prop) (Q:X→St→Prop) (st:St):Prop:=
 ∃(α:Type) (mk:α→St) (I:α→Prop) (μ:α→Nat),(∃x,L st (mk x)∧I x)∧ ∀x,I x→round (qgG (fun s'=> ∃x',L s' (mk x')∧I x'∧μ x'<μ x) Q) (mk x)
def wpT (P:Program) (tt:TT) (Γ:Gam) (tr:Nat→Tree) (L:St→St→Prop):Code→(X→St→Prop)→St→Prop
 | .skip,Q,st=>Q .normal st
 | .region _ ops false,Q,st=>qfg P tt Γ ops ops.toList st (Q .normal)
 | .region id ops true,Q,st=>qcS sx0 tt Γ ops (tr id) st (Q .normal)
 | .seq a b,Q,st=>wpT P tt Γ tr L a (qgG (wpT P tt Γ tr L b Q) Q) st
 | .cond c x y,Q,st=>qBk c st (wpT P tt Γ tr L x Q) (wpT P tt Γ tr L y Q)
 | .block id c,Q,st=>wpT P tt Γ tr L c (qip id Q) st
 | .loop c,Q,st=>qHL L (wpT P tt Γ tr L c) Q st
 | .exit id,Q,st=>Q (.exit id) st
 | .ret,Q,st=>Q .ret st
 | _,_,_=>False
def qG5 (ops:Array Oper):Tree→Bool
 | .sem ids t=>qaz ids ops t ops.size (Array.replicate ops.size false) []
 | t=>qaz [] ops t ops.size (Array.replicate ops.size false) []
def qm (tr:Nat→Tree):Code→Bool
 | .region id ops true=>qG5 ops (tr id)
 | .seq a b=>qm tr a&&qm tr b
 | .cond _ a b=>qm tr a&&qm tr b
 | .block _ a=>qm tr a
 | .loop a=>qm tr a
 | _=>true
def qfe (w0:World) (mine:Mine) (Q:X→St→Prop):Exit→Act→World→Prop
 | .normal,a,w=> ∃st,R w0 mine st a w∧Q .normal st
 | .ret,a,w=> ∃st,R w0 mine st a w∧Q .ret st
 | .exit id,a,w=> ∃st,R w0 mine st a w∧Q (.exit id) st
 | _,_,_=>False
section
variable {P : Program} {tt : TT} {Γ : Gam} {tr : Nat → Tree} {L : St → St → Prop} {w0 : World} {mine : Mine}
theorem R.litO {st:St} {a:Act} {w:World} {c:Operand} {b:Bool} (h:st.ev c= .one (.bool b)):st.litO c b=st:=by
 cases c with
 | tmp t=>
   refine St.lit_self ?_
   simp only [St.ev,List.getD_eq_getElem?_getD]at h
   cases hx:st.env[t]? with
   | none=>rw [hx]at h;simp at h
   | some l=>rw [hx]at h;simp at h;rw [h]
 | _=>rfl
theorem qTe {J:Nat→Prop}: ∀{n:Nat},J n→ ∃m,J m∧ ∀k,J k→m≤k:=by
 intro n
 induction n using Nat.strongRecOn with
 | _ n ih=>
   intro hn
   by_cases h: ∃k,k<n∧J k
   ·obtain ⟨k,hk,hJ⟩:=h
    exact ih k hk hJ
   ·exact ⟨n,hn,fun k hk=>by
       rcases Nat.lt_or_ge k n with h' | h'
       ·exact absurd ⟨k,h',hk⟩ h
       ·exact h'⟩
end
end Go.T
/- T: functions. -/
namespace Go.T
open Go
def qls (tt:TT) (st:St):ResultVar→Option LV
 | .tmp t=>some (st.env.getD t (.one .undef))
 | .cell a t=>match tt.get t with
   | none=>none
   | some ti=>match st.env.getD a (.one .undef)with
     | .one (.ptr id _ f)=>match st.heap[id]? with
       | some (.box cs)=>if f+ti.ty.sz≤cs.length then some (qhj ti.agg ((cs.drop f).take ti.ty.sz))else none
       | _=>none
     | _=>none
def qed (tt:TT) (st:St):List ResultVar→Option (List LV)
 | []=>some []
 | r::rs=>match qls tt st r with
   | none=>none
   | some l=>match qed tt st rs with
     | none=>none
     | some ls=>some (l::ls)
def qfT (tt:TT) (dp:Bool) (rs:List TI) (rvs:List ResultVar) (y:qc rs) (st:St):Prop:=match qed tt st rvs with
 | none=>False
 | some ls=>qci st.heap rs ls=some y∧(dp=true→qah st.heap (ls.flatMap LV.cells)=true∧qct (qk (ls.flatMap LV.cells))=true)
def qpV (tt:TT) (g:G) (rvs:List ResultVar) (x:qc g.ps):X→St→Prop
 | .normal,st=>qfT tt g.dp g.rs rvs (g.fn x) st
 | .ret,st=>qfT tt g.dp g.rs rvs (g.fn x) st
 | .exit _,_=>False
def qlL (g:G) (ntmps:Nat) (x:qc g.ps):St:={env:=(qeF 0 g.ps x).map LV1.lv++List.replicate (ntmps - g.ps.length) (.tup []),heap:=[]}
section
variable {P : Program} {tt : TT} {Γ : Gam} {tr : Nat → Tree} {w0 w : World} {mine : Mine} {m : Mp} {h : List Blk} {st : St} {a : Act}
def qho:ResultVar→Array Value→Sem Value
 | .tmp t,tmps=>pure (tmps.getD t undef)
 | .cell a t,tmps=>do loadVar t (←asAddr (tmps.getD a undef))
theorem qVe (hT:qP P tt) (H:HR w0 mine w m st.heap) (he:F2 (V w m st.heap) st.env a.tmps.toList) {r:ResultVar} {l:LV} (h:qls tt st r=some l): ∃v,(qho r a.tmps).run P w= .ok v w∧V w m st.heap l v:=by
 cases r with
 | tmp t=>
   simp only [qls,Option.some.injEq]at h
   subst h
   exact ⟨a.tmps.getD t undef,rfl,R.ev H he (.tmp t)⟩
 | cell ad t=>
   simp only [qls]at h
   split at h
   ·simp at h
   ·rename_i ti ht
    split at h
    ·rename_i id i f hx
     have hev:V w m st.heap (st.ev (.tmp ad)) (a.eval (.tmp ad)):=R.ev H he (.tmp ad)
     have hx':st.ev (.tmp ad)= .one (.ptr id i f):=hx
     rw [hx']at hev
     split at h
     ·rename_i cs hb
      split at h
      ·rename_i hfit
       cases h
       simp only [V,C,hb]at hev
       obtain ⟨rfl,hax⟩:=hev
       obtain ⟨arr,ty,hblk,hf,h1⟩:=H.br id _ hb
       have hat:=(qKl hblk).sub f ti.ty.sz
       rw [qkt]at hat
       obtain ⟨v,hrun,hv⟩:=qIq (hT t ti ht) hat (qr0 hf f ti.ty.sz) (by simp;omega) (hT t ti ht).one
       refine ⟨v,?_,hv⟩
       have hax':a.tmps.getD ad undef= .pointer (some ⟨m.blk id,f,none⟩):=hax
       simp only [qho,hax',asAddr,Sem.run_bind,Sem.run_pure,Result.andThen_ok,hrun]
      ·simp at h
     ·simp at h
    ·simp at h
theorem qsB (hT:qP P tt) (H:HR w0 mine w m st.heap) (he:F2 (V w m st.heap) st.env a.tmps.toList): ∀{rs:List ResultVar} {ls:List LV},qed tt st rs=some ls→ ∃vs:List Value,(rs.mapM fun r=>qho r a.tmps).run P w= .ok vs w∧F2 (V w m st.heap) ls vs
 | [],ls,h=>by simp [qed]at h;subst h;exact ⟨[],rfl,.nil⟩
 | r::rs,ls,h=>by
   simp only [qed]at h
   split at h
   ·simp at h
   ·rename_i l hl
    split at h
    ·simp at h
    ·rename_i ls' hls
     cases h
     obtain ⟨v,h1,h2⟩:=qVe hT H he hl
     obtain ⟨vs,h3,h4⟩:=qsB hT H he hls
     refine ⟨v::vs,?_,.cons h2 h4⟩
     simp only [List.mapM_cons,Sem.run_bind,h1,Result.andThen_ok,h3,Sem.run_pure]
theorem qYu (fn:Func) (tmps:Array Value):results fn tmps=(fn.results.mapM fun r=>qho r tmps)>>=fun vs=>pure (if h:vs.size=1 then vs[0]else .tuple vs):=by
 unfold results
 have:(fun r:ResultVar=>qho r tmps)=fun r:ResultVar=>(match r with
  | .tmp t=>(pure (tmps.getD t undef):Sem Value)
  | .cell a' t=>(do loadVar t (←asAddr (tmps.getD a' undef)):Sem Value)):=by
  funext r
  cases r<;>rfl
 rw [this]
 rfl
theorem qzQ (fn:Func) {vs:List Value} (h:(fn.results.toList.mapM fun r=>qho r a.tmps).run P w= .ok vs w):(results fn a.tmps).run P w= .ok (qdI vs) w:=by
 have hm:(fn.results.mapM fun r=>qho r a.tmps).run P w= .ok vs.toArray w:=by
  rw [Array.mapM_eq_mapM_toList]
  simp [h]
 rw [qYu,Sem.run_bind,hm]
 simp only [Result.andThen_ok,Sem.run_pure]
 congr 1
 match vs with
 | []=>rfl
 | [v]=>rfl
 | v::v'::r=>simp [qdI]
theorem quB (H: ∀id x,h[id]?=some x→BR w m h id x): ∀{tis:List TI} {ls:List LV} {vs:List Value} {x:qc tis},F2 (V w m h) ls vs→qci h tis ls=some x→qah h (ls.flatMap LV.cells)=true→
 VMs w tis x vs (qB m h (qk (ls.flatMap LV.cells)))
 | [],_,_,_,.nil,_,_=>⟨rfl,rfl⟩
 | [],_,_,_,.cons _ _,hi,_=>by simp [qci]at hi
 | ti::r,_,_,_,.nil,hi,_=>by simp [qci]at hi
 | ti::r,_,_,x,.cons (a:=l) (b:=v) hv hvs,hi,hd=>by
   simp only [qci]at hi
   simp only [List.flatMap_cons,qah,List.all_append,Bool.and_eq_true]at hd
   split at hi
   ·rename_i hag
    split at hi
    ·rename_i y hy
     split at hi
     ·rename_i ys hys
      cases hi
      have h2:=quB H hvs hys hd.2
      rw [List.flatMap_cons,qoK,qgF]
      cases l with
      | tup=>simp [LV.isAgg]at hag
      | one c=>
        simp only [LV.isAgg,Option.some.injEq]at hag
        obtain ⟨v1,v2,pre,hvs',hpre,hM,hr⟩:=qeR H (F2.cons hv .nil) hy hd.1
        cases hr
        rw [List.append_nil]at hvs' hpre
        refine ⟨v,_,[v],_,_,rfl,rfl,?_,?_,h2⟩
        ·rw [hvs',show (LV.one c).cells=pre from hpre];exact hM
        ·rw [←hag];rfl
      | agg cs=>
        simp only [LV.isAgg,Option.some.injEq]at hag
        obtain ⟨us,rfl,hf⟩:=hv
        obtain ⟨v1,v2,pre,hvs',hpre,hM,hr⟩:=qeR H hf hy hd.1
        cases hr
        rw [List.append_nil]at hvs' hpre
        refine ⟨.agg us,_,us.toList,_,_,rfl,rfl,?_,?_,h2⟩
        ·rw [hvs',show (LV.agg cs).cells=pre from hpre];exact hM
        ·rw [←hag];simp [qav]
     ·simp at hi
    ·simp at hi
   ·simp at hi
theorem qIj {ls:List LV1} {us:List Value} (hf:F2 (V1 w m h) ls us):F2 (V w m h) (ls.map LV1.lv) us:=by
 induction hf with
 | nil=>exact .nil
 | cons h1 _ ih=>exact .cons (qlr h1) ih
theorem qu2 {ok:Nat→Prop}: ∀{tis:List TI} {x:qc tis} {us:List Value},VKs w ok tis x us→us.length=tis.length
 | [],_,_,h=>by rw [VKs]at h;rw [h];rfl
 | ti::r,x,_,h=>by obtain ⟨u,rest,cs,rfl,_,_,h2⟩:=h;simp [qu2 h2]
theorem qNM (hT : qP P tt) {f : FuncId} {fn : Func} {c : Code} {g : G} (hf : P.funcs[f]? = some fn) (hb : fn.body = some c) (hname : (fn.name == "runtime.NumGoroutine") = false)
 (hrun: ∀x:qc g.ps,g.pre x→ ∀(w0:World) (mine:Mine) (a:Act) (w:World),(∀id,mine.pin id=none)→R w0 mine (qlL g fn.ntmps x) a w→c.wp P (qfe w0 mine (qpV tt g fn.results.toList x)) a w):Sound P f g:=by
 refine ⟨⟨fn,hf,by rw [hb];rfl,hname⟩,fun x hx w ext vs hvs hext=> ?_⟩
 refine calls_of_wp hf hb ?_
 let mine:Mine:=⟨fun _=>False,ext,fun _=>none⟩
 let m0:Mp:=⟨fun _=>undef,fun _=>0,fun _=>[],ext⟩
 have H:HR w mine w m0 []:=⟨by simp,by simp,by simp,by simp,Fr.refl _ w,rfl,fun b hb=>hext b (by rcases hb with h | h;exact h;exact h.elim),fun id v h=>by simp [mine]at h⟩
 have henv:F2 (V w m0 []) (qlL g fn.ntmps x).env (vs++Array.replicate (fn.ntmps - vs.size) undef).toList:=by
  have hl:vs.size=g.ps.length:=by have:=qu2 hvs;simpa using this
  rw [Array.toList_append,Array.toList_replicate,hl]
  refine (qIj (qnn (qkk (fun _ _ _=>rfl) (fun b hb _=>(⟨hb,by simp⟩:qw m0 [] 0 b)) hvs))).append ?_
  generalize fn.ntmps - g.ps.length=k
  induction k with
  | zero=>exact .nil
  | succ k ih=>rw [List.replicate_succ,List.replicate_succ];exact .cons ⟨#[],rfl,.nil⟩ ih
 have hR:R w mine (qlL g fn.ntmps x) {tmps:=vs++Array.replicate (fn.ntmps - vs.size) undef,defers:=[]} w:=⟨rfl,m0,H,henv⟩
 have fin: ∀(st:St) (a:Act) (w':World),R w mine st a w'→qfT tt g.dp g.rs fn.results.toList (g.fn x) st→a.defers=[]∧ ∃v,(results fn a.tmps).run P w'= .ok v w'∧(∃us,(Ending.returned v)= .returned (qdI us)∧Fr (fun _=>False) w w'∧(match g.dp with
  | true=> ∃B,VMs w' g.rs (g.fn x) us B∧B.Nodup∧ ∀b∈B,w.heap.size≤b
  | false=>VKs w' ext g.rs (g.fn x) us)):=by
  intro st a w' hr h
  obtain ⟨hd,m,H',he⟩:=hr
  refine ⟨hd,?_⟩
  unfold qfT at h
  split at h
  ·exact h.elim
  ·rename_i ls hls
   obtain ⟨vs',hrun,hV⟩:=qsB hT H' he hls
   refine ⟨qdI vs',qzQ fn hrun,vs',rfl,H'.fr,?_⟩
   cases hdp:g.dp with
   | true=>
     obtain ⟨h1,h2⟩:=h.2 hdp
     refine ⟨_,quB H'.br hV h.1 h1,qfS H' (qfD h2),fun b hb=> ?_⟩
     obtain ⟨id,y,_,hy,hb'⟩:=qcI hb
     rcases (H'.lt id y hy b hb').2 with h | h
     ·exact h
     ·exact h.elim
   | false=>
     have hmx:m.ext=ext:=H'.mx
     refine qhz H'.br hV h.1 fun l hl c hc=> ?_
     cases c with
     | sl e t xs n=>exact fun b hb _=>by rw [←hmx];exact hb.1
     | own id=>
       intro y hy
       refine ⟨fun b hb=>H'.nx b (H'.lt id y hy b hb).2,?_⟩
       cases y with
       | row e t xs dp mt k=>
         cases dp with
         | true=>trivial
         | false=>exact fun b hb _=>by rw [←hmx];exact hb.1
       | _=>trivial
     | _=>trivial
 refine wp_mono (hrun x hx _ _ _ _ (fun _=>rfl) hR) fun e a w' he=> ?_
 cases e with
 | normal=>obtain ⟨st,hr,h⟩:=he;exact fin st a w' hr h
 | ret=>obtain ⟨st,hr,h⟩:=he;exact fin st a w' hr h
 | exit id=>obtain ⟨st,_,h⟩:=he;exact h.elim
 | _=>exact he.elim
end
end Go.T
/- T: the table of types, checked. -/
namespace Go.T
open Go
def qfj:Ty→List Value→Option (List Value)
 | .int k,.int k' n::r=>if k=k'∧n=0 then some r else none
 | .bool,.bool b::r=>if b=false then some r else none
 | .str,.string s::r=>if s.data.toList.isEmpty then some r else none
 | .slice _ _,.slice none 0 0::r=>some r
 | .hdr,.slice none 0 0::r=>some r
 | .pair a b,vs=>match qfj a vs with
   | some r=>qfj b r
   | none=>none
 | _,_=>none
theorem qyj: ∀{t:Ty} {vs r:List Value},qfj t vs=some r→vs=qaL t++r
 | .int k,vs,r,h=>by
   unfold qfj at h
   split at h<;>try (simp at h;done)
   all_goals simp_all [qaL]
 | .bool,vs,r,h=>by
   unfold qfj at h
   split at h<;>try (simp at h;done)
   all_goals simp_all [qaL]
 | .str,vs,r,h=>by
   unfold qfj at h
   split at h<;>try (simp at h;done)
   all_goals try (rename_i heq _;cases heq;done)
   all_goals (simp_all [qaL])
   all_goals (rename_i s _;apply ByteArray.ext;simp_all)
 | .hdr,vs,r,h=>by
   unfold qfj at h
   split at h<;>try (simp at h;done)
   all_goals simp_all [qaL]
 | .slice e t,vs,r,h=>by
   unfold qfj at h
   split at h<;>try (simp at h;done)
   all_goals simp_all [qaL]
 | .pair a b,vs,r,h=>by
   simp only [qfj]at h
   split at h
   ·rename_i r' hr
    rw [qyj hr,qyj h,qaL,List.append_assoc]
   ·simp at h
def qAo (P:Program) (tt:TT) (ti:TI):TypeDesc→Bool
 | .struct fs=>ti.agg&&decide ((fs.toList.mapM fun (f:Field)=>(P.info? f.type).map fun i=>(f.offset,i.size))=some ti.offs)
 | .array n e=>ti.agg&&match P.info? e,tt.get e with
   | some j,some te=>j.size==te.ty.sz&&ti.ty.sz==n*te.ty.sz
   | _,_=>false
 | .slice e=> !ti.agg&&match ti.ty with
   | .slice e' te=>e'==e&&match tt.get e with
     | some tie=>decide (tie.ty=te)
     | none=>false
   | _=>false
 | _=> !ti.agg
theorem qYv {P:Program} {tt:TT} {ti:TI} {d:TypeDesc} (h:qAo P tt ti d=true):qsa P tt ti d:=by
 unfold qAo at h
 split at h
 ·simp only [Bool.and_eq_true,decide_eq_true_eq]at h
  exact h
 ·simp only [Bool.and_eq_true]at h
  obtain ⟨h1,h2⟩:=h
  split at h2
  ·rename_i j te hj hte
   simp only [Bool.and_eq_true,beq_iff_eq]at h2
   exact ⟨h1,j,hj,te,hte,h2.1,h2.2⟩
  ·simp at h2
 ·simp only [Bool.and_eq_true,Bool.not_eq_true']at h
  obtain ⟨h1,h2⟩:=h
  split at h2
  ·rename_i e' te hty
   simp only [Bool.and_eq_true,beq_iff_eq]at h2
   obtain ⟨rfl,h2⟩:=h2
   split at h2
   ·rename_i tie ht
    simp only [decide_eq_true_eq]at h2
    exact ⟨h1,te,tie,hty,ht,h2⟩
   ·simp at h2
  ·simp at h2
 ·rename_i d h1 h2 h3
  simp only [Bool.not_eq_true']at h
  cases d<;>first | (simp only [qsa];exact h) | exact (h1 _ rfl).elim | exact (h2 _ _ rfl).elim | exact (h3 _ rfl).elim
def qJq (P:Program) (t:Nat) (ti:TI):Bool:=match P.info? t with
 | some i=>i.size==ti.ty.sz&&decide (i.bytes≤65536)&&match i.zero with
   | some z=>match qfj ti.ty z.cells.toList with
     | some []=>true
     | _=>false
   | none=>false
 | none=>false
def qie (P:Program) (tt:TT) (t:Nat) (ti:TI):Bool:=ti.agg||(ti.ty.sz==1&&match ti.ty with
 | .bool=>match P.underlying t with
   | some .bool=>true
   | _=>false
 | .str=>match P.underlying t with
   | some .string=>true
   | _=>false
 | .int k=>match P.underlying t with
   | some (.int k')=>decide (k'=k)
   | _=>false
 | .slice e te=>match P.underlying t with
   | some (.slice e')=>e'==e&&match tt.get e with
     | some tie=>decide (tie.ty=te)
     | none=>false
   | _=>false
 | _=>true)
def qH1 (P:Program) (t:Nat) (ti:TI):Bool:= !ti.ints||match P.underlying t with
 | some (.struct fs)=>match fs.toList with
   | [f, g] => !P.stoodInHeld t && !P.eqGuardType P.depth t && f.offset == 0 && g.offset == 1 && !(f.name == "_") && !(g.name == "_") && match P.underlying f.type, P.underlying g.type with
     | some (.int _),some (.int _)=>true
     | _,_=>false
   | _=>false
 | _=>false
def qJn (P:Program) (t:Nat) (ti:TI):Bool:=ti.offs.isEmpty||match P.underlying t with
 | some (.struct fs)=>(List.range ti.offs.length).all fun i=>match ti.offs[i]?,fs[i]? with
   | some p,some fl=>fl.offset==p.1&&(match P.info? fl.type with
     | some j=>j.size==p.2
     | none=>false)&&decide (0<p.2)&&decide (p.1+p.2≤ti.ty.sz)
   | _,_=>false
 | _=>false
def qwp (P:Program) (tt:TT) (t:Nat) (ti:TI):Bool:=qJq P t ti&&(match P.underlying t with
 | some d=>qAo P tt ti d
 | none=>false)&&qie P tt t ti&&qH1 P t ti&&qJn P t ti
def qYV (P:Program) (tt:TT):Bool:=tt.all fun p=>qwp P tt p.1 p.2
theorem TT.get_mem {tt:TT} {t:Nat} {ti:TI} (h:tt.get t=some ti):(t,ti)∈tt:=by
 induction tt with
 | nil=>simp [TT.get]at h
 | cons p r ih=>
   obtain ⟨u,ti'⟩:=p
   simp only [TT.get]at h
   split at h
   ·rename_i e;cases h;subst e;exact List.mem_cons_self
   ·exact List.mem_cons_of_mem _ (ih h)
theorem qPg {P:Program} {tt:TT} {t:Nat} {ti:TI} (h:qwp P tt t ti=true):TIok P tt t ti:=by
 simp only [qwp,Bool.and_eq_true]at h
 obtain ⟨⟨⟨⟨hinfo,hdesc⟩,hkind⟩,hints⟩,hoffs⟩:=h
 refine ⟨?_,?_,?_,?_,?_,?_,?_,?_,?_⟩
 ·unfold qJq at hinfo
  split at hinfo
  ·rename_i i hi
   simp only [Bool.and_eq_true,beq_iff_eq,decide_eq_true_eq]at hinfo
   obtain ⟨⟨h1,h2⟩,h3⟩:=hinfo
   split at h3
   ·rename_i z hz
    split at h3
    ·rename_i hc
     refine ⟨i,z,hi,h1,hz,?_,h2⟩
     have:=qyj hc
     simpa using this
    ·simp at h3
   ·simp at h3
  ·simp at hinfo
 ·split at hdesc
  ·rename_i d hd;exact ⟨d,hd,qYv hdesc⟩
  ·simp at hdesc
 ·intro ha
  simp only [qie,ha,Bool.false_or,Bool.and_eq_true,beq_iff_eq]at hkind
  exact hkind.1
 ·intro ha hty
  simp only [qie,ha,Bool.false_or,Bool.and_eq_true,hty]at hkind
  have h2:=hkind.2
  split at h2
  ·rename_i hu;exact hu
  ·simp at h2
 ·intro ha hty
  simp only [qie,ha,Bool.false_or,Bool.and_eq_true,hty]at hkind
  have h2:=hkind.2
  split at h2
  ·rename_i hu;exact hu
  ·simp at h2
 ·intro ha k hty
  simp only [qie,ha,Bool.false_or,Bool.and_eq_true,hty]at hkind
  have h2:=hkind.2
  split at h2
  ·rename_i k' hu
   have:k'=k:=by simpa using h2
   rw [hu,this]
  ·simp at h2
 ·intro hi
  simp only [qH1,hi,Bool.not_true,Bool.false_or]at hints
  split at hints
  ·rename_i fs hu
   split at hints
   ·rename_i f g hfs
    simp only [Bool.and_eq_true,Bool.not_eq_true',beq_iff_eq,beq_eq_false_iff_ne]at hints
    obtain ⟨⟨⟨⟨⟨⟨h1,h2⟩,h3⟩,h4⟩,h5⟩,h6⟩,h7⟩:=hints
    split at h7
    ·rename_i k l hk hl
     refine ⟨f,g,k,l,?_,h1,h2,h3,h4,h5,h6,hk,hl⟩
     rw [hu]
     congr 2
     rw [←Array.toList_inj,hfs]
    ·simp at h7
   ·simp at hints
  ·simp at hints
 ·intro ha e te hty
  simp only [qie,ha,Bool.false_or,Bool.and_eq_true,hty]at hkind
  have h2:=hkind.2
  split at h2
  ·rename_i e' hu
   simp only [Bool.and_eq_true,beq_iff_eq]at h2
   obtain ⟨rfl,h3⟩:=h2
   refine ⟨hu,?_⟩
   split at h3
   ·rename_i tie ht;exact ⟨tie,ht,by simpa using h3⟩
   ·simp at h3
  ·simp at h2
 ·intro f n i ho
  unfold qJn at hoffs
  have hne:ti.offs.isEmpty=false:=by
   cases hof:ti.offs with
   | nil=>rw [hof]at ho;simp at ho
   | cons=>rfl
  rw [hne,Bool.false_or]at hoffs
  split at hoffs
  ·rename_i fs hu
   have hil:i<ti.offs.length:=(List.getElem?_eq_some_iff.1 ho).1
   have:=List.all_eq_true.1 hoffs i (by simpa using hil)
   rw [ho]at this
   split at this
   ·rename_i p fl hp hfl
    cases hp
    simp only [Bool.and_eq_true,beq_iff_eq,decide_eq_true_eq]at this
    obtain ⟨⟨⟨h1,h2⟩,h3⟩,h4⟩:=this
    split at h2
    ·rename_i j hj
     exact ⟨fs,fl,hu,hfl,h1,j,hj,by simpa using h2,h3,h4⟩
    ·simp at h2
   ·simp at this
  ·simp at hoffs
theorem qJI {P:Program} {tt:TT} (h:qYV P tt=true):qP P tt:=fun _ _ ht=>qPg (List.all_eq_true.1 h _ (TT.get_mem ht))
end Go.T
/- T: what is forgotten, what is renumbered. -/
namespace Go.T
open Go
def qgA (z:Bool) (top n:Nat):Nat:=bif z&&n==0 then 0 else top
def LC.ren (π:Nat→Option Nat) (z:Bool) (top:Nat):LC→LC
 | .own id=>match π id with
   | some j=> .own j
   | none=> .undef
 | .ptr id i f=>match π id with
   | some j=> .ptr j i f
   | none=> .undef
 | .sl e t xs n=> .sl e t xs (qgA z top n)
 | .tptr t v f n=> .tptr t v f (qgA z top n)
 | .int k n=> .int k n
 | .bool b=> .bool b
 | .str s=> .str s
 | .hdr v=> .hdr v
 | .nils=> .nils
 | .nilp=> .nilp
 | .fn f=> .fn f
 | .clo _ _=> .undef
 | .undef=> .undef
def LV.ren (π:Nat→Option Nat) (z:Bool) (top:Nat):LV→LV
 | .one c=> .one (c.ren π z top)
 | .agg cs=> .agg (cs.map (LC.ren π z top))
 | .tup vs=> .tup (vs.map fun v=>⟨v.agg,v.cs.map (LC.ren π z top)⟩)
def Blk.ren (π:Nat→Option Nat) (z:Bool) (top:Nat):Blk→Blk
 | .box cs=> .box (cs.map (LC.ren π z top))
 | .row e t xs dp mt n=> .row e t xs dp mt (bif dp then 0 else qgA z top n)
 | .nst F t hs vs=> .nst F t hs vs
 | .dead=> .dead
def qaI:List Nat→Nat→Nat→Option Nat
 | [],_,_=>none
 | x::r,k,id=>if x=id then some k else qaI r (k+1) id
def qi2 (π:Nat→Option Nat) (z:Bool) (top:Nat):List Bool→List LV→List LV
 | _,[]=>[]
 | [],_::r=> .one .undef::qi2 π z top [] r
 | true::ks,l::r=>l.ren π z top::qi2 π z top ks r
 | false::ks,_::r=> .one .undef::qi2 π z top ks r
def St.renum (z:Bool) (order:List Nat) (keep:List Bool) (st:St):St:={env:=qi2 (qaI order 0) z order.length keep st.env,heap:=order.map fun id=>(st.heap.getD id .dead).ren (qaI order 0) z order.length}
def LC.idOf:LC→Option Nat
 | .own id=>some id
 | .ptr id _ _=>some id
 | _=>none
def qgs (acc:List Nat):List LC→List Nat
 | []=>acc
 | c::r=>match c.idOf with
   | some id=>if acc.contains id then qgs acc r else qgs (acc++[id]) r
   | none=>qgs acc r
def qqz:List Bool→List LV→List LC
 | true::ks,l::r=>l.cells++qqz ks r
 | false::ks,_::r=>qqz ks r
 | _,_=>[]
def qKz (h:List Blk) (id:Nat):List LC:=match h[id]? with
 | some (Blk.box cs)=>cs
 | _=>[]
def qKd (h:List Blk) (ids:List Nat):List LC:=ids.flatMap (qKz h)
def qfZ:List Blk→Nat→List Nat
 | [],_=>[]
 | .nst .. ::r,i=>i::qfZ r (i+1)
 | _::r,i=>qfZ r (i+1)
theorem qIS: ∀(h:List Blk) (i:Nat),∀k∈qfZ h i,i≤k
 | [],_,_,hk=>by simp [qfZ]at hk
 | b::r,i,k,hk=>by
   have ih:=qIS r (i+1) k
   cases b<;>simp only [qfZ,List.mem_cons]at hk
   case nst=>rcases hk with rfl | hk;exact Nat.le_refl _;have:=ih hk;omega
   all_goals (have:=ih hk;omega)
theorem qH7: ∀(h:List Blk) (i:Nat),(qfZ h i).Nodup
 | [],_=>List.nodup_nil
 | b::r,i=>by
   have ih:=qH7 r (i+1)
   cases b
   case nst=>exact List.nodup_cons.2 ⟨fun hm=>by have:=qIS r (i+1) i hm;omega,ih⟩
   all_goals exact ih
def St.order (st:St) (keep:List Bool):List Nat:=
 let a:=qgs (qfZ st.heap 0) (qqz keep st.env)
 qgs a (qKd st.heap a)
def St.gc (z:Bool) (keep:List Bool) (st:St):St:=st.renum z (st.order keep) keep
theorem qmT: ∀{cs:List LC} {acc:List Nat},acc.Nodup→(qgs acc cs).Nodup
 | [],_,h=>h
 | c::r,acc,h=>by
   simp only [qgs]
   split
   ·rename_i id _
    split
    ·exact qmT h
    ·rename_i hn
     refine qmT ?_
     rw [List.nodup_append]
     refine ⟨h,by simp,fun x hx y hy e=>hn ?_⟩
     simp at hy
     subst hy;subst e
     simpa using hx
   ·exact qmT h
theorem qHE: ∀{l:List Nat} {k id j:Nat},qaI l k id=some j→k≤j∧l[j - k]?=some id
 | x::r,k,id,j,h=>by
   simp only [qaI]at h
   split at h
   ·rename_i e;cases h;subst e;simp
   ·obtain ⟨h1,h2⟩:=qHE h
    refine ⟨by omega,?_⟩
    rw [show j - k=(j - (k+1))+1 by omega]
    simpa using h2
section
variable {w0 w : World} {mine : Mine} {m : Mp} {h : List Blk} {order : List Nat} {z : Bool}
def Mp.ren (m:Mp) (order:List Nat):Mp:={m with val:=fun j=>m.val (order.getD j 0),blk:=fun j=>m.blk (order.getD j 0),nst:=fun j=>m.nst (order.getD j 0)}
def qeC (z:Bool) (h:List Blk) (order:List Nat):List Blk:=order.map fun id=>(h.getD id .dead).ren (qaI order 0) z order.length
theorem qHn {j:Nat} {y:Blk} (hy:(qeC z h order)[j]?=some y): ∃id,order[j]?=some id∧order.getD j 0=id∧j<order.length∧y=(h.getD id .dead).ren (qaI order 0) z order.length:=by
 simp only [qeC,List.getElem?_map]at hy
 cases ho:order[j]? with
 | none=>rw [ho]at hy;simp at hy
 | some id=>
   rw [ho]at hy
   simp at hy
   exact ⟨id,rfl,by simp [ho],(List.getElem?_eq_some_iff.1 ho).1,by rw [←hy];simp⟩
theorem qJZ {j id:Nat} {x:Blk} (hp:qaI order 0 id=some j) (hx:h[id]?=some x):(qeC z h order)[j]?=some (x.ren (qaI order 0) z order.length)∧order.getD j 0=id:=by
 obtain ⟨_,h2⟩:=qHE hp
 simp only [Nat.sub_zero]at h2
 refine ⟨?_,by simp [h2]⟩
 simp only [qeC,List.getElem?_map,h2,Option.map_some,List.getD,hx,Option.getD_some]
theorem qO2 (z:Bool) (top n:Nat):qgA z top n=top∨(n=0∧qgA z top n=0):=by
 unfold qgA
 cases z with
 | false=>exact .inl rfl
 | true=>
   cases n with
   | zero=>exact .inr ⟨rfl,rfl⟩
   | succ n=>exact .inl rfl
theorem qsr {n b:Nat} (hb:qw m h n b):qw (m.ren order) (qeC z h order) (qgA z order.length n) b:=by
 refine ⟨hb.1,fun j y hy=> ?_⟩
 obtain ⟨id,ho,hg,hj,rfl⟩:=qHn hy
 cases hx:h[id]? with
 | none=>simp only [List.getD,hx,Option.getD_none,Blk.ren];trivial
 | some x=>
   have:=hb.2 id x hx
   simp only [List.getD,hx,Option.getD_some]
   cases x with
   | dead=>trivial
   | nst F t hs vs=>exact this
   | box cs=>simp only [Blk.ren,okB,Mp.ren,hg];exact this
   | row e t xs dp mt k=>
     rcases qO2 z order.length n with ht | ⟨rfl,ht⟩
     ·rw [ht]
      refine ⟨fun hm=> ?_,fun hd hle=> ?_⟩
      ·have h1:=this.1 (.inl (hm.resolve_right (by omega)))
       simp only [Mp.ren,hg];exact h1
      ·subst hd
       simp at hle
       rw [hle]at hj
       simp at hj
     ·rw [ht]
      refine ⟨fun _=> ?_,fun hd _=> ?_⟩
      ·have h1:=this.1 (.inr (Nat.zero_le _))
       simp only [Mp.ren,hg];exact h1
      ·have h1:=this.2 hd (Nat.zero_le _)
       simp only [Mp.ren,hg];exact h1
theorem qwn: ∀{c:LC} {v:Value},C w m h c v→C w (m.ren order) (qeC z h order) (c.ren (qaI order 0) z order.length) v
 | .int _ _,_,hc | .bool _,_,hc | .str _,_,hc | .hdr _,_,hc | .nils,_,hc | .nilp,_,hc | .fn _,_,hc=>hc
 | .undef,_,_=>trivial
 | .clo _ _,_,_=>trivial
 | .sl e t xs n,v,hc=>by
   obtain ⟨A,c,he,hl,hr⟩:=hc
   exact ⟨A,c,he,hl,qiX (fun _ _ _=>rfl) (fun b hb _=>qsr hb) hr⟩
 | .tptr t x f n,v,hc=>by
   obtain ⟨a,cs,he,hk,hat,hb⟩:=hc
   exact ⟨a,cs,he,qaE (fun _ _ _=>rfl) (fun b hb _=>qsr hb) hk,hat,qsr hb⟩
 | .own id,v,hc=>by
   simp only [LC.ren]
   cases hp:qaI order 0 id with
   | none=>trivial
   | some j=>
     simp only [C]at hc ⊢
     cases hx:h[id]? with
     | none=>rw [hx]at hc;exact hc.elim
     | some x=>
       obtain ⟨h1,h2⟩:=qJZ hp hx
       rw [hx]at hc
       rw [h1]
       cases x with
       | box=>exact hc.elim
       | nst=>exact hc.elim
       | dead=>exact hc
       | row e t xs dp mt k=>simp only [Blk.ren,Mp.ren,h2];exact hc
 | .ptr id i f,v,hc=>by
   simp only [LC.ren]
   cases hp:qaI order 0 id with
   | none=>trivial
   | some j=>
     simp only [C]at hc ⊢
     cases hx:h[id]? with
     | none=>rw [hx]at hc;exact hc.elim
     | some x=>
       obtain ⟨h1,h2⟩:=qJZ hp hx
       rw [hx]at hc
       rw [h1]
       cases x with
       | box=>simp only [Blk.ren,Mp.ren,h2];exact hc
       | nst=>exact hc.elim
       | dead=>exact hc
       | row e t xs dp mt k=>simp only [Blk.ren,Mp.ren,h2];exact hc
theorem qz5 {cs:List LC} {vs:List Value} (hf:F2 (C w m h) cs vs):F2 (C w (m.ren order) (qeC z h order)) (cs.map (LC.ren (qaI order 0) z order.length)) vs:=by
 induction hf with
 | nil=>exact .nil
 | cons h1 _ ih=>exact .cons (qwn h1) ih
theorem qQy: ∀{l:LV} {v:Value},V w m h l v→V w (m.ren order) (qeC z h order) (l.ren (qaI order 0) z order.length) v
 | .one c,v,hv=>qwn (c:=c) hv
 | .agg cs,v,hv=>by obtain ⟨vs,he,hf⟩:=hv;exact ⟨vs,he,qz5 hf⟩
 | .tup ls,v,hv=>by
   obtain ⟨vs,he,hf⟩:=hv
   refine ⟨vs,he,?_⟩
   clear he
   generalize vs.toList=us at hf
   induction hf with
   | nil=>exact .nil
   | cons h1 _ ih=>
     refine .cons ?_ ih
     unfold V1 at h1 ⊢
     split at h1
     ·rename_i e;simp only [e];obtain ⟨vs,he,hf⟩:=h1;exact ⟨vs,he,qz5 hf⟩
     ·rename_i e;simp only [e];obtain ⟨c,he,hc,h2⟩:=h1;exact ⟨_,by rw [he];rfl,qwn hc,h2⟩
theorem qSd (hn:order.Nodup) (hpin: ∀id,mine.pin id=none) (H:HR w0 mine w m h):HR w0 mine w (m.ren order) (qeC z h order):=by
 have back: ∀j y,(qeC z h order)[j]?=some y→(∃id x,order[j]?=some id∧order.getD j 0=id∧h[id]?=some x∧y=x.ren (qaI order 0) z order.length)∨y= .dead:=fun j y hy=>by
  obtain ⟨id,ho,hg,hj,rfl⟩:=qHn hy
  cases hx:h[id]? with
  | none=>right;simp only [List.getD,hx,Option.getD_none,Blk.ren]
  | some x=>left;exact ⟨id,x,ho,hg,hx,by simp only [List.getD,hx,Option.getD_some]⟩
 have fp: ∀j id x,order.getD j 0=id→fpB (m.ren order) j (x.ren (qaI order 0) z order.length)=fpB m id x:=fun j id x hg=>by
  cases x<;>simp only [Blk.ren,fpB,Mp.ren,hg]
 refine ⟨fun j y hy=> ?_,fun j y hy=> ?_,fun j y j' y' hne hy hy' b hb hb'=> ?_,fun j y hy b hb=> ?_,H.fr,H.mx,H.nx,fun id v hp=>by rw [hpin id]at hp;simp at hp⟩
 ·rcases back j y hy with ⟨id,x,ho,hg,hx,rfl⟩ | rfl
  ·have:=H.br id x hx
   cases x with
   | dead=>trivial
   | nst F t hs vs=>exact this
   | box cs=>
     obtain ⟨arr,ty,h1,h2,h3⟩:=this
     exact ⟨arr,ty,by simp only [Mp.ren,hg];exact h1,qz5 h2,h3⟩
   | row e t xs dp mt k=>
     obtain ⟨inner,h1,h2⟩:=this
     refine ⟨inner,by simp only [Mp.ren,hg];exact h1,?_⟩
     cases dp with
     | true=>simp only [Mp.ren,hg]at h2 ⊢;exact ⟨h2.1,Nat.zero_le _⟩
     | false=>exact h2.imp fun x c hk=>qaE (fun _ _ _=>rfl) (fun b hb _=>qsr hb) hk
  ·trivial
 ·rcases back j y hy with ⟨id,x,ho,hg,hx,rfl⟩ | rfl
  ·rw [fp j id x hg];exact H.nd id x hx
  ·exact List.nodup_nil
 ·rcases back j y hy with ⟨id,x,ho,hg,hx,rfl⟩ | rfl
  ·rcases back j' y' hy' with ⟨id',x',ho',hg',hx',rfl⟩ | rfl
   ·rw [fp j id x hg]at hb
    rw [fp j' id' x' hg']at hb'
    refine H.dj id x id' x' (fun e=>hne ?_) hx hx' b hb hb'
    subst e
    have h1:=(List.getElem?_eq_some_iff.1 ho)
    have h2:=(List.getElem?_eq_some_iff.1 ho')
    exact (List.getElem_inj hn).1 (h1.2.trans h2.2.symm)
   ·simp [fpB]at hb'
  ·simp [fpB]at hb
 ·rcases back j y hy with ⟨id,x,ho,hg,hx,rfl⟩ | rfl
  ·rw [fp j id x hg]at hb;exact H.lt id x hx b hb
  ·simp [fpB]at hb
theorem qSe {ks:List Bool}: ∀{env:List LV} {vs:List Value},F2 (V w m h) env vs→F2 (V w (m.ren order) (qeC z h order)) (qi2 (qaI order 0) z order.length ks env) vs:=by
 intro env vs hf
 induction hf generalizing ks with
 | nil=>cases ks with
   | nil=>exact .nil
   | cons k ks=>cases k<;>exact .nil
 | cons h1 _ ih=>cases ks with
   | nil=>exact .cons trivial ih
   | cons k ks=>cases k with
     | true=>exact .cons (qQy h1) ih
     | false=>exact .cons trivial ih
theorem Le.renum {st:St} (keep:List Bool) (hn:order.Nodup):Le st (st.renum z order keep):=fun w0 mine a w hp hr=>by
 obtain ⟨hd,m,H,he⟩:=hr
 exact ⟨hd,m.ren order,qSd hn hp H,qSe he⟩
theorem Le.gc (st:St) (z:Bool) (keep:List Bool):Le st (st.gc z keep):=Le.renum keep (qmT (qmT (qH7 _ _)))
def qgT:List Bool→List LV→List LV
 | _,[]=>[]
 | [],_::r=> .one .undef::qgT [] r
 | true::ks,l::r=>l::qgT ks r
 | false::ks,_::r=> .one .undef::qgT ks r
def St.forget (keep:List Bool) (st:St):St:={env:=qgT keep st.env,heap:=st.heap}
theorem qRM {ks:List Bool}: ∀{env:List LV} {vs:List Value},F2 (V w m h) env vs→F2 (V w m h) (qgT ks env) vs:=by
 intro env vs hf
 induction hf generalizing ks with
 | nil=>cases ks with
   | nil=>exact .nil
   | cons k ks=>cases k<;>exact .nil
 | cons h1 _ ih=>cases ks with
   | nil=>exact .cons trivial ih
   | cons k ks=>cases k with
     | true=>exact .cons h1 ih
     | false=>exact .cons trivial ih
theorem LeP.of_forget {st st':St} (keep:List Bool) (h:st.forget keep=st'):LeP st st':=h▸fun w0 mine a w hr=>by
 obtain ⟨hd,m,H,he⟩:=hr
 exact ⟨hd,m,H,qRM he⟩
end
end Go.T
/- T: running by rewriting: lemmas at states that are written out. -/
namespace Go.T
open Go
section
variable {P : Program} {tt : TT} {Γ : Gam} {tr : Nat → Tree} {L : St → St → Prop} {Q : X → St → Prop} {e : List LV} {h : List Blk}
@[simp] theorem qZ8 : wpT P tt Γ tr L .skip Q ⟨e, h⟩ = Q .normal ⟨e, h⟩ := rfl
@[simp] theorem q02 {id : Nat} {ops : List Oper} : wpT P tt Γ tr L (.region id ⟨ops⟩ false) Q ⟨e, h⟩ = qfg P tt Γ ⟨ops⟩ ops ⟨e, h⟩ (Q .normal) := rfl
@[simp] theorem q0P {id : Nat} {ops : Array Oper} : wpT P tt Γ tr L (.region id ops true) Q ⟨e, h⟩ = qcS sx0 tt Γ ops (tr id) ⟨e, h⟩ (Q .normal) := rfl
@[simp] theorem q0u {a b : Code} : wpT P tt Γ tr L (.seq a b) Q ⟨e, h⟩ = wpT P tt Γ tr L a (qgG (wpT P tt Γ tr L b Q) Q) ⟨e, h⟩ := rfl
@[simp] theorem q0M {c : Operand} {x y : Code} : wpT P tt Γ tr L (.cond c x y) Q ⟨e, h⟩ = qBk c ⟨e, h⟩ (wpT P tt Γ tr L x Q) (wpT P tt Γ tr L y Q) := rfl
@[simp] theorem q0B {id : Nat} {c : Code} : wpT P tt Γ tr L (.block id c) Q ⟨e, h⟩ = wpT P tt Γ tr L c (qip id Q) ⟨e, h⟩ := rfl
@[simp] theorem q1U {c : Code} : wpT P tt Γ tr L (.loop c) Q ⟨e, h⟩ = qHL L (wpT P tt Γ tr L c) Q ⟨e, h⟩ := rfl
@[simp] theorem qZ4 {id : Nat} : wpT P tt Γ tr L (.exit id) Q ⟨e, h⟩ = Q (.exit id) ⟨e, h⟩ := rfl
@[simp] theorem q0L : wpT P tt Γ tr L .ret Q ⟨e, h⟩ = Q .ret ⟨e, h⟩ := rfl
variable {ops : Array Oper} {k : St → Prop}
@[simp] theorem q1X : qfg P tt Γ ops [] ⟨e, h⟩ k = k ⟨e, h⟩ := rfl
@[simp] theorem q0o {d : Option Tmp} {op : Op} {ty : TypeId} {pos : String} {aft : Array Edge} {os : List Oper} : qfg P tt Γ ops (⟨d, op, ty, pos, aft, none⟩ :: os) ⟨e, h⟩ k = opW P tt Γ ⟨d, op, ty, pos, aft, none⟩ ⟨e, h⟩ fun st => qfg P tt Γ ops os st k := rfl
@[simp] theorem q1b {d : Option Tmp} {op : Op} {ty : TypeId} {pos : String} {aft : Array Edge} {g : Nat × Bool} {os : List Oper} : qfg P tt Γ ops (⟨d, op, ty, pos, aft, some g⟩ :: os) ⟨e, h⟩ k = qar ops ⟨d, op, ty, pos, aft, some g⟩ ⟨e, h⟩ (fun st => opW P tt Γ ⟨d, op, ty, pos, aft, some g⟩ st fun st => qfg P tt Γ ops os st k) (fun st => qfg P tt Γ ops os (st.put d (.tup [])) k) := rfl
@[simp] theorem q0h {k : St → Prop} {st : St} : qgG k Q .normal st = k st := rfl
@[simp] theorem q0n {k : St → Prop} {st : St} : qgG k Q .ret st = Q .ret st := rfl
@[simp] theorem q0d {k : St → Prop} {st : St} {id : Nat} : qgG k Q (.exit id) st = Q (.exit id) st := rfl
@[simp] theorem q1f {id : Nat} {st : St} : qip id Q .normal st = Q .normal st := rfl
@[simp] theorem q1S {id : Nat} {st : St} : qip id Q .ret st = Q .ret st := rfl
@[simp] theorem qZT {id j : Nat} {st : St} : qip id Q (.exit j) st = if j = id then Q .normal st else Q (.exit j) st := rfl
@[simp] theorem qZp {k : St → Prop} : qgG k Q .normal = k := rfl
@[simp] theorem qZI {id : Nat} : qip id Q .normal = Q .normal := rfl
@[simp] theorem qZN {P : Program} {tt : TT} {Γ : Gam} {e : List LV} {h : List Blk} {o : Oper} {k : St → Prop} : opW P tt Γ o ⟨e, h⟩ k = (match qan tt Γ o ⟨e, h⟩ with
  | some (p,st')=>p∧k st'
  | none=>qI5 P o ⟨e,h⟩ k):=rfl
@[simp] theorem q0y {c : Operand} {e : List LV} {h : List Blk} {x y : St → Prop} : qBk c ⟨e, h⟩ x y = (match (St.mk e h).ev c with
  | .one (.bool b)=>(b=true→x ((St.mk e h).litO c true))∧(b=false→y ((St.mk e h).litO c false))
  | _=>False):=rfl
@[simp] theorem qZu {a b : Ty} (p : Val (.pair a b)) : (Prod.mk (α := Val a) (β := Val b) (Prod.fst (α := Val a) (β := Val b) p) (Prod.snd (α := Val a) (β := Val b) p)) = p := by cases p; rfl
@[simp] theorem q1T {e : List LV} {h : List Blk} {t : Nat} : (St.mk e h).ev (.tmp t) = e.getD t (.one .undef) := rfl
@[simp] theorem q0H {e : List LV} {h : List Blk} {v : Value} : (St.mk e h).ev (.const v) = qle v := rfl
@[simp] theorem q0V {e : List LV} {h : List Blk} {f : Nat} : (St.mk e h).ev (.func f) = .one (.fn f) := rfl
@[simp] theorem q0D {e : List LV} {h : List Blk} {t : Nat} {v : LV} : (St.mk e h).put (some t) v = ⟨e.set t v, h⟩ := rfl
@[simp] theorem q0I {e : List LV} {h : List Blk} {v : LV} : (St.mk e h).put none v = ⟨e, h⟩ := rfl
@[simp] theorem qZP {e : List LV} {h : List Blk} {d : Option Tmp} {c : LC} : (St.mk e h).go d c = some (True, (St.mk e h).put d (.one c)) := rfl
@[simp] theorem q00 {e : List LV} {h : List Blk} {t : Nat} {b : Blk} {c : LC} : (St.mk e h).new (some t) b c = ⟨e.set t (.one c), h ++ [b]⟩ := rfl
@[simp] theorem qZV {e : List LV} {h : List Blk} {b : Blk} {c : LC} : (St.mk e h).new none b c = ⟨e, h ++ [b]⟩ := rfl
@[simp] theorem q0X {e : List LV} {h h' : List Blk} {t : Nat} {l : LV} : (St.mk e h).res (some t) l h' = ⟨e.set t l, h'⟩ := rfl
@[simp] theorem q1a {e : List LV} {h h' : List Blk} {l : LV} : (St.mk e h).res none l h' = ⟨e, h'⟩ := rfl
@[simp] theorem q0U {e : List LV} {h : List Blk} {t : Nat} {b : Bool} : (St.mk e h).lit t b = ⟨e.set t (.one (.bool b)), h⟩ := rfl
@[simp] theorem qZw {e : List LV} {h : List Blk} {t : Nat} {b : Bool} : (St.mk e h).litO (.tmp t) b = ⟨e.set t (.one (.bool b)), h⟩ := rfl
@[simp] theorem q1V {e : List LV} {h : List Blk} {v : Value} {b : Bool} : (St.mk e h).litO (.const v) b = ⟨e, h⟩ := rfl
attribute [simp] qnk qi6 TI.row qhg qcM qd8 qjo qfG qan qW qle qhj LV.cells LV1.lv qh8 qh3 qjD qh9 qi0 qiE qjQ qgH lenOf qrP qo2 qjf qiQ newRow qhB
 qdt qeF qdb qu qcw qci qh2 LC.low qaj LC.movedId qah LC.deep kill freeze Blk.froze los lo qct Ty.flat Ty.sz LC.isDef LV.isAgg qar qlL qpV qfT qed qls qgY Gam.get qF qdC Blk.up qfC
 St.gc St.order St.renum qqz qgs qfZ qKd qKz qi2 LV.ren LC.ren qgA LC.idOf Blk.ren qaI qcS qdn qev sx0 qeB qmS qeW LV.rd List.replicate
end
end Go.T
