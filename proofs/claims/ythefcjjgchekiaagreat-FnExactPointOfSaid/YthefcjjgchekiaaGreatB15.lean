/- Bounds of a normal cell: the reference's. -/
import Derived.Test.YthefcjjgchekiaaGreatB13
set_option linter.unusedSimpArgs false
set_option linter.unusedVariables false
namespace Go.T
open Go Go.Proofs
set_option maxHeartbeats 4000000
set_option maxRecDepth 100000
theorem qZV {r:Val Y28} (h:qi r=true):okQ r:= .inl h
theorem qBD {b:Val qad} {a:Val qa} {v:Int} (hb:qbM b) (ha:okA a):qbM (qay b a v):=by
 unfold qay
 by_cases hx:0<cfV v a
 ·have hr:=qnr (v:=v) ha (by omega)
  rw [qk hx]
  cases (!b.2.2.2.1||qab (ql (-(a.2.1:Int)) (cfV v a)) b.2.2.2.2.1||(decide (ql (-(a.2.1:Int)) (cfV v a)=b.2.2.2.2.1)&&a.2.2))with
  | true=>exact ⟨hb.1,qZV hr,fun _=>hr⟩
  | false=>exact hb
 ·rw [qj hx]
  by_cases hx2:cfV v a<0
  ·have hr:=qnr (v:=v) ha (by omega)
   rw [qk hx2]
   cases (!b.1||qab b.2.1 (ql (-(a.2.1:Int)) (cfV v a))||(decide (ql (-(a.2.1:Int)) (cfV v a)=b.2.1)&&a.2.2))with
   | true=>exact ⟨⟨qZV hr,fun _=>hr⟩,hb.2⟩
   | false=>exact hb
  ·rw [qj hx2];exact hb
theorem qeC:qbM noB:=⟨⟨.inr rfl,fun h=>by simp [noB]at h⟩,.inr rfl,fun h=>by simp [noB]at h⟩
theorem qpy {v:Int}: ∀{l:List (Val qa)} {b:Val qad},qbM b→(∀a∈l,okA a)→qbM (l.foldl (fun b a=>qay b a v) b)
 | [],_,hb,_=>hb
 | a::r,b,hb,h=>qpy (l:=r) (qBD hb (h a (by simp))) fun c hc=>h c (by simp [hc])
abbrev KB:=Bool→Int→Int→Bool→Bool→Int→Int→Bool→Bool→Option (qc [qD])
def apB (K:KB) (b:Val qad):Option (qc [qD]):=K b.1 b.2.1.1 b.2.1.2 b.2.2.1 b.2.2.2.1 b.2.2.2.2.1.1 b.2.2.2.2.1.2 b.2.2.2.2.2.1 b.2.2.2.2.2.2
theorem zoM {b:Val qad} {a:Val qa} {v:Int} (h:q8 a=false):qay b a v=b:=by
 have hz:cfV v a=0:=by
  unfold q8 at h
  have h0:gL 0 (atm a).1=0:=by simpa using h
  unfold cfV
  by_cases hv:v.toNat<List.length (α:=Int) a.1
  ·rw [List.getD_eq_getElem?_getD,List.getElem?_eq_getElem hv]
   exact qpr.1 h0 _ (List.getElem_mem hv)
  ·rw [List.getD_eq_getElem?_getD,List.getElem?_eq_none (by omega)];rfl
 unfold qay
 rw [hz]
 rfl
theorem qZ7 (N:Nat) (d v:Int) (hv:0≤v∧v<d) (l:List (Val qa)) (hl:l.length≤16) (h: ∀a∈l,okD d a) (K:KB): ∀(k i:Nat),l.length - i=k→ ∀n,k<n→ ∀b:Val qad,qbM b→
 apB (qiu N v d l false 0 0 false false 0 0 false false K n i) b=bif (l.drop i).any qaB then some (qfq,())else apB K ((l.drop i).foldl (fun b a=>qay b a v) b)
 | 0,i,hi,n+1,_,b,_=>by
   unfold apB
   rw [qiu,qj (by omega),List.drop_eq_nil_of_le (by omega)]
   rfl
 | k+1,i,hi,n+1,hn,b,hb=>by
   have h1:i<l.length:=by omega
   have ha:=h _ (List.getElem_mem h1)
   have had:=ha.2
   have hp:qEK b l[i] v:=⟨hb,ha.1,hv.1,by rw [had];exact hv.2⟩
   rw [qbo h1,List.foldl_cons,List.any_cons]
   have ih:=qZ7 N d v hv l hl h K k (i+1) (by omega) n (by omega)
   unfold apB at*
   rw [qiu,qk (by omega),qd (by omega),qF h1,qd (show qnZ l[i] from ha.1),qa2 h1 (by omega)]
   cases hn0:qcL l[i]with
   | true=>
     have hva:q8 l[i]=false:=by simpa [qcL] using hn0
     simp only [cond_true]
     rw [qd (by omega),qXb,hn0,zoM hva]
     cases qfO l[i]with
     | false=>rfl
     | true=>exact ih b hb
   | false=>
     simp only [cond_false]
     rw [qXb,hn0,qd (by omega)]
     refine (qd hp).trans ?_
     exact ih (qay b l[i] v) (qBD hb ha.1)
theorem zj8 (c:Val Y33) (v:Int) (h:qe5 c v): ∃N,qEI N c v=some (qm c v,()):=⟨List.length (α:=Val qa) c.2+1,by
 obtain ⟨hc,hv⟩:=h
 obtain ⟨hd,hl,hok⟩:=qaJ hc
 rw [qEI]
 unfold qm
 have t:=qZ7 (List.length (α:=Val qa) c.2+1) c.1 v hv c.2 hl hok
 refine (t _ _ 0 rfl _ (Nat.lt_succ_self _) noB qeC).trans ?_
 rw [List.drop_zero]
 cases List.any (α:=Val qa) c.2 qaB with
 | true=>rfl
 | false=>
   simp only [cond_false]
   have hb:qbM (qf c v):=qpy qeC fun a ha=>(hok a ha).1
   rw [show List.foldl (fun (b:Val qad) (a:Val qa)=>qay b a v) noB (c.2:List (Val qa))=qf c v from rfl]
   generalize qf c v=b at hb
   obtain ⟨hl,l,lo,hh,g,ho,em⟩:=b
   unfold apB qqc
   dsimp only
   have hl':qgc l:=qBv hb.1.1
   have hg':qgc g:=qBv hb.2.1
   have p:qcm g l:=⟨hg',hl'⟩
   have eg:(((g.1:Int),(g.2:Int)):Val Y28)=g:=rfl
   have el:(((l.1:Int),(l.2:Int)):Val Y28)=l:=rfl
   rw [eg,el,qd p]
   by_cases he:g=l
   ·subst he
    cases hl<;>cases hh<;>cases qab g g<;>cases lo<;>cases ho<;>simp [qfq]
   ·have hne:(decide ((g.1:Int)=(l.1:Int))&&decide ((g.2:Int)=(l.2:Int)))=false:=by
        rw [Bool.eq_false_iff]
        intro h
        simp only [Bool.and_eq_true,decide_eq_true_eq]at h
        exact he (Prod.ext h.1 h.2)
    rw [hne,decide_eq_false he]
    cases hl<;>cases hh<;>cases qab g l<;>cases lo<;>cases ho<;>rfl⟩
theorem qYG:Sound Tryz.prog 206 qcb:=qx (tt:=tt) (Γ:=qh6) hT (qg qW2 (qg q4c (qg q31 (qg zqw qu)))) hm (fn:=Tryz.f206) Tryz.func206 (c:=Tryz.f206.body.getD .skip) (by kernel_rfl) (by kernel_rfl) fun x hx=>by
 obtain ⟨N,h⟩:=zj8 x.1 x.2.1 hx
 exact ⟨qc7 N,q7D,qy _,zkR N,(zdV N x.1 x.2.1).trans h⟩
end Go.T
/- Bounds of a normal cell: the program's. -/
set_option linter.unusedSimpArgs false
set_option linter.unusedVariables false
namespace Go.T
open Go Go.Proofs
set_option maxHeartbeats 4000000
set_option maxRecDepth 100000
abbrev KB8:=Bool→Int→Int→Bool→Bool→Int→Int→Bool→Option (qc [qD])
def qej (K:KB8) (b:Val qad):Option (qc [qD]):=K b.1 b.2.1.1 b.2.1.2 b.2.2.1 b.2.2.2.1 b.2.2.2.2.1.1 b.2.2.2.2.1.2 b.2.2.2.2.2.1
theorem zcI (b:Val qad) (a:Val qa) (v:Int):(qay b a v).2.2.2.2.2.2=b.2.2.2.2.2.2:=by
 unfold qay
 cases decide (0<cfV v a)with
 | true=>cases (!b.2.2.2.1||qab (ql (-(a.2.1:Int)) (cfV v a)) b.2.2.2.2.1||(decide (ql (-(a.2.1:Int)) (cfV v a)=b.2.2.2.2.1)&&a.2.2))<;>rfl
 | false=>
   cases decide (cfV v a<0)with
   | true=>cases (!b.1||qab b.2.1 (ql (-(a.2.1:Int)) (cfV v a))||(decide (ql (-(a.2.1:Int)) (cfV v a)=b.2.1)&&a.2.2))<;>rfl
   | false=>rfl
theorem qTm {v:Int}: ∀(l:List (Val qa)) (b:Val qad),(l.foldl (fun b a=>qay b a v) b).2.2.2.2.2.2=b.2.2.2.2.2.2
 | [],_=>rfl
 | a::r,b=>(qTm r (qay b a v)).trans (zcI b a v)
theorem q9l (REC:KB8) {b:Val qad} {a:Val qa} {v:Int} (hb:qbM b) (ha:okA a):
 (bif decide (cfV v a=0)then qej REC b else chk (qb2 (-(a.2.1:Int)) (cfV v a)) (bif decide (0<cfV v a)then (bif !b.2.2.2.1 then REC b.1 b.2.1.1 b.2.1.2 b.2.2.1 true (qQ (-(a.2.1:Int)) (cfV v a)).1 (qQ (-(a.2.1:Int)) (cfV v a)).2 a.2.2 else bif decide (qbd (qQ (-(a.2.1:Int)) (cfV v a)) b.2.2.2.2.1<0)then REC b.1 b.2.1.1 b.2.1.2 b.2.2.1 true (qQ (-(a.2.1:Int)) (cfV v a)).1 (qQ (-(a.2.1:Int)) (cfV v a)).2 a.2.2 else bif decide (qbd (qQ (-(a.2.1:Int)) (cfV v a)) b.2.2.2.2.1=0)then (bif a.2.2 then REC b.1 b.2.1.1 b.2.1.2 b.2.2.1 true (qQ (-(a.2.1:Int)) (cfV v a)).1 (qQ (-(a.2.1:Int)) (cfV v a)).2 a.2.2 else qej REC b)else qej REC b)
   else (bif !b.1 then REC true (qQ (-(a.2.1:Int)) (cfV v a)).1 (qQ (-(a.2.1:Int)) (cfV v a)).2 a.2.2 b.2.2.2.1 b.2.2.2.2.1.1 b.2.2.2.2.1.2 b.2.2.2.2.2.1 else bif decide (0<qbd (qQ (-(a.2.1:Int)) (cfV v a)) b.2.1)then REC true (qQ (-(a.2.1:Int)) (cfV v a)).1 (qQ (-(a.2.1:Int)) (cfV v a)).2 a.2.2 b.2.2.2.1 b.2.2.2.2.1.1 b.2.2.2.2.1.2 b.2.2.2.2.2.1 else bif decide (qbd (qQ (-(a.2.1:Int)) (cfV v a)) b.2.1=0)then (bif a.2.2 then REC true (qQ (-(a.2.1:Int)) (cfV v a)).1 (qQ (-(a.2.1:Int)) (cfV v a)).2 a.2.2 b.2.2.2.1 b.2.2.2.2.1.1 b.2.2.2.2.1.2 b.2.2.2.2.2.1 else qej REC b)else qej REC b)))=qej REC (qay b a v):=by
 have hcc:=qfI ha
 have hxx:=qtp (v:=v) ha
 have hc': -400000000≤ -(a.2.1:Int)∧ -(a.2.1:Int)≤400000000:=⟨Int.neg_le_neg hcc.2,by have:=Int.neg_le_neg hcc.1;exact this⟩
 have hpre:qb2 (-(a.2.1:Int)) (cfV v a):=⟨qg5 (qbv ha).2.1,by unfold inI;omega⟩
 have hlim:=fun h0=>qnr (v:=v) ha h0
 have hmk:ql (-(a.2.1:Int)) (cfV v a)=qQ (-(a.2.1:Int)) (cfV v a):=qFG hc' hxx
 rw [qd hpre]
 unfold qay
 rw [hmk]at hlim ⊢
 generalize cfV v a=x at*
 generalize qQ (-(a.2.1:Int)) x=r at*
 obtain ⟨hl,l,lo,hh,g,ho,em⟩:=b
 by_cases h0:x=0
 ·subst h0;rfl
 have hr:=hlim h0
 rw [qj h0]
 by_cases hx:0<x
 ·rw [qk hx,qk hx]
  cases hh with
  | false=>rfl
  | true=>
    have hg:qi g=true:=hb.2.2 rfl
    dsimp only
    rw [qZH hr hg]
    by_cases he:r=g
    ·subst he
     rw [qk ((qjf hr hr).2 rfl)]
     cases qab r r<;>cases a.2.2<;>simp [qej]
    ·rw [qj (fun h=>he ((qjf hr hg).1 h)),decide_eq_false he]
     cases qab r g<;>rfl
 ·rw [qj hx,qj hx,qk (show x<0 by omega)]
  cases hl with
  | false=>rfl
  | true=>
    have hg:qi l=true:=hb.1.2 rfl
    dsimp only
    rw [q2S hr hg]
    by_cases he:r=l
    ·subst he
     rw [qk ((qjf hr hr).2 rfl)]
     cases qab r r<;>cases a.2.2<;>simp [qej]
    ·rw [qj (fun h=>he ((qjf hr hg).1 h)),decide_eq_false he]
     cases qab l r<;>rfl
theorem q2R (N:Nat) (d v:Int) (hv:0≤v∧v<d) (l:List (Val qa)) (hl:l.length≤16) (h: ∀a∈l,okD d a) (K:KB8): ∀(k i:Nat),l.length - i=k→ ∀n,k<n→ ∀b:Val qad,qbM b→
 qej (qca N v l l.length false 0 0 false false 0 0 false false false K n i) b=qej K ((l.drop i).foldl (fun b a=>qay b a v) b)
 | 0,i,hi,n+1,_,b,_=>by
   unfold qej
   rw [qca,qj (by omega),List.drop_eq_nil_of_le (by omega)]
   rfl
 | k+1,i,hi,n+1,hn,b,hb=>by
   have h1:i<l.length:=by omega
   have ha:=h _ (List.getElem_mem h1)
   have had:=ha.2
   rw [qbo h1,List.foldl_cons]
   refine Eq.trans ?_ (q2R N d v hv l hl h K k (i+1) (by omega) n (by omega) (qay b l[i] v) (qBD hb ha.1))
   rw [←q9l _ hb ha.1]
   have hc:inI l[i].2.1:=(qbv ha.1).2.1
   conv=>lhs;unfold qej
   rw [qca,qk (by omega),qd (by omega),qF h1,qd ⟨hv.1,by rw [show (List.length (α:=Val (.int .i64)) l[i].1:Int)=d from had];exact hv.2⟩,qld v l[i],qjd hc,qa2 h1 (by omega)]
   rfl
theorem zl9 (c:Val Y33) (v:Int) (h:qhf c v): ∃N,qD9 N c v=some (qf c v,()):=⟨List.length (α:=Val qa) c.2+1,by
 obtain ⟨hc,hv⟩:=h
 obtain ⟨hd,hl,hok⟩:=qaJ hc
 rw [qD9]
 have t:=q2R (List.length (α:=Val qa) c.2+1) c.1 v hv c.2 hl hok
 refine (t _ _ 0 rfl _ (Nat.lt_succ_self _) noB qeC).trans ?_
 rw [List.drop_zero]
 have he:(qf c v).2.2.2.2.2.2=false:=qTm _ noB
 rw [show List.foldl (fun (b:Val qad) (a:Val qa)=>qay b a v) noB (c.2:List (Val qa))=qf c v from rfl]
 generalize qf c v=b at he
 obtain ⟨hl,l,lo,hh,g,ho,em⟩:=b
 have he:em=false:=he
 subst he
 rfl⟩
theorem q4s:Sound Tryz.prog 228 qcw:=qx (tt:=tt) (Γ:=qma) hT (qg qSu (qg qVn qu)) hm (fn:=Tryz.f228) Tryz.func228 (c:=Tryz.f228.body.getD .skip) (by kernel_rfl) (by kernel_rfl) fun x hx=>by
 obtain ⟨N,h⟩:=zl9 x.1 x.2.1 hx
 exact ⟨qc5 N,zcG,qy _,zmo N,(zft N x.1 x.2.1).trans h⟩
end Go.T
