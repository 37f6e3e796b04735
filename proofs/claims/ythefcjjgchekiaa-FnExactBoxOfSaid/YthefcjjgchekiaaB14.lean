/- Bounds of a normal cell: the reference's. -/
import Derived.Test.YthefcjjgchekiaaB13
set_option linter.unusedSimpArgs false
set_option linter.unusedVariables false
namespace Go.T
open Go Go.Proofs
set_option maxHeartbeats 4000000
set_option maxRecDepth 100000
theorem qEu {r:Val Y64} (h:qN r=true):okQ r:= .inl h
theorem qrR {b:Val Y66} {a:Val Y36} {v:Int} (hb:qc6 b) (ha:okA a):qc6 (qak b a v):=by
 unfold qak
 by_cases hx:0<cfV v a
 ·have hr:=qok (v:=v) ha (by omega)
  rw [qh hx]
  cases (!b.2.2.2.1||qad (qe (-(a.2.1:Int)) (cfV v a)) b.2.2.2.2.1||(decide (qe (-(a.2.1:Int)) (cfV v a)=b.2.2.2.2.1)&&a.2.2))with
  | true=>exact ⟨hb.1,qEu hr,fun _=>hr⟩
  | false=>exact hb
 ·rw [qi hx]
  by_cases hx2:cfV v a<0
  ·have hr:=qok (v:=v) ha (by omega)
   rw [qh hx2]
   cases (!b.1||qad b.2.1 (qe (-(a.2.1:Int)) (cfV v a))||(decide (qe (-(a.2.1:Int)) (cfV v a)=b.2.1)&&a.2.2))with
   | true=>exact ⟨⟨qEu hr,fun _=>hr⟩,hb.2⟩
   | false=>exact hb
  ·rw [qi hx2];exact hb
theorem qpW:qc6 noB:=⟨⟨.inr rfl,fun h=>by simp [noB]at h⟩,.inr rfl,fun h=>by simp [noB]at h⟩
theorem qq2 {v:Int}: ∀{l:List (Val Y36)} {b:Val Y66},qc6 b→(∀a∈l,okA a)→qc6 (l.foldl (fun b a=>qak b a v) b)
 | [],_,hb,_=>hb
 | a::r,b,hb,h=>qq2 (l:=r) (qrR hb (h a (by simp))) fun c hc=>h c (by simp [hc])
abbrev KB:=Bool→Int→Int→Bool→Bool→Int→Int→Bool→Bool→Option (qb [i66])
def apB (K:KB) (b:Val Y66):Option (qb [i66]):=K b.1 b.2.1.1 b.2.1.2 b.2.2.1 b.2.2.2.1 b.2.2.2.2.1.1 b.2.2.2.2.1.2 b.2.2.2.2.2.1 b.2.2.2.2.2.2
theorem qPV {b:Val Y66} {a:Val Y36} {v:Int} (h:qZ a=false):qak b a v=b:=by
 have hz:cfV v a=0:=by
  unfold qZ at h
  have h0:gL 0 (atm a).1=0:=by simpa using h
  unfold cfV
  by_cases hv:v.toNat<List.length (α:=Int) a.1
  ·rw [List.getD_eq_getElem?_getD,List.getElem?_eq_getElem hv]
   exact qqE.1 h0 _ (List.getElem_mem hv)
  ·rw [List.getD_eq_getElem?_getD,List.getElem?_eq_none (by omega)];rfl
 unfold qak
 rw [hz]
 rfl
theorem t51 (N:Nat) (d v:Int) (hv:0≤v∧v<d) (l:List (Val Y36)) (hl:l.length≤16) (h: ∀a∈l,okD d a) (K:KB): ∀(k i:Nat),l.length - i=k→ ∀n,k<n→ ∀b:Val Y66,qc6 b→
 apB (qeL N v d l false 0 0 false false 0 0 false false K n i) b=bif (l.drop i).any qaK then some (qlg,())else apB K ((l.drop i).foldl (fun b a=>qak b a v) b)
 | 0,i,hi,n+1,_,b,_=>by
   unfold apB
   rw [qeL,qi (by omega),List.drop_eq_nil_of_le (by omega)]
   rfl
 | k+1,i,hi,n+1,hn,b,hb=>by
   have h1:i<l.length:=by omega
   have ha:=h _ (List.getElem_mem h1)
   have had:=ha.2
   have hp:qqt b l[i] v:=⟨hb,ha.1,hv.1,by rw [had];exact hv.2⟩
   rw [qdw h1,List.foldl_cons,List.any_cons]
   have ih:=t51 N d v hv l hl h K k (i+1) (by omega) n (by omega)
   unfold apB at*
   rw [qeL,qh (by omega),qc (by omega),qL h1,qc (show qig l[i] from ha.1),qeD h1 (by omega)]
   cases hn0:qcx l[i]with
   | true=>
     have hva:qZ l[i]=false:=by simpa [qcx] using hn0
     simp only [cond_true]
     rw [qc (by omega),qAM,hn0,qPV hva]
     cases qdk l[i]with
     | false=>rfl
     | true=>exact ih b hb
   | false=>
     simp only [cond_false]
     rw [qAM,hn0,qc (by omega)]
     refine (qc hp).trans ?_
     exact ih (qak b l[i] v) (qrR hb ha.1)
theorem e51 (c:Val Y32) (v:Int) (h:qhl c v): ∃N,m51 N c v=some (qaE c v,()):=⟨List.length (α:=Val Y36) c.2+1,by
 obtain ⟨hc,hv⟩:=h
 obtain ⟨hd,hl,hok⟩:=qcI hc
 rw [m51]
 unfold qaE
 have t:=t51 (List.length (α:=Val Y36) c.2+1) c.1 v hv c.2 hl hok
 refine (t _ _ 0 rfl _ (Nat.lt_succ_self _) noB qpW).trans ?_
 rw [List.drop_zero]
 cases List.any (α:=Val Y36) c.2 qaK with
 | true=>rfl
 | false=>
   simp only [cond_false]
   have hb:qc6 (qg c v):=qq2 qpW fun a ha=>(hok a ha).1
   rw [show List.foldl (fun (b:Val Y66) (a:Val Y36)=>qak b a v) noB (c.2:List (Val Y36))=qg c v from rfl]
   generalize qg c v=b at hb
   obtain ⟨hl,l,lo,hh,g,ho,em⟩:=b
   unfold apB qs0
   dsimp only
   have hl':qdz l:=qm9 hb.1.1
   have hg':qdz g:=qm9 hb.2.1
   have p:qct g l:=⟨hg',hl'⟩
   have eg:(((g.1:Int),(g.2:Int)):Val Y64)=g:=rfl
   have el:(((l.1:Int),(l.2:Int)):Val Y64)=l:=rfl
   rw [eg,el,qc p]
   by_cases he:g=l
   ·subst he
    cases hl<;>cases hh<;>cases qad g g<;>cases lo<;>cases ho<;>simp [qlg]
   ·have hne:(decide ((g.1:Int)=(l.1:Int))&&decide ((g.2:Int)=(l.2:Int)))=false:=by
        rw [Bool.eq_false_iff]
        intro h
        simp only [Bool.and_eq_true,decide_eq_true_eq]at h
        exact he (Prod.ext h.1 h.2)
    rw [hne,decide_eq_false he]
    cases hl<;>cases hh<;>cases qad g l<;>cases lo<;>cases ho<;>rfl⟩
theorem s51:Sound Try.prog 51 g51:=qw (tt:=tt) (Γ:=Γ51) hT (qf s60 (qf s61 (qf s69 (qf s70 qq)))) hm (fn:=Try.f51) Try.func51 (c:=Try.f51.body.getD .skip) (by kernel_rfl) (by kernel_rfl) fun x hx=>by
 obtain ⟨N,h⟩:=e51 x.1 x.2.1 hx
 exact ⟨T51 N,p51,qx _,qJw N,(qOK N x.1 x.2.1).trans h⟩
end Go.T
