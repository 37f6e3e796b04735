/- Bounds of a normal cell: the reference's. -/
import Derived.Test.YthefcjjgchekiaaGreatB13
set_option linter.unusedSimpArgs false
set_option linter.unusedVariables false
namespace Go.T
open Go Go.Proofs
set_option maxHeartbeats 4000000
set_option maxRecDepth 100000
theorem q8U {r:Val Y28} (h:qE r=true):okQ r:= .inl h
theorem qOE {b:Val qa7} {a:Val qa} {v:Int} (hb:qeW b) (ha:okA a):qeW (qa6 b a v):=by
 unfold qa6
 by_cases hx:0<cfV v a
 ·have hr:=qEH (v:=v) ha (by omega)
  rw [qj hx]
  cases (!b.2.2.2.1||qaJ (qq (-(a.2.1:Int)) (cfV v a)) b.2.2.2.2.1||(decide (qq (-(a.2.1:Int)) (cfV v a)=b.2.2.2.2.1)&&a.2.2))with
  | true=>exact ⟨hb.1,q8U hr,fun _=>hr⟩
  | false=>exact hb
 ·rw [qi hx]
  by_cases hx2:cfV v a<0
  ·have hr:=qEH (v:=v) ha (by omega)
   rw [qj hx2]
   cases (!b.1||qaJ b.2.1 (qq (-(a.2.1:Int)) (cfV v a))||(decide (qq (-(a.2.1:Int)) (cfV v a)=b.2.1)&&a.2.2))with
   | true=>exact ⟨⟨q8U hr,fun _=>hr⟩,hb.2⟩
   | false=>exact hb
  ·rw [qi hx2];exact hb
theorem qCu:qeW noB:=⟨⟨.inr rfl,fun h=>by simp [noB]at h⟩,.inr rfl,fun h=>by simp [noB]at h⟩
theorem qWi {v:Int}: ∀{l:List (Val qa)} {b:Val qa7},qeW b→(∀a∈l,okA a)→qeW (l.foldl (fun b a=>qa6 b a v) b)
 | [],_,hb,_=>hb
 | a::r,b,hb,h=>qWi (l:=r) (qOE hb (h a (by simp))) fun c hc=>h c (by simp [hc])
abbrev KB:=Bool→Int→Int→Bool→Bool→Int→Int→Bool→Bool→Option (qc [q8])
def apB (K:KB) (b:Val qa7):Option (qc [q8]):=K b.1 b.2.1.1 b.2.1.2 b.2.2.1 b.2.2.2.1 b.2.2.2.2.1.1 b.2.2.2.2.1.2 b.2.2.2.2.2.1 b.2.2.2.2.2.2
theorem q9R (N:Nat) (d v:Int) (hv:0≤v∧v<d) (l:List (Val qa)) (hl:l.length≤16) (h: ∀a∈l,okD d a∧qaz a=true) (K:KB): ∀(k i:Nat),l.length - i=k→ ∀n,k<n→ ∀b:Val qa7,qeW b→
 apB (qhf N v d l false 0 0 false false 0 0 false false K n i) b=apB K ((l.drop i).foldl (fun b a=>qa6 b a v) b)
 | 0,i,hi,n+1,_,b,_=>by
   unfold apB
   rw [qhf,qi (by omega),List.drop_eq_nil_of_le (by omega)]
   rfl
 | k+1,i,hi,n+1,hn,b,hb=>by
   have h1:i<l.length:=by omega
   obtain ⟨ha,hva⟩:=h _ (List.getElem_mem h1)
   have hn0:qbJ l[i]=false:=by unfold qbJ;rw [hva];rfl
   have had:=ha.2
   have hp:qBP b l[i] v:=⟨hb,ha.1,hv.1,by rw [had];exact hv.2⟩
   rw [qbE h1,List.foldl_cons]
   refine Eq.trans ?_ (q9R N d v hv l hl h K k (i+1) (by omega) n (by omega) (qa6 b l[i] v) (qOE hb ha.1))
   unfold apB
   rw [qhf,qj (by omega),qe (by omega),qI h1,qe (show qgY l[i] from ha.1),hn0,cond_false,qe (by omega),qbr h1 (by omega)]
   exact qe hp
theorem zfV (c:Val Y33) (v:Int) (h:qnu c v): ∃N,qzR N c v=some (qbj c v,()):=⟨List.length (α:=Val qa) c.2+1,by
 obtain ⟨hc,hn,hv⟩:=h
 obtain ⟨hd,hl,hok⟩:=qaG hc
 rw [qzR]
 unfold qbj
 rcases hn with hn | hn
 ·rw [q92 hn]
  have e2:(c.2:List (Val qa))=[(List.replicate (c.1:Int).toNat (0:Int),(1:Int),false)]:=congrArg Prod.snd hn
  have ho:okA ((List.replicate (c.1:Int).toNat (0:Int),(1:Int),false):Val qa):=(hok _ (by rw [e2];simp)).1
  have hnc:qbJ ((List.replicate (c.1:Int).toNat (0:Int),(1:Int),false):Val qa)=true:=by unfold qbJ;rw [qTB];rfl
  have e3:List.length (α:=Val qa) c.2=1:=by rw [e2];rfl
  have e4:List.getD (α:=Val qa) c.2 (Int.toNat 0) (qb qa)=(List.replicate (c.1:Int).toNat (0:Int),(1:Int),false):=by rw [e2];rfl
  rw [qhf,qj (by omega),qe (by omega),e4,qe (show qgY _ from ho),hnc,cond_true,qe (by omega)]
  rfl
 ·rw [q8R hn]
  have t:=q9R (List.length (α:=Val qa) c.2+1) c.1 v hv c.2 hl (fun a ha=>⟨hok a ha,hn a ha⟩)
  refine (t _ _ 0 rfl _ (Nat.lt_succ_self _) noB qCu).trans ?_
  rw [List.drop_zero]
  have hb:qeW (qy c v):=qWi qCu fun a ha=>(hok a ha).1
  rw [show List.foldl (fun (b:Val qa7) (a:Val qa)=>qa6 b a v) noB (c.2:List (Val qa))=qy c v from rfl]
  generalize qy c v=b at hb
  obtain ⟨hl,l,lo,hh,g,ho,em⟩:=b
  unfold apB qOp
  dsimp only
  have hl':qgp l:=qFi hb.1.1
  have hg':qgp g:=qFi hb.2.1
  have p:qc2 g l:=⟨hg',hl'⟩
  have eg:(((g.1:Int),(g.2:Int)):Val Y28)=g:=rfl
  have el:(((l.1:Int),(l.2:Int)):Val Y28)=l:=rfl
  rw [eg,el,qe p]
  by_cases he:g=l
  ·subst he
   cases hl<;>cases hh<;>cases qaJ g g<;>cases lo<;>cases ho<;>simp [qBC]
  ·have hne:(decide ((g.1:Int)=(l.1:Int))&&decide ((g.2:Int)=(l.2:Int)))=false:=by
      rw [Bool.eq_false_iff]
      intro h
      simp only [Bool.and_eq_true,decide_eq_true_eq]at h
      exact he (Prod.ext h.1 h.2)
   rw [hne,decide_eq_false he]
   cases hl<;>cases hh<;>cases qaJ g l<;>cases lo<;>cases ho<;>rfl⟩
theorem zmH:Sound Tryz.prog 206 qnY:=qr (tt:=tt) (Γ:=qg2) hT (qg q88 (qg qBQ (qg q5J (qg zlQ qn)))) hm (fn:=Tryz.f206) Tryz.func206 (c:=Tryz.f206.body.getD .skip) (by kernel_rfl) (by kernel_rfl) fun x hx=>by
 obtain ⟨N,h⟩:=zfV x.1 x.2.1 hx
 exact ⟨qdO N,zhN,qu _,zr7 N,(zft N x.1 x.2.1).trans h⟩
end Go.T
