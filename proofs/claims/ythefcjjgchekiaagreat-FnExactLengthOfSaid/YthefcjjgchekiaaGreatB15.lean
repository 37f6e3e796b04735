/- Bounds of a normal cell: the program's. -/
import Derived.Test.YthefcjjgchekiaaGreatB14
set_option linter.unusedSimpArgs false
set_option linter.unusedVariables false
namespace Go.T
open Go Go.Proofs
set_option maxHeartbeats 4000000
set_option maxRecDepth 100000
abbrev KB8:=Bool→Int→Int→Bool→Bool→Int→Int→Bool→Option (qc [q8])
def qeu (K:KB8) (b:Val qa7):Option (qc [q8]):=K b.1 b.2.1.1 b.2.1.2 b.2.2.1 b.2.2.2.1 b.2.2.2.2.1.1 b.2.2.2.2.1.2 b.2.2.2.2.2.1
theorem zb5 (b:Val qa7) (a:Val qa) (v:Int):(qa6 b a v).2.2.2.2.2.2=b.2.2.2.2.2.2:=by
 unfold qa6
 cases decide (0<cfV v a)with
 | true=>cases (!b.2.2.2.1||qaJ (qq (-(a.2.1:Int)) (cfV v a)) b.2.2.2.2.1||(decide (qq (-(a.2.1:Int)) (cfV v a)=b.2.2.2.2.1)&&a.2.2))<;>rfl
 | false=>
   cases decide (cfV v a<0)with
   | true=>cases (!b.1||qaJ b.2.1 (qq (-(a.2.1:Int)) (cfV v a))||(decide (qq (-(a.2.1:Int)) (cfV v a)=b.2.1)&&a.2.2))<;>rfl
   | false=>rfl
theorem q5M {v:Int}: ∀(l:List (Val qa)) (b:Val qa7),(l.foldl (fun b a=>qa6 b a v) b).2.2.2.2.2.2=b.2.2.2.2.2.2
 | [],_=>rfl
 | a::r,b=>(q5M r (qa6 b a v)).trans (zb5 b a v)
theorem zoL (REC:KB8) {b:Val qa7} {a:Val qa} {v:Int} (hb:qeW b) (ha:okA a):
 (bif decide (cfV v a=0)then qeu REC b else chk (qc9 (-(a.2.1:Int)) (cfV v a)) (bif decide (0<cfV v a)then (bif !b.2.2.2.1 then REC b.1 b.2.1.1 b.2.1.2 b.2.2.1 true (q6 (-(a.2.1:Int)) (cfV v a)).1 (q6 (-(a.2.1:Int)) (cfV v a)).2 a.2.2 else bif decide (qbB (q6 (-(a.2.1:Int)) (cfV v a)) b.2.2.2.2.1<0)then REC b.1 b.2.1.1 b.2.1.2 b.2.2.1 true (q6 (-(a.2.1:Int)) (cfV v a)).1 (q6 (-(a.2.1:Int)) (cfV v a)).2 a.2.2 else bif decide (qbB (q6 (-(a.2.1:Int)) (cfV v a)) b.2.2.2.2.1=0)then (bif a.2.2 then REC b.1 b.2.1.1 b.2.1.2 b.2.2.1 true (q6 (-(a.2.1:Int)) (cfV v a)).1 (q6 (-(a.2.1:Int)) (cfV v a)).2 a.2.2 else qeu REC b)else qeu REC b)
   else (bif !b.1 then REC true (q6 (-(a.2.1:Int)) (cfV v a)).1 (q6 (-(a.2.1:Int)) (cfV v a)).2 a.2.2 b.2.2.2.1 b.2.2.2.2.1.1 b.2.2.2.2.1.2 b.2.2.2.2.2.1 else bif decide (0<qbB (q6 (-(a.2.1:Int)) (cfV v a)) b.2.1)then REC true (q6 (-(a.2.1:Int)) (cfV v a)).1 (q6 (-(a.2.1:Int)) (cfV v a)).2 a.2.2 b.2.2.2.1 b.2.2.2.2.1.1 b.2.2.2.2.1.2 b.2.2.2.2.2.1 else bif decide (qbB (q6 (-(a.2.1:Int)) (cfV v a)) b.2.1=0)then (bif a.2.2 then REC true (q6 (-(a.2.1:Int)) (cfV v a)).1 (q6 (-(a.2.1:Int)) (cfV v a)).2 a.2.2 b.2.2.2.1 b.2.2.2.2.1.1 b.2.2.2.2.1.2 b.2.2.2.2.2.1 else qeu REC b)else qeu REC b)))=qeu REC (qa6 b a v):=by
 have hcc:=qgR ha
 have hxx:=qBg (v:=v) ha
 have hc': -400000000≤ -(a.2.1:Int)∧ -(a.2.1:Int)≤400000000:=⟨Int.neg_le_neg hcc.2,by have:=Int.neg_le_neg hcc.1;exact this⟩
 have hpre:qc9 (-(a.2.1:Int)) (cfV v a):=⟨qhg (qbb ha).2.1,by unfold inI;omega⟩
 have hlim:=fun h0=>qEH (v:=v) ha h0
 have hmk:qq (-(a.2.1:Int)) (cfV v a)=q6 (-(a.2.1:Int)) (cfV v a):=q7W hc' hxx
 rw [qe hpre]
 unfold qa6
 rw [hmk]at hlim ⊢
 generalize cfV v a=x at*
 generalize q6 (-(a.2.1:Int)) x=r at*
 obtain ⟨hl,l,lo,hh,g,ho,em⟩:=b
 by_cases h0:x=0
 ·subst h0;rfl
 have hr:=hlim h0
 rw [qi h0]
 by_cases hx:0<x
 ·rw [qj hx,qj hx]
  cases hh with
  | false=>rfl
  | true=>
    have hg:qE g=true:=hb.2.2 rfl
    dsimp only
    rw [zmN hr hg]
    by_cases he:r=g
    ·subst he
     rw [qj ((qoY hr hr).2 rfl)]
     cases qaJ r r<;>cases a.2.2<;>simp [qeu]
    ·rw [qi (fun h=>he ((qoY hr hg).1 h)),decide_eq_false he]
     cases qaJ r g<;>rfl
 ·rw [qi hx,qi hx,qj (show x<0 by omega)]
  cases hl with
  | false=>rfl
  | true=>
    have hg:qE l=true:=hb.1.2 rfl
    dsimp only
    rw [q6u hr hg]
    by_cases he:r=l
    ·subst he
     rw [qj ((qoY hr hr).2 rfl)]
     cases qaJ r r<;>cases a.2.2<;>simp [qeu]
    ·rw [qi (fun h=>he ((qoY hr hg).1 h)),decide_eq_false he]
     cases qaJ l r<;>rfl
theorem zaL (N:Nat) (d v:Int) (hv:0≤v∧v<d) (l:List (Val qa)) (hl:l.length≤16) (h: ∀a∈l,okD d a) (K:KB8): ∀(k i:Nat),l.length - i=k→ ∀n,k<n→ ∀b:Val qa7,qeW b→
 qeu (qcs N v l l.length false 0 0 false false 0 0 false false false K n i) b=qeu K ((l.drop i).foldl (fun b a=>qa6 b a v) b)
 | 0,i,hi,n+1,_,b,_=>by
   unfold qeu
   rw [qcs,qi (by omega),List.drop_eq_nil_of_le (by omega)]
   rfl
 | k+1,i,hi,n+1,hn,b,hb=>by
   have h1:i<l.length:=by omega
   have ha:=h _ (List.getElem_mem h1)
   have had:=ha.2
   rw [qbE h1,List.foldl_cons]
   refine Eq.trans ?_ (zaL N d v hv l hl h K k (i+1) (by omega) n (by omega) (qa6 b l[i] v) (qOE hb ha.1))
   rw [←zoL _ hb ha.1]
   have hc:inI l[i].2.1:=(qbb ha.1).2.1
   conv=>lhs;unfold qeu
   rw [qcs,qj (by omega),qe (by omega),qI h1,qe ⟨hv.1,by rw [show (List.length (α:=Val (.int .i64)) l[i].1:Int)=d from had];exact hv.2⟩,qjm v l[i],qek hc,qbr h1 (by omega)]
   rfl
theorem zmL (c:Val Y33) (v:Int) (h:qr0 c v): ∃N,qzv N c v=some (qy c v,()):=⟨List.length (α:=Val qa) c.2+1,by
 obtain ⟨hc,hv⟩:=h
 obtain ⟨hd,hl,hok⟩:=qaG hc
 rw [qzv]
 have t:=zaL (List.length (α:=Val qa) c.2+1) c.1 v hv c.2 hl hok
 refine (t _ _ 0 rfl _ (Nat.lt_succ_self _) noB qCu).trans ?_
 rw [List.drop_zero]
 have he:(qy c v).2.2.2.2.2.2=false:=q5M _ noB
 rw [show List.foldl (fun (b:Val qa7) (a:Val qa)=>qa6 b a v) noB (c.2:List (Val qa))=qy c v from rfl]
 generalize qy c v=b at he
 obtain ⟨hl,l,lo,hh,g,ho,em⟩:=b
 have he:em=false:=he
 subst he
 rfl⟩
theorem zvv:Sound Tryz.prog 228 qoq:=qr (tt:=tt) (Γ:=ql6) hT (qg q9U (qg q5R qn)) hm (fn:=Tryz.f228) Tryz.func228 (c:=Tryz.f228.body.getD .skip) (by kernel_rfl) (by kernel_rfl) fun x hx=>by
 obtain ⟨N,h⟩:=zmL x.1 x.2.1 hx
 exact ⟨qdJ N,zjQ,qu _,zv1 N,(zut N x.1 x.2.1).trans h⟩
end Go.T
