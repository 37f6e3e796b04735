/- Bounds of a normal cell: the program's. -/
import Derived.Test.YthefcjjgchekiaaB14
set_option linter.unusedSimpArgs false
set_option linter.unusedVariables false
namespace Go.T
open Go Go.Proofs
set_option maxHeartbeats 4000000
set_option maxRecDepth 100000
abbrev KB8:=Bool→Int→Int→Bool→Bool→Int→Int→Bool→Option (qb [i66])
def qcV (K:KB8) (b:Val Y66):Option (qb [i66]):=K b.1 b.2.1.1 b.2.1.2 b.2.2.1 b.2.2.2.1 b.2.2.2.2.1.1 b.2.2.2.2.1.2 b.2.2.2.2.2.1
theorem qON (b:Val Y66) (a:Val Y36) (v:Int):(qak b a v).2.2.2.2.2.2=b.2.2.2.2.2.2:=by
 unfold qak
 cases decide (0<cfV v a)with
 | true=>cases (!b.2.2.2.1||qad (qe (-(a.2.1:Int)) (cfV v a)) b.2.2.2.2.1||(decide (qe (-(a.2.1:Int)) (cfV v a)=b.2.2.2.2.1)&&a.2.2))<;>rfl
 | false=>
   cases decide (cfV v a<0)with
   | true=>cases (!b.1||qad b.2.1 (qe (-(a.2.1:Int)) (cfV v a))||(decide (qe (-(a.2.1:Int)) (cfV v a)=b.2.1)&&a.2.2))<;>rfl
   | false=>rfl
theorem qDY {v:Int}: ∀(l:List (Val Y36)) (b:Val Y66),(l.foldl (fun b a=>qak b a v) b).2.2.2.2.2.2=b.2.2.2.2.2.2
 | [],_=>rfl
 | a::r,b=>(qDY r (qak b a v)).trans (qON b a v)
theorem qLc (REC:KB8) {b:Val Y66} {a:Val Y36} {v:Int} (hb:qc6 b) (ha:okA a):
 (bif decide (cfV v a=0)then qcV REC b else chk (qei (-(a.2.1:Int)) (cfV v a)) (bif decide (0<cfV v a)then (bif !b.2.2.2.1 then REC b.1 b.2.1.1 b.2.1.2 b.2.2.1 true (qE (-(a.2.1:Int)) (cfV v a)).1 (qE (-(a.2.1:Int)) (cfV v a)).2 a.2.2 else bif decide (qaL (qE (-(a.2.1:Int)) (cfV v a)) b.2.2.2.2.1<0)then REC b.1 b.2.1.1 b.2.1.2 b.2.2.1 true (qE (-(a.2.1:Int)) (cfV v a)).1 (qE (-(a.2.1:Int)) (cfV v a)).2 a.2.2 else bif decide (qaL (qE (-(a.2.1:Int)) (cfV v a)) b.2.2.2.2.1=0)then (bif a.2.2 then REC b.1 b.2.1.1 b.2.1.2 b.2.2.1 true (qE (-(a.2.1:Int)) (cfV v a)).1 (qE (-(a.2.1:Int)) (cfV v a)).2 a.2.2 else qcV REC b)else qcV REC b)
   else (bif !b.1 then REC true (qE (-(a.2.1:Int)) (cfV v a)).1 (qE (-(a.2.1:Int)) (cfV v a)).2 a.2.2 b.2.2.2.1 b.2.2.2.2.1.1 b.2.2.2.2.1.2 b.2.2.2.2.2.1 else bif decide (0<qaL (qE (-(a.2.1:Int)) (cfV v a)) b.2.1)then REC true (qE (-(a.2.1:Int)) (cfV v a)).1 (qE (-(a.2.1:Int)) (cfV v a)).2 a.2.2 b.2.2.2.1 b.2.2.2.2.1.1 b.2.2.2.2.1.2 b.2.2.2.2.2.1 else bif decide (qaL (qE (-(a.2.1:Int)) (cfV v a)) b.2.1=0)then (bif a.2.2 then REC true (qE (-(a.2.1:Int)) (cfV v a)).1 (qE (-(a.2.1:Int)) (cfV v a)).2 a.2.2 b.2.2.2.1 b.2.2.2.2.1.1 b.2.2.2.2.1.2 b.2.2.2.2.2.1 else qcV REC b)else qcV REC b)))=qcV REC (qak b a v):=by
 have hcc:=qel ha
 have hxx:=qmO (v:=v) ha
 have hc': -400000000≤ -(a.2.1:Int)∧ -(a.2.1:Int)≤400000000:=⟨Int.neg_le_neg hcc.2,by have:=Int.neg_le_neg hcc.1;exact this⟩
 have hpre:qei (-(a.2.1:Int)) (cfV v a):=⟨qeg (qcc ha).2.1,by unfold inI;omega⟩
 have hlim:=fun h0=>qok (v:=v) ha h0
 have hmk:qe (-(a.2.1:Int)) (cfV v a)=qE (-(a.2.1:Int)) (cfV v a):=qCw hc' hxx
 rw [qc hpre]
 unfold qak
 rw [hmk]at hlim ⊢
 generalize cfV v a=x at*
 generalize qE (-(a.2.1:Int)) x=r at*
 obtain ⟨hl,l,lo,hh,g,ho,em⟩:=b
 by_cases h0:x=0
 ·subst h0;rfl
 have hr:=hlim h0
 rw [qi h0]
 by_cases hx:0<x
 ·rw [qh hx,qh hx]
  cases hh with
  | false=>rfl
  | true=>
    have hg:qN g=true:=hb.2.2 rfl
    dsimp only
    rw [qMF hr hg]
    by_cases he:r=g
    ·subst he
     rw [qh ((qih hr hr).2 rfl)]
     cases qad r r<;>cases a.2.2<;>simp [qcV]
    ·rw [qi (fun h=>he ((qih hr hg).1 h)),decide_eq_false he]
     cases qad r g<;>rfl
 ·rw [qi hx,qi hx,qh (show x<0 by omega)]
  cases hl with
  | false=>rfl
  | true=>
    have hg:qN l=true:=hb.1.2 rfl
    dsimp only
    rw [qEj hr hg]
    by_cases he:r=l
    ·subst he
     rw [qh ((qih hr hr).2 rfl)]
     cases qad r r<;>cases a.2.2<;>simp [qcV]
    ·rw [qi (fun h=>he ((qih hr hg).1 h)),decide_eq_false he]
     cases qad l r<;>rfl
theorem t55 (N:Nat) (d v:Int) (hv:0≤v∧v<d) (l:List (Val Y36)) (hl:l.length≤16) (h: ∀a∈l,okD d a) (K:KB8): ∀(k i:Nat),l.length - i=k→ ∀n,k<n→ ∀b:Val Y66,qc6 b→
 qcV (qb7 N v l l.length false 0 0 false false 0 0 false false false K n i) b=qcV K ((l.drop i).foldl (fun b a=>qak b a v) b)
 | 0,i,hi,n+1,_,b,_=>by
   unfold qcV
   rw [qb7,qi (by omega),List.drop_eq_nil_of_le (by omega)]
   rfl
 | k+1,i,hi,n+1,hn,b,hb=>by
   have h1:i<l.length:=by omega
   have ha:=h _ (List.getElem_mem h1)
   have had:=ha.2
   rw [qdw h1,List.foldl_cons]
   refine Eq.trans ?_ (t55 N d v hv l hl h K k (i+1) (by omega) n (by omega) (qak b l[i] v) (qrR hb ha.1))
   rw [←qLc _ hb ha.1]
   have hc:inI l[i].2.1:=(qcc ha.1).2.1
   conv=>lhs;unfold qcV
   rw [qb7,qh (by omega),qc (by omega),qL h1,qc ⟨hv.1,by rw [show (List.length (α:=Val (.int .i64)) l[i].1:Int)=d from had];exact hv.2⟩,qe7 v l[i],qeQ hc,qeD h1 (by omega)]
   rfl
theorem e55 (c:Val Y32) (v:Int) (h:qmH c v): ∃N,m55 N c v=some (qg c v,()):=⟨List.length (α:=Val Y36) c.2+1,by
 obtain ⟨hc,hv⟩:=h
 obtain ⟨hd,hl,hok⟩:=qcI hc
 rw [m55]
 have t:=t55 (List.length (α:=Val Y36) c.2+1) c.1 v hv c.2 hl hok
 refine (t _ _ 0 rfl _ (Nat.lt_succ_self _) noB qpW).trans ?_
 rw [List.drop_zero]
 have he:(qg c v).2.2.2.2.2.2=false:=qDY _ noB
 rw [show List.foldl (fun (b:Val Y66) (a:Val Y36)=>qak b a v) noB (c.2:List (Val Y36))=qg c v from rfl]
 generalize qg c v=b at he
 obtain ⟨hl,l,lo,hh,g,ho,em⟩:=b
 have he:em=false:=he
 subst he
 rfl⟩
theorem s55:Sound Try.prog 55 g55:=qw (tt:=tt) (Γ:=Γ55) hT (qf s56 (qf s78 qq)) hm (fn:=Try.f55) Try.func55 (c:=Try.f55.body.getD .skip) (by kernel_rfl) (by kernel_rfl) fun x hx=>by
 obtain ⟨N,h⟩:=e55 x.1 x.2.1 hx
 exact ⟨T55 N,p55,qx _,qRA N,(qQH N x.1 x.2.1).trans h⟩
end Go.T
