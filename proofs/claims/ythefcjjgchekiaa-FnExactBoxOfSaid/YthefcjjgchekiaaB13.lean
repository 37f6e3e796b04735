/- Bounds: what the functions compute. -/
import Derived.Test.YthefcjjgchekiaaB12
set_option linter.unusedSimpArgs false
set_option linter.unusedVariables false
namespace Go.T
open Go Go.Proofs
set_option maxHeartbeats 4000000
set_option maxRecDepth 100000
theorem qm9 {r:Val Y64} (h:okQ r):qdz r:=by
 rcases h with h | h
 ·exact qfu h
 ·subst h;exact ⟨⟨by decide,by decide⟩,⟨by decide,by decide⟩⟩
theorem qok {a:Val Y36} {v:Int} (ha:okA a) (h0:cfV v a≠0):qN (qe (-(a.2.1:Int)) (cfV v a))=true:=by
 have hc:=qel ha
 have hx:=qmO (v:=v) ha
 have hc': -400000000≤ -(a.2.1:Int)∧ -(a.2.1:Int)≤400000000:=⟨Int.neg_le_neg hc.2,by have:=Int.neg_le_neg hc.1;exact this⟩
 rw [qCw hc' hx]
 exact qHv hc' hx h0
theorem e69 (b:Val Y66) (a:Val Y36) (v:Int) (h:qqt b a v): ∃N,m69 N b a v=some (qak b a v,()):=⟨0,by
 obtain ⟨hb,ha,hv⟩:=h
 obtain ⟨hl,l,lo,hh,g,ho,em⟩:=b
 have hcc:=qel ha
 have hc:inI a.2.1:=(qcc ha).2.1
 have hl':qdz l:=qm9 hb.1.1
 have hg':qdz g:=qm9 hb.2.1
 rw [m69]
 rw [qc (show 0≤v∧v<(List.length (α:=Val (.int .i64)) a.1:Int) from hv),qe7 v a,qeQ hc]
 unfold qak
 have hlim:=fun h0=>qok (v:=v) ha h0
 generalize cfV v a=x at*
 generalize qe (-(a.2.1:Int)) x=r at*
 have er:(((r.1:Int),(r.2:Int)):Val Y64)=r:=rfl
 rw [er]
 by_cases hx:0<x
 ·have hr:qdz r:=qfu (hlim (by omega))
  have hx': ¬x<0:=by omega
  simp only [decide_eq_true hx,decide_eq_false hx',cond_true,cond_false]
  have p:qct r g:=⟨hr,hg'⟩
  by_cases he:r=g
  ·subst he
   cases hh<;>simp only [Bool.not_true,Bool.not_false,cond_true,cond_false,Bool.true_or,Bool.false_or]
   rw [qc p]
   cases qad r r<;>cases a.2.2<;>simp
  ·have hne:(decide ((r.1:Int)=(g.1:Int))&&decide ((r.2:Int)=(g.2:Int)))=false:=by
        rw [Bool.eq_false_iff]
        intro h
        simp only [Bool.and_eq_true,decide_eq_true_eq]at h
        exact he (Prod.ext h.1 h.2)
   cases hh<;>simp only [Bool.not_true,Bool.not_false,cond_true,cond_false,Bool.true_or,Bool.false_or]
   rw [qc p]
   simp only [hne,decide_eq_false he,cond_false,Bool.false_and,Bool.or_false]
   cases qad r g<;>rfl
 ·by_cases hx2:x<0
  ·have hr:qdz r:=qfu (hlim (by omega))
   simp only [decide_eq_false hx,decide_eq_true hx2,cond_true,cond_false]
   have p:qct l r:=⟨hl',hr⟩
   by_cases he:r=l
   ·subst he
    cases hl<;>simp only [Bool.not_true,Bool.not_false,cond_true,cond_false,Bool.true_or,Bool.false_or]
    rw [qc p]
    cases qad r r<;>cases a.2.2<;>simp
   ·have hne:(decide ((r.1:Int)=(l.1:Int))&&decide ((r.2:Int)=(l.2:Int)))=false:=by
     rw [Bool.eq_false_iff]
     intro h
     simp only [Bool.and_eq_true,decide_eq_true_eq]at h
     exact he (Prod.ext h.1 h.2)
    cases hl<;>simp only [Bool.not_true,Bool.not_false,cond_true,cond_false,Bool.true_or,Bool.false_or]
    rw [qc p]
    simp only [hne,decide_eq_false he,cond_false,Bool.false_and,Bool.or_false]
    cases qad l r<;>rfl
  ·simp only [decide_eq_false hx,decide_eq_false hx2,cond_false]⟩
theorem s69:Sound Try.prog 69 g69:=qw (tt:=tt) (Γ:=Γ69) hT (qf s70 (qf s85 qq)) hm (fn:=Try.f69) Try.func69 (c:=Try.f69.body.getD .skip) (by kernel_rfl) (by kernel_rfl) fun x hx=>by
 obtain ⟨N,h⟩:=e69 x.1 x.2.1 x.2.2.1 hx
 exact ⟨T69 N,p69,qx _,qSw N,(qKa N x.1 x.2.1 x.2.2.1).trans h⟩
end Go.T
