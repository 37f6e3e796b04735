/- Bounds: what the functions compute. -/
import Derived.Test.YthefcjjgchekiaaGreatB12
set_option linter.unusedSimpArgs false
set_option linter.unusedVariables false
namespace Go.T
open Go Go.Proofs
set_option maxHeartbeats 4000000
set_option maxRecDepth 100000
theorem qFi {r:Val Y28} (h:okQ r):qgp r:=by
 rcases h with h | h
 ·exact qct h
 ·subst h;exact ⟨⟨by decide,by decide⟩,⟨by decide,by decide⟩⟩
theorem qEH {a:Val qa} {v:Int} (ha:okA a) (h0:cfV v a≠0):qE (qq (-(a.2.1:Int)) (cfV v a))=true:=by
 have hc:=qgR ha
 have hx:=qBg (v:=v) ha
 have hc': -400000000≤ -(a.2.1:Int)∧ -(a.2.1:Int)≤400000000:=⟨Int.neg_le_neg hc.2,by have:=Int.neg_le_neg hc.1;exact this⟩
 rw [q7W hc' hx]
 exact zhZ hc' hx h0
theorem zqO (b:Val qa7) (a:Val qa) (v:Int) (h:qBP b a v): ∃N,qFA N b a v=some (qa6 b a v,()):=⟨0,by
 obtain ⟨hb,ha,hv⟩:=h
 obtain ⟨hl,l,lo,hh,g,ho,em⟩:=b
 have hcc:=qgR ha
 have hc:inI a.2.1:=(qbb ha).2.1
 have hl':qgp l:=qFi hb.1.1
 have hg':qgp g:=qFi hb.2.1
 rw [qFA]
 rw [qe (show 0≤v∧v<(List.length (α:=Val (.int .i64)) a.1:Int) from hv),qjm v a,qek hc]
 unfold qa6
 have hlim:=fun h0=>qEH (v:=v) ha h0
 generalize cfV v a=x at*
 generalize qq (-(a.2.1:Int)) x=r at*
 have er:(((r.1:Int),(r.2:Int)):Val Y28)=r:=rfl
 rw [er]
 by_cases hx:0<x
 ·have hr:qgp r:=qct (hlim (by omega))
  have hx': ¬x<0:=by omega
  simp only [decide_eq_true hx,decide_eq_false hx',cond_true,cond_false]
  have p:qc2 r g:=⟨hr,hg'⟩
  by_cases he:r=g
  ·subst he
   cases hh<;>simp only [Bool.not_true,Bool.not_false,cond_true,cond_false,Bool.true_or,Bool.false_or]
   rw [qe p]
   cases qaJ r r<;>cases a.2.2<;>simp
  ·have hne:(decide ((r.1:Int)=(g.1:Int))&&decide ((r.2:Int)=(g.2:Int)))=false:=by
        rw [Bool.eq_false_iff]
        intro h
        simp only [Bool.and_eq_true,decide_eq_true_eq]at h
        exact he (Prod.ext h.1 h.2)
   cases hh<;>simp only [Bool.not_true,Bool.not_false,cond_true,cond_false,Bool.true_or,Bool.false_or]
   rw [qe p]
   simp only [hne,decide_eq_false he,cond_false,Bool.false_and,Bool.or_false]
   cases qaJ r g<;>rfl
 ·by_cases hx2:x<0
  ·have hr:qgp r:=qct (hlim (by omega))
   simp only [decide_eq_false hx,decide_eq_true hx2,cond_true,cond_false]
   have p:qc2 l r:=⟨hl',hr⟩
   by_cases he:r=l
   ·subst he
    cases hl<;>simp only [Bool.not_true,Bool.not_false,cond_true,cond_false,Bool.true_or,Bool.false_or]
    rw [qe p]
    cases qaJ r r<;>cases a.2.2<;>simp
   ·have hne:(decide ((r.1:Int)=(l.1:Int))&&decide ((r.2:Int)=(l.2:Int)))=false:=by
     rw [Bool.eq_false_iff]
     intro h
     simp only [Bool.and_eq_true,decide_eq_true_eq]at h
     exact he (Prod.ext h.1 h.2)
    cases hl<;>simp only [Bool.not_true,Bool.not_false,cond_true,cond_false,Bool.true_or,Bool.false_or]
    rw [qe p]
    simp only [hne,decide_eq_false he,cond_false,Bool.false_and,Bool.or_false]
    cases qaJ l r<;>rfl
  ·simp only [decide_eq_false hx,decide_eq_false hx2,cond_false]⟩
theorem zlQ:Sound Tryz.prog 281 qn3:=qr (tt:=tt) (Γ:=qCd) hT (qg q88 (qg zc4 qn)) hm (fn:=Tryz.f281) Tryz.func281 (c:=Tryz.f281.body.getD .skip) (by kernel_rfl) (by kernel_rfl) fun x hx=>by
 obtain ⟨N,h⟩:=zqO x.1 x.2.1 x.2.2.1 hx
 exact ⟨qgs N,zyN,qu _,zxz N,(zqb N x.1 x.2.1 x.2.2.1).trans h⟩
end Go.T
