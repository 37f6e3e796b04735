/- Ratios in lowest terms. -/
import Derived.Test.YthefcjjgchekiaaGreatB11
set_option linter.unusedSimpArgs false
set_option linter.unusedVariables false
namespace Go.T
open Go Go.Proofs
set_option maxHeartbeats 4000000
set_option maxRecDepth 100000
theorem qnt {r:Val Y28} (h:qi r=true):1≤(r.2:Int)∧Nat.gcd (Int.natAbs r.1) (Int.natAbs r.2)=1:=by
 unfold qi at h
 simp only [Bool.and_eq_true,decide_eq_true_eq]at h
 have h2:(1:Int)≤r.2∧ @LE.le Int _ r.2 400000000:=of_decide_eq_true h.1.1
 have h3:qdx r.1 r.2=1:=h.2
 have hn:qR r.2=true:=decide_eq_true ⟨Int.le_trans (by decide) h2.1,h2.2⟩
 unfold qdx at h3
 rw [h.1.2,hn]at h3
 have h3:((Nat.gcd (Int.natAbs r.1) (Int.natAbs r.2):Nat):Int)=1:=h3
 exact ⟨h2.1,by omega⟩
theorem zmS {a b c d:Int} (hb:1≤b) (hd:1≤d) (h1:Nat.gcd a.natAbs b.natAbs=1) (h2:Nat.gcd c.natAbs d.natAbs=1) (h:a*d=c*b):a=c∧b=d:=by
 have hN:a.natAbs*d.natAbs=c.natAbs*b.natAbs:=by rw [←Int.natAbs_mul,←Int.natAbs_mul,h]
 have d1:b.natAbs ∣ d.natAbs:=(Nat.Coprime.symm h1:Nat.Coprime b.natAbs a.natAbs).dvd_of_dvd_mul_left ⟨c.natAbs,by rw [hN,Nat.mul_comm]⟩
 have d2:d.natAbs ∣ b.natAbs:=(Nat.Coprime.symm h2:Nat.Coprime d.natAbs c.natAbs).dvd_of_dvd_mul_left ⟨a.natAbs,by rw [←hN,Nat.mul_comm]⟩
 have e:b.natAbs=d.natAbs:=Nat.dvd_antisymm d1 d2
 have e2:b=d:=by omega
 subst e2
 exact ⟨Int.eq_of_mul_eq_mul_right (by omega) h,rfl⟩
theorem q3U {a b:Val Y28} (ha:qi a=true) (hb:qi b=true) (h:(a.1:Int)*b.2=b.1*a.2):a=b:=by
 obtain ⟨a1,a2⟩:=qnt ha
 obtain ⟨b1,b2⟩:=qnt hb
 obtain ⟨h1,h2⟩:=zmS a1 b1 a2 b2 h
 exact Prod.ext h1 h2
theorem q10 (m:Int) (g:Nat):(m.tdiv (g:Int)).natAbs=m.natAbs / g:=by rw [Int.natAbs_tdiv];rfl
theorem qY7 {m e:Int} (hm: -400000000≤m∧m≤400000000) (he:0<e∧e≤400000000):qi ((m.tdiv (qS m e),e.tdiv (qS m e)):Val Y28)=true:=by
 have hg:0<Nat.gcd m.natAbs e.natAbs:=Nat.gcd_pos_of_pos_right _ (by omega)
 have e0:qS m e=((Nat.gcd m.natAbs e.natAbs:Nat):Int):=rfl
 rw [e0]
 generalize hG:Nat.gcd m.natAbs e.natAbs=g at hg
 have hle:g≤e.natAbs:=by rw [←hG];exact Nat.gcd_le_right _ (by omega)
 have t1:=q10 m g
 have t2:=q10 e g
 have b1:m.natAbs / g≤m.natAbs:=Nat.div_le_self _ _
 have b2:e.natAbs / g≤e.natAbs:=Nat.div_le_self _ _
 have b3:0<e.natAbs / g:=Nat.div_pos hle hg
 have p:0≤e.tdiv (g:Int):=Int.tdiv_nonneg (by omega) (by omega)
 have hc:Nat.gcd (m.tdiv (g:Int)).natAbs (e.tdiv (g:Int)).natAbs=1:=by
  rw [t1,t2,←hG]
  exact Nat.gcd_div_gcd_div_gcd_of_pos_right (by omega)
 have n1:qR (m.tdiv (g:Int))=true:=decide_eq_true (by omega)
 have n2:qR (e.tdiv (g:Int))=true:=decide_eq_true (by omega)
 unfold qi
 rw [qhq (show 1≤e.tdiv (g:Int)∧e.tdiv (g:Int)≤400000000 by omega)]
 have h3:qdx (m.tdiv (g:Int)) (e.tdiv (g:Int))=1:=by
  unfold qdx qS
  rw [n1,n2,hc];rfl
 simp only [n1,h3,decide_true,Bool.and_self]
theorem q5B {n d:Int} (hn: -400000000≤n∧n≤400000000) (hd: -400000000≤d∧d≤400000000) (h0:d≠0):qi (qQ n d)=true:=by
 unfold qQ
 rw [if_neg h0]
 by_cases h1:d<0
 ·rw [if_pos h1]
  unfold qfE
  have:=qY7 (m:= -n) (e:= -d) (by omega) (by omega)
  rw [this];exact this
 ·rw [if_neg h1]
  unfold qfE
  have:=qY7 (m:=n) (e:=d) hn (by omega)
  rw [this];exact this
theorem qFG {n d:Int} (hn: -400000000≤n∧n≤400000000) (hd: -400000000≤d∧d≤400000000):ql n d=qQ n d:=by
 unfold ql
 rw [show qR n=true from decide_eq_true hn,show qR d=true from decide_eq_true hd];rfl
theorem qZH {a b:Val Y28} (ha:qi a=true) (hb:qi b=true):decide (qbd a b<0)=qab a b:=by
 unfold qbd qab sgn
 rw [ha,hb]
 simp only [Bool.and_self,cond_true]
 by_cases h1:(a.1:Int)*b.2<b.1*a.2
 ·rw [if_pos h1,decide_eq_true h1];rfl
 ·rw [if_neg h1,decide_eq_false h1]
  by_cases h2:(b.1:Int)*a.2<a.1*b.2
  ·rw [if_pos h2];rfl
  ·rw [if_neg h2];rfl
theorem q2S {a b:Val Y28} (ha:qi a=true) (hb:qi b=true):decide (0<qbd a b)=qab b a:=by
 unfold qbd qab sgn
 rw [ha,hb]
 simp only [Bool.and_self,cond_true]
 by_cases h1:(a.1:Int)*b.2<b.1*a.2
 ·rw [if_pos h1,decide_eq_false (show ¬(b.1:Int)*a.2<a.1*b.2 from fun h=>Int.lt_irrefl _ (Int.lt_trans h h1))];rfl
 ·rw [if_neg h1]
  by_cases h2:(b.1:Int)*a.2<a.1*b.2
  ·rw [if_pos h2,decide_eq_true h2];rfl
  ·rw [if_neg h2,decide_eq_false h2];rfl
theorem qjf {a b:Val Y28} (ha:qi a=true) (hb:qi b=true):(qbd a b=0)↔a=b:=by
 constructor
 ·intro h
  refine q3U ha hb ?_
  unfold qbd sgn at h
  rw [ha,hb]at h
  simp only [Bool.and_self,cond_true]at h
  by_cases h1:(a.1:Int)*b.2<b.1*a.2
  ·rw [if_pos h1]at h;omega
  ·rw [if_neg h1]at h
   by_cases h2:(b.1:Int)*a.2<a.1*b.2
   ·rw [if_pos h2]at h;omega
   ·exact Int.le_antisymm (Int.not_lt.1 h2) (Int.not_lt.1 h1)
 ·intro h
  subst h
  unfold qbd sgn
  rw [ha]
  simp only [Bool.and_self,cond_true]
  rw [if_neg (Int.lt_irrefl _),if_neg (Int.lt_irrefl _)]
end Go.T
/- Bounds: what the functions compute. -/
set_option linter.unusedSimpArgs false
set_option linter.unusedVariables false
namespace Go.T
open Go Go.Proofs
set_option maxHeartbeats 4000000
set_option maxRecDepth 100000
theorem qBv {r:Val Y28} (h:okQ r):qgc r:=by
 rcases h with h | h
 ·exact qbe h
 ·subst h;exact ⟨⟨by decide,by decide⟩,⟨by decide,by decide⟩⟩
theorem qnr {a:Val qa} {v:Int} (ha:okA a) (h0:cfV v a≠0):qi (ql (-(a.2.1:Int)) (cfV v a))=true:=by
 have hc:=qfI ha
 have hx:=qtp (v:=v) ha
 have hc': -400000000≤ -(a.2.1:Int)∧ -(a.2.1:Int)≤400000000:=⟨Int.neg_le_neg hc.2,by have:=Int.neg_le_neg hc.1;exact this⟩
 rw [qFG hc' hx]
 exact q5B hc' hx h0
theorem zfg (b:Val qad) (a:Val qa) (v:Int) (h:qEK b a v): ∃N,qDY N b a v=some (qay b a v,()):=⟨0,by
 obtain ⟨hb,ha,hv⟩:=h
 obtain ⟨hl,l,lo,hh,g,ho,em⟩:=b
 have hcc:=qfI ha
 have hc:inI a.2.1:=(qbv ha).2.1
 have hl':qgc l:=qBv hb.1.1
 have hg':qgc g:=qBv hb.2.1
 rw [qDY]
 rw [qd (show 0≤v∧v<(List.length (α:=Val (.int .i64)) a.1:Int) from hv),qld v a,qjd hc]
 unfold qay
 have hlim:=fun h0=>qnr (v:=v) ha h0
 generalize cfV v a=x at*
 generalize ql (-(a.2.1:Int)) x=r at*
 have er:(((r.1:Int),(r.2:Int)):Val Y28)=r:=rfl
 rw [er]
 by_cases hx:0<x
 ·have hr:qgc r:=qbe (hlim (by omega))
  have hx': ¬x<0:=by omega
  simp only [decide_eq_true hx,decide_eq_false hx',cond_true,cond_false]
  have p:qcm r g:=⟨hr,hg'⟩
  by_cases he:r=g
  ·subst he
   cases hh<;>simp only [Bool.not_true,Bool.not_false,cond_true,cond_false,Bool.true_or,Bool.false_or]
   rw [qd p]
   cases qab r r<;>cases a.2.2<;>simp
  ·have hne:(decide ((r.1:Int)=(g.1:Int))&&decide ((r.2:Int)=(g.2:Int)))=false:=by
        rw [Bool.eq_false_iff]
        intro h
        simp only [Bool.and_eq_true,decide_eq_true_eq]at h
        exact he (Prod.ext h.1 h.2)
   cases hh<;>simp only [Bool.not_true,Bool.not_false,cond_true,cond_false,Bool.true_or,Bool.false_or]
   rw [qd p]
   simp only [hne,decide_eq_false he,cond_false,Bool.false_and,Bool.or_false]
   cases qab r g<;>rfl
 ·by_cases hx2:x<0
  ·have hr:qgc r:=qbe (hlim (by omega))
   simp only [decide_eq_false hx,decide_eq_true hx2,cond_true,cond_false]
   have p:qcm l r:=⟨hl',hr⟩
   by_cases he:r=l
   ·subst he
    cases hl<;>simp only [Bool.not_true,Bool.not_false,cond_true,cond_false,Bool.true_or,Bool.false_or]
    rw [qd p]
    cases qab r r<;>cases a.2.2<;>simp
   ·have hne:(decide ((r.1:Int)=(l.1:Int))&&decide ((r.2:Int)=(l.2:Int)))=false:=by
     rw [Bool.eq_false_iff]
     intro h
     simp only [Bool.and_eq_true,decide_eq_true_eq]at h
     exact he (Prod.ext h.1 h.2)
    cases hl<;>simp only [Bool.not_true,Bool.not_false,cond_true,cond_false,Bool.true_or,Bool.false_or]
    rw [qd p]
    simp only [hne,decide_eq_false he,cond_false,Bool.false_and,Bool.or_false]
    cases qab l r<;>rfl
  ·simp only [decide_eq_false hx,decide_eq_false hx2,cond_false]⟩
theorem zqw:Sound Tryz.prog 281 qoD:=qx (tt:=tt) (Γ:=qzN) hT (qg qW2 (qg zae qu)) hm (fn:=Tryz.f281) Tryz.func281 (c:=Tryz.f281.body.getD .skip) (by kernel_rfl) (by kernel_rfl) fun x hx=>by
 obtain ⟨N,h⟩:=zfg x.1 x.2.1 x.2.2.1 hx
 exact ⟨qf9 N,zkp,qy _,zfV N,(zf8 N x.1 x.2.1 x.2.2.1).trans h⟩
end Go.T
