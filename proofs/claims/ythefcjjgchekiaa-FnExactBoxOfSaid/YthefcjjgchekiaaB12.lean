/- Ratios in lowest terms. -/
import Derived.Test.YthefcjjgchekiaaB11
set_option linter.unusedSimpArgs false
set_option linter.unusedVariables false
namespace Go.T
open Go Go.Proofs
set_option maxHeartbeats 4000000
set_option maxRecDepth 100000
theorem qDX {r:Val Y64} (h:qN r=true):1≤(r.2:Int)∧Nat.gcd (Int.natAbs r.1) (Int.natAbs r.2)=1:=by
 unfold qN at h
 simp only [Bool.and_eq_true,decide_eq_true_eq]at h
 have h2:(1:Int)≤r.2∧ @LE.le Int _ r.2 400000000:=of_decide_eq_true h.1.1
 have h3:qcD r.1 r.2=1:=h.2
 have hn:qG r.2=true:=decide_eq_true ⟨Int.le_trans (by decide) h2.1,h2.2⟩
 unfold qcD at h3
 rw [h.1.2,hn]at h3
 have h3:((Nat.gcd (Int.natAbs r.1) (Int.natAbs r.2):Nat):Int)=1:=h3
 exact ⟨h2.1,by omega⟩
theorem qNF {a b c d:Int} (hb:1≤b) (hd:1≤d) (h1:Nat.gcd a.natAbs b.natAbs=1) (h2:Nat.gcd c.natAbs d.natAbs=1) (h:a*d=c*b):a=c∧b=d:=by
 have hN:a.natAbs*d.natAbs=c.natAbs*b.natAbs:=by rw [←Int.natAbs_mul,←Int.natAbs_mul,h]
 have d1:b.natAbs ∣ d.natAbs:=(Nat.Coprime.symm h1:Nat.Coprime b.natAbs a.natAbs).dvd_of_dvd_mul_left ⟨c.natAbs,by rw [hN,Nat.mul_comm]⟩
 have d2:d.natAbs ∣ b.natAbs:=(Nat.Coprime.symm h2:Nat.Coprime d.natAbs c.natAbs).dvd_of_dvd_mul_left ⟨a.natAbs,by rw [←hN,Nat.mul_comm]⟩
 have e:b.natAbs=d.natAbs:=Nat.dvd_antisymm d1 d2
 have e2:b=d:=by omega
 subst e2
 exact ⟨Int.eq_of_mul_eq_mul_right (by omega) h,rfl⟩
theorem qQ0 {a b:Val Y64} (ha:qN a=true) (hb:qN b=true) (h:(a.1:Int)*b.2=b.1*a.2):a=b:=by
 obtain ⟨a1,a2⟩:=qDX ha
 obtain ⟨b1,b2⟩:=qDX hb
 obtain ⟨h1,h2⟩:=qNF a1 b1 a2 b2 h
 exact Prod.ext h1 h2
theorem qDg (m:Int) (g:Nat):(m.tdiv (g:Int)).natAbs=m.natAbs / g:=by rw [Int.natAbs_tdiv];rfl
theorem qDk {m e:Int} (hm: -400000000≤m∧m≤400000000) (he:0<e∧e≤400000000):qN ((m.tdiv (qB m e),e.tdiv (qB m e)):Val Y64)=true:=by
 have hg:0<Nat.gcd m.natAbs e.natAbs:=Nat.gcd_pos_of_pos_right _ (by omega)
 have e0:qB m e=((Nat.gcd m.natAbs e.natAbs:Nat):Int):=rfl
 rw [e0]
 generalize hG:Nat.gcd m.natAbs e.natAbs=g at hg
 have hle:g≤e.natAbs:=by rw [←hG];exact Nat.gcd_le_right _ (by omega)
 have t1:=qDg m g
 have t2:=qDg e g
 have b1:m.natAbs / g≤m.natAbs:=Nat.div_le_self _ _
 have b2:e.natAbs / g≤e.natAbs:=Nat.div_le_self _ _
 have b3:0<e.natAbs / g:=Nat.div_pos hle hg
 have p:0≤e.tdiv (g:Int):=Int.tdiv_nonneg (by omega) (by omega)
 have hc:Nat.gcd (m.tdiv (g:Int)).natAbs (e.tdiv (g:Int)).natAbs=1:=by
  rw [t1,t2,←hG]
  exact Nat.gcd_div_gcd_div_gcd_of_pos_right (by omega)
 have n1:qG (m.tdiv (g:Int))=true:=decide_eq_true (by omega)
 have n2:qG (e.tdiv (g:Int))=true:=decide_eq_true (by omega)
 unfold qN
 rw [qes (show 1≤e.tdiv (g:Int)∧e.tdiv (g:Int)≤400000000 by omega)]
 have h3:qcD (m.tdiv (g:Int)) (e.tdiv (g:Int))=1:=by
  unfold qcD qB
  rw [n1,n2,hc];rfl
 simp only [n1,h3,decide_true,Bool.and_self]
theorem qHv {n d:Int} (hn: -400000000≤n∧n≤400000000) (hd: -400000000≤d∧d≤400000000) (h0:d≠0):qN (qE n d)=true:=by
 unfold qE
 rw [if_neg h0]
 by_cases h1:d<0
 ·rw [if_pos h1]
  unfold qii
  have:=qDk (m:= -n) (e:= -d) (by omega) (by omega)
  rw [this];exact this
 ·rw [if_neg h1]
  unfold qii
  have:=qDk (m:=n) (e:=d) hn (by omega)
  rw [this];exact this
theorem qCw {n d:Int} (hn: -400000000≤n∧n≤400000000) (hd: -400000000≤d∧d≤400000000):qe n d=qE n d:=by
 unfold qe
 rw [show qG n=true from decide_eq_true hn,show qG d=true from decide_eq_true hd];rfl
theorem qMF {a b:Val Y64} (ha:qN a=true) (hb:qN b=true):decide (qaL a b<0)=qad a b:=by
 unfold qaL qad sgn
 rw [ha,hb]
 simp only [Bool.and_self,cond_true]
 by_cases h1:(a.1:Int)*b.2<b.1*a.2
 ·rw [if_pos h1,decide_eq_true h1];rfl
 ·rw [if_neg h1,decide_eq_false h1]
  by_cases h2:(b.1:Int)*a.2<a.1*b.2
  ·rw [if_pos h2];rfl
  ·rw [if_neg h2];rfl
theorem qEj {a b:Val Y64} (ha:qN a=true) (hb:qN b=true):decide (0<qaL a b)=qad b a:=by
 unfold qaL qad sgn
 rw [ha,hb]
 simp only [Bool.and_self,cond_true]
 by_cases h1:(a.1:Int)*b.2<b.1*a.2
 ·rw [if_pos h1,decide_eq_false (show ¬(b.1:Int)*a.2<a.1*b.2 from fun h=>Int.lt_irrefl _ (Int.lt_trans h h1))];rfl
 ·rw [if_neg h1]
  by_cases h2:(b.1:Int)*a.2<a.1*b.2
  ·rw [if_pos h2,decide_eq_true h2];rfl
  ·rw [if_neg h2,decide_eq_false h2];rfl
theorem qih {a b:Val Y64} (ha:qN a=true) (hb:qN b=true):(qaL a b=0)↔a=b:=by
 constructor
 ·intro h
  refine qQ0 ha hb ?_
  unfold qaL sgn at h
  rw [ha,hb]at h
  simp only [Bool.and_self,cond_true]at h
  by_cases h1:(a.1:Int)*b.2<b.1*a.2
  ·rw [if_pos h1]at h;omega
  ·rw [if_neg h1]at h
   by_cases h2:(b.1:Int)*a.2<a.1*b.2
   ·rw [if_pos h2]at h;omega
   ·exact Int.le_antisymm (Int.not_lt.1 h2) (Int.not_lt.1 h1)
 ·intro h
  subst h
  unfold qaL sgn
  rw [ha]
  simp only [Bool.and_self,cond_true]
  rw [if_neg (Int.lt_irrefl _),if_neg (Int.lt_irrefl _)]
end Go.T
