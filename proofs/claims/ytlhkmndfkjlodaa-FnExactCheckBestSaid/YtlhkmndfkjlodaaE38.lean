/- Refutations: both ways to find them are the same (plain). -/
import Derived.Test.YtlhkmndfkjlodaaB10
import Derived.Test.YtlhkmndfkjlodaaB9
import Derived.Test.YtlhkmndfkjlodaaT12
set_option linter.unusedSimpArgs false
set_option linter.unusedVariables false
namespace Go.T
open Go Go.Proofs
set_option maxHeartbeats 4000000
set_option maxRecDepth 100000
def cAt (v:Int) (x:List Int):Int:=x.getD v.toNat 0
abbrev Mxd:=List Int×Int×Bool×List Int
def enc (m:Mxd):List Int:=m.1++m.2.1::m.2.2.2
def jnG (s:List Int) (k:Int) (b:Bool) (t:List Int) (g:Nat):Mxd×Bool:=((s.map (fun x=>x.tdiv (g:Int)),k.tdiv (g:Int),b,t.map (fun x=>x.tdiv (g:Int))),qv (k.tdiv (g:Int))&&(s.map (fun x=>x.tdiv (g:Int))).all qv&&(t.map (fun x=>x.tdiv (g:Int))).all qv)
def jn (a:Mxd) (p:Int) (b:Mxd) (q:Int):Mxd×Bool:=jnG (ql4 p q a.1 b.1) (p*a.2.1+q*b.2.1) (a.2.2.1||b.2.2.1) (ql4 p q a.2.2.2 b.2.2.2) (max 1 (gL (p*a.2.1+q*b.2.1).natAbs (ql4 p q a.1 b.1++ql4 p q a.2.2.2 b.2.2.2)))
def qQ (f:(Val Y83)→Int):List Int→List (Val Y83)→Int
 | n::m,a::l=>n*f a+qQ f m l
 | _,_=>0
def qai:List Int→List (Val Y83)→Bool
 | n::m,a::l=>(decide (0<n)&&a.2.2)||qai m l
 | _,_=>false
structure CmbOf (d:Nat) (l:List (Val Y83)) (m:Mxd):Prop where
 ls:m.1.length=d
 lt:m.2.2.2.length=l.length
 nn: ∀x∈m.2.2.2,0≤x∧qv x=true
 cs: ∀v:Nat,v<d→cAt v m.1=qQ (cfV v) m.2.2.2 l
 ck:m.2.1=qQ (fun a=>a.2.1) m.2.2.2 l
 st:m.2.2.1=qai m.2.2.2 l
def qal (c:(Val Y26)) (m:List (Val (.int .i64))):Bool:=bif qS c&&decide ((m.length:Int)=(List.length (α:=(Val Y83)) c.2:Int))then m.all (fun x=>inR x 0 400000000)&&((List.range (c.1:Int).toNat).all fun v=>decide (qQ (cfV (v:Int)) m c.2=0))&&(decide (0<qQ (fun a=>a.2.1) m c.2)||(decide (qQ (fun a=>a.2.1) m c.2=0)&&qai m c.2))else false
def qae (n:Int) (s co:List Int):List Int:=List.zipWith (fun y x=>y+n*x) s co
def qaJ:List Int→List Int→List (Val Y83)→List Int
 | s,n::m,a::l=>qaJ (qae n s a.1) m l
 | s,_,_=>s
theorem qkI {n:Int} {s co:List Int} (h:s.length=co.length):(qae n s co).length=s.length:=by simp [qae,h]
theorem qJZ {n:Int} {s co:List Int} (h:s.length=co.length) (v:Nat):(qae n s co).getD v 0=s.getD v 0+n*co.getD v 0:=by
 by_cases hv:v<s.length
 ·have hc:v<co.length:=by omega
  have hz:v<(qae n s co).length:=by rw [qkI h];exact hv
  simp only [List.getD,List.getElem?_eq_getElem hv,List.getElem?_eq_getElem hc,List.getElem?_eq_getElem hz,Option.getD_some]
  simp [qae]
 ·have hz:(qae n s co).length≤v:=by rw [qkI h];omega
  simp [List.getD,List.getElem?_eq_none hz,List.getElem?_eq_none (show s.length≤v by omega),List.getElem?_eq_none (show co.length≤v by omega)]
theorem ql8 {d:Nat}: ∀(m:List Int) (l:List (Val Y83)) (s:List Int),(∀a∈l,a.1.length=d)→s.length=d→(qaJ s m l).length=d∧ ∀v:Nat,(qaJ s m l).getD v 0=s.getD v 0+qQ (cfV v) m l
 | [],l,s,_,hs=>by simp [qaJ,qQ,hs]
 | n::m,[],s,_,hs=>by simp [qaJ,qQ,hs]
 | n::m,a::l,s,h,hs=>by
   have ha:=h a (by simp)
   obtain ⟨g1,g2⟩:=ql8 m l (qae n s a.1) (fun b hb=>h b (by simp [hb])) (by rw [qkI (by rw [hs,ha]),hs])
   refine ⟨g1,fun v=> ?_⟩
   refine (g2 v).trans ?_
   rw [qJZ (by rw [hs,ha])]
   show s.getD v 0+n*a.1.getD v 0+_=s.getD v 0+(n*a.1.getD (v:Int).toNat 0+_)
   rw [Int.toNat_natCast,Int.add_assoc]
theorem qKl {d:Nat} {m:List Int} {l:List (Val Y83)} (h: ∀a∈l,a.1.length=d):(qaJ (List.replicate d 0) m l).all (fun x=>decide (x=0))=(List.range d).all fun v=>decide (qQ (cfV (v:Int)) m l=0):=by
 obtain ⟨g1,g2⟩:=ql8 (d:=d) m l (List.replicate d 0) h (by simp)
 have e: ∀v:Nat,v<d→(qaJ (List.replicate d 0) m l).getD v 0=qQ (cfV v) m l:=fun v hv=>by
  rw [g2];simp [List.getD,hv]
 rw [Bool.eq_iff_iff,List.all_eq_true,List.all_eq_true]
 constructor
 ·intro hh v hv
  have hv:=List.mem_range.1 hv
  rw [←e v hv,List.getD_eq_getElem?_getD,List.getElem?_eq_getElem (by omega)]
  exact hh _ (List.getElem_mem _)
 ·intro hh x hx
  obtain ⟨v,hv,rfl⟩:=List.mem_iff_getElem.1 hx
  have:=hh v (List.mem_range.2 (by omega))
  rw [←e v (by omega),List.getD_eq_getElem?_getD,List.getElem?_eq_getElem hv]at this
  exact this
theorem qEL {k n x:Int} {i:Nat} (hk:k.natAbs≤i*160000000000000000) (hn:0≤n∧n≤400000000) (hx: -400000000≤x∧x≤400000000):(n*x).natAbs≤160000000000000000∧(k+n*x).natAbs≤(i+1)*160000000000000000:=by
 have h1:(n*x).natAbs≤400000000*400000000:=by rw [Int.natAbs_mul];exact Nat.mul_le_mul (by omega) (by omega)
 generalize n*x=z at*
 omega
end Go.T
