/- Formulas: nodes, the program's. -/
import Derived.Test.YtkjiecjpdbpghaaH2
set_option linter.unusedSimpArgs false
set_option linter.unusedVariables false
namespace Go.T
open Go Go.Proofs
set_option maxHeartbeats 4000000
set_option maxRecDepth 100000
theorem t97 (N:Nat) (vs:List (Val (.int .i64))) (k:Unit→Option (qa [i4])) (hl:vs.length≤1048576) (n:Nat) (hn:vs.length<n):qaG N vs (vs.length:Int) k n 0=bif vs.all qL then k ()else some (false,()):=
 (qac (F:=fun n i (_:Unit)=>qaG N vs (vs.length:Int) k n i) (step:=fun _ x _ K=>bif qL x then K ()else some (false,())) (k:=k) hl (fun n i s hi=>by
   rw [qaG,qh (by omega),qd (by omega),qB hi,qF]) (fun n i s hi=>by rw [qaG,qg (by omega)]) n () hn).trans (qbX vs 0)
theorem e97 (db:List (Val Y53)) (x:Val qe) (h:qkR db x): ∃N,m97 N db x=some (qdQ db x,()):=⟨1048577,by
 obtain ⟨K,a,nm,lb,vs,vr,A,B⟩:=x
 change Int at K
 change ByteArray at nm
 change ByteArray at lb
 change List (Val (.int .i64))at vs
 change Int at vr
 obtain ⟨hd, -, -,h1,h2,h3, -⟩:=h
 have hv:vs.length≤1048576:=h3.1
 have hfr:qan db nm:=hd
 have hlt:=qyZ db nm
 rw [m97,qdQ]
 dsimp only
 have te:=fun k=>t97 1048577 vs k hv 1048577 (by omega)
 simp only [te,qd hfr]
 have ee: ∀s:ByteArray,(ByteArray.toList s==ByteArray.toList (ByteArray.mk #[]))=isE s:=fun _=>rfl
 simp only [ee,qcW]
 by_cases hf:qA db nm<0
 ·have hf2:decide (0≤qA db nm)=false:=decide_eq_false (by omega)
  simp only [decide_eq_true hf,cond_true,qeV,qlz,qfc,qjb,hf2]
  rcases qlk K with rfl | rfl | rfl | rfl | rfl | rfl | rfl | ⟨k0,k1,k2,k3,k4,k5,k6⟩
  all_goals (try simp only [Int.reduceEq,decide_true,decide_false,Bool.not_true,Bool.not_false,cond_true,cond_false,Bool.true_or,Bool.false_or,Bool.or_false,Bool.or_true,Bool.true_and,Bool.false_and,Bool.and_true])
  all_goals (try simp only [decide_eq_false k0,decide_eq_false k1,decide_eq_false k2,decide_eq_false k3,decide_eq_false k4,decide_eq_false k5,decide_eq_false k6,Bool.not_true,Bool.not_false,cond_true,cond_false,Bool.true_or,Bool.false_or,Bool.or_false,Bool.or_true,Bool.true_and,Bool.false_and,Bool.and_true])
  all_goals (cases qbZ a<;>cases isE nm<;>cases isE lb<;>cases decide ((0:Int)<(vs.length:Int))<;>cases decide (vr=0)<;>cases q4 a<;>rfl)
 ·have hf2:decide (0≤qA db nm)=true:=decide_eq_true (by omega)
  simp only [decide_eq_false hf,cond_false,qeV,qlz,qfc,qjb,hf2,qd (show 0≤qA db nm∧qA db nm<(db.length:Int) from ⟨by omega,hlt⟩)]
  generalize decide (((db.getD (qA db nm).toNat (qb Y53)).2.1:Int)=(vs.length:Int))=D
  rcases qlk K with rfl | rfl | rfl | rfl | rfl | rfl | rfl | ⟨k0,k1,k2,k3,k4,k5,k6⟩
  all_goals (try simp only [Int.reduceEq,decide_true,decide_false,Bool.not_true,Bool.not_false,cond_true,cond_false,Bool.true_or,Bool.false_or,Bool.or_false,Bool.or_true,Bool.true_and,Bool.false_and,Bool.and_true])
  all_goals (try simp only [decide_eq_false k0,decide_eq_false k1,decide_eq_false k2,decide_eq_false k3,decide_eq_false k4,decide_eq_false k5,decide_eq_false k6,Bool.not_true,Bool.not_false,cond_true,cond_false,Bool.true_or,Bool.false_or,Bool.or_false,Bool.or_true,Bool.true_and,Bool.false_and,Bool.and_true])
  all_goals (cases qbZ a<;>cases isE nm<;>cases isE lb<;>cases decide ((0:Int)<(vs.length:Int))<;>cases decide (vr=0)<;>(try rfl)<;>cases q4 a<;>(try rfl)<;>cases D<;>(try rfl)<;>cases qW lb 97 122<;>(try rfl)<;>cases vs.all qL<;>rfl)⟩
theorem s97:Sound Try.prog 97 g97:=qu (tt:=tt) (Γ:=Γ97) hT (qk s16 (qk s69 (qk s78 (qk qxd (qk qBy qt))))) hm (fn:=Try.f97) Try.func97 (c:=Try.f97.body.getD .skip) (by kernel_rfl) (by kernel_rfl) fun x hx=>by
 obtain ⟨N,h⟩:=e97 x.1 x.2.1 hx
 exact ⟨T97 N,p97,qr _,qEi N,(qB6 N x.1 x.2.1).trans h⟩
end Go.T
