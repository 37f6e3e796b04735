/- Formulas: nodes, the program's. -/
import Derived.Test.YtlhkmndfkjlodaaH2
set_option linter.unusedSimpArgs false
set_option linter.unusedVariables false
namespace Go.T
open Go Go.Proofs
set_option maxHeartbeats 4000000
set_option maxRecDepth 100000
theorem qRA (N:Nat) (vs:List (Val (.int .i64))) (k:Unit→Option (qc [i4])) (hl:vs.length≤1048576) (n:Nat) (hn:vs.length<n):qcJ N vs (vs.length:Int) k n 0=bif vs.all qaa then k ()else some (false,()):=
 (qbA (F:=fun n i (_:Unit)=>qcJ N vs (vs.length:Int) k n i) (step:=fun _ x _ K=>bif qaa x then K ()else some (false,())) (k:=k) hl (fun n i s hi=>by
   rw [qcJ,qj (by omega),qd (by omega),qE hi,qL]) (fun n i s hi=>by rw [qcJ,qh (by omega)]) n () hn).trans (qes vs 0)
theorem qU4 (db:List (Val qe)) (x:Val qa) (h:qqB db x): ∃N,qsX N db x=some (qfA db x,()):=⟨1048577,by
 obtain ⟨K,a,nm,lb,vs,vr,A,B⟩:=x
 change Int at K
 change ByteArray at nm
 change ByteArray at lb
 change List (Val (.int .i64))at vs
 change Int at vr
 obtain ⟨hd, -, -,h1,h2,h3, -⟩:=h
 have hv:vs.length≤1048576:=h3.1
 have hfr:qck db nm:=hd
 have hlt:=qJS db nm
 rw [qsX,qfA]
 dsimp only
 have te:=fun k=>qRA 1048577 vs k hv 1048577 (by omega)
 simp only [te,qd hfr]
 have ee: ∀s:ByteArray,(ByteArray.toList s==ByteArray.toList (ByteArray.mk #[]))=isE s:=fun _=>rfl
 simp only [ee,qfV]
 by_cases hf:qU db nm<0
 ·have hf2:decide (0≤qU db nm)=false:=decide_eq_false (by omega)
  simp only [decide_eq_true hf,cond_true,qg3,qhA,qfF,qhL,hf2]
  rcases qjb K with rfl | rfl | rfl | rfl | rfl | rfl | rfl | ⟨k0,k1,k2,k3,k4,k5,k6⟩
  all_goals (try simp only [Int.reduceEq,decide_true,decide_false,Bool.not_true,Bool.not_false,cond_true,cond_false,Bool.true_or,Bool.false_or,Bool.or_false,Bool.or_true,Bool.true_and,Bool.false_and,Bool.and_true])
  all_goals (try simp only [decide_eq_false k0,decide_eq_false k1,decide_eq_false k2,decide_eq_false k3,decide_eq_false k4,decide_eq_false k5,decide_eq_false k6,Bool.not_true,Bool.not_false,cond_true,cond_false,Bool.true_or,Bool.false_or,Bool.or_false,Bool.or_true,Bool.true_and,Bool.false_and,Bool.and_true])
  all_goals (cases qcN a<;>cases isE nm<;>cases isE lb<;>cases decide ((0:Int)<(vs.length:Int))<;>cases decide (vr=0)<;>cases qai a<;>rfl)
 ·have hf2:decide (0≤qU db nm)=true:=decide_eq_true (by omega)
  simp only [decide_eq_false hf,cond_false,qg3,qhA,qfF,qhL,hf2,qd (show 0≤qU db nm∧qU db nm<(db.length:Int) from ⟨by omega,hlt⟩)]
  generalize decide (((db.getD (qU db nm).toNat (qb qe)).2.1:Int)=(vs.length:Int))=D
  rcases qjb K with rfl | rfl | rfl | rfl | rfl | rfl | rfl | ⟨k0,k1,k2,k3,k4,k5,k6⟩
  all_goals (try simp only [Int.reduceEq,decide_true,decide_false,Bool.not_true,Bool.not_false,cond_true,cond_false,Bool.true_or,Bool.false_or,Bool.or_false,Bool.or_true,Bool.true_and,Bool.false_and,Bool.and_true])
  all_goals (try simp only [decide_eq_false k0,decide_eq_false k1,decide_eq_false k2,decide_eq_false k3,decide_eq_false k4,decide_eq_false k5,decide_eq_false k6,Bool.not_true,Bool.not_false,cond_true,cond_false,Bool.true_or,Bool.false_or,Bool.or_false,Bool.or_true,Bool.true_and,Bool.false_and,Bool.and_true])
  all_goals (cases qcN a<;>cases isE nm<;>cases isE lb<;>cases decide ((0:Int)<(vs.length:Int))<;>cases decide (vr=0)<;>(try rfl)<;>cases qai a<;>(try rfl)<;>cases D<;>(try rfl)<;>cases qau lb 97 122<;>(try rfl)<;>cases vs.all qaa<;>rfl)⟩
theorem qMu:Sound Try.prog 121 qi4:=qz (tt:=tt) (Γ:=qeU) hT (ql s44 (ql s93 (ql qJX (ql qNk (ql qKD qp))))) hm (fn:=Try.f121) Try.func121 (c:=Try.f121.body.getD .skip) (by kernel_rfl) (by kernel_rfl) fun x hx=>by
 obtain ⟨N,h⟩:=qU4 x.1 x.2.1 hx
 exact ⟨qdi N,qSM,qx _,qYC N,(qQJ N x.1 x.2.1).trans h⟩
end Go.T
