/- Formulas: nodes, the program's. -/
import Derived.Test.YtlhkmndfkjlodaaH2
set_option linter.unusedSimpArgs false
set_option linter.unusedVariables false
namespace Go.T
open Go Go.Proofs
set_option maxHeartbeats 4000000
set_option maxRecDepth 100000
theorem qPd (N:Nat) (vs:List (Val (.int .i64))) (k:Unit→Option (qc [i4])) (hl:vs.length≤1048576) (n:Nat) (hn:vs.length<n):qcz N vs (vs.length:Int) k n 0=bif vs.all q3 then k ()else some (false,()):=
 (qam (F:=fun n i (_:Unit)=>qcz N vs (vs.length:Int) k n i) (step:=fun _ x _ K=>bif q3 x then K ()else some (false,())) (k:=k) hl (fun n i s hi=>by
   rw [qcz,qj (by omega),qd (by omega),qA hi,qX]) (fun n i s hi=>by rw [qcz,qh (by omega)]) n () hn).trans (qeU vs 0)
theorem qSc (db:List (Val qf)) (x:Val qb) (h:qq4 db x): ∃N,qtb N db x=some (qgB db x,()):=⟨1048577,by
 obtain ⟨K,a,nm,lb,vs,vr,A,B⟩:=x
 change Int at K
 change ByteArray at nm
 change ByteArray at lb
 change List (Val (.int .i64))at vs
 change Int at vr
 obtain ⟨hd, -, -,h1,h2,h3, -⟩:=h
 have hv:vs.length≤1048576:=h3.1
 have hfr:qb9 db nm:=hd
 have hlt:=qIo db nm
 rw [qtb,qgB]
 dsimp only
 have te:=fun k=>qPd 1048577 vs k hv 1048577 (by omega)
 simp only [te,qd hfr]
 have ee: ∀s:ByteArray,(ByteArray.toList s==ByteArray.toList (ByteArray.mk #[]))=isE s:=fun _=>rfl
 simp only [ee,qgp]
 by_cases hf:qT db nm<0
 ·have hf2:decide (0≤qT db nm)=false:=decide_eq_false (by omega)
  simp only [decide_eq_true hf,cond_true,qjm,qnP,qgJ,qiz,hf2]
  rcases qnk K with rfl | rfl | rfl | rfl | rfl | rfl | rfl | ⟨k0,k1,k2,k3,k4,k5,k6⟩
  all_goals (try simp only [Int.reduceEq,decide_true,decide_false,Bool.not_true,Bool.not_false,cond_true,cond_false,Bool.true_or,Bool.false_or,Bool.or_false,Bool.or_true,Bool.true_and,Bool.false_and,Bool.and_true])
  all_goals (try simp only [decide_eq_false k0,decide_eq_false k1,decide_eq_false k2,decide_eq_false k3,decide_eq_false k4,decide_eq_false k5,decide_eq_false k6,Bool.not_true,Bool.not_false,cond_true,cond_false,Bool.true_or,Bool.false_or,Bool.or_false,Bool.or_true,Bool.true_and,Bool.false_and,Bool.and_true])
  all_goals (cases qeX a<;>cases isE nm<;>cases isE lb<;>cases decide ((0:Int)<(vs.length:Int))<;>cases decide (vr=0)<;>cases qaF a<;>rfl)
 ·have hf2:decide (0≤qT db nm)=true:=decide_eq_true (by omega)
  simp only [decide_eq_false hf,cond_false,qjm,qnP,qgJ,qiz,hf2,qd (show 0≤qT db nm∧qT db nm<(db.length:Int) from ⟨by omega,hlt⟩)]
  generalize decide (((db.getD (qT db nm).toNat (qa qf)).2.1:Int)=(vs.length:Int))=D
  rcases qnk K with rfl | rfl | rfl | rfl | rfl | rfl | rfl | ⟨k0,k1,k2,k3,k4,k5,k6⟩
  all_goals (try simp only [Int.reduceEq,decide_true,decide_false,Bool.not_true,Bool.not_false,cond_true,cond_false,Bool.true_or,Bool.false_or,Bool.or_false,Bool.or_true,Bool.true_and,Bool.false_and,Bool.and_true])
  all_goals (try simp only [decide_eq_false k0,decide_eq_false k1,decide_eq_false k2,decide_eq_false k3,decide_eq_false k4,decide_eq_false k5,decide_eq_false k6,Bool.not_true,Bool.not_false,cond_true,cond_false,Bool.true_or,Bool.false_or,Bool.or_false,Bool.or_true,Bool.true_and,Bool.false_and,Bool.and_true])
  all_goals (cases qeX a<;>cases isE nm<;>cases isE lb<;>cases decide ((0:Int)<(vs.length:Int))<;>cases decide (vr=0)<;>(try rfl)<;>cases qaF a<;>(try rfl)<;>cases D<;>(try rfl)<;>cases qan lb 97 122<;>(try rfl)<;>cases vs.all q3<;>rfl)⟩
theorem qKM:Sound Try.prog 121 qjM:=qz (tt:=tt) (Γ:=qfq) hT (ql s44 (ql s93 (ql qIu (ql qLv (ql qJh qt))))) hm (fn:=Try.f121) Try.func121 (c:=Try.f121.body.getD .skip) (by kernel_rfl) (by kernel_rfl) fun x hx=>by
 obtain ⟨N,h⟩:=qSc x.1 x.2.1 hx
 exact ⟨qdh N,qQg,qy _,qVh N,(qOr N x.1 x.2.1).trans h⟩
end Go.T
