/- Formulas: nodes, the reference's. -/
import Derived.Test.YtlhkmndfkjlodaaH3
import Derived.Test.YtlhkmndfkjlodaaH5
set_option linter.unusedSimpArgs false
set_option linter.unusedVariables false
namespace Go.T
open Go Go.Proofs
set_option maxHeartbeats 4000000
set_option maxRecDepth 100000
theorem qJd (s:ByteArray):(ByteArray.toList s==ByteArray.toList (ByteArray.mk #[]))=isE s:=rfl
def q3N (K vr A B:Int):Bool:=(decide (K=5)||decide (K=6)||decide (vr=0))&&(decide (K=3)||decide (K=4)||decide (B=0))&&(!decide (K≤1)||decide (A=0))
theorem qWB (N:Nat) (db:List (Val qe)) (K:Int) (co:List (Val (.int .i64))) (cn:Int) (st:Bool) (nm lb:ByteArray) (vs:List (Val (.int .i64))) (vr A B:Int) (k:Bool→Option (qc [i4])) (n:Nat):
 qoI N db K co cn st nm lb vs vr A B k n=k (!qg3 K (co,cn,st) nm lb vs):=by
 rw [qoI,qg3]
 simp only [qJd]
 cases decide (K=0)<;>cases qcN _<;>cases decide (K=1)<;>cases isE nm<;>cases isE lb<;>cases decide ((0:Int)<(vs.length:Int))<;>rfl
theorem qSn (N:Nat) (db:List (Val qe)) (K:Int) (co:List (Val (.int .i64))) (cn:Int) (st:Bool) (nm lb:ByteArray) (vs:List (Val (.int .i64))) (vr A B:Int) (k:Bool→Option (qc [i4])) (n:Nat):
 qiC N db K co cn st nm lb vs vr A B k n=k (!q3N K vr A B):=by
 rw [qiC,q3N]
 cases decide (K=5)<;>cases decide (K=6)<;>cases decide (vr=0)<;>cases decide (K=3)<;>cases decide (K=4)<;>cases decide (B=0)<;>cases decide (K≤1)<;>cases decide (A=0)<;>rfl
theorem qLW (N:Nat) (K:Int) (co:List (Val (.int .i64))) (cn:Int) (st:Bool) (nm lb:ByteArray) (vs:List (Val (.int .i64))) (vr A B:Int) (k:Bool→Option (qc [i4])) (n:Nat):
 qhI N K co cn st nm lb vs vr A B k n=k (qfF (co,cn,st)):=by
 rw [qhI,qfF]
 cases qai _<;>rfl
theorem qW9 (N:Nat) (K:Int) (co:List (Val (.int .i64))) (cn:Int) (st:Bool) (nm lb:ByteArray) (vs:List (Val (.int .i64))) (vr A B:Int) (k:Bool→Option (qc [i4])) (n:Nat):
 qhq N K co cn st nm lb vs vr A B k n=k (inR K 2 6&&qaa vr):=by
 rw [qhq,qKr]
 cases inR K 2 6<;>rfl
theorem qTk (N:Nat) (db:List (Val qe)) (fr K:Int) (hfr:fr<(db.length:Int)) (co:List (Val (.int .i64))) (cn:Int) (st:Bool) (nm lb:ByteArray) (hlb:qfc lb 97 122) (vs:List (Val (.int .i64))) (vr A B:Int) (k:Bool→Option (qc [i4])) (n:Nat):
 qgx N db fr K co cn st nm lb vs vr A B k n=k (decide (0≤fr)&&decide (((db.getD fr.toNat (qb qe)).2.1:Int)=(vs.length:Int))&&(isE lb||qau lb 97 122)):=by
 rw [qgx]
 by_cases h:0≤fr
 ·rw [qj h,decide_eq_true h,qd ⟨h,hfr⟩,qJd,qd hlb]
  generalize decide (((db.getD fr.toNat (qb qe)).2.1:Int)=(vs.length:Int))=D
  cases D<;>cases isE lb<;>cases qau lb 97 122<;>rfl
 ·rw [qh h,decide_eq_false h];rfl
theorem qOR (N:Nat) (db:List (Val qe)) (fr K:Int) (co:List (Val (.int .i64))) (cn:Int) (st:Bool) (nm lb:ByteArray) (vs:List (Val (.int .i64))) (vr A B:Int) (k:Unit→Option (qc [i4])) (hl:vs.length≤1048576) (n:Nat) (hn:vs.length<n):
 qfk N db fr K co cn st nm lb vs vr A B k n 0=bif vs.all qaa then k ()else some (false,()):=
 (qbA (F:=fun n i (_:Unit)=>qfk N db fr K co cn st nm lb vs vr A B k n i) (step:=fun _ x _ K=>bif qaa x then K ()else some (false,())) (k:=k) hl (fun n i s hi=>by
   rw [qfk,qj (by omega),qd (by omega),qE hi,qL,qKr]) (fun n i s hi=>by rw [qfk,qh (by omega)]) n () hn).trans (qes vs 0)
theorem qZi (K vr A B:Int) (atm row:Bool):
 (bif !q3N K vr A B then false else bif decide (K=0)then atm else bif decide (K=1)then row else inR K 2 6&&qaa vr)=
   ((bif decide (K=0)then decide (vr=0)&&atm else bif decide (K=1)then decide (vr=0)&&row else bif decide (K=5)||decide (K=6)then qaa vr else decide (vr=0))&&abN K A B):=by
 have hv:vr=0→qaa vr=true:=fun h=>by rw [h];rfl
 rcases qjb K with rfl | rfl | rfl | rfl | rfl | rfl | rfl | ⟨k0,k1,k2,k3,k4,k5,k6⟩
 ·show (bif !((false||false||decide (vr=0))&&(false||false||decide (B=0))&&(!true||decide (A=0)))then false else atm)=((decide (vr=0)&&atm)&&(decide (A=0)&&decide (B=0)))
  cases decide (vr=0)<;>cases decide (A=0)<;>cases decide (B=0)<;>cases atm<;>rfl
 ·show (bif !((false||false||decide (vr=0))&&(false||false||decide (B=0))&&(!true||decide (A=0)))then false else row)=((decide (vr=0)&&row)&&(decide (A=0)&&decide (B=0)))
  cases decide (vr=0)<;>cases decide (A=0)<;>cases decide (B=0)<;>cases row<;>rfl
 ·show (bif !((false||false||decide (vr=0))&&(false||false||decide (B=0))&&(!false||decide (A=0)))then false else true&&qaa vr)=(decide (vr=0)&&decide (B=0))
  by_cases h:vr=0
  ·rw [hv h,decide_eq_true h];cases decide (B=0)<;>rfl
  ·rw [decide_eq_false h];rfl
 ·show (bif !((false||false||decide (vr=0))&&(true||false||decide (B=0))&&(!false||decide (A=0)))then false else true&&qaa vr)=(decide (vr=0)&&true)
  by_cases h:vr=0
  ·rw [hv h,decide_eq_true h];rfl
  ·rw [decide_eq_false h];rfl
 ·show (bif !((false||false||decide (vr=0))&&(false||true||decide (B=0))&&(!false||decide (A=0)))then false else true&&qaa vr)=(decide (vr=0)&&true)
  by_cases h:vr=0
  ·rw [hv h,decide_eq_true h];rfl
  ·rw [decide_eq_false h];rfl
 ·show (bif !((true||false||decide (vr=0))&&(false||false||decide (B=0))&&(!false||decide (A=0)))then false else true&&qaa vr)=(qaa vr&&decide (B=0))
  cases decide (B=0)<;>cases qaa vr<;>rfl
 ·show (bif !((false||true||decide (vr=0))&&(false||false||decide (B=0))&&(!false||decide (A=0)))then false else true&&qaa vr)=(qaa vr&&decide (B=0))
  cases decide (B=0)<;>cases qaa vr<;>rfl
 ·have e:inR K 2 6=false:=decide_eq_false (by omega)
  have e2:abN K A B=false:=by rw [abN,decide_eq_false k0,decide_eq_false k1,decide_eq_false k2,decide_eq_false k3,decide_eq_false k4,decide_eq_false k5,decide_eq_false k6];rfl
  rw [e,e2,decide_eq_false k0,decide_eq_false k1,Bool.and_false]
  cases q3N K vr A B<;>rfl
theorem qWw (db:List (Val qe)) (x:Val qa) (h:qsj db x): ∃N,qqk N db x=some (qdy db x,()):=⟨1048577,by
 obtain ⟨K,⟨co,cn,st⟩,nm,lb,vs,vr,A,B⟩:=x
 change Int at K
 change List (Val (.int .i64))at co
 change Int at cn
 change Bool at st
 change ByteArray at nm
 change ByteArray at lb
 change List (Val (.int .i64))at vs
 change Int at vr
 change Int at A
 change Int at B
 obtain ⟨hd, -, -,h1,h2,h3, -⟩:=h
 have hv:vs.length≤1048576:=h3.1
 have hfr:qck db nm:=hd
 have hlb:qfc lb 97 122:=h2
 have hlt:=qJS db nm
 rw [qqk,qdy,qfA]
 dsimp only
 rw [qWB]
 cases hb:qg3 K (co,cn,st) nm lb vs with
 | false=>rfl
 | true=>
   rw [Bool.not_true,cond_false,qSn,Bool.true_and]
   have hn:=qZi K vr A B (qfF (co,cn,st)) (qhL db nm lb vs)
   rw [qhA,←hn]
   cases q3N K vr A B with
   | false=>rfl
   | true=>
     rw [Bool.not_true,cond_false,cond_false]
     by_cases h0:K=0
     ·rw [qj h0,qj h0,qLW]
     ·rw [qh h0,qh h0]
      by_cases h1:K=1
      ·rw [qj h1,qj h1,qd hfr,qOR (hl:=hv) (hn:=by omega)]
       rw [qTk (hfr:=hlt) (hlb:=hlb),qhL]
       cases List.all vs qaa with
       | true=>rw [cond_true,Bool.and_true]
       | false=>rw [Bool.and_false];rfl
      ·rw [qh h1,qh h1,qW9]⟩
theorem qVR:Sound Try.prog 118 qi7:=qz (tt:=tt) (Γ:=qaD) hT (ql s47 (ql s96 (ql qJ0 (ql qND (ql qIl qp))))) hm (fn:=Try.f118) Try.func118 (c:=Try.f118.body.getD .skip) (by kernel_rfl) (by kernel_rfl) fun x hx=>by
 obtain ⟨N,h⟩:=qWw x.1 x.2.1 hx
 exact ⟨qap N,qQ5,qx _,qP0 N,(qTh N x.1 x.2.1).trans h⟩
end Go.T
