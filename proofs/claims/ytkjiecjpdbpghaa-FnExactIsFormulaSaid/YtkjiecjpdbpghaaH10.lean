/- Formulas: nodes, the reference's. -/
import Derived.Test.YtkjiecjpdbpghaaH3
import Derived.Test.YtkjiecjpdbpghaaH5
set_option linter.unusedSimpArgs false
set_option linter.unusedVariables false
namespace Go.T
open Go Go.Proofs
set_option maxHeartbeats 4000000
set_option maxRecDepth 100000
theorem qyt (s:ByteArray):(ByteArray.toList s==ByteArray.toList (ByteArray.mk #[]))=isE s:=rfl
def q3N (K vr A B:Int):Bool:=(decide (K=5)||decide (K=6)||decide (vr=0))&&(decide (K=3)||decide (K=4)||decide (B=0))&&(!decide (K≤1)||decide (A=0))
theorem qDy (N:Nat) (db:List (Val Y53)) (K:Int) (co:List (Val (.int .i64))) (cn:Int) (st:Bool) (nm lb:ByteArray) (vs:List (Val (.int .i64))) (vr A B:Int) (k:Bool→Option (qa [i4])) (n:Nat):
 qiG N db K co cn st nm lb vs vr A B k n=k (!qeV K (co,cn,st) nm lb vs):=by
 rw [qiG,qeV]
 simp only [qyt]
 cases decide (K=0)<;>cases qbZ _<;>cases decide (K=1)<;>cases isE nm<;>cases isE lb<;>cases decide ((0:Int)<(vs.length:Int))<;>rfl
theorem qJu (N:Nat) (db:List (Val Y53)) (K:Int) (co:List (Val (.int .i64))) (cn:Int) (st:Bool) (nm lb:ByteArray) (vs:List (Val (.int .i64))) (vr A B:Int) (k:Bool→Option (qa [i4])) (n:Nat):
 qfT N db K co cn st nm lb vs vr A B k n=k (!q3N K vr A B):=by
 rw [qfT,q3N]
 cases decide (K=5)<;>cases decide (K=6)<;>cases decide (vr=0)<;>cases decide (K=3)<;>cases decide (K=4)<;>cases decide (B=0)<;>cases decide (K≤1)<;>cases decide (A=0)<;>rfl
theorem qIJ (N:Nat) (K:Int) (co:List (Val (.int .i64))) (cn:Int) (st:Bool) (nm lb:ByteArray) (vs:List (Val (.int .i64))) (vr A B:Int) (k:Bool→Option (qa [i4])) (n:Nat):
 qd3 N K co cn st nm lb vs vr A B k n=k (qfc (co,cn,st)):=by
 rw [qd3,qfc]
 cases q4 _<;>rfl
theorem qFJ (N:Nat) (K:Int) (co:List (Val (.int .i64))) (cn:Int) (st:Bool) (nm lb:ByteArray) (vs:List (Val (.int .i64))) (vr A B:Int) (k:Bool→Option (qa [i4])) (n:Nat):
 qdB N K co cn st nm lb vs vr A B k n=k (inR K 2 6&&qL vr):=by
 rw [qdB,qzx]
 cases inR K 2 6<;>rfl
theorem qD1 (N:Nat) (db:List (Val Y53)) (fr K:Int) (hfr:fr<(db.length:Int)) (co:List (Val (.int .i64))) (cn:Int) (st:Bool) (nm lb:ByteArray) (hlb:qcx lb 97 122) (vs:List (Val (.int .i64))) (vr A B:Int) (k:Bool→Option (qa [i4])) (n:Nat):
 qdn N db fr K co cn st nm lb vs vr A B k n=k (decide (0≤fr)&&decide (((db.getD fr.toNat (qb Y53)).2.1:Int)=(vs.length:Int))&&(isE lb||qW lb 97 122)):=by
 rw [qdn]
 by_cases h:0≤fr
 ·rw [qh h,decide_eq_true h,qd ⟨h,hfr⟩,qyt,qd hlb]
  generalize decide (((db.getD fr.toNat (qb Y53)).2.1:Int)=(vs.length:Int))=D
  cases D<;>cases isE lb<;>cases qW lb 97 122<;>rfl
 ·rw [qg h,decide_eq_false h];rfl
theorem t95 (N:Nat) (db:List (Val Y53)) (fr K:Int) (co:List (Val (.int .i64))) (cn:Int) (st:Bool) (nm lb:ByteArray) (vs:List (Val (.int .i64))) (vr A B:Int) (k:Unit→Option (qa [i4])) (hl:vs.length≤1048576) (n:Nat) (hn:vs.length<n):
 qct N db fr K co cn st nm lb vs vr A B k n 0=bif vs.all qL then k ()else some (false,()):=
 (qac (F:=fun n i (_:Unit)=>qct N db fr K co cn st nm lb vs vr A B k n i) (step:=fun _ x _ K=>bif qL x then K ()else some (false,())) (k:=k) hl (fun n i s hi=>by
   rw [qct,qh (by omega),qd (by omega),qB hi,qF,qzx]) (fun n i s hi=>by rw [qct,qg (by omega)]) n () hn).trans (qbX vs 0)
theorem qJ6 (K vr A B:Int) (atm row:Bool):
 (bif !q3N K vr A B then false else bif decide (K=0)then atm else bif decide (K=1)then row else inR K 2 6&&qL vr)=
   ((bif decide (K=0)then decide (vr=0)&&atm else bif decide (K=1)then decide (vr=0)&&row else bif decide (K=5)||decide (K=6)then qL vr else decide (vr=0))&&abN K A B):=by
 have hv:vr=0→qL vr=true:=fun h=>by rw [h];rfl
 rcases qlk K with rfl | rfl | rfl | rfl | rfl | rfl | rfl | ⟨k0,k1,k2,k3,k4,k5,k6⟩
 ·show (bif !((false||false||decide (vr=0))&&(false||false||decide (B=0))&&(!true||decide (A=0)))then false else atm)=((decide (vr=0)&&atm)&&(decide (A=0)&&decide (B=0)))
  cases decide (vr=0)<;>cases decide (A=0)<;>cases decide (B=0)<;>cases atm<;>rfl
 ·show (bif !((false||false||decide (vr=0))&&(false||false||decide (B=0))&&(!true||decide (A=0)))then false else row)=((decide (vr=0)&&row)&&(decide (A=0)&&decide (B=0)))
  cases decide (vr=0)<;>cases decide (A=0)<;>cases decide (B=0)<;>cases row<;>rfl
 ·show (bif !((false||false||decide (vr=0))&&(false||false||decide (B=0))&&(!false||decide (A=0)))then false else true&&qL vr)=(decide (vr=0)&&decide (B=0))
  by_cases h:vr=0
  ·rw [hv h,decide_eq_true h];cases decide (B=0)<;>rfl
  ·rw [decide_eq_false h];rfl
 ·show (bif !((false||false||decide (vr=0))&&(true||false||decide (B=0))&&(!false||decide (A=0)))then false else true&&qL vr)=(decide (vr=0)&&true)
  by_cases h:vr=0
  ·rw [hv h,decide_eq_true h];rfl
  ·rw [decide_eq_false h];rfl
 ·show (bif !((false||false||decide (vr=0))&&(false||true||decide (B=0))&&(!false||decide (A=0)))then false else true&&qL vr)=(decide (vr=0)&&true)
  by_cases h:vr=0
  ·rw [hv h,decide_eq_true h];rfl
  ·rw [decide_eq_false h];rfl
 ·show (bif !((true||false||decide (vr=0))&&(false||false||decide (B=0))&&(!false||decide (A=0)))then false else true&&qL vr)=(qL vr&&decide (B=0))
  cases decide (B=0)<;>cases qL vr<;>rfl
 ·show (bif !((false||true||decide (vr=0))&&(false||false||decide (B=0))&&(!false||decide (A=0)))then false else true&&qL vr)=(qL vr&&decide (B=0))
  cases decide (B=0)<;>cases qL vr<;>rfl
 ·have e:inR K 2 6=false:=decide_eq_false (by omega)
  have e2:abN K A B=false:=by rw [abN,decide_eq_false k0,decide_eq_false k1,decide_eq_false k2,decide_eq_false k3,decide_eq_false k4,decide_eq_false k5,decide_eq_false k6];rfl
  rw [e,e2,decide_eq_false k0,decide_eq_false k1,Bool.and_false]
  cases q3N K vr A B<;>rfl
theorem e95 (db:List (Val Y53)) (x:Val qe) (h:ql0 db x): ∃N,m95 N db x=some (qdX db x,()):=⟨1048577,by
 obtain ⟨K,⟨co,cn,st⟩,nm,lb,vs,vr,A,B⟩:=x
 change Int at K
 change List (Val (.int .i64))at co
 change Int at cn
 change Bool at st
 change ByteArray at nm
 change ByteArray at lb
 change List (Val (.int .i64))at vs
 change Int at vr
 change Int at A
 change Int at B
 obtain ⟨hd, -, -,h1,h2,h3, -⟩:=h
 have hv:vs.length≤1048576:=h3.1
 have hfr:qan db nm:=hd
 have hlb:qcx lb 97 122:=h2
 have hlt:=qyZ db nm
 rw [m95,qdX,qdQ]
 dsimp only
 rw [qDy]
 cases hb:qeV K (co,cn,st) nm lb vs with
 | false=>rfl
 | true=>
   rw [Bool.not_true,cond_false,qJu,Bool.true_and]
   have hn:=qJ6 K vr A B (qfc (co,cn,st)) (qjb db nm lb vs)
   rw [qlz,←hn]
   cases q3N K vr A B with
   | false=>rfl
   | true=>
     rw [Bool.not_true,cond_false,cond_false]
     by_cases h0:K=0
     ·rw [qh h0,qh h0,qIJ]
     ·rw [qg h0,qg h0]
      by_cases h1:K=1
      ·rw [qh h1,qh h1,qd hfr,t95 (hl:=hv) (hn:=by omega)]
       rw [qD1 (hfr:=hlt) (hlb:=hlb),qjb]
       cases List.all vs qL with
       | true=>rw [cond_true,Bool.and_true]
       | false=>rw [Bool.and_false];rfl
      ·rw [qg h1,qg h1,qFJ]⟩
theorem s95:Sound Try.prog 95 g95:=qu (tt:=tt) (Γ:=Γ95) hT (qk s14 (qk s65 (qk s75 (qk qxT (qk qHD qt))))) hm (fn:=Try.f95) Try.func95 (c:=Try.f95.body.getD .skip) (by kernel_rfl) (by kernel_rfl) fun x hx=>by
 obtain ⟨N,h⟩:=e95 x.1 x.2.1 hx
 exact ⟨T95 N,p95,qr _,qFP N,(qGf N x.1 x.2.1).trans h⟩
end Go.T
