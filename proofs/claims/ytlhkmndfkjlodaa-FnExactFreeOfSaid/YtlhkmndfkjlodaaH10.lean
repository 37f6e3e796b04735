/- Formulas: nodes, the reference's. -/
import Derived.Test.YtlhkmndfkjlodaaH3
import Derived.Test.YtlhkmndfkjlodaaH5
set_option linter.unusedSimpArgs false
set_option linter.unusedVariables false
namespace Go.T
open Go Go.Proofs
set_option maxHeartbeats 4000000
set_option maxRecDepth 100000
theorem qHN (s:ByteArray):(ByteArray.toList s==ByteArray.toList (ByteArray.mk #[]))=isE s:=rfl
def q3N (K vr A B:Int):Bool:=(decide (K=5)||decide (K=6)||decide (vr=0))&&(decide (K=3)||decide (K=4)||decide (B=0))&&(!decide (K≤1)||decide (A=0))
theorem qTw (N:Nat) (db:List (Val qf)) (K:Int) (co:List (Val (.int .i64))) (cn:Int) (st:Bool) (nm lb:ByteArray) (vs:List (Val (.int .i64))) (vr A B:Int) (k:Bool→Option (qc [i4])) (n:Nat):
 qpe N db K co cn st nm lb vs vr A B k n=k (!qjm K (co,cn,st) nm lb vs):=by
 rw [qpe,qjm]
 simp only [qHN]
 cases decide (K=0)<;>cases qeX _<;>cases decide (K=1)<;>cases isE nm<;>cases isE lb<;>cases decide ((0:Int)<(vs.length:Int))<;>rfl
theorem qPW (N:Nat) (db:List (Val qf)) (K:Int) (co:List (Val (.int .i64))) (cn:Int) (st:Bool) (nm lb:ByteArray) (vs:List (Val (.int .i64))) (vr A B:Int) (k:Bool→Option (qc [i4])) (n:Nat):
 qjr N db K co cn st nm lb vs vr A B k n=k (!q3N K vr A B):=by
 rw [qjr,q3N]
 cases decide (K=5)<;>cases decide (K=6)<;>cases decide (vr=0)<;>cases decide (K=3)<;>cases decide (K=4)<;>cases decide (B=0)<;>cases decide (K≤1)<;>cases decide (A=0)<;>rfl
theorem qKr (N:Nat) (K:Int) (co:List (Val (.int .i64))) (cn:Int) (st:Bool) (nm lb:ByteArray) (vs:List (Val (.int .i64))) (vr A B:Int) (k:Bool→Option (qc [i4])) (n:Nat):
 qiv N K co cn st nm lb vs vr A B k n=k (qgJ (co,cn,st)):=by
 rw [qiv,qgJ]
 cases qaF _<;>rfl
theorem qTZ (N:Nat) (K:Int) (co:List (Val (.int .i64))) (cn:Int) (st:Bool) (nm lb:ByteArray) (vs:List (Val (.int .i64))) (vr A B:Int) (k:Bool→Option (qc [i4])) (n:Nat):
 qh7 N K co cn st nm lb vs vr A B k n=k (inR K 2 6&&q3 vr):=by
 rw [qh7,qI2]
 cases inR K 2 6<;>rfl
theorem qQI (N:Nat) (db:List (Val qf)) (fr K:Int) (hfr:fr<(db.length:Int)) (co:List (Val (.int .i64))) (cn:Int) (st:Bool) (nm lb:ByteArray) (hlb:qfN lb 97 122) (vs:List (Val (.int .i64))) (vr A B:Int) (k:Bool→Option (qc [i4])) (n:Nat):
 qg6 N db fr K co cn st nm lb vs vr A B k n=k (decide (0≤fr)&&decide (((db.getD fr.toNat (qa qf)).2.1:Int)=(vs.length:Int))&&(isE lb||qan lb 97 122)):=by
 rw [qg6]
 by_cases h:0≤fr
 ·rw [qj h,decide_eq_true h,qd ⟨h,hfr⟩,qHN,qd hlb]
  generalize decide (((db.getD fr.toNat (qa qf)).2.1:Int)=(vs.length:Int))=D
  cases D<;>cases isE lb<;>cases qan lb 97 122<;>rfl
 ·rw [qh h,decide_eq_false h];rfl
theorem qMR (N:Nat) (db:List (Val qf)) (fr K:Int) (co:List (Val (.int .i64))) (cn:Int) (st:Bool) (nm lb:ByteArray) (vs:List (Val (.int .i64))) (vr A B:Int) (k:Unit→Option (qc [i4])) (hl:vs.length≤1048576) (n:Nat) (hn:vs.length<n):
 qfU N db fr K co cn st nm lb vs vr A B k n 0=bif vs.all q3 then k ()else some (false,()):=
 (qam (F:=fun n i (_:Unit)=>qfU N db fr K co cn st nm lb vs vr A B k n i) (step:=fun _ x _ K=>bif q3 x then K ()else some (false,())) (k:=k) hl (fun n i s hi=>by
   rw [qfU,qj (by omega),qd (by omega),qA hi,qX,qI2]) (fun n i s hi=>by rw [qfU,qh (by omega)]) n () hn).trans (qeU vs 0)
theorem qVQ (K vr A B:Int) (atm row:Bool):
 (bif !q3N K vr A B then false else bif decide (K=0)then atm else bif decide (K=1)then row else inR K 2 6&&q3 vr)=
   ((bif decide (K=0)then decide (vr=0)&&atm else bif decide (K=1)then decide (vr=0)&&row else bif decide (K=5)||decide (K=6)then q3 vr else decide (vr=0))&&abN K A B):=by
 have hv:vr=0→q3 vr=true:=fun h=>by rw [h];rfl
 rcases qnk K with rfl | rfl | rfl | rfl | rfl | rfl | rfl | ⟨k0,k1,k2,k3,k4,k5,k6⟩
 ·show (bif !((false||false||decide (vr=0))&&(false||false||decide (B=0))&&(!true||decide (A=0)))then false else atm)=((decide (vr=0)&&atm)&&(decide (A=0)&&decide (B=0)))
  cases decide (vr=0)<;>cases decide (A=0)<;>cases decide (B=0)<;>cases atm<;>rfl
 ·show (bif !((false||false||decide (vr=0))&&(false||false||decide (B=0))&&(!true||decide (A=0)))then false else row)=((decide (vr=0)&&row)&&(decide (A=0)&&decide (B=0)))
  cases decide (vr=0)<;>cases decide (A=0)<;>cases decide (B=0)<;>cases row<;>rfl
 ·show (bif !((false||false||decide (vr=0))&&(false||false||decide (B=0))&&(!false||decide (A=0)))then false else true&&q3 vr)=(decide (vr=0)&&decide (B=0))
  by_cases h:vr=0
  ·rw [hv h,decide_eq_true h];cases decide (B=0)<;>rfl
  ·rw [decide_eq_false h];rfl
 ·show (bif !((false||false||decide (vr=0))&&(true||false||decide (B=0))&&(!false||decide (A=0)))then false else true&&q3 vr)=(decide (vr=0)&&true)
  by_cases h:vr=0
  ·rw [hv h,decide_eq_true h];rfl
  ·rw [decide_eq_false h];rfl
 ·show (bif !((false||false||decide (vr=0))&&(false||true||decide (B=0))&&(!false||decide (A=0)))then false else true&&q3 vr)=(decide (vr=0)&&true)
  by_cases h:vr=0
  ·rw [hv h,decide_eq_true h];rfl
  ·rw [decide_eq_false h];rfl
 ·show (bif !((true||false||decide (vr=0))&&(false||false||decide (B=0))&&(!false||decide (A=0)))then false else true&&q3 vr)=(q3 vr&&decide (B=0))
  cases decide (B=0)<;>cases q3 vr<;>rfl
 ·show (bif !((false||true||decide (vr=0))&&(false||false||decide (B=0))&&(!false||decide (A=0)))then false else true&&q3 vr)=(q3 vr&&decide (B=0))
  cases decide (B=0)<;>cases q3 vr<;>rfl
 ·have e:inR K 2 6=false:=decide_eq_false (by omega)
  have e2:abN K A B=false:=by rw [abN,decide_eq_false k0,decide_eq_false k1,decide_eq_false k2,decide_eq_false k3,decide_eq_false k4,decide_eq_false k5,decide_eq_false k6];rfl
  rw [e,e2,decide_eq_false k0,decide_eq_false k1,Bool.and_false]
  cases q3N K vr A B<;>rfl
theorem qTr (db:List (Val qf)) (x:Val qb) (h:qsB db x): ∃N,qqL N db x=some (qfA db x,()):=⟨1048577,by
 obtain ⟨K,⟨co,cn,st⟩,nm,lb,vs,vr,A,B⟩:=x
 change Int at K
 change List (Val (.int .i64))at co
 change Int at cn
 change Bool at st
 change ByteArray at nm
 change ByteArray at lb
 change List (Val (.int .i64))at vs
 change Int at vr
 change Int at A
 change Int at B
 obtain ⟨hd, -, -,h1,h2,h3, -⟩:=h
 have hv:vs.length≤1048576:=h3.1
 have hfr:qb9 db nm:=hd
 have hlb:qfN lb 97 122:=h2
 have hlt:=qIo db nm
 rw [qqL,qfA,qgB]
 dsimp only
 rw [qTw]
 cases hb:qjm K (co,cn,st) nm lb vs with
 | false=>rfl
 | true=>
   rw [Bool.not_true,cond_false,qPW,Bool.true_and]
   have hn:=qVQ K vr A B (qgJ (co,cn,st)) (qiz db nm lb vs)
   rw [qnP,←hn]
   cases q3N K vr A B with
   | false=>rfl
   | true=>
     rw [Bool.not_true,cond_false,cond_false]
     by_cases h0:K=0
     ·rw [qj h0,qj h0,qKr]
     ·rw [qh h0,qh h0]
      by_cases h1:K=1
      ·rw [qj h1,qj h1,qd hfr,qMR (hl:=hv) (hn:=by omega)]
       rw [qQI (hfr:=hlt) (hlb:=hlb),qiz]
       cases List.all vs q3 with
       | true=>rw [cond_true,Bool.and_true]
       | false=>rw [Bool.and_false];rfl
      ·rw [qh h1,qh h1,qTZ]⟩
theorem qSP:Sound Try.prog 118 qjP:=qz (tt:=tt) (Γ:=qaw) hT (ql s47 (ql s96 (ql qIw (ql qLK (ql qGW qt))))) hm (fn:=Try.f118) Try.func118 (c:=Try.f118.body.getD .skip) (by kernel_rfl) (by kernel_rfl) fun x hx=>by
 obtain ⟨N,h⟩:=qTr x.1 x.2.1 hx
 exact ⟨qai N,qOL,qy _,qNQ N,(qQE N x.1 x.2.1).trans h⟩
end Go.T
