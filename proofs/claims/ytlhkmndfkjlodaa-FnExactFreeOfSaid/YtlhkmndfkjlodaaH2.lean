/- Formulas: nodes. -/
import Derived.Test.YtlhkmndfkjlodaaA6
import Derived.Test.YtlhkmndfkjlodaaH1
set_option linter.unusedSimpArgs false
set_option linter.unusedVariables false
namespace Go.T
open Go Go.Proofs
set_option maxHeartbeats 4000000
set_option maxRecDepth 100000
def qeX (a:Val Y83):Bool:=decide ((List.length (α:=Int) a.1:Int)=0)&&decide ((a.2.1:Int)=0)&& !a.2.2
def qfd (k:Int):Int:=bif decide (k=0)||decide (k=1)then 0 else bif decide (k=2)||decide (k=5)||decide (k=6)then 1 else bif decide (k=3)||decide (k=4)then 2 else -1
def q3 (v:Int):Bool:=decide (0≤v)&&decide (v<4)
noncomputable def qsO (N:Nat) (v0:Val Y83):Option (qc [i4]):=bif (decide (((v0.1:List (Val (.int .i64))).length:Int)=(0:Int)))then (bif (decide ((v0.2.1:Int)=(0:Int)))then (some ((!(v0.2.2:Bool)),()))else (some (false,())))else (some (false,()))
def qGl:Gam:=[]
def qsm:Nat→Tree:=fun _=> .done
def qBp:Nat→Nm:=fun _=>⟨[],[],false⟩
def quW:Nat→Option Jn:=fun _=>none
def qDx:Nat→Option Nm:=fun _=>none
def qwf:Nat→Option Nm:=fun _=>none
theorem qN3:qn qsm (Try.f147.body.getD .skip)=true:=by kernel_rfl
def qfW (N:Nat):Tab:={tr:=qsm,lp:=qBp,ex:=qDx,rg:=qwf,jn:=quW,fuel:=N}
theorem qJ4 (N:Nat):(qfW N).pins=false:=rfl
theorem qUk (N:Nat):qp Try.prog (qfW N):=qw fun _=>rfl
theorem qRR (N:Nat) (i:Nat):(qfW N).tr i=qsm i:=rfl
theorem qSd (N:Nat) (i:Nat):(qfW N).lp i=qBp i:=rfl
theorem qT2 (N:Nat) (i:Nat):(qfW N).ex i=qDx i:=rfl
theorem qUB (N:Nat) (i:Nat):(qfW N).rg i=qwf i:=rfl
theorem qNl (N:Nat) (i:Nat):(qfW N).jn i=quW i:=rfl
theorem qJY (N:Nat):(qfW N).fuel=N:=rfl
theorem qMp (N:Nat) (v0:Val Y83):qe tt qGl (qfW N) (Try.f147.body.getD .skip) (qr tt true [i4] [.tmp 2]) (qv [i83] 17 (v0,()))=qsO N v0:=by
 rw [qsO];unfold Try.f147
 simp (maxSteps:=10000000) -implicitDefEqProofs [qRR,qsm,qSd,qBp,qT2,qDx,qUB,qwf,qNl,quW,qJY,qJ4]
 try rfl
noncomputable def qrM (N:Nat) (v0:Val Y83):Option (qc [i4]):=bif (decide (((v0.1:List (Val (.int .i64))).length:Int)=(0:Int)))then (bif (decide ((v0.2.1:Int)=(0:Int)))then (some ((!(v0.2.2:Bool)),()))else (some (false,())))else (some (false,()))
def qJi:Gam:=[]
def qp0:Nat→Tree:=fun _=> .done
def qCM:Nat→Nm:=fun _=>⟨[],[],false⟩
def qCF:Nat→Option Jn:=fun _=>none
def qBd:Nat→Option Nm:=fun _=>none
def qxH:Nat→Option Nm:=fun _=>none
theorem qUM:qn qp0 (Try.f142.body.getD .skip)=true:=by kernel_rfl
def qfJ (N:Nat):Tab:={tr:=qp0,lp:=qCM,ex:=qBd,rg:=qxH,jn:=qCF,fuel:=N}
theorem qNu (N:Nat):(qfJ N).pins=false:=rfl
theorem qOK (N:Nat):qp Try.prog (qfJ N):=qw fun _=>rfl
theorem qSM (N:Nat) (i:Nat):(qfJ N).tr i=qp0 i:=rfl
theorem qU6 (N:Nat) (i:Nat):(qfJ N).lp i=qCM i:=rfl
theorem qJy (N:Nat) (i:Nat):(qfJ N).ex i=qBd i:=rfl
theorem qQ7 (N:Nat) (i:Nat):(qfJ N).rg i=qxH i:=rfl
theorem qUi (N:Nat) (i:Nat):(qfJ N).jn i=qCF i:=rfl
theorem qMK (N:Nat):(qfJ N).fuel=N:=rfl
theorem qM0 (N:Nat) (v0:Val Y83):qe tt qJi (qfJ N) (Try.f142.body.getD .skip) (qr tt true [i4] [.tmp 2]) (qv [i83] 17 (v0,()))=qrM N v0:=by
 rw [qrM];unfold Try.f142
 simp (maxSteps:=10000000) -implicitDefEqProofs [qSM,qp0,qU6,qCM,qJy,qBd,qQ7,qxH,qUi,qCF,qMK,qNu]
 try rfl
noncomputable def qpM (N:Nat) (v0:Int):Option (qc [i3]):=bif (decide (v0=(0:Int)))then (some ((0:Int),()))else (bif (decide (v0=(1:Int)))then (some ((0:Int),()))else (bif (decide (v0=(2:Int)))then (some ((1:Int),()))else (bif (decide (v0=(5:Int)))then (some ((1:Int),()))else (bif (decide (v0=(6:Int)))then (some ((1:Int),()))else (bif (decide (v0=(3:Int)))then (some ((2:Int),()))else (bif (decide (v0=(4:Int)))then (some ((2:Int),()))else (some ((-1:Int),()))))))))
def qG2:Gam:=[]
def qrD:Nat→Tree:=fun _=> .done
def qvm:Nat→Nm:=fun _=>⟨[],[],false⟩
def qzy:Nat→Option Jn:=fun _=>none
def qth:Nat→Option Nm:=fun _=>none
def qwP:Nat→Option Nm:=fun _=>none
theorem qSi:qn qrD (Try.f122.body.getD .skip)=true:=by kernel_rfl
def qfI (N:Nat):Tab:={tr:=qrD,lp:=qvm,ex:=qth,rg:=qwP,jn:=qzy,fuel:=N}
theorem qSV (N:Nat):(qfI N).pins=false:=rfl
theorem qQS (N:Nat):qp Try.prog (qfI N):=qw fun _=>rfl
theorem qSx (N:Nat) (i:Nat):(qfI N).tr i=qrD i:=rfl
theorem qTg (N:Nat) (i:Nat):(qfI N).lp i=qvm i:=rfl
theorem qJQ (N:Nat) (i:Nat):(qfI N).ex i=qth i:=rfl
theorem qQr (N:Nat) (i:Nat):(qfI N).rg i=qwP i:=rfl
theorem qUT (N:Nat) (i:Nat):(qfI N).jn i=qzy i:=rfl
theorem qPH (N:Nat):(qfI N).fuel=N:=rfl
theorem qNz (N:Nat) (v0:Int):qe tt qG2 (qfI N) (Try.f122.body.getD .skip) (qr tt true [i3] [.tmp 2]) (qv [i3] 14 (v0,()))=qpM N v0:=by
 rw [qpM];unfold Try.f122
 simp (maxSteps:=10000000) -implicitDefEqProofs [qSx,qrD,qTg,qvm,qJQ,qth,qQr,qwP,qUT,qzy,qPH,qSV]
 try rfl
noncomputable def m44 (N:Nat) (v0:Int):Option (qc [i4]):=bif (decide ((0:Int)≤v0))then (some ((decide (v0<(4:Int))),()))else (some (false,()))
def Γ44:Gam:=[]
def qpr:Nat→Tree:=fun _=> .done
def qA1:Nat→Nm:=fun _=>⟨[],[],false⟩
def qzK:Nat→Option Jn:=fun _=>none
def qy8:Nat→Option Nm:=fun _=>none
def qDW:Nat→Option Nm:=fun _=>none
theorem p44:qn qpr (Try.f44.body.getD .skip)=true:=by kernel_rfl
def T44 (N:Nat):Tab:={tr:=qpr,lp:=qA1,ex:=qy8,rg:=qDW,jn:=qzK,fuel:=N}
theorem qPF (N:Nat):(T44 N).pins=false:=rfl
theorem qVd (N:Nat):qp Try.prog (T44 N):=qw fun _=>rfl
theorem qQx (N:Nat) (i:Nat):(T44 N).tr i=qpr i:=rfl
theorem qVS (N:Nat) (i:Nat):(T44 N).lp i=qA1 i:=rfl
theorem qTU (N:Nat) (i:Nat):(T44 N).ex i=qy8 i:=rfl
theorem qSq (N:Nat) (i:Nat):(T44 N).rg i=qDW i:=rfl
theorem qPQ (N:Nat) (i:Nat):(T44 N).jn i=qzK i:=rfl
theorem qQz (N:Nat):(T44 N).fuel=N:=rfl
theorem qS4 (N:Nat) (v0:Int):qe tt Γ44 (T44 N) (Try.f44.body.getD .skip) (qr tt true [i4] [.tmp 2]) (qv [i3] 9 (v0,()))=m44 N v0:=by
 rw [m44];unfold Try.f44
 simp (maxSteps:=10000000) -implicitDefEqProofs [qQx,qpr,qVS,qA1,qTU,qy8,qSq,qDW,qPQ,qzK,qQz,qPF]
 try rfl
def qku:G:={ps:=[i83],rs:=[i4],dp:=true,pre:=fun _=>True,fn:=fun x=>(qeX x.1,())}
def qcl:G:={ps:=[i83],rs:=[i4],dp:=true,pre:=fun _=>True,fn:=fun x=>(qeX x.1,())}
def qi6:G:={ps:=[i3],rs:=[i3],dp:=true,pre:=fun _=>True,fn:=fun x=>(qfd x.1,())}
def g44:G:={ps:=[i3],rs:=[i4],dp:=true,pre:=fun _=>True,fn:=fun x=>(q3 x.1,())}
theorem qN5 (a:Val Y83): ∃N,qsO N a=some (qeX a,()):=⟨0,by
 rw [qsO,qeX]
 cases decide ((List.length (α:=Int) a.1:Int)=0)<;>cases decide ((a.2.1:Int)=0)<;>rfl⟩
theorem qOc (a:Val Y83): ∃N,qrM N a=some (qeX a,()):=⟨0,by
 rw [qrM,qeX]
 cases decide ((List.length (α:=Int) a.1:Int)=0)<;>cases decide ((a.2.1:Int)=0)<;>rfl⟩
theorem qQX (k:Int): ∃N,qpM N k=some (qfd k,()):=⟨0,by
 rw [qpM,qfd]
 cases decide (k=0)<;>cases decide (k=1)<;>cases decide (k=2)<;>cases decide (k=3)<;>cases decide (k=4)<;>cases decide (k=5)<;>cases decide (k=6)<;>rfl⟩
theorem e44 (v:Int): ∃N,m44 N v=some (q3 v,()):=⟨0,by
 rw [m44,q3]
 cases decide (0≤v)<;>rfl⟩
theorem qLv:Sound Try.prog 147 qku:=qz (tt:=tt) (Γ:=qGl) hT qt hm (fn:=Try.f147) Try.func147 (c:=Try.f147.body.getD .skip) (by kernel_rfl) (by kernel_rfl) fun x hx=>by
 obtain ⟨N,h⟩:=qN5 x.1
 exact ⟨qfW N,qN3,qy _,qUk N,(qMp N x.1).trans h⟩
theorem qLK:Sound Try.prog 142 qcl:=qz (tt:=tt) (Γ:=qJi) hT qt hm (fn:=Try.f142) Try.func142 (c:=Try.f142.body.getD .skip) (by kernel_rfl) (by kernel_rfl) fun x hx=>by
 obtain ⟨N,h⟩:=qOc x.1
 exact ⟨qfJ N,qUM,qy _,qOK N,(qM0 N x.1).trans h⟩
theorem qUq:Sound Try.prog 122 qi6:=qz (tt:=tt) (Γ:=qG2) hT qt hm (fn:=Try.f122) Try.func122 (c:=Try.f122.body.getD .skip) (by kernel_rfl) (by kernel_rfl) fun x hx=>by
 obtain ⟨N,h⟩:=qQX x.1
 exact ⟨qfI N,qSi,qy _,qQS N,(qNz N x.1).trans h⟩
theorem s44:Sound Try.prog 44 g44:=qz (tt:=tt) (Γ:=Γ44) hT qt hm (fn:=Try.f44) Try.func44 (c:=Try.f44.body.getD .skip) (by kernel_rfl) (by kernel_rfl) fun x hx=>by
 obtain ⟨N,h⟩:=e44 x.1
 exact ⟨T44 N,p44,qy _,qVd N,(qS4 N x.1).trans h⟩
theorem qI2 (v:Int):inR v 0 3=q3 v:=by
 unfold inR q3
 by_cases h:0≤v
 ·by_cases h2:v<4
  ·rw [decide_eq_true h,decide_eq_true h2,decide_eq_true ⟨h,by omega⟩];rfl
  ·rw [decide_eq_true h,decide_eq_false h2,decide_eq_false (by omega)];rfl
 ·rw [decide_eq_false h,decide_eq_false (by omega)];rfl
def isE (s:ByteArray):Bool:=ByteArray.toList s==ByteArray.toList (ByteArray.mk #[])
def qjm (K:Int) (a:Val Y83) (nm lb:ByteArray) (vs:List Int):Bool:=
 (decide (K=0)||qeX a)&&(decide (K=1)||(isE nm&&isE lb&& !decide ((0:Int)<(vs.length:Int))))
def qgJ (a:Val Y83):Bool:=qaF a&&decide ((List.length (α:=Int) a.1:Int)=4)
def qiz (db:List (Val qf)) (nm lb:ByteArray) (vs:List Int):Bool:=
 decide (0≤qT db nm)&&decide (((db.getD (qT db nm).toNat (qa qf)).2.1:Int)=(vs.length:Int))&&(isE lb||qan lb 97 122)&&vs.all q3
def qnP (db:List (Val qf)) (K:Int) (a:Val Y83) (nm lb:ByteArray) (vs:List Int) (vr:Int):Bool:=
 bif decide (K=0)then decide (vr=0)&&qgJ a else bif decide (K=1)then decide (vr=0)&&qiz db nm lb vs else bif decide (K=5)||decide (K=6)then q3 vr else decide (vr=0)
def qgB (db:List (Val qf)) (n:Val qb):Bool:=qjm n.1 n.2.1 n.2.2.1 n.2.2.2.1 n.2.2.2.2.1&&qnP db n.1 n.2.1 n.2.2.1 n.2.2.2.1 n.2.2.2.2.1 n.2.2.2.2.2.1
def abN (K A B:Int):Bool:=bif decide (K=0)||decide (K=1)then decide (A=0)&&decide (B=0)else bif decide (K=2)||decide (K=5)||decide (K=6)then decide (B=0)else decide (K=3)||decide (K=4)
def qfA (db:List (Val qf)) (n:Val qb):Bool:=qgB db n&&abN n.1 n.2.2.2.2.2.2.1 n.2.2.2.2.2.2.2
def qq4 (db:List (Val qf)) (n:Val qb):Prop:=db.length≤1048576∧Bd qb n
def qsB (db:List (Val qf)) (n:Val qb):Prop:=db.length≤1048576∧Bd qb n
theorem qFS (nm:ByteArray): ∀(xs:List (Val qf)) (i:Nat),qb5 nm xs i<((i+xs.length:Nat):Int)
 | [],i=>by rw [qb5];omega
 | x::r,i=>by
   rw [qb5]
   have:=qFS nm r (i+1)
   cases ByteArray.toList x.1==ByteArray.toList nm with
   | true=>rw [cond_true,List.length_cons];omega
   | false=>rw [cond_false,List.length_cons];omega
theorem qIo (db:List (Val qf)) (nm:ByteArray):qT db nm<(db.length:Int):=by
 have:=qFS nm db 0
 unfold qT
 omega
theorem qnk (K:Int):K=0∨K=1∨K=2∨K=3∨K=4∨K=5∨K=6∨(¬K=0∧ ¬K=1∧ ¬K=2∧ ¬K=3∧ ¬K=4∧ ¬K=5∧ ¬K=6):=by omega
noncomputable def qcz (N:Nat) (v2:List (Val (.int .i64))) (v3:Int) (k1:Unit→Option (qc [i4])):Nat→Int→Option (qc [i4])
 | 0,_=>none
 | n+1,v4=>bif (decide (v4<v3))then (chk (0≤v4∧v4<(v2.length:Int)) (bif (!((q3 ((v2.getD v4.toNat (qa (.int .i64))):Int)):Bool))then (some (false,()))else (qcz N v2 v3 k1 n (IntKind.i64.wrap (v4+(1:Int))))))else (k1 ())
noncomputable def qtb (N:Nat) (v0:List (Val qf)) (v1:Val qb):Option (qc [i4]):=bif (!(decide ((v1.1:Int)=(0:Int))))then (bif (!((qeX v1.2.1):Bool))then (some (false,()))else (bif (!(decide ((v1.1:Int)=(1:Int))))then (bif (!(ByteArray.toList (v1.2.2.1:ByteArray)==ByteArray.toList (ByteArray.mk #[])))then (some (false,()))else (bif (!(ByteArray.toList (v1.2.2.2.1:ByteArray)==ByteArray.toList (ByteArray.mk #[])))then (some (false,()))else (bif (decide ((0:Int)<((v1.2.2.2.2.1:List (Val (.int .i64))).length:Int)))then (some (false,()))else (bif (decide ((v1.1:Int)=(0:Int)))then (bif (decide ((v1.2.2.2.2.2.1:Int)=(0:Int)))then (bif ((qaF v1.2.1):Bool)then (some ((decide (((v1.2.1.1:List (Val (.int .i64))).length:Int)=(4:Int))),()))else (some (false,())))else (some (false,())))else (bif (decide ((v1.1:Int)=(1:Int)))then (chk (qb9 v0 (v1.2.2.1:ByteArray)) (bif (!(decide ((v1.2.2.2.2.2.1:Int)=(0:Int))))then (some (false,()))else (bif (decide (((qT v0 (v1.2.2.1:ByteArray)):Int)<(0:Int)))then (some (false,()))else (chk (0≤((qT v0 (v1.2.2.1:ByteArray)):Int)∧((qT v0 (v1.2.2.1:ByteArray)):Int)<(v0.length:Int)) (bif (!(decide ((((v0.getD (((qT v0 (v1.2.2.1:ByteArray)):Int).toNat) (qa qf)).2).1:Int)=((v1.2.2.2.2.1:List (Val (.int .i64))).length:Int))))then (some (false,()))else (bif (!(ByteArray.toList (v1.2.2.2.1:ByteArray)==ByteArray.toList (ByteArray.mk #[])))then (bif (!((qgp (v1.2.2.2.1:ByteArray)):Bool))then (some (false,()))else (qcz N (v1.2.2.2.2.1:List (Val (.int .i64))) ((v1.2.2.2.2.1:List (Val (.int .i64))).length:Int) (fun (_:Unit)=>some (true,())) N (0:Int)))else (qcz N (v1.2.2.2.2.1:List (Val (.int .i64))) ((v1.2.2.2.2.1:List (Val (.int .i64))).length:Int) (fun (_:Unit)=>some (true,())) N (0:Int))))))))else (bif (decide ((v1.1:Int)=(5:Int)))then (some (((q3 (v1.2.2.2.2.2.1:Int)):Bool),()))else (bif (decide ((v1.1:Int)=(6:Int)))then (some (((q3 (v1.2.2.2.2.2.1:Int)):Bool),()))else (some ((decide ((v1.2.2.2.2.2.1:Int)=(0:Int))),())))))))))else (bif (decide ((v1.1:Int)=(0:Int)))then (bif (decide ((v1.2.2.2.2.2.1:Int)=(0:Int)))then (bif ((qaF v1.2.1):Bool)then (some ((decide (((v1.2.1.1:List (Val (.int .i64))).length:Int)=(4:Int))),()))else (some (false,())))else (some (false,())))else (bif (decide ((v1.1:Int)=(1:Int)))then (chk (qb9 v0 (v1.2.2.1:ByteArray)) (bif (!(decide ((v1.2.2.2.2.2.1:Int)=(0:Int))))then (some (false,()))else (bif (decide (((qT v0 (v1.2.2.1:ByteArray)):Int)<(0:Int)))then (some (false,()))else (chk (0≤((qT v0 (v1.2.2.1:ByteArray)):Int)∧((qT v0 (v1.2.2.1:ByteArray)):Int)<(v0.length:Int)) (bif (!(decide ((((v0.getD (((qT v0 (v1.2.2.1:ByteArray)):Int).toNat) (qa qf)).2).1:Int)=((v1.2.2.2.2.1:List (Val (.int .i64))).length:Int))))then (some (false,()))else (bif (!(ByteArray.toList (v1.2.2.2.1:ByteArray)==ByteArray.toList (ByteArray.mk #[])))then (bif (!((qgp (v1.2.2.2.1:ByteArray)):Bool))then (some (false,()))else (qcz N (v1.2.2.2.2.1:List (Val (.int .i64))) ((v1.2.2.2.2.1:List (Val (.int .i64))).length:Int) (fun (_:Unit)=>some (true,())) N (0:Int)))else (qcz N (v1.2.2.2.2.1:List (Val (.int .i64))) ((v1.2.2.2.2.1:List (Val (.int .i64))).length:Int) (fun (_:Unit)=>some (true,())) N (0:Int))))))))else (bif (decide ((v1.1:Int)=(5:Int)))then (some (((q3 (v1.2.2.2.2.2.1:Int)):Bool),()))else (bif (decide ((v1.1:Int)=(6:Int)))then (some (((q3 (v1.2.2.2.2.2.1:Int)):Bool),()))else (some ((decide ((v1.2.2.2.2.2.1:Int)=(0:Int))),()))))))))else (bif (!(decide ((v1.1:Int)=(1:Int))))then (bif (!(ByteArray.toList (v1.2.2.1:ByteArray)==ByteArray.toList (ByteArray.mk #[])))then (some (false,()))else (bif (!(ByteArray.toList (v1.2.2.2.1:ByteArray)==ByteArray.toList (ByteArray.mk #[])))then (some (false,()))else (bif (decide ((0:Int)<((v1.2.2.2.2.1:List (Val (.int .i64))).length:Int)))then (some (false,()))else (bif (decide ((v1.1:Int)=(0:Int)))then (bif (decide ((v1.2.2.2.2.2.1:Int)=(0:Int)))then (bif ((qaF v1.2.1):Bool)then (some ((decide (((v1.2.1.1:List (Val (.int .i64))).length:Int)=(4:Int))),()))else (some (false,())))else (some (false,())))else (bif (decide ((v1.1:Int)=(1:Int)))then (chk (qb9 v0 (v1.2.2.1:ByteArray)) (bif (!(decide ((v1.2.2.2.2.2.1:Int)=(0:Int))))then (some (false,()))else (bif (decide (((qT v0 (v1.2.2.1:ByteArray)):Int)<(0:Int)))then (some (false,()))else (chk (0≤((qT v0 (v1.2.2.1:ByteArray)):Int)∧((qT v0 (v1.2.2.1:ByteArray)):Int)<(v0.length:Int)) (bif (!(decide ((((v0.getD (((qT v0 (v1.2.2.1:ByteArray)):Int).toNat) (qa qf)).2).1:Int)=((v1.2.2.2.2.1:List (Val (.int .i64))).length:Int))))then (some (false,()))else (bif (!(ByteArray.toList (v1.2.2.2.1:ByteArray)==ByteArray.toList (ByteArray.mk #[])))then (bif (!((qgp (v1.2.2.2.1:ByteArray)):Bool))then (some (false,()))else (qcz N (v1.2.2.2.2.1:List (Val (.int .i64))) ((v1.2.2.2.2.1:List (Val (.int .i64))).length:Int) (fun (_:Unit)=>some (true,())) N (0:Int)))else (qcz N (v1.2.2.2.2.1:List (Val (.int .i64))) ((v1.2.2.2.2.1:List (Val (.int .i64))).length:Int) (fun (_:Unit)=>some (true,())) N (0:Int))))))))else (bif (decide ((v1.1:Int)=(5:Int)))then (some (((q3 (v1.2.2.2.2.2.1:Int)):Bool),()))else (bif (decide ((v1.1:Int)=(6:Int)))then (some (((q3 (v1.2.2.2.2.2.1:Int)):Bool),()))else (some ((decide ((v1.2.2.2.2.2.1:Int)=(0:Int))),())))))))))else (bif (decide ((v1.1:Int)=(0:Int)))then (bif (decide ((v1.2.2.2.2.2.1:Int)=(0:Int)))then (bif ((qaF v1.2.1):Bool)then (some ((decide (((v1.2.1.1:List (Val (.int .i64))).length:Int)=(4:Int))),()))else (some (false,())))else (some (false,())))else (bif (decide ((v1.1:Int)=(1:Int)))then (chk (qb9 v0 (v1.2.2.1:ByteArray)) (bif (!(decide ((v1.2.2.2.2.2.1:Int)=(0:Int))))then (some (false,()))else (bif (decide (((qT v0 (v1.2.2.1:ByteArray)):Int)<(0:Int)))then (some (false,()))else (chk (0≤((qT v0 (v1.2.2.1:ByteArray)):Int)∧((qT v0 (v1.2.2.1:ByteArray)):Int)<(v0.length:Int)) (bif (!(decide ((((v0.getD (((qT v0 (v1.2.2.1:ByteArray)):Int).toNat) (qa qf)).2).1:Int)=((v1.2.2.2.2.1:List (Val (.int .i64))).length:Int))))then (some (false,()))else (bif (!(ByteArray.toList (v1.2.2.2.1:ByteArray)==ByteArray.toList (ByteArray.mk #[])))then (bif (!((qgp (v1.2.2.2.1:ByteArray)):Bool))then (some (false,()))else (qcz N (v1.2.2.2.2.1:List (Val (.int .i64))) ((v1.2.2.2.2.1:List (Val (.int .i64))).length:Int) (fun (_:Unit)=>some (true,())) N (0:Int)))else (qcz N (v1.2.2.2.2.1:List (Val (.int .i64))) ((v1.2.2.2.2.1:List (Val (.int .i64))).length:Int) (fun (_:Unit)=>some (true,())) N (0:Int))))))))else (bif (decide ((v1.1:Int)=(5:Int)))then (some (((q3 (v1.2.2.2.2.2.1:Int)):Bool),()))else (bif (decide ((v1.1:Int)=(6:Int)))then (some (((q3 (v1.2.2.2.2.2.1:Int)):Bool),()))else (some ((decide ((v1.2.2.2.2.2.1:Int)=(0:Int))),())))))))
def qfq:Gam:=[(44,g44),(93,g93),(146,qe5),(147,qku),(148,qe0)]
theorem qwv:Gam.get qfq 44=some g44:=rfl
theorem qC1:Gam.get qfq 93=some g93:=rfl
theorem qB6:Gam.get qfq 146=some qe5:=rfl
theorem qy3:Gam.get qfq 147=some qku:=rfl
theorem qDp:Gam.get qfq 148=some qe0:=rfl
def qmW:Nm:=⟨[false,false,false,false,false,false,false,false,false,false,false,false,false,false,false,false,false,false,false,false,false,false,false,false,false,false,false,false,false,false,false,false,false,false,false,false,false,false,false,false,false,false,false,false,false,false,false,false,false,false,false,false,false,false,false,false,false,false,false,false,false,false,false,false,false,false,false,false,false,false,false,false,false,false,false,false,false,false,false,false,false,false,false,false,false,false,false,false,false,false,false,true,true,true],[],false⟩
theorem qzQ:qmW.zero=false:=rfl
theorem qwn:qmW.fix=[]:=rfl
theorem qwb:qmW.keep=[false,false,false,false,false,false,false,false,false,false,false,false,false,false,false,false,false,false,false,false,false,false,false,false,false,false,false,false,false,false,false,false,false,false,false,false,false,false,false,false,false,false,false,false,false,false,false,false,false,false,false,false,false,false,false,false,false,false,false,false,false,false,false,false,false,false,false,false,false,false,false,false,false,false,false,false,false,false,false,false,false,false,false,false,false,false,false,false,false,false,false,true,true,true]:=rfl
def qq9:Nm:=⟨[],[],false⟩
theorem qAm:qq9.zero=false:=rfl
theorem qB5:qq9.fix=[]:=rfl
theorem qzU:qq9.keep=[]:=rfl
def qj9:Nat→Tree:=fun i=>if i=10 then .quiet 0 (.quiet 1 (.quiet 2 (.quiet 3 (.quiet 4 (.quiet 5 (.quiet 6 (.quiet 7 (.quiet 8 (.quiet 9 (.quiet 10 (.quiet 11 (.quiet 12 (.quiet 13 (.quiet 14 (.quiet 15 (.quiet 16 (.quiet 17 (.quiet 18 (.quiet 19 (.quiet 20 (.quiet 21 (.quiet 22 (.quiet 23 (.quiet 24 (.alt 25 (.quiet 26 (.quiet 27 (.quiet 28 .done))) .stop)))))))))))))))))))))))))else .done
def qmy:Nat→Nm:=fun i=>if i=13 then qmW else ⟨[],[],false⟩
def qoS:Nat→Option Jn:=fun _=>none
def qlR:Nat→Option Nm:=fun i=>if i=1 then some qq9 else none
def qn8:Nat→Option Nm:=fun _=>none
theorem qQg:qn qj9 (Try.f121.body.getD .skip)=true:=by kernel_rfl
def qdh (N:Nat):Tab:={tr:=qj9,lp:=qmy,ex:=qlR,rg:=qn8,jn:=qoS,fuel:=N}
theorem qCu (N:Nat):(qdh N).pins=false:=rfl
theorem qVh (N:Nat):qp Try.prog (qdh N):=qw fun _=>rfl
theorem qyh (N:Nat) (i:Nat):(qdh N).tr i=qj9 i:=rfl
theorem qBt (N:Nat) (i:Nat):(qdh N).lp i=qmy i:=rfl
theorem qEM (N:Nat) (i:Nat):(qdh N).ex i=qlR i:=rfl
theorem qBH (N:Nat) (i:Nat):(qdh N).rg i=qn8 i:=rfl
theorem qAi (N:Nat) (i:Nat):(qdh N).jn i=qoS i:=rfl
theorem qx1 (N:Nat):(qdh N).fuel=N:=rfl
noncomputable def qGn:Code:=cut [true,true,true,false,true,true,true,true,true,false,true,true,false,true,true,true] (Try.f121.body.getD .skip)
theorem qPR {N:Nat} {Q:X→St→Option (qc [i4])} {e:List LV} {h:List Blk}:qe tt qfq (qdh N) qGn Q ⟨e,h⟩=qe tt qfq (qdh N) (cut [true,true,true,false,true,true,true,true,true,false,true,true,false,true,true,true] (Try.f121.body.getD .skip)) Q ⟨e,h⟩:=rfl
theorem qMI (N:Nat) (v2:List (Val (.int .i64))) (v3:Int) {k1:Unit→Option (qc [i4])} {Q:X→St→Option (qc [i4])} {c:Code} (hc:c=qGn) (hret: ∀st,Q .ret st=qI tt true [i4] [.tmp 4] st) (h1:Q (.exit 1) ⟨[u,u,u,u,u,u,u,u,u,u,u,u,u,u,u,u,u,u,u,u,u,u,u,u,u,u,u,u,u,u,u,u,u,u,u,u,u,u,u,u,u,u,u,u,u,u,u,u,u,u,u,u,u,u,u,u,u,u,u,u,u,u,u,u,u,u,u,u,u,u,u,u,u,u,u,u,u,u,u,u,u,u,u,u,u,u,u,u,u,u,u,u,u,u,u,u,u,u,u,u,u,u,u,u,u,u,u,u,u,u],[]⟩=k1 ()): ∀(n:Nat) (v4:Int),qC (qe tt qfq (qdh N) c) false qmW Q n ⟨[u,u,u,u,u,u,u,u,u,u,u,u,u,u,u,u,u,u,u,u,u,u,u,u,u,u,u,u,u,u,u,u,u,u,u,u,u,u,u,u,u,u,u,u,u,u,u,u,u,u,u,u,u,u,u,u,u,u,u,u,u,u,u,u,u,u,u,u,u,u,u,u,u,u,u,u,u,u,u,u,u,u,u,u,u,u,u,u,u,u,u,.one (.sl 3 (.int .i64) v2 0),.one (.int .i64 v3),.one (.int .i64 v4),u,u,u,u,u,u,u,u,u,u,u,u,u,u,u,u],[]⟩=qcz N v2 v3 k1 n v4:=by
 subst hc;intro n;induction n with
 | zero=>intros;rfl
 | succ n ih=>
   intro v4
   rw [qM,qPR,qcz];unfold Try.f121
   simp (maxSteps:=10000000) -implicitDefEqProofs [qyh,qj9,qBt,qmy,qEM,qlR,qBH,qn8,qAi,qoS,qx1,qCu,qwn,qwb,qzQ,qB5,qzU,qAm,qwv,qC1,qB6,qy3,qDp,g44,g93,qe5,qku,qe0,hret,h1,ih]
theorem qOr (N:Nat) (v0:List (Val qf)) (v1:Val qb):qe tt qfq (qdh N) (Try.f121.body.getD .skip) (qr tt true [i4] [.tmp 4]) (qv [i63,qcq] 110 (v0,v1,()))=qtb N v0 v1:=by
 unfold Try.f121
 simp (maxSteps:=10000000) -implicitDefEqProofs [qyh,qj9,qBt,qmy,qEM,qlR,qBH,qn8,qAi,qoS,qx1,qCu,qwn,qwb,qzQ,qB5,qzU,qAm,qwv,qC1,qB6,qy3,qDp,g44,g93,qe5,qku,qe0]
 rewrite [qMI (k1:=(fun (_:Unit)=>some (true,()))) N _ _ ?_ ?_ ?_]
 ·rewrite [qtb];first | rfl | simp (maxSteps:=10000000) -implicitDefEqProofs []
 ·rfl
 ·intro;simp only [qK,qL,qN,qm]
 ·simp (maxSteps:=10000000) -implicitDefEqProofs [qyh,qj9,qBt,qmy,qEM,qlR,qBH,qn8,qAi,qoS,qx1,qCu,qwn,qwb,qzQ,qB5,qzU,qAm,qwv,qC1,qB6,qy3,qDp,g44,g93,qe5,qku,qe0]
def qjM:G:={ps:=[i63,qcq],rs:=[i4],dp:=true,pre:=fun x=>qq4 x.1 x.2.1,fn:=fun x=>(qgB x.1 x.2.1,())}
def qjP:G:={ps:=[i63,qcq],rs:=[i4],dp:=true,pre:=fun x=>qsB x.1 x.2.1,fn:=fun x=>(qfA x.1 x.2.1,())}
end Go.T
