/- Formulas: nodes. -/
import Derived.Test.YtkjiecjpdbpghaaA6
import Derived.Test.YtkjiecjpdbpghaaH1
set_option linter.unusedSimpArgs false
set_option linter.unusedVariables false
namespace Go.T
open Go Go.Proofs
set_option maxHeartbeats 4000000
set_option maxRecDepth 100000
def qbZ (a:Val qf):Bool:=decide ((List.length (α:=Int) a.1:Int)=0)&&decide ((a.2.1:Int)=0)&& !a.2.2
def qce (k:Int):Int:=bif decide (k=0)||decide (k=1)then 0 else bif decide (k=2)||decide (k=5)||decide (k=6)then 1 else bif decide (k=3)||decide (k=4)then 2 else -1
def qL (v:Int):Bool:=decide (0≤v)&&decide (v<4)
noncomputable def ql7 (N:Nat) (v0:Val qf):Option (qa [i4]):=bif (decide (((v0.1:List (Val (.int .i64))).length:Int)=(0:Int)))then (bif (decide ((v0.2.1:Int)=(0:Int)))then (some ((!(v0.2.2:Bool)),()))else (some (false,())))else (some (false,()))
def qxl:Gam:=[]
def qlN:Nat→Tree:=fun _=> .done
def qtN:Nat→Nm:=fun _=>⟨[],[],false⟩
def qnS:Nat→Option Jn:=fun _=>none
def qu8:Nat→Option Nm:=fun _=>none
def qpf:Nat→Option Nm:=fun _=>none
theorem qDM:qm qlN (Try.f147.body.getD .skip)=true:=by kernel_rfl
def qcD (N:Nat):Tab:={tr:=qlN,lp:=qtN,ex:=qu8,rg:=qpf,jn:=qnS,fuel:=N}
theorem qAr (N:Nat):(qcD N).pins=false:=rfl
theorem qIP (N:Nat):qp Try.prog (qcD N):=qv fun _=>rfl
theorem qGU (N:Nat) (i:Nat):(qcD N).tr i=qlN i:=rfl
theorem qHc (N:Nat) (i:Nat):(qcD N).lp i=qtN i:=rfl
theorem qIB (N:Nat) (i:Nat):(qcD N).ex i=qu8 i:=rfl
theorem qI6 (N:Nat) (i:Nat):(qcD N).rg i=qpf i:=rfl
theorem qC3 (N:Nat) (i:Nat):(qcD N).jn i=qnS i:=rfl
theorem qAl (N:Nat):(qcD N).fuel=N:=rfl
theorem qCd (N:Nat) (v0:Val qf):qc tt qxl (qcD N) (Try.f147.body.getD .skip) (qn tt true [i4] [.tmp 2]) (qq [qar] 17 (v0,()))=ql7 N v0:=by
 rw [ql7];unfold Try.f147
 simp (maxSteps:=10000000) -implicitDefEqProofs [qGU,qlN,qHc,qtN,qIB,qu8,qI6,qpf,qC3,qnS,qAl,qAr]
 try rfl
noncomputable def qkj (N:Nat) (v0:Val qf):Option (qa [i4]):=bif (decide (((v0.1:List (Val (.int .i64))).length:Int)=(0:Int)))then (bif (decide ((v0.2.1:Int)=(0:Int)))then (some ((!(v0.2.2:Bool)),()))else (some (false,())))else (some (false,()))
def qwO:Gam:=[]
def qko:Nat→Tree:=fun _=> .done
def qoY:Nat→Nm:=fun _=>⟨[],[],false⟩
def qqq:Nat→Option Jn:=fun _=>none
def qoP:Nat→Option Nm:=fun _=>none
def qpo:Nat→Option Nm:=fun _=>none
theorem qDo:qm qko (Try.f146.body.getD .skip)=true:=by kernel_rfl
def qck (N:Nat):Tab:={tr:=qko,lp:=qoY,ex:=qoP,rg:=qpo,jn:=qqq,fuel:=N}
theorem qBJ (N:Nat):(qck N).pins=false:=rfl
theorem qAZ (N:Nat):qp Try.prog (qck N):=qv fun _=>rfl
theorem qGQ (N:Nat) (i:Nat):(qck N).tr i=qko i:=rfl
theorem qH9 (N:Nat) (i:Nat):(qck N).lp i=qoY i:=rfl
theorem qI5 (N:Nat) (i:Nat):(qck N).ex i=qoP i:=rfl
theorem qIk (N:Nat) (i:Nat):(qck N).rg i=qpo i:=rfl
theorem qHx (N:Nat) (i:Nat):(qck N).jn i=qqq i:=rfl
theorem qIz (N:Nat):(qck N).fuel=N:=rfl
theorem qEm (N:Nat) (v0:Val qf):qc tt qwO (qck N) (Try.f146.body.getD .skip) (qn tt true [i4] [.tmp 2]) (qq [qar] 17 (v0,()))=qkj N v0:=by
 rw [qkj];unfold Try.f146
 simp (maxSteps:=10000000) -implicitDefEqProofs [qGQ,qko,qH9,qoY,qI5,qoP,qIk,qpo,qHx,qqq,qIz,qBJ]
 try rfl
noncomputable def m98 (N:Nat) (v0:Int):Option (qa [i3]):=bif (decide (v0=(0:Int)))then (some ((0:Int),()))else (bif (decide (v0=(1:Int)))then (some ((0:Int),()))else (bif (decide (v0=(2:Int)))then (some ((1:Int),()))else (bif (decide (v0=(5:Int)))then (some ((1:Int),()))else (bif (decide (v0=(6:Int)))then (some ((1:Int),()))else (bif (decide (v0=(3:Int)))then (some ((2:Int),()))else (bif (decide (v0=(4:Int)))then (some ((2:Int),()))else (some ((-1:Int),()))))))))
def Γ98:Gam:=[]
def qjM:Nat→Tree:=fun _=> .done
def qmv:Nat→Nm:=fun _=>⟨[],[],false⟩
def qp5:Nat→Option Jn:=fun _=>none
def qqg:Nat→Option Nm:=fun _=>none
def qql:Nat→Option Nm:=fun _=>none
theorem p98:qm qjM (Try.f98.body.getD .skip)=true:=by kernel_rfl
def T98 (N:Nat):Tab:={tr:=qjM,lp:=qmv,ex:=qqg,rg:=qql,jn:=qp5,fuel:=N}
theorem qGG (N:Nat):(T98 N).pins=false:=rfl
theorem qFj (N:Nat):qp Try.prog (T98 N):=qv fun _=>rfl
theorem qCx (N:Nat) (i:Nat):(T98 N).tr i=qjM i:=rfl
theorem qAx (N:Nat) (i:Nat):(T98 N).lp i=qmv i:=rfl
theorem qG9 (N:Nat) (i:Nat):(T98 N).ex i=qqg i:=rfl
theorem qER (N:Nat) (i:Nat):(T98 N).rg i=qql i:=rfl
theorem qD7 (N:Nat) (i:Nat):(T98 N).jn i=qp5 i:=rfl
theorem qEw (N:Nat):(T98 N).fuel=N:=rfl
theorem qJD (N:Nat) (v0:Int):qc tt Γ98 (T98 N) (Try.f98.body.getD .skip) (qn tt true [i3] [.tmp 2]) (qq [i3] 14 (v0,()))=m98 N v0:=by
 rw [m98];unfold Try.f98
 simp (maxSteps:=10000000) -implicitDefEqProofs [qCx,qjM,qAx,qmv,qG9,qqg,qER,qql,qD7,qp5,qEw,qGG]
 try rfl
noncomputable def m69 (N:Nat) (v0:Int):Option (qa [i4]):=bif (decide ((0:Int)≤v0))then (some ((decide (v0<(4:Int))),()))else (some (false,()))
def Γ69:Gam:=[]
def qlS:Nat→Tree:=fun _=> .done
def qn6:Nat→Nm:=fun _=>⟨[],[],false⟩
def qwm:Nat→Option Jn:=fun _=>none
def qqx:Nat→Option Nm:=fun _=>none
def qqH:Nat→Option Nm:=fun _=>none
theorem p69:qm qlS (Try.f69.body.getD .skip)=true:=by kernel_rfl
def T69 (N:Nat):Tab:={tr:=qlS,lp:=qn6,ex:=qqx,rg:=qqH,jn:=qwm,fuel:=N}
theorem qBf (N:Nat):(T69 N).pins=false:=rfl
theorem qJ3 (N:Nat):qp Try.prog (T69 N):=qv fun _=>rfl
theorem qDJ (N:Nat) (i:Nat):(T69 N).tr i=qlS i:=rfl
theorem qFO (N:Nat) (i:Nat):(T69 N).lp i=qn6 i:=rfl
theorem qAa (N:Nat) (i:Nat):(T69 N).ex i=qqx i:=rfl
theorem qHM (N:Nat) (i:Nat):(T69 N).rg i=qqH i:=rfl
theorem qIH (N:Nat) (i:Nat):(T69 N).jn i=qwm i:=rfl
theorem qJY (N:Nat):(T69 N).fuel=N:=rfl
theorem qDd (N:Nat) (v0:Int):qc tt Γ69 (T69 N) (Try.f69.body.getD .skip) (qn tt true [i4] [.tmp 2]) (qq [i3] 9 (v0,()))=m69 N v0:=by
 rw [m69];unfold Try.f69
 simp (maxSteps:=10000000) -implicitDefEqProofs [qDJ,qlS,qFO,qn6,qAa,qqx,qHM,qqH,qIH,qwm,qJY,qBf]
 try rfl
def qfZ:G:={ps:=[qar],rs:=[i4],dp:=true,pre:=fun _=>True,fn:=fun x=>(qbZ x.1,())}
def qav:G:={ps:=[qar],rs:=[i4],dp:=true,pre:=fun _=>True,fn:=fun x=>(qbZ x.1,())}
def g98:G:={ps:=[i3],rs:=[i3],dp:=true,pre:=fun _=>True,fn:=fun x=>(qce x.1,())}
def g69:G:={ps:=[i3],rs:=[i4],dp:=true,pre:=fun _=>True,fn:=fun x=>(qL x.1,())}
theorem qDN (a:Val qf): ∃N,ql7 N a=some (qbZ a,()):=⟨0,by
 rw [ql7,qbZ]
 cases decide ((List.length (α:=Int) a.1:Int)=0)<;>cases decide ((a.2.1:Int)=0)<;>rfl⟩
theorem qIn (a:Val qf): ∃N,qkj N a=some (qbZ a,()):=⟨0,by
 rw [qkj,qbZ]
 cases decide ((List.length (α:=Int) a.1:Int)=0)<;>cases decide ((a.2.1:Int)=0)<;>rfl⟩
theorem e98 (k:Int): ∃N,m98 N k=some (qce k,()):=⟨0,by
 rw [m98,qce]
 cases decide (k=0)<;>cases decide (k=1)<;>cases decide (k=2)<;>cases decide (k=3)<;>cases decide (k=4)<;>cases decide (k=5)<;>cases decide (k=6)<;>rfl⟩
theorem e69 (v:Int): ∃N,m69 N v=some (qL v,()):=⟨0,by
 rw [m69,qL]
 cases decide (0≤v)<;>rfl⟩
theorem qBy:Sound Try.prog 147 qfZ:=qu (tt:=tt) (Γ:=qxl) hT qt hm (fn:=Try.f147) Try.func147 (c:=Try.f147.body.getD .skip) (by kernel_rfl) (by kernel_rfl) fun x hx=>by
 obtain ⟨N,h⟩:=qDN x.1
 exact ⟨qcD N,qDM,qr _,qIP N,(qCd N x.1).trans h⟩
theorem qHD:Sound Try.prog 146 qav:=qu (tt:=tt) (Γ:=qwO) hT qt hm (fn:=Try.f146) Try.func146 (c:=Try.f146.body.getD .skip) (by kernel_rfl) (by kernel_rfl) fun x hx=>by
 obtain ⟨N,h⟩:=qIn x.1
 exact ⟨qck N,qDo,qr _,qAZ N,(qEm N x.1).trans h⟩
theorem s98:Sound Try.prog 98 g98:=qu (tt:=tt) (Γ:=Γ98) hT qt hm (fn:=Try.f98) Try.func98 (c:=Try.f98.body.getD .skip) (by kernel_rfl) (by kernel_rfl) fun x hx=>by
 obtain ⟨N,h⟩:=e98 x.1
 exact ⟨T98 N,p98,qr _,qFj N,(qJD N x.1).trans h⟩
theorem s69:Sound Try.prog 69 g69:=qu (tt:=tt) (Γ:=Γ69) hT qt hm (fn:=Try.f69) Try.func69 (c:=Try.f69.body.getD .skip) (by kernel_rfl) (by kernel_rfl) fun x hx=>by
 obtain ⟨N,h⟩:=e69 x.1
 exact ⟨T69 N,p69,qr _,qJ3 N,(qDd N x.1).trans h⟩
theorem qzx (v:Int):inR v 0 3=qL v:=by
 unfold inR qL
 by_cases h:0≤v
 ·by_cases h2:v<4
  ·rw [decide_eq_true h,decide_eq_true h2,decide_eq_true ⟨h,by omega⟩];rfl
  ·rw [decide_eq_true h,decide_eq_false h2,decide_eq_false (by omega)];rfl
 ·rw [decide_eq_false h,decide_eq_false (by omega)];rfl
def isE (s:ByteArray):Bool:=ByteArray.toList s==ByteArray.toList (ByteArray.mk #[])
def qeV (K:Int) (a:Val qf) (nm lb:ByteArray) (vs:List Int):Bool:=
 (decide (K=0)||qbZ a)&&(decide (K=1)||(isE nm&&isE lb&& !decide ((0:Int)<(vs.length:Int))))
def qfc (a:Val qf):Bool:=q4 a&&decide ((List.length (α:=Int) a.1:Int)=4)
def qjb (db:List (Val Y53)) (nm lb:ByteArray) (vs:List Int):Bool:=
 decide (0≤qA db nm)&&decide (((db.getD (qA db nm).toNat (qb Y53)).2.1:Int)=(vs.length:Int))&&(isE lb||qW lb 97 122)&&vs.all qL
def qlz (db:List (Val Y53)) (K:Int) (a:Val qf) (nm lb:ByteArray) (vs:List Int) (vr:Int):Bool:=
 bif decide (K=0)then decide (vr=0)&&qfc a else bif decide (K=1)then decide (vr=0)&&qjb db nm lb vs else bif decide (K=5)||decide (K=6)then qL vr else decide (vr=0)
def qdQ (db:List (Val Y53)) (n:Val qe):Bool:=qeV n.1 n.2.1 n.2.2.1 n.2.2.2.1 n.2.2.2.2.1&&qlz db n.1 n.2.1 n.2.2.1 n.2.2.2.1 n.2.2.2.2.1 n.2.2.2.2.2.1
def abN (K A B:Int):Bool:=bif decide (K=0)||decide (K=1)then decide (A=0)&&decide (B=0)else bif decide (K=2)||decide (K=5)||decide (K=6)then decide (B=0)else decide (K=3)||decide (K=4)
def qdX (db:List (Val Y53)) (n:Val qe):Bool:=qdQ db n&&abN n.1 n.2.2.2.2.2.2.1 n.2.2.2.2.2.2.2
def qkR (db:List (Val Y53)) (n:Val qe):Prop:=db.length≤1048576∧Bd qe n
def ql0 (db:List (Val Y53)) (n:Val qe):Prop:=db.length≤1048576∧Bd qe n
theorem qwW (nm:ByteArray): ∀(xs:List (Val Y53)) (i:Nat),qaj nm xs i<((i+xs.length:Nat):Int)
 | [],i=>by rw [qaj];omega
 | x::r,i=>by
   rw [qaj]
   have:=qwW nm r (i+1)
   cases ByteArray.toList x.1==ByteArray.toList nm with
   | true=>rw [cond_true,List.length_cons];omega
   | false=>rw [cond_false,List.length_cons];omega
theorem qyZ (db:List (Val Y53)) (nm:ByteArray):qA db nm<(db.length:Int):=by
 have:=qwW nm db 0
 unfold qA
 omega
theorem qlk (K:Int):K=0∨K=1∨K=2∨K=3∨K=4∨K=5∨K=6∨(¬K=0∧ ¬K=1∧ ¬K=2∧ ¬K=3∧ ¬K=4∧ ¬K=5∧ ¬K=6):=by omega
noncomputable def qaG (N:Nat) (v2:List (Val (.int .i64))) (v3:Int) (k1:Unit→Option (qa [i4])):Nat→Int→Option (qa [i4])
 | 0,_=>none
 | n+1,v4=>bif (decide (v4<v3))then (chk (0≤v4∧v4<(v2.length:Int)) (bif (!((qL ((v2.getD v4.toNat (qb (.int .i64))):Int)):Bool))then (some (false,()))else (qaG N v2 v3 k1 n (IntKind.i64.wrap (v4+(1:Int))))))else (k1 ())
noncomputable def m97 (N:Nat) (v0:List (Val Y53)) (v1:Val qe):Option (qa [i4]):=bif (!(decide ((v1.1:Int)=(0:Int))))then (bif (!((qbZ v1.2.1):Bool))then (some (false,()))else (bif (!(decide ((v1.1:Int)=(1:Int))))then (bif (!(ByteArray.toList (v1.2.2.1:ByteArray)==ByteArray.toList (ByteArray.mk #[])))then (some (false,()))else (bif (!(ByteArray.toList (v1.2.2.2.1:ByteArray)==ByteArray.toList (ByteArray.mk #[])))then (some (false,()))else (bif (decide ((0:Int)<((v1.2.2.2.2.1:List (Val (.int .i64))).length:Int)))then (some (false,()))else (bif (decide ((v1.1:Int)=(0:Int)))then (bif (decide ((v1.2.2.2.2.2.1:Int)=(0:Int)))then (bif ((q4 v1.2.1):Bool)then (some ((decide (((v1.2.1.1:List (Val (.int .i64))).length:Int)=(4:Int))),()))else (some (false,())))else (some (false,())))else (bif (decide ((v1.1:Int)=(1:Int)))then (chk (qan v0 (v1.2.2.1:ByteArray)) (bif (!(decide ((v1.2.2.2.2.2.1:Int)=(0:Int))))then (some (false,()))else (bif (decide (((qA v0 (v1.2.2.1:ByteArray)):Int)<(0:Int)))then (some (false,()))else (chk (0≤((qA v0 (v1.2.2.1:ByteArray)):Int)∧((qA v0 (v1.2.2.1:ByteArray)):Int)<(v0.length:Int)) (bif (!(decide ((((v0.getD (((qA v0 (v1.2.2.1:ByteArray)):Int).toNat) (qb Y53)).2).1:Int)=((v1.2.2.2.2.1:List (Val (.int .i64))).length:Int))))then (some (false,()))else (bif (!(ByteArray.toList (v1.2.2.2.1:ByteArray)==ByteArray.toList (ByteArray.mk #[])))then (bif (!((qcW (v1.2.2.2.1:ByteArray)):Bool))then (some (false,()))else (qaG N (v1.2.2.2.2.1:List (Val (.int .i64))) ((v1.2.2.2.2.1:List (Val (.int .i64))).length:Int) (fun (_:Unit)=>some (true,())) N (0:Int)))else (qaG N (v1.2.2.2.2.1:List (Val (.int .i64))) ((v1.2.2.2.2.1:List (Val (.int .i64))).length:Int) (fun (_:Unit)=>some (true,())) N (0:Int))))))))else (bif (decide ((v1.1:Int)=(5:Int)))then (some (((qL (v1.2.2.2.2.2.1:Int)):Bool),()))else (bif (decide ((v1.1:Int)=(6:Int)))then (some (((qL (v1.2.2.2.2.2.1:Int)):Bool),()))else (some ((decide ((v1.2.2.2.2.2.1:Int)=(0:Int))),())))))))))else (bif (decide ((v1.1:Int)=(0:Int)))then (bif (decide ((v1.2.2.2.2.2.1:Int)=(0:Int)))then (bif ((q4 v1.2.1):Bool)then (some ((decide (((v1.2.1.1:List (Val (.int .i64))).length:Int)=(4:Int))),()))else (some (false,())))else (some (false,())))else (bif (decide ((v1.1:Int)=(1:Int)))then (chk (qan v0 (v1.2.2.1:ByteArray)) (bif (!(decide ((v1.2.2.2.2.2.1:Int)=(0:Int))))then (some (false,()))else (bif (decide (((qA v0 (v1.2.2.1:ByteArray)):Int)<(0:Int)))then (some (false,()))else (chk (0≤((qA v0 (v1.2.2.1:ByteArray)):Int)∧((qA v0 (v1.2.2.1:ByteArray)):Int)<(v0.length:Int)) (bif (!(decide ((((v0.getD (((qA v0 (v1.2.2.1:ByteArray)):Int).toNat) (qb Y53)).2).1:Int)=((v1.2.2.2.2.1:List (Val (.int .i64))).length:Int))))then (some (false,()))else (bif (!(ByteArray.toList (v1.2.2.2.1:ByteArray)==ByteArray.toList (ByteArray.mk #[])))then (bif (!((qcW (v1.2.2.2.1:ByteArray)):Bool))then (some (false,()))else (qaG N (v1.2.2.2.2.1:List (Val (.int .i64))) ((v1.2.2.2.2.1:List (Val (.int .i64))).length:Int) (fun (_:Unit)=>some (true,())) N (0:Int)))else (qaG N (v1.2.2.2.2.1:List (Val (.int .i64))) ((v1.2.2.2.2.1:List (Val (.int .i64))).length:Int) (fun (_:Unit)=>some (true,())) N (0:Int))))))))else (bif (decide ((v1.1:Int)=(5:Int)))then (some (((qL (v1.2.2.2.2.2.1:Int)):Bool),()))else (bif (decide ((v1.1:Int)=(6:Int)))then (some (((qL (v1.2.2.2.2.2.1:Int)):Bool),()))else (some ((decide ((v1.2.2.2.2.2.1:Int)=(0:Int))),()))))))))else (bif (!(decide ((v1.1:Int)=(1:Int))))then (bif (!(ByteArray.toList (v1.2.2.1:ByteArray)==ByteArray.toList (ByteArray.mk #[])))then (some (false,()))else (bif (!(ByteArray.toList (v1.2.2.2.1:ByteArray)==ByteArray.toList (ByteArray.mk #[])))then (some (false,()))else (bif (decide ((0:Int)<((v1.2.2.2.2.1:List (Val (.int .i64))).length:Int)))then (some (false,()))else (bif (decide ((v1.1:Int)=(0:Int)))then (bif (decide ((v1.2.2.2.2.2.1:Int)=(0:Int)))then (bif ((q4 v1.2.1):Bool)then (some ((decide (((v1.2.1.1:List (Val (.int .i64))).length:Int)=(4:Int))),()))else (some (false,())))else (some (false,())))else (bif (decide ((v1.1:Int)=(1:Int)))then (chk (qan v0 (v1.2.2.1:ByteArray)) (bif (!(decide ((v1.2.2.2.2.2.1:Int)=(0:Int))))then (some (false,()))else (bif (decide (((qA v0 (v1.2.2.1:ByteArray)):Int)<(0:Int)))then (some (false,()))else (chk (0≤((qA v0 (v1.2.2.1:ByteArray)):Int)∧((qA v0 (v1.2.2.1:ByteArray)):Int)<(v0.length:Int)) (bif (!(decide ((((v0.getD (((qA v0 (v1.2.2.1:ByteArray)):Int).toNat) (qb Y53)).2).1:Int)=((v1.2.2.2.2.1:List (Val (.int .i64))).length:Int))))then (some (false,()))else (bif (!(ByteArray.toList (v1.2.2.2.1:ByteArray)==ByteArray.toList (ByteArray.mk #[])))then (bif (!((qcW (v1.2.2.2.1:ByteArray)):Bool))then (some (false,()))else (qaG N (v1.2.2.2.2.1:List (Val (.int .i64))) ((v1.2.2.2.2.1:List (Val (.int .i64))).length:Int) (fun (_:Unit)=>some (true,())) N (0:Int)))else (qaG N (v1.2.2.2.2.1:List (Val (.int .i64))) ((v1.2.2.2.2.1:List (Val (.int .i64))).length:Int) (fun (_:Unit)=>some (true,())) N (0:Int))))))))else (bif (decide ((v1.1:Int)=(5:Int)))then (some (((qL (v1.2.2.2.2.2.1:Int)):Bool),()))else (bif (decide ((v1.1:Int)=(6:Int)))then (some (((qL (v1.2.2.2.2.2.1:Int)):Bool),()))else (some ((decide ((v1.2.2.2.2.2.1:Int)=(0:Int))),())))))))))else (bif (decide ((v1.1:Int)=(0:Int)))then (bif (decide ((v1.2.2.2.2.2.1:Int)=(0:Int)))then (bif ((q4 v1.2.1):Bool)then (some ((decide (((v1.2.1.1:List (Val (.int .i64))).length:Int)=(4:Int))),()))else (some (false,())))else (some (false,())))else (bif (decide ((v1.1:Int)=(1:Int)))then (chk (qan v0 (v1.2.2.1:ByteArray)) (bif (!(decide ((v1.2.2.2.2.2.1:Int)=(0:Int))))then (some (false,()))else (bif (decide (((qA v0 (v1.2.2.1:ByteArray)):Int)<(0:Int)))then (some (false,()))else (chk (0≤((qA v0 (v1.2.2.1:ByteArray)):Int)∧((qA v0 (v1.2.2.1:ByteArray)):Int)<(v0.length:Int)) (bif (!(decide ((((v0.getD (((qA v0 (v1.2.2.1:ByteArray)):Int).toNat) (qb Y53)).2).1:Int)=((v1.2.2.2.2.1:List (Val (.int .i64))).length:Int))))then (some (false,()))else (bif (!(ByteArray.toList (v1.2.2.2.1:ByteArray)==ByteArray.toList (ByteArray.mk #[])))then (bif (!((qcW (v1.2.2.2.1:ByteArray)):Bool))then (some (false,()))else (qaG N (v1.2.2.2.2.1:List (Val (.int .i64))) ((v1.2.2.2.2.1:List (Val (.int .i64))).length:Int) (fun (_:Unit)=>some (true,())) N (0:Int)))else (qaG N (v1.2.2.2.2.1:List (Val (.int .i64))) ((v1.2.2.2.2.1:List (Val (.int .i64))).length:Int) (fun (_:Unit)=>some (true,())) N (0:Int))))))))else (bif (decide ((v1.1:Int)=(5:Int)))then (some (((qL (v1.2.2.2.2.2.1:Int)):Bool),()))else (bif (decide ((v1.1:Int)=(6:Int)))then (some (((qL (v1.2.2.2.2.2.1:Int)):Bool),()))else (some ((decide ((v1.2.2.2.2.2.1:Int)=(0:Int))),())))))))
def Γ97:Gam:=[(16,g16),(69,g69),(78,g78),(130,qb6),(147,qfZ)]
theorem qmW:Gam.get Γ97 16=some g16:=rfl
theorem quk:Gam.get Γ97 69=some g69:=rfl
theorem qm2:Gam.get Γ97 78=some g78:=rfl
theorem qqb:Gam.get Γ97 130=some qb6:=rfl
theorem qwE:Gam.get Γ97 147=some qfZ:=rfl
def qiv:Nm:=⟨[false,false,false,false,false,false,false,false,false,false,false,false,false,false,false,false,false,false,false,false,false,false,false,false,false,false,false,false,false,false,false,false,false,false,false,false,false,false,false,false,false,false,false,false,false,false,false,false,false,false,false,false,false,false,false,false,false,false,false,false,false,false,false,false,false,false,false,false,false,false,false,false,false,false,false,false,false,false,false,false,false,false,false,false,false,false,false,false,false,false,false,true,true,true],[],false⟩
theorem qq1:qiv.zero=false:=rfl
theorem qnK:qiv.fix=[]:=rfl
theorem qsj:qiv.keep=[false,false,false,false,false,false,false,false,false,false,false,false,false,false,false,false,false,false,false,false,false,false,false,false,false,false,false,false,false,false,false,false,false,false,false,false,false,false,false,false,false,false,false,false,false,false,false,false,false,false,false,false,false,false,false,false,false,false,false,false,false,false,false,false,false,false,false,false,false,false,false,false,false,false,false,false,false,false,false,false,false,false,false,false,false,false,false,false,false,false,false,true,true,true]:=rfl
def qjX:Nm:=⟨[],[],false⟩
theorem qwk:qjX.zero=false:=rfl
theorem qm1:qjX.fix=[]:=rfl
theorem qrS:qjX.keep=[]:=rfl
def qex:Nat→Tree:=fun i=>if i=10 then .quiet 0 (.quiet 1 (.quiet 2 (.quiet 3 (.quiet 4 (.quiet 5 (.quiet 6 (.quiet 7 (.quiet 8 (.quiet 9 (.quiet 10 (.quiet 11 (.quiet 12 (.quiet 13 (.quiet 14 (.quiet 15 (.quiet 16 (.quiet 17 (.quiet 18 (.quiet 19 (.quiet 20 (.quiet 21 (.quiet 22 (.quiet 23 (.quiet 24 (.alt 25 (.quiet 26 (.quiet 27 (.quiet 28 .done))) .stop)))))))))))))))))))))))))else .done
def qjE:Nat→Nm:=fun i=>if i=13 then qiv else ⟨[],[],false⟩
def qgh:Nat→Option Jn:=fun _=>none
def qhc:Nat→Option Nm:=fun i=>if i=1 then some qjX else none
def qf9:Nat→Option Nm:=fun _=>none
theorem p97:qm qex (Try.f97.body.getD .skip)=true:=by kernel_rfl
def T97 (N:Nat):Tab:={tr:=qex,lp:=qjE,ex:=qhc,rg:=qf9,jn:=qgh,fuel:=N}
theorem qnv (N:Nat):(T97 N).pins=false:=rfl
theorem qEi (N:Nat):qp Try.prog (T97 N):=qv fun _=>rfl
theorem quE (N:Nat) (i:Nat):(T97 N).tr i=qex i:=rfl
theorem qty (N:Nat) (i:Nat):(T97 N).lp i=qjE i:=rfl
theorem qvg (N:Nat) (i:Nat):(T97 N).ex i=qhc i:=rfl
theorem qrx (N:Nat) (i:Nat):(T97 N).rg i=qf9 i:=rfl
theorem qqi (N:Nat) (i:Nat):(T97 N).jn i=qgh i:=rfl
theorem qoy (N:Nat):(T97 N).fuel=N:=rfl
noncomputable def qye:Code:=cut [true,true,true,false,true,true,true,true,true,false,true,true,false,true,true,true] (Try.f97.body.getD .skip)
theorem qF9 {N:Nat} {Q:X→St→Option (qa [i4])} {e:List LV} {h:List Blk}:qc tt Γ97 (T97 N) qye Q ⟨e,h⟩=qc tt Γ97 (T97 N) (cut [true,true,true,false,true,true,true,true,true,false,true,true,false,true,true,true] (Try.f97.body.getD .skip)) Q ⟨e,h⟩:=rfl
theorem qHr (N:Nat) (v2:List (Val (.int .i64))) (v3:Int) {k1:Unit→Option (qa [i4])} {Q:X→St→Option (qa [i4])} {c:Code} (hc:c=qye) (hret: ∀st,Q .ret st=qG tt true [i4] [.tmp 4] st) (h1:Q (.exit 1) ⟨[u,u,u,u,u,u,u,u,u,u,u,u,u,u,u,u,u,u,u,u,u,u,u,u,u,u,u,u,u,u,u,u,u,u,u,u,u,u,u,u,u,u,u,u,u,u,u,u,u,u,u,u,u,u,u,u,u,u,u,u,u,u,u,u,u,u,u,u,u,u,u,u,u,u,u,u,u,u,u,u,u,u,u,u,u,u,u,u,u,u,u,u,u,u,u,u,u,u,u,u,u,u,u,u,u,u,u,u,u,u],[]⟩=k1 ()): ∀(n:Nat) (v4:Int),qE (qc tt Γ97 (T97 N) c) false qiv Q n ⟨[u,u,u,u,u,u,u,u,u,u,u,u,u,u,u,u,u,u,u,u,u,u,u,u,u,u,u,u,u,u,u,u,u,u,u,u,u,u,u,u,u,u,u,u,u,u,u,u,u,u,u,u,u,u,u,u,u,u,u,u,u,u,u,u,u,u,u,u,u,u,u,u,u,u,u,u,u,u,u,u,u,u,u,u,u,u,u,u,u,u,u,.one (.sl 3 (.int .i64) v2 0),.one (.int .i64 v3),.one (.int .i64 v4),u,u,u,u,u,u,u,u,u,u,u,u,u,u,u,u],[]⟩=qaG N v2 v3 k1 n v4:=by
 subst hc;intro n;induction n with
 | zero=>intros;rfl
 | succ n ih=>
   intro v4
   rw [qP,qF9,qaG];unfold Try.f97
   simp (maxSteps:=10000000) -implicitDefEqProofs [quE,qex,qty,qjE,qvg,qhc,qrx,qf9,qqi,qgh,qoy,qnv,qnK,qsj,qq1,qm1,qrS,qwk,qmW,quk,qm2,qqb,qwE,g16,g69,g78,qb6,qfZ,hret,h1,ih]
theorem qB6 (N:Nat) (v0:List (Val Y53)) (v1:Val qe):qc tt Γ97 (T97 N) (Try.f97.body.getD .skip) (qn tt true [i4] [.tmp 4]) (qq [i25,qaJ] 110 (v0,v1,()))=m97 N v0 v1:=by
 unfold Try.f97
 simp (maxSteps:=10000000) -implicitDefEqProofs [quE,qex,qty,qjE,qvg,qhc,qrx,qf9,qqi,qgh,qoy,qnv,qnK,qsj,qq1,qm1,qrS,qwk,qmW,quk,qm2,qqb,qwE,g16,g69,g78,qb6,qfZ]
 rewrite [qHr (k1:=(fun (_:Unit)=>some (true,()))) N _ _ ?_ ?_ ?_]
 ·rewrite [m97];first | rfl | simp (maxSteps:=10000000) -implicitDefEqProofs []
 ·rfl
 ·intro;simp only [qN,qO,qQ,qM]
 ·simp (maxSteps:=10000000) -implicitDefEqProofs [quE,qex,qty,qjE,qvg,qhc,qrx,qf9,qqi,qgh,qoy,qnv,qnK,qsj,qq1,qm1,qrS,qwk,qmW,quk,qm2,qqb,qwE,g16,g69,g78,qb6,qfZ]
def g97:G:={ps:=[i25,qaJ],rs:=[i4],dp:=true,pre:=fun x=>qkR x.1 x.2.1,fn:=fun x=>(qdQ x.1 x.2.1,())}
def g95:G:={ps:=[i25,qaJ],rs:=[i4],dp:=true,pre:=fun x=>ql0 x.1 x.2.1,fn:=fun x=>(qdX x.1 x.2.1,())}
end Go.T
