/- Formulas: nodes. -/
import Derived.Test.YtlhkmndfkjlodaaA6
import Derived.Test.YtlhkmndfkjlodaaH1
set_option linter.unusedSimpArgs false
set_option linter.unusedVariables false
namespace Go.T
open Go Go.Proofs
set_option maxHeartbeats 4000000
set_option maxRecDepth 100000
def qcN (a:Val Y83):Bool:=decide ((List.length (α:=Int) a.1:Int)=0)&&decide ((a.2.1:Int)=0)&& !a.2.2
def qcf (k:Int):Int:=bif decide (k=0)||decide (k=1)then 0 else bif decide (k=2)||decide (k=5)||decide (k=6)then 1 else bif decide (k=3)||decide (k=4)then 2 else -1
def qaa (v:Int):Bool:=decide (0≤v)&&decide (v<4)
noncomputable def qst (N:Nat) (v0:Val Y83):Option (qc [i4]):=bif (decide (((v0.1:List (Val (.int .i64))).length:Int)=(0:Int)))then (bif (decide ((v0.2.1:Int)=(0:Int)))then (some ((!(v0.2.2:Bool)),()))else (some (false,())))else (some (false,()))
def qHK:Gam:=[]
def qr1:Nat→Tree:=fun _=> .done
def qCc:Nat→Nm:=fun _=>⟨[],[],false⟩
def quM:Nat→Option Jn:=fun _=>none
def qEG:Nat→Option Nm:=fun _=>none
def qwj:Nat→Option Nm:=fun _=>none
theorem qQh:qm qr1 (Try.f147.body.getD .skip)=true:=by kernel_rfl
def qfm (N:Nat):Tab:={tr:=qr1,lp:=qCc,ex:=qEG,rg:=qwj,jn:=quM,fuel:=N}
theorem qLx (N:Nat):(qfm N).pins=false:=rfl
theorem qXv (N:Nat):qn Try.prog (qfm N):=qt fun _=>rfl
theorem qUF (N:Nat) (i:Nat):(qfm N).tr i=qr1 i:=rfl
theorem qU5 (N:Nat) (i:Nat):(qfm N).lp i=qCc i:=rfl
theorem qXc (N:Nat) (i:Nat):(qfm N).ex i=qEG i:=rfl
theorem qXO (N:Nat) (i:Nat):(qfm N).rg i=qwj i:=rfl
theorem qPs (N:Nat) (i:Nat):(qfm N).jn i=quM i:=rfl
theorem qLq (N:Nat):(qfm N).fuel=N:=rfl
theorem qOm (N:Nat) (v0:Val Y83):qf tt qHK (qfm N) (Try.f147.body.getD .skip) (qo tt true [i4] [.tmp 2]) (qv [i83] 17 (v0,()))=qst N v0:=by
 rw [qst];unfold Try.f147
 simp (maxSteps:=10000000) -implicitDefEqProofs [qUF,qr1,qU5,qCc,qXc,qEG,qXO,qwj,qPs,quM,qLq,qLx]
 try rfl
noncomputable def qrp (N:Nat) (v0:Val Y83):Option (qc [i4]):=bif (decide (((v0.1:List (Val (.int .i64))).length:Int)=(0:Int)))then (bif (decide ((v0.2.1:Int)=(0:Int)))then (some ((!(v0.2.2:Bool)),()))else (some (false,())))else (some (false,()))
def qKE:Gam:=[]
def qpv:Nat→Tree:=fun _=> .done
def qDN:Nat→Nm:=fun _=>⟨[],[],false⟩
def qDF:Nat→Option Jn:=fun _=>none
def qBX:Nat→Option Nm:=fun _=>none
def qxT:Nat→Option Nm:=fun _=>none
theorem qX6:qm qpv (Try.f142.body.getD .skip)=true:=by kernel_rfl
def qe6 (N:Nat):Tab:={tr:=qpv,lp:=qDN,ex:=qBX,rg:=qxT,jn:=qDF,fuel:=N}
theorem qPC (N:Nat):(qe6 N).pins=false:=rfl
theorem qQ4 (N:Nat):qn Try.prog (qe6 N):=qt fun _=>rfl
theorem qVO (N:Nat) (i:Nat):(qe6 N).tr i=qpv i:=rfl
theorem qYp (N:Nat) (i:Nat):(qe6 N).lp i=qDN i:=rfl
theorem qKU (N:Nat) (i:Nat):(qe6 N).ex i=qBX i:=rfl
theorem qTM (N:Nat) (i:Nat):(qe6 N).rg i=qxT i:=rfl
theorem qXt (N:Nat) (i:Nat):(qe6 N).jn i=qDF i:=rfl
theorem qOI (N:Nat):(qe6 N).fuel=N:=rfl
theorem qO0 (N:Nat) (v0:Val Y83):qf tt qKE (qe6 N) (Try.f142.body.getD .skip) (qo tt true [i4] [.tmp 2]) (qv [i83] 17 (v0,()))=qrp N v0:=by
 rw [qrp];unfold Try.f142
 simp (maxSteps:=10000000) -implicitDefEqProofs [qVO,qpv,qYp,qDN,qKU,qBX,qTM,qxT,qXt,qDF,qOI,qPC]
 try rfl
noncomputable def qpk (N:Nat) (v0:Int):Option (qc [i3]):=bif (decide (v0=(0:Int)))then (some ((0:Int),()))else (bif (decide (v0=(1:Int)))then (some ((0:Int),()))else (bif (decide (v0=(2:Int)))then (some ((1:Int),()))else (bif (decide (v0=(5:Int)))then (some ((1:Int),()))else (bif (decide (v0=(6:Int)))then (some ((1:Int),()))else (bif (decide (v0=(3:Int)))then (some ((2:Int),()))else (bif (decide (v0=(4:Int)))then (some ((2:Int),()))else (some ((-1:Int),()))))))))
def qIs:Gam:=[]
def qrf:Nat→Tree:=fun _=> .done
def qvl:Nat→Nm:=fun _=>⟨[],[],false⟩
def qz4:Nat→Option Jn:=fun _=>none
def qs3:Nat→Option Nm:=fun _=>none
def qwX:Nat→Option Nm:=fun _=>none
theorem qVd:qm qrf (Try.f122.body.getD .skip)=true:=by kernel_rfl
def qe5 (N:Nat):Tab:={tr:=qrf,lp:=qvl,ex:=qs3,rg:=qwX,jn:=qz4,fuel:=N}
theorem qVZ (N:Nat):(qe5 N).pins=false:=rfl
theorem qTy (N:Nat):qn Try.prog (qe5 N):=qt fun _=>rfl
theorem qVu (N:Nat) (i:Nat):(qe5 N).tr i=qrf i:=rfl
theorem qWj (N:Nat) (i:Nat):(qe5 N).lp i=qvl i:=rfl
theorem qLe (N:Nat) (i:Nat):(qe5 N).ex i=qs3 i:=rfl
theorem qSW (N:Nat) (i:Nat):(qe5 N).rg i=qwX i:=rfl
theorem qYc (N:Nat) (i:Nat):(qe5 N).jn i=qz4 i:=rfl
theorem qR7 (N:Nat):(qe5 N).fuel=N:=rfl
theorem qPH (N:Nat) (v0:Int):qf tt qIs (qe5 N) (Try.f122.body.getD .skip) (qo tt true [i3] [.tmp 2]) (qv [i3] 14 (v0,()))=qpk N v0:=by
 rw [qpk];unfold Try.f122
 simp (maxSteps:=10000000) -implicitDefEqProofs [qVu,qrf,qWj,qvl,qLe,qs3,qSW,qwX,qYc,qz4,qR7,qVZ]
 try rfl
noncomputable def m44 (N:Nat) (v0:Int):Option (qc [i4]):=bif (decide ((0:Int)≤v0))then (some ((decide (v0<(4:Int))),()))else (some (false,()))
def Γ44:Gam:=[]
def qoV:Nat→Tree:=fun _=> .done
def qBI:Nat→Nm:=fun _=>⟨[],[],false⟩
def qAh:Nat→Option Jn:=fun _=>none
def qzw:Nat→Option Nm:=fun _=>none
def qE8:Nat→Option Nm:=fun _=>none
theorem p44:qm qoV (Try.f44.body.getD .skip)=true:=by kernel_rfl
def T44 (N:Nat):Tab:={tr:=qoV,lp:=qBI,ex:=qzw,rg:=qE8,jn:=qAh,fuel:=N}
theorem qR4 (N:Nat):(T44 N).pins=false:=rfl
theorem qYy (N:Nat):qn Try.prog (T44 N):=qt fun _=>rfl
theorem qS7 (N:Nat) (i:Nat):(T44 N).tr i=qoV i:=rfl
theorem qZk (N:Nat) (i:Nat):(T44 N).lp i=qBI i:=rfl
theorem qW3 (N:Nat) (i:Nat):(T44 N).ex i=qzw i:=rfl
theorem qVn (N:Nat) (i:Nat):(T44 N).rg i=qE8 i:=rfl
theorem qSg (N:Nat) (i:Nat):(T44 N).jn i=qAh i:=rfl
theorem qTb (N:Nat):(T44 N).fuel=N:=rfl
theorem qV7 (N:Nat) (v0:Int):qf tt Γ44 (T44 N) (Try.f44.body.getD .skip) (qo tt true [i4] [.tmp 2]) (qv [i3] 9 (v0,()))=m44 N v0:=by
 rw [m44];unfold Try.f44
 simp (maxSteps:=10000000) -implicitDefEqProofs [qS7,qoV,qZk,qBI,qW3,qzw,qVn,qE8,qSg,qAh,qTb,qR4]
 try rfl
def qjR:G:={ps:=[i83],rs:=[i4],dp:=true,pre:=fun _=>True,fn:=fun x=>(qcN x.1,())}
def qcx:G:={ps:=[i83],rs:=[i4],dp:=true,pre:=fun _=>True,fn:=fun x=>(qcN x.1,())}
def qfw:G:={ps:=[i3],rs:=[i3],dp:=true,pre:=fun _=>True,fn:=fun x=>(qcf x.1,())}
def g44:G:={ps:=[i3],rs:=[i4],dp:=true,pre:=fun _=>True,fn:=fun x=>(qaa x.1,())}
theorem qQi (a:Val Y83): ∃N,qst N a=some (qcN a,()):=⟨0,by
 rw [qst,qcN]
 cases decide ((List.length (α:=Int) a.1:Int)=0)<;>cases decide ((a.2.1:Int)=0)<;>rfl⟩
theorem qQt (a:Val Y83): ∃N,qrp N a=some (qcN a,()):=⟨0,by
 rw [qrp,qcN]
 cases decide ((List.length (α:=Int) a.1:Int)=0)<;>cases decide ((a.2.1:Int)=0)<;>rfl⟩
theorem qTE (k:Int): ∃N,qpk N k=some (qcf k,()):=⟨0,by
 rw [qpk,qcf]
 cases decide (k=0)<;>cases decide (k=1)<;>cases decide (k=2)<;>cases decide (k=3)<;>cases decide (k=4)<;>cases decide (k=5)<;>cases decide (k=6)<;>rfl⟩
theorem e44 (v:Int): ∃N,m44 N v=some (qaa v,()):=⟨0,by
 rw [m44,qaa]
 cases decide (0≤v)<;>rfl⟩
theorem qNk:Sound Try.prog 147 qjR:=qz (tt:=tt) (Γ:=qHK) hT qp hm (fn:=Try.f147) Try.func147 (c:=Try.f147.body.getD .skip) (by kernel_rfl) (by kernel_rfl) fun x hx=>by
 obtain ⟨N,h⟩:=qQi x.1
 exact ⟨qfm N,qQh,qx _,qXv N,(qOm N x.1).trans h⟩
theorem qND:Sound Try.prog 142 qcx:=qz (tt:=tt) (Γ:=qKE) hT qp hm (fn:=Try.f142) Try.func142 (c:=Try.f142.body.getD .skip) (by kernel_rfl) (by kernel_rfl) fun x hx=>by
 obtain ⟨N,h⟩:=qQt x.1
 exact ⟨qe6 N,qX6,qx _,qQ4 N,(qO0 N x.1).trans h⟩
theorem qKn:Sound Try.prog 122 qfw:=qz (tt:=tt) (Γ:=qIs) hT qp hm (fn:=Try.f122) Try.func122 (c:=Try.f122.body.getD .skip) (by kernel_rfl) (by kernel_rfl) fun x hx=>by
 obtain ⟨N,h⟩:=qTE x.1
 exact ⟨qe5 N,qVd,qx _,qTy N,(qPH N x.1).trans h⟩
theorem s44:Sound Try.prog 44 g44:=qz (tt:=tt) (Γ:=Γ44) hT qp hm (fn:=Try.f44) Try.func44 (c:=Try.f44.body.getD .skip) (by kernel_rfl) (by kernel_rfl) fun x hx=>by
 obtain ⟨N,h⟩:=e44 x.1
 exact ⟨T44 N,p44,qx _,qYy N,(qV7 N x.1).trans h⟩
theorem qKr (v:Int):inR v 0 3=qaa v:=by
 unfold inR qaa
 by_cases h:0≤v
 ·by_cases h2:v<4
  ·rw [decide_eq_true h,decide_eq_true h2,decide_eq_true ⟨h,by omega⟩];rfl
  ·rw [decide_eq_true h,decide_eq_false h2,decide_eq_false (by omega)];rfl
 ·rw [decide_eq_false h,decide_eq_false (by omega)];rfl
def isE (s:ByteArray):Bool:=ByteArray.toList s==ByteArray.toList (ByteArray.mk #[])
def qg3 (K:Int) (a:Val Y83) (nm lb:ByteArray) (vs:List Int):Bool:=
 (decide (K=0)||qcN a)&&(decide (K=1)||(isE nm&&isE lb&& !decide ((0:Int)<(vs.length:Int))))
def qfF (a:Val Y83):Bool:=qai a&&decide ((List.length (α:=Int) a.1:Int)=4)
def qhL (db:List (Val qe)) (nm lb:ByteArray) (vs:List Int):Bool:=
 decide (0≤qU db nm)&&decide (((db.getD (qU db nm).toNat (qb qe)).2.1:Int)=(vs.length:Int))&&(isE lb||qau lb 97 122)&&vs.all qaa
def qhA (db:List (Val qe)) (K:Int) (a:Val Y83) (nm lb:ByteArray) (vs:List Int) (vr:Int):Bool:=
 bif decide (K=0)then decide (vr=0)&&qfF a else bif decide (K=1)then decide (vr=0)&&qhL db nm lb vs else bif decide (K=5)||decide (K=6)then qaa vr else decide (vr=0)
def qfA (db:List (Val qe)) (n:Val qa):Bool:=qg3 n.1 n.2.1 n.2.2.1 n.2.2.2.1 n.2.2.2.2.1&&qhA db n.1 n.2.1 n.2.2.1 n.2.2.2.1 n.2.2.2.2.1 n.2.2.2.2.2.1
def abN (K A B:Int):Bool:=bif decide (K=0)||decide (K=1)then decide (A=0)&&decide (B=0)else bif decide (K=2)||decide (K=5)||decide (K=6)then decide (B=0)else decide (K=3)||decide (K=4)
def qdy (db:List (Val qe)) (n:Val qa):Bool:=qfA db n&&abN n.1 n.2.2.2.2.2.2.1 n.2.2.2.2.2.2.2
def qqB (db:List (Val qe)) (n:Val qa):Prop:=db.length≤1048576∧Bd qa n
def qsj (db:List (Val qe)) (n:Val qa):Prop:=db.length≤1048576∧Bd qa n
theorem qHf (nm:ByteArray): ∀(xs:List (Val qe)) (i:Nat),qcg nm xs i<((i+xs.length:Nat):Int)
 | [],i=>by rw [qcg];omega
 | x::r,i=>by
   rw [qcg]
   have:=qHf nm r (i+1)
   cases ByteArray.toList x.1==ByteArray.toList nm with
   | true=>rw [cond_true,List.length_cons];omega
   | false=>rw [cond_false,List.length_cons];omega
theorem qJS (db:List (Val qe)) (nm:ByteArray):qU db nm<(db.length:Int):=by
 have:=qHf nm db 0
 unfold qU
 omega
theorem qjb (K:Int):K=0∨K=1∨K=2∨K=3∨K=4∨K=5∨K=6∨(¬K=0∧ ¬K=1∧ ¬K=2∧ ¬K=3∧ ¬K=4∧ ¬K=5∧ ¬K=6):=by omega
noncomputable def qcJ (N:Nat) (v2:List (Val (.int .i64))) (v3:Int) (k1:Unit→Option (qc [i4])):Nat→Int→Option (qc [i4])
 | 0,_=>none
 | n+1,v4=>bif (decide (v4<v3))then (chk (0≤v4∧v4<(v2.length:Int)) (bif (!((qaa ((v2.getD v4.toNat (qb (.int .i64))):Int)):Bool))then (some (false,()))else (qcJ N v2 v3 k1 n (IntKind.i64.wrap (v4+(1:Int))))))else (k1 ())
noncomputable def qsX (N:Nat) (v0:List (Val qe)) (v1:Val qa):Option (qc [i4]):=bif (!(decide ((v1.1:Int)=(0:Int))))then (bif (!((qcN v1.2.1):Bool))then (some (false,()))else (bif (!(decide ((v1.1:Int)=(1:Int))))then (bif (!(ByteArray.toList (v1.2.2.1:ByteArray)==ByteArray.toList (ByteArray.mk #[])))then (some (false,()))else (bif (!(ByteArray.toList (v1.2.2.2.1:ByteArray)==ByteArray.toList (ByteArray.mk #[])))then (some (false,()))else (bif (decide ((0:Int)<((v1.2.2.2.2.1:List (Val (.int .i64))).length:Int)))then (some (false,()))else (bif (decide ((v1.1:Int)=(0:Int)))then (bif (decide ((v1.2.2.2.2.2.1:Int)=(0:Int)))then (bif ((qai v1.2.1):Bool)then (some ((decide (((v1.2.1.1:List (Val (.int .i64))).length:Int)=(4:Int))),()))else (some (false,())))else (some (false,())))else (bif (decide ((v1.1:Int)=(1:Int)))then (chk (qck v0 (v1.2.2.1:ByteArray)) (bif (!(decide ((v1.2.2.2.2.2.1:Int)=(0:Int))))then (some (false,()))else (bif (decide (((qU v0 (v1.2.2.1:ByteArray)):Int)<(0:Int)))then (some (false,()))else (chk (0≤((qU v0 (v1.2.2.1:ByteArray)):Int)∧((qU v0 (v1.2.2.1:ByteArray)):Int)<(v0.length:Int)) (bif (!(decide ((((v0.getD (((qU v0 (v1.2.2.1:ByteArray)):Int).toNat) (qb qe)).2).1:Int)=((v1.2.2.2.2.1:List (Val (.int .i64))).length:Int))))then (some (false,()))else (bif (!(ByteArray.toList (v1.2.2.2.1:ByteArray)==ByteArray.toList (ByteArray.mk #[])))then (bif (!((qfV (v1.2.2.2.1:ByteArray)):Bool))then (some (false,()))else (qcJ N (v1.2.2.2.2.1:List (Val (.int .i64))) ((v1.2.2.2.2.1:List (Val (.int .i64))).length:Int) (fun (_:Unit)=>some (true,())) N (0:Int)))else (qcJ N (v1.2.2.2.2.1:List (Val (.int .i64))) ((v1.2.2.2.2.1:List (Val (.int .i64))).length:Int) (fun (_:Unit)=>some (true,())) N (0:Int))))))))else (bif (decide ((v1.1:Int)=(5:Int)))then (some (((qaa (v1.2.2.2.2.2.1:Int)):Bool),()))else (bif (decide ((v1.1:Int)=(6:Int)))then (some (((qaa (v1.2.2.2.2.2.1:Int)):Bool),()))else (some ((decide ((v1.2.2.2.2.2.1:Int)=(0:Int))),())))))))))else (bif (decide ((v1.1:Int)=(0:Int)))then (bif (decide ((v1.2.2.2.2.2.1:Int)=(0:Int)))then (bif ((qai v1.2.1):Bool)then (some ((decide (((v1.2.1.1:List (Val (.int .i64))).length:Int)=(4:Int))),()))else (some (false,())))else (some (false,())))else (bif (decide ((v1.1:Int)=(1:Int)))then (chk (qck v0 (v1.2.2.1:ByteArray)) (bif (!(decide ((v1.2.2.2.2.2.1:Int)=(0:Int))))then (some (false,()))else (bif (decide (((qU v0 (v1.2.2.1:ByteArray)):Int)<(0:Int)))then (some (false,()))else (chk (0≤((qU v0 (v1.2.2.1:ByteArray)):Int)∧((qU v0 (v1.2.2.1:ByteArray)):Int)<(v0.length:Int)) (bif (!(decide ((((v0.getD (((qU v0 (v1.2.2.1:ByteArray)):Int).toNat) (qb qe)).2).1:Int)=((v1.2.2.2.2.1:List (Val (.int .i64))).length:Int))))then (some (false,()))else (bif (!(ByteArray.toList (v1.2.2.2.1:ByteArray)==ByteArray.toList (ByteArray.mk #[])))then (bif (!((qfV (v1.2.2.2.1:ByteArray)):Bool))then (some (false,()))else (qcJ N (v1.2.2.2.2.1:List (Val (.int .i64))) ((v1.2.2.2.2.1:List (Val (.int .i64))).length:Int) (fun (_:Unit)=>some (true,())) N (0:Int)))else (qcJ N (v1.2.2.2.2.1:List (Val (.int .i64))) ((v1.2.2.2.2.1:List (Val (.int .i64))).length:Int) (fun (_:Unit)=>some (true,())) N (0:Int))))))))else (bif (decide ((v1.1:Int)=(5:Int)))then (some (((qaa (v1.2.2.2.2.2.1:Int)):Bool),()))else (bif (decide ((v1.1:Int)=(6:Int)))then (some (((qaa (v1.2.2.2.2.2.1:Int)):Bool),()))else (some ((decide ((v1.2.2.2.2.2.1:Int)=(0:Int))),()))))))))else (bif (!(decide ((v1.1:Int)=(1:Int))))then (bif (!(ByteArray.toList (v1.2.2.1:ByteArray)==ByteArray.toList (ByteArray.mk #[])))then (some (false,()))else (bif (!(ByteArray.toList (v1.2.2.2.1:ByteArray)==ByteArray.toList (ByteArray.mk #[])))then (some (false,()))else (bif (decide ((0:Int)<((v1.2.2.2.2.1:List (Val (.int .i64))).length:Int)))then (some (false,()))else (bif (decide ((v1.1:Int)=(0:Int)))then (bif (decide ((v1.2.2.2.2.2.1:Int)=(0:Int)))then (bif ((qai v1.2.1):Bool)then (some ((decide (((v1.2.1.1:List (Val (.int .i64))).length:Int)=(4:Int))),()))else (some (false,())))else (some (false,())))else (bif (decide ((v1.1:Int)=(1:Int)))then (chk (qck v0 (v1.2.2.1:ByteArray)) (bif (!(decide ((v1.2.2.2.2.2.1:Int)=(0:Int))))then (some (false,()))else (bif (decide (((qU v0 (v1.2.2.1:ByteArray)):Int)<(0:Int)))then (some (false,()))else (chk (0≤((qU v0 (v1.2.2.1:ByteArray)):Int)∧((qU v0 (v1.2.2.1:ByteArray)):Int)<(v0.length:Int)) (bif (!(decide ((((v0.getD (((qU v0 (v1.2.2.1:ByteArray)):Int).toNat) (qb qe)).2).1:Int)=((v1.2.2.2.2.1:List (Val (.int .i64))).length:Int))))then (some (false,()))else (bif (!(ByteArray.toList (v1.2.2.2.1:ByteArray)==ByteArray.toList (ByteArray.mk #[])))then (bif (!((qfV (v1.2.2.2.1:ByteArray)):Bool))then (some (false,()))else (qcJ N (v1.2.2.2.2.1:List (Val (.int .i64))) ((v1.2.2.2.2.1:List (Val (.int .i64))).length:Int) (fun (_:Unit)=>some (true,())) N (0:Int)))else (qcJ N (v1.2.2.2.2.1:List (Val (.int .i64))) ((v1.2.2.2.2.1:List (Val (.int .i64))).length:Int) (fun (_:Unit)=>some (true,())) N (0:Int))))))))else (bif (decide ((v1.1:Int)=(5:Int)))then (some (((qaa (v1.2.2.2.2.2.1:Int)):Bool),()))else (bif (decide ((v1.1:Int)=(6:Int)))then (some (((qaa (v1.2.2.2.2.2.1:Int)):Bool),()))else (some ((decide ((v1.2.2.2.2.2.1:Int)=(0:Int))),())))))))))else (bif (decide ((v1.1:Int)=(0:Int)))then (bif (decide ((v1.2.2.2.2.2.1:Int)=(0:Int)))then (bif ((qai v1.2.1):Bool)then (some ((decide (((v1.2.1.1:List (Val (.int .i64))).length:Int)=(4:Int))),()))else (some (false,())))else (some (false,())))else (bif (decide ((v1.1:Int)=(1:Int)))then (chk (qck v0 (v1.2.2.1:ByteArray)) (bif (!(decide ((v1.2.2.2.2.2.1:Int)=(0:Int))))then (some (false,()))else (bif (decide (((qU v0 (v1.2.2.1:ByteArray)):Int)<(0:Int)))then (some (false,()))else (chk (0≤((qU v0 (v1.2.2.1:ByteArray)):Int)∧((qU v0 (v1.2.2.1:ByteArray)):Int)<(v0.length:Int)) (bif (!(decide ((((v0.getD (((qU v0 (v1.2.2.1:ByteArray)):Int).toNat) (qb qe)).2).1:Int)=((v1.2.2.2.2.1:List (Val (.int .i64))).length:Int))))then (some (false,()))else (bif (!(ByteArray.toList (v1.2.2.2.1:ByteArray)==ByteArray.toList (ByteArray.mk #[])))then (bif (!((qfV (v1.2.2.2.1:ByteArray)):Bool))then (some (false,()))else (qcJ N (v1.2.2.2.2.1:List (Val (.int .i64))) ((v1.2.2.2.2.1:List (Val (.int .i64))).length:Int) (fun (_:Unit)=>some (true,())) N (0:Int)))else (qcJ N (v1.2.2.2.2.1:List (Val (.int .i64))) ((v1.2.2.2.2.1:List (Val (.int .i64))).length:Int) (fun (_:Unit)=>some (true,())) N (0:Int))))))))else (bif (decide ((v1.1:Int)=(5:Int)))then (some (((qaa (v1.2.2.2.2.2.1:Int)):Bool),()))else (bif (decide ((v1.1:Int)=(6:Int)))then (some (((qaa (v1.2.2.2.2.2.1:Int)):Bool),()))else (some ((decide ((v1.2.2.2.2.2.1:Int)=(0:Int))),())))))))
def qeU:Gam:=[(44,g44),(93,g93),(146,qeD),(147,qjR),(148,qey)]
theorem qwA:Gam.get qeU 44=some g44:=rfl
theorem qD6:Gam.get qeU 93=some g93:=rfl
theorem qC1:Gam.get qeU 146=some qeD:=rfl
theorem qzq:Gam.get qeU 147=some qjR:=rfl
theorem qEw:Gam.get qeU 148=some qey:=rfl
def qmn:Nm:=⟨[false,false,false,false,false,false,false,false,false,false,false,false,false,false,false,false,false,false,false,false,false,false,false,false,false,false,false,false,false,false,false,false,false,false,false,false,false,false,false,false,false,false,false,false,false,false,false,false,false,false,false,false,false,false,false,false,false,false,false,false,false,false,false,false,false,false,false,false,false,false,false,false,false,false,false,false,false,false,false,false,false,false,false,false,false,false,false,false,false,false,false,true,true,true],[],false⟩
theorem qAp:qmn.zero=false:=rfl
theorem qws:qmn.fix=[]:=rfl
theorem qwf:qmn.keep=[false,false,false,false,false,false,false,false,false,false,false,false,false,false,false,false,false,false,false,false,false,false,false,false,false,false,false,false,false,false,false,false,false,false,false,false,false,false,false,false,false,false,false,false,false,false,false,false,false,false,false,false,false,false,false,false,false,false,false,false,false,false,false,false,false,false,false,false,false,false,false,false,false,false,false,false,false,false,false,false,false,false,false,false,false,false,false,false,false,false,false,true,true,true]:=rfl
def qqG:Nm:=⟨[],[],false⟩
theorem qAY:qqG.zero=false:=rfl
theorem qC0:qqG.fix=[]:=rfl
theorem qAu:qqG.keep=[]:=rfl
def qjs:Nat→Tree:=fun i=>if i=10 then .quiet 0 (.quiet 1 (.quiet 2 (.quiet 3 (.quiet 4 (.quiet 5 (.quiet 6 (.quiet 7 (.quiet 8 (.quiet 9 (.quiet 10 (.quiet 11 (.quiet 12 (.quiet 13 (.quiet 14 (.quiet 15 (.quiet 16 (.quiet 17 (.quiet 18 (.quiet 19 (.quiet 20 (.quiet 21 (.quiet 22 (.quiet 23 (.quiet 24 (.alt 25 (.quiet 26 (.quiet 27 (.quiet 28 .done))) .stop)))))))))))))))))))))))))else .done
def qlZ:Nat→Nm:=fun i=>if i=13 then qmn else ⟨[],[],false⟩
def qol:Nat→Option Jn:=fun _=>none
def qlf:Nat→Option Nm:=fun i=>if i=1 then some qqG else none
def qnx:Nat→Option Nm:=fun _=>none
theorem qSM:qm qjs (Try.f121.body.getD .skip)=true:=by kernel_rfl
def qdi (N:Nat):Tab:={tr:=qjs,lp:=qlZ,ex:=qlf,rg:=qnx,jn:=qol,fuel:=N}
theorem qDt (N:Nat):(qdi N).pins=false:=rfl
theorem qYC (N:Nat):qn Try.prog (qdi N):=qt fun _=>rfl
theorem qyz (N:Nat) (i:Nat):(qdi N).tr i=qjs i:=rfl
theorem qCh (N:Nat) (i:Nat):(qdi N).lp i=qlZ i:=rfl
theorem qF3 (N:Nat) (i:Nat):(qdi N).ex i=qlf i:=rfl
theorem qCw (N:Nat) (i:Nat):(qdi N).rg i=qnx i:=rfl
theorem qAU (N:Nat) (i:Nat):(qdi N).jn i=qol i:=rfl
theorem qyh (N:Nat):(qdi N).fuel=N:=rfl
noncomputable def qHM:Code:=cut [true,true,true,false,true,true,true,true,true,false,true,true,false,true,true,true] (Try.f121.body.getD .skip)
theorem qSh {N:Nat} {Q:X→St→Option (qc [i4])} {e:List LV} {h:List Blk}:qf tt qeU (qdi N) qHM Q ⟨e,h⟩=qf tt qeU (qdi N) (cut [true,true,true,false,true,true,true,true,true,false,true,true,false,true,true,true] (Try.f121.body.getD .skip)) Q ⟨e,h⟩:=rfl
theorem qOG (N:Nat) (v2:List (Val (.int .i64))) (v3:Int) {k1:Unit→Option (qc [i4])} {Q:X→St→Option (qc [i4])} {c:Code} (hc:c=qHM) (hret: ∀st,Q .ret st=qN tt true [i4] [.tmp 4] st) (h1:Q (.exit 1) ⟨[u,u,u,u,u,u,u,u,u,u,u,u,u,u,u,u,u,u,u,u,u,u,u,u,u,u,u,u,u,u,u,u,u,u,u,u,u,u,u,u,u,u,u,u,u,u,u,u,u,u,u,u,u,u,u,u,u,u,u,u,u,u,u,u,u,u,u,u,u,u,u,u,u,u,u,u,u,u,u,u,u,u,u,u,u,u,u,u,u,u,u,u,u,u,u,u,u,u,u,u,u,u,u,u,u,u,u,u,u,u],[]⟩=k1 ()): ∀(n:Nat) (v4:Int),qI (qf tt qeU (qdi N) c) false qmn Q n ⟨[u,u,u,u,u,u,u,u,u,u,u,u,u,u,u,u,u,u,u,u,u,u,u,u,u,u,u,u,u,u,u,u,u,u,u,u,u,u,u,u,u,u,u,u,u,u,u,u,u,u,u,u,u,u,u,u,u,u,u,u,u,u,u,u,u,u,u,u,u,u,u,u,u,u,u,u,u,u,u,u,u,u,u,u,u,u,u,u,u,u,u,.one (.sl 3 (.int .i64) v2 0),.one (.int .i64 v3),.one (.int .i64 v4),u,u,u,u,u,u,u,u,u,u,u,u,u,u,u,u],[]⟩=qcJ N v2 v3 k1 n v4:=by
 subst hc;intro n;induction n with
 | zero=>intros;rfl
 | succ n ih=>
   intro v4
   rw [qS,qSh,qcJ];unfold Try.f121
   simp (maxSteps:=10000000) -implicitDefEqProofs [qyz,qjs,qCh,qlZ,qF3,qlf,qCw,qnx,qAU,qol,qyh,qDt,qws,qwf,qAp,qC0,qAu,qAY,qwA,qD6,qC1,qzq,qEw,g44,g93,qeD,qjR,qey,hret,h1,ih]
theorem qQJ (N:Nat) (v0:List (Val qe)) (v1:Val qa):qf tt qeU (qdi N) (Try.f121.body.getD .skip) (qo tt true [i4] [.tmp 4]) (qv [i63,qca] 110 (v0,v1,()))=qsX N v0 v1:=by
 unfold Try.f121
 simp (maxSteps:=10000000) -implicitDefEqProofs [qyz,qjs,qCh,qlZ,qF3,qlf,qCw,qnx,qAU,qol,qyh,qDt,qws,qwf,qAp,qC0,qAu,qAY,qwA,qD6,qC1,qzq,qEw,g44,g93,qeD,qjR,qey]
 rewrite [qOG (k1:=(fun (_:Unit)=>some (true,()))) N _ _ ?_ ?_ ?_]
 ·rewrite [qsX];first | rfl | simp (maxSteps:=10000000) -implicitDefEqProofs []
 ·rfl
 ·intro;simp only [qQ,qR,qT,qr]
 ·simp (maxSteps:=10000000) -implicitDefEqProofs [qyz,qjs,qCh,qlZ,qF3,qlf,qCw,qnx,qAU,qol,qyh,qDt,qws,qwf,qAp,qC0,qAu,qAY,qwA,qD6,qC1,qzq,qEw,g44,g93,qeD,qjR,qey]
def qi4:G:={ps:=[i63,qca],rs:=[i4],dp:=true,pre:=fun x=>qqB x.1 x.2.1,fn:=fun x=>(qfA x.1 x.2.1,())}
def qi7:G:={ps:=[i63,qca],rs:=[i4],dp:=true,pre:=fun x=>qsj x.1 x.2.1,fn:=fun x=>(qdy x.1 x.2.1,())}
end Go.T
