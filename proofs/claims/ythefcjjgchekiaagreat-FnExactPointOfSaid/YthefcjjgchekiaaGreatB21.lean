/- Sums of ratios. -/
import Derived.Test.YthefcjjgchekiaaGreatB10
set_option linter.unusedSimpArgs false
set_option linter.unusedVariables false
namespace Go.T
open Go Go.Proofs
set_option maxHeartbeats 4000000
set_option maxRecDepth 100000
abbrev noR:Val Y28:=((0:Int),(0:Int))
def qaf (a b:Val Y28):Val Y28:=bif qi a&&qi b then qQ ((a.1:Int)*b.2+(b.1:Int)*a.2) ((a.2:Int)*b.2)else noR
def qkN:G:={ps:=[i28,i28],rs:=[i28],dp:=true,pre:=fun _=>True,fn:=fun x=>(qaf x.1 x.2.1,())}
def ql0:G:={ps:=[i28,i28],rs:=[i28],dp:=true,pre:=fun _=>True,fn:=fun x=>(qaf x.1 x.2.1,())}
noncomputable def qB8 (N:Nat) (v0:Val Y28) (v1:Val Y28):Option (qc [i28]):=bif (!((qi v0):Bool))then (some (((0:Int),(0:Int)),()))else (bif (!((qi v1):Bool))then (some (((0:Int),(0:Int)),()))else (chk (qb2 (IntKind.i64.wrap ((IntKind.i64.wrap ((v0.1:Int)*(v1.2:Int)))+(IntKind.i64.wrap ((v1.1:Int)*(v0.2:Int))))) (IntKind.i64.wrap ((v0.2:Int)*(v1.2:Int)))) (some ((((qQ (IntKind.i64.wrap ((IntKind.i64.wrap ((v0.1:Int)*(v1.2:Int)))+(IntKind.i64.wrap ((v1.1:Int)*(v0.2:Int))))) (IntKind.i64.wrap ((v0.2:Int)*(v1.2:Int)))).1:Int),((qQ (IntKind.i64.wrap ((IntKind.i64.wrap ((v0.1:Int)*(v1.2:Int)))+(IntKind.i64.wrap ((v1.1:Int)*(v0.2:Int))))) (IntKind.i64.wrap ((v0.2:Int)*(v1.2:Int)))).2:Int)),()))))
def qEn:Gam:=[(114,qau),(241,qd0)]
theorem zd0:Gam.get qEn 114=some qau:=rfl
theorem za9:Gam.get qEn 241=some qd0:=rfl
def qBM:Nat→Tree:=fun _=> .done
def qMu:Nat→Nm:=fun _=>⟨[],[],false⟩
def qL7:Nat→Option Jn:=fun _=>none
def qIU:Nat→Option Nm:=fun _=>none
def qJF:Nat→Option Nm:=fun _=>none
theorem zga:qn qBM (Tryz.f159.body.getD .skip)=true:=by kernel_rfl
def qfv (N:Nat):Tab:={tr:=qBM,lp:=qMu,ex:=qIU,rg:=qJF,jn:=qL7,fuel:=N}
theorem zkc (N:Nat):(qfv N).pins=false:=rfl
theorem zjP (N:Nat):qp Tryz.prog (qfv N):=qv fun _=>rfl
theorem q7V (N:Nat) (i:Nat):(qfv N).tr i=qBM i:=rfl
theorem zbk (N:Nat) (i:Nat):(qfv N).lp i=qMu i:=rfl
theorem q61 (N:Nat) (i:Nat):(qfv N).ex i=qIU i:=rfl
theorem q7a (N:Nat) (i:Nat):(qfv N).rg i=qJF i:=rfl
theorem q43 (N:Nat) (i:Nat):(qfv N).jn i=qL7 i:=rfl
theorem zri (N:Nat):(qfv N).fuel=N:=rfl
theorem zkq (N:Nat) (v0:Val Y28) (v1:Val Y28):qe tt qEn (qfv N) (Tryz.f159.body.getD .skip) (qt tt true [i28] [.cell 4 28]) (qw [i28,i28] 31 (v0,v1,()))=qB8 N v0 v1:=by
 rw [qB8];unfold Tryz.f159
 simp (maxSteps:=10000000) -implicitDefEqProofs [q7V,qBM,zbk,qMu,q61,qIU,q7a,qJF,q43,qL7,zri,zkc,zd0,za9,qau,qd0]
 try rfl
noncomputable def qzH (N:Nat) (v0:Val Y28) (v1:Val Y28):Option (qc [i28]):=bif (!((qi v0):Bool))then (some (((0:Int),(0:Int)),()))else (bif (!((qi v1):Bool))then (some (((0:Int),(0:Int)),()))else (chk (qb2 (IntKind.i64.wrap ((IntKind.i64.wrap ((v0.1:Int)*(v1.2:Int)))+(IntKind.i64.wrap ((v1.1:Int)*(v0.2:Int))))) (IntKind.i64.wrap ((v0.2:Int)*(v1.2:Int)))) (some ((((qQ (IntKind.i64.wrap ((IntKind.i64.wrap ((v0.1:Int)*(v1.2:Int)))+(IntKind.i64.wrap ((v1.1:Int)*(v0.2:Int))))) (IntKind.i64.wrap ((v0.2:Int)*(v1.2:Int)))).1:Int),((qQ (IntKind.i64.wrap ((IntKind.i64.wrap ((v0.1:Int)*(v1.2:Int)))+(IntKind.i64.wrap ((v1.1:Int)*(v0.2:Int))))) (IntKind.i64.wrap ((v0.2:Int)*(v1.2:Int)))).2:Int)),()))))
def qCu:Gam:=[(109,qar),(197,qfY)]
theorem q57:Gam.get qCu 109=some qar:=rfl
theorem zcq:Gam.get qCu 197=some qfY:=rfl
def qC2:Nat→Tree:=fun _=> .done
def qPc:Nat→Nm:=fun _=>⟨[],[],false⟩
def qS3:Nat→Option Jn:=fun _=>none
def qK3:Nat→Option Nm:=fun _=>none
def qFJ:Nat→Option Nm:=fun _=>none
theorem zbN:qn qC2 (Tryz.f107.body.getD .skip)=true:=by kernel_rfl
def qfw (N:Nat):Tab:={tr:=qC2,lp:=qPc,ex:=qK3,rg:=qFJ,jn:=qS3,fuel:=N}
theorem zpO (N:Nat):(qfw N).pins=false:=rfl
theorem zox (N:Nat):qp Tryz.prog (qfw N):=qv fun _=>rfl
theorem q6Z (N:Nat) (i:Nat):(qfw N).tr i=qC2 i:=rfl
theorem zjK (N:Nat) (i:Nat):(qfw N).lp i=qPc i:=rfl
theorem zcU (N:Nat) (i:Nat):(qfw N).ex i=qK3 i:=rfl
theorem zdL (N:Nat) (i:Nat):(qfw N).rg i=qFJ i:=rfl
theorem zb3 (N:Nat) (i:Nat):(qfw N).jn i=qS3 i:=rfl
theorem zb2 (N:Nat):(qfw N).fuel=N:=rfl
theorem za1 (N:Nat) (v0:Val Y28) (v1:Val Y28):qe tt qCu (qfw N) (Tryz.f107.body.getD .skip) (qt tt true [i28] [.cell 4 28]) (qw [i28,i28] 31 (v0,v1,()))=qzH N v0 v1:=by
 rw [qzH];unfold Tryz.f107
 simp (maxSteps:=10000000) -implicitDefEqProofs [q6Z,qC2,zjK,qPc,zcU,qK3,zdL,qFJ,zb3,qS3,zb2,zpO,q57,zcq,qar,qfY]
 try rfl
def qbG (a:Val Y28):Val Y28:=bif qi a then (-(a.1:Int),(a.2:Int))else noR
def qBx:G:={ps:=[i28],rs:=[i28],dp:=true,pre:=fun _=>True,fn:=fun x=>(qbG x.1,())}
def qBh:G:={ps:=[i28],rs:=[i28],dp:=true,pre:=fun _=>True,fn:=fun x=>(qbG x.1,())}
noncomputable def qzq (N:Nat) (v0:Val Y28):Option (qc [i28]):=bif (!((qi v0):Bool))then (some (((0:Int),(0:Int)),()))else (some (((IntKind.i64.wrap (0 - (v0.1:Int))),(v0.2:Int)),()))
def qJx:Gam:=[(114,qau)]
theorem zcA:Gam.get qJx 114=some qau:=rfl
def qCc:Nat→Tree:=fun _=> .done
def qQk:Nat→Nm:=fun _=>⟨[],[],false⟩
def qVi:Nat→Option Jn:=fun _=>none
def qNA:Nat→Option Nm:=fun _=>none
def qQH:Nat→Option Nm:=fun _=>none
theorem q70:qn qCc (Tryz.f203.body.getD .skip)=true:=by kernel_rfl
def qfr (N:Nat):Tab:={tr:=qCc,lp:=qQk,ex:=qNA,rg:=qQH,jn:=qVi,fuel:=N}
theorem q8T (N:Nat):(qfr N).pins=false:=rfl
theorem zgl (N:Nat):qp Tryz.prog (qfr N):=qv fun _=>rfl
theorem q8h (N:Nat) (i:Nat):(qfr N).tr i=qCc i:=rfl
theorem zjm (N:Nat) (i:Nat):(qfr N).lp i=qQk i:=rfl
theorem zjH (N:Nat) (i:Nat):(qfr N).ex i=qNA i:=rfl
theorem zbG (N:Nat) (i:Nat):(qfr N).rg i=qQH i:=rfl
theorem zc3 (N:Nat) (i:Nat):(qfr N).jn i=qVi i:=rfl
theorem q4T (N:Nat):(qfr N).fuel=N:=rfl
theorem zhh (N:Nat) (v0:Val Y28):qe tt qJx (qfr N) (Tryz.f203.body.getD .skip) (qt tt true [i28] [.cell 2 28]) (qw [i28] 13 (v0,()))=qzq N v0:=by
 rw [qzq];unfold Tryz.f203
 simp (maxSteps:=10000000) -implicitDefEqProofs [q8h,qCc,zjm,qQk,zjH,qNA,zbG,qQH,zc3,qVi,q4T,q8T,zcA,qau]
 try rfl
noncomputable def qys (N:Nat) (v0:Val Y28):Option (qc [i28]):=bif (!((qi v0):Bool))then (some (((0:Int),(0:Int)),()))else (some (((IntKind.i64.wrap (0 - (v0.1:Int))),(v0.2:Int)),()))
def qMV:Gam:=[(109,qar)]
theorem zkT:Gam.get qMV 109=some qar:=rfl
def qD8:Nat→Tree:=fun _=> .done
def qWm:Nat→Nm:=fun _=>⟨[],[],false⟩
def qIp:Nat→Option Jn:=fun _=>none
def qFa:Nat→Option Nm:=fun _=>none
def qIk:Nat→Option Nm:=fun _=>none
theorem zrf:qn qD8 (Tryz.f108.body.getD .skip)=true:=by kernel_rfl
def qgr (N:Nat):Tab:={tr:=qD8,lp:=qWm,ex:=qFa,rg:=qIk,jn:=qIp,fuel:=N}
theorem znd (N:Nat):(qgr N).pins=false:=rfl
theorem q5e (N:Nat):qp Tryz.prog (qgr N):=qv fun _=>rfl
theorem zp9 (N:Nat) (i:Nat):(qgr N).tr i=qD8 i:=rfl
theorem q6P (N:Nat) (i:Nat):(qgr N).lp i=qWm i:=rfl
theorem q9N (N:Nat) (i:Nat):(qgr N).ex i=qFa i:=rfl
theorem q68 (N:Nat) (i:Nat):(qgr N).rg i=qIk i:=rfl
theorem zet (N:Nat) (i:Nat):(qgr N).jn i=qIp i:=rfl
theorem zfY (N:Nat):(qgr N).fuel=N:=rfl
theorem q9g (N:Nat) (v0:Val Y28):qe tt qMV (qgr N) (Tryz.f108.body.getD .skip) (qt tt true [i28] [.cell 2 28]) (qw [i28] 13 (v0,()))=qys N v0:=by
 rw [qys];unfold Tryz.f108
 simp (maxSteps:=10000000) -implicitDefEqProofs [zp9,qD8,q6P,qWm,q9N,qFa,q68,qIk,zet,qIp,zfY,znd,zkT,qar]
 try rfl
def qdX (a b:Val Y28):Val Y28:=qaf a (qbG b)
def qkj:G:={ps:=[i28,i28],rs:=[i28],dp:=true,pre:=fun _=>True,fn:=fun x=>(qdX x.1 x.2.1,())}
noncomputable def qQB (N:Nat) (v0:Val Y28) (v1:Val Y28):Option (qc [i28]):=some ((((qaf v0 (((qbG v1).1:Int),((qbG v1).2:Int))).1:Int),((qaf v0 (((qbG v1).1:Int),((qbG v1).2:Int))).2:Int)),())
def qyF:Gam:=[(159,qkN),(203,qBx)]
theorem zb7:Gam.get qyF 159=some qkN:=rfl
theorem zbs:Gam.get qyF 203=some qBx:=rfl
def qDg:Nm:=⟨[false,false,false,false,true],[],false⟩
theorem ze9:qDg.zero=false:=rfl
theorem zqc:qDg.fix=[]:=rfl
theorem zp1:qDg.keep=[false,false,false,false,true]:=rfl
def qAd:Nat→Tree:=fun i=>if i=1 then .quiet 1 (.alt 0 (.alt 2 (.alt 3 (.alt 4 .done .stop) .stop) .stop) (.alt 2 (.quiet 0 (.alt 3 (.alt 4 .done .stop) .stop)) .stop))else .done
def qTQ:Nat→Nm:=fun _=>⟨[],[],false⟩
def qPD:Nat→Option Jn:=fun _=>none
def qKV:Nat→Option Nm:=fun _=>none
def qIP:Nat→Option Nm:=fun i=>if i=1 then some qDg else none
theorem zeX:qn qAd (Tryz.f113.body.getD .skip)=true:=by kernel_rfl
def qf4 (N:Nat):Tab:={tr:=qAd,lp:=qTQ,ex:=qKV,rg:=qIP,jn:=qPD,fuel:=N}
theorem zgh (N:Nat):(qf4 N).pins=false:=rfl
theorem zhj (N:Nat):qp Tryz.prog (qf4 N):=qv fun _=>rfl
theorem q8S (N:Nat) (i:Nat):(qf4 N).tr i=qAd i:=rfl
theorem zkt (N:Nat) (i:Nat):(qf4 N).lp i=qTQ i:=rfl
theorem zen (N:Nat) (i:Nat):(qf4 N).ex i=qKV i:=rfl
theorem zit (N:Nat) (i:Nat):(qf4 N).rg i=qIP i:=rfl
theorem zoo (N:Nat) (i:Nat):(qf4 N).jn i=qPD i:=rfl
theorem zbo (N:Nat):(qf4 N).fuel=N:=rfl
theorem zee (N:Nat) (v0:Val Y28) (v1:Val Y28):qe tt qyF (qf4 N) (Tryz.f113.body.getD .skip) (qt tt true [i28] [.cell 4 28]) (qw [i28,i28] 9 (v0,v1,()))=qQB N v0 v1:=by
 rw [qQB];unfold Tryz.f113
 simp (maxSteps:=10000000) -implicitDefEqProofs [q8S,qAd,zkt,qTQ,zen,qKV,zit,qIP,zoo,qPD,zbo,zgh,zqc,zp1,ze9,zb7,zbs,qkN,qBx]
 try rfl
def qbn (n:Int):Val Y28:=(n,(1:Int))
def qCB:G:={ps:=[i3],rs:=[i28],dp:=true,pre:=fun _=>True,fn:=fun x=>(qbn x.1,())}
noncomputable def qXO (N:Nat) (v0:Int):Option (qc [i28]):=some ((v0,(1:Int)),())
def q2D:Gam:=[]
def qEE:Nat→Tree:=fun _=> .done
def qTg:Nat→Nm:=fun _=>⟨[],[],false⟩
def qTG:Nat→Option Jn:=fun _=>none
def qHc:Nat→Option Nm:=fun _=>none
def qSc:Nat→Option Nm:=fun _=>none
theorem q6b:qn qEE (Tryz.f157.body.getD .skip)=true:=by kernel_rfl
def qfV (N:Nat):Tab:={tr:=qEE,lp:=qTg,ex:=qHc,rg:=qSc,jn:=qTG,fuel:=N}
theorem ziT (N:Nat):(qfV N).pins=false:=rfl
theorem zqj (N:Nat):qp Tryz.prog (qfV N):=qv fun _=>rfl
theorem q5M (N:Nat) (i:Nat):(qfV N).tr i=qEE i:=rfl
theorem zbU (N:Nat) (i:Nat):(qfV N).lp i=qTg i:=rfl
theorem zda (N:Nat) (i:Nat):(qfV N).ex i=qHc i:=rfl
theorem zjq (N:Nat) (i:Nat):(qfV N).rg i=qSc i:=rfl
theorem zm2 (N:Nat) (i:Nat):(qfV N).jn i=qTG i:=rfl
theorem zp8 (N:Nat):(qfV N).fuel=N:=rfl
theorem zeV (N:Nat) (v0:Int):qe tt q2D (qfV N) (Tryz.f157.body.getD .skip) (qt tt true [i28] [.cell 2 28]) (qw [i3] 5 (v0,()))=qXO N v0:=by
 rw [qXO];unfold Tryz.f157
 simp (maxSteps:=10000000) -implicitDefEqProofs [q5M,qEE,zbU,qTg,zda,qHc,zjq,qSc,zm2,qTG,zp8,ziT]
 try rfl
theorem qdZ {r:Val Y28} (h:qi r=true): -400000000≤(r.2:Int)∧ @LE.le Int _ r.2 400000000:=⟨Int.le_trans (by decide) (qbe h).2.1,(qbe h).2.2⟩
theorem q1f {a b:Val Y28} (ha:qi a=true) (hb:qi b=true):IntKind.i64.wrap (IntKind.i64.wrap ((a.1:Int)*(b.2:Int))+IntKind.i64.wrap ((b.1:Int)*(a.2:Int)))=(a.1:Int)*b.2+(b.1:Int)*a.2∧IntKind.i64.wrap ((a.2:Int)*(b.2:Int))=(a.2:Int)*b.2∧qb2 ((a.1:Int)*b.2+(b.1:Int)*a.2) ((a.2:Int)*b.2):=by
 have m1:=qhL (qbe ha).1 (qdZ hb)
 have m2:=qhL (qbe hb).1 (qdZ ha)
 have m3:=qhL (qdZ ha) (qdZ hb)
 rw [qgS (qbe ha).1 (qdZ hb),qgS (qbe hb).1 (qdZ ha),qgS (qdZ ha) (qdZ hb)]
 unfold qb2 inI
 generalize (a.1:Int)*b.2=x at*
 generalize (b.1:Int)*a.2=y at*
 generalize (a.2:Int)*b.2=z at*
 exact ⟨qaq (by omega) (by omega),rfl,⟨by omega,by omega⟩,⟨by omega,by omega⟩⟩
theorem q4O {x:Int} (h: -400000000≤x∧x≤400000000):IntKind.i64.wrap (0 - x)= -x:=by
 rw [Int.zero_sub]
 exact qaq (by omega) (by omega)
theorem qYF {a:Val Y28} (ha:qi a=true):IntKind.i64.wrap (0 - (a.1:Int))= -(a.1:Int):=by
 have h:=(qbe ha).1
 exact q4O h
theorem zdb (a b:Val Y28): ∃N,qB8 N a b=some (qaf a b,()):=⟨0,by
 rw [qB8]
 unfold qaf
 cases ha:qi a with
 | false=>rfl
 | true=>
   cases hb:qi b with
   | false=>rfl
   | true=>
     simp only [Bool.not_true,cond_false,Bool.and_self,cond_true]
     obtain ⟨e1,e2,hp⟩:=q1f ha hb
     rw [e1,e2]
     exact qd hp⟩
theorem qZU:Sound Tryz.prog 159 qkN:=qx (tt:=tt) (Γ:=qEn) hT (qg qhY (qg qVn qu)) hm (fn:=Tryz.f159) Tryz.func159 (c:=Tryz.f159.body.getD .skip) (by kernel_rfl) (by kernel_rfl) fun x hx=>by
 obtain ⟨N,h⟩:=zdb x.1 x.2.1
 exact ⟨qfv N,zga,qy _,zjP N,(zkq N x.1 x.2.1).trans h⟩
theorem zld (a b:Val Y28): ∃N,qzH N a b=some (qaf a b,()):=⟨0,by
 rw [qzH]
 unfold qaf
 cases ha:qi a with
 | false=>rfl
 | true=>
   cases hb:qi b with
   | false=>rfl
   | true=>
     simp only [Bool.not_true,cond_false,Bool.and_self,cond_true]
     obtain ⟨e1,e2,hp⟩:=q1f ha hb
     rw [e1,e2]
     exact qd hp⟩
theorem q1Y:Sound Tryz.prog 107 ql0:=qx (tt:=tt) (Γ:=qCu) hT (qg qiS (qg qKx qu)) hm (fn:=Tryz.f107) Tryz.func107 (c:=Tryz.f107.body.getD .skip) (by kernel_rfl) (by kernel_rfl) fun x hx=>by
 obtain ⟨N,h⟩:=zld x.1 x.2.1
 exact ⟨qfw N,zbN,qy _,zox N,(za1 N x.1 x.2.1).trans h⟩
theorem zgH (a:Val Y28): ∃N,qzq N a=some (qbG a,()):=⟨0,by
 rw [qzq]
 unfold qbG
 cases ha:qi a with
 | false=>rfl
 | true=>
   simp only [Bool.not_true,cond_false,cond_true]
   rw [qYF ha]⟩
theorem zek:Sound Tryz.prog 203 qBx:=qx (tt:=tt) (Γ:=qJx) hT (qg qhY qu) hm (fn:=Tryz.f203) Tryz.func203 (c:=Tryz.f203.body.getD .skip) (by kernel_rfl) (by kernel_rfl) fun x hx=>by
 obtain ⟨N,h⟩:=zgH x.1
 exact ⟨qfr N,q70,qy _,zgl N,(zhh N x.1).trans h⟩
theorem znj (a:Val Y28): ∃N,qys N a=some (qbG a,()):=⟨0,by
 rw [qys]
 unfold qbG
 cases ha:qi a with
 | false=>rfl
 | true=>
   simp only [Bool.not_true,cond_false,cond_true]
   rw [qYF ha]⟩
theorem zeQ:Sound Tryz.prog 108 qBh:=qx (tt:=tt) (Γ:=qMV) hT (qg qiS qu) hm (fn:=Tryz.f108) Tryz.func108 (c:=Tryz.f108.body.getD .skip) (by kernel_rfl) (by kernel_rfl) fun x hx=>by
 obtain ⟨N,h⟩:=znj x.1
 exact ⟨qgr N,zrf,qy _,q5e N,(q9g N x.1).trans h⟩
theorem zpo (a b:Val Y28): ∃N,qQB N a b=some (qdX a b,()):=⟨0,rfl⟩
theorem q17:Sound Tryz.prog 113 qkj:=qx (tt:=tt) (Γ:=qyF) hT (qg qZU (qg zek qu)) hm (fn:=Tryz.f113) Tryz.func113 (c:=Tryz.f113.body.getD .skip) (by kernel_rfl) (by kernel_rfl) fun x hx=>by
 obtain ⟨N,h⟩:=zpo x.1 x.2.1
 exact ⟨qf4 N,zeX,qy _,zhj N,(zee N x.1 x.2.1).trans h⟩
theorem zcs (n:Int): ∃N,qXO N n=some (qbn n,()):=⟨0,rfl⟩
theorem zpJ:Sound Tryz.prog 157 qCB:=qx (tt:=tt) (Γ:=q2D) hT qu hm (fn:=Tryz.f157) Tryz.func157 (c:=Tryz.f157.body.getD .skip) (by kernel_rfl) (by kernel_rfl) fun x hx=>by
 obtain ⟨N,h⟩:=zcs x.1
 exact ⟨qfV N,q6b,qy _,zqj N,(zeV N x.1).trans h⟩
end Go.T
