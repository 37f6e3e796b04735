/- The law of WidthOf. -/
import Derived.Test.YthefcjjgchekiaaGreatF1
import Derived.Test.YthefcjjgchekiaaGreatE32
set_option linter.unusedSimpArgs false
set_option linter.unusedVariables false
namespace Go.T
open Go Go.Proofs
set_option maxHeartbeats 4000000
set_option maxRecDepth 100000
def qcJ (x y:Val Y28):Bool:=eqV Y28 x y
def qcj (x _:Val Y28):Prop:=Bd Y28 x
noncomputable def m27 (N:Nat) (v0:Val Y28) (v1:Val Y28):Option (qc [i4]):=bif (!(decide ((v0.1:Int)=(v1.1:Int))))then (some (false,()))else (bif (!(decide ((v0.2:Int)=(v1.2:Int))))then (some (false,()))else (some (true,())))
def Γ27:Gam:=[]
def qcN:Nat→Tree:=fun _=> .done
def qeq:Nat→Nm:=fun _=>⟨[],[],false⟩
def qew:Nat→Option Jn:=fun _=>none
def qep:Nat→Option Nm:=fun _=>none
def qeV:Nat→Option Nm:=fun _=>none
theorem p27:qn qcN (Tryz.f27.body.getD .skip)=true:=by kernel_rfl
def T27 (N:Nat):Tab:={tr:=qcN,lp:=qeq,ex:=qep,rg:=qeV,jn:=qew,fuel:=N}
theorem qpM (N:Nat):(T27 N).pins=false:=rfl
theorem qw3 (N:Nat):qp Tryz.prog (T27 N):=qv fun _=>rfl
theorem qsE (N:Nat) (i:Nat):(T27 N).tr i=qcN i:=rfl
theorem qrN (N:Nat) (i:Nat):(T27 N).lp i=qeq i:=rfl
theorem qt9 (N:Nat) (i:Nat):(T27 N).ex i=qep i:=rfl
theorem qrJ (N:Nat) (i:Nat):(T27 N).rg i=qeV i:=rfl
theorem qwq (N:Nat) (i:Nat):(T27 N).jn i=qew i:=rfl
theorem qqG (N:Nat):(T27 N).fuel=N:=rfl
theorem qqa (N:Nat) (v0:Val Y28) (v1:Val Y28):qe tt Γ27 (T27 N) (Tryz.f27.body.getD .skip) (qt tt true [i4] [.tmp 4]) (qw [i28,i28] 15 (v0,v1,()))=m27 N v0 v1:=by
 rw [m27];unfold Tryz.f27
 simp (maxSteps:=10000000) -implicitDefEqProofs [qsE,qcN,qrN,qeq,qt9,qep,qrJ,qeV,qwq,qew,qqG,qpM]
 try rfl
def g27:G:={ps:=[i28,i28],rs:=[i4],dp:=true,pre:=fun x=>qcj x.1 x.2.1,fn:=fun x=>(qcJ x.1 x.2.1,())}
theorem e27 (x y:Val Y28) (h:qcj x y): ∃N,m27 N x y=some (qcJ x y,()):=⟨0,by
 obtain ⟨s0,s1⟩:=h
 rw [m27]
 obtain ⟨x0,x1⟩:=x
 obtain ⟨y0,y1⟩:=y
 change _=some ((eqV (.int .i64) x0 y0&&eqV (.int .i64) x1 y1),())
 simp only [qaG]
 show _=_
 generalize he0:eqV (.int .i64) x0 y0=e0
 have hd0:decide ((x0:Int)=y0)=e0:=he0
 generalize he1:eqV (.int .i64) x1 y1=e1
 have hd1:decide ((x1:Int)=y1)=e1:=he1
 simp only [hd0,hd1]
 cases e0<;>cases e1<;>rfl⟩
theorem s27:Sound Tryz.prog 27 g27:=qx (tt:=tt) (Γ:=Γ27) hT qu hm (fn:=Tryz.f27) Tryz.func27 (c:=Tryz.f27.body.getD .skip) (by kernel_rfl) (by kernel_rfl) fun x hx=>by
 obtain ⟨N,h⟩:=e27 x.1 x.2.1 hx
 exact ⟨T27 N,p27,qy _,qw3 N,(qqa N x.1 x.2.1).trans h⟩
noncomputable def m3 (N:Nat) (v0:Val Y24) (v1:List (Val (.int .i64))):Option (qc [i4]):=bif (decide ((1048576:Int)<(v1.length:Int)))then (some (true,()))else (chk (qoZ v0 (1048576:Int)) (bif (decide (((qhE v0 (1048576:Int)):Int)<(0:Int)))then (some (true,()))else (chk (qjh v0) (chk (qiV v1) (chk (qlO (((qac v0).1:Int),((qac v0).2:List (Val qa))) ((qaT v1):List (Val (.int .i64)))) (chk (qjh v0) (chk (qiV v1) (chk (qlO (((qac v0).1:Int),((qac v0).2:List (Val qa))) ((qaT v1):List (Val (.int .i64)))) (chk (qcj ((((qa9 (((qac v0).1:Int),((qac v0).2:List (Val qa))) ((qaT v1):List (Val (.int .i64)))).1).1:Int),(((qa9 (((qac v0).1:Int),((qac v0).2:List (Val qa))) ((qaT v1):List (Val (.int .i64)))).1).2:Int)) ((((qa9 (((qac v0).1:Int),((qac v0).2:List (Val qa))) ((qaT v1):List (Val (.int .i64)))).1).1:Int),(((qa9 (((qac v0).1:Int),((qac v0).2:List (Val qa))) ((qaT v1):List (Val (.int .i64)))).1).2:Int))) (bif (!((qcJ ((((qa9 (((qac v0).1:Int),((qac v0).2:List (Val qa))) ((qaT v1):List (Val (.int .i64)))).1).1:Int),(((qa9 (((qac v0).1:Int),((qac v0).2:List (Val qa))) ((qaT v1):List (Val (.int .i64)))).1).2:Int)) ((((qa9 (((qac v0).1:Int),((qac v0).2:List (Val qa))) ((qaT v1):List (Val (.int .i64)))).1).1:Int),(((qa9 (((qac v0).1:Int),((qac v0).2:List (Val qa))) ((qaT v1):List (Val (.int .i64)))).1).2:Int))):Bool))then (some (false,()))else (bif (!(((qa9 (((qac v0).1:Int),((qac v0).2:List (Val qa))) ((qaT v1):List (Val (.int .i64)))).2:Bool)==((qa9 (((qac v0).1:Int),((qac v0).2:List (Val qa))) ((qaT v1):List (Val (.int .i64)))).2:Bool)))then (some (false,()))else (chk (qjh v0) (chk (qoB (((qac v0).1:Int),((qac v0).2:List (Val qa))) (((qac v0).1:Int),((qac v0).2:List (Val qa)))) (bif (!((qqJ (((qac v0).1:Int),((qac v0).2:List (Val qa))) (((qac v0).1:Int),((qac v0).2:List (Val qa)))):Bool))then (some (false,()))else (chk (qiV v1) (chk (qoQ ((qaT v1):List (Val (.int .i64))) ((qaT v1):List (Val (.int .i64)))) (bif (!((qjA ((qaT v1):List (Val (.int .i64))) ((qaT v1):List (Val (.int .i64)))):Bool))then (some (false,()))else (some (true,())))))))))))))))))))
def Γ3:Gam:=[(22,g22),(23,g23),(24,g24),(25,g25),(26,g26),(27,g27),(28,g28),(29,g29)]
theorem ziD:Gam.get Γ3 22=some g22:=rfl
theorem znk:Gam.get Γ3 23=some g23:=rfl
theorem zih:Gam.get Γ3 24=some g24:=rfl
theorem zkS:Gam.get Γ3 25=some g25:=rfl
theorem q96:Gam.get Γ3 26=some g26:=rfl
theorem zjO:Gam.get Γ3 27=some g27:=rfl
theorem zir:Gam.get Γ3 28=some g28:=rfl
theorem zhi:Gam.get Γ3 29=some g29:=rfl
def tr3:Nat→Tree:=fun i=>if i=13 then .quiet 1 (.alt 0 (.alt 2 (.alt 3 (.quiet 4 .done) .stop) .stop) (.alt 2 (.quiet 0 (.alt 3 (.quiet 4 .done) .stop)) .stop))else .done
def lp3:Nat→Nm:=fun _=>⟨[],[],false⟩
def jn3:Nat→Option Jn:=fun _=>none
def ex3:Nat→Option Nm:=fun _=>none
def rg3:Nat→Option Nm:=fun _=>none
theorem p3:qn tr3 (Tryz.f3.body.getD .skip)=true:=by kernel_rfl
def T3 (N:Nat):Tab:={tr:=tr3,lp:=lp3,ex:=ex3,rg:=rg3,jn:=jn3,fuel:=N}
theorem zcu (N:Nat):(T3 N).pins=false:=rfl
theorem tb3 (N:Nat):qp Tryz.prog (T3 N):=qv fun _=>rfl
theorem zp3 (N:Nat) (i:Nat):(T3 N).tr i=tr3 i:=rfl
theorem zo3 (N:Nat) (i:Nat):(T3 N).lp i=lp3 i:=rfl
theorem q6G (N:Nat) (i:Nat):(T3 N).ex i=ex3 i:=rfl
theorem zdp (N:Nat) (i:Nat):(T3 N).rg i=rg3 i:=rfl
theorem q6h (N:Nat) (i:Nat):(T3 N).jn i=jn3 i:=rfl
theorem q6c (N:Nat):(T3 N).fuel=N:=rfl
theorem q7i (N:Nat) (v0:Val Y24) (v1:List (Val (.int .i64))):qe tt Γ3 (T3 N) (Tryz.f3.body.getD .skip) (qt tt true [i4] [.tmp 4]) (qw [i24,i25] 57 (v0,v1,()))=m3 N v0 v1:=by
 rw [m3];unfold Tryz.f3
 simp (maxSteps:=10000000) -implicitDefEqProofs [zp3,tr3,zo3,lp3,q6G,ex3,zdp,rg3,q6h,jn3,q6c,zcu,ziD,znk,zih,zkS,q96,zjO,zir,zhi,g22,g23,g24,g25,g26,g27,g28,g29]
 try rfl
def q4o (_:Val Y24) (_:List (Val (.int .i64))):Bool:=true
def q12 (x0:Val Y24) (x1:List (Val (.int .i64))):Prop:=Sms [i24,i25] (x0,x1,())
def g3:G:={ps:=[i24,i25],rs:=[i4],dp:=true,pre:=fun x=>q12 x.1 x.2.1,fn:=fun x=>(q4o x.1 x.2.1,())}
theorem e3 (x:Val Y24) (l:List (Val (.int .i64))) (h:q12 x l): ∃N,m3 N x l=some (q4o x l,()):=⟨0,by
 rw [m3]
 by_cases c0:(1048576:Int)<(l.length:Int)
 ·rw [qk c0];rfl
 rw [qj c0,qd (show qoZ x 1048576 from ⟨h.1,by omega,by omega⟩)]
 by_cases c:qhE x 1048576<0
 ·rw [qk c];rfl
 rw [qj c]
 have hsz:0≤szV Y24 x 1048576:=by have: ¬szV Y24 x 1048576<0:=c;omega
 have hb:Bd Y24 x:=qms Y24 x 1048576 (by omega) (by omega) hsz
 have tx:qjh x:=hb
 have ti:qiV l:=⟨by omega,fun _ _=>trivial⟩
 have hp:qlO (qac x) (qaT l):=⟨hb.2.1,ti.1⟩
 have ex:qoB (qac x) (qac x):=hb
 have ei:qoQ (qaT l) (qaT l):=ti
 have rx:qqJ (qac x) (qac x)=true:=qeJ _ _
 have ri:qjA (qaT l) (qaT l)=true:=qeJ _ _
 have eX:((((qac x).1:Int),((qac x).2:List (Val qa))):Val Y33)=qac x:=rfl
 have eq:qcj (qa9 (qac x) (qaT l)).1 (qa9 (qac x) (qaT l)).1:=⟨trivial,trivial⟩
 have rq:qcJ (qa9 (qac x) (qaT l)).1 (qa9 (qac x) (qaT l)).1=true:=qeJ _ _
 try rw [eX]
 simp only [qd tx,qd ti,qd hp,qd ex,qd ei,qd eq,rx,ri,rq,Bool.not_true,cond_false,beq_self_eq_true]
 rfl⟩
theorem s3:Sound Tryz.prog 3 g3:=qx (tt:=tt) (Γ:=Γ3) hT (qg s22 (qg s23 (qg s24 (qg s25 (qg s26 (qg s27 (qg s28 (qg s29 qu)))))))) hm (fn:=Tryz.f3) Tryz.func3 (c:=Tryz.f3.body.getD .skip) (by kernel_rfl) (by kernel_rfl) fun x hx=>by
 obtain ⟨N,h⟩:=e3 x.1 x.2.1 hx
 exact ⟨T3 N,p3,qy _,tb3 N,(q7i N x.1 x.2.1).trans h⟩
end Go.T
