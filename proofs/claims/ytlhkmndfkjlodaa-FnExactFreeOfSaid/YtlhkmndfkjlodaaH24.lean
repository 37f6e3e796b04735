/- The law of FreeOf. -/
import Derived.Test.YtlhkmndfkjlodaaH23
import Derived.Test.YtlhkmndfkjlodaaM1
set_option linter.unusedSimpArgs false
set_option linter.unusedVariables false
namespace Go.T
open Go Go.Proofs
set_option maxHeartbeats 4000000
set_option maxRecDepth 100000
noncomputable def m5 (N:Nat) (v0:List (Val qE)) (v1:List (Val qB)):Option (qc [i4]):=chk (qpu v0 (1048576:Int)) (bif (decide (((qcS v0 (1048576:Int)):Int)<(0:Int)))then (some (true,()))else (chk (qqI v1 ((qcS v0 (1048576:Int)):Int)) (bif (decide (((qkL v1 ((qcS v0 (1048576:Int)):Int)):Int)<(0:Int)))then (some (true,()))else (chk (qio v0) (chk (qh8 v1) (chk (qgX ((qJ v0):List (Val qf)) ((qP v1):List (Val qb))) (chk (qio v0) (chk (qh8 v1) (chk (qgX ((qJ v0):List (Val qf)) ((qP v1):List (Val qb))) (chk (qfC ((q4 ((qJ v0):List (Val qf)) ((qP v1):List (Val qb))).1:List (Val (.int .i64))) ((q4 ((qJ v0):List (Val qf)) ((qP v1):List (Val qb))).1:List (Val (.int .i64)))) (bif (!((qe3 ((q4 ((qJ v0):List (Val qf)) ((qP v1):List (Val qb))).1:List (Val (.int .i64))) ((q4 ((qJ v0):List (Val qf)) ((qP v1):List (Val qb))).1:List (Val (.int .i64)))):Bool))then (some (false,()))else (bif (!(((q4 ((qJ v0):List (Val qf)) ((qP v1):List (Val qb))).2:Bool)==((q4 ((qJ v0):List (Val qf)) ((qP v1):List (Val qb))).2:Bool)))then (some (false,()))else (chk (qio v0) (chk (qrR ((qJ v0):List (Val qf)) ((qJ v0):List (Val qf))) (bif (!((qk5 ((qJ v0):List (Val qf)) ((qJ v0):List (Val qf))):Bool))then (some (false,()))else (chk (qh8 v1) (chk (qqY ((qP v1):List (Val qb)) ((qP v1):List (Val qb))) (bif (!((qmL ((qP v1):List (Val qb)) ((qP v1):List (Val qb))):Bool))then (some (false,()))else (chk (qr2 ((qJ v0):List (Val qf)) (1:Int)) (chk (qrF ((qP v1):List (Val qb)) (qgj ((qJ v0):List (Val qf)) (1:Int))) (bif (decide ((qk6 ((qP v1):List (Val qb)) (qgj ((qJ v0):List (Val qf)) (1:Int)))<(0:Int)))then (some (false,()))else (chk (qfC ((q4 ((qJ v0):List (Val qf)) ((qP v1):List (Val qb))).1:List (Val (.int .i64))) ((q4 ((qJ v0):List (Val qf)) ((qP v1):List (Val qb))).1:List (Val (.int .i64)))) (bif (!((qe3 ((q4 ((qJ v0):List (Val qf)) ((qP v1):List (Val qb))).1:List (Val (.int .i64))) ((q4 ((qJ v0):List (Val qf)) ((qP v1):List (Val qb))).1:List (Val (.int .i64)))):Bool))then (some (false,()))else (bif (!(((q4 ((qJ v0):List (Val qf)) ((qP v1):List (Val qb))).2:Bool)==((q4 ((qJ v0):List (Val qf)) ((qP v1):List (Val qb))).2:Bool)))then (some (false,()))else (chk (qfp ((q4 ((qJ v0):List (Val qf)) ((qP v1):List (Val qb))).1:List (Val (.int .i64))) (1:Int)) (chk (qne ((qbY ((q4 ((qJ v0):List (Val qf)) ((qP v1):List (Val qb))).1:List (Val (.int .i64))) (1:Int)):List (Val (.int .i64))) (1:Int)) (bif (decide (((qgC ((qbY ((q4 ((qJ v0):List (Val qf)) ((qP v1):List (Val qb))).1:List (Val (.int .i64))) (1:Int)):List (Val (.int .i64))) (1:Int)):Int)<(0:Int)))then (some (false,()))else (bif (!(decide (((qgC ((qbY ((q4 ((qJ v0):List (Val qf)) ((qP v1):List (Val qb))).1:List (Val (.int .i64))) (1:Int)):List (Val (.int .i64))) (1:Int)):Int)=(qck ((q4 ((qJ v0):List (Val qf)) ((qP v1):List (Val qb))).1:List (Val (.int .i64))) (1:Int)))))then (some (false,()))else (chk (qio v0) (chk (qh8 v1) (chk (qgX ((qJ v0):List (Val qf)) ((qP v1):List (Val qb))) (chk (qfC ((q4 ((qJ v0):List (Val qf)) ((qP v1):List (Val qb))).1:List (Val (.int .i64))) ((q4 ((qJ v0):List (Val qf)) ((qP v1):List (Val qb))).1:List (Val (.int .i64)))) (bif (!((qe3 ((q4 ((qJ v0):List (Val qf)) ((qP v1):List (Val qb))).1:List (Val (.int .i64))) ((q4 ((qJ v0):List (Val qf)) ((qP v1):List (Val qb))).1:List (Val (.int .i64)))):Bool))then (some (false,()))else (bif (!(((q4 ((qJ v0):List (Val qf)) ((qP v1):List (Val qb))).2:Bool)==((q4 ((qJ v0):List (Val qf)) ((qP v1):List (Val qb))).2:Bool)))then (some (false,()))else (chk (qne ((qbY ((q4 ((qJ v0):List (Val qf)) ((qP v1):List (Val qb))).1:List (Val (.int .i64))) (1:Int)):List (Val (.int .i64))) (1:Int)) (bif (decide (((qgC ((qbY ((q4 ((qJ v0):List (Val qf)) ((qP v1):List (Val qb))).1:List (Val (.int .i64))) (1:Int)):List (Val (.int .i64))) (1:Int)):Int)<(0:Int)))then (some (false,()))else (bif (!(decide (((qgC ((qbY ((q4 ((qJ v0):List (Val qf)) ((qP v1):List (Val qb))).1:List (Val (.int .i64))) (1:Int)):List (Val (.int .i64))) (1:Int)):Int)=(qck ((q4 ((qJ v0):List (Val qf)) ((qP v1):List (Val qb))).1:List (Val (.int .i64))) (1:Int)))))then (some (false,()))else (some (true,())))))))))))))))))))))))))))))))))))))))
def Γ5:Gam:=[(21,g21),(23,g23),(24,g24),(25,g25),(26,g26),(27,g27),(28,g28),(29,g29),(30,g30),(34,g34)]
theorem qQ1:Gam.get Γ5 21=some g21:=rfl
theorem qKH:Gam.get Γ5 23=some g23:=rfl
theorem qO6:Gam.get Γ5 24=some g24:=rfl
theorem qPx:Gam.get Γ5 25=some g25:=rfl
theorem qOP:Gam.get Γ5 26=some g26:=rfl
theorem qQF:Gam.get Γ5 27=some g27:=rfl
theorem qTa:Gam.get Γ5 28=some g28:=rfl
theorem qTD:Gam.get Γ5 29=some g29:=rfl
theorem qLG:Gam.get Γ5 30=some g30:=rfl
theorem qQa:Gam.get Γ5 34=some g34:=rfl
theorem qOM:Gam.get Γ5 31=none:=rfl
theorem qNN:Gam.get Γ5 32=none:=rfl
theorem qKo:Gam.get Γ5 33=none:=rfl
def qw0:Sem:=qgs [(31,qtJ.gm),(32,qDU.gm),(33,qaa.gm)] []
def tr5:Nat→Tree:=fun _=> .done
def lp5:Nat→Nm:=fun _=>⟨[],[],false⟩
def jn5:Nat→Option Jn:=fun _=>none
def ex5:Nat→Option Nm:=fun _=>none
def rg5:Nat→Option Nm:=fun _=>none
theorem p5:qn tr5 (Try.f5.body.getD .skip)=true:=by kernel_rfl
def T5 (N:Nat):Tab:={tr:=tr5,lp:=lp5,ex:=ex5,rg:=rg5,jn:=jn5,fuel:=N,sem:=qw0}
theorem qMY (N:Nat):(T5 N).pins=false:=rfl
theorem tb5 (N:Nat):qp Try.prog (T5 N):=qw fun _=>rfl
theorem qRa (N:Nat):(T5 N).sem=qw0:=rfl
theorem qMF (N:Nat) (i:Nat):(T5 N).tr i=tr5 i:=rfl
theorem qPj (N:Nat) (i:Nat):(T5 N).lp i=lp5 i:=rfl
theorem qRo (N:Nat) (i:Nat):(T5 N).ex i=ex5 i:=rfl
theorem qRg (N:Nat) (i:Nat):(T5 N).rg i=rg5 i:=rfl
theorem qQb (N:Nat) (i:Nat):(T5 N).jn i=jn5 i:=rfl
theorem qVG (N:Nat):(T5 N).fuel=N:=rfl
theorem qQw (N:Nat) (v0:List (Val qE)) (v1:List (Val qB)):qe tt Γ5 (T5 N) (Try.f5.body.getD .skip) (qr tt true [i4] [.tmp 4]) (qv [i57,i58] 119 (v0,v1,()))=m5 N v0 v1:=by
 rw [m5];unfold Try.f5
 simp (maxSteps:=10000000) -implicitDefEqProofs [qMF,tr5,qPj,lp5,qRo,ex5,qRg,rg5,qQb,jn5,qVG,qMY,qRa,qw0,qR,qOM,qNN,qKo,qtJ,qDU,qaa,qQ1,qKH,qO6,qPx,qOP,qQF,qTa,qTD,qLG,qQa,g21,g23,g24,g25,g26,g27,g28,g29,g30,g34]
 try rfl
def qIA (_:List (Val qE)) (_:List (Val qB)):Bool:=true
def qIq (x0:List (Val qE)) (x1:List (Val qB)):Prop:=Sms [i57,i58] (x0,x1,())
def g5:G:={ps:=[i57,i58],rs:=[i4],dp:=true,pre:=fun x=>qIq x.1 x.2.1,fn:=fun x=>(qIA x.1 x.2.1,())}
theorem qRs (db:List (Val qf)) (f:List (Val qb)):List.length (α:=Int) (q4 db f).1≤4:=by
 unfold q4
 cases qcM db f with
 | false=>exact Nat.zero_le _
 | true=>
   show List.length (α:=Int) (qmB _)≤4
   unfold qmB
   rw [List.length_map]
   exact List.length_filter_le _ _
theorem e5 (x:List (Val qE)) (y:List (Val qB)) (h:qIq x y): ∃N,m5 N x y=some (qIA x y,()):=⟨0,by
 rw [m5,qd (show qpu x 1048576 from ⟨h.1,by omega,by omega⟩)]
 by_cases c:qcS x 1048576<0
 ·rw [qj c];rfl
 rw [qh c]
 have hx:0≤szV (.slice 111 qE) x 1048576:=by have: ¬szV (.slice 111 qE) x 1048576<0:=c;omega
 have hb:Bd (.slice 111 qE) x:=qoa (.slice 111 qE) x 1048576 (by omega) (by omega) hx
 have hle:szV (.slice 111 qE) x 1048576≤1048576:=(qcp (.slice 111 qE) x 1048576 (by omega)).1
 have hle':qcS x 1048576≤1048576:=hle
 rw [qd (show qqI y (qcS x 1048576) from ⟨h.2.1,by omega,by omega⟩)]
 by_cases d:qkL y (qcS x 1048576)<0
 ·rw [qj d];rfl
 rw [qh d]
 have hy:0≤szV (.slice 115 qB) y (qcS x 1048576):=by have: ¬szV (.slice 115 qB) y (qcS x 1048576)<0:=d;omega
 have hc:Bd (.slice 115 qB) y:=qoa (.slice 115 qB) y (qcS x 1048576) (by omega) (by omega) hy
 have cx:=qs8 (.slice 111 qE) x 1048576 rfl (by omega) hx
 have cy:=qs8 (.slice 115 qB) y (qcS x 1048576) rfl (by omega) hy
 have k1:qgj (qJ x) 1=1+qap (.slice 111 qE) x:=qk1 (.slice 111 qE) x 1 (by omega) (by omega)
 have k2:qk6 (qP y) (qgj (qJ x) 1)=qgj (qJ x) 1+qap (.slice 115 qB) y:=qk1 (.slice 115 qB) y _ (by omega) (by omega)
 have t1:qio x:=hb
 have t2:qh8 y:=hc
 have f1:qgX (qJ x) (qP y):=⟨hb,hc⟩
 have q1:qrR (qJ x) (qJ x):=hb
 have q2:qqY (qP y) (qP y):=hc
 have r1:qk5 (qJ x) (qJ x)=true:=qja _ _
 have r2:qmL (qP y) (qP y)=true:=qja _ _
 have m1:qr2 (qJ x) 1:=⟨hb,by omega⟩
 have m2:qrF (qP y) (qgj (qJ x) 1):=⟨hc,by omega⟩
 have n2: ¬qk6 (qP y) (qgj (qJ x) 1)<0:=by omega
 have hl:=qRs (qJ x) (qP y)
 generalize hz:(q4 (qJ x) (qP y)).1=z at hl ⊢
 have hl:z.length≤4:=hl
 have bz:Bd (.slice 3 (.int .i64)) z:=⟨Nat.le_trans hl (by decide),fun _ _=>trivial⟩
 have cz:qap (.slice 3 (.int .i64)) z=z.length:=qIL z
 have k3:qck z 1=1+qap (.slice 3 (.int .i64)) z:=qk1 (.slice 3 (.int .i64)) z 1 (by omega) (by omega)
 have ez:qfC z z:=bz
 have rz:qe3 z z=true:=qja _ _
 have m3:qfp z 1:=⟨bz,by omega⟩
 have hh:qne (qbY z 1) 1:=⟨congrArg Prod.fst (qsY (.slice 3 (.int .i64)) z 1),qAJ _ _ _ bz,by omega,by
  have:qap (.slice 3 (.int .i64)) (qbY z 1)=qap (.slice 3 (.int .i64)) z:=qze _ _ _
  omega⟩
 have hv:qgC (qbY z 1) 1=qck z 1:=congrArg Prod.snd (qsY (.slice 3 (.int .i64)) z 1)
 have hn: ¬qgC (qbY z 1) 1<0:=by omega
 simp only [qd t1,qd t2,qd f1,qd q1,qd q2,r1,r2,qd m1,qd m2,qh n2,qd ez,rz,qd m3,qd hh,qh hn,decide_eq_true hv,Bool.not_true,cond_false,beq_self_eq_true]
 rfl⟩
theorem s5:Sound Try.prog 5 g5:=qz (tt:=tt) (Γ:=Γ5) hT (ql s21 (ql s23 (ql s24 (ql s25 (ql s26 (ql s27 (ql s28 (ql s29 (ql s30 (ql s34 qt)))))))))) hm (fn:=Try.f5) Try.func5 (c:=Try.f5.body.getD .skip) (by kernel_rfl) (by kernel_rfl) fun x hx=>by
 obtain ⟨N,h⟩:=e5 x.1 x.2.1 hx
 exact ⟨T5 N,p5,qkg (qxv qMT.gm (qxv qOi.gm (qxv qsN.gm qkh))) qjK,tb5 N,(qQw N x.1 x.2.1).trans h⟩
end Go.T
