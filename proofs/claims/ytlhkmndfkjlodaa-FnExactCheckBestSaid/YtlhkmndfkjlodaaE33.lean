/- The distance of a point: what the functions compute (IsPoint, distanceBounds proved; the rest are contracts and prints). -/
import Derived.Test.YtlhkmndfkjlodaaE32
set_option linter.unusedSimpArgs false
set_option linter.unusedVariables false
namespace Go.T
open Go Go.Proofs
set_option maxHeartbeats 4000000
set_option maxRecDepth 100000
def q6 (p:List (Val Y35)) (d:Int):Bool:=decide ((p.length:Int)=d)&&p.all fun r=>qo r
def qaL (p:List (Val Y35)) (_:Int):Prop:=p.length≤1048576
def g50:G:={ps:=[i32,i3],rs:=[i4],dp:=true,pre:=fun x=>qaL x.1 x.2.1,fn:=fun x=>(q6 x.1 x.2.1,())}
noncomputable def qev (N:Nat) (v2:List (Val Y35)) (v3:Int) (k0:Unit→Option (qa [i4])):Nat→Int→Option (qa [i4])
 | 0,_=>none
 | n+1,v4=>bif (decide (v4<v3))then (chk (0≤v4∧v4<(v2.length:Int)) (bif (!((qo (v2.getD v4.toNat (qc Y35))):Bool))then (some (false,()))else (qev N v2 v3 k0 n (IntKind.i64.wrap (v4+(1:Int))))))else (k0 ())
noncomputable def m50 (N:Nat) (v0:List (Val Y35)) (v1:Int):Option (qa [i4]):=bif (!(decide ((v0.length:Int)=v1)))then (some (false,()))else (qev N v0 (v0.length:Int) (fun (_:Unit)=>some (true,())) N (0:Int))
def Γ50:Gam:=[(70,g70)]
theorem qvH:Gam.get Γ50 70=some g70:=rfl
def qhV:Nm:=⟨[false,false,false,false,false,false,false,false,false,false,false,true,true,true],[],false⟩
theorem qqt:qhV.zero=false:=rfl
theorem qA2:qhV.fix=[]:=rfl
theorem qAu:qhV.keep=[false,false,false,false,false,false,false,false,false,false,false,true,true,true]:=rfl
def qmU:Nm:=⟨[],[],false⟩
theorem qxS:qmU.zero=false:=rfl
theorem qsN:qmU.fix=[]:=rfl
theorem qzB:qmU.keep=[]:=rfl
def qgq:Nat→Tree:=fun _=> .done
def qiE:Nat→Nm:=fun i=>if i=4 then qhV else ⟨[],[],false⟩
def qku:Nat→Option Jn:=fun _=>none
def qiz:Nat→Option Nm:=fun i=>if i=0 then some qmU else none
def qhp:Nat→Option Nm:=fun _=>none
theorem p50:qg qgq (Try.f50.body.getD .skip)=true:=by kernel_rfl
def T50 (N:Nat):Tab:={tr:=qgq,lp:=qiE,ex:=qiz,rg:=qhp,jn:=qku,fuel:=N}
theorem qtq (N:Nat):(T50 N).pins=false:=rfl
theorem qOz (N:Nat):qk Try.prog (T50 N):=qn fun _=>rfl
theorem qpJ (N:Nat) (i:Nat):(T50 N).tr i=qgq i:=rfl
theorem qvO (N:Nat) (i:Nat):(T50 N).lp i=qiE i:=rfl
theorem qt9 (N:Nat) (i:Nat):(T50 N).ex i=qiz i:=rfl
theorem qvz (N:Nat) (i:Nat):(T50 N).rg i=qhp i:=rfl
theorem qwh (N:Nat) (i:Nat):(T50 N).jn i=qku i:=rfl
theorem qAZ (N:Nat):(T50 N).fuel=N:=rfl
noncomputable def qCc:Code:=cut [true,true,false,true,true,true] (Try.f50.body.getD .skip)
theorem qKo {N:Nat} {Q:X→St→Option (qa [i4])} {e:List LV} {h:List Blk}:qb tt Γ50 (T50 N) qCc Q ⟨e,h⟩=qb tt Γ50 (T50 N) (cut [true,true,false,true,true,true] (Try.f50.body.getD .skip)) Q ⟨e,h⟩:=rfl
theorem qOK (N:Nat) (v2:List (Val Y35)) (v3:Int) {k0:Unit→Option (qa [i4])} {Q:X→St→Option (qa [i4])} {c:Code} (hc:c=qCc) (hret: ∀st,Q .ret st=qy tt true [i4] [.tmp 4] st) (h0:Q (.exit 0) ⟨[u,u,u,u,u,u,u,u,u,u,u,u,u,u,u,u,u,u,u,u,u],[]⟩=k0 ()): ∀(n:Nat) (v4:Int),qx (qb tt Γ50 (T50 N) c) false qhV Q n ⟨[u,u,u,u,u,u,u,u,u,u,u,.one (.sl 35 Y35 v2 0),.one (.int .i64 v3),.one (.int .i64 v4),u,u,u,u,u,u,u],[]⟩=qev N v2 v3 k0 n v4:=by
 subst hc;intro n;induction n with
 | zero=>intros;rfl
 | succ n ih=>
   intro v4
   rw [qI,qKo,qev];unfold Try.f50
   simp (maxSteps:=10000000) -implicitDefEqProofs [qpJ,qgq,qvO,qiE,qt9,qiz,qvz,qhp,qwh,qku,qAZ,qtq,qA2,qAu,qqt,qsN,qzB,qxS,qvH,g70,hret,h0,ih]
theorem qPo (N:Nat) (v0:List (Val Y35)) (v1:Int):qb tt Γ50 (T50 N) (Try.f50.body.getD .skip) (qh tt true [i4] [.tmp 4]) (ql [i32,i3] 21 (v0,v1,()))=m50 N v0 v1:=by
 unfold Try.f50
 simp (maxSteps:=10000000) -implicitDefEqProofs [qpJ,qgq,qvO,qiE,qt9,qiz,qvz,qhp,qwh,qku,qAZ,qtq,qA2,qAu,qqt,qsN,qzB,qxS,qvH,g70]
 rewrite [qOK (k0:=(fun (_:Unit)=>some (true,()))) N _ _ ?_ ?_ ?_]
 ·rewrite [m50];first | rfl | simp (maxSteps:=10000000) -implicitDefEqProofs []
 ·rfl
 ·intro;simp only [qD,qE,qF,qC]
 ·simp (maxSteps:=10000000) -implicitDefEqProofs [qpJ,qgq,qvO,qiE,qt9,qiz,qvz,qhp,qwh,qku,qAZ,qtq,qA2,qAu,qqt,qsN,qzB,qxS,qvH,g70]
theorem e50 (p:List (Val Y35)) (d:Int) (h:qaL p d): ∃N,m50 N p d=some (q6 p d,()):=⟨p.length+1,by
 rw [m50,q6]
 cases decide ((p.length:Int)=d)with
 | false=>rfl
 | true=>
   simp only [Bool.not_true,cond_false,Bool.true_and]
   refine (q4 (F:=fun n i (_:Unit)=>qev (p.length+1) p p.length (fun _=>some (true,())) n i) (step:=fun _ x _ K=>bif qo x then K ()else some (false,())) (k:=fun _=>some (true,())) h (fun n i s hi=>by rw [qev,qi (by omega),qd (by omega),qB hi,q9]) (fun n i s hi=>by rw [qev,qj (by omega)]) _ () (Nat.lt_succ_self _)).trans ((qaZ p 0).trans ?_)
   cases p.all fun r=>qo r<;>rfl⟩
theorem s50:Sound Try.prog 50 g50:=qq (tt:=tt) (Γ:=Γ50) hT (qe s70 qp) hm (fn:=Try.f50) Try.func50 (c:=Try.f50.body.getD .skip) (by kernel_rfl) (by kernel_rfl) fun x hx=>by
 obtain ⟨N,h⟩:=e50 x.1 x.2.1 hx
 exact ⟨T50 N,p50,qm _,qOz N,(qPo N x.1 x.2.1).trans h⟩
def g58:G:={ps:=[i32,i3],rs:=[i4],dp:=true,pre:=fun x=>qaL x.1 x.2.1,fn:=fun x=>(q6 x.1 x.2.1,())}
noncomputable def qd3 (N:Nat) (v2:List (Val Y35)) (v3:Int) (k0:Unit→Option (qa [i4])):Nat→Int→Option (qa [i4])
 | 0,_=>none
 | n+1,v4=>bif (decide (v4<(v2.length:Int)))then (chk (0≤v4∧v4<(v2.length:Int)) (bif (!((qo (v2.getD v4.toNat (qc Y35))):Bool))then (some (false,()))else (qd3 N v2 v3 k0 n (IntKind.i64.wrap (v4+(1:Int))))))else (k0 ())
noncomputable def m58 (N:Nat) (v0:List (Val Y35)) (v1:Int):Option (qa [i4]):=qd3 N v0 v1 (fun (_:Unit)=>some ((decide ((v0.length:Int)=v1)),())) N (0:Int)
def Γ58:Gam:=[(60,g60)]
theorem qye:Gam.get Γ58 60=some g60:=rfl
def qhh:Nm:=⟨[true,true,false,false,false,true],[],false⟩
theorem qvB:qhh.zero=false:=rfl
theorem qAU:qhh.fix=[]:=rfl
theorem qv6:qhh.keep=[true,true,false,false,false,true]:=rfl
def qof:Nm:=⟨[true,true],[],false⟩
theorem qwQ:qof.zero=false:=rfl
theorem qwH:qof.fix=[]:=rfl
theorem qwg:qof.keep=[true,true]:=rfl
def qg3:Nat→Tree:=fun _=> .done
def qjE:Nat→Nm:=fun i=>if i=2 then qhh else ⟨[],[],false⟩
def qi7:Nat→Option Jn:=fun _=>none
def qk5:Nat→Option Nm:=fun i=>if i=0 then some qof else none
def qhy:Nat→Option Nm:=fun _=>none
theorem p58:qg qg3 (Try.f58.body.getD .skip)=true:=by kernel_rfl
def T58 (N:Nat):Tab:={tr:=qg3,lp:=qjE,ex:=qk5,rg:=qhy,jn:=qi7,fuel:=N}
theorem qp1 (N:Nat):(T58 N).pins=false:=rfl
theorem qNc (N:Nat):qk Try.prog (T58 N):=qn fun _=>rfl
theorem qzf (N:Nat) (i:Nat):(T58 N).tr i=qg3 i:=rfl
theorem qsT (N:Nat) (i:Nat):(T58 N).lp i=qjE i:=rfl
theorem que (N:Nat) (i:Nat):(T58 N).ex i=qk5 i:=rfl
theorem qsi (N:Nat) (i:Nat):(T58 N).rg i=qhy i:=rfl
theorem qsO (N:Nat) (i:Nat):(T58 N).jn i=qi7 i:=rfl
theorem qw4 (N:Nat):(T58 N).fuel=N:=rfl
noncomputable def qBQ:Code:=cut [true,false,true,true,true] (Try.f58.body.getD .skip)
theorem qJE {N:Nat} {Q:X→St→Option (qa [i4])} {e:List LV} {h:List Blk}:qb tt Γ58 (T58 N) qBQ Q ⟨e,h⟩=qb tt Γ58 (T58 N) (cut [true,false,true,true,true] (Try.f58.body.getD .skip)) Q ⟨e,h⟩:=rfl
theorem qMo (N:Nat) (v2:List (Val Y35)) (v3:Int) {k0:Unit→Option (qa [i4])} {Q:X→St→Option (qa [i4])} {c:Code} (hc:c=qBQ) (hret: ∀st,Q .ret st=qy tt true [i4] [.tmp 4] st) (h0:Q (.exit 0) ⟨[.one (.sl 35 Y35 v2 0),.one (.int .i64 v3),u,u,u,u,u,u,u,u,u,u,u,u,u,u,u,u,u,u,u,u],[]⟩=k0 ()): ∀(n:Nat) (v4:Int),qx (qb tt Γ58 (T58 N) c) false qhh Q n ⟨[.one (.sl 35 Y35 v2 0),.one (.int .i64 v3),u,u,u,.one (.int .i64 v4),u,u,u,u,u,u,u,u,u,u,u,u,u,u,u,u],[]⟩=qd3 N v2 v3 k0 n v4:=by
 subst hc;intro n;induction n with
 | zero=>intros;rfl
 | succ n ih=>
   intro v4
   rw [qI,qJE,qd3];unfold Try.f58
   simp (maxSteps:=10000000) -implicitDefEqProofs [qzf,qg3,qsT,qjE,que,qk5,qsi,qhy,qsO,qi7,qw4,qp1,qAU,qv6,qvB,qwH,qwg,qwQ,qye,g60,hret,h0,ih]
theorem qIt (N:Nat) (v0:List (Val Y35)) (v1:Int):qb tt Γ58 (T58 N) (Try.f58.body.getD .skip) (qh tt true [i4] [.tmp 4]) (ql [i32,i3] 22 (v0,v1,()))=m58 N v0 v1:=by
 unfold Try.f58
 simp (maxSteps:=10000000) -implicitDefEqProofs [qzf,qg3,qsT,qjE,que,qk5,qsi,qhy,qsO,qi7,qw4,qp1,qAU,qv6,qvB,qwH,qwg,qwQ,qye,g60]
 rewrite [qMo (k0:=(fun (_:Unit)=>some ((decide ((v0.length:Int)=v1)),()))) N _ _ ?_ ?_ ?_]
 ·rewrite [m58];first | rfl | simp (maxSteps:=10000000) -implicitDefEqProofs []
 ·rfl
 ·intro;simp only [qD,qE,qF,qC]
 ·simp (maxSteps:=10000000) -implicitDefEqProofs [qzf,qg3,qsT,qjE,que,qk5,qsi,qhy,qsO,qi7,qw4,qp1,qAU,qv6,qvB,qwH,qwg,qwQ,qye,g60]
theorem e58 (p:List (Val Y35)) (d:Int) (h:qaL p d): ∃N,m58 N p d=some (q6 p d,()):=⟨p.length+1,by
 rw [m58,q6]
 refine (q4 (F:=fun n i (_:Unit)=>qd3 (p.length+1) p d _ n i) (step:=fun _ x _ K=>bif qo x then K ()else some (false,())) h (fun n i s hi=>by rw [qd3,qi (by omega),qd (by omega),qB hi,q9]) (fun n i s hi=>by rw [qd3,qj (by omega)]) _ () (Nat.lt_succ_self _)).trans ((qaZ p 0).trans ?_)
 cases p.all fun r=>qo r<;>cases decide ((p.length:Int)=d)<;>rfl⟩
theorem s58:Sound Try.prog 58 g58:=qq (tt:=tt) (Γ:=Γ58) hT (qe s60 qp) hm (fn:=Try.f58) Try.func58 (c:=Try.f58.body.getD .skip) (by kernel_rfl) (by kernel_rfl) fun x hx=>by
 obtain ⟨N,h⟩:=e58 x.1 x.2.1 hx
 exact ⟨T58 N,p58,qm _,qNc N,(qIt N x.1 x.2.1).trans h⟩
theorem qqq {r:Val Y35} (h:qo r=true):(0≤(r.2:Int)∧ @LE.le Int _ r.2 400000000)∧(-400000000≤(r.1:Int)∧ @LE.le Int _ r.1 400000000):=by
 obtain ⟨a,b⟩:=r
 change Int at a
 change Int at b
 unfold qo inR qv at h
 simp only [Bool.and_eq_true,decide_eq_true_eq]at h
 obtain ⟨⟨h1,h2⟩,_⟩:=h
 have h1:1≤b∧b≤400000000:=h1
 have h2: -400000000≤a∧a≤400000000:=h2
 exact ⟨⟨by show 0≤b;omega,h1.2⟩,h2⟩
end Go.T
