/- What is marked in formulas is held. -/
import Derived.Test.YtlhkmndfkjlodaaM1
set_option linter.unusedSimpArgs false
set_option linter.unusedVariables false
namespace Go.T
open Go Go.Proofs
set_option maxHeartbeats 4000000
set_option maxRecDepth 100000
def qge (x:List (Val qa)) (k:Int):Int:=(mkT (.slice 120 qa) x k).2
def qlK (x:List (Val qa)) (k:Int):Prop:=qHu (.slice 120 qa) x k
noncomputable def qgI (N:Nat) (v2:List (Val qa)) (k0:Int→Option (qc [i3])):Nat→Int→Int→Option (qc [i3])
 | 0,_,_=>none
 | n+1,v3,v4=>bif (decide (v4<(v2.length:Int)))then (chk (0≤v4∧v4<(v2.length:Int)) (bif (!(decide (((v2.getD v4.toNat (qb qa)).1:Int)=v3)))then (some ((-1:Int),()))else (chk (0≤v4∧v4<(v2.length:Int)) (chk (qmD ((((v2.getD v4.toNat (qb qa)).2).1).1:List (Val (.int .i64))) (IntKind.i64.wrap (v3+(1:Int)))) (bif (decide (((qb7 ((((v2.getD v4.toNat (qb qa)).2).1).1:List (Val (.int .i64))) (IntKind.i64.wrap (v3+(1:Int)))):Int)<(0:Int)))then (some ((-1:Int),()))else (chk (0≤v4∧v4<(v2.length:Int)) (bif (!(decide ((((((v2.getD v4.toNat (qb qa)).2).1).2).1:Int)=((qb7 ((((v2.getD v4.toNat (qb qa)).2).1).1:List (Val (.int .i64))) (IntKind.i64.wrap (v3+(1:Int)))):Int))))then (some ((-1:Int),()))else (chk (0≤v4∧v4<(v2.length:Int)) (chk ((3:Int)≠0) (bif (!((((((v2.getD v4.toNat (qb qa)).2).1).2).2:Bool)==(decide (((IntKind.i64.wrap (((qb7 ((((v2.getD v4.toNat (qb qa)).2).1).1:List (Val (.int .i64))) (IntKind.i64.wrap (v3+(1:Int)))):Int)+(1:Int))).tmod (3:Int))=(0:Int)))))then (some ((-1:Int),()))else (chk (0≤v4∧v4<(v2.length:Int)) (chk (qcF (IntKind.i64.wrap ((IntKind.i64.wrap (((qb7 ((((v2.getD v4.toNat (qb qa)).2).1).1:List (Val (.int .i64))) (IntKind.i64.wrap (v3+(1:Int)))):Int)+(1:Int)))+(1:Int)))) (bif (!(ByteArray.toList ((((v2.getD v4.toNat (qb qa)).2).2).1:ByteArray)==ByteArray.toList ((qZ (IntKind.i64.wrap ((IntKind.i64.wrap (((qb7 ((((v2.getD v4.toNat (qb qa)).2).1).1:List (Val (.int .i64))) (IntKind.i64.wrap (v3+(1:Int)))):Int)+(1:Int)))+(1:Int)))):ByteArray)))then (some ((-1:Int),()))else (chk (0≤v4∧v4<(v2.length:Int)) (chk (qcF (IntKind.i64.wrap ((IntKind.i64.wrap ((IntKind.i64.wrap (((qb7 ((((v2.getD v4.toNat (qb qa)).2).1).1:List (Val (.int .i64))) (IntKind.i64.wrap (v3+(1:Int)))):Int)+(1:Int)))+(1:Int)))+(1:Int)))) (bif (!(ByteArray.toList (((((v2.getD v4.toNat (qb qa)).2).2).2).1:ByteArray)==ByteArray.toList ((qZ (IntKind.i64.wrap ((IntKind.i64.wrap ((IntKind.i64.wrap (((qb7 ((((v2.getD v4.toNat (qb qa)).2).1).1:List (Val (.int .i64))) (IntKind.i64.wrap (v3+(1:Int)))):Int)+(1:Int)))+(1:Int)))+(1:Int)))):ByteArray)))then (some ((-1:Int),()))else (chk (0≤v4∧v4<(v2.length:Int)) (chk (qmD ((((((v2.getD v4.toNat (qb qa)).2).2).2).2).1:List (Val (.int .i64))) (IntKind.i64.wrap ((IntKind.i64.wrap ((IntKind.i64.wrap ((IntKind.i64.wrap (((qb7 ((((v2.getD v4.toNat (qb qa)).2).1).1:List (Val (.int .i64))) (IntKind.i64.wrap (v3+(1:Int)))):Int)+(1:Int)))+(1:Int)))+(1:Int)))+(1:Int)))) (bif (decide (((qb7 ((((((v2.getD v4.toNat (qb qa)).2).2).2).2).1:List (Val (.int .i64))) (IntKind.i64.wrap ((IntKind.i64.wrap ((IntKind.i64.wrap ((IntKind.i64.wrap (((qb7 ((((v2.getD v4.toNat (qb qa)).2).1).1:List (Val (.int .i64))) (IntKind.i64.wrap (v3+(1:Int)))):Int)+(1:Int)))+(1:Int)))+(1:Int)))+(1:Int)))):Int)<(0:Int)))then (some ((-1:Int),()))else (chk (0≤v4∧v4<(v2.length:Int)) (bif (!(decide ((((((((v2.getD v4.toNat (qb qa)).2).2).2).2).2).1:Int)=((qb7 ((((((v2.getD v4.toNat (qb qa)).2).2).2).2).1:List (Val (.int .i64))) (IntKind.i64.wrap ((IntKind.i64.wrap ((IntKind.i64.wrap ((IntKind.i64.wrap (((qb7 ((((v2.getD v4.toNat (qb qa)).2).1).1:List (Val (.int .i64))) (IntKind.i64.wrap (v3+(1:Int)))):Int)+(1:Int)))+(1:Int)))+(1:Int)))+(1:Int)))):Int))))then (some ((-1:Int),()))else (chk (0≤v4∧v4<(v2.length:Int)) (bif (!(decide (((((((((v2.getD v4.toNat (qb qa)).2).2).2).2).2).2).1:Int)=(IntKind.i64.wrap (((qb7 ((((((v2.getD v4.toNat (qb qa)).2).2).2).2).1:List (Val (.int .i64))) (IntKind.i64.wrap ((IntKind.i64.wrap ((IntKind.i64.wrap ((IntKind.i64.wrap (((qb7 ((((v2.getD v4.toNat (qb qa)).2).1).1:List (Val (.int .i64))) (IntKind.i64.wrap (v3+(1:Int)))):Int)+(1:Int)))+(1:Int)))+(1:Int)))+(1:Int)))):Int)+(1:Int))))))then (some ((-1:Int),()))else (chk (0≤v4∧v4<(v2.length:Int)) (bif (!(decide (((((((((v2.getD v4.toNat (qb qa)).2).2).2).2).2).2).2:Int)=(IntKind.i64.wrap ((IntKind.i64.wrap (((qb7 ((((((v2.getD v4.toNat (qb qa)).2).2).2).2).1:List (Val (.int .i64))) (IntKind.i64.wrap ((IntKind.i64.wrap ((IntKind.i64.wrap ((IntKind.i64.wrap (((qb7 ((((v2.getD v4.toNat (qb qa)).2).1).1:List (Val (.int .i64))) (IntKind.i64.wrap (v3+(1:Int)))):Int)+(1:Int)))+(1:Int)))+(1:Int)))+(1:Int)))):Int)+(1:Int)))+(1:Int))))))then (some ((-1:Int),()))else (qgI N v2 k0 n (IntKind.i64.wrap ((IntKind.i64.wrap ((IntKind.i64.wrap (((qb7 ((((((v2.getD v4.toNat (qb qa)).2).2).2).2).1:List (Val (.int .i64))) (IntKind.i64.wrap ((IntKind.i64.wrap ((IntKind.i64.wrap ((IntKind.i64.wrap (((qb7 ((((v2.getD v4.toNat (qb qa)).2).1).1:List (Val (.int .i64))) (IntKind.i64.wrap (v3+(1:Int)))):Int)+(1:Int)))+(1:Int)))+(1:Int)))+(1:Int)))):Int)+(1:Int)))+(1:Int)))+(1:Int))) (IntKind.i64.wrap (v4+(1:Int)))))))))))))))))))))))))))))else (k0 v3)
noncomputable def m37 (N:Nat) (v0:List (Val qa)) (v1:Int):Option (qc [i3]):=qgI N v0 (fun (v6:Int)=>some (v6,())) N v1 (0:Int)
def Γ37:Gam:=[(34,g34),(86,g86)]
theorem qyS:Gam.get Γ37 34=some g34:=rfl
theorem qyL:Gam.get Γ37 86=some g86:=rfl
def qk3:Nm:=⟨[true,true,false,false,false,true],[],false⟩
theorem qzV:qk3.zero=false:=rfl
theorem qEH:qk3.fix=[]:=rfl
theorem qu9:qk3.keep=[true,true,false,false,false,true]:=rfl
def qrN:Nm:=⟨[false,true],[],false⟩
theorem qv3:qrN.zero=false:=rfl
theorem qAw:qrN.fix=[]:=rfl
theorem qDP:qrN.keep=[false,true]:=rfl
def qjt:Nat→Tree:=fun i=>if i=16 then .quiet 5 (.first 0 (.first 1 (.first 2 (.first 3 (.first 4 (.alt 6 (.quiet 7 .done) .stop))))))else if i=19 then .quiet 5 (.first 0 (.first 1 (.first 2 (.first 3 (.first 4 (.alt 6 (.quiet 7 .done) .stop))))))else .done
def qmI:Nat→Nm:=fun i=>if i=2 then qk3 else ⟨[],[],false⟩
def qnU:Nat→Option Jn:=fun _=>none
def ql2:Nat→Option Nm:=fun i=>if i=0 then some qrN else none
def qny:Nat→Option Nm:=fun _=>none
theorem p37:qm qjt (Try.f37.body.getD .skip)=true:=by kernel_rfl
def T37 (N:Nat):Tab:={tr:=qjt,lp:=qmI,ex:=ql2,rg:=qny,jn:=qnU,fuel:=N}
theorem qEk (N:Nat):(T37 N).pins=false:=rfl
theorem qSr (N:Nat):qn Try.prog (T37 N):=qt fun _=>rfl
theorem qEW (N:Nat) (i:Nat):(T37 N).tr i=qjt i:=rfl
theorem qzh (N:Nat) (i:Nat):(T37 N).lp i=qmI i:=rfl
theorem qAr (N:Nat) (i:Nat):(T37 N).ex i=ql2 i:=rfl
theorem qCQ (N:Nat) (i:Nat):(T37 N).rg i=qny i:=rfl
theorem qB6 (N:Nat) (i:Nat):(T37 N).jn i=qnU i:=rfl
theorem qw2 (N:Nat):(T37 N).fuel=N:=rfl
noncomputable def qIf:Code:=cut [true,false,true,true,true] (Try.f37.body.getD .skip)
theorem qVx {N:Nat} {Q:X→St→Option (qc [i3])} {e:List LV} {h:List Blk}:qf tt Γ37 (T37 N) qIf Q ⟨e,h⟩=qf tt Γ37 (T37 N) (cut [true,false,true,true,true] (Try.f37.body.getD .skip)) Q ⟨e,h⟩:=rfl
theorem qP1 (N:Nat) (v2:List (Val qa)) {k0:Int→Option (qc [i3])} {Q:X→St→Option (qc [i3])} {c:Code} (hc:c=qIf) (hret: ∀st,Q .ret st=qN tt true [i3] [.tmp 4] st) (h0: ∀(v5:Int),Q (.exit 0) ⟨[u,.one (.int .i64 v5),u,u,u,u,u,u,u,u,u,u,u,u,u,u,u,u,u,u,u,u,u,u,u,u,u,u,u,u,u,u,u,u,u,u,u,u,u,u,u,u,u,u,u,u,u,u,u,u,u,u,u,u,u,u,u,u,u,u,u,u,u,u,u,u,u,u,u,u,u,u,u,u,u,u,u,u,u,u,u,u,u,u,u,u,u,u,u,u,u,u,u,u,u,u,u,u,u,u,u,u,u,u,u,u,u,u,u,u],[]⟩=k0 v5): ∀(n:Nat) (v3:Int) (v4:Int),qI (qf tt Γ37 (T37 N) c) false qk3 Q n ⟨[.one (.sl 120 qa v2 0),.one (.int .i64 v3),u,u,u,.one (.int .i64 v4),u,u,u,u,u,u,u,u,u,u,u,u,u,u,u,u,u,u,u,u,u,u,u,u,u,u,u,u,u,u,u,u,u,u,u,u,u,u,u,u,u,u,u,u,u,u,u,u,u,u,u,u,u,u,u,u,u,u,u,u,u,u,u,u,u,u,u,u,u,u,u,u,u,u,u,u,u,u,u,u,u,u,u,u,u,u,u,u,u,u,u,u,u,u,u,u,u,u,u,u,u,u,u,u],[]⟩=qgI N v2 k0 n v3 v4:=by
 subst hc;intro n;induction n with
 | zero=>intros;rfl
 | succ n ih=>
   intro v3 v4
   rw [qS,qVx,qgI];unfold Try.f37
   simp (maxSteps:=10000000) -implicitDefEqProofs [qEW,qjt,qzh,qmI,qAr,ql2,qCQ,qny,qB6,qnU,qw2,qEk,qEH,qu9,qzV,qAw,qDP,qv3,qyS,qyL,g34,g86,hret,h0,ih]
theorem qYq (N:Nat) (v0:List (Val qa)) (v1:Int):qf tt Γ37 (T37 N) (Try.f37.body.getD .skip) (qo tt true [i3] [.tmp 4]) (qv [i65,i3] 110 (v0,v1,()))=m37 N v0 v1:=by
 unfold Try.f37
 simp (maxSteps:=10000000) -implicitDefEqProofs [qEW,qjt,qzh,qmI,qAr,ql2,qCQ,qny,qB6,qnU,qw2,qEk,qEH,qu9,qzV,qAw,qDP,qv3,qyS,qyL,g34,g86]
 rewrite [qP1 (k0:=(fun (v6:Int)=>some (v6,()))) N _ ?_ ?_ ?_]
 ·rewrite [m37];first | rfl | simp (maxSteps:=10000000) -implicitDefEqProofs []
 ·rfl
 ·intro;simp only [qQ,qR,qT,qr]
 ·intro v6;simp (maxSteps:=10000000) -implicitDefEqProofs [qEW,qjt,qzh,qmI,qAr,ql2,qCQ,qny,qB6,qnU,qw2,qEk,qEH,qu9,qzV,qAw,qDP,qv3,qyS,qyL,g34,g86]
def g37:G:={ps:=[i65,i3],rs:=[i3],dp:=true,pre:=fun x=>qlK x.1 x.2.1,fn:=fun x=>(qge x.1 x.2.1,())}
theorem qHB {v:List (Val (.int .i64))} {k:Int} (e:(mkE (.slice 3 (.int .i64)) v k).1=v) (hb:Bd (.slice 3 (.int .i64)) v) (h0:0≤k) (hc:k+(qad (.slice 3 (.int .i64)) v:Nat)≤4611686018427387904):qmD v k∧qb7 v k=(mkE (.slice 3 (.int .i64)) v k).2∧(mkE (.slice 3 (.int .i64)) v k).2=k+(qad (.slice 3 (.int .i64)) v:Nat):=
 ⟨⟨e,hb,h0,hc⟩,rfl,qi3 (.slice 3 (.int .i64)) v k h0 hc⟩
theorem e37 (x:List (Val qa)) (k:Int) (h:qlK x k): ∃N,m37 N x k=some (qge x k,()):=⟨x.length+1,by
 obtain ⟨hm,hb,h0,hc⟩:=h
 rw [m37]
 refine qHq (t:=qa) (F:=fun n i k=>qgI _ x _ n k i) (kf:=fun k=>some (k,())) x hb.1 (fun n i k hi hx h0 hc=> ?_) (fun n i k hi=> ?_) _ k (Nat.lt_succ_self _) hm h0 hc
 ·have hb:=hb.2 _ (List.getElem_mem hi)
  have hd: ∀d,x.getD (Int.toNat (i:Int)) d=x[i]:=fun d=>qE hi d
  rw [qgI,qj (by omega),qd (by omega),hd]
  generalize x[i]=y at hx hc hb
  obtain ⟨K,⟨co,c,s⟩,nm,lb,vs,vr,A,B⟩:=y
  obtain ⟨q1,r1⟩:=Prod.mk.inj hx
  obtain ⟨ra,r2⟩:=Prod.mk.inj r1
  obtain ⟨q2,rb⟩:=Prod.mk.inj ra
  obtain ⟨q3,q4⟩:=Prod.mk.inj rb
  obtain ⟨q5,r3⟩:=Prod.mk.inj r2
  obtain ⟨q6,r4⟩:=Prod.mk.inj r3
  obtain ⟨q7,r5⟩:=Prod.mk.inj r4
  obtain ⟨q8,r6⟩:=Prod.mk.inj r5
  obtain ⟨q9,q10⟩:=Prod.mk.inj r6
  have hcnt:qad qa ((K,(co,c,s),nm,lb,vs,vr,A,B):Val qa)=1+((qad (.slice 3 (.int .i64)) co+(1+1))+(1+(1+(qad (.slice 3 (.int .i64)) vs+(1+(1+1)))))):=rfl
  have w1:IntKind.i64.wrap (k+1)=k+1:=qax (by omega) (by omega)
  have hk1:mkE (.int .i64) K k=(k,IntKind.i64.wrap (k+1)):=rfl
  obtain ⟨p2,v2,n2⟩:=qHB (v:=co) (k:=IntKind.i64.wrap (k+1)) q2 hb.2.1.1 (by omega) (by omega)
  dsimp only
  rw [qL,qj (show (K:Int)=k from q1.symm),qd (by omega),qd p2,qh (by rw [v2];omega),v2]
  have q3:(mkE (.slice 3 (.int .i64)) co (IntKind.i64.wrap (k+1))).2=(c:Int):=q3
  have q4:decide (Int.tmod (IntKind.i64.wrap ((mkE (.slice 3 (.int .i64)) co (IntKind.i64.wrap (k+1))).2+1)) 3=0)=s:=q4
  have q5:qZ (IntKind.i64.wrap (IntKind.i64.wrap ((mkE (.slice 3 (.int .i64)) co (IntKind.i64.wrap (k+1))).2+1)+1))=nm:=q5
  have q6:qZ (IntKind.i64.wrap (IntKind.i64.wrap (IntKind.i64.wrap ((mkE (.slice 3 (.int .i64)) co (IntKind.i64.wrap (k+1))).2+1)+1)+1))=lb:=q6
  have q7:(mkE (.slice 3 (.int .i64)) vs (IntKind.i64.wrap (IntKind.i64.wrap (IntKind.i64.wrap (IntKind.i64.wrap ((mkE (.slice 3 (.int .i64)) co (IntKind.i64.wrap (k+1))).2+1)+1)+1)+1))).1=vs:=q7
  have q8:(mkE (.slice 3 (.int .i64)) vs (IntKind.i64.wrap (IntKind.i64.wrap (IntKind.i64.wrap (IntKind.i64.wrap ((mkE (.slice 3 (.int .i64)) co (IntKind.i64.wrap (k+1))).2+1)+1)+1)+1))).2=(vr:Int):=q8
  have q9:IntKind.i64.wrap ((mkE (.slice 3 (.int .i64)) vs (IntKind.i64.wrap (IntKind.i64.wrap (IntKind.i64.wrap (IntKind.i64.wrap ((mkE (.slice 3 (.int .i64)) co (IntKind.i64.wrap (k+1))).2+1)+1)+1)+1))).2+1)=(A:Int):=q9
  have q10:IntKind.i64.wrap (IntKind.i64.wrap ((mkE (.slice 3 (.int .i64)) vs (IntKind.i64.wrap (IntKind.i64.wrap (IntKind.i64.wrap (IntKind.i64.wrap ((mkE (.slice 3 (.int .i64)) co (IntKind.i64.wrap (k+1))).2+1)+1)+1)+1))).2+1)+1)=(B:Int):=q10
  have fin:(mkE qa ((K,(co,c,s),nm,lb,vs,vr,A,B):Val qa) k).2=IntKind.i64.wrap (IntKind.i64.wrap (IntKind.i64.wrap ((mkE (.slice 3 (.int .i64)) vs (IntKind.i64.wrap (IntKind.i64.wrap (IntKind.i64.wrap (IntKind.i64.wrap ((mkE (.slice 3 (.int .i64)) co (IntKind.i64.wrap (k+1))).2+1)+1)+1)+1))).2+1)+1)+1):=rfl
  rw [fin]
  generalize hA:(mkE (.slice 3 (.int .i64)) co (IntKind.i64.wrap (k+1))).2=kA at*
  have u1:IntKind.i64.wrap (kA+1)=kA+1:=qax (by omega) (by omega)
  have u2:IntKind.i64.wrap (kA+1+1)=kA+2:=by rw [qax (by omega) (by omega)];omega
  have u3:IntKind.i64.wrap (kA+2+1)=kA+3:=by rw [qax (by omega) (by omega)];omega
  have u4:IntKind.i64.wrap (kA+3+1)=kA+4:=by rw [qax (by omega) (by omega)];omega
  simp only [u1,u2,u3,u4]at q4 q5 q6 q7 q8 q9 q10 ⊢
  obtain ⟨p7,v7,n7⟩:=qHB (v:=vs) (k:=kA+4) q7 hb.2.2.2.2.1 (by omega) (by omega)
  rw [qd (by omega),qL,qj q3.symm,qd (by omega),qd (by decide),qL,qBs (by rw [q4];exact beq_self_eq_true _),qd (by omega),qd (show qcF (kA+2) by show kA+2≤_;omega),qL,qBs (by rw [q5];exact beq_self_eq_true _),qd (by omega),qd (show qcF (kA+3) by show kA+3≤_;omega),qL,qBs (by rw [q6];exact beq_self_eq_true _),qd (by omega),qd p7,qh (by rw [v7];omega),v7,qd (by omega),qL,qj q8.symm,qd (by omega),qL,qj q9.symm,qd (by omega),qL,qj q10.symm]
 ·rw [qgI,qh (by omega)]⟩
theorem s37:Sound Try.prog 37 g37:=qz (tt:=tt) (Γ:=Γ37) hT (ql s34 (ql s86 qp)) hm (fn:=Try.f37) Try.func37 (c:=Try.f37.body.getD .skip) (by kernel_rfl) (by kernel_rfl) fun x hx=>by
 obtain ⟨N,h⟩:=e37 x.1 x.2.1 hx
 exact ⟨T37 N,p37,qx _,qSr N,(qYq N x.1 x.2.1).trans h⟩
end Go.T
