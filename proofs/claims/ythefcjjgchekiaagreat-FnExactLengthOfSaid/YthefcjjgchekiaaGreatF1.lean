/- Sizes, copies and equality of regions. -/
import Derived.Test.YthefcjjgchekiaaGreatA1
set_option linter.unusedSimpArgs false
set_option linter.unusedVariables false
namespace Go.T
open Go Go.Proofs
set_option maxHeartbeats 4000000
set_option maxRecDepth 100000
def qg1 (x:List (Val (.int .i64))) (n:Int):Int:=szV (.slice 3 (.int .i64)) x n
def qFq (x:List (Val (.int .i64))) (n:Int):Prop:=qlx (.slice 3 (.int .i64)) x n
noncomputable def qAz (N:Nat) (v0:List (Val (.int .i64))) (v1:Int):Option (qc [i3]):=bif (decide ((IntKind.i64.wrap (v1 - (v0.length:Int)))<(0:Int)))then (some ((-1:Int),()))else (some ((IntKind.i64.wrap (v1 - (v0.length:Int))),()))
def q4Z:Gam:=[]
def qDV:Nat→Tree:=fun _=> .done
def qOU:Nat→Nm:=fun _=>⟨[],[],false⟩
def qY6:Nat→Option Jn:=fun _=>none
def qQw:Nat→Option Nm:=fun _=>none
def qUw:Nat→Option Nm:=fun _=>none
theorem zy5:qh qDV (Tryz.f176.body.getD .skip)=true:=by kernel_rfl
def qfs (N:Nat):Tab:={tr:=qDV,lp:=qOU,ex:=qQw,rg:=qUw,jn:=qY6,fuel:=N}
theorem zke (N:Nat):(qfs N).pins=false:=rfl
theorem zhU (N:Nat):qk Tryz.prog (qfs N):=qo fun _=>rfl
theorem ziE (N:Nat) (i:Nat):(qfs N).tr i=qDV i:=rfl
theorem zuV (N:Nat) (i:Nat):(qfs N).lp i=qOU i:=rfl
theorem zgg (N:Nat) (i:Nat):(qfs N).ex i=qQw i:=rfl
theorem zkE (N:Nat) (i:Nat):(qfs N).rg i=qUw i:=rfl
theorem znl (N:Nat) (i:Nat):(qfs N).jn i=qY6 i:=rfl
theorem zt7 (N:Nat):(qfs N).fuel=N:=rfl
theorem zmj (N:Nat) (v0:List (Val (.int .i64))) (v1:Int):qf tt q4Z (qfs N) (Tryz.f176.body.getD .skip) (qm tt true [i3] [.tmp 4]) (qp [i25,i3] 12 (v0,v1,()))=qAz N v0 v1:=by
 rw [qAz];unfold Tryz.f176
 simp (maxSteps:=10000000) -implicitDefEqProofs [ziE,qDV,zuV,qOU,zgg,qQw,zkE,qUw,znl,qY6,zt7,zke]
 try rfl
def qz3:G:={ps:=[i25,i3],rs:=[i3],dp:=true,pre:=fun x=>qFq x.1 x.2.1,fn:=fun x=>(qg1 x.1 x.2.1,())}
theorem zjz (x:List (Val (.int .i64))) (n:Int) (h:qFq x n): ∃N,qAz N x n=some (qg1 x n,()):=⟨0,by
 obtain ⟨hs,h0,h1⟩:=h
 rw [qAz,qPa h0 h1 hs.1]
 simp only [qg1,qS2]
 by_cases c:n - (List.length x:Int)<0
 ·rw [qj c,if_pos c]
 ·rw [qi c,if_neg c,zBi (fun _ _=>rfl) _ _ (by omega)]⟩
theorem zzv:Sound Tryz.prog 176 qz3:=qr (tt:=tt) (Γ:=q4Z) hT qn hm (fn:=Tryz.f176) Tryz.func176 (c:=Tryz.f176.body.getD .skip) (by kernel_rfl) (by kernel_rfl) fun x hx=>by
 obtain ⟨N,h⟩:=zjz x.1 x.2.1 hx
 exact ⟨qfs N,zy5,qu _,zhU N,(zmj N x.1 x.2.1).trans h⟩
def ql5 (x:Val qac) (n:Int):Int:=szV qac x n
def qGi (x:Val qac) (n:Int):Prop:=qlx qac x n
noncomputable def qzL (N:Nat) (v0:Val qac) (v1:Int):Option (qc [i3]):=chk (qFq (v0.1:List (Val (.int .i64))) v1) (bif (decide (((qg1 (v0.1:List (Val (.int .i64))) v1):Int)<(0:Int)))then (some ((-1:Int),()))else (some (((qg1 (v0.1:List (Val (.int .i64))) v1):Int),())))
def qRQ:Gam:=[(176,qz3)]
theorem znj:Gam.get qRQ 176=some qz3:=rfl
def qBA:Nat→Tree:=fun _=> .done
def qMm:Nat→Nm:=fun _=>⟨[],[],false⟩
def q2L:Nat→Option Jn:=fun _=>none
def q3R:Nat→Option Nm:=fun _=>none
def qQS:Nat→Option Nm:=fun _=>none
theorem zv3:qh qBA (Tryz.f175.body.getD .skip)=true:=by kernel_rfl
def qgk (N:Nat):Tab:={tr:=qBA,lp:=qMm,ex:=q3R,rg:=qQS,jn:=q2L,fuel:=N}
theorem zmF (N:Nat):(qgk N).pins=false:=rfl
theorem zhH (N:Nat):qk Tryz.prog (qgk N):=qo fun _=>rfl
theorem zzD (N:Nat) (i:Nat):(qgk N).tr i=qBA i:=rfl
theorem zeM (N:Nat) (i:Nat):(qgk N).lp i=qMm i:=rfl
theorem zo8 (N:Nat) (i:Nat):(qgk N).ex i=q3R i:=rfl
theorem zrC (N:Nat) (i:Nat):(qgk N).rg i=qQS i:=rfl
theorem ziL (N:Nat) (i:Nat):(qgk N).jn i=q2L i:=rfl
theorem zyQ (N:Nat):(qgk N).fuel=N:=rfl
theorem zru (N:Nat) (v0:Val qac) (v1:Int):qf tt qRQ (qgk N) (Tryz.f175.body.getD .skip) (qm tt true [i3] [.tmp 4]) (qp [qiX,i3] 12 (v0,v1,()))=qzL N v0 v1:=by
 rw [qzL];unfold Tryz.f175
 simp (maxSteps:=10000000) -implicitDefEqProofs [zzD,qBA,zeM,qMm,zo8,q3R,zrC,qQS,ziL,q2L,zyQ,zmF,znj,qz3]
 try rfl
def qnk:G:={ps:=[qiX,i3],rs:=[i3],dp:=true,pre:=fun x=>qGi x.1 x.2.1,fn:=fun x=>(ql5 x.1 x.2.1,())}
theorem zcH (x:Val qac) (n:Int) (h:qGi x n): ∃N,qzL N x n=some (ql5 x n,()):=⟨0,by
 obtain ⟨x0,x1,x2⟩:=x
 obtain ⟨hs,h0,h1⟩:=h
 obtain ⟨s0,s1,s2⟩:=hs
 rw [qzL,ql5]
 dsimp only
 rw [qe (show qFq x0 n from ⟨s0,h0,h1⟩)]
 by_cases c0:qg1 x0 n<0
 ·rw [qj c0,zce (show szV (.slice 3 (.int .i64)) x0 n<0 from c0)]
 ·have h00:0≤qg1 x0 n:=by omega
  have h10:qg1 x0 n≤1048576:=Int.le_trans (qb4 (.slice 3 (.int .i64)) x0 n h0).1 h1
  rw [qi c0,zop (show 0≤szV (.slice 3 (.int .i64)) x0 n from h00)]
  change _=some (szV (.pair (.int .i64) .bool) _ (qg1 x0 n),())
  rw [qOk h00]
  rfl⟩
theorem zwj:Sound Tryz.prog 175 qnk:=qr (tt:=tt) (Γ:=qRQ) hT (qg zzv qn) hm (fn:=Tryz.f175) Tryz.func175 (c:=Tryz.f175.body.getD .skip) (by kernel_rfl) (by kernel_rfl) fun x hx=>by
 obtain ⟨N,h⟩:=zcH x.1 x.2.1 hx
 exact ⟨qgk N,zv3,qu _,zhH N,(zru N x.1 x.2.1).trans h⟩
def qoj (x:List (Val qac)) (n:Int):Int:=szV (.slice 101 qac) x n
def qFY (x:List (Val qac)) (n:Int):Prop:=qlx (.slice 101 qac) x n
noncomputable def ql3 (N:Nat) (v2:List (Val qac)) (k0:Int→Option (qc [i3])):Nat→Int→Int→Option (qc [i3])
 | 0,_,_=>none
 | n+1,v3,v4=>bif (decide (v4<(v2.length:Int)))then (chk (0≤v4∧v4<(v2.length:Int)) (chk (qGi (v2.getD v4.toNat (qb qac)) v3) (bif (decide (((ql5 (v2.getD v4.toNat (qb qac)) v3):Int)<(0:Int)))then (some ((-1:Int),()))else (ql3 N v2 k0 n ((ql5 (v2.getD v4.toNat (qb qac)) v3):Int) (IntKind.i64.wrap (v4+(1:Int)))))))else (k0 v3)
noncomputable def qEt (N:Nat) (v0:List (Val qac)) (v1:Int):Option (qc [i3]):=bif (decide ((IntKind.i64.wrap (v1 - (v0.length:Int)))<(0:Int)))then (some ((-1:Int),()))else (ql3 N v0 (fun (v6:Int)=>some (v6,())) N (IntKind.i64.wrap (v1 - (v0.length:Int))) (0:Int))
def qnA:Gam:=[(175,qnk)]
theorem qNP:Gam.get qnA 175=some qnk:=rfl
def qrr:Nm:=⟨[true,true,false,false,false,true],[],false⟩
theorem q4U:qrr.zero=false:=rfl
theorem qKy:qrr.fix=[]:=rfl
theorem qMu:qrr.keep=[true,true,false,false,false,true]:=rfl
def qzu:Nm:=⟨[false,true],[],false⟩
theorem qMb:qzu.zero=false:=rfl
theorem qST:qzu.fix=[]:=rfl
theorem qVw:qzu.keep=[false,true]:=rfl
def qoH:Nat→Tree:=fun _=> .done
def qru:Nat→Nm:=fun i=>if i=5 then qrr else ⟨[],[],false⟩
def qyH:Nat→Option Jn:=fun _=>none
def qwL:Nat→Option Nm:=fun i=>if i=0 then some qzu else none
def qqJ:Nat→Option Nm:=fun _=>none
theorem zyI:qh qoH (Tryz.f103.body.getD .skip)=true:=by kernel_rfl
def qdT (N:Nat):Tab:={tr:=qoH,lp:=qru,ex:=qwL,rg:=qqJ,jn:=qyH,fuel:=N}
theorem q4t (N:Nat):(qdT N).pins=false:=rfl
theorem zpp (N:Nat):qk Tryz.prog (qdT N):=qo fun _=>rfl
theorem qT1 (N:Nat) (i:Nat):(qdT N).tr i=qoH i:=rfl
theorem q2g (N:Nat) (i:Nat):(qdT N).lp i=qru i:=rfl
theorem q1h (N:Nat) (i:Nat):(qdT N).ex i=qwL i:=rfl
theorem q2n (N:Nat) (i:Nat):(qdT N).rg i=qqJ i:=rfl
theorem qZh (N:Nat) (i:Nat):(qdT N).jn i=qyH i:=rfl
theorem qX1 (N:Nat):(qdT N).fuel=N:=rfl
noncomputable def q66:Code:=cut [true,true,true,false,true,true,true] (Tryz.f103.body.getD .skip)
theorem zfp {N:Nat} {Q:X→St→Option (qc [i3])} {e:List LV} {h:List Blk}:qf tt qnA (qdT N) q66 Q ⟨e,h⟩=qf tt qnA (qdT N) (cut [true,true,true,false,true,true,true] (Tryz.f103.body.getD .skip)) Q ⟨e,h⟩:=rfl
theorem zca (N:Nat) (v2:List (Val qac)) {k0:Int→Option (qc [i3])} {Q:X→St→Option (qc [i3])} {c:Code} (hc:c=q66) (hret: ∀st,Q .ret st=qC tt true [i3] [.tmp 4] st) (h0: ∀(v5:Int),Q (.exit 0) ⟨[u,.one (.int .i64 v5),u,u,u,u,u,u,u,u,u,u,u,u,u,u,u,u,u,u,u,u,u,u,u,u,u],[]⟩=k0 v5): ∀(n:Nat) (v3:Int) (v4:Int),qD (qf tt qnA (qdT N) c) false qrr Q n ⟨[.one (.sl 101 qac v2 0),.one (.int .i64 v3),u,u,u,.one (.int .i64 v4),u,u,u,u,u,u,u,u,u,u,u,u,u,u,u,u,u,u,u,u,u],[]⟩=ql3 N v2 k0 n v3 v4:=by
 subst hc;intro n;induction n with
 | zero=>intros;rfl
 | succ n ih=>
   intro v3 v4
   rw [qN,zfp,ql3];unfold Tryz.f103
   simp (maxSteps:=10000000) -implicitDefEqProofs [qT1,qoH,q2g,qru,q1h,qwL,q2n,qqJ,qZh,qyH,qX1,q4t,qKy,qMu,q4U,qST,qVw,qMb,qNP,qnk,hret,h0,ih]
theorem ztX (N:Nat) (v0:List (Val qac)) (v1:Int):qf tt qnA (qdT N) (Tryz.f103.body.getD .skip) (qm tt true [i3] [.tmp 4]) (qp [i22,i3] 27 (v0,v1,()))=qEt N v0 v1:=by
 unfold Tryz.f103
 simp (maxSteps:=10000000) -implicitDefEqProofs [qT1,qoH,q2g,qru,q1h,qwL,q2n,qqJ,qZh,qyH,qX1,q4t,qKy,qMu,q4U,qST,qVw,qMb,qNP,qnk]
 rewrite [zca (k0:=(fun (v6:Int)=>some (v6,()))) N _ ?_ ?_ ?_]
 ·rewrite [qEt];first | rfl | simp (maxSteps:=10000000) -implicitDefEqProofs []
 ·rfl
 ·intro;simp only [qK,qL,qJ,qB]
 ·intro v6;simp (maxSteps:=10000000) -implicitDefEqProofs [qT1,qoH,q2g,qru,q1h,qwL,q2n,qqJ,qZh,qyH,qX1,q4t,qKy,qMu,q4U,qST,qVw,qMb,qNP,qnk]
def qCm:G:={ps:=[i22,i3],rs:=[i3],dp:=true,pre:=fun x=>qFY x.1 x.2.1,fn:=fun x=>(qoj x.1 x.2.1,())}
theorem zAS (x:List (Val qac)) (n:Int) (h:qFY x n): ∃N,qEt N x n=some (qoj x n,()):=⟨List.length x+1,by
 obtain ⟨hs,h0,h1⟩:=h
 rw [qEt,qPa h0 h1 hs.1]
 simp only [qoj,qS2]
 by_cases c:n - (List.length x:Int)<0
 ·rw [qj c,if_pos c]
 ·rw [qi c,if_neg c]
  refine (qaZ (F:=fun n i s=>ql3 _ x _ n s i) (step:=fun _ y (s:Int) K=>chk (qGi y s) (bif decide (ql5 y s<0)then some ((-1:Int),())else K (ql5 y s))) (k:=fun s=>some (s,())) (by omega) (fun n i s hi=> ?_) (fun n i s hi=> ?_) _ _ (Nat.lt_succ_self _)).trans (qZv (t:=qac) x 0 _ (by omega) (by omega) hs.2)
  ·rw [ql3,qj (by omega),qe (by omega),qI hi]
  ·rw [ql3,qi (by omega)]⟩
theorem zvW:Sound Tryz.prog 103 qCm:=qr (tt:=tt) (Γ:=qnA) hT (qg zwj qn) hm (fn:=Tryz.f103) Tryz.func103 (c:=Tryz.f103.body.getD .skip) (by kernel_rfl) (by kernel_rfl) fun x hx=>by
 obtain ⟨N,h⟩:=zAS x.1 x.2.1 hx
 exact ⟨qdT N,zyI,qu _,zpp N,(ztX N x.1 x.2.1).trans h⟩
def qjF (x:Val Y24) (n:Int):Int:=szV Y24 x n
def qAf (x:Val Y24) (n:Int):Prop:=qlx Y24 x n
noncomputable def m22 (N:Nat) (v0:Val Y24) (v1:Int):Option (qc [i3]):=chk (qFY (v0.2:List (Val qac)) v1) (bif (decide (((qoj (v0.2:List (Val qac)) v1):Int)<(0:Int)))then (some ((-1:Int),()))else (some (((qoj (v0.2:List (Val qac)) v1):Int),())))
def Γ22:Gam:=[(103,qCm)]
theorem zrz:Gam.get Γ22 103=some qCm:=rfl
def qDa:Nat→Tree:=fun _=> .done
def qJ6:Nat→Nm:=fun _=>⟨[],[],false⟩
def q14:Nat→Option Jn:=fun _=>none
def qN0:Nat→Option Nm:=fun _=>none
def q4c:Nat→Option Nm:=fun _=>none
theorem p22:qh qDa (Tryz.f22.body.getD .skip)=true:=by kernel_rfl
def T22 (N:Nat):Tab:={tr:=qDa,lp:=qJ6,ex:=qN0,rg:=q4c,jn:=q14,fuel:=N}
theorem zbg (N:Nat):(T22 N).pins=false:=rfl
theorem zeG (N:Nat):qk Tryz.prog (T22 N):=qo fun _=>rfl
theorem zpt (N:Nat) (i:Nat):(T22 N).tr i=qDa i:=rfl
theorem zjO (N:Nat) (i:Nat):(T22 N).lp i=qJ6 i:=rfl
theorem zjY (N:Nat) (i:Nat):(T22 N).ex i=qN0 i:=rfl
theorem zvT (N:Nat) (i:Nat):(T22 N).rg i=q4c i:=rfl
theorem zmG (N:Nat) (i:Nat):(T22 N).jn i=q14 i:=rfl
theorem zn1 (N:Nat):(T22 N).fuel=N:=rfl
theorem zmY (N:Nat) (v0:Val Y24) (v1:Int):qf tt Γ22 (T22 N) (Tryz.f22.body.getD .skip) (qm tt true [i3] [.tmp 4]) (qp [i24,i3] 12 (v0,v1,()))=m22 N v0 v1:=by
 rw [m22];unfold Tryz.f22
 simp (maxSteps:=10000000) -implicitDefEqProofs [zpt,qDa,zjO,qJ6,zjY,qN0,zvT,q4c,zmG,q14,zn1,zbg,zrz,qCm]
 try rfl
def g22:G:={ps:=[i24,i3],rs:=[i3],dp:=true,pre:=fun x=>qAf x.1 x.2.1,fn:=fun x=>(qjF x.1 x.2.1,())}
theorem e22 (x:Val Y24) (n:Int) (h:qAf x n): ∃N,m22 N x n=some (qjF x n,()):=⟨0,by
 obtain ⟨x0,x1⟩:=x
 obtain ⟨hs,h0,h1⟩:=h
 obtain ⟨s0,s1⟩:=hs
 rw [m22,qjF]
 dsimp only
 rw [qOk h0]
 rw [qe (show qFY x1 n from ⟨s1,h0,h1⟩)]
 by_cases c1:qoj x1 n<0
 ·rw [qj c1]
  exact congrArg (fun z=>some (z,())) ((qb4 (.slice 101 qac) x1 n h0).2 c1).symm
 ·rw [qi c1]
  rfl⟩
theorem s22:Sound Tryz.prog 22 g22:=qr (tt:=tt) (Γ:=Γ22) hT (qg zvW qn) hm (fn:=Tryz.f22) Tryz.func22 (c:=Tryz.f22.body.getD .skip) (by kernel_rfl) (by kernel_rfl) fun x hx=>by
 obtain ⟨N,h⟩:=e22 x.1 x.2.1 hx
 exact ⟨T22 N,p22,qu _,zeG N,(zmY N x.1 x.2.1).trans h⟩
def qpt (x:List (Val Y24)) (n:Int):Int:=szV (.slice 24 Y24) x n
def qFR (x:List (Val Y24)) (n:Int):Prop:=qlx (.slice 24 Y24) x n
noncomputable def qkA (N:Nat) (v2:List (Val Y24)) (k0:Int→Option (qc [i3])):Nat→Int→Int→Option (qc [i3])
 | 0,_,_=>none
 | n+1,v3,v4=>bif (decide (v4<(v2.length:Int)))then (chk (0≤v4∧v4<(v2.length:Int)) (chk (qAf (v2.getD v4.toNat (qb Y24)) v3) (bif (decide (((qjF (v2.getD v4.toNat (qb Y24)) v3):Int)<(0:Int)))then (some ((-1:Int),()))else (qkA N v2 k0 n ((qjF (v2.getD v4.toNat (qb Y24)) v3):Int) (IntKind.i64.wrap (v4+(1:Int)))))))else (k0 v3)
noncomputable def qFI (N:Nat) (v0:List (Val Y24)) (v1:Int):Option (qc [i3]):=bif (decide ((IntKind.i64.wrap (v1 - (v0.length:Int)))<(0:Int)))then (some ((-1:Int),()))else (qkA N v0 (fun (v6:Int)=>some (v6,())) N (IntKind.i64.wrap (v1 - (v0.length:Int))) (0:Int))
def qnI:Gam:=[(22,g22)]
theorem qXY:Gam.get qnI 22=some g22:=rfl
def qvq:Nm:=⟨[true,true,false,false,false,true],[],false⟩
theorem qZB:qvq.zero=false:=rfl
theorem qZT:qvq.fix=[]:=rfl
theorem qOf:qvq.keep=[true,true,false,false,false,true]:=rfl
def qDQ:Nm:=⟨[false,true],[],false⟩
theorem qT6:qDQ.zero=false:=rfl
theorem qWt:qDQ.fix=[]:=rfl
theorem qWj:qDQ.keep=[false,true]:=rfl
def qnt:Nat→Tree:=fun _=> .done
def qx7:Nat→Nm:=fun i=>if i=5 then qvq else ⟨[],[],false⟩
def qyP:Nat→Option Jn:=fun _=>none
def qxi:Nat→Option Nm:=fun i=>if i=0 then some qDQ else none
def qyR:Nat→Option Nm:=fun _=>none
theorem zAA:qh qnt (Tryz.f116.body.getD .skip)=true:=by kernel_rfl
def qdu (N:Nat):Tab:={tr:=qnt,lp:=qx7,ex:=qxi,rg:=qyR,jn:=qyP,fuel:=N}
theorem qLJ (N:Nat):(qdu N).pins=false:=rfl
theorem zbo (N:Nat):qk Tryz.prog (qdu N):=qo fun _=>rfl
theorem qUz (N:Nat) (i:Nat):(qdu N).tr i=qnt i:=rfl
theorem q4z (N:Nat) (i:Nat):(qdu N).lp i=qx7 i:=rfl
theorem qQA (N:Nat) (i:Nat):(qdu N).ex i=qxi i:=rfl
theorem qMv (N:Nat) (i:Nat):(qdu N).rg i=qyR i:=rfl
theorem q3U (N:Nat) (i:Nat):(qdu N).jn i=qyP i:=rfl
theorem qKQ (N:Nat):(qdu N).fuel=N:=rfl
noncomputable def q5p:Code:=cut [true,true,true,false,true,true,true] (Tryz.f116.body.getD .skip)
theorem zrV {N:Nat} {Q:X→St→Option (qc [i3])} {e:List LV} {h:List Blk}:qf tt qnI (qdu N) q5p Q ⟨e,h⟩=qf tt qnI (qdu N) (cut [true,true,true,false,true,true,true] (Tryz.f116.body.getD .skip)) Q ⟨e,h⟩:=rfl
theorem zzK (N:Nat) (v2:List (Val Y24)) {k0:Int→Option (qc [i3])} {Q:X→St→Option (qc [i3])} {c:Code} (hc:c=q5p) (hret: ∀st,Q .ret st=qC tt true [i3] [.tmp 4] st) (h0: ∀(v5:Int),Q (.exit 0) ⟨[u,.one (.int .i64 v5),u,u,u,u,u,u,u,u,u,u,u,u,u,u,u,u,u,u,u,u,u,u,u,u,u],[]⟩=k0 v5): ∀(n:Nat) (v3:Int) (v4:Int),qD (qf tt qnI (qdu N) c) false qvq Q n ⟨[.one (.sl 24 Y24 v2 0),.one (.int .i64 v3),u,u,u,.one (.int .i64 v4),u,u,u,u,u,u,u,u,u,u,u,u,u,u,u,u,u,u,u,u,u],[]⟩=qkA N v2 k0 n v3 v4:=by
 subst hc;intro n;induction n with
 | zero=>intros;rfl
 | succ n ih=>
   intro v3 v4
   rw [qN,zrV,qkA];unfold Tryz.f116
   simp (maxSteps:=10000000) -implicitDefEqProofs [qUz,qnt,q4z,qx7,qQA,qxi,qMv,qyR,q3U,qyP,qKQ,qLJ,qZT,qOf,qZB,qWt,qWj,qT6,qXY,g22,hret,h0,ih]
theorem zp5 (N:Nat) (v0:List (Val Y24)) (v1:Int):qf tt qnI (qdu N) (Tryz.f116.body.getD .skip) (qm tt true [i3] [.tmp 4]) (qp [i40,i3] 27 (v0,v1,()))=qFI N v0 v1:=by
 unfold Tryz.f116
 simp (maxSteps:=10000000) -implicitDefEqProofs [qUz,qnt,q4z,qx7,qQA,qxi,qMv,qyR,q3U,qyP,qKQ,qLJ,qZT,qOf,qZB,qWt,qWj,qT6,qXY,g22]
 rewrite [zzK (k0:=(fun (v6:Int)=>some (v6,()))) N _ ?_ ?_ ?_]
 ·rewrite [qFI];first | rfl | simp (maxSteps:=10000000) -implicitDefEqProofs []
 ·rfl
 ·intro;simp only [qK,qL,qJ,qB]
 ·intro v6;simp (maxSteps:=10000000) -implicitDefEqProofs [qUz,qnt,q4z,qx7,qQA,qxi,qMv,qyR,q3U,qyP,qKQ,qLJ,qZT,qOf,qZB,qWt,qWj,qT6,qXY,g22]
def qCv:G:={ps:=[i40,i3],rs:=[i3],dp:=true,pre:=fun x=>qFR x.1 x.2.1,fn:=fun x=>(qpt x.1 x.2.1,())}
theorem zeo (x:List (Val Y24)) (n:Int) (h:qFR x n): ∃N,qFI N x n=some (qpt x n,()):=⟨List.length x+1,by
 obtain ⟨hs,h0,h1⟩:=h
 rw [qFI,qPa h0 h1 hs.1]
 simp only [qpt,qS2]
 by_cases c:n - (List.length x:Int)<0
 ·rw [qj c,if_pos c]
 ·rw [qi c,if_neg c]
  refine (qaZ (F:=fun n i s=>qkA _ x _ n s i) (step:=fun _ y (s:Int) K=>chk (qAf y s) (bif decide (qjF y s<0)then some ((-1:Int),())else K (qjF y s))) (k:=fun s=>some (s,())) (by omega) (fun n i s hi=> ?_) (fun n i s hi=> ?_) _ _ (Nat.lt_succ_self _)).trans (qZv (t:=Y24) x 0 _ (by omega) (by omega) hs.2)
  ·rw [qkA,qj (by omega),qe (by omega),qI hi]
  ·rw [qkA,qi (by omega)]⟩
theorem zbT:Sound Tryz.prog 116 qCv:=qr (tt:=tt) (Γ:=qnI) hT (qg s22 qn) hm (fn:=Tryz.f116) Tryz.func116 (c:=Tryz.f116.body.getD .skip) (by kernel_rfl) (by kernel_rfl) fun x hx=>by
 obtain ⟨N,h⟩:=zeo x.1 x.2.1 hx
 exact ⟨qdu N,zAA,qu _,zbo N,(zp5 N x.1 x.2.1).trans h⟩
def qaT (x:Val Y42) (n:Int):Int:=szV Y42 x n
def qby (x:Val Y42) (n:Int):Prop:=qlx Y42 x n
noncomputable def m30 (N:Nat) (v0:Val Y42) (v1:Int):Option (qc [i3]):=chk (qFR (v0.2:List (Val Y24)) v1) (bif (decide (((qpt (v0.2:List (Val Y24)) v1):Int)<(0:Int)))then (some ((-1:Int),()))else (some (((qpt (v0.2:List (Val Y24)) v1):Int),())))
def Γ30:Gam:=[(116,qCv)]
theorem zd0:Gam.get Γ30 116=some qCv:=rfl
def qB8:Nat→Tree:=fun _=> .done
def qTd:Nat→Nm:=fun _=>⟨[],[],false⟩
def qWc:Nat→Option Jn:=fun _=>none
def qOb:Nat→Option Nm:=fun _=>none
def qH1:Nat→Option Nm:=fun _=>none
theorem p30:qh qB8 (Tryz.f30.body.getD .skip)=true:=by kernel_rfl
def T30 (N:Nat):Tab:={tr:=qB8,lp:=qTd,ex:=qOb,rg:=qH1,jn:=qWc,fuel:=N}
theorem zAq (N:Nat):(T30 N).pins=false:=rfl
theorem zvM (N:Nat):qk Tryz.prog (T30 N):=qo fun _=>rfl
theorem zkI (N:Nat) (i:Nat):(T30 N).tr i=qB8 i:=rfl
theorem zx6 (N:Nat) (i:Nat):(T30 N).lp i=qTd i:=rfl
theorem zf6 (N:Nat) (i:Nat):(T30 N).ex i=qOb i:=rfl
theorem zcm (N:Nat) (i:Nat):(T30 N).rg i=qH1 i:=rfl
theorem zs9 (N:Nat) (i:Nat):(T30 N).jn i=qWc i:=rfl
theorem zzX (N:Nat):(T30 N).fuel=N:=rfl
theorem zfO (N:Nat) (v0:Val Y42) (v1:Int):qf tt Γ30 (T30 N) (Tryz.f30.body.getD .skip) (qm tt true [i3] [.tmp 4]) (qp [i42,i3] 12 (v0,v1,()))=m30 N v0 v1:=by
 rw [m30];unfold Tryz.f30
 simp (maxSteps:=10000000) -implicitDefEqProofs [zkI,qB8,zx6,qTd,zf6,qOb,zcm,qH1,zs9,qWc,zzX,zAq,zd0,qCv]
 try rfl
def g30:G:={ps:=[i42,i3],rs:=[i3],dp:=true,pre:=fun x=>qby x.1 x.2.1,fn:=fun x=>(qaT x.1 x.2.1,())}
theorem e30 (x:Val Y42) (n:Int) (h:qby x n): ∃N,m30 N x n=some (qaT x n,()):=⟨0,by
 obtain ⟨x0,x1⟩:=x
 obtain ⟨hs,h0,h1⟩:=h
 obtain ⟨s0,s1⟩:=hs
 rw [m30,qaT]
 dsimp only
 rw [qOk h0]
 rw [qe (show qFR x1 n from ⟨s1,h0,h1⟩)]
 by_cases c1:qpt x1 n<0
 ·rw [qj c1]
  exact congrArg (fun z=>some (z,())) ((qb4 (.slice 24 Y24) x1 n h0).2 c1).symm
 ·rw [qi c1]
  rfl⟩
theorem s30:Sound Tryz.prog 30 g30:=qr (tt:=tt) (Γ:=Γ30) hT (qg zbT qn) hm (fn:=Tryz.f30) Tryz.func30 (c:=Tryz.f30.body.getD .skip) (by kernel_rfl) (by kernel_rfl) fun x hx=>by
 obtain ⟨N,h⟩:=e30 x.1 x.2.1 hx
 exact ⟨T30 N,p30,qu _,zvM N,(zfO N x.1 x.2.1).trans h⟩
def q0S (x:List (Val (.int .i64))):List (Val (.int .i64)):=x
def qEs (x:List (Val (.int .i64))):Prop:=Bd (.slice 3 (.int .i64)) x
noncomputable def qkm (N:Nat) (v1:List (Val (.int .i64))) (k0:(List (Val (.int .i64)))→Option (qc [i25])):Nat→Int→(List (Val (.int .i64)))→Option (qc [i25])
 | 0,_,_=>none
 | n+1,v2,v3=>bif (decide (v2<(v1.length:Int)))then (chk (0≤v2∧v2<(v1.length:Int)) (chk (0≤v2∧v2<(v3.length:Int)) (chk (v2.toNat<v3.length) (qkm N v1 k0 n (IntKind.i64.wrap (v2+(1:Int))) (v3.set v2.toNat ((v1.getD v2.toNat (qb (.int .i64))):Int))))))else (k0 v3)
noncomputable def m25 (N:Nat) (v0:List (Val (.int .i64))):Option (qc [i25]):=chk (0≤(v0.length:Int)∧(v0.length:Int)≤(v0.length:Int)∧(v0.length:Int)≤1048576) (qkm N v0 (fun (v5:List (Val (.int .i64)))=>some (v5,())) N (0:Int) (List.replicate (v0.length:Int).toNat (qb (.int .i64))))
def Γ25:Gam:=[]
def qwM:Nm:=⟨[true,false,false,true,true],[],false⟩
theorem q2q:qwM.zero=false:=rfl
theorem q34:qwM.fix=[]:=rfl
theorem qXU:qwM.keep=[true,false,false,true,true]:=rfl
def qCk:Nm:=⟨[false,false,false,true],[],false⟩
theorem qSw:qCk.zero=false:=rfl
theorem qUe:qCk.fix=[]:=rfl
theorem q0A:qCk.keep=[false,false,false,true]:=rfl
def qnO:Nat→Tree:=fun _=> .done
def quw:Nat→Nm:=fun i=>if i=3 then qwM else ⟨[],[],false⟩
def qsq:Nat→Option Jn:=fun _=>none
def qrM:Nat→Option Nm:=fun i=>if i=0 then some qCk else none
def qtE:Nat→Option Nm:=fun _=>none
theorem p25:qh qnO (Tryz.f25.body.getD .skip)=true:=by kernel_rfl
def T25 (N:Nat):Tab:={tr:=qnO,lp:=quw,ex:=qrM,rg:=qtE,jn:=qsq,fuel:=N}
theorem q4w (N:Nat):(T25 N).pins=false:=rfl
theorem zov (N:Nat):qk Tryz.prog (T25 N):=qo fun _=>rfl
theorem qJF (N:Nat) (i:Nat):(T25 N).tr i=qnO i:=rfl
theorem qUk (N:Nat) (i:Nat):(T25 N).lp i=quw i:=rfl
theorem qWb (N:Nat) (i:Nat):(T25 N).ex i=qrM i:=rfl
theorem qPG (N:Nat) (i:Nat):(T25 N).rg i=qtE i:=rfl
theorem q05 (N:Nat) (i:Nat):(T25 N).jn i=qsq i:=rfl
theorem qYq (N:Nat):(T25 N).fuel=N:=rfl
noncomputable def q4W:Code:=cut [true,true,false,true,true,true] (Tryz.f25.body.getD .skip)
theorem zyf {N:Nat} {Q:X→St→Option (qc [i25])} {e:List LV} {h:List Blk}:qf tt Γ25 (T25 N) q4W Q ⟨e,h⟩=qf tt Γ25 (T25 N) (cut [true,true,false,true,true,true] (Tryz.f25.body.getD .skip)) Q ⟨e,h⟩:=rfl
theorem zpK (N:Nat) (v1:List (Val (.int .i64))) {k0:(List (Val (.int .i64)))→Option (qc [i25])} {Q:X→St→Option (qc [i25])} {c:Code} (hc:c=q4W) (hret: ∀st,Q .ret st=qC tt true [i25] [.tmp 2] st) (h0: ∀(v4:List (Val (.int .i64))),Q (.exit 0) ⟨[u,u,u,.one (.own 0),u,u,u,u,u,u,u,u,u,u,u,u,u,u,u,u,u,u],[.row 3 (.int .i64) v4 true true 0]⟩=k0 v4): ∀(n:Nat) (v2:Int) (v3:List (Val (.int .i64))),qD (qf tt Γ25 (T25 N) c) false qwM Q n ⟨[.one (.sl 3 (.int .i64) v1 1),u,u,.one (.own 0),.one (.int .i64 v2),u,u,u,u,u,u,u,u,u,u,u,u,u,u,u,u,u],[.row 3 (.int .i64) v3 true true 0]⟩=qkm N v1 k0 n v2 v3:=by
 subst hc;intro n;induction n with
 | zero=>intros;rfl
 | succ n ih=>
   intro v2 v3
   rw [qN,zyf,qkm];unfold Tryz.f25
   simp (maxSteps:=10000000) -implicitDefEqProofs [qJF,qnO,qUk,quw,qWb,qrM,qPG,qtE,q05,qsq,qYq,q4w,q34,qXU,q2q,qUe,q0A,qSw,hret,h0,ih]
theorem ztA (N:Nat) (v0:List (Val (.int .i64))):qf tt Γ25 (T25 N) (Tryz.f25.body.getD .skip) (qm tt true [i25] [.tmp 2]) (qp [i25] 22 (v0,()))=m25 N v0:=by
 unfold Tryz.f25
 simp (maxSteps:=10000000) -implicitDefEqProofs [qJF,qnO,qUk,quw,qWb,qrM,qPG,qtE,q05,qsq,qYq,q4w,q34,qXU,q2q,qUe,q0A,qSw]
 rewrite [zpK (k0:=(fun (v5:List (Val (.int .i64)))=>some (v5,()))) N _ ?_ ?_ ?_]
 ·rewrite [m25];first | rfl | simp (maxSteps:=10000000) -implicitDefEqProofs []
 ·rfl
 ·intro;simp only [qK,qL,qJ,qB]
 ·intro v5;simp (maxSteps:=10000000) -implicitDefEqProofs [qJF,qnO,qUk,quw,qWb,qrM,qPG,qtE,q05,qsq,qYq,q4w,q34,qXU,q2q,qUe,q0A,qSw]
def g25:G:={ps:=[i25],rs:=[i25],dp:=true,pre:=fun x=>qEs x.1,fn:=fun x=>(q0S x.1,())}
theorem e25 (x:List (Val (.int .i64))) (h:qEs x): ∃N,m25 N x=some (q0S x,()):=⟨List.length x+1,by
 rw [m25,qe (qik h.1),Int.toNat_natCast]
 refine qkI (F:=fun n i s=>qkm _ x _ n i s) (k:=fun s=>some (s,())) (qb (.int .i64)) h.1 (fun n i s hi hl=> ?_) (fun n i s hi=> ?_) _ (Nat.lt_succ_self _)
 ·rw [qkm,qj (by omega),qe (by omega),qI hi,qe (by omega),qe (by omega)]
  rfl
 ·rw [qkm,qi (by omega)]⟩
theorem s25:Sound Tryz.prog 25 g25:=qr (tt:=tt) (Γ:=Γ25) hT qn hm (fn:=Tryz.f25) Tryz.func25 (c:=Tryz.f25.body.getD .skip) (by kernel_rfl) (by kernel_rfl) fun x hx=>by
 obtain ⟨N,h⟩:=e25 x.1 hx
 exact ⟨T25 N,p25,qu _,zov N,(ztA N x.1).trans h⟩
def qqM (x:Val qac):Val qa:=x
def qCj (x:Val qac):Prop:=Bd qac x
noncomputable def qCW (N:Nat) (v0:Val qac):Option (qc [ql]):=chk (qEs (v0.1:List (Val (.int .i64)))) (some ((((q0S (v0.1:List (Val (.int .i64)))):List (Val (.int .i64))),(v0.2.1:Int),(v0.2.2:Bool)),()))
def qUc:Gam:=[(25,g25)]
theorem zmn:Gam.get qUc 25=some g25:=rfl
def qA2:Nat→Tree:=fun _=> .done
def qLF:Nat→Nm:=fun _=>⟨[],[],false⟩
def qYx:Nat→Option Jn:=fun _=>none
def qSk:Nat→Option Nm:=fun _=>none
def q4F:Nat→Option Nm:=fun _=>none
theorem zx8:qh qA2 (Tryz.f179.body.getD .skip)=true:=by kernel_rfl
def qf1 (N:Nat):Tab:={tr:=qA2,lp:=qLF,ex:=qSk,rg:=q4F,jn:=qYx,fuel:=N}
theorem zzi (N:Nat):(qf1 N).pins=false:=rfl
theorem zqg (N:Nat):qk Tryz.prog (qf1 N):=qo fun _=>rfl
theorem zhz (N:Nat) (i:Nat):(qf1 N).tr i=qA2 i:=rfl
theorem zpr (N:Nat) (i:Nat):(qf1 N).lp i=qLF i:=rfl
theorem zrZ (N:Nat) (i:Nat):(qf1 N).ex i=qSk i:=rfl
theorem zlL (N:Nat) (i:Nat):(qf1 N).rg i=q4F i:=rfl
theorem zni (N:Nat) (i:Nat):(qf1 N).jn i=qYx i:=rfl
theorem zqx (N:Nat):(qf1 N).fuel=N:=rfl
theorem zeQ (N:Nat) (v0:Val qac):qf tt qUc (qf1 N) (Tryz.f179.body.getD .skip) (qm tt true [ql] [.cell 2 108]) (qp [qiX] 15 (v0,()))=qCW N v0:=by
 rw [qCW];unfold Tryz.f179
 simp (maxSteps:=10000000) -implicitDefEqProofs [zhz,qA2,zpr,qLF,zrZ,qSk,zlL,q4F,zni,qYx,zqx,zzi,zmn,g25]
 try rfl
def qmN:G:={ps:=[qiX],rs:=[ql],dp:=true,pre:=fun x=>qCj x.1,fn:=fun x=>(qqM x.1,())}
theorem zdn (x:Val qac) (h:qCj x): ∃N,qCW N x=some (qqM x,()):=⟨0,by
 obtain ⟨s0,s1,s2⟩:=h
 rw [qCW,qe (show qEs _ from s0)]
 rfl⟩
theorem zls:Sound Tryz.prog 179 qmN:=qr (tt:=tt) (Γ:=qUc) hT (qg s25 qn) hm (fn:=Tryz.f179) Tryz.func179 (c:=Tryz.f179.body.getD .skip) (by kernel_rfl) (by kernel_rfl) fun x hx=>by
 obtain ⟨N,h⟩:=zdn x.1 hx
 exact ⟨qf1 N,zx8,qu _,zqg N,(zeQ N x.1).trans h⟩
def qO8 (x:List (Val qac)):List (Val qa):=x
def qHg (x:List (Val qac)):Prop:=Bd (.slice 101 qac) x
noncomputable def qki (N:Nat) (v1:List (Val qac)) (k0:(List (Val qa))→Option (qc [i31])):Nat→Int→(List (Val qa))→Option (qc [i31])
 | 0,_,_=>none
 | n+1,v2,v3=>bif (decide (v2<(v1.length:Int)))then (chk (0≤v2∧v2<(v1.length:Int)) (chk (qCj (v1.getD v2.toNat (qb qac))) (chk (0≤v2∧v2<(v3.length:Int)) (chk (v2.toNat<v3.length) (qki N v1 k0 n (IntKind.i64.wrap (v2+(1:Int))) (v3.set v2.toNat (((qqM (v1.getD v2.toNat (qb qac))).1:List (Val (.int .i64))),(((qqM (v1.getD v2.toNat (qb qac))).2).1:Int),(((qqM (v1.getD v2.toNat (qb qac))).2).2:Bool))))))))else (k0 v3)
noncomputable def qGM (N:Nat) (v0:List (Val qac)):Option (qc [i31]):=chk (0≤(v0.length:Int)∧(v0.length:Int)≤(v0.length:Int)∧(v0.length:Int)≤1048576) (qki N v0 (fun (v5:List (Val qa))=>some (v5,())) N (0:Int) (List.replicate (v0.length:Int).toNat (qb qa)))
def qmJ:Gam:=[(179,qmN)]
theorem qZD:Gam.get qmJ 179=some qmN:=rfl
def qyZ:Nm:=⟨[true,false,false,true,true],[],false⟩
theorem qZ0:qyZ.zero=false:=rfl
theorem qRn:qyZ.fix=[]:=rfl
theorem qV4:qyZ.keep=[true,false,false,true,true]:=rfl
def qER:Nm:=⟨[false,false,false,true],[],false⟩
theorem qIW:qER.zero=false:=rfl
theorem qUM:qER.fix=[]:=rfl
theorem qLe:qER.keep=[false,false,false,true]:=rfl
def qpk:Nat→Tree:=fun _=> .done
def qtD:Nat→Nm:=fun i=>if i=3 then qyZ else ⟨[],[],false⟩
def qtj:Nat→Option Jn:=fun _=>none
def qvt:Nat→Option Nm:=fun i=>if i=0 then some qER else none
def qqB:Nat→Option Nm:=fun _=>none
theorem zuJ:qh qpk (Tryz.f110.body.getD .skip)=true:=by kernel_rfl
def qdx (N:Nat):Tab:={tr:=qpk,lp:=qtD,ex:=qvt,rg:=qqB,jn:=qtj,fuel:=N}
theorem qOl (N:Nat):(qdx N).pins=false:=rfl
theorem zsO (N:Nat):qk Tryz.prog (qdx N):=qo fun _=>rfl
theorem qI6 (N:Nat) (i:Nat):(qdx N).tr i=qpk i:=rfl
theorem qPQ (N:Nat) (i:Nat):(qdx N).lp i=qtD i:=rfl
theorem qNJ (N:Nat) (i:Nat):(qdx N).ex i=qvt i:=rfl
theorem qQt (N:Nat) (i:Nat):(qdx N).rg i=qqB i:=rfl
theorem qXe (N:Nat) (i:Nat):(qdx N).jn i=qtj i:=rfl
theorem qWC (N:Nat):(qdx N).fuel=N:=rfl
noncomputable def q62:Code:=cut [true,true,false,true,true,true] (Tryz.f110.body.getD .skip)
theorem zqk {N:Nat} {Q:X→St→Option (qc [i31])} {e:List LV} {h:List Blk}:qf tt qmJ (qdx N) q62 Q ⟨e,h⟩=qf tt qmJ (qdx N) (cut [true,true,false,true,true,true] (Tryz.f110.body.getD .skip)) Q ⟨e,h⟩:=rfl
theorem zf5 (N:Nat) (v1:List (Val qac)) {k0:(List (Val qa))→Option (qc [i31])} {Q:X→St→Option (qc [i31])} {c:Code} (hc:c=q62) (hret: ∀st,Q .ret st=qC tt true [i31] [.tmp 2] st) (h0: ∀(v4:List (Val qa)),Q (.exit 0) ⟨[u,u,u,.one (.own 0),u,u,u,u,u,u,u,u,u,u,u,u,u,u,u,u,u,u,u],[.row 108 qa v4 true true 0]⟩=k0 v4): ∀(n:Nat) (v2:Int) (v3:List (Val qa)),qD (qf tt qmJ (qdx N) c) false qyZ Q n ⟨[.one (.sl 101 qac v1 1),u,u,.one (.own 0),.one (.int .i64 v2),u,u,u,u,u,u,u,u,u,u,u,u,u,u,u,u,u,u],[.row 108 qa v3 true true 0]⟩=qki N v1 k0 n v2 v3:=by
 subst hc;intro n;induction n with
 | zero=>intros;rfl
 | succ n ih=>
   intro v2 v3
   rw [qN,zqk,qki];unfold Tryz.f110
   simp (maxSteps:=10000000) -implicitDefEqProofs [qI6,qpk,qPQ,qtD,qNJ,qvt,qQt,qqB,qXe,qtj,qWC,qOl,qRn,qV4,qZ0,qUM,qLe,qIW,qZD,qmN,hret,h0,ih]
theorem zdM (N:Nat) (v0:List (Val qac)):qf tt qmJ (qdx N) (Tryz.f110.body.getD .skip) (qm tt true [i31] [.tmp 2]) (qp [i22] 23 (v0,()))=qGM N v0:=by
 unfold Tryz.f110
 simp (maxSteps:=10000000) -implicitDefEqProofs [qI6,qpk,qPQ,qtD,qNJ,qvt,qQt,qqB,qXe,qtj,qWC,qOl,qRn,qV4,qZ0,qUM,qLe,qIW,qZD,qmN]
 rewrite [zf5 (k0:=(fun (v5:List (Val qa))=>some (v5,()))) N _ ?_ ?_ ?_]
 ·rewrite [qGM];first | rfl | simp (maxSteps:=10000000) -implicitDefEqProofs []
 ·rfl
 ·intro;simp only [qK,qL,qJ,qB]
 ·intro v5;simp (maxSteps:=10000000) -implicitDefEqProofs [qI6,qpk,qPQ,qtD,qNJ,qvt,qQt,qqB,qXe,qtj,qWC,qOl,qRn,qV4,qZ0,qUM,qLe,qIW,qZD,qmN]
def qEg:G:={ps:=[i22],rs:=[i31],dp:=true,pre:=fun x=>qHg x.1,fn:=fun x=>(qO8 x.1,())}
theorem zj6 (x:List (Val qac)) (h:qHg x): ∃N,qGM N x=some (qO8 x,()):=⟨List.length x+1,by
 rw [qGM,qe (qik h.1),Int.toNat_natCast]
 refine qkI (F:=fun n i s=>qki _ x _ n i s) (k:=fun s=>some (s,())) (qb qa) h.1 (fun n i s hi hl=> ?_) (fun n i s hi=> ?_) _ (Nat.lt_succ_self _)
 ·rw [qki,qj (by omega),qe (by omega),qe (show qCj _ from by rw [qI hi];exact h.2 _ (List.getElem_mem hi)),qI hi,qe (by omega),qe (by omega)]
  rfl
 ·rw [qki,qi (by omega)]⟩
theorem zm8:Sound Tryz.prog 110 qEg:=qr (tt:=tt) (Γ:=qmJ) hT (qg zls qn) hm (fn:=Tryz.f110) Tryz.func110 (c:=Tryz.f110.body.getD .skip) (by kernel_rfl) (by kernel_rfl) fun x hx=>by
 obtain ⟨N,h⟩:=zj6 x.1 hx
 exact ⟨qdx N,zuJ,qu _,zsO N,(zdM N x.1).trans h⟩
def qFj (x:Val Y24):Val Y33:=x
def qzd (x:Val Y24):Prop:=Bd Y24 x
noncomputable def m24 (N:Nat) (v0:Val Y24):Option (qc [i33]):=chk (qHg (v0.2:List (Val qac))) (some (((v0.1:Int),((qO8 (v0.2:List (Val qac))):List (Val qa))),()))
def Γ24:Gam:=[(110,qEg)]
theorem zAV:Gam.get Γ24 110=some qEg:=rfl
def qGI:Nat→Tree:=fun _=> .done
def qUC:Nat→Nm:=fun _=>⟨[],[],false⟩
def qOt:Nat→Option Jn:=fun _=>none
def q29:Nat→Option Nm:=fun _=>none
def q2U:Nat→Option Nm:=fun _=>none
theorem p24:qh qGI (Tryz.f24.body.getD .skip)=true:=by kernel_rfl
def T24 (N:Nat):Tab:={tr:=qGI,lp:=qUC,ex:=q29,rg:=q2U,jn:=qOt,fuel:=N}
theorem zA2 (N:Nat):(T24 N).pins=false:=rfl
theorem zxZ (N:Nat):qk Tryz.prog (T24 N):=qo fun _=>rfl
theorem zBD (N:Nat) (i:Nat):(T24 N).tr i=qGI i:=rfl
theorem zuz (N:Nat) (i:Nat):(T24 N).lp i=qUC i:=rfl
theorem zjW (N:Nat) (i:Nat):(T24 N).ex i=q29 i:=rfl
theorem zxQ (N:Nat) (i:Nat):(T24 N).rg i=q2U i:=rfl
theorem zcn (N:Nat) (i:Nat):(T24 N).jn i=qOt i:=rfl
theorem zj2 (N:Nat):(T24 N).fuel=N:=rfl
theorem zjH (N:Nat) (v0:Val Y24):qf tt Γ24 (T24 N) (Tryz.f24.body.getD .skip) (qm tt true [i33] [.cell 2 33]) (qp [i24] 12 (v0,()))=m24 N v0:=by
 rw [m24];unfold Tryz.f24
 simp (maxSteps:=10000000) -implicitDefEqProofs [zBD,qGI,zuz,qUC,zjW,q29,zxQ,q2U,zcn,qOt,zj2,zA2,zAV,qEg]
 try rfl
def g24:G:={ps:=[i24],rs:=[i33],dp:=true,pre:=fun x=>qzd x.1,fn:=fun x=>(qFj x.1,())}
theorem e24 (x:Val Y24) (h:qzd x): ∃N,m24 N x=some (qFj x,()):=⟨0,by
 obtain ⟨s0,s1⟩:=h
 rw [m24,qe (show qHg _ from s1)]
 rfl⟩
theorem s24:Sound Tryz.prog 24 g24:=qr (tt:=tt) (Γ:=Γ24) hT (qg zm8 qn) hm (fn:=Tryz.f24) Tryz.func24 (c:=Tryz.f24.body.getD .skip) (by kernel_rfl) (by kernel_rfl) fun x hx=>by
 obtain ⟨N,h⟩:=e24 x.1 hx
 exact ⟨T24 N,p24,qu _,zxZ N,(zjH N x.1).trans h⟩
def qR7 (x:List (Val Y24)):List (Val Y33):=x
def qFr (x:List (Val Y24)):Prop:=Bd (.slice 24 Y24) x
noncomputable def qlI (N:Nat) (v1:List (Val Y24)) (k0:(List (Val Y33))→Option (qc [i48])):Nat→Int→(List (Val Y33))→Option (qc [i48])
 | 0,_,_=>none
 | n+1,v2,v3=>bif (decide (v2<(v1.length:Int)))then (chk (0≤v2∧v2<(v1.length:Int)) (chk (qzd (v1.getD v2.toNat (qb Y24))) (chk (0≤v2∧v2<(v3.length:Int)) (chk (v2.toNat<v3.length) (qlI N v1 k0 n (IntKind.i64.wrap (v2+(1:Int))) (v3.set v2.toNat (((qFj (v1.getD v2.toNat (qb Y24))).1:Int),((qFj (v1.getD v2.toNat (qb Y24))).2:List (Val qa)))))))))else (k0 v3)
noncomputable def qAS (N:Nat) (v0:List (Val Y24)):Option (qc [i48]):=chk (0≤(v0.length:Int)∧(v0.length:Int)≤(v0.length:Int)∧(v0.length:Int)≤1048576) (qlI N v0 (fun (v5:List (Val Y33))=>some (v5,())) N (0:Int) (List.replicate (v0.length:Int).toNat (qb Y33)))
def qou:Gam:=[(24,g24)]
theorem qP0:Gam.get qou 24=some g24:=rfl
def que:Nm:=⟨[true,false,false,true,true],[],false⟩
theorem q3K:que.zero=false:=rfl
theorem qIl:que.fix=[]:=rfl
theorem q3N:que.keep=[true,false,false,true,true]:=rfl
def qGO:Nm:=⟨[false,false,false,true],[],false⟩
theorem qVL:qGO.zero=false:=rfl
theorem qMp:qGO.fix=[]:=rfl
theorem qWw:qGO.keep=[false,false,false,true]:=rfl
def qoZ:Nat→Tree:=fun _=> .done
def qw6:Nat→Nm:=fun i=>if i=3 then que else ⟨[],[],false⟩
def qqt:Nat→Option Jn:=fun _=>none
def qr5:Nat→Option Nm:=fun i=>if i=0 then some qGO else none
def quv:Nat→Option Nm:=fun _=>none
theorem zb2:qh qoZ (Tryz.f123.body.getD .skip)=true:=by kernel_rfl
def qec (N:Nat):Tab:={tr:=qoZ,lp:=qw6,ex:=qr5,rg:=quv,jn:=qqt,fuel:=N}
theorem qW0 (N:Nat):(qec N).pins=false:=rfl
theorem zjX (N:Nat):qk Tryz.prog (qec N):=qo fun _=>rfl
theorem qMA (N:Nat) (i:Nat):(qec N).tr i=qoZ i:=rfl
theorem q3c (N:Nat) (i:Nat):(qec N).lp i=qw6 i:=rfl
theorem qLj (N:Nat) (i:Nat):(qec N).ex i=qr5 i:=rfl
theorem q3n (N:Nat) (i:Nat):(qec N).rg i=quv i:=rfl
theorem qQX (N:Nat) (i:Nat):(qec N).jn i=qqt i:=rfl
theorem qWk (N:Nat):(qec N).fuel=N:=rfl
noncomputable def za5:Code:=cut [true,true,false,true,true,true] (Tryz.f123.body.getD .skip)
theorem zgm {N:Nat} {Q:X→St→Option (qc [i48])} {e:List LV} {h:List Blk}:qf tt qou (qec N) za5 Q ⟨e,h⟩=qf tt qou (qec N) (cut [true,true,false,true,true,true] (Tryz.f123.body.getD .skip)) Q ⟨e,h⟩:=rfl
theorem zrR (N:Nat) (v1:List (Val Y24)) {k0:(List (Val Y33))→Option (qc [i48])} {Q:X→St→Option (qc [i48])} {c:Code} (hc:c=za5) (hret: ∀st,Q .ret st=qC tt true [i48] [.tmp 2] st) (h0: ∀(v4:List (Val Y33)),Q (.exit 0) ⟨[u,u,u,.one (.own 0),u,u,u,u,u,u,u,u,u,u,u,u,u,u,u,u,u,u,u],[.row 33 Y33 v4 true true 0]⟩=k0 v4): ∀(n:Nat) (v2:Int) (v3:List (Val Y33)),qD (qf tt qou (qec N) c) false que Q n ⟨[.one (.sl 24 Y24 v1 1),u,u,.one (.own 0),.one (.int .i64 v2),u,u,u,u,u,u,u,u,u,u,u,u,u,u,u,u,u,u],[.row 33 Y33 v3 true true 0]⟩=qlI N v1 k0 n v2 v3:=by
 subst hc;intro n;induction n with
 | zero=>intros;rfl
 | succ n ih=>
   intro v2 v3
   rw [qN,zgm,qlI];unfold Tryz.f123
   simp (maxSteps:=10000000) -implicitDefEqProofs [qMA,qoZ,q3c,qw6,qLj,qr5,q3n,quv,qQX,qqt,qWk,qW0,qIl,q3N,q3K,qMp,qWw,qVL,qP0,g24,hret,h0,ih]
theorem zta (N:Nat) (v0:List (Val Y24)):qf tt qou (qec N) (Tryz.f123.body.getD .skip) (qm tt true [i48] [.tmp 2]) (qp [i40] 23 (v0,()))=qAS N v0:=by
 unfold Tryz.f123
 simp (maxSteps:=10000000) -implicitDefEqProofs [qMA,qoZ,q3c,qw6,qLj,qr5,q3n,quv,qQX,qqt,qWk,qW0,qIl,q3N,q3K,qMp,qWw,qVL,qP0,g24]
 rewrite [zrR (k0:=(fun (v5:List (Val Y33))=>some (v5,()))) N _ ?_ ?_ ?_]
 ·rewrite [qAS];first | rfl | simp (maxSteps:=10000000) -implicitDefEqProofs []
 ·rfl
 ·intro;simp only [qK,qL,qJ,qB]
 ·intro v5;simp (maxSteps:=10000000) -implicitDefEqProofs [qMA,qoZ,q3c,qw6,qLj,qr5,q3n,quv,qQX,qqt,qWk,qW0,qIl,q3N,q3K,qMp,qWw,qVL,qP0,g24]
def qBU:G:={ps:=[i40],rs:=[i48],dp:=true,pre:=fun x=>qFr x.1,fn:=fun x=>(qR7 x.1,())}
theorem zjD (x:List (Val Y24)) (h:qFr x): ∃N,qAS N x=some (qR7 x,()):=⟨List.length x+1,by
 rw [qAS,qe (qik h.1),Int.toNat_natCast]
 refine qkI (F:=fun n i s=>qlI _ x _ n i s) (k:=fun s=>some (s,())) (qb Y33) h.1 (fun n i s hi hl=> ?_) (fun n i s hi=> ?_) _ (Nat.lt_succ_self _)
 ·rw [qlI,qj (by omega),qe (by omega),qe (show qzd _ from by rw [qI hi];exact h.2 _ (List.getElem_mem hi)),qI hi,qe (by omega),qe (by omega)]
  rfl
 ·rw [qlI,qi (by omega)]⟩
theorem ziT:Sound Tryz.prog 123 qBU:=qr (tt:=tt) (Γ:=qou) hT (qg s24 qn) hm (fn:=Tryz.f123) Tryz.func123 (c:=Tryz.f123.body.getD .skip) (by kernel_rfl) (by kernel_rfl) fun x hx=>by
 obtain ⟨N,h⟩:=zjD x.1 hx
 exact ⟨qec N,zb2,qu _,zjX N,(zta N x.1).trans h⟩
def qd (x:Val Y42):Val Y50:=x
def q9 (x:Val Y42):Prop:=Bd Y42 x
noncomputable def m33 (N:Nat) (v0:Val Y42):Option (qc [i50]):=chk (qFr (v0.2:List (Val Y24))) (some (((v0.1:Int),((qR7 (v0.2:List (Val Y24))):List (Val Y33))),()))
def Γ33:Gam:=[(123,qBU)]
theorem zuy:Gam.get Γ33 123=some qBU:=rfl
def qCX:Nat→Tree:=fun _=> .done
def qHL:Nat→Nm:=fun _=>⟨[],[],false⟩
def qTS:Nat→Option Jn:=fun _=>none
def q1L:Nat→Option Nm:=fun _=>none
def qLV:Nat→Option Nm:=fun _=>none
theorem p33:qh qCX (Tryz.f33.body.getD .skip)=true:=by kernel_rfl
def T33 (N:Nat):Tab:={tr:=qCX,lp:=qHL,ex:=q1L,rg:=qLV,jn:=qTS,fuel:=N}
theorem zr5 (N:Nat):(T33 N).pins=false:=rfl
theorem zcg (N:Nat):qk Tryz.prog (T33 N):=qo fun _=>rfl
theorem zkr (N:Nat) (i:Nat):(T33 N).tr i=qCX i:=rfl
theorem zxd (N:Nat) (i:Nat):(T33 N).lp i=qHL i:=rfl
theorem ziD (N:Nat) (i:Nat):(T33 N).ex i=q1L i:=rfl
theorem zhG (N:Nat) (i:Nat):(T33 N).rg i=qLV i:=rfl
theorem zoS (N:Nat) (i:Nat):(T33 N).jn i=qTS i:=rfl
theorem zqH (N:Nat):(T33 N).fuel=N:=rfl
theorem zvJ (N:Nat) (v0:Val Y42):qf tt Γ33 (T33 N) (Tryz.f33.body.getD .skip) (qm tt true [i50] [.cell 2 50]) (qp [i42] 12 (v0,()))=m33 N v0:=by
 rw [m33];unfold Tryz.f33
 simp (maxSteps:=10000000) -implicitDefEqProofs [zkr,qCX,zxd,qHL,ziD,q1L,zhG,qLV,zoS,qTS,zqH,zr5,zuy,qBU]
 try rfl
def g33:G:={ps:=[i42],rs:=[i50],dp:=true,pre:=fun x=>q9 x.1,fn:=fun x=>(qd x.1,())}
theorem e33 (x:Val Y42) (h:q9 x): ∃N,m33 N x=some (qd x,()):=⟨0,by
 obtain ⟨s0,s1⟩:=h
 rw [m33,qe (show qFr _ from s1)]
 rfl⟩
theorem s33:Sound Tryz.prog 33 g33:=qr (tt:=tt) (Γ:=Γ33) hT (qg ziT qn) hm (fn:=Tryz.f33) Tryz.func33 (c:=Tryz.f33.body.getD .skip) (by kernel_rfl) (by kernel_rfl) fun x hx=>by
 obtain ⟨N,h⟩:=e33 x.1 hx
 exact ⟨T33 N,p33,qu _,zcg N,(zvJ N x.1).trans h⟩
def qxQ (x y:List (Val (.int .i64))):Bool:=eqV (.slice 3 (.int .i64)) x y
def qFM (x _:List (Val (.int .i64))):Prop:=Bd (.slice 3 (.int .i64)) x
noncomputable def qky (N:Nat) (v2:List (Val (.int .i64))) (v3:List (Val (.int .i64))) (k0:Unit→Option (qc [i4])):Nat→Int→Option (qc [i4])
 | 0,_=>none
 | n+1,v4=>bif (decide (v4<(v2.length:Int)))then (chk (0≤v4∧v4<(v2.length:Int)) (chk (0≤v4∧v4<(v3.length:Int)) (bif (!(decide (((v2.getD v4.toNat (qb (.int .i64))):Int)=((v3.getD v4.toNat (qb (.int .i64))):Int))))then (some (false,()))else (qky N v2 v3 k0 n (IntKind.i64.wrap (v4+(1:Int)))))))else (k0 ())
noncomputable def m29 (N:Nat) (v0:List (Val (.int .i64))) (v1:List (Val (.int .i64))):Option (qc [i4]):=bif (!(decide ((v0.length:Int)=(v1.length:Int))))then (some (false,()))else (qky N v0 v1 (fun (_:Unit)=>some (true,())) N (0:Int))
def Γ29:Gam:=[]
def qq4:Nm:=⟨[true,true,false,false,false,true],[],false⟩
theorem qTV:qq4.zero=false:=rfl
theorem qVU:qq4.fix=[]:=rfl
theorem qOu:qq4.keep=[true,true,false,false,false,true]:=rfl
def qAE:Nm:=⟨[],[],false⟩
theorem qMk:qAE.zero=false:=rfl
theorem q4p:qAE.fix=[]:=rfl
theorem qWU:qAE.keep=[]:=rfl
def qpm:Nat→Tree:=fun i=>if i=6 then .quiet 0 (.quiet 1 (.quiet 2 (.quiet 3 (.quiet 4 (.quiet 5 (.quiet 6 (.quiet 7 (.quiet 8 .done))))))))else .done
def qtn:Nat→Nm:=fun i=>if i=4 then qq4 else ⟨[],[],false⟩
def qsL:Nat→Option Jn:=fun _=>none
def qpG:Nat→Option Nm:=fun i=>if i=0 then some qAE else none
def qs2:Nat→Option Nm:=fun _=>none
theorem p29:qh qpm (Tryz.f29.body.getD .skip)=true:=by kernel_rfl
def T29 (N:Nat):Tab:={tr:=qpm,lp:=qtn,ex:=qpG,rg:=qs2,jn:=qsL,fuel:=N}
theorem qT5 (N:Nat):(T29 N).pins=false:=rfl
theorem zhS (N:Nat):qk Tryz.prog (T29 N):=qo fun _=>rfl
theorem qQp (N:Nat) (i:Nat):(T29 N).tr i=qpm i:=rfl
theorem qLI (N:Nat) (i:Nat):(T29 N).lp i=qtn i:=rfl
theorem qV2 (N:Nat) (i:Nat):(T29 N).ex i=qpG i:=rfl
theorem q1a (N:Nat) (i:Nat):(T29 N).rg i=qs2 i:=rfl
theorem qPt (N:Nat) (i:Nat):(T29 N).jn i=qsL i:=rfl
theorem q1m (N:Nat):(T29 N).fuel=N:=rfl
noncomputable def q5Y:Code:=cut [true,true,false,true,true,true] (Tryz.f29.body.getD .skip)
theorem zeL {N:Nat} {Q:X→St→Option (qc [i4])} {e:List LV} {h:List Blk}:qf tt Γ29 (T29 N) q5Y Q ⟨e,h⟩=qf tt Γ29 (T29 N) (cut [true,true,false,true,true,true] (Tryz.f29.body.getD .skip)) Q ⟨e,h⟩:=rfl
theorem zdD (N:Nat) (v2:List (Val (.int .i64))) (v3:List (Val (.int .i64))) {k0:Unit→Option (qc [i4])} {Q:X→St→Option (qc [i4])} {c:Code} (hc:c=q5Y) (hret: ∀st,Q .ret st=qC tt true [i4] [.tmp 4] st) (h0:Q (.exit 0) ⟨[u,u,u,u,u,u,u,u,u,u,u,u,u,u,u,u,u,u,u,u,u,u,u,u,u,u],[]⟩=k0 ()): ∀(n:Nat) (v4:Int),qD (qf tt Γ29 (T29 N) c) false qq4 Q n ⟨[.one (.sl 3 (.int .i64) v2 0),.one (.sl 3 (.int .i64) v3 0),u,u,u,.one (.int .i64 v4),u,u,u,u,u,u,u,u,u,u,u,u,u,u,u,u,u,u,u,u],[]⟩=qky N v2 v3 k0 n v4:=by
 subst hc;intro n;induction n with
 | zero=>intros;rfl
 | succ n ih=>
   intro v4
   rw [qN,zeL,qky];unfold Tryz.f29
   simp (maxSteps:=10000000) -implicitDefEqProofs [qQp,qpm,qLI,qtn,qV2,qpG,q1a,qs2,qPt,qsL,q1m,qT5,qVU,qOu,qTV,q4p,qWU,qMk,hret,h0,ih]
theorem zy4 (N:Nat) (v0:List (Val (.int .i64))) (v1:List (Val (.int .i64))):qf tt Γ29 (T29 N) (Tryz.f29.body.getD .skip) (qm tt true [i4] [.tmp 4]) (qp [i25,i25] 26 (v0,v1,()))=m29 N v0 v1:=by
 unfold Tryz.f29
 simp (maxSteps:=10000000) -implicitDefEqProofs [qQp,qpm,qLI,qtn,qV2,qpG,q1a,qs2,qPt,qsL,q1m,qT5,qVU,qOu,qTV,q4p,qWU,qMk]
 rewrite [zdD (k0:=(fun (_:Unit)=>some (true,()))) N _ _ ?_ ?_ ?_]
 ·rewrite [m29];first | rfl | simp (maxSteps:=10000000) -implicitDefEqProofs []
 ·rfl
 ·intro;simp only [qK,qL,qJ,qB]
 ·simp (maxSteps:=10000000) -implicitDefEqProofs [qQp,qpm,qLI,qtn,qV2,qpG,q1a,qs2,qPt,qsL,q1m,qT5,qVU,qOu,qTV,q4p,qWU,qMk]
def g29:G:={ps:=[i25,i25],rs:=[i4],dp:=true,pre:=fun x=>qFM x.1 x.2.1,fn:=fun x=>(qxQ x.1 x.2.1,())}
theorem e29 (x y:List (Val (.int .i64))) (h:qFM x y): ∃N,m29 N x y=some (qxQ x y,()):=⟨List.length x+1,by
 rw [m29,qbi]
 rw [qxQ,eqS]
 by_cases c:List.length x=List.length y
 ·rw [qj (by omega)]
  refine (qSd (f:=eqV (.int .i64)) (xs:=x) (ys:=y) (F:=fun n i=>qky _ x y _ n i) (k:=fun _=>some (true,())) (r:=some (false,())) h.1 c (fun n i hi hi2=> ?_) (fun n i hi=> ?_) _ (Nat.lt_succ_self _)).trans qQ2
  ·rw [qky,qj (by omega),qe (by omega),qe (by omega),qI hi,qI hi2,qbi]
   rfl
  ·rw [qky,qi (by omega)]
 ·rw [qi (by omega),qAb _ _ c]⟩
theorem s29:Sound Tryz.prog 29 g29:=qr (tt:=tt) (Γ:=Γ29) hT qn hm (fn:=Tryz.f29) Tryz.func29 (c:=Tryz.f29.body.getD .skip) (by kernel_rfl) (by kernel_rfl) fun x hx=>by
 obtain ⟨N,h⟩:=e29 x.1 x.2.1 hx
 exact ⟨T29 N,p29,qu _,zhS N,(zy4 N x.1 x.2.1).trans h⟩
def qYh (x y:Val qa):Bool:=eqV qa x y
def qAl (x _:Val qa):Prop:=Bd qa x
noncomputable def qAg (N:Nat) (v0:Val qa) (v1:Val qa):Option (qc [i4]):=chk (qFM (v0.1:List (Val (.int .i64))) (v1.1:List (Val (.int .i64)))) (bif (!((qxQ (v0.1:List (Val (.int .i64))) (v1.1:List (Val (.int .i64)))):Bool))then (some (false,()))else (bif (!(decide ((v0.2.1:Int)=(v1.2.1:Int))))then (some (false,()))else (bif (!((v0.2.2:Bool)==(v1.2.2:Bool)))then (some (false,()))else (some (true,())))))
def qMW:Gam:=[(29,g29)]
theorem zAG:Gam.get qMW 29=some g29:=rfl
def qCR:Nat→Tree:=fun _=> .done
def qZ2:Nat→Nm:=fun _=>⟨[],[],false⟩
def qSO:Nat→Option Jn:=fun _=>none
def qZN:Nat→Option Nm:=fun _=>none
def qKB:Nat→Option Nm:=fun _=>none
theorem zsQ:qh qCR (Tryz.f183.body.getD .skip)=true:=by kernel_rfl
def qfz (N:Nat):Tab:={tr:=qCR,lp:=qZ2,ex:=qZN,rg:=qKB,jn:=qSO,fuel:=N}
theorem zez (N:Nat):(qfz N).pins=false:=rfl
theorem zgn (N:Nat):qk Tryz.prog (qfz N):=qo fun _=>rfl
theorem zsW (N:Nat) (i:Nat):(qfz N).tr i=qCR i:=rfl
theorem zgC (N:Nat) (i:Nat):(qfz N).lp i=qZ2 i:=rfl
theorem zsj (N:Nat) (i:Nat):(qfz N).ex i=qZN i:=rfl
theorem zj5 (N:Nat) (i:Nat):(qfz N).rg i=qKB i:=rfl
theorem zdf (N:Nat) (i:Nat):(qfz N).jn i=qSO i:=rfl
theorem ziq (N:Nat):(qfz N).fuel=N:=rfl
theorem zkq (N:Nat) (v0:Val qa) (v1:Val qa):qf tt qMW (qfz N) (Tryz.f183.body.getD .skip) (qm tt true [i4] [.tmp 4]) (qp [ql,ql] 21 (v0,v1,()))=qAg N v0 v1:=by
 rw [qAg];unfold Tryz.f183
 simp (maxSteps:=10000000) -implicitDefEqProofs [zsW,qCR,zgC,qZ2,zsj,qZN,zj5,qKB,zdf,qSO,ziq,zez,zAG,g29]
 try rfl
def qnB:G:={ps:=[ql,ql],rs:=[i4],dp:=true,pre:=fun x=>qAl x.1 x.2.1,fn:=fun x=>(qYh x.1 x.2.1,())}
theorem zvk (x y:Val qa) (h:qAl x y): ∃N,qAg N x y=some (qYh x y,()):=⟨0,by
 obtain ⟨s0,s1,s2⟩:=h
 rw [qAg,qe (show qFM _ _ from s0)]
 obtain ⟨x0,x1,x2⟩:=x
 obtain ⟨y0,y1,y2⟩:=y
 change _=some ((eqV (.slice 3 (.int .i64)) x0 y0&&(eqV (.int .i64) x1 y1&&eqV .bool x2 y2)),())
 simp only [qbi]
 show _=_
 generalize he0:eqV (.slice 3 (.int .i64)) x0 y0=e0
 have hd0:qxQ x0 y0=e0:=he0
 generalize he1:eqV (.int .i64) x1 y1=e1
 have hd1:decide ((x1:Int)=y1)=e1:=he1
 generalize he2:eqV .bool x2 y2=e2
 have hd2:((x2:Bool)==y2)=e2:=he2
 simp only [hd0,hd1,hd2]
 cases e0<;>cases e1<;>cases e2<;>rfl⟩
theorem zki:Sound Tryz.prog 183 qnB:=qr (tt:=tt) (Γ:=qMW) hT (qg s29 qn) hm (fn:=Tryz.f183) Tryz.func183 (c:=Tryz.f183.body.getD .skip) (by kernel_rfl) (by kernel_rfl) fun x hx=>by
 obtain ⟨N,h⟩:=zvk x.1 x.2.1 hx
 exact ⟨qfz N,zsQ,qu _,zgn N,(zkq N x.1 x.2.1).trans h⟩
def qvM (x y:List (Val qa)):Bool:=eqV (.slice 108 qa) x y
def qBh (x _:List (Val qa)):Prop:=Bd (.slice 108 qa) x
noncomputable def qkS (N:Nat) (v2:List (Val qa)) (v3:List (Val qa)) (k0:Unit→Option (qc [i4])):Nat→Int→Option (qc [i4])
 | 0,_=>none
 | n+1,v4=>bif (decide (v4<(v2.length:Int)))then (chk (0≤v4∧v4<(v2.length:Int)) (chk (0≤v4∧v4<(v3.length:Int)) (chk (qAl (v2.getD v4.toNat (qb qa)) (v3.getD v4.toNat (qb qa))) (bif (!((qYh (v2.getD v4.toNat (qb qa)) (v3.getD v4.toNat (qb qa))):Bool))then (some (false,()))else (qkS N v2 v3 k0 n (IntKind.i64.wrap (v4+(1:Int))))))))else (k0 ())
noncomputable def qA1 (N:Nat) (v0:List (Val qa)) (v1:List (Val qa)):Option (qc [i4]):=bif (!(decide ((v0.length:Int)=(v1.length:Int))))then (some (false,()))else (qkS N v0 v1 (fun (_:Unit)=>some (true,())) N (0:Int))
def qmO:Gam:=[(183,qnB)]
theorem qNl:Gam.get qmO 183=some qnB:=rfl
def qx9:Nm:=⟨[true,true,false,false,false,true],[],false⟩
theorem qTF:qx9.zero=false:=rfl
theorem qO2:qx9.fix=[]:=rfl
theorem q0k:qx9.keep=[true,true,false,false,false,true]:=rfl
def qBf:Nm:=⟨[],[],false⟩
theorem qNV:qBf.zero=false:=rfl
theorem qLr:qBf.fix=[]:=rfl
theorem qMj:qBf.keep=[]:=rfl
def qph:Nat→Tree:=fun i=>if i=6 then .quiet 0 (.quiet 1 (.quiet 2 (.quiet 3 (.quiet 4 (.quiet 5 (.quiet 6 (.quiet 7 (.alt 8 (.quiet 9 .done) .stop))))))))else .done
def qua:Nat→Nm:=fun i=>if i=4 then qx9 else ⟨[],[],false⟩
def qym:Nat→Option Jn:=fun _=>none
def qsr:Nat→Option Nm:=fun i=>if i=0 then some qBf else none
def qqh:Nat→Option Nm:=fun _=>none
theorem zgt:qh qph (Tryz.f115.body.getD .skip)=true:=by kernel_rfl
def qdc (N:Nat):Tab:={tr:=qph,lp:=qua,ex:=qsr,rg:=qqh,jn:=qym,fuel:=N}
theorem q2A (N:Nat):(qdc N).pins=false:=rfl
theorem zqw (N:Nat):qk Tryz.prog (qdc N):=qo fun _=>rfl
theorem qRu (N:Nat) (i:Nat):(qdc N).tr i=qph i:=rfl
theorem qYV (N:Nat) (i:Nat):(qdc N).lp i=qua i:=rfl
theorem q0t (N:Nat) (i:Nat):(qdc N).ex i=qsr i:=rfl
theorem qZH (N:Nat) (i:Nat):(qdc N).rg i=qqh i:=rfl
theorem qZe (N:Nat) (i:Nat):(qdc N).jn i=qym i:=rfl
theorem qPb (N:Nat):(qdc N).fuel=N:=rfl
noncomputable def q5A:Code:=cut [true,true,false,true,true,true] (Tryz.f115.body.getD .skip)
theorem zp7 {N:Nat} {Q:X→St→Option (qc [i4])} {e:List LV} {h:List Blk}:qf tt qmO (qdc N) q5A Q ⟨e,h⟩=qf tt qmO (qdc N) (cut [true,true,false,true,true,true] (Tryz.f115.body.getD .skip)) Q ⟨e,h⟩:=rfl
theorem zAl (N:Nat) (v2:List (Val qa)) (v3:List (Val qa)) {k0:Unit→Option (qc [i4])} {Q:X→St→Option (qc [i4])} {c:Code} (hc:c=q5A) (hret: ∀st,Q .ret st=qC tt true [i4] [.tmp 4] st) (h0:Q (.exit 0) ⟨[u,u,u,u,u,u,u,u,u,u,u,u,u,u,u,u,u,u,u,u,u,u,u,u,u,u,u],[]⟩=k0 ()): ∀(n:Nat) (v4:Int),qD (qf tt qmO (qdc N) c) false qx9 Q n ⟨[.one (.sl 108 qa v2 0),.one (.sl 108 qa v3 0),u,u,u,.one (.int .i64 v4),u,u,u,u,u,u,u,u,u,u,u,u,u,u,u,u,u,u,u,u,u],[]⟩=qkS N v2 v3 k0 n v4:=by
 subst hc;intro n;induction n with
 | zero=>intros;rfl
 | succ n ih=>
   intro v4
   rw [qN,zp7,qkS];unfold Tryz.f115
   simp (maxSteps:=10000000) -implicitDefEqProofs [qRu,qph,qYV,qua,q0t,qsr,qZH,qqh,qZe,qym,qPb,q2A,qO2,q0k,qTF,qLr,qMj,qNV,qNl,qnB,hret,h0,ih]
theorem zgE (N:Nat) (v0:List (Val qa)) (v1:List (Val qa)):qf tt qmO (qdc N) (Tryz.f115.body.getD .skip) (qm tt true [i4] [.tmp 4]) (qp [i31,i31] 27 (v0,v1,()))=qA1 N v0 v1:=by
 unfold Tryz.f115
 simp (maxSteps:=10000000) -implicitDefEqProofs [qRu,qph,qYV,qua,q0t,qsr,qZH,qqh,qZe,qym,qPb,q2A,qO2,q0k,qTF,qLr,qMj,qNV,qNl,qnB]
 rewrite [zAl (k0:=(fun (_:Unit)=>some (true,()))) N _ _ ?_ ?_ ?_]
 ·rewrite [qA1];first | rfl | simp (maxSteps:=10000000) -implicitDefEqProofs []
 ·rfl
 ·intro;simp only [qK,qL,qJ,qB]
 ·simp (maxSteps:=10000000) -implicitDefEqProofs [qRu,qph,qYV,qua,q0t,qsr,qZH,qqh,qZe,qym,qPb,q2A,qO2,q0k,qTF,qLr,qMj,qNV,qNl,qnB]
def qB5:G:={ps:=[i31,i31],rs:=[i4],dp:=true,pre:=fun x=>qBh x.1 x.2.1,fn:=fun x=>(qvM x.1 x.2.1,())}
theorem zuZ (x y:List (Val qa)) (h:qBh x y): ∃N,qA1 N x y=some (qvM x y,()):=⟨List.length x+1,by
 rw [qA1,qbi]
 rw [qvM,eqS]
 by_cases c:List.length x=List.length y
 ·rw [qj (by omega)]
  refine (qSd (f:=eqV qa) (xs:=x) (ys:=y) (F:=fun n i=>qkS _ x y _ n i) (k:=fun _=>some (true,())) (r:=some (false,())) h.1 c (fun n i hi hi2=> ?_) (fun n i hi=> ?_) _ (Nat.lt_succ_self _)).trans qQ2
  ·rw [qkS,qj (by omega),qe (by omega),qe (by omega),qe (show qAl _ _ from by rw [qI hi];exact h.2 _ (List.getElem_mem hi)),qI hi,qI hi2,qbi]
   rfl
  ·rw [qkS,qi (by omega)]
 ·rw [qi (by omega),qAb _ _ c]⟩
theorem zvK:Sound Tryz.prog 115 qB5:=qr (tt:=tt) (Γ:=qmO) hT (qg zki qn) hm (fn:=Tryz.f115) Tryz.func115 (c:=Tryz.f115.body.getD .skip) (by kernel_rfl) (by kernel_rfl) fun x hx=>by
 obtain ⟨N,h⟩:=zuZ x.1 x.2.1 hx
 exact ⟨qdc N,zgt,qu _,zqw N,(zgE N x.1 x.2.1).trans h⟩
def q3S (x y:Val Y33):Bool:=eqV Y33 x y
def qFx (x _:Val Y33):Prop:=Bd Y33 x
noncomputable def m28 (N:Nat) (v0:Val Y33) (v1:Val Y33):Option (qc [i4]):=bif (!(decide ((v0.1:Int)=(v1.1:Int))))then (some (false,()))else (chk (qBh (v0.2:List (Val qa)) (v1.2:List (Val qa))) (bif (!((qvM (v0.2:List (Val qa)) (v1.2:List (Val qa))):Bool))then (some (false,()))else (some (true,()))))
def Γ28:Gam:=[(115,qB5)]
theorem ztl:Gam.get Γ28 115=some qB5:=rfl
def qEY:Nat→Tree:=fun _=> .done
def qWp:Nat→Nm:=fun _=>⟨[],[],false⟩
def q2e:Nat→Option Jn:=fun _=>none
def qRN:Nat→Option Nm:=fun _=>none
def qZR:Nat→Option Nm:=fun _=>none
theorem p28:qh qEY (Tryz.f28.body.getD .skip)=true:=by kernel_rfl
def T28 (N:Nat):Tab:={tr:=qEY,lp:=qWp,ex:=qRN,rg:=qZR,jn:=q2e,fuel:=N}
theorem zeC (N:Nat):(T28 N).pins=false:=rfl
theorem znP (N:Nat):qk Tryz.prog (T28 N):=qo fun _=>rfl
theorem zBc (N:Nat) (i:Nat):(T28 N).tr i=qEY i:=rfl
theorem zAF (N:Nat) (i:Nat):(T28 N).lp i=qWp i:=rfl
theorem zy1 (N:Nat) (i:Nat):(T28 N).ex i=qRN i:=rfl
theorem zxE (N:Nat) (i:Nat):(T28 N).rg i=qZR i:=rfl
theorem zAb (N:Nat) (i:Nat):(T28 N).jn i=q2e i:=rfl
theorem zxj (N:Nat):(T28 N).fuel=N:=rfl
theorem zme (N:Nat) (v0:Val Y33) (v1:Val Y33):qf tt Γ28 (T28 N) (Tryz.f28.body.getD .skip) (qm tt true [i4] [.tmp 4]) (qp [i33,i33] 16 (v0,v1,()))=m28 N v0 v1:=by
 rw [m28];unfold Tryz.f28
 simp (maxSteps:=10000000) -implicitDefEqProofs [zBc,qEY,zAF,qWp,zy1,qRN,zxE,qZR,zAb,q2e,zxj,zeC,ztl,qB5]
 try rfl
def g28:G:={ps:=[i33,i33],rs:=[i4],dp:=true,pre:=fun x=>qFx x.1 x.2.1,fn:=fun x=>(q3S x.1 x.2.1,())}
theorem e28 (x y:Val Y33) (h:qFx x y): ∃N,m28 N x y=some (q3S x y,()):=⟨0,by
 obtain ⟨s0,s1⟩:=h
 rw [m28,qe (show qBh _ _ from s1)]
 obtain ⟨x0,x1⟩:=x
 obtain ⟨y0,y1⟩:=y
 change _=some ((eqV (.int .i64) x0 y0&&eqV (.slice 108 qa) x1 y1),())
 simp only [qbi]
 show _=_
 generalize he0:eqV (.int .i64) x0 y0=e0
 have hd0:decide ((x0:Int)=y0)=e0:=he0
 generalize he1:eqV (.slice 108 qa) x1 y1=e1
 have hd1:qvM x1 y1=e1:=he1
 simp only [hd0,hd1]
 cases e0<;>cases e1<;>rfl⟩
theorem s28:Sound Tryz.prog 28 g28:=qr (tt:=tt) (Γ:=Γ28) hT (qg zvK qn) hm (fn:=Tryz.f28) Tryz.func28 (c:=Tryz.f28.body.getD .skip) (by kernel_rfl) (by kernel_rfl) fun x hx=>by
 obtain ⟨N,h⟩:=e28 x.1 x.2.1 hx
 exact ⟨T28 N,p28,qu _,znP N,(zme N x.1 x.2.1).trans h⟩
def qyV (x y:List (Val Y33)):Bool:=eqV (.slice 33 Y33) x y
def qG1 (x _:List (Val Y33)):Prop:=Bd (.slice 33 Y33) x
noncomputable def qlm (N:Nat) (v2:List (Val Y33)) (v3:List (Val Y33)) (k0:Unit→Option (qc [i4])):Nat→Int→Option (qc [i4])
 | 0,_=>none
 | n+1,v4=>bif (decide (v4<(v2.length:Int)))then (chk (0≤v4∧v4<(v2.length:Int)) (chk (0≤v4∧v4<(v3.length:Int)) (chk (qFx (v2.getD v4.toNat (qb Y33)) (v3.getD v4.toNat (qb Y33))) (bif (!((q3S (v2.getD v4.toNat (qb Y33)) (v3.getD v4.toNat (qb Y33))):Bool))then (some (false,()))else (qlm N v2 v3 k0 n (IntKind.i64.wrap (v4+(1:Int))))))))else (k0 ())
noncomputable def qzX (N:Nat) (v0:List (Val Y33)) (v1:List (Val Y33)):Option (qc [i4]):=bif (!(decide ((v0.length:Int)=(v1.length:Int))))then (some (false,()))else (qlm N v0 v1 (fun (_:Unit)=>some (true,())) N (0:Int))
def qol:Gam:=[(28,g28)]
theorem qIa:Gam.get qol 28=some g28:=rfl
def qyy:Nm:=⟨[true,true,false,false,false,true],[],false⟩
theorem qWQ:qyy.zero=false:=rfl
theorem qZP:qyy.fix=[]:=rfl
theorem qYH:qyy.keep=[true,true,false,false,false,true]:=rfl
def qCc:Nm:=⟨[],[],false⟩
theorem q0f:qCc.zero=false:=rfl
theorem qVO:qCc.fix=[]:=rfl
theorem qKf:qCc.keep=[]:=rfl
def qpz:Nat→Tree:=fun i=>if i=6 then .quiet 0 (.quiet 1 (.quiet 2 (.quiet 3 (.quiet 4 (.quiet 5 (.quiet 6 (.quiet 7 (.alt 8 (.quiet 9 .done) .stop))))))))else .done
def qy0:Nat→Nm:=fun i=>if i=4 then qyy else ⟨[],[],false⟩
def qwy:Nat→Option Jn:=fun _=>none
def qsX:Nat→Option Nm:=fun i=>if i=0 then some qCc else none
def qqN:Nat→Option Nm:=fun _=>none
theorem zhu:qh qpz (Tryz.f128.body.getD .skip)=true:=by kernel_rfl
def qdV (N:Nat):Tab:={tr:=qpz,lp:=qy0,ex:=qsX,rg:=qqN,jn:=qwy,fuel:=N}
theorem qLO (N:Nat):(qdV N).pins=false:=rfl
theorem zcw (N:Nat):qk Tryz.prog (qdV N):=qo fun _=>rfl
theorem qI0 (N:Nat) (i:Nat):(qdV N).tr i=qpz i:=rfl
theorem qZu (N:Nat) (i:Nat):(qdV N).lp i=qy0 i:=rfl
theorem qLi (N:Nat) (i:Nat):(qdV N).ex i=qsX i:=rfl
theorem qRq (N:Nat) (i:Nat):(qdV N).rg i=qqN i:=rfl
theorem qKD (N:Nat) (i:Nat):(qdV N).jn i=qwy i:=rfl
theorem q2G (N:Nat):(qdV N).fuel=N:=rfl
noncomputable def q7i:Code:=cut [true,true,false,true,true,true] (Tryz.f128.body.getD .skip)
theorem zBl {N:Nat} {Q:X→St→Option (qc [i4])} {e:List LV} {h:List Blk}:qf tt qol (qdV N) q7i Q ⟨e,h⟩=qf tt qol (qdV N) (cut [true,true,false,true,true,true] (Tryz.f128.body.getD .skip)) Q ⟨e,h⟩:=rfl
theorem zA4 (N:Nat) (v2:List (Val Y33)) (v3:List (Val Y33)) {k0:Unit→Option (qc [i4])} {Q:X→St→Option (qc [i4])} {c:Code} (hc:c=q7i) (hret: ∀st,Q .ret st=qC tt true [i4] [.tmp 4] st) (h0:Q (.exit 0) ⟨[u,u,u,u,u,u,u,u,u,u,u,u,u,u,u,u,u,u,u,u,u,u,u,u,u,u,u],[]⟩=k0 ()): ∀(n:Nat) (v4:Int),qD (qf tt qol (qdV N) c) false qyy Q n ⟨[.one (.sl 33 Y33 v2 0),.one (.sl 33 Y33 v3 0),u,u,u,.one (.int .i64 v4),u,u,u,u,u,u,u,u,u,u,u,u,u,u,u,u,u,u,u,u,u],[]⟩=qlm N v2 v3 k0 n v4:=by
 subst hc;intro n;induction n with
 | zero=>intros;rfl
 | succ n ih=>
   intro v4
   rw [qN,zBl,qlm];unfold Tryz.f128
   simp (maxSteps:=10000000) -implicitDefEqProofs [qI0,qpz,qZu,qy0,qLi,qsX,qRq,qqN,qKD,qwy,q2G,qLO,qZP,qYH,qWQ,qVO,qKf,q0f,qIa,g28,hret,h0,ih]
theorem zuL (N:Nat) (v0:List (Val Y33)) (v1:List (Val Y33)):qf tt qol (qdV N) (Tryz.f128.body.getD .skip) (qm tt true [i4] [.tmp 4]) (qp [i48,i48] 27 (v0,v1,()))=qzX N v0 v1:=by
 unfold Tryz.f128
 simp (maxSteps:=10000000) -implicitDefEqProofs [qI0,qpz,qZu,qy0,qLi,qsX,qRq,qqN,qKD,qwy,q2G,qLO,qZP,qYH,qWQ,qVO,qKf,q0f,qIa,g28]
 rewrite [zA4 (k0:=(fun (_:Unit)=>some (true,()))) N _ _ ?_ ?_ ?_]
 ·rewrite [qzX];first | rfl | simp (maxSteps:=10000000) -implicitDefEqProofs []
 ·rfl
 ·intro;simp only [qK,qL,qJ,qB]
 ·simp (maxSteps:=10000000) -implicitDefEqProofs [qI0,qpz,qZu,qy0,qLi,qsX,qRq,qqN,qKD,qwy,q2G,qLO,qZP,qYH,qWQ,qVO,qKf,q0f,qIa,g28]
def qHm:G:={ps:=[i48,i48],rs:=[i4],dp:=true,pre:=fun x=>qG1 x.1 x.2.1,fn:=fun x=>(qyV x.1 x.2.1,())}
theorem zhp (x y:List (Val Y33)) (h:qG1 x y): ∃N,qzX N x y=some (qyV x y,()):=⟨List.length x+1,by
 rw [qzX,qbi]
 rw [qyV,eqS]
 by_cases c:List.length x=List.length y
 ·rw [qj (by omega)]
  refine (qSd (f:=eqV Y33) (xs:=x) (ys:=y) (F:=fun n i=>qlm _ x y _ n i) (k:=fun _=>some (true,())) (r:=some (false,())) h.1 c (fun n i hi hi2=> ?_) (fun n i hi=> ?_) _ (Nat.lt_succ_self _)).trans qQ2
  ·rw [qlm,qj (by omega),qe (by omega),qe (by omega),qe (show qFx _ _ from by rw [qI hi];exact h.2 _ (List.getElem_mem hi)),qI hi,qI hi2,qbi]
   rfl
  ·rw [qlm,qi (by omega)]
 ·rw [qi (by omega),qAb _ _ c]⟩
theorem zlZ:Sound Tryz.prog 128 qHm:=qr (tt:=tt) (Γ:=qol) hT (qg s28 qn) hm (fn:=Tryz.f128) Tryz.func128 (c:=Tryz.f128.body.getD .skip) (by kernel_rfl) (by kernel_rfl) fun x hx=>by
 obtain ⟨N,h⟩:=zhp x.1 x.2.1 hx
 exact ⟨qdV N,zhu,qu _,zcw N,(zuL N x.1 x.2.1).trans h⟩
def qaf (x y:Val Y50):Bool:=eqV Y50 x y
def q5 (x _:Val Y50):Prop:=Bd Y50 x
noncomputable def m36 (N:Nat) (v0:Val Y50) (v1:Val Y50):Option (qc [i4]):=bif (!(decide ((v0.1:Int)=(v1.1:Int))))then (some (false,()))else (chk (qG1 (v0.2:List (Val Y33)) (v1.2:List (Val Y33))) (bif (!((qyV (v0.2:List (Val Y33)) (v1.2:List (Val Y33))):Bool))then (some (false,()))else (some (true,()))))
def Γ36:Gam:=[(128,qHm)]
theorem zwQ:Gam.get Γ36 128=some qHm:=rfl
def qBs:Nat→Tree:=fun _=> .done
def qSC:Nat→Nm:=fun _=>⟨[],[],false⟩
def q4j:Nat→Option Jn:=fun _=>none
def q2P:Nat→Option Nm:=fun _=>none
def qVi:Nat→Option Nm:=fun _=>none
theorem p36:qh qBs (Tryz.f36.body.getD .skip)=true:=by kernel_rfl
def T36 (N:Nat):Tab:={tr:=qBs,lp:=qSC,ex:=q2P,rg:=qVi,jn:=q4j,fuel:=N}
theorem zll (N:Nat):(T36 N).pins=false:=rfl
theorem zmD (N:Nat):qk Tryz.prog (T36 N):=qo fun _=>rfl
theorem zbk (N:Nat) (i:Nat):(T36 N).tr i=qBs i:=rfl
theorem zgQ (N:Nat) (i:Nat):(T36 N).lp i=qSC i:=rfl
theorem zda (N:Nat) (i:Nat):(T36 N).ex i=q2P i:=rfl
theorem zrn (N:Nat) (i:Nat):(T36 N).rg i=qVi i:=rfl
theorem zBF (N:Nat) (i:Nat):(T36 N).jn i=q4j i:=rfl
theorem zo2 (N:Nat):(T36 N).fuel=N:=rfl
theorem zqD (N:Nat) (v0:Val Y50) (v1:Val Y50):qf tt Γ36 (T36 N) (Tryz.f36.body.getD .skip) (qm tt true [i4] [.tmp 4]) (qp [i50,i50] 16 (v0,v1,()))=m36 N v0 v1:=by
 rw [m36];unfold Tryz.f36
 simp (maxSteps:=10000000) -implicitDefEqProofs [zbk,qBs,zgQ,qSC,zda,q2P,zrn,qVi,zBF,q4j,zo2,zll,zwQ,qHm]
 try rfl
def g36:G:={ps:=[i50,i50],rs:=[i4],dp:=true,pre:=fun x=>q5 x.1 x.2.1,fn:=fun x=>(qaf x.1 x.2.1,())}
theorem e36 (x y:Val Y50) (h:q5 x y): ∃N,m36 N x y=some (qaf x y,()):=⟨0,by
 obtain ⟨s0,s1⟩:=h
 rw [m36,qe (show qG1 _ _ from s1)]
 obtain ⟨x0,x1⟩:=x
 obtain ⟨y0,y1⟩:=y
 change _=some ((eqV (.int .i64) x0 y0&&eqV (.slice 33 Y33) x1 y1),())
 simp only [qbi]
 show _=_
 generalize he0:eqV (.int .i64) x0 y0=e0
 have hd0:decide ((x0:Int)=y0)=e0:=he0
 generalize he1:eqV (.slice 33 Y33) x1 y1=e1
 have hd1:qyV x1 y1=e1:=he1
 simp only [hd0,hd1]
 cases e0<;>cases e1<;>rfl⟩
theorem s36:Sound Tryz.prog 36 g36:=qr (tt:=tt) (Γ:=Γ36) hT (qg zlZ qn) hm (fn:=Tryz.f36) Tryz.func36 (c:=Tryz.f36.body.getD .skip) (by kernel_rfl) (by kernel_rfl) fun x hx=>by
 obtain ⟨N,h⟩:=e36 x.1 x.2.1 hx
 exact ⟨T36 N,p36,qu _,zmD N,(zqD N x.1 x.2.1).trans h⟩
end Go.T
