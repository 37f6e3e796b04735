/- Marks of cells. -/
import Derived.Test.YthefcjjgchekiaaA1
set_option linter.unusedSimpArgs false
set_option linter.unusedVariables false
namespace Go.T
open Go Go.Proofs
set_option maxHeartbeats 4000000
set_option maxRecDepth 100000
def qhX (x:List (Val (.int .i64))) (k:Int):List (Val (.int .i64)):=(mkT (.slice 3 (.int .i64)) x k).1
def qd0 (x:List (Val (.int .i64))) (k:Int):Int:=(mkT (.slice 3 (.int .i64)) x k).2
def qny (x:List (Val (.int .i64))) (k:Int):Prop:=Bd (.slice 3 (.int .i64)) x∧k≤9223372036854775807
def qmr:Gms:=⟨3,(.int .i64),qny,qhX,qd0⟩
noncomputable def qfW (N:Nat) (k0:Int→(List (Val (.int .i64)))→Option ((List (Val (.int .i64)))×Int)):Nat→Int→Int→(List (Val (.int .i64)))→Option ((List (Val (.int .i64)))×Int)
 | 0,_,_,_=>none
 | n+1,v2,v3,v4=>bif (decide (v3<(v4.length:Int)))then (chk (0≤v3∧v3<(v4.length:Int)) (chk (v3.toNat<v4.length) (qfW N k0 n (IntKind.i64.wrap (v2+(1:Int))) (IntKind.i64.wrap (v3+(1:Int))) (v4.set v3.toNat v2))))else (k0 v2 v4)
noncomputable def m36 (N:Nat) (v0:List (Val (.int .i64))) (v1:Int):Option ((List (Val (.int .i64)))×Int):=qfW N (fun (v7:Int) (v8:List (Val (.int .i64)))=>some (v8,v7)) N v1 (0:Int) v0
def Γ36:Gam:=[]
def qld:Nm:=⟨[true,true,false,false,false,true],[],false⟩
theorem qrT:qld.zero=false:=rfl
theorem qzl:qld.fix=[]:=rfl
theorem qym:qld.keep=[true,true,false,false,false,true]:=rfl
def qm2:Nm:=⟨[false,true],[],false⟩
theorem qzH:qm2.zero=false:=rfl
theorem qw4:qm2.fix=[]:=rfl
theorem qrr:qm2.keep=[false,true]:=rfl
def qkC:Sem:=qe0 [] []
def qhK:Nat→Tree:=fun _=> .done
def qmv:Nat→Nm:=fun i=>if i=2 then qld else ⟨[],[],false⟩
def qj4:Nat→Option Jn:=fun _=>none
def qiS:Nat→Option Nm:=fun i=>if i=0 then some qm2 else none
def qlS:Nat→Option Nm:=fun _=>none
theorem p36:ql qhK (Try.f36.body.getD .skip)=true:=by kernel_rfl
def T36 (N:Nat):Tab:={tr:=qhK,lp:=qmv,ex:=qiS,rg:=qlS,jn:=qj4,fuel:=N,pins:=true,sem:=qkC}
theorem qzg (N:Nat):(T36 N).pins=true:=rfl
theorem qQf (N:Nat):qm Try.prog (T36 N):=qu fun _=>rfl
theorem qu2 (N:Nat):(T36 N).sem=qkC:=rfl
theorem qzs (N:Nat) (i:Nat):(T36 N).tr i=qhK i:=rfl
theorem qze (N:Nat) (i:Nat):(T36 N).lp i=qmv i:=rfl
theorem qyy (N:Nat) (i:Nat):(T36 N).ex i=qiS i:=rfl
theorem qzW (N:Nat) (i:Nat):(T36 N).rg i=qlS i:=rfl
theorem qBg (N:Nat) (i:Nat):(T36 N).jn i=qj4 i:=rfl
theorem qyD (N:Nat):(T36 N).fuel=N:=rfl
noncomputable def qC0:Code:=cut [true,false,true,true,true] (Try.f36.body.getD .skip)
theorem qRr {N:Nat} {Q:X→St→Option ((List (Val (.int .i64)))×Int)} {e:List LV} {h:List Blk}:qd tt Γ36 (T36 N) qC0 Q ⟨e,h⟩=qd tt Γ36 (T36 N) (cut [true,false,true,true,true] (Try.f36.body.getD .skip)) Q ⟨e,h⟩:=rfl
theorem qSC (N:Nat) {k0:Int→(List (Val (.int .i64)))→Option ((List (Val (.int .i64)))×Int)} {Q:X→St→Option ((List (Val (.int .i64)))×Int)} {c:Code} (hc:c=qC0) (hret: ∀st,Q .ret st=qdl tt (.slice 3 (.int .i64)) [.own 0] [.tmp 4] st) (h0: ∀(v5:Int) (v6:List (Val (.int .i64))),Q (.exit 0) ⟨[u,.one (.int .i64 v5),u,u,u,u,u,u,u,u,u,u,u,u,u,u,u,u,u],[.row 3 (.int .i64) v6 true true 0]⟩=k0 v5 v6): ∀(n:Nat) (v2:Int) (v3:Int) (v4:List (Val (.int .i64))),qD (qd tt Γ36 (T36 N) c) true qld Q n ⟨[.one (.own 0),.one (.int .i64 v2),u,u,u,.one (.int .i64 v3),u,u,u,u,u,u,u,u,u,u,u,u,u],[.row 3 (.int .i64) v4 true true 0]⟩=qfW N k0 n v2 v3 v4:=by
 subst hc;intro n;induction n with
 | zero=>intros;rfl
 | succ n ih=>
   intro v2 v3 v4
   rw [qR,qRr,qfW];unfold Try.f36
   simp (maxSteps:=10000000) -implicitDefEqProofs [qzs,qhK,qze,qmv,qyy,qiS,qzW,qlS,qBg,qj4,qyD,qzg,qu2,qkC,qah,qv,qae,qzl,qym,qrT,qw4,qrr,qzH,hret,h0,ih]
theorem qGF (N:Nat) (v0:List (Val (.int .i64))) (v1:Int):qd tt Γ36 (T36 N) (Try.f36.body.getD .skip) (qc7 (qdl tt (.slice 3 (.int .i64)) (qF 0 (.slice 3 (.int .i64)) v0).1 [.tmp 4])) (qae i25 19 v0 v1)=m36 N v0 v1:=by
 unfold Try.f36
 simp (maxSteps:=10000000) -implicitDefEqProofs [qzs,qhK,qze,qmv,qyy,qiS,qzW,qlS,qBg,qj4,qyD,qzg,qu2,qkC,qah,qv,qae,qzl,qym,qrT,qw4,qrr,qzH]
 rewrite [qSC (k0:=(fun (v7:Int) (v8:List (Val (.int .i64)))=>some (v8,v7))) N ?_ ?_ ?_]
 ·rewrite [m36];first | rfl | simp (maxSteps:=10000000) -implicitDefEqProofs []
 ·rfl
 ·intro;simp only [qK,qM,qO,qv]
 ·intro v7 v8;simp (maxSteps:=10000000) -implicitDefEqProofs [qzs,qhK,qze,qmv,qyy,qiS,qzW,qlS,qBg,qj4,qyD,qzg,qu2,qkC,qah,qv,qae,qzl,qym,qrT,qw4,qrr,qzH]
theorem e36 (x:List (Val (.int .i64))) (k:Int) (h:qny x k): ∃N,m36 N x k=some (qhX x k,qd0 x k):=⟨x.length+1,by
 rw [m36]
 refine qCX (f:=mkE (.int .i64)) (F:=fun n i k s=>qfW _ _ n k i s) (kf:=fun k s=>some (s,k)) x h.1.1 (qhF _) (fun n i k s hi _ hl=> ?_) (fun n i k s hl hi=> ?_) _ k h.2 (Nat.lt_succ_self _)
 ·rw [qfW,qh (by omega),qc (by omega),qc (by omega)]
  rfl
 ·rw [qfW,qi (by omega)]⟩
theorem qSn:SoundMs Try.prog 36 qmr:=qCx (tt:=tt) (Γ:=Γ36) hT qq hm (fn:=Try.f36) Try.func36 (c:=Try.f36.body.getD .skip) (by kernel_rfl) (by kernel_rfl) rfl fun x n hx=>by
 obtain ⟨N,h⟩:=e36 x n hx
 exact ⟨T36 N,rfl,p36,⟨ql4 ql6 qkD,qQf N⟩,(qGF N x n).trans h⟩
def qpb (x:List (Val Y36)) (k:Int):List (Val Y36):=(mkT (.slice 36 Y36) x k).1
def qvf (x:List (Val Y36)) (k:Int):Int:=(mkT (.slice 36 Y36) x k).2
def qnT (x:List (Val Y36)) (k:Int):Prop:=Bd (.slice 36 Y36) x∧k≤9223372036854775807
def qzF:Gms:=⟨36,Y36,qnT,qpb,qvf⟩
noncomputable def qfS (N:Nat) (v6:List (Val (hd Y36))) (k0:Int→(List (Val H36))→(List (Val Y36))→Option (List (Val H36)×List (Val Y36)×Int)):Nat→Int→Int→(List (Val H36))→(List (Val Y36))→Option (List (Val H36)×List (Val Y36)×Int)
 | 0,_,_,_,_=>none
 | n+1,v3,v4,v5,v7=>bif (decide (v4<(v5.length:Int)))then (chk (0≤v4∧v4<(v5.length:Int)) (chk (v4.toNat<v5.length) (chk (v4.toNat<v7.length∧v4.toNat<v6.length∧((v6.getD v4.toNat (qa (hd Y36)):Val H36).1:Value)=((v5.getD v4.toNat (qa H36)).1:Value)∧qny ((v7.getD v4.toNat (qa Y36)).1:List (Val (.int .i64))) v3) (chk (0≤v4∧v4<(v5.length:Int)) (chk (v4.toNat<v5.length) (chk ((3:Int)≠0) (chk (0≤v4∧v4<((v5.set v4.toNat (((v5.getD v4.toNat (qa H36)).1:Value),((qd0 ((v7.getD v4.toNat (qa Y36)).1:List (Val (.int .i64))) v3),(((v5.getD v4.toNat (qa H36)).2).2:Bool)))).length:Int)) (chk (v4.toNat<(v5.set v4.toNat (((v5.getD v4.toNat (qa H36)).1:Value),((qd0 ((v7.getD v4.toNat (qa Y36)).1:List (Val (.int .i64))) v3),(((v5.getD v4.toNat (qa H36)).2).2:Bool)))).length) (qfS N v6 k0 n (IntKind.i64.wrap ((IntKind.i64.wrap ((qd0 ((v7.getD v4.toNat (qa Y36)).1:List (Val (.int .i64))) v3)+(1:Int)))+(1:Int))) (IntKind.i64.wrap (v4+(1:Int))) ((v5.set v4.toNat (((v5.getD v4.toNat (qa H36)).1:Value),((qd0 ((v7.getD v4.toNat (qa Y36)).1:List (Val (.int .i64))) v3),(((v5.getD v4.toNat (qa H36)).2).2:Bool)))).set v4.toNat ((((v5.set v4.toNat (((v5.getD v4.toNat (qa H36)).1:Value),((qd0 ((v7.getD v4.toNat (qa Y36)).1:List (Val (.int .i64))) v3),(((v5.getD v4.toNat (qa H36)).2).2:Bool)))).getD v4.toNat (qa H36)).1:Value),(((((v5.set v4.toNat (((v5.getD v4.toNat (qa H36)).1:Value),((qd0 ((v7.getD v4.toNat (qa Y36)).1:List (Val (.int .i64))) v3),(((v5.getD v4.toNat (qa H36)).2).2:Bool)))).getD v4.toNat (qa H36)).2).1:Int),(decide (((IntKind.i64.wrap ((qd0 ((v7.getD v4.toNat (qa Y36)).1:List (Val (.int .i64))) v3)+(1:Int))).tmod (3:Int))=(0:Int)))))) (v7.set v4.toNat ((qhX ((v7.getD v4.toNat (qa Y36)).1:List (Val (.int .i64))) v3),(v7.getD v4.toNat (qa Y36)).2)))))))))))else (k0 v3 v5 v7)
noncomputable def m35 (N:Nat) (v0:List (Val (hd Y36))) (v1:List (Val Y36)) (v2:Int):Option (List (Val H36)×List (Val Y36)×Int):=qfS N v0 (fun (v11:Int) (v12:List (Val H36)) (v13:List (Val Y36))=>some (v12,v13,v11)) N v2 (0:Int) v0 v1
def Γ35:Gam:=[]
theorem qvo:Gam.get Γ35 36=none:=rfl
def qkU:Nm:=⟨[true,true,false,false,false,true],[],false⟩
theorem qvg:qkU.zero=false:=rfl
theorem qsM:qkU.fix=[]:=rfl
theorem qyS:qkU.keep=[true,true,false,false,false,true]:=rfl
def qnd:Nm:=⟨[false,true],[],false⟩
theorem qwv:qnd.zero=false:=rfl
theorem qvK:qnd.fix=[]:=rfl
theorem qCc:qnd.keep=[false,true]:=rfl
def qmi:Sem:=qe0 [] [(18,36,qmr,0,13)]
def qg8:Nat→Tree:=fun _=> .done
def qjP:Nat→Nm:=fun i=>if i=2 then qkU else ⟨[],[],false⟩
def qjc:Nat→Option Jn:=fun _=>none
def qlm:Nat→Option Nm:=fun i=>if i=0 then some qnd else none
def qmx:Nat→Option Nm:=fun _=>none
theorem p35:ql qg8 (Try.f35.body.getD .skip)=true:=by kernel_rfl
def T35 (N:Nat):Tab:={tr:=qg8,lp:=qjP,ex:=qlm,rg:=qmx,jn:=qjc,fuel:=N,pins:=true,sem:=qmi}
theorem qy4 (N:Nat):(T35 N).pins=true:=rfl
theorem qP0 (N:Nat):qm Try.prog (T35 N):=qu fun _=>rfl
theorem qqI (N:Nat):(T35 N).sem=qmi:=rfl
theorem qsL (N:Nat) (i:Nat):(T35 N).tr i=qg8 i:=rfl
theorem quE (N:Nat) (i:Nat):(T35 N).lp i=qjP i:=rfl
theorem qxp (N:Nat) (i:Nat):(T35 N).ex i=qlm i:=rfl
theorem qr1 (N:Nat) (i:Nat):(T35 N).rg i=qmx i:=rfl
theorem qAS (N:Nat) (i:Nat):(T35 N).jn i=qjc i:=rfl
theorem qz8 (N:Nat):(T35 N).fuel=N:=rfl
noncomputable def qDZ:Code:=cut [true,false,true,true,true] (Try.f35.body.getD .skip)
theorem qQb {N:Nat} {Q:X→St→Option (List (Val H36)×List (Val Y36)×Int)} {e:List LV} {h:List Blk}:qd tt Γ35 (T35 N) qDZ Q ⟨e,h⟩=qd tt Γ35 (T35 N) (cut [true,false,true,true,true] (Try.f35.body.getD .skip)) Q ⟨e,h⟩:=rfl
theorem qSo (N:Nat) (F:List Nat) (v6:List (Val (hd Y36))) {k0:Int→(List (Val H36))→(List (Val Y36))→Option (List (Val H36)×List (Val Y36)×Int)} {Q:X→St→Option (List (Val H36)×List (Val Y36)×Int)} {c:Code} (hc:c=qDZ) (hret: ∀st,Q .ret st=qhp tt 36 Y36 H36 F v6 [.tmp 4] st) (h0: ∀(v8:Int) (v9:List (Val H36)) (v10:List (Val Y36)),Q (.exit 0) ⟨[u,.one (.int .i64 v8),u,u,u,u,u,u,u,u,u,u,u,u,u,u,u,u,u,u,u,u,u,u,u,u,u,u,u,u,u,u,u,u,u,u],[.row 36 H36 v9 true true 0,.nst F Y36 v6 v10]⟩=k0 v8 v9 v10): ∀(n:Nat) (v3:Int) (v4:Int) (v5:List (Val H36)) (v7:List (Val Y36)),qD (qd tt Γ35 (T35 N) c) true qkU Q n ⟨[.one (.own 0),.one (.int .i64 v3),u,u,u,.one (.int .i64 v4),u,u,u,u,u,u,u,u,u,u,u,u,u,u,u,u,u,u,u,u,u,u,u,u,u,u,u,u,u,u],[.row 36 H36 v5 true true 0,.nst F Y36 v6 v7]⟩=qfS N v6 k0 n v3 v4 v5 v7:=by
 subst hc;intro n;induction n with
 | zero=>intros;rfl
 | succ n ih=>
   intro v3 v4 v5 v7
   rw [qR,qQb,qfS];unfold Try.f35
   simp (maxSteps:=10000000) -implicitDefEqProofs [qsL,qg8,quE,qjP,qxp,qlm,qr1,qmx,qAS,qjc,qz8,qy4,qqI,qmi,qah,qvo,qmr,qv,qae,qsM,qyS,qvg,qvK,qCc,qwv,hret,h0,ih]
theorem qKN (N:Nat) (F:List Nat) (v0:List (Val (hd Y36))) (v1:List (Val Y36)) (v2:Int):qd tt Γ35 (T35 N) (Try.f35.body.getD .skip) (qc7 (qhp tt 36 Y36 H36 F v0 [.tmp 4])) ⟨[.one (.own 0),.one (.int .i64 v2),.tup [],.tup [],.tup [],.tup [],.tup [],.tup [],.tup [],.tup [],.tup [],.tup [],.tup [],.tup [],.tup [],.tup [],.tup [],.tup [],.tup [],.tup [],.tup [],.tup [],.tup [],.tup [],.tup [],.tup [],.tup [],.tup [],.tup [],.tup [],.tup [],.tup [],.tup [],.tup [],.tup [],.tup []],[.row 36 H36 v0 true true 0,.nst F Y36 v0 v1]⟩=m35 N v0 v1 v2:=by
 unfold Try.f35
 simp (maxSteps:=10000000) -implicitDefEqProofs [qsL,qg8,quE,qjP,qxp,qlm,qr1,qmx,qAS,qjc,qz8,qy4,qqI,qmi,qah,qvo,qmr,qv,qae,qsM,qyS,qvg,qvK,qCc,qwv]
 rewrite [qSo (k0:=(fun (v11:Int) (v12:List (Val H36)) (v13:List (Val Y36))=>some (v12,v13,v11))) N _ _ ?_ ?_ ?_]
 ·rewrite [m35];first | rfl | simp (maxSteps:=10000000) -implicitDefEqProofs []
 ·rfl
 ·intro;simp only [qK,qM,qO,qv]
 ·intro v11 v12 v13;simp (maxSteps:=10000000) -implicitDefEqProofs [qsL,qg8,quE,qjP,qxp,qlm,qr1,qmx,qAS,qjc,qz8,qy4,qqI,qmi,qah,qvo,qmr,qv,qae,qsM,qyS,qvg,qvK,qCc,qwv]
theorem e35 (hs:List (Val (hd Y36))) (xs:List (Val Y36)) (k:Int) (h:qnT xs k) (hl:xs.length=hs.length) (hmx:qH Y36 xs hs=hs):
 ∃N vs,vs.map (qaj Y36)=(qpb xs k).map (qaj Y36)∧m35 N hs xs k=some (qH Y36 (qpb xs k) hs,vs,qvf xs k):=by
 refine ⟨xs.length+1,?_⟩
 rw [m35]
 refine qGt (t:=Y36) (F:=fun n i k ys vs=>qfS _ hs _ n k i ys vs) (kf:=fun k ys vs=>some (ys,vs,k)) xs hl hmx (by rw [←hl];exact h.1.1) (fun n i k fs vs hi hh hv hk l1 l2 hsl ⟨hx,hfx⟩=> ?_) (fun n i k ys vs hl hi=> ?_) _ k h.2 (Nat.lt_succ_self _)
 ·have hy:(qH Y36 fs hs).length=hs.length:=qqj l1
  have e1:vs[i].1=fs[i].1:=(Prod.mk.inj hsl).1
  refine ⟨(qhX vs[i].1 k,vs[i].2),?_,?_⟩
  ·show ((qhX vs[i].1 k,(0,false)):Val Y36)=(qhX fs[i].1 k,(0,false))
   rw [e1]
  ·have hb:qny vs[i].1 k:=⟨by rw [e1,hfx];exact (h.1.2 _ (List.getElem_mem hx)).1,hk⟩
   rw [qfS,qh (by omega),qc (by omega),qc (by omega),qM1 hi hh l1,qL hv,qL hh,qc ⟨by omega,by omega,rfl,hb⟩,qc (by omega),qc (by omega),qc (by decide),qc (by rw [List.length_set];omega),qc (by rw [List.length_set];omega),List.set_set,qSB (by omega),Int.toNat_natCast]
   rw [←qQi hh l1]
   simp only [e1]
   rfl
 ·rw [qfS,qi (by omega)]
theorem qMs:SoundMs Try.prog 35 qzF:=qRa (tt:=tt) (Γ:=Γ35) hT qq hm (fn:=Try.f35) Try.func35 (c:=Try.f35.body.getD .skip) (by kernel_rfl) (by kernel_rfl) fun xs hs n F hx hl hmx=>by
 obtain ⟨N,vs,h1,h2⟩:=e35 hs xs n hx hl hmx
 exact ⟨T35 N,vs,rfl,p35,⟨ql4 ql6 (qHO qSn qkD),qP0 N⟩,h1,(qKN N F hs xs n).trans h2⟩
def qFi (x:Val Y32) (k:Int):Val Y32:=(mkT Y32 x k).1
def qfp (x:Val Y32) (k:Int):Int:=(mkT Y32 x k).2
def qqh (x:Val Y32) (k:Int):Prop:=Bd Y32 x∧k≤9223372036854775807
def qrH:Gm:=⟨i32,qqh,qFi,qfp⟩
noncomputable def m14 (N:Nat) (v0:Val Y32) (v1:Int):Option ((Val Y32)×Int):=chk (qnT (v0.2:List (Val Y36)) v1) (some (((v0.1:Int),((qpb (v0.2:List (Val Y36)) v1):List (Val Y36))),(qvf (v0.2:List (Val Y36)) v1)))
def Γ14:Gam:=[]
theorem qH2:Gam.get Γ14 35=none:=rfl
def quF:Sem:=qe0 [(35,qzF.gm)] []
def qoT:Nat→Tree:=fun _=> .done
def qxK:Nat→Nm:=fun _=>⟨[],[],false⟩
def qr2:Nat→Option Jn:=fun _=>none
def qx9:Nat→Option Nm:=fun _=>none
def qyK:Nat→Option Nm:=fun _=>none
theorem p14:ql qoT (Try.f14.body.getD .skip)=true:=by kernel_rfl
def T14 (N:Nat):Tab:={tr:=qoT,lp:=qxK,ex:=qx9,rg:=qyK,jn:=qr2,fuel:=N,pins:=true,sem:=quF}
theorem qRX (N:Nat):(T14 N).pins=true:=rfl
theorem qOz (N:Nat):qm Try.prog (T14 N):=qu fun _=>rfl
theorem qF7 (N:Nat):(T14 N).sem=quF:=rfl
theorem qPl (N:Nat) (i:Nat):(T14 N).tr i=qoT i:=rfl
theorem qQk (N:Nat) (i:Nat):(T14 N).lp i=qxK i:=rfl
theorem qJz (N:Nat) (i:Nat):(T14 N).ex i=qx9 i:=rfl
theorem qQo (N:Nat) (i:Nat):(T14 N).rg i=qyK i:=rfl
theorem qLK (N:Nat) (i:Nat):(T14 N).jn i=qr2 i:=rfl
theorem qR8 (N:Nat):(T14 N).fuel=N:=rfl
theorem qMx (N:Nat) (v0:Val Y32) (v1:Int):qd tt Γ14 (T14 N) (Try.f14.body.getD .skip) (qc7 (qdl tt Y32 (qF 0 Y32 v0).1 [.tmp 4])) (qae i32 10 v0 v1)=m14 N v0 v1:=by
 rw [m14];unfold Try.f14
 simp (maxSteps:=10000000) -implicitDefEqProofs [qPl,qoT,qQk,qxK,qJz,qx9,qQo,qyK,qLK,qr2,qR8,qRX,qF7,quF,qah,qH2,qzF,qv,qae]
 try rfl
theorem e14 (x:Val Y32) (k:Int) (h:qqh x k): ∃N,m14 N x k=some (qFi x k,qfp x k):=⟨0,by
 rw [m14,qc (show qnT _ k from ⟨h.1.2,h.2⟩)]
 rfl⟩
theorem qRg:SoundM Try.prog 14 qrH:=qCT (tt:=tt) (Γ:=Γ14) hT qq hm (fn:=Try.f14) Try.func14 (c:=Try.f14.body.getD .skip) (by kernel_rfl) (by kernel_rfl) fun x n hx=>by
 obtain ⟨N,h⟩:=e14 x n hx
 exact ⟨T14 N,rfl,p14,⟨ql4 (qu9 qMs.gm ql6) qkD,qOz N⟩,(qMx N x n).trans h⟩
end Go.T
