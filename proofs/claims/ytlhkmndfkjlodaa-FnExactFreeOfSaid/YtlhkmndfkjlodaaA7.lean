/- Marks of cells. -/
import Derived.Test.YtlhkmndfkjlodaaA1
set_option linter.unusedSimpArgs false
set_option linter.unusedVariables false
namespace Go.T
open Go Go.Proofs
set_option maxHeartbeats 4000000
set_option maxRecDepth 100000
def qbY (x:List (Val (.int .i64))) (k:Int):List (Val (.int .i64)):=(mkT (.slice 3 (.int .i64)) x k).1
def qck (x:List (Val (.int .i64))) (k:Int):Int:=(mkT (.slice 3 (.int .i64)) x k).2
def qfp (x:List (Val (.int .i64))) (k:Int):Prop:=Bd (.slice 3 (.int .i64)) x∧k≤9223372036854775807
def qaa:Gms:=⟨3,(.int .i64),qfp,qbY,qck⟩
noncomputable def qiC (N:Nat) (k0:Int→(List (Val (.int .i64)))→Option ((List (Val (.int .i64)))×Int)):Nat→Int→Int→(List (Val (.int .i64)))→Option ((List (Val (.int .i64)))×Int)
 | 0,_,_,_=>none
 | n+1,v2,v3,v4=>bif (decide (v3<(v4.length:Int)))then (chk (0≤v3∧v3<(v4.length:Int)) (chk (v3.toNat<v4.length) (qiC N k0 n (IntKind.i64.wrap (v2+(1:Int))) (IntKind.i64.wrap (v3+(1:Int))) (v4.set v3.toNat v2))))else (k0 v2 v4)
noncomputable def m33 (N:Nat) (v0:List (Val (.int .i64))) (v1:Int):Option ((List (Val (.int .i64)))×Int):=qiC N (fun (v7:Int) (v8:List (Val (.int .i64)))=>some (v8,v7)) N v1 (0:Int) v0
def Γ33:Gam:=[]
def qoy:Nm:=⟨[true,true,false,false,false,true],[],false⟩
theorem qvV:qoy.zero=false:=rfl
theorem qEv:qoy.fix=[]:=rfl
theorem qAe:qoy.keep=[true,true,false,false,false,true]:=rfl
def qsT:Nm:=⟨[false,true],[],false⟩
theorem qyq:qsT.zero=false:=rfl
theorem qAr:qsT.fix=[]:=rfl
theorem qw8:qsT.keep=[false,true]:=rfl
def qmO:Sem:=qgs [] []
def qjY:Nat→Tree:=fun _=> .done
def qmS:Nat→Nm:=fun i=>if i=2 then qoy else ⟨[],[],false⟩
def qkQ:Nat→Option Jn:=fun _=>none
def qmo:Nat→Option Nm:=fun i=>if i=0 then some qsT else none
def qo7:Nat→Option Nm:=fun _=>none
theorem p33:qn qjY (Try.f33.body.getD .skip)=true:=by kernel_rfl
def T33 (N:Nat):Tab:={tr:=qjY,lp:=qmS,ex:=qmo,rg:=qo7,jn:=qkQ,fuel:=N,pins:=true,sem:=qmO}
theorem qz8 (N:Nat):(T33 N).pins=true:=rfl
theorem qTm (N:Nat):qp Try.prog (T33 N):=qw fun _=>rfl
theorem qwZ (N:Nat):(T33 N).sem=qmO:=rfl
theorem qCP (N:Nat) (i:Nat):(T33 N).tr i=qjY i:=rfl
theorem qCs (N:Nat) (i:Nat):(T33 N).lp i=qmS i:=rfl
theorem qxn (N:Nat) (i:Nat):(T33 N).ex i=qmo i:=rfl
theorem qtF (N:Nat) (i:Nat):(T33 N).rg i=qo7 i:=rfl
theorem qzb (N:Nat) (i:Nat):(T33 N).jn i=qkQ i:=rfl
theorem qyu (N:Nat):(T33 N).fuel=N:=rfl
noncomputable def qIc:Code:=cut [true,false,true,true,true] (Try.f33.body.getD .skip)
theorem qOC {N:Nat} {Q:X→St→Option ((List (Val (.int .i64)))×Int)} {e:List LV} {h:List Blk}:qe tt Γ33 (T33 N) qIc Q ⟨e,h⟩=qe tt Γ33 (T33 N) (cut [true,false,true,true,true] (Try.f33.body.getD .skip)) Q ⟨e,h⟩:=rfl
theorem qMc (N:Nat) {k0:Int→(List (Val (.int .i64)))→Option ((List (Val (.int .i64)))×Int)} {Q:X→St→Option ((List (Val (.int .i64)))×Int)} {c:Code} (hc:c=qIc) (hret: ∀st,Q .ret st=qhv tt (.slice 3 (.int .i64)) [.own 0] [.tmp 4] st) (h0: ∀(v5:Int) (v6:List (Val (.int .i64))),Q (.exit 0) ⟨[u,.one (.int .i64 v5),u,u,u,u,u,u,u,u,u,u,u,u,u,u,u,u,u],[.row 3 (.int .i64) v6 true true 0]⟩=k0 v5 v6): ∀(n:Nat) (v2:Int) (v3:Int) (v4:List (Val (.int .i64))),qC (qe tt Γ33 (T33 N) c) true qoy Q n ⟨[.one (.own 0),.one (.int .i64 v2),u,u,u,.one (.int .i64 v3),u,u,u,u,u,u,u,u,u,u,u,u,u],[.row 3 (.int .i64) v4 true true 0]⟩=qiC N k0 n v2 v3 v4:=by
 subst hc;intro n;induction n with
 | zero=>intros;rfl
 | succ n ih=>
   intro v2 v3 v4
   rw [qM,qOC,qiC];unfold Try.f33
   simp (maxSteps:=10000000) -implicitDefEqProofs [qCP,qjY,qCs,qmS,qxn,qmo,qtF,qo7,qzb,qkQ,qyu,qz8,qwZ,qmO,qR,qm,q5,qEv,qAe,qvV,qAr,qw8,qyq,hret,h0,ih]
theorem qNY (N:Nat) (v0:List (Val (.int .i64))) (v1:Int):qe tt Γ33 (T33 N) (Try.f33.body.getD .skip) (qeV (qhv tt (.slice 3 (.int .i64)) (qQ 0 (.slice 3 (.int .i64)) v0).1 [.tmp 4])) (q5 i27 19 v0 v1)=m33 N v0 v1:=by
 unfold Try.f33
 simp (maxSteps:=10000000) -implicitDefEqProofs [qCP,qjY,qCs,qmS,qxn,qmo,qtF,qo7,qzb,qkQ,qyu,qz8,qwZ,qmO,qR,qm,q5,qEv,qAe,qvV,qAr,qw8,qyq]
 rewrite [qMc (k0:=(fun (v7:Int) (v8:List (Val (.int .i64)))=>some (v8,v7))) N ?_ ?_ ?_]
 ·rewrite [m33];first | rfl | simp (maxSteps:=10000000) -implicitDefEqProofs []
 ·rfl
 ·intro;simp only [qK,qL,qN,qm]
 ·intro v7 v8;simp (maxSteps:=10000000) -implicitDefEqProofs [qCP,qjY,qCs,qmS,qxn,qmo,qtF,qo7,qzb,qkQ,qyu,qz8,qwZ,qmO,qR,qm,q5,qEv,qAe,qvV,qAr,qw8,qyq]
theorem e33 (x:List (Val (.int .i64))) (k:Int) (h:qfp x k): ∃N,m33 N x k=some (qbY x k,qck x k):=⟨x.length+1,by
 rw [m33]
 refine qMn (f:=mkE (.int .i64)) (F:=fun n i k s=>qiC _ _ n k i s) (kf:=fun k s=>some (s,k)) x h.1.1 (qmr _) (fun n i k s hi _ hl=> ?_) (fun n i k s hl hi=> ?_) _ k h.2 (Nat.lt_succ_self _)
 ·rw [qiC,qj (by omega),qd (by omega),qd (by omega)]
  rfl
 ·rw [qiC,qh (by omega)]⟩
theorem qsN:SoundMs Try.prog 33 qaa:=qKA (tt:=tt) (Γ:=Γ33) hT qt hm (fn:=Try.f33) Try.func33 (c:=Try.f33.body.getD .skip) (by kernel_rfl) (by kernel_rfl) rfl fun x n hx=>by
 obtain ⟨N,h⟩:=e33 x n hx
 exact ⟨T33 N,rfl,p33,⟨qkg qkh qjK,qTm N⟩,(qNY N x n).trans h⟩
def qih (x:List (Val Y83)) (k:Int):List (Val Y83):=(mkT (.slice 83 Y83) x k).1
def qxG (x:List (Val Y83)) (k:Int):Int:=(mkT (.slice 83 Y83) x k).2
def qqo (x:List (Val Y83)) (k:Int):Prop:=Bd (.slice 83 Y83) x∧k≤9223372036854775807
def qlb:Gms:=⟨83,Y83,qqo,qih,qxG⟩
noncomputable def qiG (N:Nat) (v6:List (Val (hd Y83))) (k0:Int→(List (Val H83))→(List (Val Y83))→Option (List (Val H83)×List (Val Y83)×Int)):Nat→Int→Int→(List (Val H83))→(List (Val Y83))→Option (List (Val H83)×List (Val Y83)×Int)
 | 0,_,_,_,_=>none
 | n+1,v3,v4,v5,v7=>bif (decide (v4<(v5.length:Int)))then (chk (0≤v4∧v4<(v5.length:Int)) (chk (v4.toNat<v5.length) (chk (v4.toNat<v7.length∧v4.toNat<v6.length∧((v6.getD v4.toNat (qa (hd Y83)):Val H83).1:Value)=((v5.getD v4.toNat (qa H83)).1:Value)∧qfp ((v7.getD v4.toNat (qa Y83)).1:List (Val (.int .i64))) v3) (chk (0≤v4∧v4<(v5.length:Int)) (chk (v4.toNat<v5.length) (chk ((3:Int)≠0) (chk (0≤v4∧v4<((v5.set v4.toNat (((v5.getD v4.toNat (qa H83)).1:Value),((qck ((v7.getD v4.toNat (qa Y83)).1:List (Val (.int .i64))) v3),(((v5.getD v4.toNat (qa H83)).2).2:Bool)))).length:Int)) (chk (v4.toNat<(v5.set v4.toNat (((v5.getD v4.toNat (qa H83)).1:Value),((qck ((v7.getD v4.toNat (qa Y83)).1:List (Val (.int .i64))) v3),(((v5.getD v4.toNat (qa H83)).2).2:Bool)))).length) (qiG N v6 k0 n (IntKind.i64.wrap ((IntKind.i64.wrap ((qck ((v7.getD v4.toNat (qa Y83)).1:List (Val (.int .i64))) v3)+(1:Int)))+(1:Int))) (IntKind.i64.wrap (v4+(1:Int))) ((v5.set v4.toNat (((v5.getD v4.toNat (qa H83)).1:Value),((qck ((v7.getD v4.toNat (qa Y83)).1:List (Val (.int .i64))) v3),(((v5.getD v4.toNat (qa H83)).2).2:Bool)))).set v4.toNat ((((v5.set v4.toNat (((v5.getD v4.toNat (qa H83)).1:Value),((qck ((v7.getD v4.toNat (qa Y83)).1:List (Val (.int .i64))) v3),(((v5.getD v4.toNat (qa H83)).2).2:Bool)))).getD v4.toNat (qa H83)).1:Value),(((((v5.set v4.toNat (((v5.getD v4.toNat (qa H83)).1:Value),((qck ((v7.getD v4.toNat (qa Y83)).1:List (Val (.int .i64))) v3),(((v5.getD v4.toNat (qa H83)).2).2:Bool)))).getD v4.toNat (qa H83)).2).1:Int),(decide (((IntKind.i64.wrap ((qck ((v7.getD v4.toNat (qa Y83)).1:List (Val (.int .i64))) v3)+(1:Int))).tmod (3:Int))=(0:Int)))))) (v7.set v4.toNat ((qbY ((v7.getD v4.toNat (qa Y83)).1:List (Val (.int .i64))) v3),(v7.getD v4.toNat (qa Y83)).2)))))))))))else (k0 v3 v5 v7)
noncomputable def qrw (N:Nat) (v0:List (Val (hd Y83))) (v1:List (Val Y83)) (v2:Int):Option (List (Val H83)×List (Val Y83)×Int):=qiG N v0 (fun (v11:Int) (v12:List (Val H83)) (v13:List (Val Y83))=>some (v12,v13,v11)) N v2 (0:Int) v0 v1
def qjA:Gam:=[]
theorem qyA:Gam.get qjA 33=none:=rfl
def qoG:Nm:=⟨[true,true,false,false,false,true],[],false⟩
theorem qxK:qoG.zero=false:=rfl
theorem quz:qoG.fix=[]:=rfl
theorem qEE:qoG.keep=[true,true,false,false,false,true]:=rfl
def qqF:Nm:=⟨[false,true],[],false⟩
theorem qCZ:qqF.zero=false:=rfl
theorem qCU:qqF.fix=[]:=rfl
theorem qtR:qqF.keep=[false,true]:=rfl
def qmD:Sem:=qgs [] [(18,33,qaa,0,13)]
def qj8:Nat→Tree:=fun _=> .done
def qkF:Nat→Nm:=fun i=>if i=2 then qoG else ⟨[],[],false⟩
def qnN:Nat→Option Jn:=fun _=>none
def qou:Nat→Option Nm:=fun i=>if i=0 then some qqF else none
def qna:Nat→Option Nm:=fun _=>none
theorem qNP:qn qj8 (Try.f124.body.getD .skip)=true:=by kernel_rfl
def qcR (N:Nat):Tab:={tr:=qj8,lp:=qkF,ex:=qou,rg:=qna,jn:=qnN,fuel:=N,pins:=true,sem:=qmD}
theorem qza (N:Nat):(qcR N).pins=true:=rfl
theorem qQY (N:Nat):qp Try.prog (qcR N):=qw fun _=>rfl
theorem qzF (N:Nat):(qcR N).sem=qmD:=rfl
theorem qD4 (N:Nat) (i:Nat):(qcR N).tr i=qj8 i:=rfl
theorem qtY (N:Nat) (i:Nat):(qcR N).lp i=qkF i:=rfl
theorem qv7 (N:Nat) (i:Nat):(qcR N).ex i=qou i:=rfl
theorem quy (N:Nat) (i:Nat):(qcR N).rg i=qna i:=rfl
theorem qFA (N:Nat) (i:Nat):(qcR N).jn i=qnN i:=rfl
theorem qCX (N:Nat):(qcR N).fuel=N:=rfl
noncomputable def qHT:Code:=cut [true,false,true,true,true] (Try.f124.body.getD .skip)
theorem qUV {N:Nat} {Q:X→St→Option (List (Val H83)×List (Val Y83)×Int)} {e:List LV} {h:List Blk}:qe tt qjA (qcR N) qHT Q ⟨e,h⟩=qe tt qjA (qcR N) (cut [true,false,true,true,true] (Try.f124.body.getD .skip)) Q ⟨e,h⟩:=rfl
theorem qPi (N:Nat) (F:List Nat) (v6:List (Val (hd Y83))) {k0:Int→(List (Val H83))→(List (Val Y83))→Option (List (Val H83)×List (Val Y83)×Int)} {Q:X→St→Option (List (Val H83)×List (Val Y83)×Int)} {c:Code} (hc:c=qHT) (hret: ∀st,Q .ret st=qeO tt 83 Y83 H83 F v6 [.tmp 4] st) (h0: ∀(v8:Int) (v9:List (Val H83)) (v10:List (Val Y83)),Q (.exit 0) ⟨[u,.one (.int .i64 v8),u,u,u,u,u,u,u,u,u,u,u,u,u,u,u,u,u,u,u,u,u,u,u,u,u,u,u,u,u,u,u,u,u,u],[.row 83 H83 v9 true true 0,.nst F Y83 v6 v10]⟩=k0 v8 v9 v10): ∀(n:Nat) (v3:Int) (v4:Int) (v5:List (Val H83)) (v7:List (Val Y83)),qC (qe tt qjA (qcR N) c) true qoG Q n ⟨[.one (.own 0),.one (.int .i64 v3),u,u,u,.one (.int .i64 v4),u,u,u,u,u,u,u,u,u,u,u,u,u,u,u,u,u,u,u,u,u,u,u,u,u,u,u,u,u,u],[.row 83 H83 v5 true true 0,.nst F Y83 v6 v7]⟩=qiG N v6 k0 n v3 v4 v5 v7:=by
 subst hc;intro n;induction n with
 | zero=>intros;rfl
 | succ n ih=>
   intro v3 v4 v5 v7
   rw [qM,qUV,qiG];unfold Try.f124
   simp (maxSteps:=10000000) -implicitDefEqProofs [qD4,qj8,qtY,qkF,qv7,qou,quy,qna,qFA,qnN,qCX,qza,qzF,qmD,qR,qyA,qaa,qm,q5,quz,qEE,qxK,qCU,qtR,qCZ,hret,h0,ih]
theorem qVE (N:Nat) (F:List Nat) (v0:List (Val (hd Y83))) (v1:List (Val Y83)) (v2:Int):qe tt qjA (qcR N) (Try.f124.body.getD .skip) (qeV (qeO tt 83 Y83 H83 F v0 [.tmp 4])) ⟨[.one (.own 0),.one (.int .i64 v2),.tup [],.tup [],.tup [],.tup [],.tup [],.tup [],.tup [],.tup [],.tup [],.tup [],.tup [],.tup [],.tup [],.tup [],.tup [],.tup [],.tup [],.tup [],.tup [],.tup [],.tup [],.tup [],.tup [],.tup [],.tup [],.tup [],.tup [],.tup [],.tup [],.tup [],.tup [],.tup [],.tup [],.tup []],[.row 83 H83 v0 true true 0,.nst F Y83 v0 v1]⟩=qrw N v0 v1 v2:=by
 unfold Try.f124
 simp (maxSteps:=10000000) -implicitDefEqProofs [qD4,qj8,qtY,qkF,qv7,qou,quy,qna,qFA,qnN,qCX,qza,qzF,qmD,qR,qyA,qaa,qm,q5,quz,qEE,qxK,qCU,qtR,qCZ]
 rewrite [qPi (k0:=(fun (v11:Int) (v12:List (Val H83)) (v13:List (Val Y83))=>some (v12,v13,v11))) N _ _ ?_ ?_ ?_]
 ·rewrite [qrw];first | rfl | simp (maxSteps:=10000000) -implicitDefEqProofs []
 ·rfl
 ·intro;simp only [qK,qL,qN,qm]
 ·intro v11 v12 v13;simp (maxSteps:=10000000) -implicitDefEqProofs [qD4,qj8,qtY,qkF,qv7,qou,quy,qna,qFA,qnN,qCX,qza,qzF,qmD,qR,qyA,qaa,qm,q5,quz,qEE,qxK,qCU,qtR,qCZ]
theorem qKT (hs:List (Val (hd Y83))) (xs:List (Val Y83)) (k:Int) (h:qqo xs k) (hl:xs.length=hs.length) (hmx:qG Y83 xs hs=hs):
 ∃N vs,vs.map (q8 Y83)=(qih xs k).map (q8 Y83)∧qrw N hs xs k=some (qG Y83 (qih xs k) hs,vs,qxG xs k):=by
 refine ⟨xs.length+1,?_⟩
 rw [qrw]
 refine qpq (t:=Y83) (F:=fun n i k ys vs=>qiG _ hs _ n k i ys vs) (kf:=fun k ys vs=>some (ys,vs,k)) xs hl hmx (by rw [←hl];exact h.1.1) (fun n i k fs vs hi hh hv hk l1 l2 hsl ⟨hx,hfx⟩=> ?_) (fun n i k ys vs hl hi=> ?_) _ k h.2 (Nat.lt_succ_self _)
 ·have hy:(qG Y83 fs hs).length=hs.length:=qiH l1
  have e1:vs[i].1=fs[i].1:=(Prod.mk.inj hsl).1
  refine ⟨(qbY vs[i].1 k,vs[i].2),?_,?_⟩
  ·show ((qbY vs[i].1 k,(0,false)):Val Y83)=(qbY fs[i].1 k,(0,false))
   rw [e1]
  ·have hb:qfp vs[i].1 k:=⟨by rw [e1,hfx];exact (h.1.2 _ (List.getElem_mem hx)).1,hk⟩
   rw [qiG,qj (by omega),qd (by omega),qd (by omega),qru hi hh l1,qA hv,qA hh,qd ⟨by omega,by omega,rfl,hb⟩,qd (by omega),qd (by omega),qd (by decide),qd (by rw [List.length_set];omega),qd (by rw [List.length_set];omega),List.set_set,qpd (by omega),Int.toNat_natCast]
   rw [←qsq hh l1]
   simp only [e1]
   rfl
 ·rw [qiG,qh (by omega)]
theorem qNA:SoundMs Try.prog 124 qlb:=qsJ (tt:=tt) (Γ:=qjA) hT qt hm (fn:=Try.f124) Try.func124 (c:=Try.f124.body.getD .skip) (by kernel_rfl) (by kernel_rfl) fun xs hs n F hx hl hmx=>by
 obtain ⟨N,vs,h1,h2⟩:=qKT hs xs n hx hl hmx
 exact ⟨qcR N,vs,rfl,qNP,⟨qkg qkh (qli qsN qjK),qQY N⟩,h1,(qVE N F hs xs n).trans h2⟩
def qgC (x:List (Val (.int .i64))) (k:Int):Int:=(mkT (.slice 3 (.int .i64)) x k).2
def qne (x:List (Val (.int .i64))) (k:Int):Prop:=qKZ (.slice 3 (.int .i64)) x k
noncomputable def qiF (N:Nat) (v2:List (Val (.int .i64))) (k0:Int→Option (qc [i3])):Nat→Int→Int→Option (qc [i3])
 | 0,_,_=>none
 | n+1,v3,v4=>bif (decide (v4<(v2.length:Int)))then (chk (0≤v4∧v4<(v2.length:Int)) (bif (!(decide (((v2.getD v4.toNat (qa (.int .i64))):Int)=v3)))then (some ((-1:Int),()))else (qiF N v2 k0 n (IntKind.i64.wrap (v3+(1:Int))) (IntKind.i64.wrap (v4+(1:Int))))))else (k0 v3)
noncomputable def m34 (N:Nat) (v0:List (Val (.int .i64))) (v1:Int):Option (qc [i3]):=qiF N v0 (fun (v6:Int)=>some (v6,())) N v1 (0:Int)
def Γ34:Gam:=[]
def qlK:Nm:=⟨[true,true,false,false,false,true],[],false⟩
theorem qxx:qlK.zero=false:=rfl
theorem qtL:qlK.fix=[]:=rfl
theorem qyQ:qlK.keep=[true,true,false,false,false,true]:=rfl
def qqt:Nm:=⟨[false,true],[],false⟩
theorem qAX:qqt.zero=false:=rfl
theorem qA9:qqt.fix=[]:=rfl
theorem qvF:qqt.keep=[false,true]:=rfl
def qjc:Nat→Tree:=fun _=> .done
def qmT:Nat→Nm:=fun i=>if i=2 then qlK else ⟨[],[],false⟩
def qn4:Nat→Option Jn:=fun _=>none
def qm3:Nat→Option Nm:=fun i=>if i=0 then some qqt else none
def qlg:Nat→Option Nm:=fun _=>none
theorem p34:qn qjc (Try.f34.body.getD .skip)=true:=by kernel_rfl
def T34 (N:Nat):Tab:={tr:=qjc,lp:=qmT,ex:=qm3,rg:=qlg,jn:=qn4,fuel:=N}
theorem quv (N:Nat):(T34 N).pins=false:=rfl
theorem qOU (N:Nat):qp Try.prog (T34 N):=qw fun _=>rfl
theorem qu0 (N:Nat) (i:Nat):(T34 N).tr i=qjc i:=rfl
theorem qBN (N:Nat) (i:Nat):(T34 N).lp i=qmT i:=rfl
theorem qEt (N:Nat) (i:Nat):(T34 N).ex i=qm3 i:=rfl
theorem qC4 (N:Nat) (i:Nat):(T34 N).rg i=qlg i:=rfl
theorem qzN (N:Nat) (i:Nat):(T34 N).jn i=qn4 i:=rfl
theorem qEG (N:Nat):(T34 N).fuel=N:=rfl
noncomputable def qGu:Code:=cut [true,false,true,true,true] (Try.f34.body.getD .skip)
theorem qLd {N:Nat} {Q:X→St→Option (qc [i3])} {e:List LV} {h:List Blk}:qe tt Γ34 (T34 N) qGu Q ⟨e,h⟩=qe tt Γ34 (T34 N) (cut [true,false,true,true,true] (Try.f34.body.getD .skip)) Q ⟨e,h⟩:=rfl
theorem qRi (N:Nat) (v2:List (Val (.int .i64))) {k0:Int→Option (qc [i3])} {Q:X→St→Option (qc [i3])} {c:Code} (hc:c=qGu) (hret: ∀st,Q .ret st=qI tt true [i3] [.tmp 4] st) (h0: ∀(v5:Int),Q (.exit 0) ⟨[u,.one (.int .i64 v5),u,u,u,u,u,u,u,u,u,u,u,u,u,u,u,u,u,u,u],[]⟩=k0 v5): ∀(n:Nat) (v3:Int) (v4:Int),qC (qe tt Γ34 (T34 N) c) false qlK Q n ⟨[.one (.sl 3 (.int .i64) v2 0),.one (.int .i64 v3),u,u,u,.one (.int .i64 v4),u,u,u,u,u,u,u,u,u,u,u,u,u,u,u],[]⟩=qiF N v2 k0 n v3 v4:=by
 subst hc;intro n;induction n with
 | zero=>intros;rfl
 | succ n ih=>
   intro v3 v4
   rw [qM,qLd,qiF];unfold Try.f34
   simp (maxSteps:=10000000) -implicitDefEqProofs [qu0,qjc,qBN,qmT,qEt,qm3,qC4,qlg,qzN,qn4,qEG,quv,qtL,qyQ,qxx,qA9,qvF,qAX,hret,h0,ih]
theorem qKx (N:Nat) (v0:List (Val (.int .i64))) (v1:Int):qe tt Γ34 (T34 N) (Try.f34.body.getD .skip) (qr tt true [i3] [.tmp 4]) (qv [i27,i3] 21 (v0,v1,()))=m34 N v0 v1:=by
 unfold Try.f34
 simp (maxSteps:=10000000) -implicitDefEqProofs [qu0,qjc,qBN,qmT,qEt,qm3,qC4,qlg,qzN,qn4,qEG,quv,qtL,qyQ,qxx,qA9,qvF,qAX]
 rewrite [qRi (k0:=(fun (v6:Int)=>some (v6,()))) N _ ?_ ?_ ?_]
 ·rewrite [m34];first | rfl | simp (maxSteps:=10000000) -implicitDefEqProofs []
 ·rfl
 ·intro;simp only [qK,qL,qN,qm]
 ·intro v6;simp (maxSteps:=10000000) -implicitDefEqProofs [qu0,qjc,qBN,qmT,qEt,qm3,qC4,qlg,qzN,qn4,qEG,quv,qtL,qyQ,qxx,qA9,qvF,qAX]
def g34:G:={ps:=[i27,i3],rs:=[i3],dp:=true,pre:=fun x=>qne x.1 x.2.1,fn:=fun x=>(qgC x.1 x.2.1,())}
theorem e34 (x:List (Val (.int .i64))) (k:Int) (h:qne x k): ∃N,m34 N x k=some (qgC x k,()):=⟨x.length+1,by
 obtain ⟨hm,hb,h0,hc⟩:=h
 rw [m34]
 refine qKK (t:= .int .i64) (F:=fun n i k=>qiF _ x _ n k i) (kf:=fun k=>some (k,())) x hb.1 (fun n i k hi hx h0 hb=> ?_) (fun n i k hi=> ?_) _ k (Nat.lt_succ_self _) hm h0 hc
 ·have hx:k=x[i]:=hx
  rw [qiF,qj (by omega),qd (by omega),qA hi,qX,qj hx.symm]
  rfl
 ·rw [qiF,qh (by omega)]⟩
theorem s34:Sound Try.prog 34 g34:=qz (tt:=tt) (Γ:=Γ34) hT qt hm (fn:=Try.f34) Try.func34 (c:=Try.f34.body.getD .skip) (by kernel_rfl) (by kernel_rfl) fun x hx=>by
 obtain ⟨N,h⟩:=e34 x.1 x.2.1 hx
 exact ⟨T34 N,p34,qy _,qOU N,(qKx N x.1 x.2.1).trans h⟩
end Go.T
