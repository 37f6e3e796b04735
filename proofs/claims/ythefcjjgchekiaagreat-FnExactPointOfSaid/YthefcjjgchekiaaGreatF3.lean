/- Marks of regions. -/
import Derived.Test.YthefcjjgchekiaaGreatF1
import Derived.Test.YthefcjjgchekiaaGreatA8a
set_option linter.unusedSimpArgs false
set_option linter.unusedVariables false
namespace Go.T
open Go Go.Proofs
set_option maxHeartbeats 4000000
set_option maxRecDepth 100000
def qnD (x:List (Val (.int .i64))) (k:Int):List (Val (.int .i64)):=(mkT (.slice 3 (.int .i64)) x k).1
def qgJ (x:List (Val (.int .i64))) (k:Int):Int:=(mkT (.slice 3 (.int .i64)) x k).2
def qyd (x:List (Val (.int .i64))) (k:Int):Prop:=Bd (.slice 3 (.int .i64)) x∧k≤9223372036854775807
def qwy:Gms:=⟨3,(.int .i64),qyd,qnD,qgJ⟩
noncomputable def qmB (N:Nat) (k0:Int→(List (Val (.int .i64)))→Option ((List (Val (.int .i64)))×Int)):Nat→Int→Int→(List (Val (.int .i64)))→Option ((List (Val (.int .i64)))×Int)
 | 0,_,_,_=>none
 | n+1,v2,v3,v4=>bif (decide (v3<(v4.length:Int)))then (chk (0≤v3∧v3<(v4.length:Int)) (chk (v3.toNat<v4.length) (qmB N k0 n (IntKind.i64.wrap (v2+(1:Int))) (IntKind.i64.wrap (v3+(1:Int))) (v4.set v3.toNat v2))))else (k0 v2 v4)
noncomputable def qEa (N:Nat) (v0:List (Val (.int .i64))) (v1:Int):Option ((List (Val (.int .i64)))×Int):=qmB N (fun (v7:Int) (v8:List (Val (.int .i64)))=>some (v8,v7)) N v1 (0:Int) v0
def qsu:Gam:=[]
def quE:Nm:=⟨[true,true,false,false,false,true],[],false⟩
theorem qHp:quE.zero=false:=rfl
theorem qRl:quE.fix=[]:=rfl
theorem qL1:quE.keep=[true,true,false,false,false,true]:=rfl
def qBS:Nm:=⟨[false,true],[],false⟩
theorem qVS:qBS.zero=false:=rfl
theorem qHK:qBS.fix=[]:=rfl
theorem qVQ:qBS.keep=[false,true]:=rfl
def quc:Sem:=qhg [] []
def qnn:Nat→Tree:=fun _=> .done
def qpC:Nat→Nm:=fun i=>if i=2 then quE else ⟨[],[],false⟩
def qto:Nat→Option Jn:=fun _=>none
def qqP:Nat→Option Nm:=fun i=>if i=0 then some qBS else none
def qs9:Nat→Option Nm:=fun _=>none
theorem q7z:qn qnn (Tryz.f100.body.getD .skip)=true:=by kernel_rfl
def qcB (N:Nat):Tab:={tr:=qnn,lp:=qpC,ex:=qqP,rg:=qs9,jn:=qto,fuel:=N,pins:=true,sem:=quc}
theorem qJ8 (N:Nat):(qcB N).pins=true:=rfl
theorem zqp (N:Nat):qp Tryz.prog (qcB N):=qv fun _=>rfl
theorem qF8 (N:Nat):(qcB N).sem=quc:=rfl
theorem qLu (N:Nat) (i:Nat):(qcB N).tr i=qnn i:=rfl
theorem qGP (N:Nat) (i:Nat):(qcB N).lp i=qpC i:=rfl
theorem qFR (N:Nat) (i:Nat):(qcB N).ex i=qqP i:=rfl
theorem qQs (N:Nat) (i:Nat):(qcB N).rg i=qs9 i:=rfl
theorem qUg (N:Nat) (i:Nat):(qcB N).jn i=qto i:=rfl
theorem qUq (N:Nat):(qcB N).fuel=N:=rfl
noncomputable def q0h:Code:=cut [true,false,true,true,true] (Tryz.f100.body.getD .skip)
theorem q8O {N:Nat} {Q:X→St→Option ((List (Val (.int .i64)))×Int)} {e:List LV} {h:List Blk}:qe tt qsu (qcB N) q0h Q ⟨e,h⟩=qe tt qsu (qcB N) (cut [true,false,true,true,true] (Tryz.f100.body.getD .skip)) Q ⟨e,h⟩:=rfl
theorem ziz (N:Nat) {k0:Int→(List (Val (.int .i64)))→Option ((List (Val (.int .i64)))×Int)} {Q:X→St→Option ((List (Val (.int .i64)))×Int)} {c:Code} (hc:c=q0h) (hret: ∀st,Q .ret st=qe9 tt (.slice 3 (.int .i64)) [.own 0] [.tmp 4] st) (h0: ∀(v5:Int) (v6:List (Val (.int .i64))),Q (.exit 0) ⟨[u,.one (.int .i64 v5),u,u,u,u,u,u,u,u,u,u,u,u,u,u,u,u,u],[.row 3 (.int .i64) v6 true true 0]⟩=k0 v5 v6): ∀(n:Nat) (v2:Int) (v3:Int) (v4:List (Val (.int .i64))),qE (qe tt qsu (qcB N) c) true quE Q n ⟨[.one (.own 0),.one (.int .i64 v2),u,u,u,.one (.int .i64 v3),u,u,u,u,u,u,u,u,u,u,u,u,u],[.row 3 (.int .i64) v4 true true 0]⟩=qmB N k0 n v2 v3 v4:=by
 subst hc;intro n;induction n with
 | zero=>intros;rfl
 | succ n ih=>
   intro v2 v3 v4
   rw [qN,q8O,qmB];unfold Tryz.f100
   simp (maxSteps:=10000000) -implicitDefEqProofs [qLu,qnn,qGP,qpC,qFR,qqP,qQs,qs9,qUg,qto,qUq,qJ8,qF8,quc,qbc,qB,qbB,qRl,qL1,qHp,qHK,qVQ,qVS,hret,h0,ih]
theorem zjw (N:Nat) (v0:List (Val (.int .i64))) (v1:Int):qe tt qsu (qcB N) (Tryz.f100.body.getD .skip) (qef (qe9 tt (.slice 3 (.int .i64)) (q9 0 (.slice 3 (.int .i64)) v0).1 [.tmp 4])) (qbB i25 19 v0 v1)=qEa N v0 v1:=by
 unfold Tryz.f100
 simp (maxSteps:=10000000) -implicitDefEqProofs [qLu,qnn,qGP,qpC,qFR,qqP,qQs,qs9,qUg,qto,qUq,qJ8,qF8,quc,qbc,qB,qbB,qRl,qL1,qHp,qHK,qVQ,qVS]
 rewrite [ziz (k0:=(fun (v7:Int) (v8:List (Val (.int .i64)))=>some (v8,v7))) N ?_ ?_ ?_]
 ·rewrite [qEa];first | rfl | simp (maxSteps:=10000000) -implicitDefEqProofs []
 ·rfl
 ·intro;simp only [qJ,qL,qK,qB]
 ·intro v7 v8;simp (maxSteps:=10000000) -implicitDefEqProofs [qLu,qnn,qGP,qpC,qFR,qqP,qQs,qs9,qUg,qto,qUq,qJ8,qF8,quc,qbc,qB,qbB,qRl,qL1,qHp,qHK,qVQ,qVS]
theorem zdH (x:List (Val (.int .i64))) (k:Int) (h:qyd x k): ∃N,qEa N x k=some (qnD x k,qgJ x k):=⟨x.length+1,by
 rw [qEa]
 refine qYQ (f:=mkE (.int .i64)) (F:=fun n i k s=>qmB _ _ n k i s) (kf:=fun k s=>some (s,k)) x h.1.1 (qoN _) (fun n i k s hi _ hl=> ?_) (fun n i k s hl hi=> ?_) _ k h.2 (Nat.lt_succ_self _)
 ·rw [qmB,qk (by omega),qd (by omega),qd (by omega)]
  rfl
 ·rw [qmB,qj (by omega)]⟩
theorem zla:SoundMs Tryz.prog 100 qwy:=qYx (tt:=tt) (Γ:=qsu) hT qu hm (fn:=Tryz.f100) Tryz.func100 (c:=Tryz.f100.body.getD .skip) (by kernel_rfl) (by kernel_rfl) rfl fun x n hx=>by
 obtain ⟨N,h⟩:=zdH x n hx
 exact ⟨qcB N,rfl,q7z,⟨qpm qpn qnz,zqp N⟩,(zjw N x n).trans h⟩
def qkI (x:List (Val qa)) (k:Int):List (Val qa):=(mkT (.slice 108 qa) x k).1
def qIO (x:List (Val qa)) (k:Int):Int:=(mkT (.slice 108 qa) x k).2
def qCp (x:List (Val qa)) (k:Int):Prop:=Bd (.slice 108 qa) x∧k≤9223372036854775807
def qvI:Gms:=⟨108,qa,qCp,qkI,qIO⟩
noncomputable def qlR (N:Nat) (v6:List (Val (hd qa))) (k0:Int→(List (Val qaF))→(List (Val qa))→Option (List (Val qaF)×List (Val qa)×Int)):Nat→Int→Int→(List (Val qaF))→(List (Val qa))→Option (List (Val qaF)×List (Val qa)×Int)
 | 0,_,_,_,_=>none
 | n+1,v3,v4,v5,v7=>bif (decide (v4<(v5.length:Int)))then (chk (0≤v4∧v4<(v5.length:Int)) (chk (v4.toNat<v5.length) (chk (v4.toNat<v7.length∧v4.toNat<v6.length∧((v6.getD v4.toNat (qb (hd qa)):Val qaF).1:Value)=((v5.getD v4.toNat (qb qaF)).1:Value)∧qyd ((v7.getD v4.toNat (qb qa)).1:List (Val (.int .i64))) v3) (chk (0≤v4∧v4<(v5.length:Int)) (chk (v4.toNat<v5.length) (chk ((3:Int)≠0) (chk (0≤v4∧v4<((v5.set v4.toNat (((v5.getD v4.toNat (qb qaF)).1:Value),((qgJ ((v7.getD v4.toNat (qb qa)).1:List (Val (.int .i64))) v3),(((v5.getD v4.toNat (qb qaF)).2).2:Bool)))).length:Int)) (chk (v4.toNat<(v5.set v4.toNat (((v5.getD v4.toNat (qb qaF)).1:Value),((qgJ ((v7.getD v4.toNat (qb qa)).1:List (Val (.int .i64))) v3),(((v5.getD v4.toNat (qb qaF)).2).2:Bool)))).length) (qlR N v6 k0 n (IntKind.i64.wrap ((IntKind.i64.wrap ((qgJ ((v7.getD v4.toNat (qb qa)).1:List (Val (.int .i64))) v3)+(1:Int)))+(1:Int))) (IntKind.i64.wrap (v4+(1:Int))) ((v5.set v4.toNat (((v5.getD v4.toNat (qb qaF)).1:Value),((qgJ ((v7.getD v4.toNat (qb qa)).1:List (Val (.int .i64))) v3),(((v5.getD v4.toNat (qb qaF)).2).2:Bool)))).set v4.toNat ((((v5.set v4.toNat (((v5.getD v4.toNat (qb qaF)).1:Value),((qgJ ((v7.getD v4.toNat (qb qa)).1:List (Val (.int .i64))) v3),(((v5.getD v4.toNat (qb qaF)).2).2:Bool)))).getD v4.toNat (qb qaF)).1:Value),(((((v5.set v4.toNat (((v5.getD v4.toNat (qb qaF)).1:Value),((qgJ ((v7.getD v4.toNat (qb qa)).1:List (Val (.int .i64))) v3),(((v5.getD v4.toNat (qb qaF)).2).2:Bool)))).getD v4.toNat (qb qaF)).2).1:Int),(decide (((IntKind.i64.wrap ((qgJ ((v7.getD v4.toNat (qb qa)).1:List (Val (.int .i64))) v3)+(1:Int))).tmod (3:Int))=(0:Int)))))) (v7.set v4.toNat ((qnD ((v7.getD v4.toNat (qb qa)).1:List (Val (.int .i64))) v3),(v7.getD v4.toNat (qb qa)).2)))))))))))else (k0 v3 v5 v7)
noncomputable def qEi (N:Nat) (v0:List (Val (hd qa))) (v1:List (Val qa)) (v2:Int):Option (List (Val qaF)×List (Val qa)×Int):=qlR N v0 (fun (v11:Int) (v12:List (Val qaF)) (v13:List (Val qa))=>some (v12,v13,v11)) N v2 (0:Int) v0 v1
def qnv:Gam:=[]
theorem qUS:Gam.get qnv 100=none:=rfl
def qqE:Nm:=⟨[true,true,false,false,false,true],[],false⟩
theorem qHH:qqE.zero=false:=rfl
theorem qKU:qqE.fix=[]:=rfl
theorem qMQ:qqE.keep=[true,true,false,false,false,true]:=rfl
def qEo:Nm:=⟨[false,true],[],false⟩
theorem qLE:qEo.zero=false:=rfl
theorem qPI:qEo.fix=[]:=rfl
theorem qWo:qEo.keep=[false,true]:=rfl
def qpt:Sem:=qhg [] [(18,100,qwy,0,13)]
def qnT:Nat→Tree:=fun _=> .done
def qqD:Nat→Nm:=fun i=>if i=2 then qqE else ⟨[],[],false⟩
def qwL:Nat→Option Jn:=fun _=>none
def qu7:Nat→Option Nm:=fun i=>if i=0 then some qEo else none
def qvk:Nat→Option Nm:=fun _=>none
theorem zq9:qn qnT (Tryz.f191.body.getD .skip)=true:=by kernel_rfl
def qcO (N:Nat):Tab:={tr:=qnT,lp:=qqD,ex:=qu7,rg:=qvk,jn:=qwL,fuel:=N,pins:=true,sem:=qpt}
theorem qMp (N:Nat):(qcO N).pins=true:=rfl
theorem zc7 (N:Nat):qp Tryz.prog (qcO N):=qv fun _=>rfl
theorem qPg (N:Nat):(qcO N).sem=qpt:=rfl
theorem qQ0 (N:Nat) (i:Nat):(qcO N).tr i=qnT i:=rfl
theorem qVO (N:Nat) (i:Nat):(qcO N).lp i=qqD i:=rfl
theorem qTq (N:Nat) (i:Nat):(qcO N).ex i=qu7 i:=rfl
theorem qW7 (N:Nat) (i:Nat):(qcO N).rg i=qvk i:=rfl
theorem qKz (N:Nat) (i:Nat):(qcO N).jn i=qwL i:=rfl
theorem qJa (N:Nat):(qcO N).fuel=N:=rfl
noncomputable def qZt:Code:=cut [true,false,true,true,true] (Tryz.f191.body.getD .skip)
theorem zpQ {N:Nat} {Q:X→St→Option (List (Val qaF)×List (Val qa)×Int)} {e:List LV} {h:List Blk}:qe tt qnv (qcO N) qZt Q ⟨e,h⟩=qe tt qnv (qcO N) (cut [true,false,true,true,true] (Tryz.f191.body.getD .skip)) Q ⟨e,h⟩:=rfl
theorem zb6 (N:Nat) (F:List Nat) (v6:List (Val (hd qa))) {k0:Int→(List (Val qaF))→(List (Val qa))→Option (List (Val qaF)×List (Val qa)×Int)} {Q:X→St→Option (List (Val qaF)×List (Val qa)×Int)} {c:Code} (hc:c=qZt) (hret: ∀st,Q .ret st=qiP tt 108 qa qaF F v6 [.tmp 4] st) (h0: ∀(v8:Int) (v9:List (Val qaF)) (v10:List (Val qa)),Q (.exit 0) ⟨[u,.one (.int .i64 v8),u,u,u,u,u,u,u,u,u,u,u,u,u,u,u,u,u,u,u,u,u,u,u,u,u,u,u,u,u,u,u,u,u,u],[.row 108 qaF v9 true true 0,.nst F qa v6 v10]⟩=k0 v8 v9 v10): ∀(n:Nat) (v3:Int) (v4:Int) (v5:List (Val qaF)) (v7:List (Val qa)),qE (qe tt qnv (qcO N) c) true qqE Q n ⟨[.one (.own 0),.one (.int .i64 v3),u,u,u,.one (.int .i64 v4),u,u,u,u,u,u,u,u,u,u,u,u,u,u,u,u,u,u,u,u,u,u,u,u,u,u,u,u,u,u],[.row 108 qaF v5 true true 0,.nst F qa v6 v7]⟩=qlR N v6 k0 n v3 v4 v5 v7:=by
 subst hc;intro n;induction n with
 | zero=>intros;rfl
 | succ n ih=>
   intro v3 v4 v5 v7
   rw [qN,zpQ,qlR];unfold Tryz.f191
   simp (maxSteps:=10000000) -implicitDefEqProofs [qQ0,qnT,qVO,qqD,qTq,qu7,qW7,qvk,qKz,qwL,qJa,qMp,qPg,qpt,qbc,qUS,qwy,qB,qbB,qKU,qMQ,qHH,qPI,qWo,qLE,hret,h0,ih]
theorem zgL (N:Nat) (F:List Nat) (v0:List (Val (hd qa))) (v1:List (Val qa)) (v2:Int):qe tt qnv (qcO N) (Tryz.f191.body.getD .skip) (qef (qiP tt 108 qa qaF F v0 [.tmp 4])) ⟨[.one (.own 0),.one (.int .i64 v2),.tup [],.tup [],.tup [],.tup [],.tup [],.tup [],.tup [],.tup [],.tup [],.tup [],.tup [],.tup [],.tup [],.tup [],.tup [],.tup [],.tup [],.tup [],.tup [],.tup [],.tup [],.tup [],.tup [],.tup [],.tup [],.tup [],.tup [],.tup [],.tup [],.tup [],.tup [],.tup [],.tup [],.tup []],[.row 108 qaF v0 true true 0,.nst F qa v0 v1]⟩=qEi N v0 v1 v2:=by
 unfold Tryz.f191
 simp (maxSteps:=10000000) -implicitDefEqProofs [qQ0,qnT,qVO,qqD,qTq,qu7,qW7,qvk,qKz,qwL,qJa,qMp,qPg,qpt,qbc,qUS,qwy,qB,qbB,qKU,qMQ,qHH,qPI,qWo,qLE]
 rewrite [zb6 (k0:=(fun (v11:Int) (v12:List (Val qaF)) (v13:List (Val qa))=>some (v12,v13,v11))) N _ _ ?_ ?_ ?_]
 ·rewrite [qEi];first | rfl | simp (maxSteps:=10000000) -implicitDefEqProofs []
 ·rfl
 ·intro;simp only [qJ,qL,qK,qB]
 ·intro v11 v12 v13;simp (maxSteps:=10000000) -implicitDefEqProofs [qQ0,qnT,qVO,qqD,qTq,qu7,qW7,qvk,qKz,qwL,qJa,qMp,qPg,qpt,qbc,qUS,qwy,qB,qbB,qKU,qMQ,qHH,qPI,qWo,qLE]
theorem zb0 (hs:List (Val (hd qa))) (xs:List (Val qa)) (k:Int) (h:qCp xs k) (hl:xs.length=hs.length) (hmx:qX qa xs hs=hs):
 ∃N vs,vs.map (qaE qa)=(qkI xs k).map (qaE qa)∧qEi N hs xs k=some (qX qa (qkI xs k) hs,vs,qIO xs k):=by
 refine ⟨xs.length+1,?_⟩
 rw [qEi]
 refine qYo (t:=qa) (F:=fun n i k ys vs=>qlR _ hs _ n k i ys vs) (kf:=fun k ys vs=>some (ys,vs,k)) xs hl hmx (by rw [←hl];exact h.1.1) (fun n i k fs vs hi hh hv hk l1 l2 hsl ⟨hx,hfx⟩=> ?_) (fun n i k ys vs hl hi=> ?_) _ k h.2 (Nat.lt_succ_self _)
 ·have hy:(qX qa fs hs).length=hs.length:=qxc l1
  have e1:vs[i].1=fs[i].1:=(Prod.mk.inj hsl).1
  refine ⟨(qnD vs[i].1 k,vs[i].2),?_,?_⟩
  ·show ((qnD vs[i].1 k,(0,false)):Val qa)=(qnD fs[i].1 k,(0,false))
   rw [e1]
  ·have hb:qyd vs[i].1 k:=⟨by rw [e1,hfx];exact (h.1.2 _ (List.getElem_mem hx)).1,hk⟩
   rw [qlR,qk (by omega),qd (by omega),qd (by omega),qZR hi hh l1,qF hv,qF hh,qd ⟨by omega,by omega,rfl,hb⟩,qd (by omega),qd (by omega),qd (by decide),qd (by rw [List.length_set];omega),qd (by rw [List.length_set];omega),List.set_set,q08 (by omega),Int.toNat_natCast]
   rw [←q0w hh l1]
   simp only [e1]
   rfl
 ·rw [qlR,qj (by omega)]
theorem znF:SoundMs Tryz.prog 191 qvI:=q0K (tt:=tt) (Γ:=qnv) hT qu hm (fn:=Tryz.f191) Tryz.func191 (c:=Tryz.f191.body.getD .skip) (by kernel_rfl) (by kernel_rfl) fun xs hs n F hx hl hmx=>by
 obtain ⟨N,vs,h1,h2⟩:=zb0 hs xs n hx hl hmx
 exact ⟨qcO N,vs,rfl,zq9,⟨qpm qpn (q1y zla qnz),zc7 N⟩,h1,(zgL N F hs xs n).trans h2⟩
def qCE (x:List (Val Y33)) (k:Int):List (Val Y33):=(mkT (.slice 33 Y33) x k).1
def qNb (x:List (Val Y33)) (k:Int):Int:=(mkT (.slice 33 Y33) x k).2
def qyl (x:List (Val Y33)) (k:Int):Prop:=Bd (.slice 33 Y33) x∧k≤9223372036854775807
def qWy:Gms:=⟨33,Y33,qyl,qCE,qNb⟩
noncomputable def qlC (N:Nat) (v6:List (Val (hd Y33))) (k0:Int→(List (Val H33))→(List (Val Y33))→Option (List (Val H33)×List (Val Y33)×Int)):Nat→Int→Int→(List (Val H33))→(List (Val Y33))→Option (List (Val H33)×List (Val Y33)×Int)
 | 0,_,_,_,_=>none
 | n+1,v3,v4,v5,v7=>bif (decide (v4<(v5.length:Int)))then (chk (0≤v4∧v4<(v5.length:Int)) (chk (v4.toNat<v5.length) (chk (0≤v4∧v4<((v5.set v4.toNat (v3,((v5.getD v4.toNat (qb H33)).2:Value))).length:Int)) (chk (v4.toNat<(v5.set v4.toNat (v3,((v5.getD v4.toNat (qb H33)).2:Value))).length) (chk (v4.toNat<v7.length∧v4.toNat<v6.length∧((v6.getD v4.toNat (qb (hd Y33)):Val H33).2:Value)=(((v5.set v4.toNat (v3,((v5.getD v4.toNat (qb H33)).2:Value))).getD v4.toNat (qb H33)).2:Value)∧qCp ((v7.getD v4.toNat (qb Y33)).2:List (Val qa)) (IntKind.i64.wrap (v3+(1:Int)))) (qlC N v6 k0 n (qIO ((v7.getD v4.toNat (qb Y33)).2:List (Val qa)) (IntKind.i64.wrap (v3+(1:Int)))) (IntKind.i64.wrap (v4+(1:Int))) (v5.set v4.toNat (v3,((v5.getD v4.toNat (qb H33)).2:Value))) (v7.set v4.toNat (((v7.getD v4.toNat (qb Y33)).1:Int),(qkI ((v7.getD v4.toNat (qb Y33)).2:List (Val qa)) (IntKind.i64.wrap (v3+(1:Int))))))))))))else (k0 v3 v5 v7)
noncomputable def qyU (N:Nat) (v0:List (Val (hd Y33))) (v1:List (Val Y33)) (v2:Int):Option (List (Val H33)×List (Val Y33)×Int):=qlC N v0 (fun (v11:Int) (v12:List (Val H33)) (v13:List (Val Y33))=>some (v12,v13,v11)) N v2 (0:Int) v0 v1
def qne:Gam:=[]
theorem qX0:Gam.get qne 191=none:=rfl
def quC:Nm:=⟨[true,true,false,false,false,true],[],false⟩
theorem qFZ:quC.zero=false:=rfl
theorem qSZ:quC.fix=[]:=rfl
theorem qTr:quC.keep=[true,true,false,false,false,true]:=rfl
def qy8:Nm:=⟨[false,true],[],false⟩
theorem qT5:qy8.zero=false:=rfl
theorem qMv:qy8.fix=[]:=rfl
theorem qKN:qy8.keep=[false,true]:=rfl
def qq2:Sem:=qhg [] [(25,191,qvI,1,20)]
def qoY:Nat→Tree:=fun _=> .done
def quT:Nat→Nm:=fun i=>if i=2 then quC else ⟨[],[],false⟩
def qwF:Nat→Option Jn:=fun _=>none
def qwU:Nat→Option Nm:=fun i=>if i=0 then some qy8 else none
def qwd:Nat→Option Nm:=fun _=>none
theorem q7o:qn qoY (Tryz.f135.body.getD .skip)=true:=by kernel_rfl
def qcG (N:Nat):Tab:={tr:=qoY,lp:=quT,ex:=qwU,rg:=qwd,jn:=qwF,fuel:=N,pins:=true,sem:=qq2}
theorem qIN (N:Nat):(qcG N).pins=true:=rfl
theorem q7G (N:Nat):qp Tryz.prog (qcG N):=qv fun _=>rfl
theorem qKR (N:Nat):(qcG N).sem=qq2:=rfl
theorem qUC (N:Nat) (i:Nat):(qcG N).tr i=qoY i:=rfl
theorem qG7 (N:Nat) (i:Nat):(qcG N).lp i=quT i:=rfl
theorem qUK (N:Nat) (i:Nat):(qcG N).ex i=qwU i:=rfl
theorem qTJ (N:Nat) (i:Nat):(qcG N).rg i=qwd i:=rfl
theorem qKA (N:Nat) (i:Nat):(qcG N).jn i=qwF i:=rfl
theorem qTa (N:Nat):(qcG N).fuel=N:=rfl
noncomputable def qY2:Code:=cut [true,false,true,true,true] (Tryz.f135.body.getD .skip)
theorem zbz {N:Nat} {Q:X→St→Option (List (Val H33)×List (Val Y33)×Int)} {e:List LV} {h:List Blk}:qe tt qne (qcG N) qY2 Q ⟨e,h⟩=qe tt qne (qcG N) (cut [true,false,true,true,true] (Tryz.f135.body.getD .skip)) Q ⟨e,h⟩:=rfl
theorem zcJ (N:Nat) (F:List Nat) (v6:List (Val (hd Y33))) {k0:Int→(List (Val H33))→(List (Val Y33))→Option (List (Val H33)×List (Val Y33)×Int)} {Q:X→St→Option (List (Val H33)×List (Val Y33)×Int)} {c:Code} (hc:c=qY2) (hret: ∀st,Q .ret st=qiP tt 33 Y33 H33 F v6 [.tmp 4] st) (h0: ∀(v8:Int) (v9:List (Val H33)) (v10:List (Val Y33)),Q (.exit 0) ⟨[u,.one (.int .i64 v8),u,u,u,u,u,u,u,u,u,u,u,u,u,u,u,u,u,u,u,u,u,u,u,u,u],[.row 33 H33 v9 true true 0,.nst F Y33 v6 v10]⟩=k0 v8 v9 v10): ∀(n:Nat) (v3:Int) (v4:Int) (v5:List (Val H33)) (v7:List (Val Y33)),qE (qe tt qne (qcG N) c) true quC Q n ⟨[.one (.own 0),.one (.int .i64 v3),u,u,u,.one (.int .i64 v4),u,u,u,u,u,u,u,u,u,u,u,u,u,u,u,u,u,u,u,u,u],[.row 33 H33 v5 true true 0,.nst F Y33 v6 v7]⟩=qlC N v6 k0 n v3 v4 v5 v7:=by
 subst hc;intro n;induction n with
 | zero=>intros;rfl
 | succ n ih=>
   intro v3 v4 v5 v7
   rw [qN,zbz,qlC];unfold Tryz.f135
   simp (maxSteps:=10000000) -implicitDefEqProofs [qUC,qoY,qG7,quT,qUK,qwU,qTJ,qwd,qKA,qwF,qTa,qIN,qKR,qq2,qbc,qX0,qvI,qB,qbB,qSZ,qTr,qFZ,qMv,qKN,qT5,hret,h0,ih]
theorem zbq (N:Nat) (F:List Nat) (v0:List (Val (hd Y33))) (v1:List (Val Y33)) (v2:Int):qe tt qne (qcG N) (Tryz.f135.body.getD .skip) (qef (qiP tt 33 Y33 H33 F v0 [.tmp 4])) ⟨[.one (.own 0),.one (.int .i64 v2),.tup [],.tup [],.tup [],.tup [],.tup [],.tup [],.tup [],.tup [],.tup [],.tup [],.tup [],.tup [],.tup [],.tup [],.tup [],.tup [],.tup [],.tup [],.tup [],.tup [],.tup [],.tup [],.tup [],.tup [],.tup []],[.row 33 H33 v0 true true 0,.nst F Y33 v0 v1]⟩=qyU N v0 v1 v2:=by
 unfold Tryz.f135
 simp (maxSteps:=10000000) -implicitDefEqProofs [qUC,qoY,qG7,quT,qUK,qwU,qTJ,qwd,qKA,qwF,qTa,qIN,qKR,qq2,qbc,qX0,qvI,qB,qbB,qSZ,qTr,qFZ,qMv,qKN,qT5]
 rewrite [zcJ (k0:=(fun (v11:Int) (v12:List (Val H33)) (v13:List (Val Y33))=>some (v12,v13,v11))) N _ _ ?_ ?_ ?_]
 ·rewrite [qyU];first | rfl | simp (maxSteps:=10000000) -implicitDefEqProofs []
 ·rfl
 ·intro;simp only [qJ,qL,qK,qB]
 ·intro v11 v12 v13;simp (maxSteps:=10000000) -implicitDefEqProofs [qUC,qoY,qG7,quT,qUK,qwU,qTJ,qwd,qKA,qwF,qTa,qIN,qKR,qq2,qbc,qX0,qvI,qB,qbB,qSZ,qTr,qFZ,qMv,qKN,qT5]
theorem zhZ (hs:List (Val (hd Y33))) (xs:List (Val Y33)) (k:Int) (h:qyl xs k) (hl:xs.length=hs.length) (hmx:qX Y33 xs hs=hs):
 ∃N vs,vs.map (qaE Y33)=(qCE xs k).map (qaE Y33)∧qyU N hs xs k=some (qX Y33 (qCE xs k) hs,vs,qNb xs k):=by
 refine ⟨xs.length+1,?_⟩
 rw [qyU]
 refine qYo (t:=Y33) (F:=fun n i k ys vs=>qlC _ hs _ n k i ys vs) (kf:=fun k ys vs=>some (ys,vs,k)) xs hl hmx (by rw [←hl];exact h.1.1) (fun n i k fs vs hi hh hv hk l1 l2 hsl ⟨hx,hfx⟩=> ?_) (fun n i k ys vs hl hi=> ?_) _ k h.2 (Nat.lt_succ_self _)
 ·have hy:(qX Y33 fs hs).length=hs.length:=qxc l1
  have e1:vs[i].2=fs[i].2:=(Prod.mk.inj hsl).2
  refine ⟨(vs[i].1,qkI vs[i].2 (IntKind.i64.wrap (k+1))),?_,?_⟩
  ·show ((0,qkI vs[i].2 _):Val Y33)=(0,qkI fs[i].2 _)
   rw [e1];rfl
  ·have hb:qCp vs[i].2 (IntKind.i64.wrap (k+1)):=⟨by rw [e1,hfx];exact (h.1.2 _ (List.getElem_mem hx)).2,qye _⟩
   rw [qlC,qk (by omega),qZR hi hh l1,qF hv,qF hh,q08 (by omega)]
   repeat rw [List.length_set]
   rw [qd (by omega),qd (by omega),qd (by omega),qd (by omega),qd ⟨by omega,by omega,rfl,hb⟩,Int.toNat_natCast]
   rw [←q0w hh l1]
   simp only [e1]
   rfl
 ·rw [qlC,qj (by omega)]
theorem zaG:SoundMs Tryz.prog 135 qWy:=q0K (tt:=tt) (Γ:=qne) hT qu hm (fn:=Tryz.f135) Tryz.func135 (c:=Tryz.f135.body.getD .skip) (by kernel_rfl) (by kernel_rfl) fun xs hs n F hx hl hmx=>by
 obtain ⟨N,vs,h1,h2⟩:=zhZ hs xs n hx hl hmx
 exact ⟨qcG N,vs,rfl,q7o,⟨qpm qpn (q1y znF qnz),q7G N⟩,h1,(zbq N F hs xs n).trans h2⟩
def q1j (x:Val Y50) (k:Int):Val Y50:=(mkT Y50 x k).1
def qkA (x:Val Y50) (k:Int):Int:=(mkT Y50 x k).2
def qBN (x:Val Y50) (k:Int):Prop:=Bd Y50 x∧k≤9223372036854775807
def qI2:Gm:=⟨i50,qBN,q1j,qkA⟩
noncomputable def m42 (N:Nat) (v0:Val Y50) (v1:Int):Option ((Val Y50)×Int):=chk (qyl (v0.2:List (Val Y33)) v1) (some (((v0.1:Int),((qCE (v0.2:List (Val Y33)) v1):List (Val Y33))),(qNb (v0.2:List (Val Y33)) v1)))
def Γ42:Gam:=[]
theorem zbR:Gam.get Γ42 135=none:=rfl
def qXE:Sem:=qhg [(135,qWy.gm)] []
def qED:Nat→Tree:=fun _=> .done
def qH8:Nat→Nm:=fun _=>⟨[],[],false⟩
def qGD:Nat→Option Jn:=fun _=>none
def qMi:Nat→Option Nm:=fun _=>none
def qQx:Nat→Option Nm:=fun _=>none
theorem p42:qn qED (Tryz.f42.body.getD .skip)=true:=by kernel_rfl
def T42 (N:Nat):Tab:={tr:=qED,lp:=qH8,ex:=qMi,rg:=qQx,jn:=qGD,fuel:=N,pins:=true,sem:=qXE}
theorem q7m (N:Nat):(T42 N).pins=true:=rfl
theorem zks (N:Nat):qp Tryz.prog (T42 N):=qv fun _=>rfl
theorem zdl (N:Nat):(T42 N).sem=qXE:=rfl
theorem zgV (N:Nat) (i:Nat):(T42 N).tr i=qED i:=rfl
theorem zaU (N:Nat) (i:Nat):(T42 N).lp i=qH8 i:=rfl
theorem zqO (N:Nat) (i:Nat):(T42 N).ex i=qMi i:=rfl
theorem zic (N:Nat) (i:Nat):(T42 N).rg i=qQx i:=rfl
theorem znW (N:Nat) (i:Nat):(T42 N).jn i=qGD i:=rfl
theorem q8Y (N:Nat):(T42 N).fuel=N:=rfl
theorem zm3 (N:Nat) (v0:Val Y50) (v1:Int):qe tt Γ42 (T42 N) (Tryz.f42.body.getD .skip) (qef (qe9 tt Y50 (q9 0 Y50 v0).1 [.tmp 4])) (qbB i50 10 v0 v1)=m42 N v0 v1:=by
 rw [m42];unfold Tryz.f42
 simp (maxSteps:=10000000) -implicitDefEqProofs [zgV,qED,zaU,qH8,zqO,qMi,zic,qQx,znW,qGD,q8Y,q7m,zdl,qXE,qbc,zbR,qWy,qB,qbB]
 try rfl
theorem e42 (x:Val Y50) (k:Int) (h:qBN x k): ∃N,m42 N x k=some (q1j x k,qkA x k):=⟨0,by
 rw [m42,qd (show qyl _ k from ⟨h.1.2,h.2⟩)]
 rfl⟩
theorem zpv:SoundM Tryz.prog 42 qI2:=q1K (tt:=tt) (Γ:=Γ42) hT qu hm (fn:=Tryz.f42) Tryz.func42 (c:=Tryz.f42.body.getD .skip) (by kernel_rfl) (by kernel_rfl) fun x n hx=>by
 obtain ⟨N,h⟩:=e42 x n hx
 exact ⟨T42 N,rfl,p42,⟨qpm (qSn zaG.gm qpn) qnz,zks N⟩,(zm3 N x n).trans h⟩
end Go.T
