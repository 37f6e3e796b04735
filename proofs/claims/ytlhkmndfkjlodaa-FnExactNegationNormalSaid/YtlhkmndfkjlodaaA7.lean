/- Marks of cells. -/
import Derived.Test.YtlhkmndfkjlodaaA1
set_option linter.unusedSimpArgs false
set_option linter.unusedVariables false
namespace Go.T
open Go Go.Proofs
set_option maxHeartbeats 4000000
set_option maxRecDepth 100000
def qeu (x:List (Val (.int .i64))) (k:Int):List (Val (.int .i64)):=(mkT (.slice 3 (.int .i64)) x k).1
def qeo (x:List (Val (.int .i64))) (k:Int):Int:=(mkT (.slice 3 (.int .i64)) x k).2
def qf4 (x:List (Val (.int .i64))) (k:Int):Prop:=Bd (.slice 3 (.int .i64)) x∧k≤9223372036854775807
def qam:Gms:=⟨3,(.int .i64),qf4,qeu,qeo⟩
noncomputable def qhN (N:Nat) (k0:Int→(List (Val (.int .i64)))→Option ((List (Val (.int .i64)))×Int)):Nat→Int→Int→(List (Val (.int .i64)))→Option ((List (Val (.int .i64)))×Int)
 | 0,_,_,_=>none
 | n+1,v2,v3,v4=>bif (decide (v3<(v4.length:Int)))then (chk (0≤v3∧v3<(v4.length:Int)) (chk (v3.toNat<v4.length) (qhN N k0 n (IntKind.i64.wrap (v2+(1:Int))) (IntKind.i64.wrap (v3+(1:Int))) (v4.set v3.toNat v2))))else (k0 v2 v4)
noncomputable def m33 (N:Nat) (v0:List (Val (.int .i64))) (v1:Int):Option ((List (Val (.int .i64)))×Int):=qhN N (fun (v7:Int) (v8:List (Val (.int .i64)))=>some (v8,v7)) N v1 (0:Int) v0
def Γ33:Gam:=[]
def qn0:Nm:=⟨[true,true,false,false,false,true],[],false⟩
theorem qvY:qn0.zero=false:=rfl
theorem qFL:qn0.fix=[]:=rfl
theorem qAQ:qn0.keep=[true,true,false,false,false,true]:=rfl
def qsy:Nm:=⟨[false,true],[],false⟩
theorem qyI:qsy.zero=false:=rfl
theorem qA4:qsy.fix=[]:=rfl
theorem qxj:qsy.keep=[false,true]:=rfl
def qmf:Sem:=qfX [] []
def qji:Nat→Tree:=fun _=> .done
def qmj:Nat→Nm:=fun i=>if i=2 then qn0 else ⟨[],[],false⟩
def qkg:Nat→Option Jn:=fun _=>none
def qlM:Nat→Option Nm:=fun i=>if i=0 then some qsy else none
def qoB:Nat→Option Nm:=fun _=>none
theorem p33:qm qji (Try.f33.body.getD .skip)=true:=by kernel_rfl
def T33 (N:Nat):Tab:={tr:=qji,lp:=qmj,ex:=qlM,rg:=qoB,jn:=qkg,fuel:=N,pins:=true,sem:=qmf}
theorem qAK (N:Nat):(T33 N).pins=true:=rfl
theorem qWq (N:Nat):qn Try.prog (T33 N):=qt fun _=>rfl
theorem qxa (N:Nat):(T33 N).sem=qmf:=rfl
theorem qDS (N:Nat) (i:Nat):(T33 N).tr i=qji i:=rfl
theorem qDr (N:Nat) (i:Nat):(T33 N).lp i=qmj i:=rfl
theorem qxB (N:Nat) (i:Nat):(T33 N).ex i=qlM i:=rfl
theorem qts (N:Nat) (i:Nat):(T33 N).rg i=qoB i:=rfl
theorem qzz (N:Nat) (i:Nat):(T33 N).jn i=qkg i:=rfl
theorem qyN (N:Nat):(T33 N).fuel=N:=rfl
noncomputable def qJE:Code:=cut [true,false,true,true,true] (Try.f33.body.getD .skip)
theorem qQW {N:Nat} {Q:X→St→Option ((List (Val (.int .i64)))×Int)} {e:List LV} {h:List Blk}:qf tt Γ33 (T33 N) qJE Q ⟨e,h⟩=qf tt Γ33 (T33 N) (cut [true,false,true,true,true] (Try.f33.body.getD .skip)) Q ⟨e,h⟩:=rfl
theorem qN9 (N:Nat) {k0:Int→(List (Val (.int .i64)))→Option ((List (Val (.int .i64)))×Int)} {Q:X→St→Option ((List (Val (.int .i64)))×Int)} {c:Code} (hc:c=qJE) (hret: ∀st,Q .ret st=qgU tt (.slice 3 (.int .i64)) [.own 0] [.tmp 4] st) (h0: ∀(v5:Int) (v6:List (Val (.int .i64))),Q (.exit 0) ⟨[u,.one (.int .i64 v5),u,u,u,u,u,u,u,u,u,u,u,u,u,u,u,u,u],[.row 3 (.int .i64) v6 true true 0]⟩=k0 v5 v6): ∀(n:Nat) (v2:Int) (v3:Int) (v4:List (Val (.int .i64))),qI (qf tt Γ33 (T33 N) c) true qn0 Q n ⟨[.one (.own 0),.one (.int .i64 v2),u,u,u,.one (.int .i64 v3),u,u,u,u,u,u,u,u,u,u,u,u,u],[.row 3 (.int .i64) v4 true true 0]⟩=qhN N k0 n v2 v3 v4:=by
 subst hc;intro n;induction n with
 | zero=>intros;rfl
 | succ n ih=>
   intro v2 v3 v4
   rw [qS,qQW,qhN];unfold Try.f33
   simp (maxSteps:=10000000) -implicitDefEqProofs [qDS,qji,qDr,qmj,qxB,qlM,qts,qoB,qzz,qkg,qyN,qAK,qxa,qmf,qae,qr,qab,qFL,qAQ,qvY,qA4,qxj,qyI,hret,h0,ih]
theorem qQa (N:Nat) (v0:List (Val (.int .i64))) (v1:Int):qf tt Γ33 (T33 N) (Try.f33.body.getD .skip) (qet (qgU tt (.slice 3 (.int .i64)) (qF 0 (.slice 3 (.int .i64)) v0).1 [.tmp 4])) (qab i27 19 v0 v1)=m33 N v0 v1:=by
 unfold Try.f33
 simp (maxSteps:=10000000) -implicitDefEqProofs [qDS,qji,qDr,qmj,qxB,qlM,qts,qoB,qzz,qkg,qyN,qAK,qxa,qmf,qae,qr,qab,qFL,qAQ,qvY,qA4,qxj,qyI]
 rewrite [qN9 (k0:=(fun (v7:Int) (v8:List (Val (.int .i64)))=>some (v8,v7))) N ?_ ?_ ?_]
 ·rewrite [m33];first | rfl | simp (maxSteps:=10000000) -implicitDefEqProofs []
 ·rfl
 ·intro;simp only [qQ,qR,qT,qr]
 ·intro v7 v8;simp (maxSteps:=10000000) -implicitDefEqProofs [qDS,qji,qDr,qmj,qxB,qlM,qts,qoB,qzz,qkg,qyN,qAK,qxa,qmf,qae,qr,qab,qFL,qAQ,qvY,qA4,qxj,qyI]
theorem e33 (x:List (Val (.int .i64))) (k:Int) (h:qf4 x k): ∃N,m33 N x k=some (qeu x k,qeo x k):=⟨x.length+1,by
 rw [m33]
 refine qOk (f:=mkE (.int .i64)) (F:=fun n i k s=>qhN _ _ n k i s) (kf:=fun k s=>some (s,k)) x h.1.1 (qlP _) (fun n i k s hi _ hl=> ?_) (fun n i k s hl hi=> ?_) _ k h.2 (Nat.lt_succ_self _)
 ·rw [qhN,qj (by omega),qd (by omega),qd (by omega)]
  rfl
 ·rw [qhN,qh (by omega)]⟩
theorem qFm:SoundMs Try.prog 33 qam:=qMc (tt:=tt) (Γ:=Γ33) hT qp hm (fn:=Try.f33) Try.func33 (c:=Try.f33.body.getD .skip) (by kernel_rfl) (by kernel_rfl) rfl fun x n hx=>by
 obtain ⟨N,h⟩:=e33 x n hx
 exact ⟨T33 N,rfl,p33,⟨qjA qjB qi1,qWq N⟩,(qQa N x n).trans h⟩
def qhx (x:List (Val Y83)) (k:Int):List (Val Y83):=(mkT (.slice 83 Y83) x k).1
def qxS (x:List (Val Y83)) (k:Int):Int:=(mkT (.slice 83 Y83) x k).2
def qpW (x:List (Val Y83)) (k:Int):Prop:=Bd (.slice 83 Y83) x∧k≤9223372036854775807
def qkz:Gms:=⟨83,Y83,qpW,qhx,qxS⟩
noncomputable def qhR (N:Nat) (v6:List (Val (hd Y83))) (k0:Int→(List (Val H83))→(List (Val Y83))→Option (List (Val H83)×List (Val Y83)×Int)):Nat→Int→Int→(List (Val H83))→(List (Val Y83))→Option (List (Val H83)×List (Val Y83)×Int)
 | 0,_,_,_,_=>none
 | n+1,v3,v4,v5,v7=>bif (decide (v4<(v5.length:Int)))then (chk (0≤v4∧v4<(v5.length:Int)) (chk (v4.toNat<v5.length) (chk (v4.toNat<v7.length∧v4.toNat<v6.length∧((v6.getD v4.toNat (qb (hd Y83)):Val H83).1:Value)=((v5.getD v4.toNat (qb H83)).1:Value)∧qf4 ((v7.getD v4.toNat (qb Y83)).1:List (Val (.int .i64))) v3) (chk (0≤v4∧v4<(v5.length:Int)) (chk (v4.toNat<v5.length) (chk ((3:Int)≠0) (chk (0≤v4∧v4<((v5.set v4.toNat (((v5.getD v4.toNat (qb H83)).1:Value),((qeo ((v7.getD v4.toNat (qb Y83)).1:List (Val (.int .i64))) v3),(((v5.getD v4.toNat (qb H83)).2).2:Bool)))).length:Int)) (chk (v4.toNat<(v5.set v4.toNat (((v5.getD v4.toNat (qb H83)).1:Value),((qeo ((v7.getD v4.toNat (qb Y83)).1:List (Val (.int .i64))) v3),(((v5.getD v4.toNat (qb H83)).2).2:Bool)))).length) (qhR N v6 k0 n (IntKind.i64.wrap ((IntKind.i64.wrap ((qeo ((v7.getD v4.toNat (qb Y83)).1:List (Val (.int .i64))) v3)+(1:Int)))+(1:Int))) (IntKind.i64.wrap (v4+(1:Int))) ((v5.set v4.toNat (((v5.getD v4.toNat (qb H83)).1:Value),((qeo ((v7.getD v4.toNat (qb Y83)).1:List (Val (.int .i64))) v3),(((v5.getD v4.toNat (qb H83)).2).2:Bool)))).set v4.toNat ((((v5.set v4.toNat (((v5.getD v4.toNat (qb H83)).1:Value),((qeo ((v7.getD v4.toNat (qb Y83)).1:List (Val (.int .i64))) v3),(((v5.getD v4.toNat (qb H83)).2).2:Bool)))).getD v4.toNat (qb H83)).1:Value),(((((v5.set v4.toNat (((v5.getD v4.toNat (qb H83)).1:Value),((qeo ((v7.getD v4.toNat (qb Y83)).1:List (Val (.int .i64))) v3),(((v5.getD v4.toNat (qb H83)).2).2:Bool)))).getD v4.toNat (qb H83)).2).1:Int),(decide (((IntKind.i64.wrap ((qeo ((v7.getD v4.toNat (qb Y83)).1:List (Val (.int .i64))) v3)+(1:Int))).tmod (3:Int))=(0:Int)))))) (v7.set v4.toNat ((qeu ((v7.getD v4.toNat (qb Y83)).1:List (Val (.int .i64))) v3),(v7.getD v4.toNat (qb Y83)).2)))))))))))else (k0 v3 v5 v7)
noncomputable def qq6 (N:Nat) (v0:List (Val (hd Y83))) (v1:List (Val Y83)) (v2:Int):Option (List (Val H83)×List (Val Y83)×Int):=qhR N v0 (fun (v11:Int) (v12:List (Val H83)) (v13:List (Val Y83))=>some (v12,v13,v11)) N v2 (0:Int) v0 v1
def qiP:Gam:=[]
theorem qyV:Gam.get qiP 33=none:=rfl
def qoa:Nm:=⟨[true,true,false,false,false,true],[],false⟩
theorem qxW:qoa.zero=false:=rfl
theorem quq:qoa.fix=[]:=rfl
theorem qFV:qoa.keep=[true,true,false,false,false,true]:=rfl
def qqd:Nm:=⟨[false,true],[],false⟩
theorem qD4:qqd.zero=false:=rfl
theorem qDZ:qqd.fix=[]:=rfl
theorem qtC:qqd.keep=[false,true]:=rfl
def ql4:Sem:=qfX [] [(18,33,qam,0,13)]
def qjq:Nat→Tree:=fun _=> .done
def qj1:Nat→Nm:=fun i=>if i=2 then qoa else ⟨[],[],false⟩
def qne:Nat→Option Jn:=fun _=>none
def qnW:Nat→Option Nm:=fun i=>if i=0 then some qqd else none
def qmz:Nat→Option Nm:=fun _=>none
theorem qPY:qm qjq (Try.f124.body.getD .skip)=true:=by kernel_rfl
def qcZ (N:Nat):Tab:={tr:=qjq,lp:=qj1,ex:=qnW,rg:=qmz,jn:=qne,fuel:=N,pins:=true,sem:=ql4}
theorem qzy (N:Nat):(qcZ N).pins=true:=rfl
theorem qTF (N:Nat):qn Try.prog (qcZ N):=qt fun _=>rfl
theorem qAd (N:Nat):(qcZ N).sem=ql4:=rfl
theorem qFg (N:Nat) (i:Nat):(qcZ N).tr i=qjq i:=rfl
theorem qtL (N:Nat) (i:Nat):(qcZ N).lp i=qj1 i:=rfl
theorem qwb (N:Nat) (i:Nat):(qcZ N).ex i=qnW i:=rfl
theorem qup (N:Nat) (i:Nat):(qcZ N).rg i=qmz i:=rfl
theorem qGV (N:Nat) (i:Nat):(qcZ N).jn i=qne i:=rfl
theorem qD2 (N:Nat):(qcZ N).fuel=N:=rfl
noncomputable def qJi:Code:=cut [true,false,true,true,true] (Try.f124.body.getD .skip)
theorem qYe {N:Nat} {Q:X→St→Option (List (Val H83)×List (Val Y83)×Int)} {e:List LV} {h:List Blk}:qf tt qiP (qcZ N) qJi Q ⟨e,h⟩=qf tt qiP (qcZ N) (cut [true,false,true,true,true] (Try.f124.body.getD .skip)) Q ⟨e,h⟩:=rfl
theorem qRE (N:Nat) (F:List Nat) (v6:List (Val (hd Y83))) {k0:Int→(List (Val H83))→(List (Val Y83))→Option (List (Val H83)×List (Val Y83)×Int)} {Q:X→St→Option (List (Val H83)×List (Val Y83)×Int)} {c:Code} (hc:c=qJi) (hret: ∀st,Q .ret st=qei tt 83 Y83 H83 F v6 [.tmp 4] st) (h0: ∀(v8:Int) (v9:List (Val H83)) (v10:List (Val Y83)),Q (.exit 0) ⟨[u,.one (.int .i64 v8),u,u,u,u,u,u,u,u,u,u,u,u,u,u,u,u,u,u,u,u,u,u,u,u,u,u,u,u,u,u,u,u,u,u],[.row 83 H83 v9 true true 0,.nst F Y83 v6 v10]⟩=k0 v8 v9 v10): ∀(n:Nat) (v3:Int) (v4:Int) (v5:List (Val H83)) (v7:List (Val Y83)),qI (qf tt qiP (qcZ N) c) true qoa Q n ⟨[.one (.own 0),.one (.int .i64 v3),u,u,u,.one (.int .i64 v4),u,u,u,u,u,u,u,u,u,u,u,u,u,u,u,u,u,u,u,u,u,u,u,u,u,u,u,u,u,u],[.row 83 H83 v5 true true 0,.nst F Y83 v6 v7]⟩=qhR N v6 k0 n v3 v4 v5 v7:=by
 subst hc;intro n;induction n with
 | zero=>intros;rfl
 | succ n ih=>
   intro v3 v4 v5 v7
   rw [qS,qYe,qhR];unfold Try.f124
   simp (maxSteps:=10000000) -implicitDefEqProofs [qFg,qjq,qtL,qj1,qwb,qnW,qup,qmz,qGV,qne,qD2,qzy,qAd,ql4,qae,qyV,qam,qr,qab,quq,qFV,qxW,qDZ,qtC,qD4,hret,h0,ih]
theorem qY6 (N:Nat) (F:List Nat) (v0:List (Val (hd Y83))) (v1:List (Val Y83)) (v2:Int):qf tt qiP (qcZ N) (Try.f124.body.getD .skip) (qet (qei tt 83 Y83 H83 F v0 [.tmp 4])) ⟨[.one (.own 0),.one (.int .i64 v2),.tup [],.tup [],.tup [],.tup [],.tup [],.tup [],.tup [],.tup [],.tup [],.tup [],.tup [],.tup [],.tup [],.tup [],.tup [],.tup [],.tup [],.tup [],.tup [],.tup [],.tup [],.tup [],.tup [],.tup [],.tup [],.tup [],.tup [],.tup [],.tup [],.tup [],.tup [],.tup [],.tup [],.tup []],[.row 83 H83 v0 true true 0,.nst F Y83 v0 v1]⟩=qq6 N v0 v1 v2:=by
 unfold Try.f124
 simp (maxSteps:=10000000) -implicitDefEqProofs [qFg,qjq,qtL,qj1,qwb,qnW,qup,qmz,qGV,qne,qD2,qzy,qAd,ql4,qae,qyV,qam,qr,qab,quq,qFV,qxW,qDZ,qtC,qD4]
 rewrite [qRE (k0:=(fun (v11:Int) (v12:List (Val H83)) (v13:List (Val Y83))=>some (v12,v13,v11))) N _ _ ?_ ?_ ?_]
 ·rewrite [qq6];first | rfl | simp (maxSteps:=10000000) -implicitDefEqProofs []
 ·rfl
 ·intro;simp only [qQ,qR,qT,qr]
 ·intro v11 v12 v13;simp (maxSteps:=10000000) -implicitDefEqProofs [qFg,qjq,qtL,qj1,qwb,qnW,qup,qmz,qGV,qne,qD2,qzy,qAd,ql4,qae,qyV,qam,qr,qab,quq,qFV,qxW,qDZ,qtC,qD4]
theorem qMD (hs:List (Val (hd Y83))) (xs:List (Val Y83)) (k:Int) (h:qpW xs k) (hl:xs.length=hs.length) (hmx:qG Y83 xs hs=hs):
 ∃N vs,vs.map (qag Y83)=(qhx xs k).map (qag Y83)∧qq6 N hs xs k=some (qG Y83 (qhx xs k) hs,vs,qxS xs k):=by
 refine ⟨xs.length+1,?_⟩
 rw [qq6]
 refine qoU (t:=Y83) (F:=fun n i k ys vs=>qhR _ hs _ n k i ys vs) (kf:=fun k ys vs=>some (ys,vs,k)) xs hl hmx (by rw [←hl];exact h.1.1) (fun n i k fs vs hi hh hv hk l1 l2 hsl ⟨hx,hfx⟩=> ?_) (fun n i k ys vs hl hi=> ?_) _ k h.2 (Nat.lt_succ_self _)
 ·have hy:(qG Y83 fs hs).length=hs.length:=qhS l1
  have e1:vs[i].1=fs[i].1:=(Prod.mk.inj hsl).1
  refine ⟨(qeu vs[i].1 k,vs[i].2),?_,?_⟩
  ·show ((qeu vs[i].1 k,(0,false)):Val Y83)=(qeu fs[i].1 k,(0,false))
   rw [e1]
  ·have hb:qf4 vs[i].1 k:=⟨by rw [e1,hfx];exact (h.1.2 _ (List.getElem_mem hx)).1,hk⟩
   rw [qhR,qj (by omega),qd (by omega),qd (by omega),qq4 hi hh l1,qE hv,qE hh,qd ⟨by omega,by omega,rfl,hb⟩,qd (by omega),qd (by omega),qd (by decide),qd (by rw [List.length_set];omega),qd (by rw [List.length_set];omega),List.set_set,qoH (by omega),Int.toNat_natCast]
   rw [←qr6 hh l1]
   simp only [e1]
   rfl
 ·rw [qhR,qh (by omega)]
theorem qPI:SoundMs Try.prog 124 qkz:=qsp (tt:=tt) (Γ:=qiP) hT qp hm (fn:=Try.f124) Try.func124 (c:=Try.f124.body.getD .skip) (by kernel_rfl) (by kernel_rfl) fun xs hs n F hx hl hmx=>by
 obtain ⟨N,vs,h1,h2⟩:=qMD hs xs n hx hl hmx
 exact ⟨qcZ N,vs,rfl,qPY,⟨qjA qjB (qkE qFm qi1),qTF N⟩,h1,(qY6 N F hs xs n).trans h2⟩
def qb7 (x:List (Val (.int .i64))) (k:Int):Int:=(mkT (.slice 3 (.int .i64)) x k).2
def qmD (x:List (Val (.int .i64))) (k:Int):Prop:=qHu (.slice 3 (.int .i64)) x k
noncomputable def qhQ (N:Nat) (v2:List (Val (.int .i64))) (k0:Int→Option (qc [i3])):Nat→Int→Int→Option (qc [i3])
 | 0,_,_=>none
 | n+1,v3,v4=>bif (decide (v4<(v2.length:Int)))then (chk (0≤v4∧v4<(v2.length:Int)) (bif (!(decide (((v2.getD v4.toNat (qb (.int .i64))):Int)=v3)))then (some ((-1:Int),()))else (qhQ N v2 k0 n (IntKind.i64.wrap (v3+(1:Int))) (IntKind.i64.wrap (v4+(1:Int))))))else (k0 v3)
noncomputable def m34 (N:Nat) (v0:List (Val (.int .i64))) (v1:Int):Option (qc [i3]):=qhQ N v0 (fun (v6:Int)=>some (v6,())) N v1 (0:Int)
def Γ34:Gam:=[]
def qk8:Nm:=⟨[true,true,false,false,false,true],[],false⟩
theorem qxL:qk8.zero=false:=rfl
theorem qty:qk8.fix=[]:=rfl
theorem qzb:qk8.keep=[true,true,false,false,false,true]:=rfl
def qp0:Nm:=⟨[false,true],[],false⟩
theorem qBE:qp0.zero=false:=rfl
theorem qBU:qp0.fix=[]:=rfl
theorem qvG:qp0.keep=[false,true]:=rfl
def qim:Nat→Tree:=fun _=> .done
def qmk:Nat→Nm:=fun i=>if i=2 then qk8 else ⟨[],[],false⟩
def qnt:Nat→Option Jn:=fun _=>none
def qms:Nat→Option Nm:=fun i=>if i=0 then some qp0 else none
def qkC:Nat→Option Nm:=fun _=>none
theorem p34:qm qim (Try.f34.body.getD .skip)=true:=by kernel_rfl
def T34 (N:Nat):Tab:={tr:=qim,lp:=qmk,ex:=qms,rg:=qkC,jn:=qnt,fuel:=N}
theorem qul (N:Nat):(T34 N).pins=false:=rfl
theorem qRf (N:Nat):qn Try.prog (T34 N):=qt fun _=>rfl
theorem quP (N:Nat) (i:Nat):(T34 N).tr i=qim i:=rfl
theorem qCD (N:Nat) (i:Nat):(T34 N).lp i=qmk i:=rfl
theorem qFJ (N:Nat) (i:Nat):(T34 N).ex i=qms i:=rfl
theorem qEa (N:Nat) (i:Nat):(T34 N).rg i=qkC i:=rfl
theorem qAl (N:Nat) (i:Nat):(T34 N).jn i=qnt i:=rfl
theorem qFX (N:Nat):(T34 N).fuel=N:=rfl
noncomputable def qHT:Code:=cut [true,false,true,true,true] (Try.f34.body.getD .skip)
theorem qM0 {N:Nat} {Q:X→St→Option (qc [i3])} {e:List LV} {h:List Blk}:qf tt Γ34 (T34 N) qHT Q ⟨e,h⟩=qf tt Γ34 (T34 N) (cut [true,false,true,true,true] (Try.f34.body.getD .skip)) Q ⟨e,h⟩:=rfl
theorem qTZ (N:Nat) (v2:List (Val (.int .i64))) {k0:Int→Option (qc [i3])} {Q:X→St→Option (qc [i3])} {c:Code} (hc:c=qHT) (hret: ∀st,Q .ret st=qN tt true [i3] [.tmp 4] st) (h0: ∀(v5:Int),Q (.exit 0) ⟨[u,.one (.int .i64 v5),u,u,u,u,u,u,u,u,u,u,u,u,u,u,u,u,u,u,u],[]⟩=k0 v5): ∀(n:Nat) (v3:Int) (v4:Int),qI (qf tt Γ34 (T34 N) c) false qk8 Q n ⟨[.one (.sl 3 (.int .i64) v2 0),.one (.int .i64 v3),u,u,u,.one (.int .i64 v4),u,u,u,u,u,u,u,u,u,u,u,u,u,u,u],[]⟩=qhQ N v2 k0 n v3 v4:=by
 subst hc;intro n;induction n with
 | zero=>intros;rfl
 | succ n ih=>
   intro v3 v4
   rw [qS,qM0,qhQ];unfold Try.f34
   simp (maxSteps:=10000000) -implicitDefEqProofs [quP,qim,qCD,qmk,qFJ,qms,qEa,qkC,qAl,qnt,qFX,qul,qty,qzb,qxL,qBU,qvG,qBE,hret,h0,ih]
theorem qL8 (N:Nat) (v0:List (Val (.int .i64))) (v1:Int):qf tt Γ34 (T34 N) (Try.f34.body.getD .skip) (qo tt true [i3] [.tmp 4]) (qv [i27,i3] 21 (v0,v1,()))=m34 N v0 v1:=by
 unfold Try.f34
 simp (maxSteps:=10000000) -implicitDefEqProofs [quP,qim,qCD,qmk,qFJ,qms,qEa,qkC,qAl,qnt,qFX,qul,qty,qzb,qxL,qBU,qvG,qBE]
 rewrite [qTZ (k0:=(fun (v6:Int)=>some (v6,()))) N _ ?_ ?_ ?_]
 ·rewrite [m34];first | rfl | simp (maxSteps:=10000000) -implicitDefEqProofs []
 ·rfl
 ·intro;simp only [qQ,qR,qT,qr]
 ·intro v6;simp (maxSteps:=10000000) -implicitDefEqProofs [quP,qim,qCD,qmk,qFJ,qms,qEa,qkC,qAl,qnt,qFX,qul,qty,qzb,qxL,qBU,qvG,qBE]
def g34:G:={ps:=[i27,i3],rs:=[i3],dp:=true,pre:=fun x=>qmD x.1 x.2.1,fn:=fun x=>(qb7 x.1 x.2.1,())}
theorem e34 (x:List (Val (.int .i64))) (k:Int) (h:qmD x k): ∃N,m34 N x k=some (qb7 x k,()):=⟨x.length+1,by
 obtain ⟨hm,hb,h0,hc⟩:=h
 rw [m34]
 refine qHq (t:= .int .i64) (F:=fun n i k=>qhQ _ x _ n k i) (kf:=fun k=>some (k,())) x hb.1 (fun n i k hi hx h0 hb=> ?_) (fun n i k hi=> ?_) _ k (Nat.lt_succ_self _) hm h0 hc
 ·have hx:k=x[i]:=hx
  rw [qhQ,qj (by omega),qd (by omega),qE hi,qL,qj hx.symm]
  rfl
 ·rw [qhQ,qh (by omega)]⟩
theorem s34:Sound Try.prog 34 g34:=qz (tt:=tt) (Γ:=Γ34) hT qp hm (fn:=Try.f34) Try.func34 (c:=Try.f34.body.getD .skip) (by kernel_rfl) (by kernel_rfl) fun x hx=>by
 obtain ⟨N,h⟩:=e34 x.1 x.2.1 hx
 exact ⟨T34 N,p34,qx _,qRf N,(qL8 N x.1 x.2.1).trans h⟩
end Go.T
