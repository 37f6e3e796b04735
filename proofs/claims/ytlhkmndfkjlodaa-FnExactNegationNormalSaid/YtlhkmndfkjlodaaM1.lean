/- Marks of databases and formulas. -/
import Derived.Test.YtlhkmndfkjlodaaA10
import Derived.Test.YtlhkmndfkjlodaaH4
set_option linter.unusedSimpArgs false
set_option linter.unusedVariables false
namespace Go.T
open Go Go.Proofs
set_option maxHeartbeats 4000000
set_option maxRecDepth 100000
def qug (x:List (Val qe)) (k:Int):List (Val qe):=(mkT (.slice 123 qe) x k).1
def qfO (x:List (Val qe)) (k:Int):Int:=(mkT (.slice 123 qe) x k).2
def qrF (x:List (Val qe)) (k:Int):Prop:=Bd (.slice 123 qe) x∧k≤9223372036854775807
def qtw:Gms:=⟨123,qe,qrF,qug,qfO⟩
noncomputable def qhv (N:Nat) (v6:List (Val (hd qe))) (k0:Int→(List (Val qY))→(List (Val qe))→Option (List (Val qY)×List (Val qe)×Int)):Nat→Int→Int→(List (Val qY))→(List (Val qe))→Option (List (Val qY)×List (Val qe)×Int)
 | 0,_,_,_,_=>none
 | n+1,v3,v4,v5,v7=>bif (decide (v4<(v5.length:Int)))then (chk (qcF v3) (chk (0≤v4∧v4<(v5.length:Int)) (chk (v4.toNat<v5.length) (chk (0≤v4∧v4<((v5.set v4.toNat (((qZ v3):ByteArray),(v5.getD v4.toNat (qb qY)).2)).length:Int)) (chk (v4.toNat<(v5.set v4.toNat (((qZ v3):ByteArray),(v5.getD v4.toNat (qb qY)).2)).length) (chk (0≤v4∧v4<(((v5.set v4.toNat (((qZ v3):ByteArray),(v5.getD v4.toNat (qb qY)).2)).set v4.toNat ((((v5.set v4.toNat (((qZ v3):ByteArray),(v5.getD v4.toNat (qb qY)).2)).getD v4.toNat (qb qY)).1:ByteArray),((IntKind.i64.wrap (v3+(1:Int))),((((v5.set v4.toNat (((qZ v3):ByteArray),(v5.getD v4.toNat (qb qY)).2)).getD v4.toNat (qb qY)).2).2:Value)))).length:Int)) (chk (v4.toNat<((v5.set v4.toNat (((qZ v3):ByteArray),(v5.getD v4.toNat (qb qY)).2)).set v4.toNat ((((v5.set v4.toNat (((qZ v3):ByteArray),(v5.getD v4.toNat (qb qY)).2)).getD v4.toNat (qb qY)).1:ByteArray),((IntKind.i64.wrap (v3+(1:Int))),((((v5.set v4.toNat (((qZ v3):ByteArray),(v5.getD v4.toNat (qb qY)).2)).getD v4.toNat (qb qY)).2).2:Value)))).length) (chk (v4.toNat<v7.length∧v4.toNat<v6.length∧(((v6.getD v4.toNat (qb (hd qe)):Val qY).2).2:Value)=(((((v5.set v4.toNat (((qZ v3):ByteArray),(v5.getD v4.toNat (qb qY)).2)).set v4.toNat ((((v5.set v4.toNat (((qZ v3):ByteArray),(v5.getD v4.toNat (qb qY)).2)).getD v4.toNat (qb qY)).1:ByteArray),((IntKind.i64.wrap (v3+(1:Int))),((((v5.set v4.toNat (((qZ v3):ByteArray),(v5.getD v4.toNat (qb qY)).2)).getD v4.toNat (qb qY)).2).2:Value)))).getD v4.toNat (qb qY)).2).2:Value)∧qpF (((v7.getD v4.toNat (qb qe)).2).2:List (Val qi)) (IntKind.i64.wrap ((IntKind.i64.wrap (v3+(1:Int)))+(1:Int)))) (qhv N v6 k0 n (quH (((v7.getD v4.toNat (qb qe)).2).2:List (Val qi)) (IntKind.i64.wrap ((IntKind.i64.wrap (v3+(1:Int)))+(1:Int)))) (IntKind.i64.wrap (v4+(1:Int))) ((v5.set v4.toNat (((qZ v3):ByteArray),(v5.getD v4.toNat (qb qY)).2)).set v4.toNat ((((v5.set v4.toNat (((qZ v3):ByteArray),(v5.getD v4.toNat (qb qY)).2)).getD v4.toNat (qb qY)).1:ByteArray),((IntKind.i64.wrap (v3+(1:Int))),((((v5.set v4.toNat (((qZ v3):ByteArray),(v5.getD v4.toNat (qb qY)).2)).getD v4.toNat (qb qY)).2).2:Value)))) (v7.set v4.toNat (((v7.getD v4.toNat (qb qe)).1:ByteArray),((((v7.getD v4.toNat (qb qe)).2).1:Int),(qhU (((v7.getD v4.toNat (qb qe)).2).2:List (Val qi)) (IntKind.i64.wrap ((IntKind.i64.wrap (v3+(1:Int)))+(1:Int))))))))))))))))else (k0 v3 v5 v7)
noncomputable def m31 (N:Nat) (v0:List (Val (hd qe))) (v1:List (Val qe)) (v2:Int):Option (List (Val qY)×List (Val qe)×Int):=qhv N v0 (fun (v11:Int) (v12:List (Val qY)) (v13:List (Val qe))=>some (v12,v13,v11)) N v2 (0:Int) v0 v1
def Γ31:Gam:=[(86,g86)]
theorem qE5:Gam.get Γ31 86=some g86:=rfl
theorem qCr:Gam.get Γ31 87=none:=rfl
def qlD:Nm:=⟨[true,true,false,false,false,true],[],false⟩
theorem quT:qlD.zero=false:=rfl
theorem qEj:qlD.fix=[]:=rfl
theorem qy3:qlD.keep=[true,true,false,false,false,true]:=rfl
def qsD:Nm:=⟨[false,true],[],false⟩
theorem qDJ:qsD.zero=false:=rfl
theorem qtn:qsD.fix=[]:=rfl
theorem qyD:qsD.keep=[false,true]:=rfl
def qj8:Sem:=qfX [] [(33,87,qok,2,28)]
def qiI:Nat→Tree:=fun _=> .done
def qkn:Nat→Nm:=fun i=>if i=2 then qlD else ⟨[],[],false⟩
def qlA:Nat→Option Jn:=fun _=>none
def qk2:Nat→Option Nm:=fun i=>if i=0 then some qsD else none
def qlz:Nat→Option Nm:=fun _=>none
theorem p31:qm qiI (Try.f31.body.getD .skip)=true:=by kernel_rfl
def T31 (N:Nat):Tab:={tr:=qiI,lp:=qkn,ex:=qk2,rg:=qlz,jn:=qlA,fuel:=N,pins:=true,sem:=qj8}
theorem qBt (N:Nat):(T31 N).pins=true:=rfl
theorem qRX (N:Nat):qn Try.prog (T31 N):=qt fun _=>rfl
theorem qBa (N:Nat):(T31 N).sem=qj8:=rfl
theorem qwd (N:Nat) (i:Nat):(T31 N).tr i=qiI i:=rfl
theorem qES (N:Nat) (i:Nat):(T31 N).lp i=qkn i:=rfl
theorem qAg (N:Nat) (i:Nat):(T31 N).ex i=qk2 i:=rfl
theorem qxJ (N:Nat) (i:Nat):(T31 N).rg i=qlz i:=rfl
theorem qDp (N:Nat) (i:Nat):(T31 N).jn i=qlA i:=rfl
theorem qzr (N:Nat):(T31 N).fuel=N:=rfl
noncomputable def qKf:Code:=cut [true,false,true,true,true] (Try.f31.body.getD .skip)
theorem qRB {N:Nat} {Q:X→St→Option (List (Val qY)×List (Val qe)×Int)} {e:List LV} {h:List Blk}:qf tt Γ31 (T31 N) qKf Q ⟨e,h⟩=qf tt Γ31 (T31 N) (cut [true,false,true,true,true] (Try.f31.body.getD .skip)) Q ⟨e,h⟩:=rfl
theorem qQp (N:Nat) (F:List Nat) (v6:List (Val (hd qe))) {k0:Int→(List (Val qY))→(List (Val qe))→Option (List (Val qY)×List (Val qe)×Int)} {Q:X→St→Option (List (Val qY)×List (Val qe)×Int)} {c:Code} (hc:c=qKf) (hret: ∀st,Q .ret st=qei tt 123 qe qY F v6 [.tmp 4] st) (h0: ∀(v8:Int) (v9:List (Val qY)) (v10:List (Val qe)),Q (.exit 0) ⟨[u,.one (.int .i64 v8),u,u,u,u,u,u,u,u,u,u,u,u,u,u,u,u,u,u,u,u,u,u,u,u,u,u,u,u,u,u,u,u,u],[.row 123 qY v9 true true 0,.nst F qe v6 v10]⟩=k0 v8 v9 v10): ∀(n:Nat) (v3:Int) (v4:Int) (v5:List (Val qY)) (v7:List (Val qe)),qI (qf tt Γ31 (T31 N) c) true qlD Q n ⟨[.one (.own 0),.one (.int .i64 v3),u,u,u,.one (.int .i64 v4),u,u,u,u,u,u,u,u,u,u,u,u,u,u,u,u,u,u,u,u,u,u,u,u,u,u,u,u,u],[.row 123 qY v5 true true 0,.nst F qe v6 v7]⟩=qhv N v6 k0 n v3 v4 v5 v7:=by
 subst hc;intro n;induction n with
 | zero=>intros;rfl
 | succ n ih=>
   intro v3 v4 v5 v7
   rw [qS,qRB,qhv];unfold Try.f31
   simp (maxSteps:=10000000) -implicitDefEqProofs [qwd,qiI,qES,qkn,qAg,qk2,qxJ,qlz,qDp,qlA,qzr,qBt,qBa,qj8,qae,qCr,qok,qr,qab,qEj,qy3,quT,qtn,qyD,qDJ,qE5,g86,hret,h0,ih]
theorem qMZ (N:Nat) (F:List Nat) (v0:List (Val (hd qe))) (v1:List (Val qe)) (v2:Int):qf tt Γ31 (T31 N) (Try.f31.body.getD .skip) (qet (qei tt 123 qe qY F v0 [.tmp 4])) ⟨[.one (.own 0),.one (.int .i64 v2),.tup [],.tup [],.tup [],.tup [],.tup [],.tup [],.tup [],.tup [],.tup [],.tup [],.tup [],.tup [],.tup [],.tup [],.tup [],.tup [],.tup [],.tup [],.tup [],.tup [],.tup [],.tup [],.tup [],.tup [],.tup [],.tup [],.tup [],.tup [],.tup [],.tup [],.tup [],.tup [],.tup []],[.row 123 qY v0 true true 0,.nst F qe v0 v1]⟩=m31 N v0 v1 v2:=by
 unfold Try.f31
 simp (maxSteps:=10000000) -implicitDefEqProofs [qwd,qiI,qES,qkn,qAg,qk2,qxJ,qlz,qDp,qlA,qzr,qBt,qBa,qj8,qae,qCr,qok,qr,qab,qEj,qy3,quT,qtn,qyD,qDJ,qE5,g86]
 rewrite [qQp (k0:=(fun (v11:Int) (v12:List (Val qY)) (v13:List (Val qe))=>some (v12,v13,v11))) N _ _ ?_ ?_ ?_]
 ·rewrite [m31];first | rfl | simp (maxSteps:=10000000) -implicitDefEqProofs []
 ·rfl
 ·intro;simp only [qQ,qR,qT,qr]
 ·intro v11 v12 v13;simp (maxSteps:=10000000) -implicitDefEqProofs [qwd,qiI,qES,qkn,qAg,qk2,qxJ,qlz,qDp,qlA,qzr,qBt,qBa,qj8,qae,qCr,qok,qr,qab,qEj,qy3,quT,qtn,qyD,qDJ,qE5,g86]
theorem e31 (hs:List (Val (hd qe))) (xs:List (Val qe)) (k:Int) (h:qrF xs k) (hl:xs.length=hs.length) (hmx:qG qe xs hs=hs):
 ∃N vs,vs.map (qag qe)=(qug xs k).map (qag qe)∧m31 N hs xs k=some (qG qe (qug xs k) hs,vs,qfO xs k):=by
 refine ⟨xs.length+1,?_⟩
 rw [m31]
 refine qoU (t:=qe) (F:=fun n i k ys vs=>qhv _ hs _ n k i ys vs) (kf:=fun k ys vs=>some (ys,vs,k)) xs hl hmx (by rw [←hl];exact h.1.1) (fun n i k fs vs hi hh hv hk l1 l2 hsl ⟨hx,hfx⟩=> ?_) (fun n i k ys vs hl hi=> ?_) _ k h.2 (Nat.lt_succ_self _)
 ·have hy:(qG qe fs hs).length=hs.length:=qhS l1
  have e1:vs[i].2.2=fs[i].2.2:=(Prod.mk.inj (Prod.mk.inj hsl).2).2
  refine ⟨(vs[i].1,(vs[i].2.1,qhU vs[i].2.2 (IntKind.i64.wrap (IntKind.i64.wrap (k+1)+1)))),?_,?_⟩
  ·show ((ByteArray.empty,(0,qhU vs[i].2.2 _)):Val qe)=(ByteArray.empty,(0,qhU fs[i].2.2 _))
   rw [e1];rfl
  ·have hb:qpF vs[i].2.2 (IntKind.i64.wrap (IntKind.i64.wrap (k+1)+1)):=⟨by rw [e1,hfx];exact (h.1.2 _ (List.getElem_mem hx)).2.2,qfx _⟩
   rw [qhv,qj (by omega),qd (show qcF k from hk),qq4 hi hh l1,qE hv,qE hh,qoH (by omega),List.set_set,qoH (by omega)]
   repeat rw [List.length_set]
   rw [qd (by omega),qd (by omega),qd (by omega),qd (by omega),qd (by omega),qd (by omega),qd ⟨by omega,by omega,rfl,hb⟩,Int.toNat_natCast]
   rw [←qr6 hh l1]
   simp only [e1]
   rfl
 ·rw [qhv,qh (by omega)]
theorem qOT:SoundMs Try.prog 31 qtw:=qsp (tt:=tt) (Γ:=Γ31) hT (ql s86 qp) hm (fn:=Try.f31) Try.func31 (c:=Try.f31.body.getD .skip) (by kernel_rfl) (by kernel_rfl) fun xs hs n F hx hl hmx=>by
 obtain ⟨N,vs,h1,h2⟩:=e31 hs xs n hx hl hmx
 exact ⟨T31 N,vs,rfl,p31,⟨qjA qjB (qkE qP2 qi1),qRX N⟩,h1,(qMZ N F hs xs n).trans h2⟩
def qc2 (x:List (Val qa)) (k:Int):List (Val qa):=(mkT (.slice 120 qa) x k).1
def qfs (x:List (Val qa)) (k:Int):Int:=(mkT (.slice 120 qa) x k).2
def qi9 (x:List (Val qa)) (k:Int):Prop:=Bd (.slice 120 qa) x∧k≤9223372036854775807
def qE6:Gms:=⟨120,qa,qi9,qc2,qfs⟩
noncomputable def qpB (N:Nat) (v82:Int) (v83:Int) (v84:List (Val qg)) (v85:List (Val (hd qa))) (v86:List (Val qa)) (k9004:(List (Val qg))→Option (List (Val qg)×List (Val qa)×Int)) (_:Nat):Option (List (Val qg)×List (Val qa)×Int):=chk (0≤v83∧v83<(v84.length:Int)) (chk (v83.toNat<v84.length) (k9004 (v84.set v83.toNat (v82,(v84.getD v83.toNat (qb qg)).2))))
noncomputable def qkl (N:Nat) (v89:Int) (v90:Int) (v91:List (Val qg)) (v92:List (Val (hd qa))) (v93:List (Val qa)) (k9006:Int→(List (Val qa))→Option (List (Val qg)×List (Val qa)×Int)) (_:Nat):Option (List (Val qg)×List (Val qa)×Int):=chk (0≤v90∧v90<(v91.length:Int)) (chk (v90.toNat<v91.length) (chk (v90.toNat<v93.length∧v90.toNat<v92.length∧((((v92.getD v90.toNat (qb (hd qa)):Val qg).2).1).1:Value)=((((v91.getD v90.toNat (qb qg)).2).1).1:Value)∧qf4 ((((v93.getD v90.toNat (qb qa)).2).1).1:List (Val (.int .i64))) v89) (k9006 (qeo ((((v93.getD v90.toNat (qb qa)).2).1).1:List (Val (.int .i64))) v89) (v93.set v90.toNat (((v93.getD v90.toNat (qb qa)).1:Int),(((qeu ((((v93.getD v90.toNat (qb qa)).2).1).1:List (Val (.int .i64))) v89),(((v93.getD v90.toNat (qb qa)).2).1).2),((v93.getD v90.toNat (qb qa)).2).2))))))
noncomputable def qi8 (N:Nat) (v98:Int) (v99:Int) (v100:List (Val qg)) (v101:List (Val (hd qa))) (v102:List (Val qa)) (k9007:(List (Val qg))→Option (List (Val qg)×List (Val qa)×Int)) (_:Nat):Option (List (Val qg)×List (Val qa)×Int):=chk (0≤v99∧v99<(v100.length:Int)) (chk (v99.toNat<v100.length) (k9007 (v100.set v99.toNat (((v100.getD v99.toNat (qb qg)).1:Int),((((((v100.getD v99.toNat (qb qg)).2).1).1:Value),(v98,(((((v100.getD v99.toNat (qb qg)).2).1).2).2:Bool))),((v100.getD v99.toNat (qb qg)).2).2)))))
noncomputable def qg7 (N:Nat) (v105:Int) (v106:Int) (v107:List (Val qg)) (v108:List (Val (hd qa))) (v109:List (Val qa)) (k9009:(List (Val qg))→Option (List (Val qg)×List (Val qa)×Int)) (_:Nat):Option (List (Val qg)×List (Val qa)×Int):=chk ((3:Int)≠0) (chk (0≤v106∧v106<(v107.length:Int)) (chk (v106.toNat<v107.length) (k9009 (v107.set v106.toNat (((v107.getD v106.toNat (qb qg)).1:Int),((((((v107.getD v106.toNat (qb qg)).2).1).1:Value),((((((v107.getD v106.toNat (qb qg)).2).1).2).1:Int),(decide ((v105.tmod (3:Int))=(0:Int))))),((v107.getD v106.toNat (qb qg)).2).2))))))
noncomputable def qf6 (N:Nat) (v112:Int) (v113:Int) (v114:List (Val qg)) (v115:List (Val (hd qa))) (v116:List (Val qa)) (k9011:(List (Val qg))→Option (List (Val qg)×List (Val qa)×Int)) (_:Nat):Option (List (Val qg)×List (Val qa)×Int):=chk (qcF v112) (chk (0≤v113∧v113<(v114.length:Int)) (chk (v113.toNat<v114.length) (k9011 (v114.set v113.toNat (((v114.getD v113.toNat (qb qg)).1:Int),((((v114.getD v113.toNat (qb qg)).2).1),(((qZ v112):ByteArray),(((v114.getD v113.toNat (qb qg)).2).2).2)))))))
noncomputable def qfQ (N:Nat) (v119:Int) (v120:Int) (v121:List (Val qg)) (v122:List (Val (hd qa))) (v123:List (Val qa)) (k9013:(List (Val qg))→Option (List (Val qg)×List (Val qa)×Int)) (_:Nat):Option (List (Val qg)×List (Val qa)×Int):=chk (qcF v119) (chk (0≤v120∧v120<(v121.length:Int)) (chk (v120.toNat<v121.length) (k9013 (v121.set v120.toNat (((v121.getD v120.toNat (qb qg)).1:Int),((((v121.getD v120.toNat (qb qg)).2).1),(((((v121.getD v120.toNat (qb qg)).2).2).1:ByteArray),(((qZ v119):ByteArray),((((v121.getD v120.toNat (qb qg)).2).2).2).2))))))))
noncomputable def qe2 (N:Nat) (v126:Int) (v127:Int) (v128:List (Val qg)) (v129:List (Val (hd qa))) (v130:List (Val qa)) (k9015:Int→(List (Val qa))→Option (List (Val qg)×List (Val qa)×Int)) (_:Nat):Option (List (Val qg)×List (Val qa)×Int):=chk (0≤v127∧v127<(v128.length:Int)) (chk (v127.toNat<v128.length) (chk (v127.toNat<v130.length∧v127.toNat<v129.length∧((((((v129.getD v127.toNat (qb (hd qa)):Val qg).2).2).2).2).1:Value)=((((((v128.getD v127.toNat (qb qg)).2).2).2).2).1:Value)∧qf4 ((((((v130.getD v127.toNat (qb qa)).2).2).2).2).1:List (Val (.int .i64))) v126) (k9015 (qeo ((((((v130.getD v127.toNat (qb qa)).2).2).2).2).1:List (Val (.int .i64))) v126) (v130.set v127.toNat (((v130.getD v127.toNat (qb qa)).1:Int),((((v130.getD v127.toNat (qb qa)).2).1),(((((v130.getD v127.toNat (qb qa)).2).2).1:ByteArray),((((((v130.getD v127.toNat (qb qa)).2).2).2).1:ByteArray),((qeu ((((((v130.getD v127.toNat (qb qa)).2).2).2).2).1:List (Val (.int .i64))) v126),(((((v130.getD v127.toNat (qb qa)).2).2).2).2).2)))))))))
noncomputable def qeN (N:Nat) (v135:Int) (v136:Int) (v137:List (Val qg)) (v138:List (Val (hd qa))) (v139:List (Val qa)) (k9016:(List (Val qg))→Option (List (Val qg)×List (Val qa)×Int)) (_:Nat):Option (List (Val qg)×List (Val qa)×Int):=chk (0≤v136∧v136<(v137.length:Int)) (chk (v136.toNat<v137.length) (k9016 (v137.set v136.toNat (((v137.getD v136.toNat (qb qg)).1:Int),((((v137.getD v136.toNat (qb qg)).2).1),(((((v137.getD v136.toNat (qb qg)).2).2).1:ByteArray),((((((v137.getD v136.toNat (qb qg)).2).2).2).1:ByteArray),(((((((v137.getD v136.toNat (qb qg)).2).2).2).2).1:Value),(v135,((((((v137.getD v136.toNat (qb qg)).2).2).2).2).2).2)))))))))
noncomputable def qek (N:Nat) (v142:Int) (v143:Int) (v144:List (Val qg)) (v145:List (Val (hd qa))) (v146:List (Val qa)) (k9018:(List (Val qg))→Option (List (Val qg)×List (Val qa)×Int)) (_:Nat):Option (List (Val qg)×List (Val qa)×Int):=chk (0≤v143∧v143<(v144.length:Int)) (chk (v143.toNat<v144.length) (k9018 (v144.set v143.toNat (((v144.getD v143.toNat (qb qg)).1:Int),((((v144.getD v143.toNat (qb qg)).2).1),(((((v144.getD v143.toNat (qb qg)).2).2).1:ByteArray),((((((v144.getD v143.toNat (qb qg)).2).2).2).1:ByteArray),(((((((v144.getD v143.toNat (qb qg)).2).2).2).2).1:Value),((((((((v144.getD v143.toNat (qb qg)).2).2).2).2).2).1:Int),(v142,((((((((v144.getD v143.toNat (qb qg)).2).2).2).2).2).2).2:Int)))))))))))
noncomputable def qdD (N:Nat) (v149:Int) (v150:Int) (v151:List (Val qg)) (v152:List (Val (hd qa))) (v153:List (Val qa)) (k9020:(List (Val qg))→Option (List (Val qg)×List (Val qa)×Int)) (_:Nat):Option (List (Val qg)×List (Val qa)×Int):=chk (0≤v150∧v150<(v151.length:Int)) (chk (v150.toNat<v151.length) (k9020 (v151.set v150.toNat (((v151.getD v150.toNat (qb qg)).1:Int),((((v151.getD v150.toNat (qb qg)).2).1),(((((v151.getD v150.toNat (qb qg)).2).2).1:ByteArray),((((((v151.getD v150.toNat (qb qg)).2).2).2).1:ByteArray),(((((((v151.getD v150.toNat (qb qg)).2).2).2).2).1:Value),((((((((v151.getD v150.toNat (qb qg)).2).2).2).2).2).1:Int),(((((((((v151.getD v150.toNat (qb qg)).2).2).2).2).2).2).1:Int),v149))))))))))
noncomputable def qcp (N:Nat) (v6:List (Val (hd qa))) (k0:Int→(List (Val qg))→(List (Val qa))→Option (List (Val qg)×List (Val qa)×Int)):Nat→Int→Int→(List (Val qg))→(List (Val qa))→Option (List (Val qg)×List (Val qa)×Int)
 | 0,_,_,_,_=>none
 | n+1,v3,v4,v5,v7=>bif (decide (v4<(v5.length:Int)))then (qpB N v3 v4 v5 v6 v7 (fun (v88:List (Val qg))=>qkl N (IntKind.i64.wrap (v3+(1:Int))) v4 v88 v6 v7 (fun (v96:Int) (v97:List (Val qa))=>qi8 N v96 v4 v88 v6 v97 (fun (v104:List (Val qg))=>qg7 N (IntKind.i64.wrap (v96+(1:Int))) v4 v104 v6 v97 (fun (v111:List (Val qg))=>qf6 N (IntKind.i64.wrap ((IntKind.i64.wrap (v96+(1:Int)))+(1:Int))) v4 v111 v6 v97 (fun (v118:List (Val qg))=>qfQ N (IntKind.i64.wrap ((IntKind.i64.wrap ((IntKind.i64.wrap (v96+(1:Int)))+(1:Int)))+(1:Int))) v4 v118 v6 v97 (fun (v125:List (Val qg))=>qe2 N (IntKind.i64.wrap ((IntKind.i64.wrap ((IntKind.i64.wrap ((IntKind.i64.wrap (v96+(1:Int)))+(1:Int)))+(1:Int)))+(1:Int))) v4 v125 v6 v97 (fun (v133:Int) (v134:List (Val qa))=>qeN N v133 v4 v125 v6 v134 (fun (v141:List (Val qg))=>qek N (IntKind.i64.wrap (v133+(1:Int))) v4 v141 v6 v134 (fun (v148:List (Val qg))=>qdD N (IntKind.i64.wrap ((IntKind.i64.wrap (v133+(1:Int)))+(1:Int))) v4 v148 v6 v134 (fun (v155:List (Val qg))=>qcp N v6 k0 n (IntKind.i64.wrap ((IntKind.i64.wrap ((IntKind.i64.wrap (v133+(1:Int)))+(1:Int)))+(1:Int))) (IntKind.i64.wrap (v4+(1:Int))) v155 v134) N) N) N) N) N) N) N) N) N) N)else (k0 v3 v5 v7)
noncomputable def m32 (N:Nat) (v0:List (Val (hd qa))) (v1:List (Val qa)) (v2:Int):Option (List (Val qg)×List (Val qa)×Int):=qcp N v0 (fun (v159:Int) (v160:List (Val qg)) (v161:List (Val qa))=>some (v160,v161,v159)) N v2 (0:Int) v0 v1
def Γ32:Gam:=[(86,g86)]
theorem qa4:Gam.get Γ32 86=some g86:=rfl
theorem qbK:Gam.get Γ32 33=none:=rfl
def qpl:Nm:=⟨[true,true,false,false,false,true],[],false⟩
theorem qbU:qpl.zero=false:=rfl
theorem qa0:qpl.fix=[]:=rfl
theorem qaZ:qpl.keep=[true,true,false,false,false,true]:=rfl
def qpi:Nm:=⟨[true,true,false,false,false,true],[],false⟩
theorem qbt:qpi.zero=false:=rfl
theorem qbB:qpi.fix=[]:=rfl
theorem qbF:qpi.keep=[true,true,false,false,false,true]:=rfl
def qrw:Nm:=⟨[true,true,false,false,false,true],[],false⟩
theorem qaT:qrw.zero=false:=rfl
theorem qbe:qrw.fix=[]:=rfl
theorem qbh:qrw.keep=[true,true,false,false,false,true]:=rfl
def qsk:Nm:=⟨[true,true,false,false,false,true],[],false⟩
theorem qaU:qsk.zero=false:=rfl
theorem qbD:qsk.fix=[]:=rfl
theorem qbM:qsk.keep=[true,true,false,false,false,true]:=rfl
def qrb:Nm:=⟨[true,true,false,false,false,true],[],false⟩
theorem qbl:qrb.zero=false:=rfl
theorem qbE:qrb.fix=[]:=rfl
theorem qb2:qrb.keep=[true,true,false,false,false,true]:=rfl
def qru:Nm:=⟨[true,true,false,false,false,true],[],false⟩
theorem qbR:qru.zero=false:=rfl
theorem qbW:qru.fix=[]:=rfl
theorem qbz:qru.keep=[true,true,false,false,false,true]:=rfl
def qpI:Nm:=⟨[true,true,false,false,false,true],[],false⟩
theorem qaQ:qpI.zero=false:=rfl
theorem qa1:qpI.fix=[]:=rfl
theorem qb0:qpI.keep=[true,true,false,false,false,true]:=rfl
def qsY:Nm:=⟨[true,true,false,false,false,true],[],false⟩
theorem qbc:qsY.zero=false:=rfl
theorem qbn:qsY.fix=[]:=rfl
theorem qbk:qsY.keep=[true,true,false,false,false,true]:=rfl
def qsw:Nm:=⟨[true,true,false,false,false,true],[],false⟩
theorem qbv:qsw.zero=false:=rfl
theorem qbL:qsw.fix=[]:=rfl
theorem qbo:qsw.keep=[true,true,false,false,false,true]:=rfl
def qqE:Nm:=⟨[true,true,false,false,false,true],[],false⟩
theorem qby:qqE.zero=false:=rfl
theorem qbJ:qqE.fix=[]:=rfl
theorem qaN:qqE.keep=[true,true,false,false,false,true]:=rfl
def qkO:Nm:=⟨[true,true,false,false,false,true],[],false⟩
theorem qbj:qkO.zero=false:=rfl
theorem qbr:qkO.fix=[]:=rfl
theorem qbd:qkO.keep=[true,true,false,false,false,true]:=rfl
def qsu:Nm:=⟨[false,true],[],false⟩
theorem qbP:qsu.zero=false:=rfl
theorem qbu:qsu.fix=[]:=rfl
theorem qbO:qsu.keep=[false,true]:=rfl
def qqZ:Nm:=⟨[true,true,false,false,false,true],[],false⟩
theorem qbp:qqZ.zero=false:=rfl
theorem qaV:qqZ.fix=[]:=rfl
theorem qbI:qqZ.keep=[true,true,false,false,false,true]:=rfl
def qsU:Nm:=⟨[true,true,false,false,false,true],[],false⟩
theorem qb1:qsU.zero=false:=rfl
theorem qbx:qsU.fix=[]:=rfl
theorem qbm:qsU.keep=[true,true,false,false,false,true]:=rfl
def qse:Nm:=⟨[true,true,false,false,false,true],[],false⟩
theorem qaP:qse.zero=false:=rfl
theorem qbC:qse.fix=[]:=rfl
theorem qaM:qse.keep=[true,true,false,false,false,true]:=rfl
def qo9:Nm:=⟨[true,true,false,false,false,true],[],false⟩
theorem qbH:qo9.zero=false:=rfl
theorem qbZ:qo9.fix=[]:=rfl
theorem qbQ:qo9.keep=[true,true,false,false,false,true]:=rfl
def qqw:Nm:=⟨[true,true,false,false,false,true],[],false⟩
theorem qaS:qqw.zero=false:=rfl
theorem qa2:qqw.fix=[]:=rfl
theorem qaY:qqw.keep=[true,true,false,false,false,true]:=rfl
def qpZ:Nm:=⟨[true,true,false,false,false,true],[],false⟩
theorem qbG:qpZ.zero=false:=rfl
theorem qba:qpZ.fix=[]:=rfl
theorem qbs:qpZ.keep=[true,true,false,false,false,true]:=rfl
def qqx:Nm:=⟨[true,true,false,false,false,true],[],false⟩
theorem qbT:qqx.zero=false:=rfl
theorem qa7:qqx.fix=[]:=rfl
theorem qa8:qqx.keep=[true,true,false,false,false,true]:=rfl
def qph:Nm:=⟨[true,true,false,false,false,true],[],false⟩
theorem qbS:qph.zero=false:=rfl
theorem qbN:qph.fix=[]:=rfl
theorem qbq:qph.keep=[true,true,false,false,false,true]:=rfl
def qp4:Nm:=⟨[true,true,false,false,false,true],[],false⟩
theorem qbV:qp4.zero=false:=rfl
theorem qaO:qp4.fix=[]:=rfl
theorem qbf:qp4.keep=[true,true,false,false,false,true]:=rfl
def qqD:Nm:=⟨[true,true,false,false,false,true],[],false⟩
theorem qbg:qqD.zero=false:=rfl
theorem qa3:qqD.fix=[]:=rfl
theorem qbi:qqD.keep=[true,true,false,false,false,true]:=rfl
def qaF:Sem:=qfX [] [(26,33,qam,1,20),(67,33,qam,6,62)]
def qaw:Nat→Tree:=fun _=> .done
def qaH:Nat→Nm:=fun i=>if i=2 then qkO else ⟨[],[],false⟩
def qas:Nat→Option Jn:=fun i=>if i=4 then some (.nm qpl)else if i=6 then some (.nm qpi)else if i=7 then some (.nm qrw)else if i=9 then some (.nm qsk)else if i=11 then some (.nm qrb)else if i=13 then some (.nm qru)else if i=15 then some (.nm qpI)else if i=16 then some (.nm qsY)else if i=18 then some (.nm qsw)else if i=20 then some (.nm qqE)else none
def qaC:Nat→Option Nm:=fun i=>if i=0 then some qsu else none
def qaB:Nat→Option Nm:=fun i=>if i=4 then some qqZ else if i=6 then some qsU else if i=7 then some qse else if i=9 then some qo9 else if i=11 then some qqw else if i=13 then some qpZ else if i=15 then some qqx else if i=16 then some qph else if i=18 then some qp4 else if i=20 then some qqD else none
theorem p32:qm qaw (Try.f32.body.getD .skip)=true:=by kernel_rfl
def T32 (N:Nat):Tab:={tr:=qaw,lp:=qaH,ex:=qaC,rg:=qaB,jn:=qas,fuel:=N,pins:=true,sem:=qaF}
theorem qbb (N:Nat):(T32 N).pins=true:=rfl
theorem qPf (N:Nat):qn Try.prog (T32 N):=fun id j t h ht=>by
 have h:qas id=_:=h
 unfold qas at h
 repeat' split at h
 all_goals first | (simp at h;done) | (simp only [Option.some.injEq]at h;subst h;simp [Jn.tb]at ht;done) | (simp only [Option.some.injEq]at h;subst h;simp only [Jn.tb,Option.some.injEq]at ht;subst ht;exact hTH)
theorem qa6 (N:Nat):(T32 N).sem=qaF:=rfl
theorem qaW (N:Nat) (i:Nat):(T32 N).tr i=qaw i:=rfl
theorem qbY (N:Nat) (i:Nat):(T32 N).lp i=qaH i:=rfl
theorem qa9 (N:Nat) (i:Nat):(T32 N).ex i=qaC i:=rfl
theorem qbw (N:Nat) (i:Nat):(T32 N).rg i=qaB i:=rfl
theorem qa5 (N:Nat) (i:Nat):(T32 N).jn i=qas i:=rfl
theorem qaR (N:Nat):(T32 N).fuel=N:=rfl
noncomputable def qJs:Code:=cut [true,false,true,true,true,true,false,true,false] (Try.f32.body.getD .skip)
theorem qYB {N:Nat} {Q:X→St→Option (List (Val qg)×List (Val qa)×Int)} {e:List LV} {h:List Blk}:qA tt Γ32 (T32 N) qJs Q ⟨e,h⟩=qA tt Γ32 (T32 N) (cut [true,false,true,true,true,true,false,true,false] (Try.f32.body.getD .skip)) Q ⟨e,h⟩:=rfl
theorem qUR (N:Nat) (F:List Nat) (v82:Int) (v83:Int) (v84:List (Val qg)) (v85:List (Val (hd qa))) (v86:List (Val qa)) {k9004:(List (Val qg))→Option (List (Val qg)×List (Val qa)×Int)} {Q:X→St→Option (List (Val qg)×List (Val qa)×Int)} {c:Code} (hc:c=qJs) (h9004: ∀(v87:List (Val qg)),Q .normal ⟨[.one (.own 0),.one (.int .i64 v82),u,u,u,.one (.int .i64 v83),u,u,u,u,u,u,u,u,u,u,u,u,u,u,u,u,u,u,u,u,u,u,u,u,u,u,u,u,u,u,u,u,u,u,u,u,u,u,u,u,u,u,u,u,u,u,u,u,u,u,u,u,u,u,u,u,u,u,u,u,u,u,u,u,u,u,u,u,u,u,u,u,u,u,u,u,u,u,u,u,u,u,u,u],[.row 120 qg v87 true true 0,.nst F qa v85 v86]⟩=k9004 v87):qA tt Γ32 (T32 N) c Q ⟨[.one (.own 0),.one (.int .i64 v82),u,u,u,.one (.int .i64 v83),u,u,u,u,u,u,u,u,u,u,u,u,u,u,u,u,u,u,u,u,u,u,u,u,u,u,u,u,u,u,u,u,u,u,u,u,u,u,u,u,u,u,u,u,u,u,u,u,u,u,u,u,u,u,u,u,u,u,u,u,u,u,u,u,u,u,u,u,u,u,u,u,u,u,u,u,u,u,u,u,u,u,u,u],[.row 120 qg v84 true true 0,.nst F qa v85 v86]⟩=qpB N v82 v83 v84 v85 v86 k9004 N:=by
 subst hc;rw [qYB,qpB];unfold Try.f32
 simp (maxSteps:=10000000) -implicitDefEqProofs [qcO (id:=4),qcD (id:=4),qaW,qaw,qbY,qaH,qa9,qaC,qbw,qaB,qa5,qas,qaR,qbb,qa6,qaF,qae,qbK,qam,qr,qab,qa0,qaZ,qbU,qbB,qbF,qbt,qbe,qbh,qaT,qbD,qbM,qaU,qbE,qb2,qbl,qbW,qbz,qbR,qa1,qb0,qaQ,qbn,qbk,qbc,qbL,qbo,qbv,qbJ,qaN,qby,qbr,qbd,qbj,qbu,qbO,qbP,qaV,qbI,qbp,qbx,qbm,qb1,qbC,qaM,qaP,qbZ,qbQ,qbH,qa2,qaY,qaS,qba,qbs,qbG,qa7,qa8,qbT,qbN,qbq,qbS,qaO,qbf,qbV,qa3,qbi,qbg,qa4,g86,h9004]
noncomputable def qHz:Code:=cut [true,false,true,true,true,true,false,true,true,true,false] (Try.f32.body.getD .skip)
theorem qRO {N:Nat} {Q:X→St→Option (List (Val qg)×List (Val qa)×Int)} {e:List LV} {h:List Blk}:qA tt Γ32 (T32 N) qHz Q ⟨e,h⟩=qA tt Γ32 (T32 N) (cut [true,false,true,true,true,true,false,true,true,true,false] (Try.f32.body.getD .skip)) Q ⟨e,h⟩:=rfl
theorem qLC (N:Nat) (F:List Nat) (v89:Int) (v90:Int) (v91:List (Val qg)) (v92:List (Val (hd qa))) (v93:List (Val qa)) {k9006:Int→(List (Val qa))→Option (List (Val qg)×List (Val qa)×Int)} {Q:X→St→Option (List (Val qg)×List (Val qa)×Int)} {c:Code} (hc:c=qHz) (h9006: ∀(v94:Int) (v95:List (Val qa)),Q .normal ⟨[.one (.own 0),.one (.int .i64 v94),u,u,u,.one (.int .i64 v90),u,u,u,u,u,u,u,u,u,u,u,u,u,u,u,u,u,u,u,u,u,u,u,u,u,u,u,u,u,u,u,u,u,u,u,u,u,u,u,u,u,u,u,u,u,u,u,u,u,u,u,u,u,u,u,u,u,u,u,u,u,u,u,u,u,u,u,u,u,u,u,u,u,u,u,u,u,u,u,u,u,u,u,u],[.row 120 qg v91 true true 0,.nst F qa v92 v95]⟩=k9006 v94 v95):qA tt Γ32 (T32 N) c Q ⟨[.one (.own 0),.one (.int .i64 v89),u,u,u,.one (.int .i64 v90),u,u,u,u,u,u,u,u,u,u,u,u,u,u,u,u,u,u,u,u,u,u,u,u,u,u,u,u,u,u,u,u,u,u,u,u,u,u,u,u,u,u,u,u,u,u,u,u,u,u,u,u,u,u,u,u,u,u,u,u,u,u,u,u,u,u,u,u,u,u,u,u,u,u,u,u,u,u,u,u,u,u,u,u],[.row 120 qg v91 true true 0,.nst F qa v92 v93]⟩=qkl N v89 v90 v91 v92 v93 k9006 N:=by
 subst hc;rw [qRO,qkl];unfold Try.f32
 simp (maxSteps:=10000000) -implicitDefEqProofs [qcO (id:=6),qcD (id:=6),qaW,qaw,qbY,qaH,qa9,qaC,qbw,qaB,qa5,qas,qaR,qbb,qa6,qaF,qae,qbK,qam,qr,qab,qa0,qaZ,qbU,qbB,qbF,qbt,qbe,qbh,qaT,qbD,qbM,qaU,qbE,qb2,qbl,qbW,qbz,qbR,qa1,qb0,qaQ,qbn,qbk,qbc,qbL,qbo,qbv,qbJ,qaN,qby,qbr,qbd,qbj,qbu,qbO,qbP,qaV,qbI,qbp,qbx,qbm,qb1,qbC,qaM,qaP,qbZ,qbQ,qbH,qa2,qaY,qaS,qba,qbs,qbG,qa7,qa8,qbT,qbN,qbq,qbS,qaO,qbf,qbV,qa3,qbi,qbg,qa4,g86,h9006]
noncomputable def qIi:Code:=cut [true,false,true,true,true,true,false,true,true,true,true,false] (Try.f32.body.getD .skip)
theorem qSC {N:Nat} {Q:X→St→Option (List (Val qg)×List (Val qa)×Int)} {e:List LV} {h:List Blk}:qA tt Γ32 (T32 N) qIi Q ⟨e,h⟩=qA tt Γ32 (T32 N) (cut [true,false,true,true,true,true,false,true,true,true,true,false] (Try.f32.body.getD .skip)) Q ⟨e,h⟩:=rfl
theorem qMr (N:Nat) (F:List Nat) (v98:Int) (v99:Int) (v100:List (Val qg)) (v101:List (Val (hd qa))) (v102:List (Val qa)) {k9007:(List (Val qg))→Option (List (Val qg)×List (Val qa)×Int)} {Q:X→St→Option (List (Val qg)×List (Val qa)×Int)} {c:Code} (hc:c=qIi) (h9007: ∀(v103:List (Val qg)),Q .normal ⟨[.one (.own 0),.one (.int .i64 v98),u,u,u,.one (.int .i64 v99),u,u,u,u,u,u,u,u,u,u,u,u,u,u,u,u,u,u,u,u,u,u,u,u,u,u,u,u,u,u,u,u,u,u,u,u,u,u,u,u,u,u,u,u,u,u,u,u,u,u,u,u,u,u,u,u,u,u,u,u,u,u,u,u,u,u,u,u,u,u,u,u,u,u,u,u,u,u,u,u,u,u,u,u],[.row 120 qg v103 true true 0,.nst F qa v101 v102]⟩=k9007 v103):qA tt Γ32 (T32 N) c Q ⟨[.one (.own 0),.one (.int .i64 v98),u,u,u,.one (.int .i64 v99),u,u,u,u,u,u,u,u,u,u,u,u,u,u,u,u,u,u,u,u,u,u,u,u,u,u,u,u,u,u,u,u,u,u,u,u,u,u,u,u,u,u,u,u,u,u,u,u,u,u,u,u,u,u,u,u,u,u,u,u,u,u,u,u,u,u,u,u,u,u,u,u,u,u,u,u,u,u,u,u,u,u,u,u],[.row 120 qg v100 true true 0,.nst F qa v101 v102]⟩=qi8 N v98 v99 v100 v101 v102 k9007 N:=by
 subst hc;rw [qSC,qi8];unfold Try.f32
 simp (maxSteps:=10000000) -implicitDefEqProofs [qcO (id:=7),qcD (id:=7),qaW,qaw,qbY,qaH,qa9,qaC,qbw,qaB,qa5,qas,qaR,qbb,qa6,qaF,qae,qbK,qam,qr,qab,qa0,qaZ,qbU,qbB,qbF,qbt,qbe,qbh,qaT,qbD,qbM,qaU,qbE,qb2,qbl,qbW,qbz,qbR,qa1,qb0,qaQ,qbn,qbk,qbc,qbL,qbo,qbv,qbJ,qaN,qby,qbr,qbd,qbj,qbu,qbO,qbP,qaV,qbI,qbp,qbx,qbm,qb1,qbC,qaM,qaP,qbZ,qbQ,qbH,qa2,qaY,qaS,qba,qbs,qbG,qa7,qa8,qbT,qbN,qbq,qbS,qaO,qbf,qbV,qa3,qbi,qbg,qa4,g86,h9007]
noncomputable def qHH:Code:=cut [true,false,true,true,true,true,false,true,true,true,true,true,true,false] (Try.f32.body.getD .skip)
theorem qWL {N:Nat} {Q:X→St→Option (List (Val qg)×List (Val qa)×Int)} {e:List LV} {h:List Blk}:qA tt Γ32 (T32 N) qHH Q ⟨e,h⟩=qA tt Γ32 (T32 N) (cut [true,false,true,true,true,true,false,true,true,true,true,true,true,false] (Try.f32.body.getD .skip)) Q ⟨e,h⟩:=rfl
theorem qQe (N:Nat) (F:List Nat) (v105:Int) (v106:Int) (v107:List (Val qg)) (v108:List (Val (hd qa))) (v109:List (Val qa)) {k9009:(List (Val qg))→Option (List (Val qg)×List (Val qa)×Int)} {Q:X→St→Option (List (Val qg)×List (Val qa)×Int)} {c:Code} (hc:c=qHH) (h9009: ∀(v110:List (Val qg)),Q .normal ⟨[.one (.own 0),.one (.int .i64 v105),u,u,u,.one (.int .i64 v106),u,u,u,u,u,u,u,u,u,u,u,u,u,u,u,u,u,u,u,u,u,u,u,u,u,u,u,u,u,u,u,u,u,u,u,u,u,u,u,u,u,u,u,u,u,u,u,u,u,u,u,u,u,u,u,u,u,u,u,u,u,u,u,u,u,u,u,u,u,u,u,u,u,u,u,u,u,u,u,u,u,u,u,u],[.row 120 qg v110 true true 0,.nst F qa v108 v109]⟩=k9009 v110):qA tt Γ32 (T32 N) c Q ⟨[.one (.own 0),.one (.int .i64 v105),u,u,u,.one (.int .i64 v106),u,u,u,u,u,u,u,u,u,u,u,u,u,u,u,u,u,u,u,u,u,u,u,u,u,u,u,u,u,u,u,u,u,u,u,u,u,u,u,u,u,u,u,u,u,u,u,u,u,u,u,u,u,u,u,u,u,u,u,u,u,u,u,u,u,u,u,u,u,u,u,u,u,u,u,u,u,u,u,u,u,u,u,u],[.row 120 qg v107 true true 0,.nst F qa v108 v109]⟩=qg7 N v105 v106 v107 v108 v109 k9009 N:=by
 subst hc;rw [qWL,qg7];unfold Try.f32
 simp (maxSteps:=10000000) -implicitDefEqProofs [qcO (id:=9),qcD (id:=9),qaW,qaw,qbY,qaH,qa9,qaC,qbw,qaB,qa5,qas,qaR,qbb,qa6,qaF,qae,qbK,qam,qr,qab,qa0,qaZ,qbU,qbB,qbF,qbt,qbe,qbh,qaT,qbD,qbM,qaU,qbE,qb2,qbl,qbW,qbz,qbR,qa1,qb0,qaQ,qbn,qbk,qbc,qbL,qbo,qbv,qbJ,qaN,qby,qbr,qbd,qbj,qbu,qbO,qbP,qaV,qbI,qbp,qbx,qbm,qb1,qbC,qaM,qaP,qbZ,qbQ,qbH,qa2,qaY,qaS,qba,qbs,qbG,qa7,qa8,qbT,qbN,qbq,qbS,qaO,qbf,qbV,qa3,qbi,qbg,qa4,g86,h9009]
noncomputable def qJ5:Code:=cut [true,false,true,true,true,true,false,true,true,true,true,true,true,true,true,false] (Try.f32.body.getD .skip)
theorem qR0 {N:Nat} {Q:X→St→Option (List (Val qg)×List (Val qa)×Int)} {e:List LV} {h:List Blk}:qA tt Γ32 (T32 N) qJ5 Q ⟨e,h⟩=qA tt Γ32 (T32 N) (cut [true,false,true,true,true,true,false,true,true,true,true,true,true,true,true,false] (Try.f32.body.getD .skip)) Q ⟨e,h⟩:=rfl
theorem qWz (N:Nat) (F:List Nat) (v112:Int) (v113:Int) (v114:List (Val qg)) (v115:List (Val (hd qa))) (v116:List (Val qa)) {k9011:(List (Val qg))→Option (List (Val qg)×List (Val qa)×Int)} {Q:X→St→Option (List (Val qg)×List (Val qa)×Int)} {c:Code} (hc:c=qJ5) (h9011: ∀(v117:List (Val qg)),Q .normal ⟨[.one (.own 0),.one (.int .i64 v112),u,u,u,.one (.int .i64 v113),u,u,u,u,u,u,u,u,u,u,u,u,u,u,u,u,u,u,u,u,u,u,u,u,u,u,u,u,u,u,u,u,u,u,u,u,u,u,u,u,u,u,u,u,u,u,u,u,u,u,u,u,u,u,u,u,u,u,u,u,u,u,u,u,u,u,u,u,u,u,u,u,u,u,u,u,u,u,u,u,u,u,u,u],[.row 120 qg v117 true true 0,.nst F qa v115 v116]⟩=k9011 v117):qA tt Γ32 (T32 N) c Q ⟨[.one (.own 0),.one (.int .i64 v112),u,u,u,.one (.int .i64 v113),u,u,u,u,u,u,u,u,u,u,u,u,u,u,u,u,u,u,u,u,u,u,u,u,u,u,u,u,u,u,u,u,u,u,u,u,u,u,u,u,u,u,u,u,u,u,u,u,u,u,u,u,u,u,u,u,u,u,u,u,u,u,u,u,u,u,u,u,u,u,u,u,u,u,u,u,u,u,u,u,u,u,u,u],[.row 120 qg v114 true true 0,.nst F qa v115 v116]⟩=qf6 N v112 v113 v114 v115 v116 k9011 N:=by
 subst hc;rw [qR0,qf6];unfold Try.f32
 simp (maxSteps:=10000000) -implicitDefEqProofs [qcO (id:=11),qcD (id:=11),qaW,qaw,qbY,qaH,qa9,qaC,qbw,qaB,qa5,qas,qaR,qbb,qa6,qaF,qae,qbK,qam,qr,qab,qa0,qaZ,qbU,qbB,qbF,qbt,qbe,qbh,qaT,qbD,qbM,qaU,qbE,qb2,qbl,qbW,qbz,qbR,qa1,qb0,qaQ,qbn,qbk,qbc,qbL,qbo,qbv,qbJ,qaN,qby,qbr,qbd,qbj,qbu,qbO,qbP,qaV,qbI,qbp,qbx,qbm,qb1,qbC,qaM,qaP,qbZ,qbQ,qbH,qa2,qaY,qaS,qba,qbs,qbG,qa7,qa8,qbT,qbN,qbq,qbS,qaO,qbf,qbV,qa3,qbi,qbg,qa4,g86,h9011]
noncomputable def qH8:Code:=cut [true,false,true,true,true,true,false,true,true,true,true,true,true,true,true,true,true,false] (Try.f32.body.getD .skip)
theorem qPi {N:Nat} {Q:X→St→Option (List (Val qg)×List (Val qa)×Int)} {e:List LV} {h:List Blk}:qA tt Γ32 (T32 N) qH8 Q ⟨e,h⟩=qA tt Γ32 (T32 N) (cut [true,false,true,true,true,true,false,true,true,true,true,true,true,true,true,true,true,false] (Try.f32.body.getD .skip)) Q ⟨e,h⟩:=rfl
theorem qMQ (N:Nat) (F:List Nat) (v119:Int) (v120:Int) (v121:List (Val qg)) (v122:List (Val (hd qa))) (v123:List (Val qa)) {k9013:(List (Val qg))→Option (List (Val qg)×List (Val qa)×Int)} {Q:X→St→Option (List (Val qg)×List (Val qa)×Int)} {c:Code} (hc:c=qH8) (h9013: ∀(v124:List (Val qg)),Q .normal ⟨[.one (.own 0),.one (.int .i64 v119),u,u,u,.one (.int .i64 v120),u,u,u,u,u,u,u,u,u,u,u,u,u,u,u,u,u,u,u,u,u,u,u,u,u,u,u,u,u,u,u,u,u,u,u,u,u,u,u,u,u,u,u,u,u,u,u,u,u,u,u,u,u,u,u,u,u,u,u,u,u,u,u,u,u,u,u,u,u,u,u,u,u,u,u,u,u,u,u,u,u,u,u,u],[.row 120 qg v124 true true 0,.nst F qa v122 v123]⟩=k9013 v124):qA tt Γ32 (T32 N) c Q ⟨[.one (.own 0),.one (.int .i64 v119),u,u,u,.one (.int .i64 v120),u,u,u,u,u,u,u,u,u,u,u,u,u,u,u,u,u,u,u,u,u,u,u,u,u,u,u,u,u,u,u,u,u,u,u,u,u,u,u,u,u,u,u,u,u,u,u,u,u,u,u,u,u,u,u,u,u,u,u,u,u,u,u,u,u,u,u,u,u,u,u,u,u,u,u,u,u,u,u,u,u,u,u,u],[.row 120 qg v121 true true 0,.nst F qa v122 v123]⟩=qfQ N v119 v120 v121 v122 v123 k9013 N:=by
 subst hc;rw [qPi,qfQ];unfold Try.f32
 simp (maxSteps:=10000000) -implicitDefEqProofs [qcO (id:=13),qcD (id:=13),qaW,qaw,qbY,qaH,qa9,qaC,qbw,qaB,qa5,qas,qaR,qbb,qa6,qaF,qae,qbK,qam,qr,qab,qa0,qaZ,qbU,qbB,qbF,qbt,qbe,qbh,qaT,qbD,qbM,qaU,qbE,qb2,qbl,qbW,qbz,qbR,qa1,qb0,qaQ,qbn,qbk,qbc,qbL,qbo,qbv,qbJ,qaN,qby,qbr,qbd,qbj,qbu,qbO,qbP,qaV,qbI,qbp,qbx,qbm,qb1,qbC,qaM,qaP,qbZ,qbQ,qbH,qa2,qaY,qaS,qba,qbs,qbG,qa7,qa8,qbT,qbN,qbq,qbS,qaO,qbf,qbV,qa3,qbi,qbg,qa4,g86,h9013]
noncomputable def qIz:Code:=cut [true,false,true,true,true,true,false,true,true,true,true,true,true,true,true,true,true,true,true,false] (Try.f32.body.getD .skip)
theorem qNm {N:Nat} {Q:X→St→Option (List (Val qg)×List (Val qa)×Int)} {e:List LV} {h:List Blk}:qA tt Γ32 (T32 N) qIz Q ⟨e,h⟩=qA tt Γ32 (T32 N) (cut [true,false,true,true,true,true,false,true,true,true,true,true,true,true,true,true,true,true,true,false] (Try.f32.body.getD .skip)) Q ⟨e,h⟩:=rfl
theorem qQA (N:Nat) (F:List Nat) (v126:Int) (v127:Int) (v128:List (Val qg)) (v129:List (Val (hd qa))) (v130:List (Val qa)) {k9015:Int→(List (Val qa))→Option (List (Val qg)×List (Val qa)×Int)} {Q:X→St→Option (List (Val qg)×List (Val qa)×Int)} {c:Code} (hc:c=qIz) (h9015: ∀(v131:Int) (v132:List (Val qa)),Q .normal ⟨[.one (.own 0),.one (.int .i64 v131),u,u,u,.one (.int .i64 v127),u,u,u,u,u,u,u,u,u,u,u,u,u,u,u,u,u,u,u,u,u,u,u,u,u,u,u,u,u,u,u,u,u,u,u,u,u,u,u,u,u,u,u,u,u,u,u,u,u,u,u,u,u,u,u,u,u,u,u,u,u,u,u,u,u,u,u,u,u,u,u,u,u,u,u,u,u,u,u,u,u,u,u,u],[.row 120 qg v128 true true 0,.nst F qa v129 v132]⟩=k9015 v131 v132):qA tt Γ32 (T32 N) c Q ⟨[.one (.own 0),.one (.int .i64 v126),u,u,u,.one (.int .i64 v127),u,u,u,u,u,u,u,u,u,u,u,u,u,u,u,u,u,u,u,u,u,u,u,u,u,u,u,u,u,u,u,u,u,u,u,u,u,u,u,u,u,u,u,u,u,u,u,u,u,u,u,u,u,u,u,u,u,u,u,u,u,u,u,u,u,u,u,u,u,u,u,u,u,u,u,u,u,u,u,u,u,u,u,u],[.row 120 qg v128 true true 0,.nst F qa v129 v130]⟩=qe2 N v126 v127 v128 v129 v130 k9015 N:=by
 subst hc;rw [qNm,qe2];unfold Try.f32
 simp (maxSteps:=10000000) -implicitDefEqProofs [qcO (id:=15),qcD (id:=15),qaW,qaw,qbY,qaH,qa9,qaC,qbw,qaB,qa5,qas,qaR,qbb,qa6,qaF,qae,qbK,qam,qr,qab,qa0,qaZ,qbU,qbB,qbF,qbt,qbe,qbh,qaT,qbD,qbM,qaU,qbE,qb2,qbl,qbW,qbz,qbR,qa1,qb0,qaQ,qbn,qbk,qbc,qbL,qbo,qbv,qbJ,qaN,qby,qbr,qbd,qbj,qbu,qbO,qbP,qaV,qbI,qbp,qbx,qbm,qb1,qbC,qaM,qaP,qbZ,qbQ,qbH,qa2,qaY,qaS,qba,qbs,qbG,qa7,qa8,qbT,qbN,qbq,qbS,qaO,qbf,qbV,qa3,qbi,qbg,qa4,g86,h9015]
noncomputable def qHk:Code:=cut [true,false,true,true,true,true,false,true,true,true,true,true,true,true,true,true,true,true,true,true,false] (Try.f32.body.getD .skip)
theorem qU3 {N:Nat} {Q:X→St→Option (List (Val qg)×List (Val qa)×Int)} {e:List LV} {h:List Blk}:qA tt Γ32 (T32 N) qHk Q ⟨e,h⟩=qA tt Γ32 (T32 N) (cut [true,false,true,true,true,true,false,true,true,true,true,true,true,true,true,true,true,true,true,true,false] (Try.f32.body.getD .skip)) Q ⟨e,h⟩:=rfl
theorem qLm (N:Nat) (F:List Nat) (v135:Int) (v136:Int) (v137:List (Val qg)) (v138:List (Val (hd qa))) (v139:List (Val qa)) {k9016:(List (Val qg))→Option (List (Val qg)×List (Val qa)×Int)} {Q:X→St→Option (List (Val qg)×List (Val qa)×Int)} {c:Code} (hc:c=qHk) (h9016: ∀(v140:List (Val qg)),Q .normal ⟨[.one (.own 0),.one (.int .i64 v135),u,u,u,.one (.int .i64 v136),u,u,u,u,u,u,u,u,u,u,u,u,u,u,u,u,u,u,u,u,u,u,u,u,u,u,u,u,u,u,u,u,u,u,u,u,u,u,u,u,u,u,u,u,u,u,u,u,u,u,u,u,u,u,u,u,u,u,u,u,u,u,u,u,u,u,u,u,u,u,u,u,u,u,u,u,u,u,u,u,u,u,u,u],[.row 120 qg v140 true true 0,.nst F qa v138 v139]⟩=k9016 v140):qA tt Γ32 (T32 N) c Q ⟨[.one (.own 0),.one (.int .i64 v135),u,u,u,.one (.int .i64 v136),u,u,u,u,u,u,u,u,u,u,u,u,u,u,u,u,u,u,u,u,u,u,u,u,u,u,u,u,u,u,u,u,u,u,u,u,u,u,u,u,u,u,u,u,u,u,u,u,u,u,u,u,u,u,u,u,u,u,u,u,u,u,u,u,u,u,u,u,u,u,u,u,u,u,u,u,u,u,u,u,u,u,u,u],[.row 120 qg v137 true true 0,.nst F qa v138 v139]⟩=qeN N v135 v136 v137 v138 v139 k9016 N:=by
 subst hc;rw [qU3,qeN];unfold Try.f32
 simp (maxSteps:=10000000) -implicitDefEqProofs [qcO (id:=16),qcD (id:=16),qaW,qaw,qbY,qaH,qa9,qaC,qbw,qaB,qa5,qas,qaR,qbb,qa6,qaF,qae,qbK,qam,qr,qab,qa0,qaZ,qbU,qbB,qbF,qbt,qbe,qbh,qaT,qbD,qbM,qaU,qbE,qb2,qbl,qbW,qbz,qbR,qa1,qb0,qaQ,qbn,qbk,qbc,qbL,qbo,qbv,qbJ,qaN,qby,qbr,qbd,qbj,qbu,qbO,qbP,qaV,qbI,qbp,qbx,qbm,qb1,qbC,qaM,qaP,qbZ,qbQ,qbH,qa2,qaY,qaS,qba,qbs,qbG,qa7,qa8,qbT,qbN,qbq,qbS,qaO,qbf,qbV,qa3,qbi,qbg,qa4,g86,h9016]
noncomputable def qJ2:Code:=cut [true,false,true,true,true,true,false,true,true,true,true,true,true,true,true,true,true,true,true,true,true,true,false] (Try.f32.body.getD .skip)
theorem qM4 {N:Nat} {Q:X→St→Option (List (Val qg)×List (Val qa)×Int)} {e:List LV} {h:List Blk}:qA tt Γ32 (T32 N) qJ2 Q ⟨e,h⟩=qA tt Γ32 (T32 N) (cut [true,false,true,true,true,true,false,true,true,true,true,true,true,true,true,true,true,true,true,true,true,true,false] (Try.f32.body.getD .skip)) Q ⟨e,h⟩:=rfl
theorem qME (N:Nat) (F:List Nat) (v142:Int) (v143:Int) (v144:List (Val qg)) (v145:List (Val (hd qa))) (v146:List (Val qa)) {k9018:(List (Val qg))→Option (List (Val qg)×List (Val qa)×Int)} {Q:X→St→Option (List (Val qg)×List (Val qa)×Int)} {c:Code} (hc:c=qJ2) (h9018: ∀(v147:List (Val qg)),Q .normal ⟨[.one (.own 0),.one (.int .i64 v142),u,u,u,.one (.int .i64 v143),u,u,u,u,u,u,u,u,u,u,u,u,u,u,u,u,u,u,u,u,u,u,u,u,u,u,u,u,u,u,u,u,u,u,u,u,u,u,u,u,u,u,u,u,u,u,u,u,u,u,u,u,u,u,u,u,u,u,u,u,u,u,u,u,u,u,u,u,u,u,u,u,u,u,u,u,u,u,u,u,u,u,u,u],[.row 120 qg v147 true true 0,.nst F qa v145 v146]⟩=k9018 v147):qA tt Γ32 (T32 N) c Q ⟨[.one (.own 0),.one (.int .i64 v142),u,u,u,.one (.int .i64 v143),u,u,u,u,u,u,u,u,u,u,u,u,u,u,u,u,u,u,u,u,u,u,u,u,u,u,u,u,u,u,u,u,u,u,u,u,u,u,u,u,u,u,u,u,u,u,u,u,u,u,u,u,u,u,u,u,u,u,u,u,u,u,u,u,u,u,u,u,u,u,u,u,u,u,u,u,u,u,u,u,u,u,u,u],[.row 120 qg v144 true true 0,.nst F qa v145 v146]⟩=qek N v142 v143 v144 v145 v146 k9018 N:=by
 subst hc;rw [qM4,qek];unfold Try.f32
 simp (maxSteps:=10000000) -implicitDefEqProofs [qcO (id:=18),qcD (id:=18),qaW,qaw,qbY,qaH,qa9,qaC,qbw,qaB,qa5,qas,qaR,qbb,qa6,qaF,qae,qbK,qam,qr,qab,qa0,qaZ,qbU,qbB,qbF,qbt,qbe,qbh,qaT,qbD,qbM,qaU,qbE,qb2,qbl,qbW,qbz,qbR,qa1,qb0,qaQ,qbn,qbk,qbc,qbL,qbo,qbv,qbJ,qaN,qby,qbr,qbd,qbj,qbu,qbO,qbP,qaV,qbI,qbp,qbx,qbm,qb1,qbC,qaM,qaP,qbZ,qbQ,qbH,qa2,qaY,qaS,qba,qbs,qbG,qa7,qa8,qbT,qbN,qbq,qbS,qaO,qbf,qbV,qa3,qbi,qbg,qa4,g86,h9018]
noncomputable def qKb:Code:=cut [true,false,true,true,true,true,false,true,true,true,true,true,true,true,true,true,true,true,true,true,true,true,true,true,false] (Try.f32.body.getD .skip)
theorem qXF {N:Nat} {Q:X→St→Option (List (Val qg)×List (Val qa)×Int)} {e:List LV} {h:List Blk}:qA tt Γ32 (T32 N) qKb Q ⟨e,h⟩=qA tt Γ32 (T32 N) (cut [true,false,true,true,true,true,false,true,true,true,true,true,true,true,true,true,true,true,true,true,true,true,true,true,false] (Try.f32.body.getD .skip)) Q ⟨e,h⟩:=rfl
theorem qTN (N:Nat) (F:List Nat) (v149:Int) (v150:Int) (v151:List (Val qg)) (v152:List (Val (hd qa))) (v153:List (Val qa)) {k9020:(List (Val qg))→Option (List (Val qg)×List (Val qa)×Int)} {Q:X→St→Option (List (Val qg)×List (Val qa)×Int)} {c:Code} (hc:c=qKb) (h9020: ∀(v154:List (Val qg)),Q .normal ⟨[.one (.own 0),.one (.int .i64 v149),u,u,u,.one (.int .i64 v150),u,u,u,u,u,u,u,u,u,u,u,u,u,u,u,u,u,u,u,u,u,u,u,u,u,u,u,u,u,u,u,u,u,u,u,u,u,u,u,u,u,u,u,u,u,u,u,u,u,u,u,u,u,u,u,u,u,u,u,u,u,u,u,u,u,u,u,u,u,u,u,u,u,u,u,u,u,u,u,u,u,u,u,u],[.row 120 qg v154 true true 0,.nst F qa v152 v153]⟩=k9020 v154):qA tt Γ32 (T32 N) c Q ⟨[.one (.own 0),.one (.int .i64 v149),u,u,u,.one (.int .i64 v150),u,u,u,u,u,u,u,u,u,u,u,u,u,u,u,u,u,u,u,u,u,u,u,u,u,u,u,u,u,u,u,u,u,u,u,u,u,u,u,u,u,u,u,u,u,u,u,u,u,u,u,u,u,u,u,u,u,u,u,u,u,u,u,u,u,u,u,u,u,u,u,u,u,u,u,u,u,u,u,u,u,u,u,u],[.row 120 qg v151 true true 0,.nst F qa v152 v153]⟩=qdD N v149 v150 v151 v152 v153 k9020 N:=by
 subst hc;rw [qXF,qdD];unfold Try.f32
 simp (maxSteps:=10000000) -implicitDefEqProofs [qcO (id:=20),qcD (id:=20),qaW,qaw,qbY,qaH,qa9,qaC,qbw,qaB,qa5,qas,qaR,qbb,qa6,qaF,qae,qbK,qam,qr,qab,qa0,qaZ,qbU,qbB,qbF,qbt,qbe,qbh,qaT,qbD,qbM,qaU,qbE,qb2,qbl,qbW,qbz,qbR,qa1,qb0,qaQ,qbn,qbk,qbc,qbL,qbo,qbv,qbJ,qaN,qby,qbr,qbd,qbj,qbu,qbO,qbP,qaV,qbI,qbp,qbx,qbm,qb1,qbC,qaM,qaP,qbZ,qbQ,qbH,qa2,qaY,qaS,qba,qbs,qbG,qa7,qa8,qbT,qbN,qbq,qbS,qaO,qbf,qbV,qa3,qbi,qbg,qa4,g86,h9020]
noncomputable def qIm:Code:=cut [true,false,true,true,true] (Try.f32.body.getD .skip)
theorem qNe {N:Nat} {Q:X→St→Option (List (Val qg)×List (Val qa)×Int)} {e:List LV} {h:List Blk}:qf tt Γ32 (T32 N) qIm Q ⟨e,h⟩=qf tt Γ32 (T32 N) (cut [true,false,true,true,true] (Try.f32.body.getD .skip)) Q ⟨e,h⟩:=rfl
theorem qYr (N:Nat) (F:List Nat) (v6:List (Val (hd qa))) {k0:Int→(List (Val qg))→(List (Val qa))→Option (List (Val qg)×List (Val qa)×Int)} {Q:X→St→Option (List (Val qg)×List (Val qa)×Int)} {c:Code} (hc:c=qIm) (hret: ∀st,Q .ret st=qei tt 120 qa qg F v6 [.tmp 4] st) (h0: ∀(v156:Int) (v157:List (Val qg)) (v158:List (Val qa)),Q (.exit 0) ⟨[u,.one (.int .i64 v156),u,u,u,u,u,u,u,u,u,u,u,u,u,u,u,u,u,u,u,u,u,u,u,u,u,u,u,u,u,u,u,u,u,u,u,u,u,u,u,u,u,u,u,u,u,u,u,u,u,u,u,u,u,u,u,u,u,u,u,u,u,u,u,u,u,u,u,u,u,u,u,u,u,u,u,u,u,u,u,u,u,u,u,u,u,u,u,u],[.row 120 qg v157 true true 0,.nst F qa v6 v158]⟩=k0 v156 v157 v158): ∀(n:Nat) (v3:Int) (v4:Int) (v5:List (Val qg)) (v7:List (Val qa)),qI (qf tt Γ32 (T32 N) c) true qkO Q n ⟨[.one (.own 0),.one (.int .i64 v3),u,u,u,.one (.int .i64 v4),u,u,u,u,u,u,u,u,u,u,u,u,u,u,u,u,u,u,u,u,u,u,u,u,u,u,u,u,u,u,u,u,u,u,u,u,u,u,u,u,u,u,u,u,u,u,u,u,u,u,u,u,u,u,u,u,u,u,u,u,u,u,u,u,u,u,u,u,u,u,u,u,u,u,u,u,u,u,u,u,u,u,u,u],[.row 120 qg v5 true true 0,.nst F qa v6 v7]⟩=qcp N v6 k0 n v3 v4 v5 v7:=by
 subst hc;intro n;induction n with
 | zero=>intros;rfl
 | succ n ih=>
   intro v3 v4 v5 v7
   rw [qS,qNe];unfold Try.f32
   simp (maxSteps:=10000000) -implicitDefEqProofs [qaW,qaw,qbY,qaH,qa9,qaC,qbw,qaB,qa5,qas,qaR,qbb,qa6,qaF,qae,qbK,qam,qr,qab,qa0,qaZ,qbU,qbB,qbF,qbt,qbe,qbh,qaT,qbD,qbM,qaU,qbE,qb2,qbl,qbW,qbz,qbR,qa1,qb0,qaQ,qbn,qbk,qbc,qbL,qbo,qbv,qbJ,qaN,qby,qbr,qbd,qbj,qbu,qbO,qbP,qaV,qbI,qbp,qbx,qbm,qb1,qbC,qaM,qaP,qbZ,qbQ,qbH,qa2,qaY,qaS,qba,qbs,qbG,qa7,qa8,qbT,qbN,qbq,qbS,qaO,qbf,qbV,qa3,qbi,qbg,qa4,g86,hret,h0,ih]
   rewrite [qUR (k9004:=(fun (v88:List (Val qg))=>qkl N (IntKind.i64.wrap (v3+(1:Int))) v4 v88 v6 v7 (fun (v96:Int) (v97:List (Val qa))=>qi8 N v96 v4 v88 v6 v97 (fun (v104:List (Val qg))=>qg7 N (IntKind.i64.wrap (v96+(1:Int))) v4 v104 v6 v97 (fun (v111:List (Val qg))=>qf6 N (IntKind.i64.wrap ((IntKind.i64.wrap (v96+(1:Int)))+(1:Int))) v4 v111 v6 v97 (fun (v118:List (Val qg))=>qfQ N (IntKind.i64.wrap ((IntKind.i64.wrap ((IntKind.i64.wrap (v96+(1:Int)))+(1:Int)))+(1:Int))) v4 v118 v6 v97 (fun (v125:List (Val qg))=>qe2 N (IntKind.i64.wrap ((IntKind.i64.wrap ((IntKind.i64.wrap ((IntKind.i64.wrap (v96+(1:Int)))+(1:Int)))+(1:Int)))+(1:Int))) v4 v125 v6 v97 (fun (v133:Int) (v134:List (Val qa))=>qeN N v133 v4 v125 v6 v134 (fun (v141:List (Val qg))=>qek N (IntKind.i64.wrap (v133+(1:Int))) v4 v141 v6 v134 (fun (v148:List (Val qg))=>qdD N (IntKind.i64.wrap ((IntKind.i64.wrap (v133+(1:Int)))+(1:Int))) v4 v148 v6 v134 (fun (v155:List (Val qg))=>qcp N v6 k0 n (IntKind.i64.wrap ((IntKind.i64.wrap ((IntKind.i64.wrap (v133+(1:Int)))+(1:Int)))+(1:Int))) (IntKind.i64.wrap (v4+(1:Int))) v155 v134) N) N) N) N) N) N) N) N) N)) N _ _ _ _ _ _ ?_ ?_]
   ·rewrite [qcp];first | rfl | simp (maxSteps:=10000000) -implicitDefEqProofs [ih]
   ·rfl
   ·intro v88;simp (maxSteps:=10000000) -implicitDefEqProofs [qaW,qaw,qbY,qaH,qa9,qaC,qbw,qaB,qa5,qas,qaR,qbb,qa6,qaF,qae,qbK,qam,qr,qab,qa0,qaZ,qbU,qbB,qbF,qbt,qbe,qbh,qaT,qbD,qbM,qaU,qbE,qb2,qbl,qbW,qbz,qbR,qa1,qb0,qaQ,qbn,qbk,qbc,qbL,qbo,qbv,qbJ,qaN,qby,qbr,qbd,qbj,qbu,qbO,qbP,qaV,qbI,qbp,qbx,qbm,qb1,qbC,qaM,qaP,qbZ,qbQ,qbH,qa2,qaY,qaS,qba,qbs,qbG,qa7,qa8,qbT,qbN,qbq,qbS,qaO,qbf,qbV,qa3,qbi,qbg,qa4,g86,hret,h0,ih]
    rewrite [qLC (k9006:=(fun (v96:Int) (v97:List (Val qa))=>qi8 N v96 v4 v88 v6 v97 (fun (v104:List (Val qg))=>qg7 N (IntKind.i64.wrap (v96+(1:Int))) v4 v104 v6 v97 (fun (v111:List (Val qg))=>qf6 N (IntKind.i64.wrap ((IntKind.i64.wrap (v96+(1:Int)))+(1:Int))) v4 v111 v6 v97 (fun (v118:List (Val qg))=>qfQ N (IntKind.i64.wrap ((IntKind.i64.wrap ((IntKind.i64.wrap (v96+(1:Int)))+(1:Int)))+(1:Int))) v4 v118 v6 v97 (fun (v125:List (Val qg))=>qe2 N (IntKind.i64.wrap ((IntKind.i64.wrap ((IntKind.i64.wrap ((IntKind.i64.wrap (v96+(1:Int)))+(1:Int)))+(1:Int)))+(1:Int))) v4 v125 v6 v97 (fun (v133:Int) (v134:List (Val qa))=>qeN N v133 v4 v125 v6 v134 (fun (v141:List (Val qg))=>qek N (IntKind.i64.wrap (v133+(1:Int))) v4 v141 v6 v134 (fun (v148:List (Val qg))=>qdD N (IntKind.i64.wrap ((IntKind.i64.wrap (v133+(1:Int)))+(1:Int))) v4 v148 v6 v134 (fun (v155:List (Val qg))=>qcp N v6 k0 n (IntKind.i64.wrap ((IntKind.i64.wrap ((IntKind.i64.wrap (v133+(1:Int)))+(1:Int)))+(1:Int))) (IntKind.i64.wrap (v4+(1:Int))) v155 v134) N) N) N) N) N) N) N) N)) N _ _ _ _ _ _ ?_ ?_]
    ·first | rfl | simp (maxSteps:=10000000) -implicitDefEqProofs [ih]
    ·rfl
    ·intro v96 v97;simp (maxSteps:=10000000) -implicitDefEqProofs [qaW,qaw,qbY,qaH,qa9,qaC,qbw,qaB,qa5,qas,qaR,qbb,qa6,qaF,qae,qbK,qam,qr,qab,qa0,qaZ,qbU,qbB,qbF,qbt,qbe,qbh,qaT,qbD,qbM,qaU,qbE,qb2,qbl,qbW,qbz,qbR,qa1,qb0,qaQ,qbn,qbk,qbc,qbL,qbo,qbv,qbJ,qaN,qby,qbr,qbd,qbj,qbu,qbO,qbP,qaV,qbI,qbp,qbx,qbm,qb1,qbC,qaM,qaP,qbZ,qbQ,qbH,qa2,qaY,qaS,qba,qbs,qbG,qa7,qa8,qbT,qbN,qbq,qbS,qaO,qbf,qbV,qa3,qbi,qbg,qa4,g86,hret,h0,ih]
     rewrite [qMr (k9007:=(fun (v104:List (Val qg))=>qg7 N (IntKind.i64.wrap (v96+(1:Int))) v4 v104 v6 v97 (fun (v111:List (Val qg))=>qf6 N (IntKind.i64.wrap ((IntKind.i64.wrap (v96+(1:Int)))+(1:Int))) v4 v111 v6 v97 (fun (v118:List (Val qg))=>qfQ N (IntKind.i64.wrap ((IntKind.i64.wrap ((IntKind.i64.wrap (v96+(1:Int)))+(1:Int)))+(1:Int))) v4 v118 v6 v97 (fun (v125:List (Val qg))=>qe2 N (IntKind.i64.wrap ((IntKind.i64.wrap ((IntKind.i64.wrap ((IntKind.i64.wrap (v96+(1:Int)))+(1:Int)))+(1:Int)))+(1:Int))) v4 v125 v6 v97 (fun (v133:Int) (v134:List (Val qa))=>qeN N v133 v4 v125 v6 v134 (fun (v141:List (Val qg))=>qek N (IntKind.i64.wrap (v133+(1:Int))) v4 v141 v6 v134 (fun (v148:List (Val qg))=>qdD N (IntKind.i64.wrap ((IntKind.i64.wrap (v133+(1:Int)))+(1:Int))) v4 v148 v6 v134 (fun (v155:List (Val qg))=>qcp N v6 k0 n (IntKind.i64.wrap ((IntKind.i64.wrap ((IntKind.i64.wrap (v133+(1:Int)))+(1:Int)))+(1:Int))) (IntKind.i64.wrap (v4+(1:Int))) v155 v134) N) N) N) N) N) N) N)) N _ _ _ _ _ _ ?_ ?_]
     ·first | rfl | simp (maxSteps:=10000000) -implicitDefEqProofs [ih]
     ·rfl
     ·intro v104;simp (maxSteps:=10000000) -implicitDefEqProofs [qaW,qaw,qbY,qaH,qa9,qaC,qbw,qaB,qa5,qas,qaR,qbb,qa6,qaF,qae,qbK,qam,qr,qab,qa0,qaZ,qbU,qbB,qbF,qbt,qbe,qbh,qaT,qbD,qbM,qaU,qbE,qb2,qbl,qbW,qbz,qbR,qa1,qb0,qaQ,qbn,qbk,qbc,qbL,qbo,qbv,qbJ,qaN,qby,qbr,qbd,qbj,qbu,qbO,qbP,qaV,qbI,qbp,qbx,qbm,qb1,qbC,qaM,qaP,qbZ,qbQ,qbH,qa2,qaY,qaS,qba,qbs,qbG,qa7,qa8,qbT,qbN,qbq,qbS,qaO,qbf,qbV,qa3,qbi,qbg,qa4,g86,hret,h0,ih]
      rewrite [qQe (k9009:=(fun (v111:List (Val qg))=>qf6 N (IntKind.i64.wrap ((IntKind.i64.wrap (v96+(1:Int)))+(1:Int))) v4 v111 v6 v97 (fun (v118:List (Val qg))=>qfQ N (IntKind.i64.wrap ((IntKind.i64.wrap ((IntKind.i64.wrap (v96+(1:Int)))+(1:Int)))+(1:Int))) v4 v118 v6 v97 (fun (v125:List (Val qg))=>qe2 N (IntKind.i64.wrap ((IntKind.i64.wrap ((IntKind.i64.wrap ((IntKind.i64.wrap (v96+(1:Int)))+(1:Int)))+(1:Int)))+(1:Int))) v4 v125 v6 v97 (fun (v133:Int) (v134:List (Val qa))=>qeN N v133 v4 v125 v6 v134 (fun (v141:List (Val qg))=>qek N (IntKind.i64.wrap (v133+(1:Int))) v4 v141 v6 v134 (fun (v148:List (Val qg))=>qdD N (IntKind.i64.wrap ((IntKind.i64.wrap (v133+(1:Int)))+(1:Int))) v4 v148 v6 v134 (fun (v155:List (Val qg))=>qcp N v6 k0 n (IntKind.i64.wrap ((IntKind.i64.wrap ((IntKind.i64.wrap (v133+(1:Int)))+(1:Int)))+(1:Int))) (IntKind.i64.wrap (v4+(1:Int))) v155 v134) N) N) N) N) N) N)) N _ _ _ _ _ _ ?_ ?_]
      ·first | rfl | simp (maxSteps:=10000000) -implicitDefEqProofs [ih]
      ·rfl
      ·intro v111;simp (maxSteps:=10000000) -implicitDefEqProofs [qaW,qaw,qbY,qaH,qa9,qaC,qbw,qaB,qa5,qas,qaR,qbb,qa6,qaF,qae,qbK,qam,qr,qab,qa0,qaZ,qbU,qbB,qbF,qbt,qbe,qbh,qaT,qbD,qbM,qaU,qbE,qb2,qbl,qbW,qbz,qbR,qa1,qb0,qaQ,qbn,qbk,qbc,qbL,qbo,qbv,qbJ,qaN,qby,qbr,qbd,qbj,qbu,qbO,qbP,qaV,qbI,qbp,qbx,qbm,qb1,qbC,qaM,qaP,qbZ,qbQ,qbH,qa2,qaY,qaS,qba,qbs,qbG,qa7,qa8,qbT,qbN,qbq,qbS,qaO,qbf,qbV,qa3,qbi,qbg,qa4,g86,hret,h0,ih]
       rewrite [qWz (k9011:=(fun (v118:List (Val qg))=>qfQ N (IntKind.i64.wrap ((IntKind.i64.wrap ((IntKind.i64.wrap (v96+(1:Int)))+(1:Int)))+(1:Int))) v4 v118 v6 v97 (fun (v125:List (Val qg))=>qe2 N (IntKind.i64.wrap ((IntKind.i64.wrap ((IntKind.i64.wrap ((IntKind.i64.wrap (v96+(1:Int)))+(1:Int)))+(1:Int)))+(1:Int))) v4 v125 v6 v97 (fun (v133:Int) (v134:List (Val qa))=>qeN N v133 v4 v125 v6 v134 (fun (v141:List (Val qg))=>qek N (IntKind.i64.wrap (v133+(1:Int))) v4 v141 v6 v134 (fun (v148:List (Val qg))=>qdD N (IntKind.i64.wrap ((IntKind.i64.wrap (v133+(1:Int)))+(1:Int))) v4 v148 v6 v134 (fun (v155:List (Val qg))=>qcp N v6 k0 n (IntKind.i64.wrap ((IntKind.i64.wrap ((IntKind.i64.wrap (v133+(1:Int)))+(1:Int)))+(1:Int))) (IntKind.i64.wrap (v4+(1:Int))) v155 v134) N) N) N) N) N)) N _ _ _ _ _ _ ?_ ?_]
       ·first | rfl | simp (maxSteps:=10000000) -implicitDefEqProofs [ih]
       ·rfl
       ·intro v118;simp (maxSteps:=10000000) -implicitDefEqProofs [qaW,qaw,qbY,qaH,qa9,qaC,qbw,qaB,qa5,qas,qaR,qbb,qa6,qaF,qae,qbK,qam,qr,qab,qa0,qaZ,qbU,qbB,qbF,qbt,qbe,qbh,qaT,qbD,qbM,qaU,qbE,qb2,qbl,qbW,qbz,qbR,qa1,qb0,qaQ,qbn,qbk,qbc,qbL,qbo,qbv,qbJ,qaN,qby,qbr,qbd,qbj,qbu,qbO,qbP,qaV,qbI,qbp,qbx,qbm,qb1,qbC,qaM,qaP,qbZ,qbQ,qbH,qa2,qaY,qaS,qba,qbs,qbG,qa7,qa8,qbT,qbN,qbq,qbS,qaO,qbf,qbV,qa3,qbi,qbg,qa4,g86,hret,h0,ih]
        rewrite [qMQ (k9013:=(fun (v125:List (Val qg))=>qe2 N (IntKind.i64.wrap ((IntKind.i64.wrap ((IntKind.i64.wrap ((IntKind.i64.wrap (v96+(1:Int)))+(1:Int)))+(1:Int)))+(1:Int))) v4 v125 v6 v97 (fun (v133:Int) (v134:List (Val qa))=>qeN N v133 v4 v125 v6 v134 (fun (v141:List (Val qg))=>qek N (IntKind.i64.wrap (v133+(1:Int))) v4 v141 v6 v134 (fun (v148:List (Val qg))=>qdD N (IntKind.i64.wrap ((IntKind.i64.wrap (v133+(1:Int)))+(1:Int))) v4 v148 v6 v134 (fun (v155:List (Val qg))=>qcp N v6 k0 n (IntKind.i64.wrap ((IntKind.i64.wrap ((IntKind.i64.wrap (v133+(1:Int)))+(1:Int)))+(1:Int))) (IntKind.i64.wrap (v4+(1:Int))) v155 v134) N) N) N) N)) N _ _ _ _ _ _ ?_ ?_]
        ·first | rfl | simp (maxSteps:=10000000) -implicitDefEqProofs [ih]
        ·rfl
        ·intro v125;simp (maxSteps:=10000000) -implicitDefEqProofs [qaW,qaw,qbY,qaH,qa9,qaC,qbw,qaB,qa5,qas,qaR,qbb,qa6,qaF,qae,qbK,qam,qr,qab,qa0,qaZ,qbU,qbB,qbF,qbt,qbe,qbh,qaT,qbD,qbM,qaU,qbE,qb2,qbl,qbW,qbz,qbR,qa1,qb0,qaQ,qbn,qbk,qbc,qbL,qbo,qbv,qbJ,qaN,qby,qbr,qbd,qbj,qbu,qbO,qbP,qaV,qbI,qbp,qbx,qbm,qb1,qbC,qaM,qaP,qbZ,qbQ,qbH,qa2,qaY,qaS,qba,qbs,qbG,qa7,qa8,qbT,qbN,qbq,qbS,qaO,qbf,qbV,qa3,qbi,qbg,qa4,g86,hret,h0,ih]
         rewrite [qQA (k9015:=(fun (v133:Int) (v134:List (Val qa))=>qeN N v133 v4 v125 v6 v134 (fun (v141:List (Val qg))=>qek N (IntKind.i64.wrap (v133+(1:Int))) v4 v141 v6 v134 (fun (v148:List (Val qg))=>qdD N (IntKind.i64.wrap ((IntKind.i64.wrap (v133+(1:Int)))+(1:Int))) v4 v148 v6 v134 (fun (v155:List (Val qg))=>qcp N v6 k0 n (IntKind.i64.wrap ((IntKind.i64.wrap ((IntKind.i64.wrap (v133+(1:Int)))+(1:Int)))+(1:Int))) (IntKind.i64.wrap (v4+(1:Int))) v155 v134) N) N) N)) N _ _ _ _ _ _ ?_ ?_]
         ·first | rfl | simp (maxSteps:=10000000) -implicitDefEqProofs [ih]
         ·rfl
         ·intro v133 v134;simp (maxSteps:=10000000) -implicitDefEqProofs [qaW,qaw,qbY,qaH,qa9,qaC,qbw,qaB,qa5,qas,qaR,qbb,qa6,qaF,qae,qbK,qam,qr,qab,qa0,qaZ,qbU,qbB,qbF,qbt,qbe,qbh,qaT,qbD,qbM,qaU,qbE,qb2,qbl,qbW,qbz,qbR,qa1,qb0,qaQ,qbn,qbk,qbc,qbL,qbo,qbv,qbJ,qaN,qby,qbr,qbd,qbj,qbu,qbO,qbP,qaV,qbI,qbp,qbx,qbm,qb1,qbC,qaM,qaP,qbZ,qbQ,qbH,qa2,qaY,qaS,qba,qbs,qbG,qa7,qa8,qbT,qbN,qbq,qbS,qaO,qbf,qbV,qa3,qbi,qbg,qa4,g86,hret,h0,ih]
          rewrite [qLm (k9016:=(fun (v141:List (Val qg))=>qek N (IntKind.i64.wrap (v133+(1:Int))) v4 v141 v6 v134 (fun (v148:List (Val qg))=>qdD N (IntKind.i64.wrap ((IntKind.i64.wrap (v133+(1:Int)))+(1:Int))) v4 v148 v6 v134 (fun (v155:List (Val qg))=>qcp N v6 k0 n (IntKind.i64.wrap ((IntKind.i64.wrap ((IntKind.i64.wrap (v133+(1:Int)))+(1:Int)))+(1:Int))) (IntKind.i64.wrap (v4+(1:Int))) v155 v134) N) N)) N _ _ _ _ _ _ ?_ ?_]
          ·first | rfl | simp (maxSteps:=10000000) -implicitDefEqProofs [ih]
          ·rfl
          ·intro v141;simp (maxSteps:=10000000) -implicitDefEqProofs [qaW,qaw,qbY,qaH,qa9,qaC,qbw,qaB,qa5,qas,qaR,qbb,qa6,qaF,qae,qbK,qam,qr,qab,qa0,qaZ,qbU,qbB,qbF,qbt,qbe,qbh,qaT,qbD,qbM,qaU,qbE,qb2,qbl,qbW,qbz,qbR,qa1,qb0,qaQ,qbn,qbk,qbc,qbL,qbo,qbv,qbJ,qaN,qby,qbr,qbd,qbj,qbu,qbO,qbP,qaV,qbI,qbp,qbx,qbm,qb1,qbC,qaM,qaP,qbZ,qbQ,qbH,qa2,qaY,qaS,qba,qbs,qbG,qa7,qa8,qbT,qbN,qbq,qbS,qaO,qbf,qbV,qa3,qbi,qbg,qa4,g86,hret,h0,ih]
           rewrite [qME (k9018:=(fun (v148:List (Val qg))=>qdD N (IntKind.i64.wrap ((IntKind.i64.wrap (v133+(1:Int)))+(1:Int))) v4 v148 v6 v134 (fun (v155:List (Val qg))=>qcp N v6 k0 n (IntKind.i64.wrap ((IntKind.i64.wrap ((IntKind.i64.wrap (v133+(1:Int)))+(1:Int)))+(1:Int))) (IntKind.i64.wrap (v4+(1:Int))) v155 v134) N)) N _ _ _ _ _ _ ?_ ?_]
           ·first | rfl | simp (maxSteps:=10000000) -implicitDefEqProofs [ih]
           ·rfl
           ·intro v148;simp (maxSteps:=10000000) -implicitDefEqProofs [qaW,qaw,qbY,qaH,qa9,qaC,qbw,qaB,qa5,qas,qaR,qbb,qa6,qaF,qae,qbK,qam,qr,qab,qa0,qaZ,qbU,qbB,qbF,qbt,qbe,qbh,qaT,qbD,qbM,qaU,qbE,qb2,qbl,qbW,qbz,qbR,qa1,qb0,qaQ,qbn,qbk,qbc,qbL,qbo,qbv,qbJ,qaN,qby,qbr,qbd,qbj,qbu,qbO,qbP,qaV,qbI,qbp,qbx,qbm,qb1,qbC,qaM,qaP,qbZ,qbQ,qbH,qa2,qaY,qaS,qba,qbs,qbG,qa7,qa8,qbT,qbN,qbq,qbS,qaO,qbf,qbV,qa3,qbi,qbg,qa4,g86,hret,h0,ih]
            rewrite [qTN (k9020:=(fun (v155:List (Val qg))=>qcp N v6 k0 n (IntKind.i64.wrap ((IntKind.i64.wrap ((IntKind.i64.wrap (v133+(1:Int)))+(1:Int)))+(1:Int))) (IntKind.i64.wrap (v4+(1:Int))) v155 v134)) N _ _ _ _ _ _ ?_ ?_]
            ·first | rfl | simp (maxSteps:=10000000) -implicitDefEqProofs [ih]
            ·rfl
            ·intro v155;simp (maxSteps:=10000000) -implicitDefEqProofs [qaW,qaw,qbY,qaH,qa9,qaC,qbw,qaB,qa5,qas,qaR,qbb,qa6,qaF,qae,qbK,qam,qr,qab,qa0,qaZ,qbU,qbB,qbF,qbt,qbe,qbh,qaT,qbD,qbM,qaU,qbE,qb2,qbl,qbW,qbz,qbR,qa1,qb0,qaQ,qbn,qbk,qbc,qbL,qbo,qbv,qbJ,qaN,qby,qbr,qbd,qbj,qbu,qbO,qbP,qaV,qbI,qbp,qbx,qbm,qb1,qbC,qaM,qaP,qbZ,qbQ,qbH,qa2,qaY,qaS,qba,qbs,qbG,qa7,qa8,qbT,qbN,qbq,qbS,qaO,qbf,qbV,qa3,qbi,qbg,qa4,g86,hret,h0,ih]
theorem qMt (N:Nat) (F:List Nat) (v0:List (Val (hd qa))) (v1:List (Val qa)) (v2:Int):qf tt Γ32 (T32 N) (Try.f32.body.getD .skip) (qet (qei tt 120 qa qg F v0 [.tmp 4])) ⟨[.one (.own 0),.one (.int .i64 v2),.tup [],.tup [],.tup [],.tup [],.tup [],.tup [],.tup [],.tup [],.tup [],.tup [],.tup [],.tup [],.tup [],.tup [],.tup [],.tup [],.tup [],.tup [],.tup [],.tup [],.tup [],.tup [],.tup [],.tup [],.tup [],.tup [],.tup [],.tup [],.tup [],.tup [],.tup [],.tup [],.tup [],.tup [],.tup [],.tup [],.tup [],.tup [],.tup [],.tup [],.tup [],.tup [],.tup [],.tup [],.tup [],.tup [],.tup [],.tup [],.tup [],.tup [],.tup [],.tup [],.tup [],.tup [],.tup [],.tup [],.tup [],.tup [],.tup [],.tup [],.tup [],.tup [],.tup [],.tup [],.tup [],.tup [],.tup [],.tup [],.tup [],.tup [],.tup [],.tup [],.tup [],.tup [],.tup [],.tup [],.tup [],.tup [],.tup [],.tup [],.tup [],.tup [],.tup [],.tup [],.tup [],.tup [],.tup [],.tup []],[.row 120 qg v0 true true 0,.nst F qa v0 v1]⟩=m32 N v0 v1 v2:=by
 unfold Try.f32
 simp (maxSteps:=10000000) -implicitDefEqProofs [qaW,qaw,qbY,qaH,qa9,qaC,qbw,qaB,qa5,qas,qaR,qbb,qa6,qaF,qae,qbK,qam,qr,qab,qa0,qaZ,qbU,qbB,qbF,qbt,qbe,qbh,qaT,qbD,qbM,qaU,qbE,qb2,qbl,qbW,qbz,qbR,qa1,qb0,qaQ,qbn,qbk,qbc,qbL,qbo,qbv,qbJ,qaN,qby,qbr,qbd,qbj,qbu,qbO,qbP,qaV,qbI,qbp,qbx,qbm,qb1,qbC,qaM,qaP,qbZ,qbQ,qbH,qa2,qaY,qaS,qba,qbs,qbG,qa7,qa8,qbT,qbN,qbq,qbS,qaO,qbf,qbV,qa3,qbi,qbg,qa4,g86]
 rewrite [qYr (k0:=(fun (v159:Int) (v160:List (Val qg)) (v161:List (Val qa))=>some (v160,v161,v159))) N _ _ ?_ ?_ ?_]
 ·rewrite [m32];first | rfl | simp (maxSteps:=10000000) -implicitDefEqProofs []
 ·rfl
 ·intro;simp only [qQ,qR,qT,qr]
 ·intro v159 v160 v161;simp (maxSteps:=10000000) -implicitDefEqProofs [qaW,qaw,qbY,qaH,qa9,qaC,qbw,qaB,qa5,qas,qaR,qbb,qa6,qaF,qae,qbK,qam,qr,qab,qa0,qaZ,qbU,qbB,qbF,qbt,qbe,qbh,qaT,qbD,qbM,qaU,qbE,qb2,qbl,qbW,qbz,qbR,qa1,qb0,qaQ,qbn,qbk,qbc,qbL,qbo,qbv,qbJ,qaN,qby,qbr,qbd,qbj,qbu,qbO,qbP,qaV,qbI,qbp,qbx,qbm,qb1,qbC,qaM,qaP,qbZ,qbQ,qbH,qa2,qaY,qaS,qba,qbs,qbG,qa7,qa8,qbT,qbN,qbq,qbS,qaO,qbf,qbV,qa3,qbi,qbg,qa4,g86]
theorem qeY {α:Type} {s:List α} {i:Nat} {a d:α} (h:i<s.length):(s.set i a).getD i d=a:=by simp [List.getD,h]
theorem e32 (hs:List (Val (hd qa))) (xs:List (Val qa)) (k:Int) (h:qi9 xs k) (hl:xs.length=hs.length) (hmx:qG qa xs hs=hs):
 ∃N vs,vs.map (qag qa)=(qc2 xs k).map (qag qa)∧m32 N hs xs k=some (qG qa (qc2 xs k) hs,vs,qfs xs k):=by
 refine ⟨xs.length+1,?_⟩
 rw [m32]
 refine qoU (t:=qa) (F:=fun n i k ys vs=>qcp _ hs _ n k i ys vs) (kf:=fun k ys vs=>some (ys,vs,k)) xs hl hmx (by rw [←hl];exact h.1.1) (fun n i k fs vs hi hh hv hk l1 l2 hsl ⟨hx,hfx⟩=> ?_) (fun n i k ys vs hl hi=> ?_) _ k h.2 (Nat.lt_succ_self _)
 ·have hy:(qG qa fs hs).length=hs.length:=qhS l1
  have e1:vs[i].2.1.1=fs[i].2.1.1:=(Prod.mk.inj (Prod.mk.inj (Prod.mk.inj hsl).2).1).1
  have e2:vs[i].2.2.2.2.1=fs[i].2.2.2.2.1:=(Prod.mk.inj (Prod.mk.inj (Prod.mk.inj (Prod.mk.inj (Prod.mk.inj hsl).2).2).2).2).1
  have bx:=h.1.2 _ (List.getElem_mem hx)
  rw [←hfx]at bx
  have b1: ∀j,j≤9223372036854775807→qf4 vs[i].2.1.1 j:=fun j hj=>⟨by rw [e1];exact bx.2.1.1,hj⟩
  have b2: ∀j,j≤9223372036854775807→qf4 vs[i].2.2.2.2.1 j:=fun j hj=>⟨by rw [e2];exact bx.2.2.2.2.1,hj⟩
  generalize hk1:IntKind.i64.wrap (k+1)=k1
  have k1le:k1≤9223372036854775807:=by rw [←hk1];exact qfx _
  generalize hkA:qeo vs[i].2.1.1 k1=kA
  generalize hk5:IntKind.i64.wrap (IntKind.i64.wrap (IntKind.i64.wrap (IntKind.i64.wrap (kA+1)+1)+1)+1)=k5
  have k5le:k5≤9223372036854775807:=by rw [←hk5];exact qfx _
  refine ⟨(vs[i].1,((qeu vs[i].2.1.1 k1,vs[i].2.1.2),(vs[i].2.2.1,(vs[i].2.2.2.1,(qeu vs[i].2.2.2.2.1 k5,vs[i].2.2.2.2.2))))),?_,?_⟩
  ·show ((0,((qeu vs[i].2.1.1 k1,(0,false)),(ByteArray.empty,(ByteArray.empty,(qeu vs[i].2.2.2.2.1 k5,(0,(0,0))))))):Val qa)=qag qa (mkE qa fs[i] k).1
   rw [←hk5,←hkA,←hk1,e1,e2];rfl
  ·have gmx: ∀d,(qG qa fs hs).getD i d=qay qa fs[i] hs[i]:=fun d=>by have:=qq4 hi hh l1 d;rwa [Int.toNat_natCast]at this
   have hs1: ∀(s:List (Val qg)) (a:Val qg),s.length=hs.length→(0:Int)≤(i:Int)∧(i:Int)<((s.set i a).length:Int):=fun s a hs=>by rw [List.length_set];omega
   have hs2: ∀(s:List (Val qg)) (a:Val qg),s.length=hs.length→i<(s.set i a).length:=fun s a hs=>by rw [List.length_set];omega
   rw [qcp,qj (by omega),qpB,qd (by omega),qd (by omega),Int.toNat_natCast,gmx]
   rw [qkl,qd (hs1 _ _ hy),Int.toNat_natCast,qd (hs2 _ _ hy),qgM hv,qgM hh,qeY (by omega),hk1,qd ⟨by omega,by omega,rfl,b1 k1 k1le⟩,hkA]
   try dsimp only
   rw [qi8,qd (hs1 _ _ hy),Int.toNat_natCast,qd (hs2 _ _ hy),List.set_set,qeY (by omega)]
   try dsimp only
   rw [qg7,qd (by decide),qd (hs1 _ _ hy),Int.toNat_natCast,qd (hs2 _ _ hy),List.set_set,qeY (by omega)]
   try dsimp only
   rw [qf6,qd (show qcF _ from qfx _),qd (hs1 _ _ hy),Int.toNat_natCast,qd (hs2 _ _ hy),List.set_set,qeY (by omega)]
   try dsimp only
   rw [qfQ,qd (show qcF _ from qfx _),qd (hs1 _ _ hy),Int.toNat_natCast,qd (hs2 _ _ hy),List.set_set,qeY (by omega)]
   try dsimp only
   rw [qe2,qd (hs1 _ _ hy),Int.toNat_natCast,qd (hs2 _ _ hy),qgM hh,qeY (by omega),qeY (by omega),hk5,qd ⟨by rw [List.length_set];omega,by omega,rfl,b2 k5 k5le⟩]
   try dsimp only
   rw [qeN,qd (hs1 _ _ hy),Int.toNat_natCast,qd (hs2 _ _ hy),List.set_set,qeY (by omega)]
   try dsimp only
   rw [qek,qd (hs1 _ _ hy),Int.toNat_natCast,qd (hs2 _ _ hy),List.set_set,qeY (by omega)]
   try dsimp only
   rw [qdD,qd (hs1 _ _ hy),Int.toNat_natCast,qd (hs2 _ _ hy),List.set_set,qeY (by omega),List.set_set]
   try dsimp only
   rw [←qr6 hh l1,←hk5,←hkA,←hk1,e1,e2]
   rfl
 ·rw [qcp,qh (by omega)]
theorem qQz:SoundMs Try.prog 32 qE6:=qsp (tt:=tt) (Γ:=Γ32) hT (ql s86 qp) hm (fn:=Try.f32) Try.func32 (c:=Try.f32.body.getD .skip) (by kernel_rfl) (by kernel_rfl) fun xs hs n F hx hl hmx=>by
 obtain ⟨N,vs,h1,h2⟩:=e32 hs xs n hx hl hmx
 exact ⟨T32 N,vs,rfl,p32,⟨qjA qjB (qkE qFm (qkE qFm qi1)),qPf N⟩,h1,(qMt N F hs xs n).trans h2⟩
end Go.T
