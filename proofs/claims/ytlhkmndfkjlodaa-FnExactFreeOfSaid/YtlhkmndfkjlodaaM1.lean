/- Marks of databases and formulas. -/
import Derived.Test.YtlhkmndfkjlodaaA10
import Derived.Test.YtlhkmndfkjlodaaH4
set_option linter.unusedSimpArgs false
set_option linter.unusedVariables false
namespace Go.T
open Go Go.Proofs
set_option maxHeartbeats 4000000
set_option maxRecDepth 100000
def qup (x:List (Val qf)) (k:Int):List (Val qf):=(mkT (.slice 123 qf) x k).1
def qgj (x:List (Val qf)) (k:Int):Int:=(mkT (.slice 123 qf) x k).2
def qr2 (x:List (Val qf)) (k:Int):Prop:=Bd (.slice 123 qf) x∧k≤9223372036854775807
def qtJ:Gms:=⟨123,qf,qr2,qup,qgj⟩
noncomputable def qid (N:Nat) (v6:List (Val (hd qf))) (k0:Int→(List (Val qW))→(List (Val qf))→Option (List (Val qW)×List (Val qf)×Int)):Nat→Int→Int→(List (Val qW))→(List (Val qf))→Option (List (Val qW)×List (Val qf)×Int)
 | 0,_,_,_,_=>none
 | n+1,v3,v4,v5,v7=>bif (decide (v4<(v5.length:Int)))then (chk (qe6 v3) (chk (0≤v4∧v4<(v5.length:Int)) (chk (v4.toNat<v5.length) (chk (0≤v4∧v4<((v5.set v4.toNat (((q7 v3):ByteArray),(v5.getD v4.toNat (qa qW)).2)).length:Int)) (chk (v4.toNat<(v5.set v4.toNat (((q7 v3):ByteArray),(v5.getD v4.toNat (qa qW)).2)).length) (chk (0≤v4∧v4<(((v5.set v4.toNat (((q7 v3):ByteArray),(v5.getD v4.toNat (qa qW)).2)).set v4.toNat ((((v5.set v4.toNat (((q7 v3):ByteArray),(v5.getD v4.toNat (qa qW)).2)).getD v4.toNat (qa qW)).1:ByteArray),((IntKind.i64.wrap (v3+(1:Int))),((((v5.set v4.toNat (((q7 v3):ByteArray),(v5.getD v4.toNat (qa qW)).2)).getD v4.toNat (qa qW)).2).2:Value)))).length:Int)) (chk (v4.toNat<((v5.set v4.toNat (((q7 v3):ByteArray),(v5.getD v4.toNat (qa qW)).2)).set v4.toNat ((((v5.set v4.toNat (((q7 v3):ByteArray),(v5.getD v4.toNat (qa qW)).2)).getD v4.toNat (qa qW)).1:ByteArray),((IntKind.i64.wrap (v3+(1:Int))),((((v5.set v4.toNat (((q7 v3):ByteArray),(v5.getD v4.toNat (qa qW)).2)).getD v4.toNat (qa qW)).2).2:Value)))).length) (chk (v4.toNat<v7.length∧v4.toNat<v6.length∧(((v6.getD v4.toNat (qa (hd qf)):Val qW).2).2:Value)=(((((v5.set v4.toNat (((q7 v3):ByteArray),(v5.getD v4.toNat (qa qW)).2)).set v4.toNat ((((v5.set v4.toNat (((q7 v3):ByteArray),(v5.getD v4.toNat (qa qW)).2)).getD v4.toNat (qa qW)).1:ByteArray),((IntKind.i64.wrap (v3+(1:Int))),((((v5.set v4.toNat (((q7 v3):ByteArray),(v5.getD v4.toNat (qa qW)).2)).getD v4.toNat (qa qW)).2).2:Value)))).getD v4.toNat (qa qW)).2).2:Value)∧qp7 (((v7.getD v4.toNat (qa qf)).2).2:List (Val qi)) (IntKind.i64.wrap ((IntKind.i64.wrap (v3+(1:Int)))+(1:Int)))) (qid N v6 k0 n (quQ (((v7.getD v4.toNat (qa qf)).2).2:List (Val qi)) (IntKind.i64.wrap ((IntKind.i64.wrap (v3+(1:Int)))+(1:Int)))) (IntKind.i64.wrap (v4+(1:Int))) ((v5.set v4.toNat (((q7 v3):ByteArray),(v5.getD v4.toNat (qa qW)).2)).set v4.toNat ((((v5.set v4.toNat (((q7 v3):ByteArray),(v5.getD v4.toNat (qa qW)).2)).getD v4.toNat (qa qW)).1:ByteArray),((IntKind.i64.wrap (v3+(1:Int))),((((v5.set v4.toNat (((q7 v3):ByteArray),(v5.getD v4.toNat (qa qW)).2)).getD v4.toNat (qa qW)).2).2:Value)))) (v7.set v4.toNat (((v7.getD v4.toNat (qa qf)).1:ByteArray),((((v7.getD v4.toNat (qa qf)).2).1:Int),(qiJ (((v7.getD v4.toNat (qa qf)).2).2:List (Val qi)) (IntKind.i64.wrap ((IntKind.i64.wrap (v3+(1:Int)))+(1:Int))))))))))))))))else (k0 v3 v5 v7)
noncomputable def m31 (N:Nat) (v0:List (Val (hd qf))) (v1:List (Val qf)) (v2:Int):Option (List (Val qW)×List (Val qf)×Int):=qid N v0 (fun (v11:Int) (v12:List (Val qW)) (v13:List (Val qf))=>some (v12,v13,v11)) N v2 (0:Int) v0 v1
def Γ31:Gam:=[(86,g86)]
theorem qDS:Gam.get Γ31 86=some g86:=rfl
theorem qBC:Gam.get Γ31 87=none:=rfl
def qmf:Nm:=⟨[true,true,false,false,false,true],[],false⟩
theorem qu2:qmf.zero=false:=rfl
theorem qDe:qmf.fix=[]:=rfl
theorem qyI:qmf.keep=[true,true,false,false,false,true]:=rfl
def qsX:Nm:=⟨[false,true],[],false⟩
theorem qCJ:qsX.zero=false:=rfl
theorem qtC:qsX.fix=[]:=rfl
theorem qyl:qsX.keep=[false,true]:=rfl
def qkM:Sem:=qgs [] [(33,87,qoR,2,28)]
def qjx:Nat→Tree:=fun _=> .done
def qkW:Nat→Nm:=fun i=>if i=2 then qmf else ⟨[],[],false⟩
def qmd:Nat→Option Jn:=fun _=>none
def qlE:Nat→Option Nm:=fun i=>if i=0 then some qsX else none
def qmc:Nat→Option Nm:=fun _=>none
theorem p31:qn qjx (Try.f31.body.getD .skip)=true:=by kernel_rfl
def T31 (N:Nat):Tab:={tr:=qjx,lp:=qkW,ex:=qlE,rg:=qmc,jn:=qmd,fuel:=N,pins:=true,sem:=qkM}
theorem qAN (N:Nat):(T31 N).pins=true:=rfl
theorem qPy (N:Nat):qp Try.prog (T31 N):=qw fun _=>rfl
theorem qAx (N:Nat):(T31 N).sem=qkM:=rfl
theorem qv9 (N:Nat) (i:Nat):(T31 N).tr i=qjx i:=rfl
theorem qDI (N:Nat) (i:Nat):(T31 N).lp i=qkW i:=rfl
theorem qzJ (N:Nat) (i:Nat):(T31 N).ex i=qlE i:=rfl
theorem qxu (N:Nat) (i:Nat):(T31 N).rg i=qmc i:=rfl
theorem qCr (N:Nat) (i:Nat):(T31 N).jn i=qmd i:=rfl
theorem qy4 (N:Nat):(T31 N).fuel=N:=rfl
noncomputable def qIQ:Code:=cut [true,false,true,true,true] (Try.f31.body.getD .skip)
theorem qPe {N:Nat} {Q:X→St→Option (List (Val qW)×List (Val qf)×Int)} {e:List LV} {h:List Blk}:qe tt Γ31 (T31 N) qIQ Q ⟨e,h⟩=qe tt Γ31 (T31 N) (cut [true,false,true,true,true] (Try.f31.body.getD .skip)) Q ⟨e,h⟩:=rfl
theorem qN9 (N:Nat) (F:List Nat) (v6:List (Val (hd qf))) {k0:Int→(List (Val qW))→(List (Val qf))→Option (List (Val qW)×List (Val qf)×Int)} {Q:X→St→Option (List (Val qW)×List (Val qf)×Int)} {c:Code} (hc:c=qIQ) (hret: ∀st,Q .ret st=qeO tt 123 qf qW F v6 [.tmp 4] st) (h0: ∀(v8:Int) (v9:List (Val qW)) (v10:List (Val qf)),Q (.exit 0) ⟨[u,.one (.int .i64 v8),u,u,u,u,u,u,u,u,u,u,u,u,u,u,u,u,u,u,u,u,u,u,u,u,u,u,u,u,u,u,u,u,u],[.row 123 qW v9 true true 0,.nst F qf v6 v10]⟩=k0 v8 v9 v10): ∀(n:Nat) (v3:Int) (v4:Int) (v5:List (Val qW)) (v7:List (Val qf)),qC (qe tt Γ31 (T31 N) c) true qmf Q n ⟨[.one (.own 0),.one (.int .i64 v3),u,u,u,.one (.int .i64 v4),u,u,u,u,u,u,u,u,u,u,u,u,u,u,u,u,u,u,u,u,u,u,u,u,u,u,u,u,u],[.row 123 qW v5 true true 0,.nst F qf v6 v7]⟩=qid N v6 k0 n v3 v4 v5 v7:=by
 subst hc;intro n;induction n with
 | zero=>intros;rfl
 | succ n ih=>
   intro v3 v4 v5 v7
   rw [qM,qPe,qid];unfold Try.f31
   simp (maxSteps:=10000000) -implicitDefEqProofs [qv9,qjx,qDI,qkW,qzJ,qlE,qxu,qmc,qCr,qmd,qy4,qAN,qAx,qkM,qR,qBC,qoR,qm,q5,qDe,qyI,qu2,qtC,qyl,qCJ,qDS,g86,hret,h0,ih]
theorem qLc (N:Nat) (F:List Nat) (v0:List (Val (hd qf))) (v1:List (Val qf)) (v2:Int):qe tt Γ31 (T31 N) (Try.f31.body.getD .skip) (qeV (qeO tt 123 qf qW F v0 [.tmp 4])) ⟨[.one (.own 0),.one (.int .i64 v2),.tup [],.tup [],.tup [],.tup [],.tup [],.tup [],.tup [],.tup [],.tup [],.tup [],.tup [],.tup [],.tup [],.tup [],.tup [],.tup [],.tup [],.tup [],.tup [],.tup [],.tup [],.tup [],.tup [],.tup [],.tup [],.tup [],.tup [],.tup [],.tup [],.tup [],.tup [],.tup [],.tup []],[.row 123 qW v0 true true 0,.nst F qf v0 v1]⟩=m31 N v0 v1 v2:=by
 unfold Try.f31
 simp (maxSteps:=10000000) -implicitDefEqProofs [qv9,qjx,qDI,qkW,qzJ,qlE,qxu,qmc,qCr,qmd,qy4,qAN,qAx,qkM,qR,qBC,qoR,qm,q5,qDe,qyI,qu2,qtC,qyl,qCJ,qDS,g86]
 rewrite [qN9 (k0:=(fun (v11:Int) (v12:List (Val qW)) (v13:List (Val qf))=>some (v12,v13,v11))) N _ _ ?_ ?_ ?_]
 ·rewrite [m31];first | rfl | simp (maxSteps:=10000000) -implicitDefEqProofs []
 ·rfl
 ·intro;simp only [qK,qL,qN,qm]
 ·intro v11 v12 v13;simp (maxSteps:=10000000) -implicitDefEqProofs [qv9,qjx,qDI,qkW,qzJ,qlE,qxu,qmc,qCr,qmd,qy4,qAN,qAx,qkM,qR,qBC,qoR,qm,q5,qDe,qyI,qu2,qtC,qyl,qCJ,qDS,g86]
theorem e31 (hs:List (Val (hd qf))) (xs:List (Val qf)) (k:Int) (h:qr2 xs k) (hl:xs.length=hs.length) (hmx:qG qf xs hs=hs):
 ∃N vs,vs.map (q8 qf)=(qup xs k).map (q8 qf)∧m31 N hs xs k=some (qG qf (qup xs k) hs,vs,qgj xs k):=by
 refine ⟨xs.length+1,?_⟩
 rw [m31]
 refine qpq (t:=qf) (F:=fun n i k ys vs=>qid _ hs _ n k i ys vs) (kf:=fun k ys vs=>some (ys,vs,k)) xs hl hmx (by rw [←hl];exact h.1.1) (fun n i k fs vs hi hh hv hk l1 l2 hsl ⟨hx,hfx⟩=> ?_) (fun n i k ys vs hl hi=> ?_) _ k h.2 (Nat.lt_succ_self _)
 ·have hy:(qG qf fs hs).length=hs.length:=qiH l1
  have e1:vs[i].2.2=fs[i].2.2:=(Prod.mk.inj (Prod.mk.inj hsl).2).2
  refine ⟨(vs[i].1,(vs[i].2.1,qiJ vs[i].2.2 (IntKind.i64.wrap (IntKind.i64.wrap (k+1)+1)))),?_,?_⟩
  ·show ((ByteArray.empty,(0,qiJ vs[i].2.2 _)):Val qf)=(ByteArray.empty,(0,qiJ fs[i].2.2 _))
   rw [e1];rfl
  ·have hb:qp7 vs[i].2.2 (IntKind.i64.wrap (IntKind.i64.wrap (k+1)+1)):=⟨by rw [e1,hfx];exact (h.1.2 _ (List.getElem_mem hx)).2.2,qf4 _⟩
   rw [qid,qj (by omega),qd (show qe6 k from hk),qru hi hh l1,qA hv,qA hh,qpd (by omega),List.set_set,qpd (by omega)]
   repeat rw [List.length_set]
   rw [qd (by omega),qd (by omega),qd (by omega),qd (by omega),qd (by omega),qd (by omega),qd ⟨by omega,by omega,rfl,hb⟩,Int.toNat_natCast]
   rw [←qsq hh l1]
   simp only [e1]
   rfl
 ·rw [qid,qh (by omega)]
theorem qMT:SoundMs Try.prog 31 qtJ:=qsJ (tt:=tt) (Γ:=Γ31) hT (ql s86 qt) hm (fn:=Try.f31) Try.func31 (c:=Try.f31.body.getD .skip) (by kernel_rfl) (by kernel_rfl) fun xs hs n F hx hl hmx=>by
 obtain ⟨N,vs,h1,h2⟩:=e31 hs xs n hx hl hmx
 exact ⟨T31 N,vs,rfl,p31,⟨qkg qkh (qli qNR qjK),qPy N⟩,h1,(qLc N F hs xs n).trans h2⟩
def qtd (x:List (Val qb)) (k:Int):List (Val qb):=(mkT (.slice 120 qb) x k).1
def qk6 (x:List (Val qb)) (k:Int):Int:=(mkT (.slice 120 qb) x k).2
def qrF (x:List (Val qb)) (k:Int):Prop:=Bd (.slice 120 qb) x∧k≤9223372036854775807
def qDU:Gms:=⟨120,qb,qrF,qtd,qk6⟩
noncomputable def qq2 (N:Nat) (v82:Int) (v83:Int) (v84:List (Val qg)) (v85:List (Val (hd qb))) (v86:List (Val qb)) (k9004:(List (Val qg))→Option (List (Val qg)×List (Val qb)×Int)) (_:Nat):Option (List (Val qg)×List (Val qb)×Int):=chk (0≤v83∧v83<(v84.length:Int)) (chk (v83.toNat<v84.length) (k9004 (v84.set v83.toNat (v82,(v84.getD v83.toNat (qa qg)).2))))
noncomputable def qkU (N:Nat) (v89:Int) (v90:Int) (v91:List (Val qg)) (v92:List (Val (hd qb))) (v93:List (Val qb)) (k9006:Int→(List (Val qb))→Option (List (Val qg)×List (Val qb)×Int)) (_:Nat):Option (List (Val qg)×List (Val qb)×Int):=chk (0≤v90∧v90<(v91.length:Int)) (chk (v90.toNat<v91.length) (chk (v90.toNat<v93.length∧v90.toNat<v92.length∧((((v92.getD v90.toNat (qa (hd qb)):Val qg).2).1).1:Value)=((((v91.getD v90.toNat (qa qg)).2).1).1:Value)∧qfp ((((v93.getD v90.toNat (qa qb)).2).1).1:List (Val (.int .i64))) v89) (k9006 (qck ((((v93.getD v90.toNat (qa qb)).2).1).1:List (Val (.int .i64))) v89) (v93.set v90.toNat (((v93.getD v90.toNat (qa qb)).1:Int),(((qbY ((((v93.getD v90.toNat (qa qb)).2).1).1:List (Val (.int .i64))) v89),(((v93.getD v90.toNat (qa qb)).2).1).2),((v93.getD v90.toNat (qa qb)).2).2))))))
noncomputable def qjQ (N:Nat) (v98:Int) (v99:Int) (v100:List (Val qg)) (v101:List (Val (hd qb))) (v102:List (Val qb)) (k9007:(List (Val qg))→Option (List (Val qg)×List (Val qb)×Int)) (_:Nat):Option (List (Val qg)×List (Val qb)×Int):=chk (0≤v99∧v99<(v100.length:Int)) (chk (v99.toNat<v100.length) (k9007 (v100.set v99.toNat (((v100.getD v99.toNat (qa qg)).1:Int),((((((v100.getD v99.toNat (qa qg)).2).1).1:Value),(v98,(((((v100.getD v99.toNat (qa qg)).2).1).2).2:Bool))),((v100.getD v99.toNat (qa qg)).2).2)))))
noncomputable def qhG (N:Nat) (v105:Int) (v106:Int) (v107:List (Val qg)) (v108:List (Val (hd qb))) (v109:List (Val qb)) (k9009:(List (Val qg))→Option (List (Val qg)×List (Val qb)×Int)) (_:Nat):Option (List (Val qg)×List (Val qb)×Int):=chk ((3:Int)≠0) (chk (0≤v106∧v106<(v107.length:Int)) (chk (v106.toNat<v107.length) (k9009 (v107.set v106.toNat (((v107.getD v106.toNat (qa qg)).1:Int),((((((v107.getD v106.toNat (qa qg)).2).1).1:Value),((((((v107.getD v106.toNat (qa qg)).2).1).2).1:Int),(decide ((v105.tmod (3:Int))=(0:Int))))),((v107.getD v106.toNat (qa qg)).2).2))))))
noncomputable def qgE (N:Nat) (v112:Int) (v113:Int) (v114:List (Val qg)) (v115:List (Val (hd qb))) (v116:List (Val qb)) (k9011:(List (Val qg))→Option (List (Val qg)×List (Val qb)×Int)) (_:Nat):Option (List (Val qg)×List (Val qb)×Int):=chk (qe6 v112) (chk (0≤v113∧v113<(v114.length:Int)) (chk (v113.toNat<v114.length) (k9011 (v114.set v113.toNat (((v114.getD v113.toNat (qa qg)).1:Int),((((v114.getD v113.toNat (qa qg)).2).1),(((q7 v112):ByteArray),(((v114.getD v113.toNat (qa qg)).2).2).2)))))))
noncomputable def qgl (N:Nat) (v119:Int) (v120:Int) (v121:List (Val qg)) (v122:List (Val (hd qb))) (v123:List (Val qb)) (k9013:(List (Val qg))→Option (List (Val qg)×List (Val qb)×Int)) (_:Nat):Option (List (Val qg)×List (Val qb)×Int):=chk (qe6 v119) (chk (0≤v120∧v120<(v121.length:Int)) (chk (v120.toNat<v121.length) (k9013 (v121.set v120.toNat (((v121.getD v120.toNat (qa qg)).1:Int),((((v121.getD v120.toNat (qa qg)).2).1),(((((v121.getD v120.toNat (qa qg)).2).2).1:ByteArray),(((q7 v119):ByteArray),((((v121.getD v120.toNat (qa qg)).2).2).2).2))))))))
noncomputable def qfE (N:Nat) (v126:Int) (v127:Int) (v128:List (Val qg)) (v129:List (Val (hd qb))) (v130:List (Val qb)) (k9015:Int→(List (Val qb))→Option (List (Val qg)×List (Val qb)×Int)) (_:Nat):Option (List (Val qg)×List (Val qb)×Int):=chk (0≤v127∧v127<(v128.length:Int)) (chk (v127.toNat<v128.length) (chk (v127.toNat<v130.length∧v127.toNat<v129.length∧((((((v129.getD v127.toNat (qa (hd qb)):Val qg).2).2).2).2).1:Value)=((((((v128.getD v127.toNat (qa qg)).2).2).2).2).1:Value)∧qfp ((((((v130.getD v127.toNat (qa qb)).2).2).2).2).1:List (Val (.int .i64))) v126) (k9015 (qck ((((((v130.getD v127.toNat (qa qb)).2).2).2).2).1:List (Val (.int .i64))) v126) (v130.set v127.toNat (((v130.getD v127.toNat (qa qb)).1:Int),((((v130.getD v127.toNat (qa qb)).2).1),(((((v130.getD v127.toNat (qa qb)).2).2).1:ByteArray),((((((v130.getD v127.toNat (qa qb)).2).2).2).1:ByteArray),((qbY ((((((v130.getD v127.toNat (qa qb)).2).2).2).2).1:List (Val (.int .i64))) v126),(((((v130.getD v127.toNat (qa qb)).2).2).2).2).2)))))))))
noncomputable def qfg (N:Nat) (v135:Int) (v136:Int) (v137:List (Val qg)) (v138:List (Val (hd qb))) (v139:List (Val qb)) (k9016:(List (Val qg))→Option (List (Val qg)×List (Val qb)×Int)) (_:Nat):Option (List (Val qg)×List (Val qb)×Int):=chk (0≤v136∧v136<(v137.length:Int)) (chk (v136.toNat<v137.length) (k9016 (v137.set v136.toNat (((v137.getD v136.toNat (qa qg)).1:Int),((((v137.getD v136.toNat (qa qg)).2).1),(((((v137.getD v136.toNat (qa qg)).2).2).1:ByteArray),((((((v137.getD v136.toNat (qa qg)).2).2).2).1:ByteArray),(((((((v137.getD v136.toNat (qa qg)).2).2).2).2).1:Value),(v135,((((((v137.getD v136.toNat (qa qg)).2).2).2).2).2).2)))))))))
noncomputable def qeQ (N:Nat) (v142:Int) (v143:Int) (v144:List (Val qg)) (v145:List (Val (hd qb))) (v146:List (Val qb)) (k9018:(List (Val qg))→Option (List (Val qg)×List (Val qb)×Int)) (_:Nat):Option (List (Val qg)×List (Val qb)×Int):=chk (0≤v143∧v143<(v144.length:Int)) (chk (v143.toNat<v144.length) (k9018 (v144.set v143.toNat (((v144.getD v143.toNat (qa qg)).1:Int),((((v144.getD v143.toNat (qa qg)).2).1),(((((v144.getD v143.toNat (qa qg)).2).2).1:ByteArray),((((((v144.getD v143.toNat (qa qg)).2).2).2).1:ByteArray),(((((((v144.getD v143.toNat (qa qg)).2).2).2).2).1:Value),((((((((v144.getD v143.toNat (qa qg)).2).2).2).2).2).1:Int),(v142,((((((((v144.getD v143.toNat (qa qg)).2).2).2).2).2).2).2:Int)))))))))))
noncomputable def qdO (N:Nat) (v149:Int) (v150:Int) (v151:List (Val qg)) (v152:List (Val (hd qb))) (v153:List (Val qb)) (k9020:(List (Val qg))→Option (List (Val qg)×List (Val qb)×Int)) (_:Nat):Option (List (Val qg)×List (Val qb)×Int):=chk (0≤v150∧v150<(v151.length:Int)) (chk (v150.toNat<v151.length) (k9020 (v151.set v150.toNat (((v151.getD v150.toNat (qa qg)).1:Int),((((v151.getD v150.toNat (qa qg)).2).1),(((((v151.getD v150.toNat (qa qg)).2).2).1:ByteArray),((((((v151.getD v150.toNat (qa qg)).2).2).2).1:ByteArray),(((((((v151.getD v150.toNat (qa qg)).2).2).2).2).1:Value),((((((((v151.getD v150.toNat (qa qg)).2).2).2).2).2).1:Int),(((((((((v151.getD v150.toNat (qa qg)).2).2).2).2).2).2).1:Int),v149))))))))))
noncomputable def qce (N:Nat) (v6:List (Val (hd qb))) (k0:Int→(List (Val qg))→(List (Val qb))→Option (List (Val qg)×List (Val qb)×Int)):Nat→Int→Int→(List (Val qg))→(List (Val qb))→Option (List (Val qg)×List (Val qb)×Int)
 | 0,_,_,_,_=>none
 | n+1,v3,v4,v5,v7=>bif (decide (v4<(v5.length:Int)))then (qq2 N v3 v4 v5 v6 v7 (fun (v88:List (Val qg))=>qkU N (IntKind.i64.wrap (v3+(1:Int))) v4 v88 v6 v7 (fun (v96:Int) (v97:List (Val qb))=>qjQ N v96 v4 v88 v6 v97 (fun (v104:List (Val qg))=>qhG N (IntKind.i64.wrap (v96+(1:Int))) v4 v104 v6 v97 (fun (v111:List (Val qg))=>qgE N (IntKind.i64.wrap ((IntKind.i64.wrap (v96+(1:Int)))+(1:Int))) v4 v111 v6 v97 (fun (v118:List (Val qg))=>qgl N (IntKind.i64.wrap ((IntKind.i64.wrap ((IntKind.i64.wrap (v96+(1:Int)))+(1:Int)))+(1:Int))) v4 v118 v6 v97 (fun (v125:List (Val qg))=>qfE N (IntKind.i64.wrap ((IntKind.i64.wrap ((IntKind.i64.wrap ((IntKind.i64.wrap (v96+(1:Int)))+(1:Int)))+(1:Int)))+(1:Int))) v4 v125 v6 v97 (fun (v133:Int) (v134:List (Val qb))=>qfg N v133 v4 v125 v6 v134 (fun (v141:List (Val qg))=>qeQ N (IntKind.i64.wrap (v133+(1:Int))) v4 v141 v6 v134 (fun (v148:List (Val qg))=>qdO N (IntKind.i64.wrap ((IntKind.i64.wrap (v133+(1:Int)))+(1:Int))) v4 v148 v6 v134 (fun (v155:List (Val qg))=>qce N v6 k0 n (IntKind.i64.wrap ((IntKind.i64.wrap ((IntKind.i64.wrap (v133+(1:Int)))+(1:Int)))+(1:Int))) (IntKind.i64.wrap (v4+(1:Int))) v155 v134) N) N) N) N) N) N) N) N) N) N)else (k0 v3 v5 v7)
noncomputable def m32 (N:Nat) (v0:List (Val (hd qb))) (v1:List (Val qb)) (v2:Int):Option (List (Val qg)×List (Val qb)×Int):=qce N v0 (fun (v159:Int) (v160:List (Val qg)) (v161:List (Val qb))=>some (v160,v161,v159)) N v2 (0:Int) v0 v1
def Γ32:Gam:=[(86,g86)]
theorem qaY:Gam.get Γ32 86=some g86:=rfl
theorem qbE:Gam.get Γ32 33=none:=rfl
def qpO:Nm:=⟨[true,true,false,false,false,true],[],false⟩
theorem qbO:qpO.zero=false:=rfl
theorem qaU:qpO.fix=[]:=rfl
theorem qaT:qpO.keep=[true,true,false,false,false,true]:=rfl
def qpK:Nm:=⟨[true,true,false,false,false,true],[],false⟩
theorem qbn:qpK.zero=false:=rfl
theorem qbv:qpK.fix=[]:=rfl
theorem qbz:qpK.keep=[true,true,false,false,false,true]:=rfl
def qrT:Nm:=⟨[true,true,false,false,false,true],[],false⟩
theorem qaO:qrT.zero=false:=rfl
theorem qa8:qrT.fix=[]:=rfl
theorem qbb:qrT.keep=[true,true,false,false,false,true]:=rfl
def qsC:Nm:=⟨[true,true,false,false,false,true],[],false⟩
theorem qaP:qsC.zero=false:=rfl
theorem qbx:qsC.fix=[]:=rfl
theorem qbG:qsC.keep=[true,true,false,false,false,true]:=rfl
def qrz:Nm:=⟨[true,true,false,false,false,true],[],false⟩
theorem qbf:qrz.zero=false:=rfl
theorem qby:qrz.fix=[]:=rfl
theorem qbV:qrz.keep=[true,true,false,false,false,true]:=rfl
def qrS:Nm:=⟨[true,true,false,false,false,true],[],false⟩
theorem qbL:qrS.zero=false:=rfl
theorem qbQ:qrS.fix=[]:=rfl
theorem qbu:qrS.keep=[true,true,false,false,false,true]:=rfl
def qp9:Nm:=⟨[true,true,false,false,false,true],[],false⟩
theorem qaL:qp9.zero=false:=rfl
theorem qaV:qp9.fix=[]:=rfl
theorem qbT:qp9.keep=[true,true,false,false,false,true]:=rfl
def qtc:Nm:=⟨[true,true,false,false,false,true],[],false⟩
theorem qa6:qtc.zero=false:=rfl
theorem qbi:qtc.fix=[]:=rfl
theorem qbe:qtc.keep=[true,true,false,false,false,true]:=rfl
def qsQ:Nm:=⟨[true,true,false,false,false,true],[],false⟩
theorem qbp:qsQ.zero=false:=rfl
theorem qbF:qsQ.fix=[]:=rfl
theorem qbj:qsQ.keep=[true,true,false,false,false,true]:=rfl
def qq7:Nm:=⟨[true,true,false,false,false,true],[],false⟩
theorem qbt:qq7.zero=false:=rfl
theorem qbD:qq7.fix=[]:=rfl
theorem qaH:qq7.keep=[true,true,false,false,false,true]:=rfl
def qlr:Nm:=⟨[true,true,false,false,false,true],[],false⟩
theorem qbd:qlr.zero=false:=rfl
theorem qbm:qlr.fix=[]:=rfl
theorem qa7:qlr.keep=[true,true,false,false,false,true]:=rfl
def qsP:Nm:=⟨[false,true],[],false⟩
theorem qbJ:qsP.zero=false:=rfl
theorem qbo:qsP.fix=[]:=rfl
theorem qbI:qsP.keep=[false,true]:=rfl
def qrq:Nm:=⟨[true,true,false,false,false,true],[],false⟩
theorem qbk:qrq.zero=false:=rfl
theorem qaQ:qrq.fix=[]:=rfl
theorem qbC:qrq.keep=[true,true,false,false,false,true]:=rfl
def qs9:Nm:=⟨[true,true,false,false,false,true],[],false⟩
theorem qbU:qs9.zero=false:=rfl
theorem qbs:qs9.fix=[]:=rfl
theorem qbh:qs9.keep=[true,true,false,false,false,true]:=rfl
def qsx:Nm:=⟨[true,true,false,false,false,true],[],false⟩
theorem qaJ:qsx.zero=false:=rfl
theorem qbw:qsx.fix=[]:=rfl
theorem qaG:qsx.keep=[true,true,false,false,false,true]:=rfl
def qpD:Nm:=⟨[true,true,false,false,false,true],[],false⟩
theorem qbB:qpD.zero=false:=rfl
theorem qbS:qpD.fix=[]:=rfl
theorem qbK:qpD.keep=[true,true,false,false,false,true]:=rfl
def qqX:Nm:=⟨[true,true,false,false,false,true],[],false⟩
theorem qaN:qqX.zero=false:=rfl
theorem qaW:qqX.fix=[]:=rfl
theorem qaS:qqX.keep=[true,true,false,false,false,true]:=rfl
def qqr:Nm:=⟨[true,true,false,false,false,true],[],false⟩
theorem qbA:qqr.zero=false:=rfl
theorem qa4:qqr.fix=[]:=rfl
theorem qbq:qqr.keep=[true,true,false,false,false,true]:=rfl
def qqZ:Nm:=⟨[true,true,false,false,false,true],[],false⟩
theorem qbN:qqZ.zero=false:=rfl
theorem qa1:qqZ.fix=[]:=rfl
theorem qa2:qqZ.keep=[true,true,false,false,false,true]:=rfl
def qpJ:Nm:=⟨[true,true,false,false,false,true],[],false⟩
theorem qbM:qpJ.zero=false:=rfl
theorem qbH:qpJ.fix=[]:=rfl
theorem qbl:qpJ.keep=[true,true,false,false,false,true]:=rfl
def qqx:Nm:=⟨[true,true,false,false,false,true],[],false⟩
theorem qbP:qqx.zero=false:=rfl
theorem qaI:qqx.fix=[]:=rfl
theorem qa9:qqx.keep=[true,true,false,false,false,true]:=rfl
def qq6:Nm:=⟨[true,true,false,false,false,true],[],false⟩
theorem qba:qq6.zero=false:=rfl
theorem qaX:qq6.fix=[]:=rfl
theorem qbc:qq6.keep=[true,true,false,false,false,true]:=rfl
def qax:Sem:=qgs [] [(26,33,qaa,1,20),(67,33,qaa,6,62)]
def qaq:Nat→Tree:=fun _=> .done
def qay:Nat→Nm:=fun i=>if i=2 then qlr else ⟨[],[],false⟩
def qal:Nat→Option Jn:=fun i=>if i=4 then some (.nm qpO)else if i=6 then some (.nm qpK)else if i=7 then some (.nm qrT)else if i=9 then some (.nm qsC)else if i=11 then some (.nm qrz)else if i=13 then some (.nm qrS)else if i=15 then some (.nm qp9)else if i=16 then some (.nm qtc)else if i=18 then some (.nm qsQ)else if i=20 then some (.nm qq7)else none
def qav:Nat→Option Nm:=fun i=>if i=0 then some qsP else none
def qau:Nat→Option Nm:=fun i=>if i=4 then some qrq else if i=6 then some qs9 else if i=7 then some qsx else if i=9 then some qpD else if i=11 then some qqX else if i=13 then some qqr else if i=15 then some qqZ else if i=16 then some qpJ else if i=18 then some qqx else if i=20 then some qq6 else none
theorem p32:qn qaq (Try.f32.body.getD .skip)=true:=by kernel_rfl
def T32 (N:Nat):Tab:={tr:=qaq,lp:=qay,ex:=qav,rg:=qau,jn:=qal,fuel:=N,pins:=true,sem:=qax}
theorem qa5 (N:Nat):(T32 N).pins=true:=rfl
theorem qNc (N:Nat):qp Try.prog (T32 N):=fun id j t h ht=>by
 have h:qal id=_:=h
 unfold qal at h
 repeat' split at h
 all_goals first | (simp at h;done) | (simp only [Option.some.injEq]at h;subst h;simp [Jn.tb]at ht;done) | (simp only [Option.some.injEq]at h;subst h;simp only [Jn.tb,Option.some.injEq]at ht;subst ht;exact hTH)
theorem qa0 (N:Nat):(T32 N).sem=qax:=rfl
theorem qaR (N:Nat) (i:Nat):(T32 N).tr i=qaq i:=rfl
theorem qbR (N:Nat) (i:Nat):(T32 N).lp i=qay i:=rfl
theorem qa3 (N:Nat) (i:Nat):(T32 N).ex i=qav i:=rfl
theorem qbr (N:Nat) (i:Nat):(T32 N).rg i=qau i:=rfl
theorem qaZ (N:Nat) (i:Nat):(T32 N).jn i=qal i:=rfl
theorem qaM (N:Nat):(T32 N).fuel=N:=rfl
noncomputable def qH2:Code:=cut [true,false,true,true,true,true,false,true,false] (Try.f32.body.getD .skip)
theorem qVg {N:Nat} {Q:X→St→Option (List (Val qg)×List (Val qb)×Int)} {e:List LV} {h:List Blk}:qx tt Γ32 (T32 N) qH2 Q ⟨e,h⟩=qx tt Γ32 (T32 N) (cut [true,false,true,true,true,true,false,true,false] (Try.f32.body.getD .skip)) Q ⟨e,h⟩:=rfl
theorem qR1 (N:Nat) (F:List Nat) (v82:Int) (v83:Int) (v84:List (Val qg)) (v85:List (Val (hd qb))) (v86:List (Val qb)) {k9004:(List (Val qg))→Option (List (Val qg)×List (Val qb)×Int)} {Q:X→St→Option (List (Val qg)×List (Val qb)×Int)} {c:Code} (hc:c=qH2) (h9004: ∀(v87:List (Val qg)),Q .normal ⟨[.one (.own 0),.one (.int .i64 v82),u,u,u,.one (.int .i64 v83),u,u,u,u,u,u,u,u,u,u,u,u,u,u,u,u,u,u,u,u,u,u,u,u,u,u,u,u,u,u,u,u,u,u,u,u,u,u,u,u,u,u,u,u,u,u,u,u,u,u,u,u,u,u,u,u,u,u,u,u,u,u,u,u,u,u,u,u,u,u,u,u,u,u,u,u,u,u,u,u,u,u,u,u],[.row 120 qg v87 true true 0,.nst F qb v85 v86]⟩=k9004 v87):qx tt Γ32 (T32 N) c Q ⟨[.one (.own 0),.one (.int .i64 v82),u,u,u,.one (.int .i64 v83),u,u,u,u,u,u,u,u,u,u,u,u,u,u,u,u,u,u,u,u,u,u,u,u,u,u,u,u,u,u,u,u,u,u,u,u,u,u,u,u,u,u,u,u,u,u,u,u,u,u,u,u,u,u,u,u,u,u,u,u,u,u,u,u,u,u,u,u,u,u,u,u,u,u,u,u,u,u,u,u,u,u,u,u],[.row 120 qg v84 true true 0,.nst F qb v85 v86]⟩=qq2 N v82 v83 v84 v85 v86 k9004 N:=by
 subst hc;rw [qVg,qq2];unfold Try.f32
 simp (maxSteps:=10000000) -implicitDefEqProofs [qcD (id:=4),qcv (id:=4),qaR,qaq,qbR,qay,qa3,qav,qbr,qau,qaZ,qal,qaM,qa5,qa0,qax,qR,qbE,qaa,qm,q5,qaU,qaT,qbO,qbv,qbz,qbn,qa8,qbb,qaO,qbx,qbG,qaP,qby,qbV,qbf,qbQ,qbu,qbL,qaV,qbT,qaL,qbi,qbe,qa6,qbF,qbj,qbp,qbD,qaH,qbt,qbm,qa7,qbd,qbo,qbI,qbJ,qaQ,qbC,qbk,qbs,qbh,qbU,qbw,qaG,qaJ,qbS,qbK,qbB,qaW,qaS,qaN,qa4,qbq,qbA,qa1,qa2,qbN,qbH,qbl,qbM,qaI,qa9,qbP,qaX,qbc,qba,qaY,g86,h9004]
noncomputable def qF9:Code:=cut [true,false,true,true,true,true,false,true,true,true,false] (Try.f32.body.getD .skip)
theorem qPq {N:Nat} {Q:X→St→Option (List (Val qg)×List (Val qb)×Int)} {e:List LV} {h:List Blk}:qx tt Γ32 (T32 N) qF9 Q ⟨e,h⟩=qx tt Γ32 (T32 N) (cut [true,false,true,true,true,true,false,true,true,true,false] (Try.f32.body.getD .skip)) Q ⟨e,h⟩:=rfl
theorem qJ8 (N:Nat) (F:List Nat) (v89:Int) (v90:Int) (v91:List (Val qg)) (v92:List (Val (hd qb))) (v93:List (Val qb)) {k9006:Int→(List (Val qb))→Option (List (Val qg)×List (Val qb)×Int)} {Q:X→St→Option (List (Val qg)×List (Val qb)×Int)} {c:Code} (hc:c=qF9) (h9006: ∀(v94:Int) (v95:List (Val qb)),Q .normal ⟨[.one (.own 0),.one (.int .i64 v94),u,u,u,.one (.int .i64 v90),u,u,u,u,u,u,u,u,u,u,u,u,u,u,u,u,u,u,u,u,u,u,u,u,u,u,u,u,u,u,u,u,u,u,u,u,u,u,u,u,u,u,u,u,u,u,u,u,u,u,u,u,u,u,u,u,u,u,u,u,u,u,u,u,u,u,u,u,u,u,u,u,u,u,u,u,u,u,u,u,u,u,u,u],[.row 120 qg v91 true true 0,.nst F qb v92 v95]⟩=k9006 v94 v95):qx tt Γ32 (T32 N) c Q ⟨[.one (.own 0),.one (.int .i64 v89),u,u,u,.one (.int .i64 v90),u,u,u,u,u,u,u,u,u,u,u,u,u,u,u,u,u,u,u,u,u,u,u,u,u,u,u,u,u,u,u,u,u,u,u,u,u,u,u,u,u,u,u,u,u,u,u,u,u,u,u,u,u,u,u,u,u,u,u,u,u,u,u,u,u,u,u,u,u,u,u,u,u,u,u,u,u,u,u,u,u,u,u,u],[.row 120 qg v91 true true 0,.nst F qb v92 v93]⟩=qkU N v89 v90 v91 v92 v93 k9006 N:=by
 subst hc;rw [qPq,qkU];unfold Try.f32
 simp (maxSteps:=10000000) -implicitDefEqProofs [qcD (id:=6),qcv (id:=6),qaR,qaq,qbR,qay,qa3,qav,qbr,qau,qaZ,qal,qaM,qa5,qa0,qax,qR,qbE,qaa,qm,q5,qaU,qaT,qbO,qbv,qbz,qbn,qa8,qbb,qaO,qbx,qbG,qaP,qby,qbV,qbf,qbQ,qbu,qbL,qaV,qbT,qaL,qbi,qbe,qa6,qbF,qbj,qbp,qbD,qaH,qbt,qbm,qa7,qbd,qbo,qbI,qbJ,qaQ,qbC,qbk,qbs,qbh,qbU,qbw,qaG,qaJ,qbS,qbK,qbB,qaW,qaS,qaN,qa4,qbq,qbA,qa1,qa2,qbN,qbH,qbl,qbM,qaI,qa9,qbP,qaX,qbc,qba,qaY,g86,h9006]
noncomputable def qGR:Code:=cut [true,false,true,true,true,true,false,true,true,true,true,false] (Try.f32.body.getD .skip)
theorem qP5 {N:Nat} {Q:X→St→Option (List (Val qg)×List (Val qb)×Int)} {e:List LV} {h:List Blk}:qx tt Γ32 (T32 N) qGR Q ⟨e,h⟩=qx tt Γ32 (T32 N) (cut [true,false,true,true,true,true,false,true,true,true,true,false] (Try.f32.body.getD .skip)) Q ⟨e,h⟩:=rfl
theorem qKJ (N:Nat) (F:List Nat) (v98:Int) (v99:Int) (v100:List (Val qg)) (v101:List (Val (hd qb))) (v102:List (Val qb)) {k9007:(List (Val qg))→Option (List (Val qg)×List (Val qb)×Int)} {Q:X→St→Option (List (Val qg)×List (Val qb)×Int)} {c:Code} (hc:c=qGR) (h9007: ∀(v103:List (Val qg)),Q .normal ⟨[.one (.own 0),.one (.int .i64 v98),u,u,u,.one (.int .i64 v99),u,u,u,u,u,u,u,u,u,u,u,u,u,u,u,u,u,u,u,u,u,u,u,u,u,u,u,u,u,u,u,u,u,u,u,u,u,u,u,u,u,u,u,u,u,u,u,u,u,u,u,u,u,u,u,u,u,u,u,u,u,u,u,u,u,u,u,u,u,u,u,u,u,u,u,u,u,u,u,u,u,u,u,u],[.row 120 qg v103 true true 0,.nst F qb v101 v102]⟩=k9007 v103):qx tt Γ32 (T32 N) c Q ⟨[.one (.own 0),.one (.int .i64 v98),u,u,u,.one (.int .i64 v99),u,u,u,u,u,u,u,u,u,u,u,u,u,u,u,u,u,u,u,u,u,u,u,u,u,u,u,u,u,u,u,u,u,u,u,u,u,u,u,u,u,u,u,u,u,u,u,u,u,u,u,u,u,u,u,u,u,u,u,u,u,u,u,u,u,u,u,u,u,u,u,u,u,u,u,u,u,u,u,u,u,u,u,u],[.row 120 qg v100 true true 0,.nst F qb v101 v102]⟩=qjQ N v98 v99 v100 v101 v102 k9007 N:=by
 subst hc;rw [qP5,qjQ];unfold Try.f32
 simp (maxSteps:=10000000) -implicitDefEqProofs [qcD (id:=7),qcv (id:=7),qaR,qaq,qbR,qay,qa3,qav,qbr,qau,qaZ,qal,qaM,qa5,qa0,qax,qR,qbE,qaa,qm,q5,qaU,qaT,qbO,qbv,qbz,qbn,qa8,qbb,qaO,qbx,qbG,qaP,qby,qbV,qbf,qbQ,qbu,qbL,qaV,qbT,qaL,qbi,qbe,qa6,qbF,qbj,qbp,qbD,qaH,qbt,qbm,qa7,qbd,qbo,qbI,qbJ,qaQ,qbC,qbk,qbs,qbh,qbU,qbw,qaG,qaJ,qbS,qbK,qbB,qaW,qaS,qaN,qa4,qbq,qbA,qa1,qa2,qbN,qbH,qbl,qbM,qaI,qa9,qbP,qaX,qbc,qba,qaY,g86,h9007]
noncomputable def qGh:Code:=cut [true,false,true,true,true,true,false,true,true,true,true,true,true,false] (Try.f32.body.getD .skip)
theorem qTG {N:Nat} {Q:X→St→Option (List (Val qg)×List (Val qb)×Int)} {e:List LV} {h:List Blk}:qx tt Γ32 (T32 N) qGh Q ⟨e,h⟩=qx tt Γ32 (T32 N) (cut [true,false,true,true,true,true,false,true,true,true,true,true,true,false] (Try.f32.body.getD .skip)) Q ⟨e,h⟩:=rfl
theorem qN1 (N:Nat) (F:List Nat) (v105:Int) (v106:Int) (v107:List (Val qg)) (v108:List (Val (hd qb))) (v109:List (Val qb)) {k9009:(List (Val qg))→Option (List (Val qg)×List (Val qb)×Int)} {Q:X→St→Option (List (Val qg)×List (Val qb)×Int)} {c:Code} (hc:c=qGh) (h9009: ∀(v110:List (Val qg)),Q .normal ⟨[.one (.own 0),.one (.int .i64 v105),u,u,u,.one (.int .i64 v106),u,u,u,u,u,u,u,u,u,u,u,u,u,u,u,u,u,u,u,u,u,u,u,u,u,u,u,u,u,u,u,u,u,u,u,u,u,u,u,u,u,u,u,u,u,u,u,u,u,u,u,u,u,u,u,u,u,u,u,u,u,u,u,u,u,u,u,u,u,u,u,u,u,u,u,u,u,u,u,u,u,u,u,u],[.row 120 qg v110 true true 0,.nst F qb v108 v109]⟩=k9009 v110):qx tt Γ32 (T32 N) c Q ⟨[.one (.own 0),.one (.int .i64 v105),u,u,u,.one (.int .i64 v106),u,u,u,u,u,u,u,u,u,u,u,u,u,u,u,u,u,u,u,u,u,u,u,u,u,u,u,u,u,u,u,u,u,u,u,u,u,u,u,u,u,u,u,u,u,u,u,u,u,u,u,u,u,u,u,u,u,u,u,u,u,u,u,u,u,u,u,u,u,u,u,u,u,u,u,u,u,u,u,u,u,u,u,u],[.row 120 qg v107 true true 0,.nst F qb v108 v109]⟩=qhG N v105 v106 v107 v108 v109 k9009 N:=by
 subst hc;rw [qTG,qhG];unfold Try.f32
 simp (maxSteps:=10000000) -implicitDefEqProofs [qcD (id:=9),qcv (id:=9),qaR,qaq,qbR,qay,qa3,qav,qbr,qau,qaZ,qal,qaM,qa5,qa0,qax,qR,qbE,qaa,qm,q5,qaU,qaT,qbO,qbv,qbz,qbn,qa8,qbb,qaO,qbx,qbG,qaP,qby,qbV,qbf,qbQ,qbu,qbL,qaV,qbT,qaL,qbi,qbe,qa6,qbF,qbj,qbp,qbD,qaH,qbt,qbm,qa7,qbd,qbo,qbI,qbJ,qaQ,qbC,qbk,qbs,qbh,qbU,qbw,qaG,qaJ,qbS,qbK,qbB,qaW,qaS,qaN,qa4,qbq,qbA,qa1,qa2,qbN,qbH,qbl,qbM,qaI,qa9,qbP,qaX,qbc,qba,qaY,g86,h9009]
noncomputable def qID:Code:=cut [true,false,true,true,true,true,false,true,true,true,true,true,true,true,true,false] (Try.f32.body.getD .skip)
theorem qPB {N:Nat} {Q:X→St→Option (List (Val qg)×List (Val qb)×Int)} {e:List LV} {h:List Blk}:qx tt Γ32 (T32 N) qID Q ⟨e,h⟩=qx tt Γ32 (T32 N) (cut [true,false,true,true,true,true,false,true,true,true,true,true,true,true,true,false] (Try.f32.body.getD .skip)) Q ⟨e,h⟩:=rfl
theorem qTu (N:Nat) (F:List Nat) (v112:Int) (v113:Int) (v114:List (Val qg)) (v115:List (Val (hd qb))) (v116:List (Val qb)) {k9011:(List (Val qg))→Option (List (Val qg)×List (Val qb)×Int)} {Q:X→St→Option (List (Val qg)×List (Val qb)×Int)} {c:Code} (hc:c=qID) (h9011: ∀(v117:List (Val qg)),Q .normal ⟨[.one (.own 0),.one (.int .i64 v112),u,u,u,.one (.int .i64 v113),u,u,u,u,u,u,u,u,u,u,u,u,u,u,u,u,u,u,u,u,u,u,u,u,u,u,u,u,u,u,u,u,u,u,u,u,u,u,u,u,u,u,u,u,u,u,u,u,u,u,u,u,u,u,u,u,u,u,u,u,u,u,u,u,u,u,u,u,u,u,u,u,u,u,u,u,u,u,u,u,u,u,u,u],[.row 120 qg v117 true true 0,.nst F qb v115 v116]⟩=k9011 v117):qx tt Γ32 (T32 N) c Q ⟨[.one (.own 0),.one (.int .i64 v112),u,u,u,.one (.int .i64 v113),u,u,u,u,u,u,u,u,u,u,u,u,u,u,u,u,u,u,u,u,u,u,u,u,u,u,u,u,u,u,u,u,u,u,u,u,u,u,u,u,u,u,u,u,u,u,u,u,u,u,u,u,u,u,u,u,u,u,u,u,u,u,u,u,u,u,u,u,u,u,u,u,u,u,u,u,u,u,u,u,u,u,u,u],[.row 120 qg v114 true true 0,.nst F qb v115 v116]⟩=qgE N v112 v113 v114 v115 v116 k9011 N:=by
 subst hc;rw [qPB,qgE];unfold Try.f32
 simp (maxSteps:=10000000) -implicitDefEqProofs [qcD (id:=11),qcv (id:=11),qaR,qaq,qbR,qay,qa3,qav,qbr,qau,qaZ,qal,qaM,qa5,qa0,qax,qR,qbE,qaa,qm,q5,qaU,qaT,qbO,qbv,qbz,qbn,qa8,qbb,qaO,qbx,qbG,qaP,qby,qbV,qbf,qbQ,qbu,qbL,qaV,qbT,qaL,qbi,qbe,qa6,qbF,qbj,qbp,qbD,qaH,qbt,qbm,qa7,qbd,qbo,qbI,qbJ,qaQ,qbC,qbk,qbs,qbh,qbU,qbw,qaG,qaJ,qbS,qbK,qbB,qaW,qaS,qaN,qa4,qbq,qbA,qa1,qa2,qbN,qbH,qbl,qbM,qaI,qa9,qbP,qaX,qbc,qba,qaY,g86,h9011]
noncomputable def qGJ:Code:=cut [true,false,true,true,true,true,false,true,true,true,true,true,true,true,true,true,true,false] (Try.f32.body.getD .skip)
theorem qNe {N:Nat} {Q:X→St→Option (List (Val qg)×List (Val qb)×Int)} {e:List LV} {h:List Blk}:qx tt Γ32 (T32 N) qGJ Q ⟨e,h⟩=qx tt Γ32 (T32 N) (cut [true,false,true,true,true,true,false,true,true,true,true,true,true,true,true,true,true,false] (Try.f32.body.getD .skip)) Q ⟨e,h⟩:=rfl
theorem qK6 (N:Nat) (F:List Nat) (v119:Int) (v120:Int) (v121:List (Val qg)) (v122:List (Val (hd qb))) (v123:List (Val qb)) {k9013:(List (Val qg))→Option (List (Val qg)×List (Val qb)×Int)} {Q:X→St→Option (List (Val qg)×List (Val qb)×Int)} {c:Code} (hc:c=qGJ) (h9013: ∀(v124:List (Val qg)),Q .normal ⟨[.one (.own 0),.one (.int .i64 v119),u,u,u,.one (.int .i64 v120),u,u,u,u,u,u,u,u,u,u,u,u,u,u,u,u,u,u,u,u,u,u,u,u,u,u,u,u,u,u,u,u,u,u,u,u,u,u,u,u,u,u,u,u,u,u,u,u,u,u,u,u,u,u,u,u,u,u,u,u,u,u,u,u,u,u,u,u,u,u,u,u,u,u,u,u,u,u,u,u,u,u,u,u],[.row 120 qg v124 true true 0,.nst F qb v122 v123]⟩=k9013 v124):qx tt Γ32 (T32 N) c Q ⟨[.one (.own 0),.one (.int .i64 v119),u,u,u,.one (.int .i64 v120),u,u,u,u,u,u,u,u,u,u,u,u,u,u,u,u,u,u,u,u,u,u,u,u,u,u,u,u,u,u,u,u,u,u,u,u,u,u,u,u,u,u,u,u,u,u,u,u,u,u,u,u,u,u,u,u,u,u,u,u,u,u,u,u,u,u,u,u,u,u,u,u,u,u,u,u,u,u,u,u,u,u,u,u],[.row 120 qg v121 true true 0,.nst F qb v122 v123]⟩=qgl N v119 v120 v121 v122 v123 k9013 N:=by
 subst hc;rw [qNe,qgl];unfold Try.f32
 simp (maxSteps:=10000000) -implicitDefEqProofs [qcD (id:=13),qcv (id:=13),qaR,qaq,qbR,qay,qa3,qav,qbr,qau,qaZ,qal,qaM,qa5,qa0,qax,qR,qbE,qaa,qm,q5,qaU,qaT,qbO,qbv,qbz,qbn,qa8,qbb,qaO,qbx,qbG,qaP,qby,qbV,qbf,qbQ,qbu,qbL,qaV,qbT,qaL,qbi,qbe,qa6,qbF,qbj,qbp,qbD,qaH,qbt,qbm,qa7,qbd,qbo,qbI,qbJ,qaQ,qbC,qbk,qbs,qbh,qbU,qbw,qaG,qaJ,qbS,qbK,qbB,qaW,qaS,qaN,qa4,qbq,qbA,qa1,qa2,qbN,qbH,qbl,qbM,qaI,qa9,qbP,qaX,qbc,qba,qaY,g86,h9013]
noncomputable def qHa:Code:=cut [true,false,true,true,true,true,false,true,true,true,true,true,true,true,true,true,true,true,true,false] (Try.f32.body.getD .skip)
theorem qLw {N:Nat} {Q:X→St→Option (List (Val qg)×List (Val qb)×Int)} {e:List LV} {h:List Blk}:qx tt Γ32 (T32 N) qHa Q ⟨e,h⟩=qx tt Γ32 (T32 N) (cut [true,false,true,true,true,true,false,true,true,true,true,true,true,true,true,true,true,true,true,false] (Try.f32.body.getD .skip)) Q ⟨e,h⟩:=rfl
theorem qOj (N:Nat) (F:List Nat) (v126:Int) (v127:Int) (v128:List (Val qg)) (v129:List (Val (hd qb))) (v130:List (Val qb)) {k9015:Int→(List (Val qb))→Option (List (Val qg)×List (Val qb)×Int)} {Q:X→St→Option (List (Val qg)×List (Val qb)×Int)} {c:Code} (hc:c=qHa) (h9015: ∀(v131:Int) (v132:List (Val qb)),Q .normal ⟨[.one (.own 0),.one (.int .i64 v131),u,u,u,.one (.int .i64 v127),u,u,u,u,u,u,u,u,u,u,u,u,u,u,u,u,u,u,u,u,u,u,u,u,u,u,u,u,u,u,u,u,u,u,u,u,u,u,u,u,u,u,u,u,u,u,u,u,u,u,u,u,u,u,u,u,u,u,u,u,u,u,u,u,u,u,u,u,u,u,u,u,u,u,u,u,u,u,u,u,u,u,u,u],[.row 120 qg v128 true true 0,.nst F qb v129 v132]⟩=k9015 v131 v132):qx tt Γ32 (T32 N) c Q ⟨[.one (.own 0),.one (.int .i64 v126),u,u,u,.one (.int .i64 v127),u,u,u,u,u,u,u,u,u,u,u,u,u,u,u,u,u,u,u,u,u,u,u,u,u,u,u,u,u,u,u,u,u,u,u,u,u,u,u,u,u,u,u,u,u,u,u,u,u,u,u,u,u,u,u,u,u,u,u,u,u,u,u,u,u,u,u,u,u,u,u,u,u,u,u,u,u,u,u,u,u,u,u,u],[.row 120 qg v128 true true 0,.nst F qb v129 v130]⟩=qfE N v126 v127 v128 v129 v130 k9015 N:=by
 subst hc;rw [qLw,qfE];unfold Try.f32
 simp (maxSteps:=10000000) -implicitDefEqProofs [qcD (id:=15),qcv (id:=15),qaR,qaq,qbR,qay,qa3,qav,qbr,qau,qaZ,qal,qaM,qa5,qa0,qax,qR,qbE,qaa,qm,q5,qaU,qaT,qbO,qbv,qbz,qbn,qa8,qbb,qaO,qbx,qbG,qaP,qby,qbV,qbf,qbQ,qbu,qbL,qaV,qbT,qaL,qbi,qbe,qa6,qbF,qbj,qbp,qbD,qaH,qbt,qbm,qa7,qbd,qbo,qbI,qbJ,qaQ,qbC,qbk,qbs,qbh,qbU,qbw,qaG,qaJ,qbS,qbK,qbB,qaW,qaS,qaN,qa4,qbq,qbA,qa1,qa2,qbN,qbH,qbl,qbM,qaI,qa9,qbP,qaX,qbc,qba,qaY,g86,h9015]
noncomputable def qFV:Code:=cut [true,false,true,true,true,true,false,true,true,true,true,true,true,true,true,true,true,true,true,true,false] (Try.f32.body.getD .skip)
theorem qSb {N:Nat} {Q:X→St→Option (List (Val qg)×List (Val qb)×Int)} {e:List LV} {h:List Blk}:qx tt Γ32 (T32 N) qFV Q ⟨e,h⟩=qx tt Γ32 (T32 N) (cut [true,false,true,true,true,true,false,true,true,true,true,true,true,true,true,true,true,true,true,true,false] (Try.f32.body.getD .skip)) Q ⟨e,h⟩:=rfl
theorem qJX (N:Nat) (F:List Nat) (v135:Int) (v136:Int) (v137:List (Val qg)) (v138:List (Val (hd qb))) (v139:List (Val qb)) {k9016:(List (Val qg))→Option (List (Val qg)×List (Val qb)×Int)} {Q:X→St→Option (List (Val qg)×List (Val qb)×Int)} {c:Code} (hc:c=qFV) (h9016: ∀(v140:List (Val qg)),Q .normal ⟨[.one (.own 0),.one (.int .i64 v135),u,u,u,.one (.int .i64 v136),u,u,u,u,u,u,u,u,u,u,u,u,u,u,u,u,u,u,u,u,u,u,u,u,u,u,u,u,u,u,u,u,u,u,u,u,u,u,u,u,u,u,u,u,u,u,u,u,u,u,u,u,u,u,u,u,u,u,u,u,u,u,u,u,u,u,u,u,u,u,u,u,u,u,u,u,u,u,u,u,u,u,u,u],[.row 120 qg v140 true true 0,.nst F qb v138 v139]⟩=k9016 v140):qx tt Γ32 (T32 N) c Q ⟨[.one (.own 0),.one (.int .i64 v135),u,u,u,.one (.int .i64 v136),u,u,u,u,u,u,u,u,u,u,u,u,u,u,u,u,u,u,u,u,u,u,u,u,u,u,u,u,u,u,u,u,u,u,u,u,u,u,u,u,u,u,u,u,u,u,u,u,u,u,u,u,u,u,u,u,u,u,u,u,u,u,u,u,u,u,u,u,u,u,u,u,u,u,u,u,u,u,u,u,u,u,u,u],[.row 120 qg v137 true true 0,.nst F qb v138 v139]⟩=qfg N v135 v136 v137 v138 v139 k9016 N:=by
 subst hc;rw [qSb,qfg];unfold Try.f32
 simp (maxSteps:=10000000) -implicitDefEqProofs [qcD (id:=16),qcv (id:=16),qaR,qaq,qbR,qay,qa3,qav,qbr,qau,qaZ,qal,qaM,qa5,qa0,qax,qR,qbE,qaa,qm,q5,qaU,qaT,qbO,qbv,qbz,qbn,qa8,qbb,qaO,qbx,qbG,qaP,qby,qbV,qbf,qbQ,qbu,qbL,qaV,qbT,qaL,qbi,qbe,qa6,qbF,qbj,qbp,qbD,qaH,qbt,qbm,qa7,qbd,qbo,qbI,qbJ,qaQ,qbC,qbk,qbs,qbh,qbU,qbw,qaG,qaJ,qbS,qbK,qbB,qaW,qaS,qaN,qa4,qbq,qbA,qa1,qa2,qbN,qbH,qbl,qbM,qaI,qa9,qbP,qaX,qbc,qba,qaY,g86,h9016]
noncomputable def qIz:Code:=cut [true,false,true,true,true,true,false,true,true,true,true,true,true,true,true,true,true,true,true,true,true,true,false] (Try.f32.body.getD .skip)
theorem qLh {N:Nat} {Q:X→St→Option (List (Val qg)×List (Val qb)×Int)} {e:List LV} {h:List Blk}:qx tt Γ32 (T32 N) qIz Q ⟨e,h⟩=qx tt Γ32 (T32 N) (cut [true,false,true,true,true,true,false,true,true,true,true,true,true,true,true,true,true,true,true,true,true,true,false] (Try.f32.body.getD .skip)) Q ⟨e,h⟩:=rfl
theorem qKU (N:Nat) (F:List Nat) (v142:Int) (v143:Int) (v144:List (Val qg)) (v145:List (Val (hd qb))) (v146:List (Val qb)) {k9018:(List (Val qg))→Option (List (Val qg)×List (Val qb)×Int)} {Q:X→St→Option (List (Val qg)×List (Val qb)×Int)} {c:Code} (hc:c=qIz) (h9018: ∀(v147:List (Val qg)),Q .normal ⟨[.one (.own 0),.one (.int .i64 v142),u,u,u,.one (.int .i64 v143),u,u,u,u,u,u,u,u,u,u,u,u,u,u,u,u,u,u,u,u,u,u,u,u,u,u,u,u,u,u,u,u,u,u,u,u,u,u,u,u,u,u,u,u,u,u,u,u,u,u,u,u,u,u,u,u,u,u,u,u,u,u,u,u,u,u,u,u,u,u,u,u,u,u,u,u,u,u,u,u,u,u,u,u],[.row 120 qg v147 true true 0,.nst F qb v145 v146]⟩=k9018 v147):qx tt Γ32 (T32 N) c Q ⟨[.one (.own 0),.one (.int .i64 v142),u,u,u,.one (.int .i64 v143),u,u,u,u,u,u,u,u,u,u,u,u,u,u,u,u,u,u,u,u,u,u,u,u,u,u,u,u,u,u,u,u,u,u,u,u,u,u,u,u,u,u,u,u,u,u,u,u,u,u,u,u,u,u,u,u,u,u,u,u,u,u,u,u,u,u,u,u,u,u,u,u,u,u,u,u,u,u,u,u,u,u,u,u],[.row 120 qg v144 true true 0,.nst F qb v145 v146]⟩=qeQ N v142 v143 v144 v145 v146 k9018 N:=by
 subst hc;rw [qLh,qeQ];unfold Try.f32
 simp (maxSteps:=10000000) -implicitDefEqProofs [qcD (id:=18),qcv (id:=18),qaR,qaq,qbR,qay,qa3,qav,qbr,qau,qaZ,qal,qaM,qa5,qa0,qax,qR,qbE,qaa,qm,q5,qaU,qaT,qbO,qbv,qbz,qbn,qa8,qbb,qaO,qbx,qbG,qaP,qby,qbV,qbf,qbQ,qbu,qbL,qaV,qbT,qaL,qbi,qbe,qa6,qbF,qbj,qbp,qbD,qaH,qbt,qbm,qa7,qbd,qbo,qbI,qbJ,qaQ,qbC,qbk,qbs,qbh,qbU,qbw,qaG,qaJ,qbS,qbK,qbB,qaW,qaS,qaN,qa4,qbq,qbA,qa1,qa2,qbN,qbH,qbl,qbM,qaI,qa9,qbP,qaX,qbc,qba,qaY,g86,h9018]
noncomputable def qIK:Code:=cut [true,false,true,true,true,true,false,true,true,true,true,true,true,true,true,true,true,true,true,true,true,true,true,true,false] (Try.f32.body.getD .skip)
theorem qUt {N:Nat} {Q:X→St→Option (List (Val qg)×List (Val qb)×Int)} {e:List LV} {h:List Blk}:qx tt Γ32 (T32 N) qIK Q ⟨e,h⟩=qx tt Γ32 (T32 N) (cut [true,false,true,true,true,true,false,true,true,true,true,true,true,true,true,true,true,true,true,true,true,true,true,true,false] (Try.f32.body.getD .skip)) Q ⟨e,h⟩:=rfl
theorem qQ8 (N:Nat) (F:List Nat) (v149:Int) (v150:Int) (v151:List (Val qg)) (v152:List (Val (hd qb))) (v153:List (Val qb)) {k9020:(List (Val qg))→Option (List (Val qg)×List (Val qb)×Int)} {Q:X→St→Option (List (Val qg)×List (Val qb)×Int)} {c:Code} (hc:c=qIK) (h9020: ∀(v154:List (Val qg)),Q .normal ⟨[.one (.own 0),.one (.int .i64 v149),u,u,u,.one (.int .i64 v150),u,u,u,u,u,u,u,u,u,u,u,u,u,u,u,u,u,u,u,u,u,u,u,u,u,u,u,u,u,u,u,u,u,u,u,u,u,u,u,u,u,u,u,u,u,u,u,u,u,u,u,u,u,u,u,u,u,u,u,u,u,u,u,u,u,u,u,u,u,u,u,u,u,u,u,u,u,u,u,u,u,u,u,u],[.row 120 qg v154 true true 0,.nst F qb v152 v153]⟩=k9020 v154):qx tt Γ32 (T32 N) c Q ⟨[.one (.own 0),.one (.int .i64 v149),u,u,u,.one (.int .i64 v150),u,u,u,u,u,u,u,u,u,u,u,u,u,u,u,u,u,u,u,u,u,u,u,u,u,u,u,u,u,u,u,u,u,u,u,u,u,u,u,u,u,u,u,u,u,u,u,u,u,u,u,u,u,u,u,u,u,u,u,u,u,u,u,u,u,u,u,u,u,u,u,u,u,u,u,u,u,u,u,u,u,u,u,u],[.row 120 qg v151 true true 0,.nst F qb v152 v153]⟩=qdO N v149 v150 v151 v152 v153 k9020 N:=by
 subst hc;rw [qUt,qdO];unfold Try.f32
 simp (maxSteps:=10000000) -implicitDefEqProofs [qcD (id:=20),qcv (id:=20),qaR,qaq,qbR,qay,qa3,qav,qbr,qau,qaZ,qal,qaM,qa5,qa0,qax,qR,qbE,qaa,qm,q5,qaU,qaT,qbO,qbv,qbz,qbn,qa8,qbb,qaO,qbx,qbG,qaP,qby,qbV,qbf,qbQ,qbu,qbL,qaV,qbT,qaL,qbi,qbe,qa6,qbF,qbj,qbp,qbD,qaH,qbt,qbm,qa7,qbd,qbo,qbI,qbJ,qaQ,qbC,qbk,qbs,qbh,qbU,qbw,qaG,qaJ,qbS,qbK,qbB,qaW,qaS,qaN,qa4,qbq,qbA,qa1,qa2,qbN,qbH,qbl,qbM,qaI,qa9,qbP,qaX,qbc,qba,qaY,g86,h9020]
noncomputable def qGX:Code:=cut [true,false,true,true,true] (Try.f32.body.getD .skip)
theorem qLq {N:Nat} {Q:X→St→Option (List (Val qg)×List (Val qb)×Int)} {e:List LV} {h:List Blk}:qe tt Γ32 (T32 N) qGX Q ⟨e,h⟩=qe tt Γ32 (T32 N) (cut [true,false,true,true,true] (Try.f32.body.getD .skip)) Q ⟨e,h⟩:=rfl
theorem qU7 (N:Nat) (F:List Nat) (v6:List (Val (hd qb))) {k0:Int→(List (Val qg))→(List (Val qb))→Option (List (Val qg)×List (Val qb)×Int)} {Q:X→St→Option (List (Val qg)×List (Val qb)×Int)} {c:Code} (hc:c=qGX) (hret: ∀st,Q .ret st=qeO tt 120 qb qg F v6 [.tmp 4] st) (h0: ∀(v156:Int) (v157:List (Val qg)) (v158:List (Val qb)),Q (.exit 0) ⟨[u,.one (.int .i64 v156),u,u,u,u,u,u,u,u,u,u,u,u,u,u,u,u,u,u,u,u,u,u,u,u,u,u,u,u,u,u,u,u,u,u,u,u,u,u,u,u,u,u,u,u,u,u,u,u,u,u,u,u,u,u,u,u,u,u,u,u,u,u,u,u,u,u,u,u,u,u,u,u,u,u,u,u,u,u,u,u,u,u,u,u,u,u,u,u],[.row 120 qg v157 true true 0,.nst F qb v6 v158]⟩=k0 v156 v157 v158): ∀(n:Nat) (v3:Int) (v4:Int) (v5:List (Val qg)) (v7:List (Val qb)),qC (qe tt Γ32 (T32 N) c) true qlr Q n ⟨[.one (.own 0),.one (.int .i64 v3),u,u,u,.one (.int .i64 v4),u,u,u,u,u,u,u,u,u,u,u,u,u,u,u,u,u,u,u,u,u,u,u,u,u,u,u,u,u,u,u,u,u,u,u,u,u,u,u,u,u,u,u,u,u,u,u,u,u,u,u,u,u,u,u,u,u,u,u,u,u,u,u,u,u,u,u,u,u,u,u,u,u,u,u,u,u,u,u,u,u,u,u,u],[.row 120 qg v5 true true 0,.nst F qb v6 v7]⟩=qce N v6 k0 n v3 v4 v5 v7:=by
 subst hc;intro n;induction n with
 | zero=>intros;rfl
 | succ n ih=>
   intro v3 v4 v5 v7
   rw [qM,qLq];unfold Try.f32
   simp (maxSteps:=10000000) -implicitDefEqProofs [qaR,qaq,qbR,qay,qa3,qav,qbr,qau,qaZ,qal,qaM,qa5,qa0,qax,qR,qbE,qaa,qm,q5,qaU,qaT,qbO,qbv,qbz,qbn,qa8,qbb,qaO,qbx,qbG,qaP,qby,qbV,qbf,qbQ,qbu,qbL,qaV,qbT,qaL,qbi,qbe,qa6,qbF,qbj,qbp,qbD,qaH,qbt,qbm,qa7,qbd,qbo,qbI,qbJ,qaQ,qbC,qbk,qbs,qbh,qbU,qbw,qaG,qaJ,qbS,qbK,qbB,qaW,qaS,qaN,qa4,qbq,qbA,qa1,qa2,qbN,qbH,qbl,qbM,qaI,qa9,qbP,qaX,qbc,qba,qaY,g86,hret,h0,ih]
   rewrite [qR1 (k9004:=(fun (v88:List (Val qg))=>qkU N (IntKind.i64.wrap (v3+(1:Int))) v4 v88 v6 v7 (fun (v96:Int) (v97:List (Val qb))=>qjQ N v96 v4 v88 v6 v97 (fun (v104:List (Val qg))=>qhG N (IntKind.i64.wrap (v96+(1:Int))) v4 v104 v6 v97 (fun (v111:List (Val qg))=>qgE N (IntKind.i64.wrap ((IntKind.i64.wrap (v96+(1:Int)))+(1:Int))) v4 v111 v6 v97 (fun (v118:List (Val qg))=>qgl N (IntKind.i64.wrap ((IntKind.i64.wrap ((IntKind.i64.wrap (v96+(1:Int)))+(1:Int)))+(1:Int))) v4 v118 v6 v97 (fun (v125:List (Val qg))=>qfE N (IntKind.i64.wrap ((IntKind.i64.wrap ((IntKind.i64.wrap ((IntKind.i64.wrap (v96+(1:Int)))+(1:Int)))+(1:Int)))+(1:Int))) v4 v125 v6 v97 (fun (v133:Int) (v134:List (Val qb))=>qfg N v133 v4 v125 v6 v134 (fun (v141:List (Val qg))=>qeQ N (IntKind.i64.wrap (v133+(1:Int))) v4 v141 v6 v134 (fun (v148:List (Val qg))=>qdO N (IntKind.i64.wrap ((IntKind.i64.wrap (v133+(1:Int)))+(1:Int))) v4 v148 v6 v134 (fun (v155:List (Val qg))=>qce N v6 k0 n (IntKind.i64.wrap ((IntKind.i64.wrap ((IntKind.i64.wrap (v133+(1:Int)))+(1:Int)))+(1:Int))) (IntKind.i64.wrap (v4+(1:Int))) v155 v134) N) N) N) N) N) N) N) N) N)) N _ _ _ _ _ _ ?_ ?_]
   ·rewrite [qce];first | rfl | simp (maxSteps:=10000000) -implicitDefEqProofs [ih]
   ·rfl
   ·intro v88;simp (maxSteps:=10000000) -implicitDefEqProofs [qaR,qaq,qbR,qay,qa3,qav,qbr,qau,qaZ,qal,qaM,qa5,qa0,qax,qR,qbE,qaa,qm,q5,qaU,qaT,qbO,qbv,qbz,qbn,qa8,qbb,qaO,qbx,qbG,qaP,qby,qbV,qbf,qbQ,qbu,qbL,qaV,qbT,qaL,qbi,qbe,qa6,qbF,qbj,qbp,qbD,qaH,qbt,qbm,qa7,qbd,qbo,qbI,qbJ,qaQ,qbC,qbk,qbs,qbh,qbU,qbw,qaG,qaJ,qbS,qbK,qbB,qaW,qaS,qaN,qa4,qbq,qbA,qa1,qa2,qbN,qbH,qbl,qbM,qaI,qa9,qbP,qaX,qbc,qba,qaY,g86,hret,h0,ih]
    rewrite [qJ8 (k9006:=(fun (v96:Int) (v97:List (Val qb))=>qjQ N v96 v4 v88 v6 v97 (fun (v104:List (Val qg))=>qhG N (IntKind.i64.wrap (v96+(1:Int))) v4 v104 v6 v97 (fun (v111:List (Val qg))=>qgE N (IntKind.i64.wrap ((IntKind.i64.wrap (v96+(1:Int)))+(1:Int))) v4 v111 v6 v97 (fun (v118:List (Val qg))=>qgl N (IntKind.i64.wrap ((IntKind.i64.wrap ((IntKind.i64.wrap (v96+(1:Int)))+(1:Int)))+(1:Int))) v4 v118 v6 v97 (fun (v125:List (Val qg))=>qfE N (IntKind.i64.wrap ((IntKind.i64.wrap ((IntKind.i64.wrap ((IntKind.i64.wrap (v96+(1:Int)))+(1:Int)))+(1:Int)))+(1:Int))) v4 v125 v6 v97 (fun (v133:Int) (v134:List (Val qb))=>qfg N v133 v4 v125 v6 v134 (fun (v141:List (Val qg))=>qeQ N (IntKind.i64.wrap (v133+(1:Int))) v4 v141 v6 v134 (fun (v148:List (Val qg))=>qdO N (IntKind.i64.wrap ((IntKind.i64.wrap (v133+(1:Int)))+(1:Int))) v4 v148 v6 v134 (fun (v155:List (Val qg))=>qce N v6 k0 n (IntKind.i64.wrap ((IntKind.i64.wrap ((IntKind.i64.wrap (v133+(1:Int)))+(1:Int)))+(1:Int))) (IntKind.i64.wrap (v4+(1:Int))) v155 v134) N) N) N) N) N) N) N) N)) N _ _ _ _ _ _ ?_ ?_]
    ·first | rfl | simp (maxSteps:=10000000) -implicitDefEqProofs [ih]
    ·rfl
    ·intro v96 v97;simp (maxSteps:=10000000) -implicitDefEqProofs [qaR,qaq,qbR,qay,qa3,qav,qbr,qau,qaZ,qal,qaM,qa5,qa0,qax,qR,qbE,qaa,qm,q5,qaU,qaT,qbO,qbv,qbz,qbn,qa8,qbb,qaO,qbx,qbG,qaP,qby,qbV,qbf,qbQ,qbu,qbL,qaV,qbT,qaL,qbi,qbe,qa6,qbF,qbj,qbp,qbD,qaH,qbt,qbm,qa7,qbd,qbo,qbI,qbJ,qaQ,qbC,qbk,qbs,qbh,qbU,qbw,qaG,qaJ,qbS,qbK,qbB,qaW,qaS,qaN,qa4,qbq,qbA,qa1,qa2,qbN,qbH,qbl,qbM,qaI,qa9,qbP,qaX,qbc,qba,qaY,g86,hret,h0,ih]
     rewrite [qKJ (k9007:=(fun (v104:List (Val qg))=>qhG N (IntKind.i64.wrap (v96+(1:Int))) v4 v104 v6 v97 (fun (v111:List (Val qg))=>qgE N (IntKind.i64.wrap ((IntKind.i64.wrap (v96+(1:Int)))+(1:Int))) v4 v111 v6 v97 (fun (v118:List (Val qg))=>qgl N (IntKind.i64.wrap ((IntKind.i64.wrap ((IntKind.i64.wrap (v96+(1:Int)))+(1:Int)))+(1:Int))) v4 v118 v6 v97 (fun (v125:List (Val qg))=>qfE N (IntKind.i64.wrap ((IntKind.i64.wrap ((IntKind.i64.wrap ((IntKind.i64.wrap (v96+(1:Int)))+(1:Int)))+(1:Int)))+(1:Int))) v4 v125 v6 v97 (fun (v133:Int) (v134:List (Val qb))=>qfg N v133 v4 v125 v6 v134 (fun (v141:List (Val qg))=>qeQ N (IntKind.i64.wrap (v133+(1:Int))) v4 v141 v6 v134 (fun (v148:List (Val qg))=>qdO N (IntKind.i64.wrap ((IntKind.i64.wrap (v133+(1:Int)))+(1:Int))) v4 v148 v6 v134 (fun (v155:List (Val qg))=>qce N v6 k0 n (IntKind.i64.wrap ((IntKind.i64.wrap ((IntKind.i64.wrap (v133+(1:Int)))+(1:Int)))+(1:Int))) (IntKind.i64.wrap (v4+(1:Int))) v155 v134) N) N) N) N) N) N) N)) N _ _ _ _ _ _ ?_ ?_]
     ·first | rfl | simp (maxSteps:=10000000) -implicitDefEqProofs [ih]
     ·rfl
     ·intro v104;simp (maxSteps:=10000000) -implicitDefEqProofs [qaR,qaq,qbR,qay,qa3,qav,qbr,qau,qaZ,qal,qaM,qa5,qa0,qax,qR,qbE,qaa,qm,q5,qaU,qaT,qbO,qbv,qbz,qbn,qa8,qbb,qaO,qbx,qbG,qaP,qby,qbV,qbf,qbQ,qbu,qbL,qaV,qbT,qaL,qbi,qbe,qa6,qbF,qbj,qbp,qbD,qaH,qbt,qbm,qa7,qbd,qbo,qbI,qbJ,qaQ,qbC,qbk,qbs,qbh,qbU,qbw,qaG,qaJ,qbS,qbK,qbB,qaW,qaS,qaN,qa4,qbq,qbA,qa1,qa2,qbN,qbH,qbl,qbM,qaI,qa9,qbP,qaX,qbc,qba,qaY,g86,hret,h0,ih]
      rewrite [qN1 (k9009:=(fun (v111:List (Val qg))=>qgE N (IntKind.i64.wrap ((IntKind.i64.wrap (v96+(1:Int)))+(1:Int))) v4 v111 v6 v97 (fun (v118:List (Val qg))=>qgl N (IntKind.i64.wrap ((IntKind.i64.wrap ((IntKind.i64.wrap (v96+(1:Int)))+(1:Int)))+(1:Int))) v4 v118 v6 v97 (fun (v125:List (Val qg))=>qfE N (IntKind.i64.wrap ((IntKind.i64.wrap ((IntKind.i64.wrap ((IntKind.i64.wrap (v96+(1:Int)))+(1:Int)))+(1:Int)))+(1:Int))) v4 v125 v6 v97 (fun (v133:Int) (v134:List (Val qb))=>qfg N v133 v4 v125 v6 v134 (fun (v141:List (Val qg))=>qeQ N (IntKind.i64.wrap (v133+(1:Int))) v4 v141 v6 v134 (fun (v148:List (Val qg))=>qdO N (IntKind.i64.wrap ((IntKind.i64.wrap (v133+(1:Int)))+(1:Int))) v4 v148 v6 v134 (fun (v155:List (Val qg))=>qce N v6 k0 n (IntKind.i64.wrap ((IntKind.i64.wrap ((IntKind.i64.wrap (v133+(1:Int)))+(1:Int)))+(1:Int))) (IntKind.i64.wrap (v4+(1:Int))) v155 v134) N) N) N) N) N) N)) N _ _ _ _ _ _ ?_ ?_]
      ·first | rfl | simp (maxSteps:=10000000) -implicitDefEqProofs [ih]
      ·rfl
      ·intro v111;simp (maxSteps:=10000000) -implicitDefEqProofs [qaR,qaq,qbR,qay,qa3,qav,qbr,qau,qaZ,qal,qaM,qa5,qa0,qax,qR,qbE,qaa,qm,q5,qaU,qaT,qbO,qbv,qbz,qbn,qa8,qbb,qaO,qbx,qbG,qaP,qby,qbV,qbf,qbQ,qbu,qbL,qaV,qbT,qaL,qbi,qbe,qa6,qbF,qbj,qbp,qbD,qaH,qbt,qbm,qa7,qbd,qbo,qbI,qbJ,qaQ,qbC,qbk,qbs,qbh,qbU,qbw,qaG,qaJ,qbS,qbK,qbB,qaW,qaS,qaN,qa4,qbq,qbA,qa1,qa2,qbN,qbH,qbl,qbM,qaI,qa9,qbP,qaX,qbc,qba,qaY,g86,hret,h0,ih]
       rewrite [qTu (k9011:=(fun (v118:List (Val qg))=>qgl N (IntKind.i64.wrap ((IntKind.i64.wrap ((IntKind.i64.wrap (v96+(1:Int)))+(1:Int)))+(1:Int))) v4 v118 v6 v97 (fun (v125:List (Val qg))=>qfE N (IntKind.i64.wrap ((IntKind.i64.wrap ((IntKind.i64.wrap ((IntKind.i64.wrap (v96+(1:Int)))+(1:Int)))+(1:Int)))+(1:Int))) v4 v125 v6 v97 (fun (v133:Int) (v134:List (Val qb))=>qfg N v133 v4 v125 v6 v134 (fun (v141:List (Val qg))=>qeQ N (IntKind.i64.wrap (v133+(1:Int))) v4 v141 v6 v134 (fun (v148:List (Val qg))=>qdO N (IntKind.i64.wrap ((IntKind.i64.wrap (v133+(1:Int)))+(1:Int))) v4 v148 v6 v134 (fun (v155:List (Val qg))=>qce N v6 k0 n (IntKind.i64.wrap ((IntKind.i64.wrap ((IntKind.i64.wrap (v133+(1:Int)))+(1:Int)))+(1:Int))) (IntKind.i64.wrap (v4+(1:Int))) v155 v134) N) N) N) N) N)) N _ _ _ _ _ _ ?_ ?_]
       ·first | rfl | simp (maxSteps:=10000000) -implicitDefEqProofs [ih]
       ·rfl
       ·intro v118;simp (maxSteps:=10000000) -implicitDefEqProofs [qaR,qaq,qbR,qay,qa3,qav,qbr,qau,qaZ,qal,qaM,qa5,qa0,qax,qR,qbE,qaa,qm,q5,qaU,qaT,qbO,qbv,qbz,qbn,qa8,qbb,qaO,qbx,qbG,qaP,qby,qbV,qbf,qbQ,qbu,qbL,qaV,qbT,qaL,qbi,qbe,qa6,qbF,qbj,qbp,qbD,qaH,qbt,qbm,qa7,qbd,qbo,qbI,qbJ,qaQ,qbC,qbk,qbs,qbh,qbU,qbw,qaG,qaJ,qbS,qbK,qbB,qaW,qaS,qaN,qa4,qbq,qbA,qa1,qa2,qbN,qbH,qbl,qbM,qaI,qa9,qbP,qaX,qbc,qba,qaY,g86,hret,h0,ih]
        rewrite [qK6 (k9013:=(fun (v125:List (Val qg))=>qfE N (IntKind.i64.wrap ((IntKind.i64.wrap ((IntKind.i64.wrap ((IntKind.i64.wrap (v96+(1:Int)))+(1:Int)))+(1:Int)))+(1:Int))) v4 v125 v6 v97 (fun (v133:Int) (v134:List (Val qb))=>qfg N v133 v4 v125 v6 v134 (fun (v141:List (Val qg))=>qeQ N (IntKind.i64.wrap (v133+(1:Int))) v4 v141 v6 v134 (fun (v148:List (Val qg))=>qdO N (IntKind.i64.wrap ((IntKind.i64.wrap (v133+(1:Int)))+(1:Int))) v4 v148 v6 v134 (fun (v155:List (Val qg))=>qce N v6 k0 n (IntKind.i64.wrap ((IntKind.i64.wrap ((IntKind.i64.wrap (v133+(1:Int)))+(1:Int)))+(1:Int))) (IntKind.i64.wrap (v4+(1:Int))) v155 v134) N) N) N) N)) N _ _ _ _ _ _ ?_ ?_]
        ·first | rfl | simp (maxSteps:=10000000) -implicitDefEqProofs [ih]
        ·rfl
        ·intro v125;simp (maxSteps:=10000000) -implicitDefEqProofs [qaR,qaq,qbR,qay,qa3,qav,qbr,qau,qaZ,qal,qaM,qa5,qa0,qax,qR,qbE,qaa,qm,q5,qaU,qaT,qbO,qbv,qbz,qbn,qa8,qbb,qaO,qbx,qbG,qaP,qby,qbV,qbf,qbQ,qbu,qbL,qaV,qbT,qaL,qbi,qbe,qa6,qbF,qbj,qbp,qbD,qaH,qbt,qbm,qa7,qbd,qbo,qbI,qbJ,qaQ,qbC,qbk,qbs,qbh,qbU,qbw,qaG,qaJ,qbS,qbK,qbB,qaW,qaS,qaN,qa4,qbq,qbA,qa1,qa2,qbN,qbH,qbl,qbM,qaI,qa9,qbP,qaX,qbc,qba,qaY,g86,hret,h0,ih]
         rewrite [qOj (k9015:=(fun (v133:Int) (v134:List (Val qb))=>qfg N v133 v4 v125 v6 v134 (fun (v141:List (Val qg))=>qeQ N (IntKind.i64.wrap (v133+(1:Int))) v4 v141 v6 v134 (fun (v148:List (Val qg))=>qdO N (IntKind.i64.wrap ((IntKind.i64.wrap (v133+(1:Int)))+(1:Int))) v4 v148 v6 v134 (fun (v155:List (Val qg))=>qce N v6 k0 n (IntKind.i64.wrap ((IntKind.i64.wrap ((IntKind.i64.wrap (v133+(1:Int)))+(1:Int)))+(1:Int))) (IntKind.i64.wrap (v4+(1:Int))) v155 v134) N) N) N)) N _ _ _ _ _ _ ?_ ?_]
         ·first | rfl | simp (maxSteps:=10000000) -implicitDefEqProofs [ih]
         ·rfl
         ·intro v133 v134;simp (maxSteps:=10000000) -implicitDefEqProofs [qaR,qaq,qbR,qay,qa3,qav,qbr,qau,qaZ,qal,qaM,qa5,qa0,qax,qR,qbE,qaa,qm,q5,qaU,qaT,qbO,qbv,qbz,qbn,qa8,qbb,qaO,qbx,qbG,qaP,qby,qbV,qbf,qbQ,qbu,qbL,qaV,qbT,qaL,qbi,qbe,qa6,qbF,qbj,qbp,qbD,qaH,qbt,qbm,qa7,qbd,qbo,qbI,qbJ,qaQ,qbC,qbk,qbs,qbh,qbU,qbw,qaG,qaJ,qbS,qbK,qbB,qaW,qaS,qaN,qa4,qbq,qbA,qa1,qa2,qbN,qbH,qbl,qbM,qaI,qa9,qbP,qaX,qbc,qba,qaY,g86,hret,h0,ih]
          rewrite [qJX (k9016:=(fun (v141:List (Val qg))=>qeQ N (IntKind.i64.wrap (v133+(1:Int))) v4 v141 v6 v134 (fun (v148:List (Val qg))=>qdO N (IntKind.i64.wrap ((IntKind.i64.wrap (v133+(1:Int)))+(1:Int))) v4 v148 v6 v134 (fun (v155:List (Val qg))=>qce N v6 k0 n (IntKind.i64.wrap ((IntKind.i64.wrap ((IntKind.i64.wrap (v133+(1:Int)))+(1:Int)))+(1:Int))) (IntKind.i64.wrap (v4+(1:Int))) v155 v134) N) N)) N _ _ _ _ _ _ ?_ ?_]
          ·first | rfl | simp (maxSteps:=10000000) -implicitDefEqProofs [ih]
          ·rfl
          ·intro v141;simp (maxSteps:=10000000) -implicitDefEqProofs [qaR,qaq,qbR,qay,qa3,qav,qbr,qau,qaZ,qal,qaM,qa5,qa0,qax,qR,qbE,qaa,qm,q5,qaU,qaT,qbO,qbv,qbz,qbn,qa8,qbb,qaO,qbx,qbG,qaP,qby,qbV,qbf,qbQ,qbu,qbL,qaV,qbT,qaL,qbi,qbe,qa6,qbF,qbj,qbp,qbD,qaH,qbt,qbm,qa7,qbd,qbo,qbI,qbJ,qaQ,qbC,qbk,qbs,qbh,qbU,qbw,qaG,qaJ,qbS,qbK,qbB,qaW,qaS,qaN,qa4,qbq,qbA,qa1,qa2,qbN,qbH,qbl,qbM,qaI,qa9,qbP,qaX,qbc,qba,qaY,g86,hret,h0,ih]
           rewrite [qKU (k9018:=(fun (v148:List (Val qg))=>qdO N (IntKind.i64.wrap ((IntKind.i64.wrap (v133+(1:Int)))+(1:Int))) v4 v148 v6 v134 (fun (v155:List (Val qg))=>qce N v6 k0 n (IntKind.i64.wrap ((IntKind.i64.wrap ((IntKind.i64.wrap (v133+(1:Int)))+(1:Int)))+(1:Int))) (IntKind.i64.wrap (v4+(1:Int))) v155 v134) N)) N _ _ _ _ _ _ ?_ ?_]
           ·first | rfl | simp (maxSteps:=10000000) -implicitDefEqProofs [ih]
           ·rfl
           ·intro v148;simp (maxSteps:=10000000) -implicitDefEqProofs [qaR,qaq,qbR,qay,qa3,qav,qbr,qau,qaZ,qal,qaM,qa5,qa0,qax,qR,qbE,qaa,qm,q5,qaU,qaT,qbO,qbv,qbz,qbn,qa8,qbb,qaO,qbx,qbG,qaP,qby,qbV,qbf,qbQ,qbu,qbL,qaV,qbT,qaL,qbi,qbe,qa6,qbF,qbj,qbp,qbD,qaH,qbt,qbm,qa7,qbd,qbo,qbI,qbJ,qaQ,qbC,qbk,qbs,qbh,qbU,qbw,qaG,qaJ,qbS,qbK,qbB,qaW,qaS,qaN,qa4,qbq,qbA,qa1,qa2,qbN,qbH,qbl,qbM,qaI,qa9,qbP,qaX,qbc,qba,qaY,g86,hret,h0,ih]
            rewrite [qQ8 (k9020:=(fun (v155:List (Val qg))=>qce N v6 k0 n (IntKind.i64.wrap ((IntKind.i64.wrap ((IntKind.i64.wrap (v133+(1:Int)))+(1:Int)))+(1:Int))) (IntKind.i64.wrap (v4+(1:Int))) v155 v134)) N _ _ _ _ _ _ ?_ ?_]
            ·first | rfl | simp (maxSteps:=10000000) -implicitDefEqProofs [ih]
            ·rfl
            ·intro v155;simp (maxSteps:=10000000) -implicitDefEqProofs [qaR,qaq,qbR,qay,qa3,qav,qbr,qau,qaZ,qal,qaM,qa5,qa0,qax,qR,qbE,qaa,qm,q5,qaU,qaT,qbO,qbv,qbz,qbn,qa8,qbb,qaO,qbx,qbG,qaP,qby,qbV,qbf,qbQ,qbu,qbL,qaV,qbT,qaL,qbi,qbe,qa6,qbF,qbj,qbp,qbD,qaH,qbt,qbm,qa7,qbd,qbo,qbI,qbJ,qaQ,qbC,qbk,qbs,qbh,qbU,qbw,qaG,qaJ,qbS,qbK,qbB,qaW,qaS,qaN,qa4,qbq,qbA,qa1,qa2,qbN,qbH,qbl,qbM,qaI,qa9,qbP,qaX,qbc,qba,qaY,g86,hret,h0,ih]
theorem qKL (N:Nat) (F:List Nat) (v0:List (Val (hd qb))) (v1:List (Val qb)) (v2:Int):qe tt Γ32 (T32 N) (Try.f32.body.getD .skip) (qeV (qeO tt 120 qb qg F v0 [.tmp 4])) ⟨[.one (.own 0),.one (.int .i64 v2),.tup [],.tup [],.tup [],.tup [],.tup [],.tup [],.tup [],.tup [],.tup [],.tup [],.tup [],.tup [],.tup [],.tup [],.tup [],.tup [],.tup [],.tup [],.tup [],.tup [],.tup [],.tup [],.tup [],.tup [],.tup [],.tup [],.tup [],.tup [],.tup [],.tup [],.tup [],.tup [],.tup [],.tup [],.tup [],.tup [],.tup [],.tup [],.tup [],.tup [],.tup [],.tup [],.tup [],.tup [],.tup [],.tup [],.tup [],.tup [],.tup [],.tup [],.tup [],.tup [],.tup [],.tup [],.tup [],.tup [],.tup [],.tup [],.tup [],.tup [],.tup [],.tup [],.tup [],.tup [],.tup [],.tup [],.tup [],.tup [],.tup [],.tup [],.tup [],.tup [],.tup [],.tup [],.tup [],.tup [],.tup [],.tup [],.tup [],.tup [],.tup [],.tup [],.tup [],.tup [],.tup [],.tup [],.tup [],.tup []],[.row 120 qg v0 true true 0,.nst F qb v0 v1]⟩=m32 N v0 v1 v2:=by
 unfold Try.f32
 simp (maxSteps:=10000000) -implicitDefEqProofs [qaR,qaq,qbR,qay,qa3,qav,qbr,qau,qaZ,qal,qaM,qa5,qa0,qax,qR,qbE,qaa,qm,q5,qaU,qaT,qbO,qbv,qbz,qbn,qa8,qbb,qaO,qbx,qbG,qaP,qby,qbV,qbf,qbQ,qbu,qbL,qaV,qbT,qaL,qbi,qbe,qa6,qbF,qbj,qbp,qbD,qaH,qbt,qbm,qa7,qbd,qbo,qbI,qbJ,qaQ,qbC,qbk,qbs,qbh,qbU,qbw,qaG,qaJ,qbS,qbK,qbB,qaW,qaS,qaN,qa4,qbq,qbA,qa1,qa2,qbN,qbH,qbl,qbM,qaI,qa9,qbP,qaX,qbc,qba,qaY,g86]
 rewrite [qU7 (k0:=(fun (v159:Int) (v160:List (Val qg)) (v161:List (Val qb))=>some (v160,v161,v159))) N _ _ ?_ ?_ ?_]
 ·rewrite [m32];first | rfl | simp (maxSteps:=10000000) -implicitDefEqProofs []
 ·rfl
 ·intro;simp only [qK,qL,qN,qm]
 ·intro v159 v160 v161;simp (maxSteps:=10000000) -implicitDefEqProofs [qaR,qaq,qbR,qay,qa3,qav,qbr,qau,qaZ,qal,qaM,qa5,qa0,qax,qR,qbE,qaa,qm,q5,qaU,qaT,qbO,qbv,qbz,qbn,qa8,qbb,qaO,qbx,qbG,qaP,qby,qbV,qbf,qbQ,qbu,qbL,qaV,qbT,qaL,qbi,qbe,qa6,qbF,qbj,qbp,qbD,qaH,qbt,qbm,qa7,qbd,qbo,qbI,qbJ,qaQ,qbC,qbk,qbs,qbh,qbU,qbw,qaG,qaJ,qbS,qbK,qbB,qaW,qaS,qaN,qa4,qbq,qbA,qa1,qa2,qbN,qbH,qbl,qbM,qaI,qa9,qbP,qaX,qbc,qba,qaY,g86]
theorem qfw {α:Type} {s:List α} {i:Nat} {a d:α} (h:i<s.length):(s.set i a).getD i d=a:=by simp [List.getD,h]
theorem e32 (hs:List (Val (hd qb))) (xs:List (Val qb)) (k:Int) (h:qrF xs k) (hl:xs.length=hs.length) (hmx:qG qb xs hs=hs):
 ∃N vs,vs.map (q8 qb)=(qtd xs k).map (q8 qb)∧m32 N hs xs k=some (qG qb (qtd xs k) hs,vs,qk6 xs k):=by
 refine ⟨xs.length+1,?_⟩
 rw [m32]
 refine qpq (t:=qb) (F:=fun n i k ys vs=>qce _ hs _ n k i ys vs) (kf:=fun k ys vs=>some (ys,vs,k)) xs hl hmx (by rw [←hl];exact h.1.1) (fun n i k fs vs hi hh hv hk l1 l2 hsl ⟨hx,hfx⟩=> ?_) (fun n i k ys vs hl hi=> ?_) _ k h.2 (Nat.lt_succ_self _)
 ·have hy:(qG qb fs hs).length=hs.length:=qiH l1
  have e1:vs[i].2.1.1=fs[i].2.1.1:=(Prod.mk.inj (Prod.mk.inj (Prod.mk.inj hsl).2).1).1
  have e2:vs[i].2.2.2.2.1=fs[i].2.2.2.2.1:=(Prod.mk.inj (Prod.mk.inj (Prod.mk.inj (Prod.mk.inj (Prod.mk.inj hsl).2).2).2).2).1
  have bx:=h.1.2 _ (List.getElem_mem hx)
  rw [←hfx]at bx
  have b1: ∀j,j≤9223372036854775807→qfp vs[i].2.1.1 j:=fun j hj=>⟨by rw [e1];exact bx.2.1.1,hj⟩
  have b2: ∀j,j≤9223372036854775807→qfp vs[i].2.2.2.2.1 j:=fun j hj=>⟨by rw [e2];exact bx.2.2.2.2.1,hj⟩
  generalize hk1:IntKind.i64.wrap (k+1)=k1
  have k1le:k1≤9223372036854775807:=by rw [←hk1];exact qf4 _
  generalize hkA:qck vs[i].2.1.1 k1=kA
  generalize hk5:IntKind.i64.wrap (IntKind.i64.wrap (IntKind.i64.wrap (IntKind.i64.wrap (kA+1)+1)+1)+1)=k5
  have k5le:k5≤9223372036854775807:=by rw [←hk5];exact qf4 _
  refine ⟨(vs[i].1,((qbY vs[i].2.1.1 k1,vs[i].2.1.2),(vs[i].2.2.1,(vs[i].2.2.2.1,(qbY vs[i].2.2.2.2.1 k5,vs[i].2.2.2.2.2))))),?_,?_⟩
  ·show ((0,((qbY vs[i].2.1.1 k1,(0,false)),(ByteArray.empty,(ByteArray.empty,(qbY vs[i].2.2.2.2.1 k5,(0,(0,0))))))):Val qb)=q8 qb (mkE qb fs[i] k).1
   rw [←hk5,←hkA,←hk1,e1,e2];rfl
  ·have gmx: ∀d,(qG qb fs hs).getD i d=qar qb fs[i] hs[i]:=fun d=>by have:=qru hi hh l1 d;rwa [Int.toNat_natCast]at this
   have hs1: ∀(s:List (Val qg)) (a:Val qg),s.length=hs.length→(0:Int)≤(i:Int)∧(i:Int)<((s.set i a).length:Int):=fun s a hs=>by rw [List.length_set];omega
   have hs2: ∀(s:List (Val qg)) (a:Val qg),s.length=hs.length→i<(s.set i a).length:=fun s a hs=>by rw [List.length_set];omega
   rw [qce,qj (by omega),qq2,qd (by omega),qd (by omega),Int.toNat_natCast,gmx]
   rw [qkU,qd (hs1 _ _ hy),Int.toNat_natCast,qd (hs2 _ _ hy),qhl hv,qhl hh,qfw (by omega),hk1,qd ⟨by omega,by omega,rfl,b1 k1 k1le⟩,hkA]
   try dsimp only
   rw [qjQ,qd (hs1 _ _ hy),Int.toNat_natCast,qd (hs2 _ _ hy),List.set_set,qfw (by omega)]
   try dsimp only
   rw [qhG,qd (by decide),qd (hs1 _ _ hy),Int.toNat_natCast,qd (hs2 _ _ hy),List.set_set,qfw (by omega)]
   try dsimp only
   rw [qgE,qd (show qe6 _ from qf4 _),qd (hs1 _ _ hy),Int.toNat_natCast,qd (hs2 _ _ hy),List.set_set,qfw (by omega)]
   try dsimp only
   rw [qgl,qd (show qe6 _ from qf4 _),qd (hs1 _ _ hy),Int.toNat_natCast,qd (hs2 _ _ hy),List.set_set,qfw (by omega)]
   try dsimp only
   rw [qfE,qd (hs1 _ _ hy),Int.toNat_natCast,qd (hs2 _ _ hy),qhl hh,qfw (by omega),qfw (by omega),hk5,qd ⟨by rw [List.length_set];omega,by omega,rfl,b2 k5 k5le⟩]
   try dsimp only
   rw [qfg,qd (hs1 _ _ hy),Int.toNat_natCast,qd (hs2 _ _ hy),List.set_set,qfw (by omega)]
   try dsimp only
   rw [qeQ,qd (hs1 _ _ hy),Int.toNat_natCast,qd (hs2 _ _ hy),List.set_set,qfw (by omega)]
   try dsimp only
   rw [qdO,qd (hs1 _ _ hy),Int.toNat_natCast,qd (hs2 _ _ hy),List.set_set,qfw (by omega),List.set_set]
   try dsimp only
   rw [←qsq hh l1,←hk5,←hkA,←hk1,e1,e2]
   rfl
 ·rw [qce,qh (by omega)]
theorem qOi:SoundMs Try.prog 32 qDU:=qsJ (tt:=tt) (Γ:=Γ32) hT (ql s86 qt) hm (fn:=Try.f32) Try.func32 (c:=Try.f32.body.getD .skip) (by kernel_rfl) (by kernel_rfl) fun xs hs n F hx hl hmx=>by
 obtain ⟨N,vs,h1,h2⟩:=e32 hs xs n hx hl hmx
 exact ⟨T32 N,vs,rfl,p32,⟨qkg qkh (qli qsN (qli qsN qjK)),qNc N⟩,h1,(qKL N F hs xs n).trans h2⟩
end Go.T
