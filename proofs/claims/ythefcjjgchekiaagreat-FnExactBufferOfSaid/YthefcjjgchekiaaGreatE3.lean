/- The library's Concat at names of atoms. -/
import Derived.Test.YthefcjjgchekiaaGreatE2
set_option linter.unusedSimpArgs false
set_option linter.unusedVariables false
namespace Go.T
open Go Go.Proofs
set_option maxHeartbeats 4000000
set_option maxRecDepth 100000
theorem q32:(Own1.gr 108 (hd qa)).Ok Tryz.prog 284:=
 qS6 Tryz.growL rfl ⟨_,Tryz.func284,by kernel_rfl,by kernel_rfl⟩ hTH (ti:=qLz) rfl
def ql8 (xss:List (List (Val (hd qa)))):List (Val (hd qa)):=xss.flatten
def qwI (xss:List (List (Val (hd qa)))):Prop:=xss.length≤1048576∧(ql8 xss).length≤1048576
def qif:G:={ps:=[qxy],rs:=[qbj],dp:=true,pre:=fun x=>qwI x.1,fn:=fun x=>(ql8 x.1,())}
noncomputable def qhW (N:Nat) (v1:List (Val (.slice 108 (hd qa)))) (v3:List (Val (.slice 108 (hd qa)))) (v4:Int) (k0:Int→Option (qb [qbj])):Nat→Int→Int→Option (qb [qbj])
 | 0,_,_=>none
 | n+1,v2,v5=>bif (decide (v5<v4))then (chk (0≤v5∧v5<(v3.length:Int)) (bif (decide ((IntKind.i64.wrap (v2+(((v3.getD v5.toNat (qc (.slice 108 (hd qa)))):List (Val (hd qa))).length:Int)))<(0:Int)))then (none)else (qhW N v1 v3 v4 k0 n (IntKind.i64.wrap (v2+(((v3.getD v5.toNat (qc (.slice 108 (hd qa)))):List (Val (hd qa))).length:Int))) (IntKind.i64.wrap (v5+(1:Int))))))else (k0 v2)
noncomputable def qgW (N:Nat) (v8:List (Val (.slice 108 (hd qa)))) (v9:Int) (k2:(List (Val (hd qa)))→Option (qb [qbj])):Nat→Int→(List (Val (hd qa)))→Option (qb [qbj])
 | 0,_,_=>none
 | n+1,v10,v11=>bif (decide (v10<v9))then (chk (0≤v10∧v10<(v8.length:Int)) (chk (v11.length+((v8.getD v10.toNat (qc (.slice 108 (hd qa)))):List (Val (hd qa))).length≤1048576) (qgW N v8 v9 k2 n (IntKind.i64.wrap (v10+(1:Int))) (v11++((v8.getD v10.toNat (qc (.slice 108 (hd qa)))):List (Val (hd qa)))))))else (k2 v11)
noncomputable def qwy (N:Nat) (v0:List (Val (.slice 108 (hd qa)))):Option (qb [qbj]):=qhW N v0 v0 (v0.length:Int) (fun (v7:Int)=>chk (0≤v7∧v7≤1048576) (qgW N v0 (v0.length:Int) (fun (v13:List (Val (hd qa)))=>some (v13,())) N (0:Int) ([]:List (Val (hd qa))))) N (0:Int) (0:Int)
def qic:Gam:=[]
def qrz:Nm:=⟨[true,false,false,true,false,false,false,false,false,true,true,true],[],false⟩
theorem qtm:qrz.zero=false:=rfl
theorem quL:qrz.fix=[]:=rfl
theorem qs7:qrz.keep=[true,false,false,true,false,false,false,false,false,true,true,true]:=rfl
def qqv:Nm:=⟨[false,false,false,false,false,false,true,false,false,false,false,false,false,false,false,false,false,false,false,false,false,false,false,false,false,true,true,true],[],false⟩
theorem qt1:qqv.zero=false:=rfl
theorem qo7:qqv.fix=[]:=rfl
theorem qre:qqv.keep=[false,false,false,false,false,false,true,false,false,false,false,false,false,false,false,false,false,false,false,false,false,false,false,false,false,true,true,true]:=rfl
def qyX:Nm:=⟨[true,false,false,true],[],false⟩
theorem qoG:qyX.zero=false:=rfl
theorem qta:qyX.fix=[]:=rfl
theorem qqJ:qyX.keep=[true,false,false,true]:=rfl
def qAm:Nm:=⟨[false,false,false,false,false,false,true],[],false⟩
theorem qss:qAm.zero=false:=rfl
theorem qpf:qAm.fix=[]:=rfl
theorem qpK:qAm.keep=[false,false,false,false,false,false,true]:=rfl
def qin:Nat→Tree:=fun _=> .done
def qlx:Nat→Nm:=fun i=>if i=3 then qrz else if i=11 then qqv else ⟨[],[],false⟩
noncomputable def qlC:Sem:=qni [(284,.gr 108 (hd qa))]
def qjM:Nat→Option Jn:=fun _=>none
def qkP:Nat→Option Nm:=fun i=>if i=0 then some qyX else if i=2 then some qAm else none
def qlF:Nat→Option Nm:=fun _=>none
theorem zbn:qj qin (Tryz.f219.body.getD .skip)=true:=by kernel_rfl
noncomputable def qbC (N:Nat):Tab:={tr:=qin,lp:=qlx,ex:=qkP,rg:=qlF,jn:=qjM,fuel:=N,sem:=qlC}
theorem qs6 (N:Nat):(qbC N).pins=false:=rfl
theorem q3U (N:Nat):qn Tryz.prog (qbC N):=qr fun _=>rfl
theorem quk (N:Nat):(qbC N).sem=qlC:=rfl
theorem qp4 (N:Nat) (i:Nat):(qbC N).tr i=qin i:=rfl
theorem qpv (N:Nat) (i:Nat):(qbC N).lp i=qlx i:=rfl
theorem qov (N:Nat) (i:Nat):(qbC N).ex i=qkP i:=rfl
theorem qtg (N:Nat) (i:Nat):(qbC N).rg i=qlF i:=rfl
theorem qqr (N:Nat) (i:Nat):(qbC N).jn i=qjM i:=rfl
theorem qsQ (N:Nat):(qbC N).fuel=N:=rfl
noncomputable def qUl:Code:=cut [true,true,false,true,true,true] (Tryz.f219.body.getD .skip)
theorem q9x {N:Nat} {Q:X→St→Option (qb [qbj])} {e:List LV} {h:List Blk}:qd ttH qic (qbC N) qUl Q ⟨e,h⟩=qd ttH qic (qbC N) (cut [true,true,false,true,true,true] (Tryz.f219.body.getD .skip)) Q ⟨e,h⟩:=rfl
theorem zcP (N:Nat) (v1:List (Val (.slice 108 (hd qa)))) (v3:List (Val (.slice 108 (hd qa)))) (v4:Int) {k0:Int→Option (qb [qbj])} {Q:X→St→Option (qb [qbj])} {c:Code} (hc:c=qUl) (hret: ∀st,Q .ret st=qB ttH true [qbj] [.tmp 2] st) (h0: ∀(v6:Int),Q (.exit 0) ⟨[.one (.sl 31 (.slice 108 (hd qa)) v1 0),u,u,.one (.int .i64 v6),u,u,u,u,u,u,u,u,u,u,u,u,u,u,u,u,u,u,u,u,u,u,u,u,u,u,u,u,u,u,u,u],[]⟩=k0 v6): ∀(n:Nat) (v2:Int) (v5:Int),qC (qd ttH qic (qbC N) c) false qrz Q n ⟨[.one (.sl 31 (.slice 108 (hd qa)) v1 0),u,u,.one (.int .i64 v2),u,u,u,u,u,.one (.sl 31 (.slice 108 (hd qa)) v3 0),.one (.int .i64 v4),.one (.int .i64 v5),u,u,u,u,u,u,u,u,u,u,u,u,u,u,u,u,u,u,u,u,u,u,u,u],[]⟩=qhW N v1 v3 v4 k0 n v2 v5:=by
 subst hc;intro n;induction n with
 | zero=>intros;rfl
 | succ n ih=>
   intro v2 v5
   rw [qL,q9x,qhW];unfold Tryz.f219
   simp (maxSteps:=10000000) -implicitDefEqProofs [qp4,qin,qpv,qlx,qov,qkP,qtg,qlF,qqr,qjM,qsQ,qs6,quk,qlC,qP,quL,qs7,qtm,qo7,qre,qt1,qta,qqJ,qoG,qpf,qpK,qss,hret,h0,ih]
noncomputable def qSE:Code:=cut [true,true,true,true,false,true,true,true] (Tryz.f219.body.getD .skip)
theorem q45 {N:Nat} {Q:X→St→Option (qb [qbj])} {e:List LV} {h:List Blk}:qd ttH qic (qbC N) qSE Q ⟨e,h⟩=qd ttH qic (qbC N) (cut [true,true,true,true,false,true,true,true] (Tryz.f219.body.getD .skip)) Q ⟨e,h⟩:=rfl
theorem zaR (N:Nat) (v8:List (Val (.slice 108 (hd qa)))) (v9:Int) {k2:(List (Val (hd qa)))→Option (qb [qbj])} {Q:X→St→Option (qb [qbj])} {c:Code} (hc:c=qSE) (hret: ∀st,Q .ret st=qB ttH true [qbj] [.tmp 2] st) (h2: ∀(v12:List (Val (hd qa))),Q (.exit 2) ⟨[u,u,u,u,u,u,.one (.own 0),u,u,u,u,u,u,u,u,u,u,u,u,u,u,u,u,u,u,u,u,u,u,u,u,u,u,u,u,u],[.row 108 (hd qa) v12 true true 0]⟩=k2 v12): ∀(n:Nat) (v10:Int) (v11:List (Val (hd qa))),qC (qd ttH qic (qbC N) c) false qqv Q n ⟨[u,u,u,u,u,u,.one (.own 0),u,u,u,u,u,u,u,u,u,u,u,u,u,u,u,u,u,u,.one (.sl 31 (.slice 108 (hd qa)) v8 1),.one (.int .i64 v9),.one (.int .i64 v10),u,u,u,u,u,u,u,u],[.row 108 (hd qa) v11 true true 0]⟩=qgW N v8 v9 k2 n v10 v11:=by
 subst hc;intro n;induction n with
 | zero=>intros;rfl
 | succ n ih=>
   intro v10 v11
   rw [qL,q45,qgW];unfold Tryz.f219
   simp (maxSteps:=10000000) -implicitDefEqProofs [qp4,qin,qpv,qlx,qov,qkP,qtg,qlF,qqr,qjM,qsQ,qs6,quk,qlC,qP,quL,qs7,qtm,qo7,qre,qt1,qta,qqJ,qoG,qpf,qpK,qss,hret,h2,ih]
theorem zcb (N:Nat) (v0:List (Val (.slice 108 (hd qa)))):qd ttH qic (qbC N) (Tryz.f219.body.getD .skip) (qo ttH true [qbj] [.tmp 2]) (qt [qxy] 36 (v0,()))=qwy N v0:=by
 unfold Tryz.f219
 simp (maxSteps:=10000000) -implicitDefEqProofs [qp4,qin,qpv,qlx,qov,qkP,qtg,qlF,qqr,qjM,qsQ,qs6,quk,qlC,qP,quL,qs7,qtm,qo7,qre,qt1,qta,qqJ,qoG,qpf,qpK,qss]
 rewrite [zcP (k0:=(fun (v7:Int)=>chk (0≤v7∧v7≤1048576) (qgW N v0 (v0.length:Int) (fun (v13:List (Val (hd qa)))=>some (v13,())) N (0:Int) ([]:List (Val (hd qa)))))) N _ _ _ ?_ ?_ ?_]
 ·rewrite [qwy];first | rfl | simp (maxSteps:=10000000) -implicitDefEqProofs []
 ·rfl
 ·intro;simp only [qK,qI,qJ,qy]
 ·intro v7;simp (maxSteps:=10000000) -implicitDefEqProofs [qp4,qin,qpv,qlx,qov,qkP,qtg,qlF,qqr,qjM,qsQ,qs6,quk,qlC,qP,quL,qs7,qtm,qo7,qre,qt1,qta,qqJ,qoG,qpf,qpK,qss]
  rewrite [zaR (k2:=(fun (v13:List (Val (hd qa)))=>some (v13,()))) N _ _ ?_ ?_ ?_]
  ·first | rfl | simp (maxSteps:=10000000) -implicitDefEqProofs []
  ·rfl
  ·intro;simp only [qK,qI,qJ,qy]
  ·intro v13;simp (maxSteps:=10000000) -implicitDefEqProofs [qp4,qin,qpv,qlx,qov,qkP,qtg,qlF,qqr,qjM,qsQ,qs6,quk,qlC,qP,quL,qs7,qtm,qo7,qre,qt1,qta,qqJ,qoG,qpf,qpK,qss]
theorem q34 (N:Nat) (xss:List (List (Val (hd qa)))) (K:Int→Option (qb [qbj])) (hl:xss.length≤1048576) (n:Nat) (hn:xss.length<n) (s:Int):qhW N xss xss xss.length K n s 0=qO (fun _ (x:List (Val (hd qa))) (s:Int) K=>bif decide (IntKind.i64.wrap (s+(x.length:Int))<0)then none else K (IntKind.i64.wrap (s+(x.length:Int)))) 0 xss s K:=
 qaj (xs:=xss) (F:=fun n i s=>qhW N xss xss xss.length K n s i) hl (fun n i s hi=>by rw [qhW,ql (by omega),qe (by omega),qH hi]) (fun n i s hi=>by rw [qhW,qi (by omega)]) n s hn
theorem q3B (N:Nat) (xss:List (List (Val (hd qa)))) (K:List (Val (hd qa))→Option (qb [qbj])) (hl:xss.length≤1048576) (n:Nat) (hn:xss.length<n) (s:List (Val (hd qa))):qgW N xss xss.length K n 0 s=qO (fun _ (x:List (Val (hd qa))) (s:List (Val (hd qa))) K=>chk (s.length+x.length≤1048576) (K (s++x))) 0 xss s K:=
 qaj (xs:=xss) (F:=fun n i s=>qgW N xss xss.length K n i s) hl (fun n i s hi=>by rw [qgW,ql (by omega),qe (by omega),qH hi]) (fun n i s hi=>by rw [qgW,qi (by omega)]) n s hn
theorem q3L (xss:List (List (Val (hd qa)))) (h:qwI xss): ∃N,qwy N xss=some (ql8 xss,()):=⟨xss.length+1,by
 obtain ⟨hl,ht⟩:=h
 have ht':xss.flatten.length≤1048576:=ht
 rw [qwy,q34 _ _ _ hl _ (Nat.lt_succ_self _)]
 refine (qNf xss 0 0 (by simpa using ht')).trans ?_
 rw [qe (by omega),q3B _ _ _ hl _ (Nat.lt_succ_self _)]
 exact (qFU xss 0 [] (by simpa using ht')).trans rfl⟩
theorem qWu:Sound Tryz.prog 219 qif:=qu (tt:=ttH) (Γ:=qic) hTH qq hm (fn:=Tryz.f219) Tryz.func219 (c:=Tryz.f219.body.getD .skip) (by kernel_rfl) (by kernel_rfl) fun x hx=>by
 obtain ⟨N,h⟩:=q3L x.1 hx
 exact ⟨qbC N,zbn,qED (qHF q32 qHN),q3U N,(zcb N x.1).trans h⟩
end Go.T
