/- The library's Concat at names of atoms. -/
import Derived.Test.YthefcjjgchekiaaGreatE2
set_option linter.unusedSimpArgs false
set_option linter.unusedVariables false
namespace Go.T
open Go Go.Proofs
set_option maxHeartbeats 4000000
set_option maxRecDepth 100000
theorem zd6:(Own1.gr 108 (hd qa)).Ok Tryz.prog 284:=
 q6S Tryz.growL rfl ⟨_,Tryz.func284,by kernel_rfl,by kernel_rfl⟩ hTH (ti:=qLn) rfl
def qm5 (xss:List (List (Val (hd qa)))):List (Val (hd qa)):=xss.flatten
def qE8 (xss:List (List (Val (hd qa)))):Prop:=xss.length≤1048576∧(qm5 xss).length≤1048576
def qi3:G:={ps:=[qCx],rs:=[qbZ],dp:=true,pre:=fun x=>qE8 x.1,fn:=fun x=>(qm5 x.1,())}
noncomputable def qir (N:Nat) (v1:List (Val (.slice 108 (hd qa)))) (v3:List (Val (.slice 108 (hd qa)))) (v4:Int) (k0:Int→Option (qc [qbZ])):Nat→Int→Int→Option (qc [qbZ])
 | 0,_,_=>none
 | n+1,v2,v5=>bif (decide (v5<v4))then (chk (0≤v5∧v5<(v3.length:Int)) (bif (decide ((IntKind.i64.wrap (v2+(((v3.getD v5.toNat (qb (.slice 108 (hd qa)))):List (Val (hd qa))).length:Int)))<(0:Int)))then (none)else (qir N v1 v3 v4 k0 n (IntKind.i64.wrap (v2+(((v3.getD v5.toNat (qb (.slice 108 (hd qa)))):List (Val (hd qa))).length:Int))) (IntKind.i64.wrap (v5+(1:Int))))))else (k0 v2)
noncomputable def qhh (N:Nat) (v8:List (Val (.slice 108 (hd qa)))) (v9:Int) (k2:(List (Val (hd qa)))→Option (qc [qbZ])):Nat→Int→(List (Val (hd qa)))→Option (qc [qbZ])
 | 0,_,_=>none
 | n+1,v10,v11=>bif (decide (v10<v9))then (chk (0≤v10∧v10<(v8.length:Int)) (chk (v11.length+((v8.getD v10.toNat (qb (.slice 108 (hd qa)))):List (Val (hd qa))).length≤1048576) (qhh N v8 v9 k2 n (IntKind.i64.wrap (v10+(1:Int))) (v11++((v8.getD v10.toNat (qb (.slice 108 (hd qa)))):List (Val (hd qa)))))))else (k2 v11)
noncomputable def qFs (N:Nat) (v0:List (Val (.slice 108 (hd qa)))):Option (qc [qbZ]):=qir N v0 v0 (v0.length:Int) (fun (v7:Int)=>chk (0≤v7∧v7≤1048576) (qhh N v0 (v0.length:Int) (fun (v13:List (Val (hd qa)))=>some (v13,())) N (0:Int) ([]:List (Val (hd qa))))) N (0:Int) (0:Int)
def qi0:Gam:=[]
def qsl:Nm:=⟨[true,false,false,true,false,false,false,false,false,true,true,true],[],false⟩
theorem qwo:qsl.zero=false:=rfl
theorem quE:qsl.fix=[]:=rfl
theorem qpY:qsl.keep=[true,false,false,true,false,false,false,false,false,true,true,true]:=rfl
def qxu:Nm:=⟨[false,false,false,false,false,false,true,false,false,false,false,false,false,false,false,false,false,false,false,false,false,false,false,false,false,true,true,true],[],false⟩
theorem qrv:qxu.zero=false:=rfl
theorem qyv:qxu.fix=[]:=rfl
theorem qvQ:qxu.keep=[false,false,false,false,false,false,true,false,false,false,false,false,false,false,false,false,false,false,false,false,false,false,false,false,false,true,true,true]:=rfl
def qGF:Nm:=⟨[true,false,false,true],[],false⟩
theorem qpP:qGF.zero=false:=rfl
theorem qqO:qGF.fix=[]:=rfl
theorem quH:qGF.keep=[true,false,false,true]:=rfl
def qCQ:Nm:=⟨[false,false,false,false,false,false,true],[],false⟩
theorem qrl:qCQ.zero=false:=rfl
theorem qs3:qCQ.fix=[]:=rfl
theorem qtx:qCQ.keep=[false,false,false,false,false,false,true]:=rfl
def qiL:Nat→Tree:=fun _=> .done
def qme:Nat→Nm:=fun i=>if i=3 then qsl else if i=11 then qxu else ⟨[],[],false⟩
noncomputable def qkJ:Sem:=qom [(284,.gr 108 (hd qa))]
def qmd:Nat→Option Jn:=fun _=>none
def qkH:Nat→Option Nm:=fun i=>if i=0 then some qGF else if i=2 then some qCQ else none
def qmC:Nat→Option Nm:=fun _=>none
theorem zfD:qh qiL (Tryz.f219.body.getD .skip)=true:=by kernel_rfl
noncomputable def qcp (N:Nat):Tab:={tr:=qiL,lp:=qme,ex:=qkH,rg:=qmC,jn:=qmd,fuel:=N,sem:=qkJ}
theorem qxs (N:Nat):(qcp N).pins=false:=rfl
theorem zr3 (N:Nat):qk Tryz.prog (qcp N):=qo fun _=>rfl
theorem quG (N:Nat):(qcp N).sem=qkJ:=rfl
theorem qtL (N:Nat) (i:Nat):(qcp N).tr i=qiL i:=rfl
theorem qx4 (N:Nat) (i:Nat):(qcp N).lp i=qme i:=rfl
theorem qyF (N:Nat) (i:Nat):(qcp N).ex i=qkH i:=rfl
theorem quP (N:Nat) (i:Nat):(qcp N).rg i=qmC i:=rfl
theorem qtm (N:Nat) (i:Nat):(qcp N).jn i=qmd i:=rfl
theorem qqG (N:Nat):(qcp N).fuel=N:=rfl
noncomputable def q6b:Code:=cut [true,true,false,true,true,true] (Tryz.f219.body.getD .skip)
theorem zdd {N:Nat} {Q:X→St→Option (qc [qbZ])} {e:List LV} {h:List Blk}:qf ttH qi0 (qcp N) q6b Q ⟨e,h⟩=qf ttH qi0 (qcp N) (cut [true,true,false,true,true,true] (Tryz.f219.body.getD .skip)) Q ⟨e,h⟩:=rfl
theorem zvN (N:Nat) (v1:List (Val (.slice 108 (hd qa)))) (v3:List (Val (.slice 108 (hd qa)))) (v4:Int) {k0:Int→Option (qc [qbZ])} {Q:X→St→Option (qc [qbZ])} {c:Code} (hc:c=q6b) (hret: ∀st,Q .ret st=qC ttH true [qbZ] [.tmp 2] st) (h0: ∀(v6:Int),Q (.exit 0) ⟨[.one (.sl 31 (.slice 108 (hd qa)) v1 0),u,u,.one (.int .i64 v6),u,u,u,u,u,u,u,u,u,u,u,u,u,u,u,u,u,u,u,u,u,u,u,u,u,u,u,u,u,u,u,u],[]⟩=k0 v6): ∀(n:Nat) (v2:Int) (v5:Int),qD (qf ttH qi0 (qcp N) c) false qsl Q n ⟨[.one (.sl 31 (.slice 108 (hd qa)) v1 0),u,u,.one (.int .i64 v2),u,u,u,u,u,.one (.sl 31 (.slice 108 (hd qa)) v3 0),.one (.int .i64 v4),.one (.int .i64 v5),u,u,u,u,u,u,u,u,u,u,u,u,u,u,u,u,u,u,u,u,u,u,u,u],[]⟩=qir N v1 v3 v4 k0 n v2 v5:=by
 subst hc;intro n;induction n with
 | zero=>intros;rfl
 | succ n ih=>
   intro v2 v5
   rw [qN,zdd,qir];unfold Tryz.f219
   simp (maxSteps:=10000000) -implicitDefEqProofs [qtL,qiL,qx4,qme,qyF,qkH,quP,qmC,qtm,qmd,qqG,qxs,quG,qkJ,qaa,quE,qpY,qwo,qyv,qvQ,qrv,qqO,quH,qpP,qs3,qtx,qrl,hret,h0,ih]
noncomputable def q7X:Code:=cut [true,true,true,true,false,true,true,true] (Tryz.f219.body.getD .skip)
theorem zhl {N:Nat} {Q:X→St→Option (qc [qbZ])} {e:List LV} {h:List Blk}:qf ttH qi0 (qcp N) q7X Q ⟨e,h⟩=qf ttH qi0 (qcp N) (cut [true,true,true,true,false,true,true,true] (Tryz.f219.body.getD .skip)) Q ⟨e,h⟩:=rfl
theorem zld (N:Nat) (v8:List (Val (.slice 108 (hd qa)))) (v9:Int) {k2:(List (Val (hd qa)))→Option (qc [qbZ])} {Q:X→St→Option (qc [qbZ])} {c:Code} (hc:c=q7X) (hret: ∀st,Q .ret st=qC ttH true [qbZ] [.tmp 2] st) (h2: ∀(v12:List (Val (hd qa))),Q (.exit 2) ⟨[u,u,u,u,u,u,.one (.own 0),u,u,u,u,u,u,u,u,u,u,u,u,u,u,u,u,u,u,u,u,u,u,u,u,u,u,u,u,u],[.row 108 (hd qa) v12 true true 0]⟩=k2 v12): ∀(n:Nat) (v10:Int) (v11:List (Val (hd qa))),qD (qf ttH qi0 (qcp N) c) false qxu Q n ⟨[u,u,u,u,u,u,.one (.own 0),u,u,u,u,u,u,u,u,u,u,u,u,u,u,u,u,u,u,.one (.sl 31 (.slice 108 (hd qa)) v8 1),.one (.int .i64 v9),.one (.int .i64 v10),u,u,u,u,u,u,u,u],[.row 108 (hd qa) v11 true true 0]⟩=qhh N v8 v9 k2 n v10 v11:=by
 subst hc;intro n;induction n with
 | zero=>intros;rfl
 | succ n ih=>
   intro v10 v11
   rw [qN,zhl,qhh];unfold Tryz.f219
   simp (maxSteps:=10000000) -implicitDefEqProofs [qtL,qiL,qx4,qme,qyF,qkH,quP,qmC,qtm,qmd,qqG,qxs,quG,qkJ,qaa,quE,qpY,qwo,qyv,qvQ,qrv,qqO,quH,qpP,qs3,qtx,qrl,hret,h2,ih]
theorem ztT (N:Nat) (v0:List (Val (.slice 108 (hd qa)))):qf ttH qi0 (qcp N) (Tryz.f219.body.getD .skip) (qm ttH true [qbZ] [.tmp 2]) (qp [qCx] 36 (v0,()))=qFs N v0:=by
 unfold Tryz.f219
 simp (maxSteps:=10000000) -implicitDefEqProofs [qtL,qiL,qx4,qme,qyF,qkH,quP,qmC,qtm,qmd,qqG,qxs,quG,qkJ,qaa,quE,qpY,qwo,qyv,qvQ,qrv,qqO,quH,qpP,qs3,qtx,qrl]
 rewrite [zvN (k0:=(fun (v7:Int)=>chk (0≤v7∧v7≤1048576) (qhh N v0 (v0.length:Int) (fun (v13:List (Val (hd qa)))=>some (v13,())) N (0:Int) ([]:List (Val (hd qa)))))) N _ _ _ ?_ ?_ ?_]
 ·rewrite [qFs];first | rfl | simp (maxSteps:=10000000) -implicitDefEqProofs []
 ·rfl
 ·intro;simp only [qK,qL,qJ,qB]
 ·intro v7;simp (maxSteps:=10000000) -implicitDefEqProofs [qtL,qiL,qx4,qme,qyF,qkH,quP,qmC,qtm,qmd,qqG,qxs,quG,qkJ,qaa,quE,qpY,qwo,qyv,qvQ,qrv,qqO,quH,qpP,qs3,qtx,qrl]
  rewrite [zld (k2:=(fun (v13:List (Val (hd qa)))=>some (v13,()))) N _ _ ?_ ?_ ?_]
  ·first | rfl | simp (maxSteps:=10000000) -implicitDefEqProofs []
  ·rfl
  ·intro;simp only [qK,qL,qJ,qB]
  ·intro v13;simp (maxSteps:=10000000) -implicitDefEqProofs [qtL,qiL,qx4,qme,qyF,qkH,quP,qmC,qtm,qmd,qqG,qxs,quG,qkJ,qaa,quE,qpY,qwo,qyv,qvQ,qrv,qqO,quH,qpP,qs3,qtx,qrl]
theorem zeW (N:Nat) (xss:List (List (Val (hd qa)))) (K:Int→Option (qc [qbZ])) (hl:xss.length≤1048576) (n:Nat) (hn:xss.length<n) (s:Int):qir N xss xss xss.length K n s 0=qad (fun _ (x:List (Val (hd qa))) (s:Int) K=>bif decide (IntKind.i64.wrap (s+(x.length:Int))<0)then none else K (IntKind.i64.wrap (s+(x.length:Int)))) 0 xss s K:=
 qaZ (xs:=xss) (F:=fun n i s=>qir N xss xss xss.length K n s i) hl (fun n i s hi=>by rw [qir,qj (by omega),qe (by omega),qI hi]) (fun n i s hi=>by rw [qir,qi (by omega)]) n s hn
theorem zsy (N:Nat) (xss:List (List (Val (hd qa)))) (K:List (Val (hd qa))→Option (qc [qbZ])) (hl:xss.length≤1048576) (n:Nat) (hn:xss.length<n) (s:List (Val (hd qa))):qhh N xss xss.length K n 0 s=qad (fun _ (x:List (Val (hd qa))) (s:List (Val (hd qa))) K=>chk (s.length+x.length≤1048576) (K (s++x))) 0 xss s K:=
 qaZ (xs:=xss) (F:=fun n i s=>qhh N xss xss.length K n i s) hl (fun n i s hi=>by rw [qhh,qj (by omega),qe (by omega),qI hi]) (fun n i s hi=>by rw [qhh,qi (by omega)]) n s hn
theorem zkL (xss:List (List (Val (hd qa)))) (h:qE8 xss): ∃N,qFs N xss=some (qm5 xss,()):=⟨xss.length+1,by
 obtain ⟨hl,ht⟩:=h
 have ht':xss.flatten.length≤1048576:=ht
 rw [qFs,zeW _ _ _ hl _ (Nat.lt_succ_self _)]
 refine (qZs xss 0 0 (by simpa using ht')).trans ?_
 rw [qe (by omega),zsy _ _ _ hl _ (Nat.lt_succ_self _)]
 exact (q4m xss 0 [] (by simpa using ht')).trans rfl⟩
theorem zec:Sound Tryz.prog 219 qi3:=qr (tt:=ttH) (Γ:=qi0) hTH qn hm (fn:=Tryz.f219) Tryz.func219 (c:=Tryz.f219.body.getD .skip) (by kernel_rfl) (by kernel_rfl) fun x hx=>by
 obtain ⟨N,h⟩:=zkL x.1 hx
 exact ⟨qcp N,zfD,qJH (qOr zd6 qPn),zr3 N,(ztT N x.1).trans h⟩
end Go.T
