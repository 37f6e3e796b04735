/- Free variables: what the program's and the reference's functions compute. -/
import Derived.Test.YtlhkmndfkjlodaaH20
set_option linter.unusedSimpArgs false
set_option linter.unusedVariables false
namespace Go.T
open Go Go.Proofs
set_option maxHeartbeats 4000000
set_option maxRecDepth 100000
def qdv (k:Nat) (f:List (Val qb)) (i:Int):Prop:=fOk f∧0≤i∧i<f.length∧i<k
def qrx (f:List (Val qb)) (i:Int):Prop:=fOk f∧0≤i∧i<f.length
theorem qJ0 (f:List (Val qb)) (i:Int) (h:qrx f i): ∃k,qdv k f i:=⟨i.toNat+1,h.1,h.2.1,h.2.2,by have:=h.2.1;omega⟩
theorem qQ0 (f:List (Val qb)) (i:Int): ¬qdv 0 f i:=fun h=>by have:=h.2.1;have:=h.2.2.2;omega
def g83:G:={ps:=[i65,i3],rs:=[qae],dp:=true,pre:=fun x=>qrx x.1 x.2.1,fn:=fun x=>(qu x.1 x.2.1,())}
def qfH (k:Nat):G:={ps:=[i65,i3],rs:=[qae],dp:=true,pre:=fun x=>qdv k x.1 x.2.1,fn:=fun x=>(qu x.1 x.2.1,())}
noncomputable def qgQ (N:RN) (v2:List (Val (.int .i64))) (v3:Int) (v5:Bool) (v6:Bool) (v7:Bool) (v8:Bool) (k1:Bool→Bool→Bool→Bool→Option (qc [qae])):Nat→Int→Bool→Bool→Bool→Bool→Option (qc [qae])
 | 0,_,_,_,_,_=>none
 | n+1,v4,v9,v10,v11,v12=>bif (decide (v4<v3))then (chk (0≤v4∧v4<(v2.length:Int)) (chk (0≤v4∧v4<4) (chk (v4.toNat<4) (qgQ N v2 v3 v5 v6 v7 v8 k1 n (IntKind.i64.wrap (v4+(1:Int))) (qao v4.toNat (!(decide (((v2.getD v4.toNat (qa (.int .i64))):Int)=(0:Int)))) 0 v9) (qao v4.toNat (!(decide (((v2.getD v4.toNat (qa (.int .i64))):Int)=(0:Int)))) 1 v10) (qao v4.toNat (!(decide (((v2.getD v4.toNat (qa (.int .i64))):Int)=(0:Int)))) 2 v11) (qao v4.toNat (!(decide (((v2.getD v4.toNat (qa (.int .i64))):Int)=(0:Int)))) 3 v12)))))else (k1 v9 v10 v11 v12)
noncomputable def qgH (N:RN) (v21:List (Val (.int .i64))) (v22:Int) (v24:Bool) (v25:Bool) (v26:Bool) (v27:Bool) (k3:Bool→Bool→Bool→Bool→Option (qc [qae])):Nat→Int→Bool→Bool→Bool→Bool→Option (qc [qae])
 | 0,_,_,_,_,_=>none
 | n+1,v23,v28,v29,v30,v31=>bif (decide (v23<v22))then (chk (0≤v23∧v23<(v21.length:Int)) (chk (0≤((v21.getD v23.toNat (qa (.int .i64))):Int)∧((v21.getD v23.toNat (qa (.int .i64))):Int)<4) (chk (((v21.getD v23.toNat (qa (.int .i64))):Int).toNat<4) (qgH N v21 v22 v24 v25 v26 v27 k3 n (IntKind.i64.wrap (v23+(1:Int))) (qao (((v21.getD v23.toNat (qa (.int .i64))):Int).toNat) true 0 v28) (qao (((v21.getD v23.toNat (qa (.int .i64))):Int).toNat) true 1 v29) (qao (((v21.getD v23.toNat (qa (.int .i64))):Int).toNat) true 2 v30) (qao (((v21.getD v23.toNat (qa (.int .i64))):Int).toNat) true 3 v31)))))else (k3 v28 v29 v30 v31)
noncomputable def qfz (N:RN) (v40:Bool) (v41:Bool) (v42:Bool) (v43:Bool) (v45:Bool) (v46:Bool) (v47:Bool) (v48:Bool) (k5:Bool→Bool→Bool→Bool→Option (qc [qae])):Nat→Int→Bool→Bool→Bool→Bool→Option (qc [qae])
 | 0,_,_,_,_,_=>none
 | n+1,v44,v49,v50,v51,v52=>bif (decide (v44<(4:Int)))then (chk (0≤v44∧v44<4) (chk (0≤v44∧v44<4) (chk (v44.toNat<4) (bif (qcc v44.toNat 0 [v49,v50,v51,v52])then (chk (0≤v44∧v44<4) (chk (v44.toNat<4) (qfz N v40 v41 v42 v43 v45 v46 v47 v48 k5 n (IntKind.i64.wrap (v44+(1:Int))) (qao v44.toNat true 0 v49) (qao v44.toNat true 1 v50) (qao v44.toNat true 2 v51) (qao v44.toNat true 3 v52))))else (chk (0≤v44∧v44<4) (chk (v44.toNat<4) (qfz N v40 v41 v42 v43 v45 v46 v47 v48 k5 n (IntKind.i64.wrap (v44+(1:Int))) (qao v44.toNat (qcc v44.toNat 0 [v40,v41,v42,v43]) 0 v49) (qao v44.toNat (qcc v44.toNat 0 [v40,v41,v42,v43]) 1 v50) (qao v44.toNat (qcc v44.toNat 0 [v40,v41,v42,v43]) 2 v51) (qao v44.toNat (qcc v44.toNat 0 [v40,v41,v42,v43]) 3 v52))))))))else (k5 v49 v50 v51 v52)
noncomputable def m83 (N:RN) (v0:List (Val qb)) (v1:Int):Option (qc [qae]):=chk (0≤v1∧v1<(v0.length:Int)) (bif (decide (((v0.getD v1.toNat (qa qb)).1:Int)=(0:Int)))then (qgQ N ((((v0.getD v1.toNat (qa qb)).2).1).1:List (Val (.int .i64))) (((((v0.getD v1.toNat (qa qb)).2).1).1:List (Val (.int .i64))).length:Int) false false false false (fun (v17:Bool) (v18:Bool) (v19:Bool) (v20:Bool)=>some ((v17,v18,v19,v20),())) N (0:Int) false false false false)else (bif (decide (((v0.getD v1.toNat (qa qb)).1:Int)=(1:Int)))then (qgH N ((((((v0.getD v1.toNat (qa qb)).2).2).2).2).1:List (Val (.int .i64))) (((((((v0.getD v1.toNat (qa qb)).2).2).2).2).1:List (Val (.int .i64))).length:Int) false false false false (fun (v36:Bool) (v37:Bool) (v38:Bool) (v39:Bool)=>some ((v36,v37,v38,v39),())) N (0:Int) false false false false)else (bif (decide (((v0.getD v1.toNat (qa qb)).1:Int)=(3:Int)))then (chk (qdv N.k v0 ((((((((v0.getD v1.toNat (qa qb)).2).2).2).2).2).2).1:Int)) (chk (qdv N.k v0 ((((((((v0.getD v1.toNat (qa qb)).2).2).2).2).2).2).2:Int)) (qfz N ((qu v0 ((((((((v0.getD v1.toNat (qa qb)).2).2).2).2).2).2).2:Int)).1:Bool) (((qu v0 ((((((((v0.getD v1.toNat (qa qb)).2).2).2).2).2).2).2:Int)).2).1:Bool) ((((qu v0 ((((((((v0.getD v1.toNat (qa qb)).2).2).2).2).2).2).2:Int)).2).2).1:Bool) ((((qu v0 ((((((((v0.getD v1.toNat (qa qb)).2).2).2).2).2).2).2:Int)).2).2).2:Bool) false false false false (fun (v57:Bool) (v58:Bool) (v59:Bool) (v60:Bool)=>some ((v57,v58,v59,v60),())) N (0:Int) ((qu v0 ((((((((v0.getD v1.toNat (qa qb)).2).2).2).2).2).2).1:Int)).1:Bool) (((qu v0 ((((((((v0.getD v1.toNat (qa qb)).2).2).2).2).2).2).1:Int)).2).1:Bool) ((((qu v0 ((((((((v0.getD v1.toNat (qa qb)).2).2).2).2).2).2).1:Int)).2).2).1:Bool) ((((qu v0 ((((((((v0.getD v1.toNat (qa qb)).2).2).2).2).2).2).1:Int)).2).2).2:Bool))))else (bif (decide (((v0.getD v1.toNat (qa qb)).1:Int)=(4:Int)))then (chk (qdv N.k v0 ((((((((v0.getD v1.toNat (qa qb)).2).2).2).2).2).2).1:Int)) (chk (qdv N.k v0 ((((((((v0.getD v1.toNat (qa qb)).2).2).2).2).2).2).2:Int)) (qfz N ((qu v0 ((((((((v0.getD v1.toNat (qa qb)).2).2).2).2).2).2).2:Int)).1:Bool) (((qu v0 ((((((((v0.getD v1.toNat (qa qb)).2).2).2).2).2).2).2:Int)).2).1:Bool) ((((qu v0 ((((((((v0.getD v1.toNat (qa qb)).2).2).2).2).2).2).2:Int)).2).2).1:Bool) ((((qu v0 ((((((((v0.getD v1.toNat (qa qb)).2).2).2).2).2).2).2:Int)).2).2).2:Bool) false false false false (fun (v61:Bool) (v62:Bool) (v63:Bool) (v64:Bool)=>some ((v61,v62,v63,v64),())) N (0:Int) ((qu v0 ((((((((v0.getD v1.toNat (qa qb)).2).2).2).2).2).2).1:Int)).1:Bool) (((qu v0 ((((((((v0.getD v1.toNat (qa qb)).2).2).2).2).2).2).1:Int)).2).1:Bool) ((((qu v0 ((((((((v0.getD v1.toNat (qa qb)).2).2).2).2).2).2).1:Int)).2).2).1:Bool) ((((qu v0 ((((((((v0.getD v1.toNat (qa qb)).2).2).2).2).2).2).1:Int)).2).2).2:Bool))))else (bif (decide (((v0.getD v1.toNat (qa qb)).1:Int)=(2:Int)))then (chk (qdv N.k v0 ((((((((v0.getD v1.toNat (qa qb)).2).2).2).2).2).2).1:Int)) (some ((((qu v0 ((((((((v0.getD v1.toNat (qa qb)).2).2).2).2).2).2).1:Int)).1:Bool),(((qu v0 ((((((((v0.getD v1.toNat (qa qb)).2).2).2).2).2).2).1:Int)).2).1:Bool),((((qu v0 ((((((((v0.getD v1.toNat (qa qb)).2).2).2).2).2).2).1:Int)).2).2).1:Bool),((((qu v0 ((((((((v0.getD v1.toNat (qa qb)).2).2).2).2).2).2).1:Int)).2).2).2:Bool)),())))else (chk (qdv N.k v0 ((((((((v0.getD v1.toNat (qa qb)).2).2).2).2).2).2).1:Int)) (chk (0≤(((((((v0.getD v1.toNat (qa qb)).2).2).2).2).2).1:Int)∧(((((((v0.getD v1.toNat (qa qb)).2).2).2).2).2).1:Int)<4) (chk ((((((((v0.getD v1.toNat (qa qb)).2).2).2).2).2).1:Int).toNat<4) (some (((qao ((((((((v0.getD v1.toNat (qa qb)).2).2).2).2).2).1:Int).toNat) false 0 ((qu v0 ((((((((v0.getD v1.toNat (qa qb)).2).2).2).2).2).2).1:Int)).1:Bool)),(qao ((((((((v0.getD v1.toNat (qa qb)).2).2).2).2).2).1:Int).toNat) false 1 (((qu v0 ((((((((v0.getD v1.toNat (qa qb)).2).2).2).2).2).2).1:Int)).2).1:Bool)),(qao ((((((((v0.getD v1.toNat (qa qb)).2).2).2).2).2).1:Int).toNat) false 2 ((((qu v0 ((((((((v0.getD v1.toNat (qa qb)).2).2).2).2).2).2).1:Int)).2).2).1:Bool)),(qao ((((((((v0.getD v1.toNat (qa qb)).2).2).2).2).2).1:Int).toNat) false 3 ((((qu v0 ((((((((v0.getD v1.toNat (qa qb)).2).2).2).2).2).2).1:Int)).2).2).2:Bool))),()))))))))))
def Γ83 (k:Nat):Gam:=[(83,(qfH k))]
theorem qiw (k:Nat):Gam.get (Γ83 k) 83=some (qfH k):=rfl
def qmi:Nm:=⟨[false,false,false,false,true,false,true,false,false,false,false,false,false,false,false,false,false,false,false,false,false,false,false,false,false,false,false,false,false,false,false,true,true,true],[],false⟩
theorem qiO:qmi.zero=false:=rfl
theorem qhD:qmi.fix=[]:=rfl
theorem qim:qmi.keep=[false,false,false,false,true,false,true,false,false,false,false,false,false,false,false,false,false,false,false,false,false,false,false,false,false,false,false,false,false,false,false,true,true,true]:=rfl
def qpg:Nm:=⟨[false,false,false,false,true,false,true,false,false,false,false,false,false,false,false,false,false,false,false,false,false,false,false,false,false,false,false,false,false,false,false,false,false,false,false,false,false,false,false,false,false,false,false,false,false,false,true,true,true],[],false⟩
theorem qh9:qpg.zero=false:=rfl
theorem qhS:qpg.fix=[]:=rfl
theorem qiI:qpg.keep=[false,false,false,false,true,false,true,false,false,false,false,false,false,false,false,false,false,false,false,false,false,false,false,false,false,false,false,false,false,false,false,false,false,false,false,false,false,false,false,false,false,false,false,false,false,false,true,true,true]:=rfl
def ql2:Nm:=⟨[false,false,false,false,true,false,true,false,false,false,false,false,false,false,false,false,false,false,false,false,false,false,false,false,false,false,false,false,false,false,false,false,false,false,false,false,false,false,false,false,false,false,false,false,false,false,false,false,false,false,false,false,false,false,false,false,false,false,false,false,false,false,false,false,false,true,true],[],false⟩
theorem qhr:ql2.zero=false:=rfl
theorem qhM:ql2.fix=[]:=rfl
theorem qhU:ql2.keep=[false,false,false,false,true,false,true,false,false,false,false,false,false,false,false,false,false,false,false,false,false,false,false,false,false,false,false,false,false,false,false,false,false,false,false,false,false,false,false,false,false,false,false,false,false,false,false,false,false,false,false,false,false,false,false,false,false,false,false,false,false,false,false,false,false,true,true]:=rfl
def qrG:Nm:=⟨[false,false,false,false,true,false,true],[],false⟩
theorem qij:qrG.zero=false:=rfl
theorem qh6:qrG.fix=[]:=rfl
theorem qho:qrG.keep=[false,false,false,false,true,false,true]:=rfl
def qsR:Nm:=⟨[false,false,false,false,true,false,true],[],false⟩
theorem qht:qsR.zero=false:=rfl
theorem qir:qsR.fix=[]:=rfl
theorem qhk:qsR.keep=[false,false,false,false,true,false,true]:=rfl
def qs7:Nm:=⟨[false,false,false,false,true,false,true],[],false⟩
theorem qiN:qs7.zero=false:=rfl
theorem qhI:qs7.fix=[]:=rfl
theorem qhp:qs7.keep=[false,false,false,false,true,false,true]:=rfl
def qge:Sem:=qkX tt [(126,4)] (qcN)
def qfj:Nat→Tree:=fun _=> .done
def qgg:Nat→Nm:=fun i=>if i=8 then qmi else if i=14 then qpg else if i=22 then ql2 else ⟨[],[],false⟩
def qfb:Nat→Option Jn:=fun i=>if i=2 then some .sf else if i=5 then some .sf else if i=10 then some .sf else if i=16 then some .sf else if i=23 then some .sf else if i=24 then some .sf else none
def qgr:Nat→Option Nm:=fun i=>if i=1 then some qrG else if i=3 then some qsR else if i=5 then some qs7 else none
def qf6:Nat→Option Nm:=fun _=>none
theorem p83:qn qfj (Try.f83.body.getD .skip)=true:=by kernel_rfl
def T83 (N:RN):Tab:={tr:=qfj,lp:=qgg,ex:=qgr,rg:=qf6,jn:=qfb,fuel:=N,sem:=qge}
theorem qie (N:RN):(T83 N).pins=false:=rfl
theorem qUZ (N:RN):qp Try.prog (T83 N):=fun id j t h ht=>by
 have h:qfb id=_:=h
 unfold qfb at h
 repeat' split at h
 all_goals first | (simp at h;done) | (simp only [Option.some.injEq]at h;subst h;simp [Jn.tb]at ht;done) | (simp only [Option.some.injEq]at h;subst h;simp only [Jn.tb,Option.some.injEq]at ht;subst ht;exact hTH)
theorem qh1 (N:RN):(T83 N).sem=qge:=rfl
theorem qhf (N:RN) (i:Nat):(T83 N).tr i=qfj i:=rfl
theorem qhi (N:RN) (i:Nat):(T83 N).lp i=qgg i:=rfl
theorem qik (N:RN) (i:Nat):(T83 N).ex i=qgr i:=rfl
theorem qhW (N:RN) (i:Nat):(T83 N).rg i=qf6 i:=rfl
theorem qii (N:RN) (i:Nat):(T83 N).jn i=qfb i:=rfl
theorem qix (N:RN):(T83 N).fuel=N:=rfl
noncomputable def qGb:Code:=cut [true,true,true,false,true,true,true,false,true,true,true] (Try.f83.body.getD .skip)
theorem qNV {N:RN} {Q:X→St→Option (qc [qae])} {e:List LV} {h:List Blk}:qe tt (Γ83 N.k) (T83 N) qGb Q ⟨e,h⟩=qe tt (Γ83 N.k) (T83 N) (cut [true,true,true,false,true,true,true,false,true,true,true] (Try.f83.body.getD .skip)) Q ⟨e,h⟩:=rfl
theorem qMo (N:RN) (v2:List (Val (.int .i64))) (v3:Int) (v5:Bool) (v6:Bool) (v7:Bool) (v8:Bool) {k1:Bool→Bool→Bool→Bool→Option (qc [qae])} {Q:X→St→Option (qc [qae])} {c:Code} (hc:c=qGb) (hret: ∀st,Q .ret st=qI tt true [qae] [.cell 4 126] st) (h1: ∀(v13:Bool) (v14:Bool) (v15:Bool) (v16:Bool),Q (.exit 1) ⟨[u,u,u,u,.one (.ptr 0 0 0),u,.one (.ptr 1 0 0),u,u,u,u,u,u,u,u,u,u,u,u,u,u,u,u,u,u,u,u,u,u,u,u,u,u,u,u,u,u,u,u,u,u,u,u,u,u,u,u,u,u,u,u,u,u,u,u,u,u,u,u,u,u,u,u,u,u,u,u,u,u,u,u,u,u,u,u,u,u,u,u,u,u,u,u,u,u,u],[.box [.bool v5,.bool v6,.bool v7,.bool v8],.box [.bool v13,.bool v14,.bool v15,.bool v16]]⟩=k1 v13 v14 v15 v16): ∀(n:Nat) (v4:Int) (v9:Bool) (v10:Bool) (v11:Bool) (v12:Bool),qC (qe tt (Γ83 N.k) (T83 N) c) false qmi Q n ⟨[u,u,u,u,.one (.ptr 0 0 0),u,.one (.ptr 1 0 0),u,u,u,u,u,u,u,u,u,u,u,u,u,u,u,u,u,u,u,u,u,u,u,u,.one (.sl 3 (.int .i64) v2 2),.one (.int .i64 v3),.one (.int .i64 v4),u,u,u,u,u,u,u,u,u,u,u,u,u,u,u,u,u,u,u,u,u,u,u,u,u,u,u,u,u,u,u,u,u,u,u,u,u,u,u,u,u,u,u,u,u,u,u,u,u,u,u,u],[.box [.bool v5,.bool v6,.bool v7,.bool v8],.box [.bool v9,.bool v10,.bool v11,.bool v12]]⟩=qgQ N v2 v3 v5 v6 v7 v8 k1 n v4 v9 v10 v11 v12:=by
 subst hc;intro n;induction n with
 | zero=>intros;rfl
 | succ n ih=>
   intro v4 v9 v10 v11 v12
   rw [qM,qNV,qgQ];unfold Try.f83
   simp (maxSteps:=10000000) -implicitDefEqProofs [qhf,qfj,qhi,qgg,qik,qgr,qhW,qf6,qii,qfb,qix,qie,qh1,qge,qR,qhD,qim,qiO,qhS,qiI,qh9,qhM,qhU,qhr,qh6,qho,qij,qir,qhk,qht,qhI,qhp,qiN,qiw,qfH,hret,h1,ih]
noncomputable def qGp:Code:=cut [true,true,true,false,true,true,true,true,true,false,true,true,true] (Try.f83.body.getD .skip)
theorem qSU {N:RN} {Q:X→St→Option (qc [qae])} {e:List LV} {h:List Blk}:qe tt (Γ83 N.k) (T83 N) qGp Q ⟨e,h⟩=qe tt (Γ83 N.k) (T83 N) (cut [true,true,true,false,true,true,true,true,true,false,true,true,true] (Try.f83.body.getD .skip)) Q ⟨e,h⟩:=rfl
theorem qOh (N:RN) (v21:List (Val (.int .i64))) (v22:Int) (v24:Bool) (v25:Bool) (v26:Bool) (v27:Bool) {k3:Bool→Bool→Bool→Bool→Option (qc [qae])} {Q:X→St→Option (qc [qae])} {c:Code} (hc:c=qGp) (hret: ∀st,Q .ret st=qI tt true [qae] [.cell 4 126] st) (h3: ∀(v32:Bool) (v33:Bool) (v34:Bool) (v35:Bool),Q (.exit 3) ⟨[u,u,u,u,.one (.ptr 0 0 0),u,.one (.ptr 1 0 0),u,u,u,u,u,u,u,u,u,u,u,u,u,u,u,u,u,u,u,u,u,u,u,u,u,u,u,u,u,u,u,u,u,u,u,u,u,u,u,u,u,u,u,u,u,u,u,u,u,u,u,u,u,u,u,u,u,u,u,u,u,u,u,u,u,u,u,u,u,u,u,u,u,u,u,u,u,u,u],[.box [.bool v24,.bool v25,.bool v26,.bool v27],.box [.bool v32,.bool v33,.bool v34,.bool v35]]⟩=k3 v32 v33 v34 v35): ∀(n:Nat) (v23:Int) (v28:Bool) (v29:Bool) (v30:Bool) (v31:Bool),qC (qe tt (Γ83 N.k) (T83 N) c) false qpg Q n ⟨[u,u,u,u,.one (.ptr 0 0 0),u,.one (.ptr 1 0 0),u,u,u,u,u,u,u,u,u,u,u,u,u,u,u,u,u,u,u,u,u,u,u,u,u,u,u,u,u,u,u,u,u,u,u,u,u,u,u,.one (.sl 3 (.int .i64) v21 2),.one (.int .i64 v22),.one (.int .i64 v23),u,u,u,u,u,u,u,u,u,u,u,u,u,u,u,u,u,u,u,u,u,u,u,u,u,u,u,u,u,u,u,u,u,u,u,u,u],[.box [.bool v24,.bool v25,.bool v26,.bool v27],.box [.bool v28,.bool v29,.bool v30,.bool v31]]⟩=qgH N v21 v22 v24 v25 v26 v27 k3 n v23 v28 v29 v30 v31:=by
 subst hc;intro n;induction n with
 | zero=>intros;rfl
 | succ n ih=>
   intro v23 v28 v29 v30 v31
   rw [qM,qSU,qgH];unfold Try.f83
   simp (maxSteps:=10000000) -implicitDefEqProofs [qhf,qfj,qhi,qgg,qik,qgr,qhW,qf6,qii,qfb,qix,qie,qh1,qge,qR,qhD,qim,qiO,qhS,qiI,qh9,qhM,qhU,qhr,qh6,qho,qij,qir,qhk,qht,qhI,qhp,qiN,qiw,qfH,hret,h3,ih]
noncomputable def qHA:Code:=cut [true,true,true,false,true,true,true,true,true,true,true,false,true,true,true,true] (Try.f83.body.getD .skip)
theorem qOb {N:RN} {Q:X→St→Option (qc [qae])} {e:List LV} {h:List Blk}:qe tt (Γ83 N.k) (T83 N) qHA Q ⟨e,h⟩=qe tt (Γ83 N.k) (T83 N) (cut [true,true,true,false,true,true,true,true,true,true,true,false,true,true,true,true] (Try.f83.body.getD .skip)) Q ⟨e,h⟩:=rfl
theorem qNB (N:RN) (v40:Bool) (v41:Bool) (v42:Bool) (v43:Bool) (v45:Bool) (v46:Bool) (v47:Bool) (v48:Bool) {k5:Bool→Bool→Bool→Bool→Option (qc [qae])} {Q:X→St→Option (qc [qae])} {c:Code} (hc:c=qHA) (hret: ∀st,Q .ret st=qI tt true [qae] [.cell 4 126] st) (h5: ∀(v53:Bool) (v54:Bool) (v55:Bool) (v56:Bool),Q (.exit 5) ⟨[u,u,u,u,.one (.ptr 0 0 0),u,.one (.ptr 1 0 0),u,u,u,u,u,u,u,u,u,u,u,u,u,u,u,u,u,u,u,u,u,u,u,u,u,u,u,u,u,u,u,u,u,u,u,u,u,u,u,u,u,u,u,u,u,u,u,u,u,u,u,u,u,u,u,u,u,u,u,u,u,u,u,u,u,u,u,u,u,u,u,u,u,u,u,u,u,u,u],[.box [.bool v45,.bool v46,.bool v47,.bool v48],.box [.bool v53,.bool v54,.bool v55,.bool v56]]⟩=k5 v53 v54 v55 v56): ∀(n:Nat) (v44:Int) (v49:Bool) (v50:Bool) (v51:Bool) (v52:Bool),qC (qe tt (Γ83 N.k) (T83 N) c) false ql2 Q n ⟨[u,u,u,u,.one (.ptr 0 0 0),u,.one (.ptr 1 0 0),u,u,u,u,u,u,u,u,u,u,u,u,u,u,u,u,u,u,u,u,u,u,u,u,u,u,u,u,u,u,u,u,u,u,u,u,u,u,u,u,u,u,u,u,u,u,u,u,u,u,u,u,u,u,u,u,u,u,.agg [.bool v40,.bool v41,.bool v42,.bool v43],.one (.int .i64 v44),u,u,u,u,u,u,u,u,u,u,u,u,u,u,u,u,u,u,u],[.box [.bool v45,.bool v46,.bool v47,.bool v48],.box [.bool v49,.bool v50,.bool v51,.bool v52]]⟩=qfz N v40 v41 v42 v43 v45 v46 v47 v48 k5 n v44 v49 v50 v51 v52:=by
 subst hc;intro n;induction n with
 | zero=>intros;rfl
 | succ n ih=>
   intro v44 v49 v50 v51 v52
   rw [qM,qOb,qfz];unfold Try.f83
   simp (maxSteps:=10000000) -implicitDefEqProofs [qhf,qfj,qhi,qgg,qik,qgr,qhW,qf6,qii,qfb,qix,qie,qh1,qge,qR,qhD,qim,qiO,qhS,qiI,qh9,qhM,qhU,qhr,qh6,qho,qij,qir,qhk,qht,qhI,qhp,qiN,qiw,qfH,hret,h5,ih]
theorem qTK (N:RN) (v0:List (Val qb)) (v1:Int):qe tt (Γ83 N.k) (T83 N) (Try.f83.body.getD .skip) (qr tt true [qae] [.cell 4 126]) (qv [i65,i3] 86 (v0,v1,()))=m83 N v0 v1:=by
 unfold Try.f83
 simp (maxSteps:=10000000) -implicitDefEqProofs [qhf,qfj,qhi,qgg,qik,qgr,qhW,qf6,qii,qfb,qix,qie,qh1,qge,qR,qhD,qim,qiO,qhS,qiI,qh9,qhM,qhU,qhr,qh6,qho,qij,qir,qhk,qht,qhI,qhp,qiN,qiw,qfH]
 rewrite [qMo (k1:=(fun (v17:Bool) (v18:Bool) (v19:Bool) (v20:Bool)=>some ((v17,v18,v19,v20),()))) N _ _ _ _ _ _ ?_ ?_ ?_]
 rewrite [qOh (k3:=(fun (v36:Bool) (v37:Bool) (v38:Bool) (v39:Bool)=>some ((v36,v37,v38,v39),()))) N _ _ _ _ _ _ ?_ ?_ ?_]
 rewrite [qNB (k5:=(fun (v57:Bool) (v58:Bool) (v59:Bool) (v60:Bool)=>some ((v57,v58,v59,v60),()))) N _ _ _ _ _ _ _ _ ?_ ?_ ?_]
 ·rewrite [m83];first | rfl | simp (maxSteps:=10000000) -implicitDefEqProofs []
 ·rfl
 ·intro;simp only [qK,qL,qN,qm]
 ·intro v57 v58 v59 v60;simp (maxSteps:=10000000) -implicitDefEqProofs [qhf,qfj,qhi,qgg,qik,qgr,qhW,qf6,qii,qfb,qix,qie,qh1,qge,qR,qhD,qim,qiO,qhS,qiI,qh9,qhM,qhU,qhr,qh6,qho,qij,qir,qhk,qht,qhI,qhp,qiN,qiw,qfH]
 ·rfl
 ·intro;simp only [qK,qL,qN,qm]
 ·intro v36 v37 v38 v39;simp (maxSteps:=10000000) -implicitDefEqProofs [qhf,qfj,qhi,qgg,qik,qgr,qhW,qf6,qii,qfb,qix,qie,qh1,qge,qR,qhD,qim,qiO,qhS,qiI,qh9,qhM,qhU,qhr,qh6,qho,qij,qir,qhk,qht,qhI,qhp,qiN,qiw,qfH]
 ·rfl
 ·intro;simp only [qK,qL,qN,qm]
 ·intro v17 v18 v19 v20;simp (maxSteps:=10000000) -implicitDefEqProofs [qhf,qfj,qhi,qgg,qik,qgr,qhW,qf6,qii,qfb,qix,qie,qh1,qge,qR,qhD,qim,qiO,qhS,qiI,qh9,qhM,qhU,qhr,qh6,qho,qij,qir,qhk,qht,qhI,qhp,qiN,qiw,qfH]
def qmB (x:B4):List (Val (.int .i64)):=(List.filter (fun k=>at4 x k) [0,1,2,3]).map fun (k:Nat)=>(k:Int)
def q4 (db:List (Val qf)) (f:List (Val qb)):List (Val (.int .i64))×Bool:=bif qcM db f then (qmB (qu f (f.length - 1)),true)else ([],false)
def qgX (db:List (Val qf)) (f:List (Val qb)):Prop:=qfx db f
def g28:G:={ps:=[i63,i65],rs:=[i27,i4],dp:=true,pre:=fun x=>qgX x.1 x.2.1,fn:=fun x=>((q4 x.1 x.2.1).1,(q4 x.1 x.2.1).2,())}
noncomputable def qga (N:Nat) (v2:Bool) (v3:Bool) (v4:Bool) (v5:Bool) (k0:(List (Val (.int .i64)))→Option (qc [i27,i4])):Nat→Int→(List (Val (.int .i64)))→Option (qc [i27,i4])
 | 0,_,_=>none
 | n+1,v6,v7=>bif (decide (v6<(4:Int)))then (chk (0≤v6∧v6<4) (bif (qcc v6.toNat 0 [v2,v3,v4,v5])then (chk (v7.length+([v6]:List (Val (.int .i64))).length≤1048576) (qga N v2 v3 v4 v5 k0 n (IntKind.i64.wrap (v6+(1:Int))) (v7++([v6]:List (Val (.int .i64))))))else (qga N v2 v3 v4 v5 k0 n (IntKind.i64.wrap (v6+(1:Int))) v7)))else (k0 v7)
noncomputable def m28 (N:Nat) (v0:List (Val qf)) (v1:List (Val qb)):Option (qc [i27,i4]):=chk (qfx v0 v1) (bif (!((qcM v0 v1):Bool))then (some (([]:List (Val (.int .i64))),false,()))else (chk (qrx v1 (IntKind.i64.wrap ((v1.length:Int) - (1:Int)))) (qga N ((qu v1 (IntKind.i64.wrap ((v1.length:Int) - (1:Int)))).1:Bool) (((qu v1 (IntKind.i64.wrap ((v1.length:Int) - (1:Int)))).2).1:Bool) ((((qu v1 (IntKind.i64.wrap ((v1.length:Int) - (1:Int)))).2).2).1:Bool) ((((qu v1 (IntKind.i64.wrap ((v1.length:Int) - (1:Int)))).2).2).2:Bool) (fun (v9:List (Val (.int .i64)))=>some (v9,true,())) N (0:Int) ([]:List (Val (.int .i64))))))
def Γ28:Gam:=[(82,g82),(83,g83)]
theorem qBa:Gam.get Γ28 82=some g82:=rfl
theorem qEO:Gam.get Γ28 83=some g83:=rfl
def qk8:Nm:=⟨[false,false,false,false,false,false,true,false,false,false,false,false,false,false,false,false,false,false,true,true],[],false⟩
theorem qvr:qk8.zero=false:=rfl
theorem qBb:qk8.fix=[]:=rfl
theorem qDZ:qk8.keep=[false,false,false,false,false,false,true,false,false,false,false,false,false,false,false,false,false,false,true,true]:=rfl
def qra:Nm:=⟨[false,false,false,false,false,false,true],[],false⟩
theorem qDh:qra.zero=false:=rfl
theorem qEe:qra.fix=[]:=rfl
theorem qvn:qra.keep=[false,false,false,false,false,false,true]:=rfl
def qn2:Sem:=qkX tt [(126,4)] (qcN)
def qkn:Nat→Tree:=fun _=> .done
def qm2:Nat→Nm:=fun i=>if i=5 then qk8 else ⟨[],[],false⟩
def qif:Nat→Option Jn:=fun i=>if i=6 then some .sf else none
def qot:Nat→Option Nm:=fun i=>if i=0 then some qra else none
def qoP:Nat→Option Nm:=fun _=>none
theorem p28:qn qkn (Try.f28.body.getD .skip)=true:=by kernel_rfl
def T28 (N:Nat):Tab:={tr:=qkn,lp:=qm2,ex:=qot,rg:=qoP,jn:=qif,fuel:=N,sem:=qn2}
theorem quX (N:Nat):(T28 N).pins=false:=rfl
theorem qPv (N:Nat):qp Try.prog (T28 N):=fun id j t h ht=>by
 have h:qif id=_:=h
 unfold qif at h
 repeat' split at h
 all_goals first | (simp at h;done) | (simp only [Option.some.injEq]at h;subst h;simp [Jn.tb]at ht;done) | (simp only [Option.some.injEq]at h;subst h;simp only [Jn.tb,Option.some.injEq]at ht;subst ht;exact hTH)
theorem qus (N:Nat):(T28 N).sem=qn2:=rfl
theorem qAV (N:Nat) (i:Nat):(T28 N).tr i=qkn i:=rfl
theorem qAI (N:Nat) (i:Nat):(T28 N).lp i=qm2 i:=rfl
theorem qB8 (N:Nat) (i:Nat):(T28 N).ex i=qot i:=rfl
theorem que (N:Nat) (i:Nat):(T28 N).rg i=qoP i:=rfl
theorem qxC (N:Nat) (i:Nat):(T28 N).jn i=qif i:=rfl
theorem qCb (N:Nat):(T28 N).fuel=N:=rfl
noncomputable def qI4:Code:=cut [true,true,true,false,true,true,true] (Try.f28.body.getD .skip)
theorem qMi {N:Nat} {Q:X→St→Option (qc [i27,i4])} {e:List LV} {h:List Blk}:qe tt Γ28 (T28 N) qI4 Q ⟨e,h⟩=qe tt Γ28 (T28 N) (cut [true,true,true,false,true,true,true] (Try.f28.body.getD .skip)) Q ⟨e,h⟩:=rfl
theorem qUo (N:Nat) (v2:Bool) (v3:Bool) (v4:Bool) (v5:Bool) {k0:(List (Val (.int .i64)))→Option (qc [i27,i4])} {Q:X→St→Option (qc [i27,i4])} {c:Code} (hc:c=qI4) (hret: ∀st,Q .ret st=qI tt true [i27,i4] [.tmp 4,.tmp 5] st) (h0: ∀(v8:List (Val (.int .i64))),Q (.exit 0) ⟨[u,u,u,u,u,u,.one (.own 0),u,u,u,u,u,u,u,u,u,u,u,u,u,u,u,u,u,u,u,u,u,u,u],[.row 3 (.int .i64) v8 true true 0]⟩=k0 v8): ∀(n:Nat) (v6:Int) (v7:List (Val (.int .i64))),qC (qe tt Γ28 (T28 N) c) false qk8 Q n ⟨[u,u,u,u,u,u,.one (.own 0),u,u,u,u,u,u,u,u,u,u,u,.agg [.bool v2,.bool v3,.bool v4,.bool v5],.one (.int .i64 v6),u,u,u,u,u,u,u,u,u,u],[.row 3 (.int .i64) v7 true true 0]⟩=qga N v2 v3 v4 v5 k0 n v6 v7:=by
 subst hc;intro n;induction n with
 | zero=>intros;rfl
 | succ n ih=>
   intro v6 v7
   rw [qM,qMi,qga];unfold Try.f28
   simp (maxSteps:=10000000) -implicitDefEqProofs [qAV,qkn,qAI,qm2,qB8,qot,que,qoP,qxC,qif,qCb,quX,qus,qn2,qR,qBb,qDZ,qvr,qEe,qvn,qDh,qBa,qEO,g82,g83,hret,h0,ih]
theorem qOJ (N:Nat) (v0:List (Val qf)) (v1:List (Val qb)):qe tt Γ28 (T28 N) (Try.f28.body.getD .skip) (qr tt true [i27,i4] [.tmp 4,.tmp 5]) (qv [i63,i65] 30 (v0,v1,()))=m28 N v0 v1:=by
 unfold Try.f28
 simp (maxSteps:=10000000) -implicitDefEqProofs [qAV,qkn,qAI,qm2,qB8,qot,que,qoP,qxC,qif,qCb,quX,qus,qn2,qR,qBb,qDZ,qvr,qEe,qvn,qDh,qBa,qEO,g82,g83]
 rewrite [qUo (k0:=(fun (v9:List (Val (.int .i64)))=>some (v9,true,()))) N _ _ _ _ ?_ ?_ ?_]
 ·rewrite [m28];first | rfl | simp (maxSteps:=10000000) -implicitDefEqProofs []
 ·rfl
 ·intro;simp only [qK,qL,qN,qm]
 ·intro v9;simp (maxSteps:=10000000) -implicitDefEqProofs [qAV,qkn,qAI,qm2,qB8,qot,que,qoP,qxC,qif,qCb,quX,qus,qn2,qR,qBb,qDZ,qvr,qEe,qvn,qDh,qBa,qEO,g82,g83]
def g25:G:={ps:=[i63,i65],rs:=[i27,i4],dp:=true,pre:=fun x=>qgX x.1 x.2.1,fn:=fun x=>((q4 x.1 x.2.1).1,(q4 x.1 x.2.1).2,())}
noncomputable def qgD (N:Nat) (v34:List (Val qb)) (v35:Int) (v37:List (Val (.slice 4 .bool))) (k5:(List (Val .bool))→Option (qc [i27,i4])):Nat→Int→(List (Val .bool))→Option (qc [i27,i4])
 | 0,_,_=>none
 | n+1,v36,v38=>bif (decide (v36<(4:Int)))then (chk (0≤v35∧v35<(v34.length:Int)) (chk (0≤v36∧v36<(((((v34.getD v35.toNat (qa qb)).2).1).1:List (Val (.int .i64))).length:Int)) (chk (0≤v36∧v36<(v38.length:Int)) (chk (v36.toNat<v38.length) (qgD N v34 v35 v37 k5 n (IntKind.i64.wrap (v36+(1:Int))) (v38.set v36.toNat (!(decide (((((((v34.getD v35.toNat (qa qb)).2).1).1:List (Val (.int .i64))).getD v36.toNat (qa (.int .i64))):Int)=(0:Int))))))))))else (k5 v38)
noncomputable def qgN (N:Nat) (v41:List (Val qb)) (v42:Int) (v44:List (Val (.slice 4 .bool))) (k7:(List (Val .bool))→Option (qc [i27,i4])):Nat→Int→(List (Val .bool))→Option (qc [i27,i4])
 | 0,_,_=>none
 | n+1,v43,v45=>chk (0≤v42∧v42<(v41.length:Int)) (bif (decide (v43<(((((((v41.getD v42.toNat (qa qb)).2).2).2).2).1:List (Val (.int .i64))).length:Int)))then (chk (0≤v42∧v42<(v41.length:Int)) (chk (0≤v43∧v43<(((((((v41.getD v42.toNat (qa qb)).2).2).2).2).1:List (Val (.int .i64))).length:Int)) (chk (0≤((((((((v41.getD v42.toNat (qa qb)).2).2).2).2).1:List (Val (.int .i64))).getD v43.toNat (qa (.int .i64))):Int)∧((((((((v41.getD v42.toNat (qa qb)).2).2).2).2).1:List (Val (.int .i64))).getD v43.toNat (qa (.int .i64))):Int)<(v45.length:Int)) (chk (((((((((v41.getD v42.toNat (qa qb)).2).2).2).2).1:List (Val (.int .i64))).getD v43.toNat (qa (.int .i64))):Int).toNat<v45.length) (qgN N v41 v42 v44 k7 n (IntKind.i64.wrap (v43+(1:Int))) (v45.set (((((((((v41.getD v42.toNat (qa qb)).2).2).2).2).1:List (Val (.int .i64))).getD v43.toNat (qa (.int .i64))):Int).toNat) true))))))else (k7 v45))
noncomputable def qfo (N:Nat) (v48:List (Val qb)) (v49:Int) (v51:List (Val (.slice 4 .bool))) (k9:(List (Val .bool))→Option (qc [i27,i4])):Nat→Int→(List (Val .bool))→Option (qc [i27,i4])
 | 0,_,_=>none
 | n+1,v50,v52=>bif (decide (v50<(4:Int)))then (chk (0≤v49∧v49<(v48.length:Int)) (chk (0≤((((((((v48.getD v49.toNat (qa qb)).2).2).2).2).2).2).1:Int)∧((((((((v48.getD v49.toNat (qa qb)).2).2).2).2).2).2).1:Int)<(v51.length:Int)) (chk (((((((((v48.getD v49.toNat (qa qb)).2).2).2).2).2).2).1:Int).toNat<v51.length) (chk (0≤v50∧v50<(((v51.getD (((((((((v48.getD v49.toNat (qa qb)).2).2).2).2).2).2).1:Int).toNat) (qa (.slice 4 .bool))):List (Val .bool)).length:Int)) (bif ((((v51.getD (((((((((v48.getD v49.toNat (qa qb)).2).2).2).2).2).2).1:Int).toNat) (qa (.slice 4 .bool))):List (Val .bool)).getD v50.toNat (qa .bool)):Bool)then (chk (0≤v50∧v50<(v52.length:Int)) (chk (v50.toNat<v52.length) (qfo N v48 v49 v51 k9 n (IntKind.i64.wrap (v50+(1:Int))) (v52.set v50.toNat true))))else (chk (0≤v49∧v49<(v48.length:Int)) (chk (0≤((((((((v48.getD v49.toNat (qa qb)).2).2).2).2).2).2).2:Int)∧((((((((v48.getD v49.toNat (qa qb)).2).2).2).2).2).2).2:Int)<(v51.length:Int)) (chk (((((((((v48.getD v49.toNat (qa qb)).2).2).2).2).2).2).2:Int).toNat<v51.length) (chk (0≤v50∧v50<(((v51.getD (((((((((v48.getD v49.toNat (qa qb)).2).2).2).2).2).2).2:Int).toNat) (qa (.slice 4 .bool))):List (Val .bool)).length:Int)) (chk (0≤v50∧v50<(v52.length:Int)) (chk (v50.toNat<v52.length) (qfo N v48 v49 v51 k9 n (IntKind.i64.wrap (v50+(1:Int))) (v52.set v50.toNat ((((v51.getD (((((((((v48.getD v49.toNat (qa qb)).2).2).2).2).2).2).2:Int).toNat) (qa (.slice 4 .bool))):List (Val .bool)).getD v50.toNat (qa .bool)):Bool))))))))))))))else (k9 v52)
noncomputable def qfh (N:Nat) (v56:List (Val qb)) (v57:Int) (v59:List (Val (.slice 4 .bool))) (k3:(List (Val .bool))→Option (qc [i27,i4])):Nat→Int→(List (Val .bool))→Option (qc [i27,i4])
 | 0,_,_=>none
 | n+1,v58,v60=>bif (decide (v58<(4:Int)))then (chk (0≤v57∧v57<(v56.length:Int)) (chk (0≤((((((((v56.getD v57.toNat (qa qb)).2).2).2).2).2).2).1:Int)∧((((((((v56.getD v57.toNat (qa qb)).2).2).2).2).2).2).1:Int)<(v59.length:Int)) (chk (((((((((v56.getD v57.toNat (qa qb)).2).2).2).2).2).2).1:Int).toNat<v59.length) (chk (0≤v58∧v58<(((v59.getD (((((((((v56.getD v57.toNat (qa qb)).2).2).2).2).2).2).1:Int).toNat) (qa (.slice 4 .bool))):List (Val .bool)).length:Int)) (bif ((((v59.getD (((((((((v56.getD v57.toNat (qa qb)).2).2).2).2).2).2).1:Int).toNat) (qa (.slice 4 .bool))):List (Val .bool)).getD v58.toNat (qa .bool)):Bool)then (chk (0≤v57∧v57<(v56.length:Int)) (bif (decide (((v56.getD v57.toNat (qa qb)).1:Int)=(2:Int)))then (chk (0≤v58∧v58<(v60.length:Int)) (chk (v58.toNat<v60.length) (qfh N v56 v57 v59 k3 n (IntKind.i64.wrap (v58+(1:Int))) (v60.set v58.toNat true))))else (chk (0≤v57∧v57<(v56.length:Int)) (chk (0≤v58∧v58<(v60.length:Int)) (chk (v58.toNat<v60.length) (qfh N v56 v57 v59 k3 n (IntKind.i64.wrap (v58+(1:Int))) (v60.set v58.toNat (!(decide (v58=(((((((v56.getD v57.toNat (qa qb)).2).2).2).2).2).1:Int)))))))))))else (chk (0≤v58∧v58<(v60.length:Int)) (chk (v58.toNat<v60.length) (qfh N v56 v57 v59 k3 n (IntKind.i64.wrap (v58+(1:Int))) (v60.set v58.toNat false)))))))))else (k3 v60)
noncomputable def qco (N:Nat) (v2:List (Val qb)) (k0:(List (Val (.slice 4 .bool)))→Option (qc [i27,i4])):Nat→Int→(List (Val (.slice 4 .bool)))→Option (qc [i27,i4])
 | 0,_,_=>none
 | n+1,v3,v4=>bif (decide (v3<(v2.length:Int)))then (chk (0≤(4:Int)∧(4:Int)≤(4:Int)∧(4:Int)≤1048576) (chk (0≤v3∧v3<(v2.length:Int)) (bif (decide (((v2.getD v3.toNat (qa qb)).1:Int)=(0:Int)))then (qgD N v2 v3 v4 (fun (v40:List (Val .bool))=>chk (0≤v3∧v3<(v4.length:Int)) (chk (v3.toNat<v4.length) (qco N v2 k0 n (IntKind.i64.wrap (v3+(1:Int))) (v4.set v3.toNat v40)))) N (0:Int) (List.replicate (4:Int).toNat (qa .bool)))else (bif (decide (((v2.getD v3.toNat (qa qb)).1:Int)=(1:Int)))then (qgN N v2 v3 v4 (fun (v47:List (Val .bool))=>chk (0≤v3∧v3<(v4.length:Int)) (chk (v3.toNat<v4.length) (qco N v2 k0 n (IntKind.i64.wrap (v3+(1:Int))) (v4.set v3.toNat v47)))) N (0:Int) (List.replicate (4:Int).toNat (qa .bool)))else (bif (decide (((v2.getD v3.toNat (qa qb)).1:Int)=(3:Int)))then (qfo N v2 v3 v4 (fun (v54:List (Val .bool))=>chk (0≤v3∧v3<(v4.length:Int)) (chk (v3.toNat<v4.length) (qco N v2 k0 n (IntKind.i64.wrap (v3+(1:Int))) (v4.set v3.toNat v54)))) N (0:Int) (List.replicate (4:Int).toNat (qa .bool)))else (bif (decide (((v2.getD v3.toNat (qa qb)).1:Int)=(4:Int)))then (qfo N v2 v3 v4 (fun (v55:List (Val .bool))=>chk (0≤v3∧v3<(v4.length:Int)) (chk (v3.toNat<v4.length) (qco N v2 k0 n (IntKind.i64.wrap (v3+(1:Int))) (v4.set v3.toNat v55)))) N (0:Int) (List.replicate (4:Int).toNat (qa .bool)))else (qfh N v2 v3 v4 (fun (v62:List (Val .bool))=>chk (0≤v3∧v3<(v4.length:Int)) (chk (v3.toNat<v4.length) (qco N v2 k0 n (IntKind.i64.wrap (v3+(1:Int))) (v4.set v3.toNat v62)))) N (0:Int) (List.replicate (4:Int).toNat (qa .bool)))))))))else (k0 v4)
noncomputable def qfn (N:Nat) (v65:List (Val qb)) (v67:List (Val (.slice 4 .bool))) (k11:(List (Val (.int .i64)))→Option (qc [i27,i4])):Nat→Int→(List (Val (.int .i64)))→Option (qc [i27,i4])
 | 0,_,_=>none
 | n+1,v66,v68=>bif (decide (v66<(4:Int)))then (chk (0≤(IntKind.i64.wrap ((v65.length:Int) - (1:Int)))∧(IntKind.i64.wrap ((v65.length:Int) - (1:Int)))<(v67.length:Int)) (chk ((IntKind.i64.wrap ((v65.length:Int) - (1:Int))).toNat<v67.length) (chk (0≤v66∧v66<(((v67.getD ((IntKind.i64.wrap ((v65.length:Int) - (1:Int))).toNat) (qa (.slice 4 .bool))):List (Val .bool)).length:Int)) (bif ((((v67.getD ((IntKind.i64.wrap ((v65.length:Int) - (1:Int))).toNat) (qa (.slice 4 .bool))):List (Val .bool)).getD v66.toNat (qa .bool)):Bool)then (chk (v68.length+([v66]:List (Val (.int .i64))).length≤1048576) (qfn N v65 v67 k11 n (IntKind.i64.wrap (v66+(1:Int))) (v68++([v66]:List (Val (.int .i64))))))else (qfn N v65 v67 k11 n (IntKind.i64.wrap (v66+(1:Int))) v68)))))else (k11 v68)
noncomputable def m25 (N:Nat) (v0:List (Val qf)) (v1:List (Val qb)):Option (qc [i27,i4]):=chk (qfx v0 v1) (bif (!((qcM v0 v1):Bool))then (some (([]:List (Val (.int .i64))),false,()))else (chk (0≤(v1.length:Int)∧(v1.length:Int)≤(v1.length:Int)∧(v1.length:Int)≤1048576) (qco N v1 (fun (v64:List (Val (.slice 4 .bool)))=>qfn N v1 v64 (fun (v70:List (Val (.int .i64)))=>some (v70,true,())) N (0:Int) ([]:List (Val (.int .i64)))) N (0:Int) (List.replicate (v1.length:Int).toNat (qa (.slice 4 .bool))))))
def Γ25:Gam:=[(79,g79)]
theorem qdm:Gam.get Γ25 79=some g79:=rfl
def qlf:Nm:=⟨[false,true,false,false,false,false,true,true,true,true],[],false⟩
theorem qc4:qlf.zero=false:=rfl
theorem qdT:qlf.fix=[]:=rfl
theorem qc7:qlf.keep=[false,true,false,false,false,false,true,true,true,true]:=rfl
def qlO:Nm:=⟨[false,true,false,false,false,false,true,true,true,false,true],[],false⟩
theorem qcX:qlO.zero=false:=rfl
theorem qdH:qlO.fix=[]:=rfl
theorem qcW:qlO.keep=[false,true,false,false,false,false,true,true,true,false,true]:=rfl
def qnT:Nm:=⟨[false,true,false,false,false,false,true,true,true,false,false,true],[],false⟩
theorem qdx:qnT.zero=false:=rfl
theorem qd9:qnT.fix=[]:=rfl
theorem qey:qnT.keep=[false,true,false,false,false,false,true,true,true,false,false,true]:=rfl
def ql7:Nm:=⟨[false,true,false,false,false,false,true,true,true,false,false,false,true],[],false⟩
theorem qdL:ql7.zero=false:=rfl
theorem qeE:ql7.fix=[]:=rfl
theorem qcU:ql7.keep=[false,true,false,false,false,false,true,true,true,false,false,false,true]:=rfl
def qlH:Nm:=⟨[false,true,false,false,false,false,true,true],[],false⟩
theorem qc1:qlH.zero=false:=rfl
theorem qer:qlH.fix=[]:=rfl
theorem qeC:qlH.keep=[false,true,false,false,false,false,true,true]:=rfl
def ql3:Nm:=⟨[false,true,false,false,false,false,true,false,false,false,false,false,false,true,true],[],false⟩
theorem qds:ql3.zero=false:=rfl
theorem qcT:ql3.fix=[]:=rfl
theorem qd0:ql3.keep=[false,true,false,false,false,false,true,false,false,false,false,false,false,true,true]:=rfl
def qqm:Nm:=⟨[false,true,false,false,false,false,true],[],false⟩
theorem qep:qqm.zero=false:=rfl
theorem qei:qqm.fix=[]:=rfl
theorem qej:qqm.keep=[false,true,false,false,false,false,true]:=rfl
def qpV:Nm:=⟨[false,true,false,false,false,false,true,true,true],[],false⟩
theorem qeg:qpV.zero=false:=rfl
theorem qdM:qpV.fix=[]:=rfl
theorem qew:qpV.keep=[false,true,false,false,false,false,true,true,true]:=rfl
def qpS:Nm:=⟨[false,true,false,false,false,false,true,true,true],[],false⟩
theorem qdA:qpS.zero=false:=rfl
theorem qdI:qpS.fix=[]:=rfl
theorem qeh:qpS.keep=[false,true,false,false,false,false,true,true,true]:=rfl
def qsi:Nm:=⟨[false,true,false,false,false,false,true,true,true],[],false⟩
theorem qdJ:qsi.zero=false:=rfl
theorem qd5:qsi.fix=[]:=rfl
theorem qd1:qsi.keep=[false,true,false,false,false,false,true,true,true]:=rfl
def qrg:Nm:=⟨[false,true,false,false,false,false,true,true,true],[],false⟩
theorem qdV:qrg.zero=false:=rfl
theorem qeA:qrg.fix=[]:=rfl
theorem qdY:qrg.keep=[false,true,false,false,false,false,true,true,true]:=rfl
def qrW:Nm:=⟨[false,false,false,false,false,false,false,false,false,false,false,false,false,true],[],false⟩
theorem qdR:qrW.zero=false:=rfl
theorem qea:qrW.fix=[]:=rfl
theorem qdE:qrW.keep=[false,false,false,false,false,false,false,false,false,false,false,false,false,true]:=rfl
def qcn:Nat→Tree:=fun _=> .done
def qcA:Nat→Nm:=fun i=>if i=15 then qlf else if i=20 then qlO else if i=26 then qnT else if i=10 then ql7 else if i=5 then qlH else if i=32 then ql3 else ⟨[],[],false⟩
def qcs:Nat→Option Jn:=fun _=>none
def qcE:Nat→Option Nm:=fun i=>if i=0 then some qqm else if i=3 then some qpV else if i=5 then some qpS else if i=7 then some qsi else if i=9 then some qrg else if i=11 then some qrW else none
def qcB:Nat→Option Nm:=fun _=>none
theorem p25:qn qcn (Try.f25.body.getD .skip)=true:=by kernel_rfl
def T25 (N:Nat):Tab:={tr:=qcn,lp:=qcA,ex:=qcE,rg:=qcB,jn:=qcs,fuel:=N}
theorem qdp (N:Nat):(T25 N).pins=false:=rfl
theorem qQO (N:Nat):qp Try.prog (T25 N):=qw fun _=>rfl
theorem qdz (N:Nat) (i:Nat):(T25 N).tr i=qcn i:=rfl
theorem qeB (N:Nat) (i:Nat):(T25 N).lp i=qcA i:=rfl
theorem qd8 (N:Nat) (i:Nat):(T25 N).ex i=qcE i:=rfl
theorem qc0 (N:Nat) (i:Nat):(T25 N).rg i=qcB i:=rfl
theorem qex (N:Nat) (i:Nat):(T25 N).jn i=qcs i:=rfl
theorem qdq (N:Nat):(T25 N).fuel=N:=rfl
noncomputable def qIr:Code:=cut [true,true,true,false,true,true,true,true,false,true,true,false,true,true,true,false,true,true,true] (Try.f25.body.getD .skip)
theorem qUW {N:Nat} {Q:X→St→Option (qc [i27,i4])} {e:List LV} {h:List Blk}:qe tt Γ25 (T25 N) qIr Q ⟨e,h⟩=qe tt Γ25 (T25 N) (cut [true,true,true,false,true,true,true,true,false,true,true,false,true,true,true,false,true,true,true] (Try.f25.body.getD .skip)) Q ⟨e,h⟩:=rfl
theorem qQZ (N:Nat) (v34:List (Val qb)) (v35:Int) (v37:List (Val (.slice 4 .bool))) {k5:(List (Val .bool))→Option (qc [i27,i4])} {Q:X→St→Option (qc [i27,i4])} {c:Code} (hc:c=qIr) (hret: ∀st,Q .ret st=qI tt true [i27,i4] [.tmp 4,.tmp 5] st) (h5: ∀(v39:List (Val .bool)),Q (.exit 5) ⟨[u,.one (.sl 120 qb v34 2),u,u,u,u,.one (.own 0),.one (.int .i64 v35),.one (.own 1),u,u,u,u,u,u,u,u,u,u,u,u,u,u,u,u,u,u,u,u,u,u,u,u,u,u,u,u,u,u,u,u,u,u,u,u,u,u,u,u,u,u,u,u,u,u,u,u,u,u,u,u,u,u,u,u,u,u,u,u,u,u,u,u,u,u,u,u,u,u,u,u,u,u,u,u,u,u,u,u,u,u,u,u,u,u,u,u,u,u,u,u,u,u,u,u,u,u,u,u,u,u,u,u,u,u,u,u,u,u,u,u,u,u,u,u,u,u,u,u,u,u,u,u,u,u,u,u,u,u,u,u,u,u,u,u,u,u,u,u,u,u,u,u,u,u,u,u,u,u,u,u,u,u,u,u,u,u,u],[.row 118 (.slice 4 .bool) v37 true true 0,.row 4 .bool v39 true true 0]⟩=k5 v39): ∀(n:Nat) (v36:Int) (v38:List (Val .bool)),qC (qe tt Γ25 (T25 N) c) false qlf Q n ⟨[u,.one (.sl 120 qb v34 2),u,u,u,u,.one (.own 0),.one (.int .i64 v35),.one (.own 1),.one (.int .i64 v36),u,u,u,u,u,u,u,u,u,u,u,u,u,u,u,u,u,u,u,u,u,u,u,u,u,u,u,u,u,u,u,u,u,u,u,u,u,u,u,u,u,u,u,u,u,u,u,u,u,u,u,u,u,u,u,u,u,u,u,u,u,u,u,u,u,u,u,u,u,u,u,u,u,u,u,u,u,u,u,u,u,u,u,u,u,u,u,u,u,u,u,u,u,u,u,u,u,u,u,u,u,u,u,u,u,u,u,u,u,u,u,u,u,u,u,u,u,u,u,u,u,u,u,u,u,u,u,u,u,u,u,u,u,u,u,u,u,u,u,u,u,u,u,u,u,u,u,u,u,u,u,u,u,u,u,u,u,u],[.row 118 (.slice 4 .bool) v37 true true 0,.row 4 .bool v38 true true 0]⟩=qgD N v34 v35 v37 k5 n v36 v38:=by
 subst hc;intro n;induction n with
 | zero=>intros;rfl
 | succ n ih=>
   intro v36 v38
   rw [qM,qUW,qgD];unfold Try.f25
   simp (maxSteps:=10000000) -implicitDefEqProofs [qdz,qcn,qeB,qcA,qd8,qcE,qc0,qcB,qex,qcs,qdq,qdp,qdT,qc7,qc4,qdH,qcW,qcX,qd9,qey,qdx,qeE,qcU,qdL,qer,qeC,qc1,qcT,qd0,qds,qei,qej,qep,qdM,qew,qeg,qdI,qeh,qdA,qd5,qd1,qdJ,qeA,qdY,qdV,qea,qdE,qdR,qdm,g79,hret,h5,ih]
noncomputable def qGS:Code:=cut [true,true,true,false,true,true,true,true,false,true,true,false,true,true,true,true,true,false,true,true,true] (Try.f25.body.getD .skip)
theorem qOV {N:Nat} {Q:X→St→Option (qc [i27,i4])} {e:List LV} {h:List Blk}:qe tt Γ25 (T25 N) qGS Q ⟨e,h⟩=qe tt Γ25 (T25 N) (cut [true,true,true,false,true,true,true,true,false,true,true,false,true,true,true,true,true,false,true,true,true] (Try.f25.body.getD .skip)) Q ⟨e,h⟩:=rfl
theorem qTR (N:Nat) (v41:List (Val qb)) (v42:Int) (v44:List (Val (.slice 4 .bool))) {k7:(List (Val .bool))→Option (qc [i27,i4])} {Q:X→St→Option (qc [i27,i4])} {c:Code} (hc:c=qGS) (hret: ∀st,Q .ret st=qI tt true [i27,i4] [.tmp 4,.tmp 5] st) (h7: ∀(v46:List (Val .bool)),Q (.exit 7) ⟨[u,.one (.sl 120 qb v41 2),u,u,u,u,.one (.own 0),.one (.int .i64 v42),.one (.own 1),u,u,u,u,u,u,u,u,u,u,u,u,u,u,u,u,u,u,u,u,u,u,u,u,u,u,u,u,u,u,u,u,u,u,u,u,u,u,u,u,u,u,u,u,u,u,u,u,u,u,u,u,u,u,u,u,u,u,u,u,u,u,u,u,u,u,u,u,u,u,u,u,u,u,u,u,u,u,u,u,u,u,u,u,u,u,u,u,u,u,u,u,u,u,u,u,u,u,u,u,u,u,u,u,u,u,u,u,u,u,u,u,u,u,u,u,u,u,u,u,u,u,u,u,u,u,u,u,u,u,u,u,u,u,u,u,u,u,u,u,u,u,u,u,u,u,u,u,u,u,u,u,u,u,u,u,u,u,u],[.row 118 (.slice 4 .bool) v44 true true 0,.row 4 .bool v46 true true 0]⟩=k7 v46): ∀(n:Nat) (v43:Int) (v45:List (Val .bool)),qC (qe tt Γ25 (T25 N) c) false qlO Q n ⟨[u,.one (.sl 120 qb v41 2),u,u,u,u,.one (.own 0),.one (.int .i64 v42),.one (.own 1),u,.one (.int .i64 v43),u,u,u,u,u,u,u,u,u,u,u,u,u,u,u,u,u,u,u,u,u,u,u,u,u,u,u,u,u,u,u,u,u,u,u,u,u,u,u,u,u,u,u,u,u,u,u,u,u,u,u,u,u,u,u,u,u,u,u,u,u,u,u,u,u,u,u,u,u,u,u,u,u,u,u,u,u,u,u,u,u,u,u,u,u,u,u,u,u,u,u,u,u,u,u,u,u,u,u,u,u,u,u,u,u,u,u,u,u,u,u,u,u,u,u,u,u,u,u,u,u,u,u,u,u,u,u,u,u,u,u,u,u,u,u,u,u,u,u,u,u,u,u,u,u,u,u,u,u,u,u,u,u,u,u,u,u],[.row 118 (.slice 4 .bool) v44 true true 0,.row 4 .bool v45 true true 0]⟩=qgN N v41 v42 v44 k7 n v43 v45:=by
 subst hc;intro n;induction n with
 | zero=>intros;rfl
 | succ n ih=>
   intro v43 v45
   rw [qM,qOV,qgN];unfold Try.f25
   simp (maxSteps:=10000000) -implicitDefEqProofs [qdz,qcn,qeB,qcA,qd8,qcE,qc0,qcB,qex,qcs,qdq,qdp,qdT,qc7,qc4,qdH,qcW,qcX,qd9,qey,qdx,qeE,qcU,qdL,qer,qeC,qc1,qcT,qd0,qds,qei,qej,qep,qdM,qew,qeg,qdI,qeh,qdA,qd5,qd1,qdJ,qeA,qdY,qdV,qea,qdE,qdR,qdm,g79,hret,h7,ih]
noncomputable def qGH:Code:=cut [true,true,true,false,true,true,true,true,false,true,true,false,true,true,true,true,true,true,true,false,true,true,true] (Try.f25.body.getD .skip)
theorem qUO {N:Nat} {Q:X→St→Option (qc [i27,i4])} {e:List LV} {h:List Blk}:qe tt Γ25 (T25 N) qGH Q ⟨e,h⟩=qe tt Γ25 (T25 N) (cut [true,true,true,false,true,true,true,true,false,true,true,false,true,true,true,true,true,true,true,false,true,true,true] (Try.f25.body.getD .skip)) Q ⟨e,h⟩:=rfl
theorem qVk (N:Nat) (v48:List (Val qb)) (v49:Int) (v51:List (Val (.slice 4 .bool))) {k9:(List (Val .bool))→Option (qc [i27,i4])} {Q:X→St→Option (qc [i27,i4])} {c:Code} (hc:c=qGH) (hret: ∀st,Q .ret st=qI tt true [i27,i4] [.tmp 4,.tmp 5] st) (h9: ∀(v53:List (Val .bool)),Q (.exit 9) ⟨[u,.one (.sl 120 qb v48 2),u,u,u,u,.one (.own 0),.one (.int .i64 v49),.one (.own 1),u,u,u,u,u,u,u,u,u,u,u,u,u,u,u,u,u,u,u,u,u,u,u,u,u,u,u,u,u,u,u,u,u,u,u,u,u,u,u,u,u,u,u,u,u,u,u,u,u,u,u,u,u,u,u,u,u,u,u,u,u,u,u,u,u,u,u,u,u,u,u,u,u,u,u,u,u,u,u,u,u,u,u,u,u,u,u,u,u,u,u,u,u,u,u,u,u,u,u,u,u,u,u,u,u,u,u,u,u,u,u,u,u,u,u,u,u,u,u,u,u,u,u,u,u,u,u,u,u,u,u,u,u,u,u,u,u,u,u,u,u,u,u,u,u,u,u,u,u,u,u,u,u,u,u,u,u,u,u],[.row 118 (.slice 4 .bool) v51 true true 0,.row 4 .bool v53 true true 0]⟩=k9 v53): ∀(n:Nat) (v50:Int) (v52:List (Val .bool)),qC (qe tt Γ25 (T25 N) c) false qnT Q n ⟨[u,.one (.sl 120 qb v48 2),u,u,u,u,.one (.own 0),.one (.int .i64 v49),.one (.own 1),u,u,.one (.int .i64 v50),u,u,u,u,u,u,u,u,u,u,u,u,u,u,u,u,u,u,u,u,u,u,u,u,u,u,u,u,u,u,u,u,u,u,u,u,u,u,u,u,u,u,u,u,u,u,u,u,u,u,u,u,u,u,u,u,u,u,u,u,u,u,u,u,u,u,u,u,u,u,u,u,u,u,u,u,u,u,u,u,u,u,u,u,u,u,u,u,u,u,u,u,u,u,u,u,u,u,u,u,u,u,u,u,u,u,u,u,u,u,u,u,u,u,u,u,u,u,u,u,u,u,u,u,u,u,u,u,u,u,u,u,u,u,u,u,u,u,u,u,u,u,u,u,u,u,u,u,u,u,u,u,u,u,u,u],[.row 118 (.slice 4 .bool) v51 true true 0,.row 4 .bool v52 true true 0]⟩=qfo N v48 v49 v51 k9 n v50 v52:=by
 subst hc;intro n;induction n with
 | zero=>intros;rfl
 | succ n ih=>
   intro v50 v52
   rw [qM,qUO,qfo];unfold Try.f25
   simp (maxSteps:=10000000) -implicitDefEqProofs [qdz,qcn,qeB,qcA,qd8,qcE,qc0,qcB,qex,qcs,qdq,qdp,qdT,qc7,qc4,qdH,qcW,qcX,qd9,qey,qdx,qeE,qcU,qdL,qer,qeC,qc1,qcT,qd0,qds,qei,qej,qep,qdM,qew,qeg,qdI,qeh,qdA,qd5,qd1,qdJ,qeA,qdY,qdV,qea,qdE,qdR,qdm,g79,hret,h9,ih]
noncomputable def qHD:Code:=cut [true,true,true,false,true,true,true,true,false,true,true,false,true,true,true,true,true,true,true,true,true,true,true] (Try.f25.body.getD .skip)
theorem qUX {N:Nat} {Q:X→St→Option (qc [i27,i4])} {e:List LV} {h:List Blk}:qe tt Γ25 (T25 N) qHD Q ⟨e,h⟩=qe tt Γ25 (T25 N) (cut [true,true,true,false,true,true,true,true,false,true,true,false,true,true,true,true,true,true,true,true,true,true,true] (Try.f25.body.getD .skip)) Q ⟨e,h⟩:=rfl
theorem qMv (N:Nat) (v56:List (Val qb)) (v57:Int) (v59:List (Val (.slice 4 .bool))) {k3:(List (Val .bool))→Option (qc [i27,i4])} {Q:X→St→Option (qc [i27,i4])} {c:Code} (hc:c=qHD) (hret: ∀st,Q .ret st=qI tt true [i27,i4] [.tmp 4,.tmp 5] st) (h3: ∀(v61:List (Val .bool)),Q (.exit 3) ⟨[u,.one (.sl 120 qb v56 2),u,u,u,u,.one (.own 0),.one (.int .i64 v57),.one (.own 1),u,u,u,u,u,u,u,u,u,u,u,u,u,u,u,u,u,u,u,u,u,u,u,u,u,u,u,u,u,u,u,u,u,u,u,u,u,u,u,u,u,u,u,u,u,u,u,u,u,u,u,u,u,u,u,u,u,u,u,u,u,u,u,u,u,u,u,u,u,u,u,u,u,u,u,u,u,u,u,u,u,u,u,u,u,u,u,u,u,u,u,u,u,u,u,u,u,u,u,u,u,u,u,u,u,u,u,u,u,u,u,u,u,u,u,u,u,u,u,u,u,u,u,u,u,u,u,u,u,u,u,u,u,u,u,u,u,u,u,u,u,u,u,u,u,u,u,u,u,u,u,u,u,u,u,u,u,u,u],[.row 118 (.slice 4 .bool) v59 true true 0,.row 4 .bool v61 true true 0]⟩=k3 v61): ∀(n:Nat) (v58:Int) (v60:List (Val .bool)),qC (qe tt Γ25 (T25 N) c) false ql7 Q n ⟨[u,.one (.sl 120 qb v56 2),u,u,u,u,.one (.own 0),.one (.int .i64 v57),.one (.own 1),u,u,u,.one (.int .i64 v58),u,u,u,u,u,u,u,u,u,u,u,u,u,u,u,u,u,u,u,u,u,u,u,u,u,u,u,u,u,u,u,u,u,u,u,u,u,u,u,u,u,u,u,u,u,u,u,u,u,u,u,u,u,u,u,u,u,u,u,u,u,u,u,u,u,u,u,u,u,u,u,u,u,u,u,u,u,u,u,u,u,u,u,u,u,u,u,u,u,u,u,u,u,u,u,u,u,u,u,u,u,u,u,u,u,u,u,u,u,u,u,u,u,u,u,u,u,u,u,u,u,u,u,u,u,u,u,u,u,u,u,u,u,u,u,u,u,u,u,u,u,u,u,u,u,u,u,u,u,u,u,u,u,u,u],[.row 118 (.slice 4 .bool) v59 true true 0,.row 4 .bool v60 true true 0]⟩=qfh N v56 v57 v59 k3 n v58 v60:=by
 subst hc;intro n;induction n with
 | zero=>intros;rfl
 | succ n ih=>
   intro v58 v60
   rw [qM,qUX,qfh];unfold Try.f25
   simp (maxSteps:=10000000) -implicitDefEqProofs [qdz,qcn,qeB,qcA,qd8,qcE,qc0,qcB,qex,qcs,qdq,qdp,qdT,qc7,qc4,qdH,qcW,qcX,qd9,qey,qdx,qeE,qcU,qdL,qer,qeC,qc1,qcT,qd0,qds,qei,qej,qep,qdM,qew,qeg,qdI,qeh,qdA,qd5,qd1,qdJ,qeA,qdY,qdV,qea,qdE,qdR,qdm,g79,hret,h3,ih]
noncomputable def qF1:Code:=cut [true,true,true,false,true,true,true] (Try.f25.body.getD .skip)
theorem qVp {N:Nat} {Q:X→St→Option (qc [i27,i4])} {e:List LV} {h:List Blk}:qe tt Γ25 (T25 N) qF1 Q ⟨e,h⟩=qe tt Γ25 (T25 N) (cut [true,true,true,false,true,true,true] (Try.f25.body.getD .skip)) Q ⟨e,h⟩:=rfl
theorem qSY (N:Nat) (v2:List (Val qb)) {k0:(List (Val (.slice 4 .bool)))→Option (qc [i27,i4])} {Q:X→St→Option (qc [i27,i4])} {c:Code} (hc:c=qF1) (hret: ∀st,Q .ret st=qI tt true [i27,i4] [.tmp 4,.tmp 5] st) (h0: ∀(v63:List (Val (.slice 4 .bool))),Q (.exit 0) ⟨[u,.one (.sl 120 qb v2 1),u,u,u,u,.one (.own 0),u,u,u,u,u,u,u,u,u,u,u,u,u,u,u,u,u,u,u,u,u,u,u,u,u,u,u,u,u,u,u,u,u,u,u,u,u,u,u,u,u,u,u,u,u,u,u,u,u,u,u,u,u,u,u,u,u,u,u,u,u,u,u,u,u,u,u,u,u,u,u,u,u,u,u,u,u,u,u,u,u,u,u,u,u,u,u,u,u,u,u,u,u,u,u,u,u,u,u,u,u,u,u,u,u,u,u,u,u,u,u,u,u,u,u,u,u,u,u,u,u,u,u,u,u,u,u,u,u,u,u,u,u,u,u,u,u,u,u,u,u,u,u,u,u,u,u,u,u,u,u,u,u,u,u,u,u,u,u,u,u],[.row 118 (.slice 4 .bool) v63 true true 0]⟩=k0 v63): ∀(n:Nat) (v3:Int) (v4:List (Val (.slice 4 .bool))),qC (qe tt Γ25 (T25 N) c) false qlH Q n ⟨[u,.one (.sl 120 qb v2 1),u,u,u,u,.one (.own 0),.one (.int .i64 v3),u,u,u,u,u,u,u,u,u,u,u,u,u,u,u,u,u,u,u,u,u,u,u,u,u,u,u,u,u,u,u,u,u,u,u,u,u,u,u,u,u,u,u,u,u,u,u,u,u,u,u,u,u,u,u,u,u,u,u,u,u,u,u,u,u,u,u,u,u,u,u,u,u,u,u,u,u,u,u,u,u,u,u,u,u,u,u,u,u,u,u,u,u,u,u,u,u,u,u,u,u,u,u,u,u,u,u,u,u,u,u,u,u,u,u,u,u,u,u,u,u,u,u,u,u,u,u,u,u,u,u,u,u,u,u,u,u,u,u,u,u,u,u,u,u,u,u,u,u,u,u,u,u,u,u,u,u,u,u,u],[.row 118 (.slice 4 .bool) v4 true true 0]⟩=qco N v2 k0 n v3 v4:=by
 subst hc;intro n;induction n with
 | zero=>intros;rfl
 | succ n ih=>
   intro v3 v4
   rw [qM,qVp];unfold Try.f25
   simp (maxSteps:=10000000) -implicitDefEqProofs [qdz,qcn,qeB,qcA,qd8,qcE,qc0,qcB,qex,qcs,qdq,qdp,qdT,qc7,qc4,qdH,qcW,qcX,qd9,qey,qdx,qeE,qcU,qdL,qer,qeC,qc1,qcT,qd0,qds,qei,qej,qep,qdM,qew,qeg,qdI,qeh,qdA,qd5,qd1,qdJ,qeA,qdY,qdV,qea,qdE,qdR,qdm,g79,hret,h0,ih]
   rewrite [qQZ (k5:=(fun (v40:List (Val .bool))=>chk (0≤v3∧v3<(v4.length:Int)) (chk (v3.toNat<v4.length) (qco N v2 k0 n (IntKind.i64.wrap (v3+(1:Int))) (v4.set v3.toNat v40))))) N _ _ _ ?_ ?_ ?_]
   rewrite [qTR (k7:=(fun (v47:List (Val .bool))=>chk (0≤v3∧v3<(v4.length:Int)) (chk (v3.toNat<v4.length) (qco N v2 k0 n (IntKind.i64.wrap (v3+(1:Int))) (v4.set v3.toNat v47))))) N _ _ _ ?_ ?_ ?_]
   rewrite [qVk (k9:=(fun (v54:List (Val .bool))=>chk (0≤v3∧v3<(v4.length:Int)) (chk (v3.toNat<v4.length) (qco N v2 k0 n (IntKind.i64.wrap (v3+(1:Int))) (v4.set v3.toNat v54))))) N _ _ _ ?_ ?_ ?_]
   rewrite [qMv (k3:=(fun (v62:List (Val .bool))=>chk (0≤v3∧v3<(v4.length:Int)) (chk (v3.toNat<v4.length) (qco N v2 k0 n (IntKind.i64.wrap (v3+(1:Int))) (v4.set v3.toNat v62))))) N _ _ _ ?_ ?_ ?_]
   ·rewrite [qco];first | rfl | simp (maxSteps:=10000000) -implicitDefEqProofs [ih]
   ·rfl
   ·intro;simp only [qK,qL,qN,qm,hret]
   ·intro v62;simp (maxSteps:=10000000) -implicitDefEqProofs [qdz,qcn,qeB,qcA,qd8,qcE,qc0,qcB,qex,qcs,qdq,qdp,qdT,qc7,qc4,qdH,qcW,qcX,qd9,qey,qdx,qeE,qcU,qdL,qer,qeC,qc1,qcT,qd0,qds,qei,qej,qep,qdM,qew,qeg,qdI,qeh,qdA,qd5,qd1,qdJ,qeA,qdY,qdV,qea,qdE,qdR,qdm,g79,hret,h0,ih]
   ·rfl
   ·intro;simp only [qK,qL,qN,qm,hret]
   ·intro v54;simp (maxSteps:=10000000) -implicitDefEqProofs [qdz,qcn,qeB,qcA,qd8,qcE,qc0,qcB,qex,qcs,qdq,qdp,qdT,qc7,qc4,qdH,qcW,qcX,qd9,qey,qdx,qeE,qcU,qdL,qer,qeC,qc1,qcT,qd0,qds,qei,qej,qep,qdM,qew,qeg,qdI,qeh,qdA,qd5,qd1,qdJ,qeA,qdY,qdV,qea,qdE,qdR,qdm,g79,hret,h0,ih]
   ·rfl
   ·intro;simp only [qK,qL,qN,qm,hret]
   ·intro v47;simp (maxSteps:=10000000) -implicitDefEqProofs [qdz,qcn,qeB,qcA,qd8,qcE,qc0,qcB,qex,qcs,qdq,qdp,qdT,qc7,qc4,qdH,qcW,qcX,qd9,qey,qdx,qeE,qcU,qdL,qer,qeC,qc1,qcT,qd0,qds,qei,qej,qep,qdM,qew,qeg,qdI,qeh,qdA,qd5,qd1,qdJ,qeA,qdY,qdV,qea,qdE,qdR,qdm,g79,hret,h0,ih]
   ·rfl
   ·intro;simp only [qK,qL,qN,qm,hret]
   ·intro v40;simp (maxSteps:=10000000) -implicitDefEqProofs [qdz,qcn,qeB,qcA,qd8,qcE,qc0,qcB,qex,qcs,qdq,qdp,qdT,qc7,qc4,qdH,qcW,qcX,qd9,qey,qdx,qeE,qcU,qdL,qer,qeC,qc1,qcT,qd0,qds,qei,qej,qep,qdM,qew,qeg,qdI,qeh,qdA,qd5,qd1,qdJ,qeA,qdY,qdV,qea,qdE,qdR,qdm,g79,hret,h0,ih]
noncomputable def qGa:Code:=cut [true,true,true,true,true,false,true,true,true] (Try.f25.body.getD .skip)
theorem qK9 {N:Nat} {Q:X→St→Option (qc [i27,i4])} {e:List LV} {h:List Blk}:qe tt Γ25 (T25 N) qGa Q ⟨e,h⟩=qe tt Γ25 (T25 N) (cut [true,true,true,true,true,false,true,true,true] (Try.f25.body.getD .skip)) Q ⟨e,h⟩:=rfl
theorem qU1 (N:Nat) (v65:List (Val qb)) (v67:List (Val (.slice 4 .bool))) {k11:(List (Val (.int .i64)))→Option (qc [i27,i4])} {Q:X→St→Option (qc [i27,i4])} {c:Code} (hc:c=qGa) (hret: ∀st,Q .ret st=qI tt true [i27,i4] [.tmp 4,.tmp 5] st) (h11: ∀(v69:List (Val (.int .i64))),Q (.exit 11) ⟨[u,u,u,u,u,u,u,u,u,u,u,u,u,.one (.own 0),u,u,u,u,u,u,u,u,u,u,u,u,u,u,u,u,u,u,u,u,u,u,u,u,u,u,u,u,u,u,u,u,u,u,u,u,u,u,u,u,u,u,u,u,u,u,u,u,u,u,u,u,u,u,u,u,u,u,u,u,u,u,u,u,u,u,u,u,u,u,u,u,u,u,u,u,u,u,u,u,u,u,u,u,u,u,u,u,u,u,u,u,u,u,u,u,u,u,u,u,u,u,u,u,u,u,u,u,u,u,u,u,u,u,u,u,u,u,u,u,u,u,u,u,u,u,u,u,u,u,u,u,u,u,u,u,u,u,u,u,u,u,u,u,u,u,u,u,u,u,u,u,u,u],[.row 3 (.int .i64) v69 true true 0]⟩=k11 v69): ∀(n:Nat) (v66:Int) (v68:List (Val (.int .i64))),qC (qe tt Γ25 (T25 N) c) false ql3 Q n ⟨[u,.one (.sl 120 qb v65 2),u,u,u,u,.one (.own 0),u,u,u,u,u,u,.one (.own 1),.one (.int .i64 v66),u,u,u,u,u,u,u,u,u,u,u,u,u,u,u,u,u,u,u,u,u,u,u,u,u,u,u,u,u,u,u,u,u,u,u,u,u,u,u,u,u,u,u,u,u,u,u,u,u,u,u,u,u,u,u,u,u,u,u,u,u,u,u,u,u,u,u,u,u,u,u,u,u,u,u,u,u,u,u,u,u,u,u,u,u,u,u,u,u,u,u,u,u,u,u,u,u,u,u,u,u,u,u,u,u,u,u,u,u,u,u,u,u,u,u,u,u,u,u,u,u,u,u,u,u,u,u,u,u,u,u,u,u,u,u,u,u,u,u,u,u,u,u,u,u,u,u,u,u,u,u,u,u],[.row 118 (.slice 4 .bool) v67 true true 0,.row 3 (.int .i64) v68 true true 0]⟩=qfn N v65 v67 k11 n v66 v68:=by
 subst hc;intro n;induction n with
 | zero=>intros;rfl
 | succ n ih=>
   intro v66 v68
   rw [qM,qK9,qfn];unfold Try.f25
   simp (maxSteps:=10000000) -implicitDefEqProofs [qdz,qcn,qeB,qcA,qd8,qcE,qc0,qcB,qex,qcs,qdq,qdp,qdT,qc7,qc4,qdH,qcW,qcX,qd9,qey,qdx,qeE,qcU,qdL,qer,qeC,qc1,qcT,qd0,qds,qei,qej,qep,qdM,qew,qeg,qdI,qeh,qdA,qd5,qd1,qdJ,qeA,qdY,qdV,qea,qdE,qdR,qdm,g79,hret,h11,ih]
theorem qPh (N:Nat) (v0:List (Val qf)) (v1:List (Val qb)):qe tt Γ25 (T25 N) (Try.f25.body.getD .skip) (qr tt true [i27,i4] [.tmp 4,.tmp 5]) (qv [i63,i65] 168 (v0,v1,()))=m25 N v0 v1:=by
 unfold Try.f25
 simp (maxSteps:=10000000) -implicitDefEqProofs [qdz,qcn,qeB,qcA,qd8,qcE,qc0,qcB,qex,qcs,qdq,qdp,qdT,qc7,qc4,qdH,qcW,qcX,qd9,qey,qdx,qeE,qcU,qdL,qer,qeC,qc1,qcT,qd0,qds,qei,qej,qep,qdM,qew,qeg,qdI,qeh,qdA,qd5,qd1,qdJ,qeA,qdY,qdV,qea,qdE,qdR,qdm,g79]
 rewrite [qSY (k0:=(fun (v64:List (Val (.slice 4 .bool)))=>qfn N v1 v64 (fun (v70:List (Val (.int .i64)))=>some (v70,true,())) N (0:Int) ([]:List (Val (.int .i64))))) N _ ?_ ?_ ?_]
 ·rewrite [m25];first | rfl | simp (maxSteps:=10000000) -implicitDefEqProofs []
 ·rfl
 ·intro;simp only [qK,qL,qN,qm]
 ·intro v64;simp (maxSteps:=10000000) -implicitDefEqProofs [qdz,qcn,qeB,qcA,qd8,qcE,qc0,qcB,qex,qcs,qdq,qdp,qdT,qc7,qc4,qdH,qcW,qcX,qd9,qey,qdx,qeE,qcU,qdL,qer,qeC,qc1,qcT,qd0,qds,qei,qej,qep,qdM,qew,qeg,qdI,qeh,qdA,qd5,qd1,qdJ,qeA,qdY,qdV,qea,qdE,qdR,qdm,g79]
  rewrite [qU1 (k11:=(fun (v70:List (Val (.int .i64)))=>some (v70,true,()))) N _ _ ?_ ?_ ?_]
  ·first | rfl | simp (maxSteps:=10000000) -implicitDefEqProofs []
  ·rfl
  ·intro;simp only [qK,qL,qN,qm]
  ·intro v70;simp (maxSteps:=10000000) -implicitDefEqProofs [qdz,qcn,qeB,qcA,qd8,qcE,qc0,qcB,qex,qcs,qdq,qdp,qdT,qc7,qc4,qdH,qcW,qcX,qd9,qey,qdx,qeE,qcU,qdL,qer,qeC,qc1,qcT,qd0,qds,qei,qej,qep,qdM,qew,qeg,qdI,qeh,qdA,qd5,qd1,qdJ,qeA,qdY,qdV,qea,qdE,qdR,qdm,g79]
end Go.T
