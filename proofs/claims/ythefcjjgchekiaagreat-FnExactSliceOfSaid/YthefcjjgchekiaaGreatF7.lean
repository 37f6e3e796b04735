/- The law of SliceOf. -/
import Derived.Test.YthefcjjgchekiaaGreatF3
import Derived.Test.YthefcjjgchekiaaGreatE20
set_option linter.unusedSimpArgs false
set_option linter.unusedVariables false
namespace Go.T
open Go Go.Proofs
set_option maxHeartbeats 4000000
set_option maxRecDepth 100000
def qa0 (x:Val Y68):Val Y28:=x
def qon (x:Val Y68):Prop:=Bd Y68 x
noncomputable def m51 (N:Nat) (v0:Val Y68):Option (qc [i28]):=some (v0,())
def Γ51:Gam:=[]
def qFG:Nat→Tree:=fun _=> .done
def qNk:Nat→Nm:=fun _=>⟨[],[],false⟩
def q3k:Nat→Option Jn:=fun _=>none
def q4b:Nat→Option Nm:=fun _=>none
def qYi:Nat→Option Nm:=fun _=>none
theorem p51:qh qFG (Tryz.f51.body.getD .skip)=true:=by kernel_rfl
def T51 (N:Nat):Tab:={tr:=qFG,lp:=qNk,ex:=q4b,rg:=qYi,jn:=q3k,fuel:=N}
theorem zsq (N:Nat):(T51 N).pins=false:=rfl
theorem zi6 (N:Nat):qk Tryz.prog (T51 N):=qo fun _=>rfl
theorem zo5 (N:Nat) (i:Nat):(T51 N).tr i=qFG i:=rfl
theorem zoc (N:Nat) (i:Nat):(T51 N).lp i=qNk i:=rfl
theorem zgh (N:Nat) (i:Nat):(T51 N).ex i=q4b i:=rfl
theorem zAH (N:Nat) (i:Nat):(T51 N).rg i=qYi i:=rfl
theorem zxr (N:Nat) (i:Nat):(T51 N).jn i=q3k i:=rfl
theorem zsR (N:Nat):(T51 N).fuel=N:=rfl
theorem zlE (N:Nat) (v0:Val Y68):qf tt Γ51 (T51 N) (Tryz.f51.body.getD .skip) (qm tt true [i28] [.cell 2 28]) (qp [i68] 11 (v0,()))=m51 N v0:=by
 rw [m51];unfold Tryz.f51
 simp (maxSteps:=10000000) -implicitDefEqProofs [zo5,qFG,zoc,qNk,zgh,q4b,zAH,qYi,zxr,q3k,zsR,zsq]
 try rfl
def g51:G:={ps:=[i68],rs:=[i28],dp:=true,pre:=fun x=>qon x.1,fn:=fun x=>(qa0 x.1,())}
theorem e51 (x:Val Y68) (h:qon x): ∃N,m51 N x=some (qa0 x,()):=⟨0,by
 obtain ⟨s0,s1⟩:=h
 rw [m51]
 rfl⟩
theorem s51:Sound Tryz.prog 51 g51:=qr (tt:=tt) (Γ:=Γ51) hT qn hm (fn:=Tryz.f51) Tryz.func51 (c:=Tryz.f51.body.getD .skip) (by kernel_rfl) (by kernel_rfl) fun x hx=>by
 obtain ⟨N,h⟩:=e51 x.1 hx
 exact ⟨T51 N,p51,qu _,zi6 N,(zlE N x.1).trans h⟩
noncomputable def qGs (N:Nat) (v3:Int) (v4:Int) (v5:List (Val Y24)) (v6:Int) (v7:Int) (k9005:Bool→Int→(List (Val Y33))→Option (qc [i4])) (_:Nat):Option (qc [i4]):=chk (q9 (v4,v5)) (chk (qon (v6,v7)) (chk (qBX (((qd (v4,v5)).1:Int),((qd (v4,v5)).2:List (Val Y33))) v3 (((qa0 (v6,v7)).1:Int),((qa0 (v6,v7)).2:Int))) (k9005 ((qbu (((qd (v4,v5)).1:Int),((qd (v4,v5)).2:List (Val Y33))) v3 (((qa0 (v6,v7)).1:Int),((qa0 (v6,v7)).2:Int))).2:Bool) (((qbu (((qd (v4,v5)).1:Int),((qd (v4,v5)).2:List (Val Y33))) v3 (((qa0 (v6,v7)).1:Int),((qa0 (v6,v7)).2:Int))).1).1:Int) (((qbu (((qd (v4,v5)).1:Int),((qd (v4,v5)).2:List (Val Y33))) v3 (((qa0 (v6,v7)).1:Int),((qa0 (v6,v7)).2:Int))).1).2:List (Val Y33)))))
noncomputable def qsV (N:Nat) (v14:Int) (v15:Bool) (v16:Int) (v17:List (Val Y24)) (v18:Int) (v19:Int) (v20:Int) (v21:Int) (v22:List (Val Y33)) (v23:List (Val Y33)) (k9007:Bool→Int→(List (Val Y33))→Option (qc [i4])) (_:Nat):Option (qc [i4]):=chk (qon (v18,v19)) (k9007 ((qbu (v21,v23) v14 (((qa0 (v18,v19)).1:Int),((qa0 (v18,v19)).2:Int))).2:Bool) (((qbu (v21,v23) v14 (((qa0 (v18,v19)).1:Int),((qa0 (v18,v19)).2:Int))).1).1:Int) (((qbu (v21,v23) v14 (((qa0 (v18,v19)).1:Int),((qa0 (v18,v19)).2:Int))).1).2:List (Val Y33)))
noncomputable def qo7 (N:Nat) (v30:Int) (v31:Bool) (v32:Int) (v33:Int) (v34:List (Val Y24)) (v35:Int) (v36:Int) (v37:Int) (v38:Int) (v39:List (Val Y33)) (v40:List (Val Y33)) (k9024:Bool→Int→(List (Val Y33))→Option (qc [i4])) (_:Nat):Option (qc [i4]):=chk (q9 (v33,v34)) (chk (qon (v35,v36)) (k9024 ((qbu (((qd (v33,v34)).1:Int),((qd (v33,v34)).2:List (Val Y33))) v30 (((qa0 (v35,v36)).1:Int),((qa0 (v35,v36)).2:Int))).2:Bool) (((qbu (((qd (v33,v34)).1:Int),((qd (v33,v34)).2:List (Val Y33))) v30 (((qa0 (v35,v36)).1:Int),((qa0 (v35,v36)).2:Int))).1).1:Int) (((qbu (((qd (v33,v34)).1:Int),((qd (v33,v34)).2:List (Val Y33))) v30 (((qa0 (v35,v36)).1:Int),((qa0 (v35,v36)).2:Int))).1).2:List (Val Y33))))
noncomputable def m9 (N:Nat) (v0:Val Y42) (v1:Int) (v2:Val Y68):Option (qc [i4]):=chk (qby v0 (1048576:Int)) (bif (decide (((qaT v0 (1048576:Int)):Int)<(0:Int)))then (some (true,()))else (qGs N v1 (v0.1:Int) (v0.2:List (Val Y24)) (v2.1:Int) (v2.2:Int) (fun (v11:Bool) (v12:Int) (v13:List (Val Y33))=>chk (q9 v0) (qsV N v1 v11 (v0.1:Int) (v0.2:List (Val Y24)) (v2.1:Int) (v2.2:Int) v12 ((qd v0).1:Int) v13 ((qd v0).2:List (Val Y33)) (fun (v27:Bool) (v28:Int) (v29:List (Val Y33))=>chk (q5 (v28,v29) (v12,v13)) (bif (!((qaf (v28,v29) (v12,v13)):Bool))then (some (false,()))else (bif (!(v27==v11))then (some (false,()))else (chk (q9 v0) (chk (q5 (((qd v0).1:Int),((qd v0).2:List (Val Y33))) (((qd v0).1:Int),((qd v0).2:List (Val Y33)))) (bif (!((qaf (((qd v0).1:Int),((qd v0).2:List (Val Y33))) (((qd v0).1:Int),((qd v0).2:List (Val Y33)))):Bool))then (some (false,()))else (chk (qaP (((qd v0).1:Int),((qd v0).2:List (Val Y33))) (1:Int)) (bif (decide ((qM (((qd v0).1:Int),((qd v0).2:List (Val Y33))) (1:Int))<(0:Int)))then (some (false,()))else (chk (q5 (v28,v29) (v12,v13)) (bif (!((qaf (v28,v29) (v12,v13)):Bool))then (some (false,()))else (bif (!(v27==v11))then (some (false,()))else (chk (qaP (v28,v29) (1:Int)) (chk (qbg (v28,((qG (v28,v29) (1:Int)).2:List (Val Y33))) (1:Int)) (bif (decide (((qap (v28,((qG (v28,v29) (1:Int)).2:List (Val Y33))) (1:Int)):Int)<(0:Int)))then (some (false,()))else (bif (!(decide (((qap (v28,((qG (v28,v29) (1:Int)).2:List (Val Y33))) (1:Int)):Int)=(qM (v28,v29) (1:Int)))))then (some (false,()))else (qo7 N v1 v11 (qM (v28,v29) (1:Int)) (v0.1:Int) (v0.2:List (Val Y24)) (v2.1:Int) (v2.2:Int) v12 v28 v13 ((qG (v28,v29) (1:Int)).2:List (Val Y33)) (fun (v44:Bool) (v45:Int) (v46:List (Val Y33))=>chk (q5 (v45,v46) (v12,v13)) (bif (!((qaf (v45,v46) (v12,v13)):Bool))then (some (false,()))else (bif (!(v44==v11))then (some (false,()))else (chk (qbg (v28,((qG (v28,v29) (1:Int)).2:List (Val Y33))) (1:Int)) (bif (decide (((qap (v28,((qG (v28,v29) (1:Int)).2:List (Val Y33))) (1:Int)):Int)<(0:Int)))then (some (false,()))else (bif (!(decide (((qap (v28,((qG (v28,v29) (1:Int)).2:List (Val Y33))) (1:Int)):Int)=(qM (v28,v29) (1:Int)))))then (some (false,()))else (some (true,())))))))) N)))))))))))))))) N)) N))
def Γ9:Gam:=[(30,g30),(33,g33),(36,g36),(43,g43),(50,g50),(51,g51),(52,g52)]
theorem qjr:Gam.get Γ9 30=some g30:=rfl
theorem qmp:Gam.get Γ9 33=some g33:=rfl
theorem qj4:Gam.get Γ9 36=some g36:=rfl
theorem qjQ:Gam.get Γ9 43=some g43:=rfl
theorem qkG:Gam.get Γ9 50=some g50:=rfl
theorem qjB:Gam.get Γ9 51=some g51:=rfl
theorem qlY:Gam.get Γ9 52=some g52:=rfl
theorem qjN:Gam.get Γ9 42=none:=rfl
def qzH:Nm:=⟨[false,true,false,true,false,true],[],true⟩
theorem qkk:qzH.zero=true:=rfl
theorem qka:qzH.fix=[]:=rfl
theorem qlX:qzH.keep=[false,true,false,true,false,true]:=rfl
def qDY:Nm:=⟨[false,true,false,true,false,true,false,false,true,true,true],[],true⟩
theorem qjc:qDY.zero=true:=rfl
theorem qko:qDY.fix=[]:=rfl
theorem qmb:qDY.keep=[false,true,false,true,false,true,false,false,true,true,true]:=rfl
def qGm:Nm:=⟨[false,true,false,true,false,true,false,false,true,true,false,true,false,false,true],[],true⟩
theorem qmi:qGm.zero=true:=rfl
theorem qkB:qGm.fix=[]:=rfl
theorem qjs:qGm.keep=[false,true,false,true,false,true,false,false,true,true,false,true,false,false,true]:=rfl
def qE6:Nm:=⟨[false,true,false,true,false,true,false,false,true,true],[],true⟩
theorem qlF:qE6.zero=true:=rfl
theorem qjZ:qE6.fix=[]:=rfl
theorem qjt:qE6.keep=[false,true,false,true,false,true,false,false,true,true]:=rfl
def qEf:Nm:=⟨[false,true,false,true,false,true,false,false,true,true,true,true,true],[],true⟩
theorem qmv:qEf.zero=true:=rfl
theorem qmG:qEf.fix=[]:=rfl
theorem qlB:qEf.keep=[false,true,false,true,false,true,false,false,true,true,true,true,true]:=rfl
def qzo:Nm:=⟨[false,false,false,false,false,false,false,false,true,true,false,true,false,false,true,false,true,true],[],true⟩
theorem qkW:qzo.zero=true:=rfl
theorem qk1:qzo.fix=[]:=rfl
theorem qlZ:qzo.keep=[false,false,false,false,false,false,false,false,true,true,false,true,false,false,true,false,true,true]:=rfl
def qgE:Sem:=qew [(42,qcm)] []
def tr9:Nat→Tree:=fun i=>if i=5 then .first 2 (.grow 0 (.alt 1 (.grow 3 (.alt 4 (.alt 5 (.first 6 (.first 7 (.first 8 (.alt 9 (.alt 10 (.quiet 11 .done) .stop) .stop)))) (.alt 9 (.alt 5 (.quiet 6 (.quiet 7 (.first 8 (.alt 10 (.quiet 11 .done) .stop)))) .stop) .stop)) (.alt 9 (.alt 4 (.alt 5 (.quiet 6 (.quiet 7 (.first 8 (.alt 10 (.quiet 11 .done) .stop)))) .stop) .stop) .stop))) (.alt 3 (.alt 1 (.alt 4 (.alt 5 (.first 6 (.first 7 (.first 8 (.alt 9 (.alt 10 (.quiet 11 .done) .stop) .stop)))) (.alt 9 (.alt 5 (.quiet 6 (.quiet 7 (.first 8 (.alt 10 (.quiet 11 .done) .stop)))) .stop) .stop)) (.alt 9 (.alt 4 (.alt 5 (.quiet 6 (.quiet 7 (.first 8 (.alt 10 (.quiet 11 .done) .stop)))) .stop) .stop) .stop)) (.alt 9 (.alt 1 (.alt 4 (.alt 5 (.quiet 6 (.quiet 7 (.first 8 (.alt 10 (.quiet 11 .done) .stop)))) .stop) .stop) .stop) .stop)) (.alt 9 (.alt 1 (.quiet 3 (.alt 4 (.alt 5 (.quiet 6 (.quiet 7 (.first 8 (.alt 10 (.quiet 11 .done) .stop)))) .stop) .stop)) (.alt 3 (.alt 1 (.alt 4 (.alt 5 (.quiet 6 (.quiet 7 (.first 8 (.alt 10 (.quiet 11 .done) .stop)))) .stop) .stop) .stop) .stop)) .stop))))else if i=7 then .first 1 (.grow 2 (.alt 0 (.alt 3 (.alt 4 (.first 5 (.first 6 (.first 7 (.alt 8 (.alt 9 (.quiet 10 .done) .stop) .stop)))) (.alt 8 (.alt 4 (.quiet 5 (.quiet 6 (.first 7 (.alt 9 (.quiet 10 .done) .stop)))) .stop) .stop)) (.alt 8 (.alt 3 (.alt 4 (.quiet 5 (.quiet 6 (.first 7 (.alt 9 (.quiet 10 .done) .stop)))) .stop) .stop) .stop)) (.alt 3 (.grow 0 (.alt 4 (.first 5 (.first 6 (.first 7 (.alt 8 (.alt 9 (.quiet 10 .done) .stop) .stop)))) (.alt 8 (.alt 4 (.quiet 5 (.quiet 6 (.first 7 (.alt 9 (.quiet 10 .done) .stop)))) .stop) .stop))) (.alt 8 (.alt 0 (.alt 3 (.alt 4 (.quiet 5 (.quiet 6 (.first 7 (.alt 9 (.quiet 10 .done) .stop)))) .stop) .stop) (.alt 3 (.quiet 0 (.alt 4 (.quiet 5 (.quiet 6 (.first 7 (.alt 9 (.quiet 10 .done) .stop)))) .stop)) .stop)) .stop))))else if i=10 then .quiet 1 (.alt 0 (.alt 2 (.alt 3 (.quiet 4 .done) .stop) .stop) (.alt 2 (.quiet 0 (.alt 3 (.quiet 4 .done) .stop)) .stop))else if i=24 then .first 2 (.grow 0 (.alt 1 (.grow 3 (.alt 4 (.alt 5 (.first 6 (.first 7 (.first 8 (.alt 9 (.alt 10 (.quiet 11 .done) .stop) .stop)))) (.alt 9 (.alt 5 (.quiet 6 (.quiet 7 (.first 8 (.alt 10 (.quiet 11 .done) .stop)))) .stop) .stop)) (.alt 9 (.alt 4 (.alt 5 (.quiet 6 (.quiet 7 (.first 8 (.alt 10 (.quiet 11 .done) .stop)))) .stop) .stop) .stop))) (.alt 3 (.alt 1 (.alt 4 (.alt 5 (.first 6 (.first 7 (.first 8 (.alt 9 (.alt 10 (.quiet 11 .done) .stop) .stop)))) (.alt 9 (.alt 5 (.quiet 6 (.quiet 7 (.first 8 (.alt 10 (.quiet 11 .done) .stop)))) .stop) .stop)) (.alt 9 (.alt 4 (.alt 5 (.quiet 6 (.quiet 7 (.first 8 (.alt 10 (.quiet 11 .done) .stop)))) .stop) .stop) .stop)) (.alt 9 (.alt 1 (.alt 4 (.alt 5 (.quiet 6 (.quiet 7 (.first 8 (.alt 10 (.quiet 11 .done) .stop)))) .stop) .stop) .stop) .stop)) (.alt 9 (.alt 1 (.quiet 3 (.alt 4 (.alt 5 (.quiet 6 (.quiet 7 (.first 8 (.alt 10 (.quiet 11 .done) .stop)))) .stop) .stop)) (.alt 3 (.alt 1 (.alt 4 (.alt 5 (.quiet 6 (.quiet 7 (.first 8 (.alt 10 (.quiet 11 .done) .stop)))) .stop) .stop) .stop) .stop)) .stop))))else .done
def lp9:Nat→Nm:=fun _=>⟨[],[],false⟩
def jn9:Nat→Option Jn:=fun i=>if i=5 then some (.nm qzH)else if i=7 then some (.nm qDY)else if i=24 then some (.nm qGm)else none
def ex9:Nat→Option Nm:=fun _=>none
def rg9:Nat→Option Nm:=fun i=>if i=5 then some qE6 else if i=7 then some qEf else if i=24 then some qzo else none
theorem p9:qh tr9 (Tryz.f9.body.getD .skip)=true:=by kernel_rfl
def T9 (N:Nat):Tab:={tr:=tr9,lp:=lp9,ex:=ex9,rg:=rg9,jn:=jn9,fuel:=N,sem:=qgE}
theorem qlp (N:Nat):(T9 N).pins=false:=rfl
theorem tb9 (N:Nat):qk Tryz.prog (T9 N):=fun id j t h ht=>by
 have h:jn9 id=_:=h
 unfold jn9 at h
 repeat' split at h
 all_goals first | (simp at h;done) | (simp only [Option.some.injEq]at h;subst h;simp [Jn.tb]at ht;done) | (simp only [Option.some.injEq]at h;subst h;simp only [Jn.tb,Option.some.injEq]at ht;subst ht;exact hTH)
theorem qkc (N:Nat):(T9 N).sem=qgE:=rfl
theorem qjy (N:Nat) (i:Nat):(T9 N).tr i=tr9 i:=rfl
theorem qlu (N:Nat) (i:Nat):(T9 N).lp i=lp9 i:=rfl
theorem qmj (N:Nat) (i:Nat):(T9 N).ex i=ex9 i:=rfl
theorem qkF (N:Nat) (i:Nat):(T9 N).rg i=rg9 i:=rfl
theorem qkn (N:Nat) (i:Nat):(T9 N).jn i=jn9 i:=rfl
theorem qkK (N:Nat):(T9 N).fuel=N:=rfl
noncomputable def q8H:Code:=cut [true,true,true,true,false] (Tryz.f9.body.getD .skip)
theorem zpu {N:Nat} {Q:X→St→Option (qc [i4])} {e:List LV} {h:List Blk}:qay tt Γ9 (T9 N) q8H Q ⟨e,h⟩=qay tt Γ9 (T9 N) (cut [true,true,true,true,false] (Tryz.f9.body.getD .skip)) Q ⟨e,h⟩:=rfl
theorem zh6 (N:Nat) (v3:Int) (v4:Int) (v5:List (Val Y24)) (v6:Int) (v7:Int) {k9005:Bool→Int→(List (Val Y33))→Option (qc [i4])} {Q:X→St→Option (qc [i4])} {c:Code} (hc:c=q8H) (h9005: ∀(v8:Bool) (v9:Int) (v10:List (Val Y33)),Q .normal ⟨[u,.one (.int .i64 v3),u,.one (.ptr 0 0 0),u,.one (.ptr 1 0 0),u,u,.one (.ptr 2 0 0),.one (.bool v8),u,u,u,u,u,u,u,u,u,u,u,u,u,u,u,u,u,u,u,u,u,u,u,u,u,u,u,u,u,u,u,u,u,u,u,u,u,u,u,u,u,u,u,u,u,u,u,u,u,u,u,u,u,u,u,u,u,u,u,u,u,u,u,u,u,u,u,u,u,u,u,u,u,u,u,u,u,u,u,u,u,u,u,u,u,u,u,u,u,u,u,u,u,u,u,u,u,u,u],[.box [.int .i64 v4,.sl 24 Y24 v5 0],.box [.int .i64 v6,.int .i64 v7],.box [.int .i64 v9,.own 3],.row 33 Y33 v10 true true 0]⟩=k9005 v8 v9 v10):qay tt Γ9 (T9 N) c Q ⟨[u,.one (.int .i64 v3),u,.one (.ptr 0 0 0),u,.one (.ptr 1 0 0),u,u,u,u,u,u,u,u,u,u,u,u,u,u,u,u,u,u,u,u,u,u,u,u,u,u,u,u,u,u,u,u,u,u,u,u,u,u,u,u,u,u,u,u,u,u,u,u,u,u,u,u,u,u,u,u,u,u,u,u,u,u,u,u,u,u,u,u,u,u,u,u,u,u,u,u,u,u,u,u,u,u,u,u,u,u,u,u,u,u,u,u,u,u,u,u,u,u,u,u,u,u,u],[.box [.int .i64 v4,.sl 24 Y24 v5 0],.box [.int .i64 v6,.int .i64 v7]]⟩=qGs N v3 v4 v5 v6 v7 k9005 N:=by
 subst hc;rw [zpu,qGs];unfold Tryz.f9
 simp (maxSteps:=10000000) -implicitDefEqProofs [qaE (id:=5),qaD (id:=5),qjy,tr9,qlu,lp9,qmj,ex9,qkF,rg9,qkn,jn9,qkK,qlp,qkc,qgE,qaa,qjN,qcm,qka,qlX,qkk,qko,qmb,qjc,qkB,qjs,qmi,qjZ,qjt,qlF,qmG,qlB,qmv,qk1,qlZ,qkW,qjr,qmp,qj4,qjQ,qkG,qjB,qlY,g30,g33,g36,g43,g50,g51,g52,h9005]
noncomputable def zaU:Code:=cut [true,true,true,true,true,true,false] (Tryz.f9.body.getD .skip)
theorem zgI {N:Nat} {Q:X→St→Option (qc [i4])} {e:List LV} {h:List Blk}:qay tt Γ9 (T9 N) zaU Q ⟨e,h⟩=qay tt Γ9 (T9 N) (cut [true,true,true,true,true,true,false] (Tryz.f9.body.getD .skip)) Q ⟨e,h⟩:=rfl
theorem zzH (N:Nat) (v14:Int) (v15:Bool) (v16:Int) (v17:List (Val Y24)) (v18:Int) (v19:Int) (v20:Int) (v21:Int) (v22:List (Val Y33)) (v23:List (Val Y33)) {k9007:Bool→Int→(List (Val Y33))→Option (qc [i4])} {Q:X→St→Option (qc [i4])} {c:Code} (hc:c=zaU) (h9007: ∀(v24:Bool) (v25:Int) (v26:List (Val Y33)),Q .normal ⟨[u,.one (.int .i64 v14),u,.one (.ptr 0 0 0),u,.one (.ptr 1 0 0),u,u,.one (.ptr 2 0 0),.one (.bool v15),.one (.ptr 3 0 0),.one (.ptr 4 0 0),.one (.bool v24),u,u,u,u,u,u,u,u,u,u,u,u,u,u,u,u,u,u,u,u,u,u,u,u,u,u,u,u,u,u,u,u,u,u,u,u,u,u,u,u,u,u,u,u,u,u,u,u,u,u,u,u,u,u,u,u,u,u,u,u,u,u,u,u,u,u,u,u,u,u,u,u,u,u,u,u,u,u,u,u,u,u,u,u,u,u,u,u,u,u,u,u,u,u,u,u],[.box [.int .i64 v16,.sl 24 Y24 v17 0],.box [.int .i64 v18,.int .i64 v19],.box [.int .i64 v20,.own 5],.box [.int .i64 v21,.own 6],.box [.int .i64 v25,.own 7],.row 33 Y33 v22 true true 0,.row 33 Y33 v23 true true 0,.row 33 Y33 v26 true true 0]⟩=k9007 v24 v25 v26):qay tt Γ9 (T9 N) c Q ⟨[u,.one (.int .i64 v14),u,.one (.ptr 0 0 0),u,.one (.ptr 1 0 0),u,u,.one (.ptr 2 0 0),.one (.bool v15),.one (.ptr 3 0 0),u,u,u,u,u,u,u,u,u,u,u,u,u,u,u,u,u,u,u,u,u,u,u,u,u,u,u,u,u,u,u,u,u,u,u,u,u,u,u,u,u,u,u,u,u,u,u,u,u,u,u,u,u,u,u,u,u,u,u,u,u,u,u,u,u,u,u,u,u,u,u,u,u,u,u,u,u,u,u,u,u,u,u,u,u,u,u,u,u,u,u,u,u,u,u,u,u,u],[.box [.int .i64 v16,.sl 24 Y24 v17 0],.box [.int .i64 v18,.int .i64 v19],.box [.int .i64 v20,.own 4],.box [.int .i64 v21,.own 5],.row 33 Y33 v22 true true 0,.row 33 Y33 v23 true true 0]⟩=qsV N v14 v15 v16 v17 v18 v19 v20 v21 v22 v23 k9007 N:=by
 subst hc;rw [zgI,qsV];unfold Tryz.f9
 simp (maxSteps:=10000000) -implicitDefEqProofs [qaE (id:=7),qaD (id:=7),qjy,tr9,qlu,lp9,qmj,ex9,qkF,rg9,qkn,jn9,qkK,qlp,qkc,qgE,qaa,qjN,qcm,qka,qlX,qkk,qko,qmb,qjc,qkB,qjs,qmi,qjZ,qjt,qlF,qmG,qlB,qmv,qk1,qlZ,qkW,qjr,qmp,qj4,qjQ,qkG,qjB,qlY,g30,g33,g36,g43,g50,g51,g52,h9007]
noncomputable def q8f:Code:=cut [true,true,true,true,true,true,true,true,true,true,true,true,true,true,true,true,true,true,false] (Tryz.f9.body.getD .skip)
theorem zgq {N:Nat} {Q:X→St→Option (qc [i4])} {e:List LV} {h:List Blk}:qay tt Γ9 (T9 N) q8f Q ⟨e,h⟩=qay tt Γ9 (T9 N) (cut [true,true,true,true,true,true,true,true,true,true,true,true,true,true,true,true,true,true,false] (Tryz.f9.body.getD .skip)) Q ⟨e,h⟩:=rfl
theorem zt4 (N:Nat) (v30:Int) (v31:Bool) (v32:Int) (v33:Int) (v34:List (Val Y24)) (v35:Int) (v36:Int) (v37:Int) (v38:Int) (v39:List (Val Y33)) (v40:List (Val Y33)) {k9024:Bool→Int→(List (Val Y33))→Option (qc [i4])} {Q:X→St→Option (qc [i4])} {c:Code} (hc:c=q8f) (h9024: ∀(v41:Bool) (v42:Int) (v43:List (Val Y33)),Q .normal ⟨[u,u,u,u,u,u,u,u,.one (.ptr 0 0 0),.one (.bool v31),u,.one (.ptr 1 0 0),u,u,.one (.int .i64 v32),u,.one (.ptr 2 0 0),.one (.bool v41),u,u,u,u,u,u,u,u,u,u,u,u,u,u,u,u,u,u,u,u,u,u,u,u,u,u,u,u,u,u,u,u,u,u,u,u,u,u,u,u,u,u,u,u,u,u,u,u,u,u,u,u,u,u,u,u,u,u,u,u,u,u,u,u,u,u,u,u,u,u,u,u,u,u,u,u,u,u,u,u,u,u,u,u,u,u,u,u,u,u,u],[.box [.int .i64 v37,.own 3],.box [.int .i64 v38,.own 4],.box [.int .i64 v42,.own 5],.row 33 Y33 v39 true true 0,.row 33 Y33 v40 true true 0,.row 33 Y33 v43 true true 0]⟩=k9024 v41 v42 v43):qay tt Γ9 (T9 N) c Q ⟨[u,.one (.int .i64 v30),u,.one (.ptr 0 0 0),u,.one (.ptr 1 0 0),u,u,.one (.ptr 2 0 0),.one (.bool v31),u,.one (.ptr 3 0 0),u,u,.one (.int .i64 v32),u,u,u,u,u,u,u,u,u,u,u,u,u,u,u,u,u,u,u,u,u,u,u,u,u,u,u,u,u,u,u,u,u,u,u,u,u,u,u,u,u,u,u,u,u,u,u,u,u,u,u,u,u,u,u,u,u,u,u,u,u,u,u,u,u,u,u,u,u,u,u,u,u,u,u,u,u,u,u,u,u,u,u,u,u,u,u,u,u,u,u,u,u,u],[.box [.int .i64 v33,.sl 24 Y24 v34 0],.box [.int .i64 v35,.int .i64 v36],.box [.int .i64 v37,.own 4],.box [.int .i64 v38,.own 5],.row 33 Y33 v39 true true 0,.row 33 Y33 v40 true true 0]⟩=qo7 N v30 v31 v32 v33 v34 v35 v36 v37 v38 v39 v40 k9024 N:=by
 subst hc;rw [zgq,qo7];unfold Tryz.f9
 simp (maxSteps:=10000000) -implicitDefEqProofs [qaE (id:=24),qaD (id:=24),qjy,tr9,qlu,lp9,qmj,ex9,qkF,rg9,qkn,jn9,qkK,qlp,qkc,qgE,qaa,qjN,qcm,qka,qlX,qkk,qko,qmb,qjc,qkB,qjs,qmi,qjZ,qjt,qlF,qmG,qlB,qmv,qk1,qlZ,qkW,qjr,qmp,qj4,qjQ,qkG,qjB,qlY,g30,g33,g36,g43,g50,g51,g52,h9024]
theorem zqV (N:Nat) (v0:Val Y42) (v1:Int) (v2:Val Y68):qf tt Γ9 (T9 N) (Tryz.f9.body.getD .skip) (qm tt true [i4] [.tmp 6]) (qp [i42,i3,i68] 109 (v0,v1,v2,()))=m9 N v0 v1 v2:=by
 unfold Tryz.f9
 simp (maxSteps:=10000000) -implicitDefEqProofs [qjy,tr9,qlu,lp9,qmj,ex9,qkF,rg9,qkn,jn9,qkK,qlp,qkc,qgE,qaa,qjN,qcm,qka,qlX,qkk,qko,qmb,qjc,qkB,qjs,qmi,qjZ,qjt,qlF,qmG,qlB,qmv,qk1,qlZ,qkW,qjr,qmp,qj4,qjQ,qkG,qjB,qlY,g30,g33,g36,g43,g50,g51,g52]
 rewrite [zh6 (k9005:=(fun (v11:Bool) (v12:Int) (v13:List (Val Y33))=>chk (q9 v0) (qsV N v1 v11 (v0.1:Int) (v0.2:List (Val Y24)) (v2.1:Int) (v2.2:Int) v12 ((qd v0).1:Int) v13 ((qd v0).2:List (Val Y33)) (fun (v27:Bool) (v28:Int) (v29:List (Val Y33))=>chk (q5 (v28,v29) (v12,v13)) (bif (!((qaf (v28,v29) (v12,v13)):Bool))then (some (false,()))else (bif (!(v27==v11))then (some (false,()))else (chk (q9 v0) (chk (q5 (((qd v0).1:Int),((qd v0).2:List (Val Y33))) (((qd v0).1:Int),((qd v0).2:List (Val Y33)))) (bif (!((qaf (((qd v0).1:Int),((qd v0).2:List (Val Y33))) (((qd v0).1:Int),((qd v0).2:List (Val Y33)))):Bool))then (some (false,()))else (chk (qaP (((qd v0).1:Int),((qd v0).2:List (Val Y33))) (1:Int)) (bif (decide ((qM (((qd v0).1:Int),((qd v0).2:List (Val Y33))) (1:Int))<(0:Int)))then (some (false,()))else (chk (q5 (v28,v29) (v12,v13)) (bif (!((qaf (v28,v29) (v12,v13)):Bool))then (some (false,()))else (bif (!(v27==v11))then (some (false,()))else (chk (qaP (v28,v29) (1:Int)) (chk (qbg (v28,((qG (v28,v29) (1:Int)).2:List (Val Y33))) (1:Int)) (bif (decide (((qap (v28,((qG (v28,v29) (1:Int)).2:List (Val Y33))) (1:Int)):Int)<(0:Int)))then (some (false,()))else (bif (!(decide (((qap (v28,((qG (v28,v29) (1:Int)).2:List (Val Y33))) (1:Int)):Int)=(qM (v28,v29) (1:Int)))))then (some (false,()))else (qo7 N v1 v11 (qM (v28,v29) (1:Int)) (v0.1:Int) (v0.2:List (Val Y24)) (v2.1:Int) (v2.2:Int) v12 v28 v13 ((qG (v28,v29) (1:Int)).2:List (Val Y33)) (fun (v44:Bool) (v45:Int) (v46:List (Val Y33))=>chk (q5 (v45,v46) (v12,v13)) (bif (!((qaf (v45,v46) (v12,v13)):Bool))then (some (false,()))else (bif (!(v44==v11))then (some (false,()))else (chk (qbg (v28,((qG (v28,v29) (1:Int)).2:List (Val Y33))) (1:Int)) (bif (decide (((qap (v28,((qG (v28,v29) (1:Int)).2:List (Val Y33))) (1:Int)):Int)<(0:Int)))then (some (false,()))else (bif (!(decide (((qap (v28,((qG (v28,v29) (1:Int)).2:List (Val Y33))) (1:Int)):Int)=(qM (v28,v29) (1:Int)))))then (some (false,()))else (some (true,())))))))) N)))))))))))))))) N))) N _ _ _ _ _ ?_ ?_]
 ·rewrite [m9];first | rfl | simp (maxSteps:=10000000) -implicitDefEqProofs []
 ·rfl
 ·intro v11 v12 v13;simp (maxSteps:=10000000) -implicitDefEqProofs [qjy,tr9,qlu,lp9,qmj,ex9,qkF,rg9,qkn,jn9,qkK,qlp,qkc,qgE,qaa,qjN,qcm,qka,qlX,qkk,qko,qmb,qjc,qkB,qjs,qmi,qjZ,qjt,qlF,qmG,qlB,qmv,qk1,qlZ,qkW,qjr,qmp,qj4,qjQ,qkG,qjB,qlY,g30,g33,g36,g43,g50,g51,g52]
  rewrite [zzH (k9007:=(fun (v27:Bool) (v28:Int) (v29:List (Val Y33))=>chk (q5 (v28,v29) (v12,v13)) (bif (!((qaf (v28,v29) (v12,v13)):Bool))then (some (false,()))else (bif (!(v27==v11))then (some (false,()))else (chk (q9 v0) (chk (q5 (((qd v0).1:Int),((qd v0).2:List (Val Y33))) (((qd v0).1:Int),((qd v0).2:List (Val Y33)))) (bif (!((qaf (((qd v0).1:Int),((qd v0).2:List (Val Y33))) (((qd v0).1:Int),((qd v0).2:List (Val Y33)))):Bool))then (some (false,()))else (chk (qaP (((qd v0).1:Int),((qd v0).2:List (Val Y33))) (1:Int)) (bif (decide ((qM (((qd v0).1:Int),((qd v0).2:List (Val Y33))) (1:Int))<(0:Int)))then (some (false,()))else (chk (q5 (v28,v29) (v12,v13)) (bif (!((qaf (v28,v29) (v12,v13)):Bool))then (some (false,()))else (bif (!(v27==v11))then (some (false,()))else (chk (qaP (v28,v29) (1:Int)) (chk (qbg (v28,((qG (v28,v29) (1:Int)).2:List (Val Y33))) (1:Int)) (bif (decide (((qap (v28,((qG (v28,v29) (1:Int)).2:List (Val Y33))) (1:Int)):Int)<(0:Int)))then (some (false,()))else (bif (!(decide (((qap (v28,((qG (v28,v29) (1:Int)).2:List (Val Y33))) (1:Int)):Int)=(qM (v28,v29) (1:Int)))))then (some (false,()))else (qo7 N v1 v11 (qM (v28,v29) (1:Int)) (v0.1:Int) (v0.2:List (Val Y24)) (v2.1:Int) (v2.2:Int) v12 v28 v13 ((qG (v28,v29) (1:Int)).2:List (Val Y33)) (fun (v44:Bool) (v45:Int) (v46:List (Val Y33))=>chk (q5 (v45,v46) (v12,v13)) (bif (!((qaf (v45,v46) (v12,v13)):Bool))then (some (false,()))else (bif (!(v44==v11))then (some (false,()))else (chk (qbg (v28,((qG (v28,v29) (1:Int)).2:List (Val Y33))) (1:Int)) (bif (decide (((qap (v28,((qG (v28,v29) (1:Int)).2:List (Val Y33))) (1:Int)):Int)<(0:Int)))then (some (false,()))else (bif (!(decide (((qap (v28,((qG (v28,v29) (1:Int)).2:List (Val Y33))) (1:Int)):Int)=(qM (v28,v29) (1:Int)))))then (some (false,()))else (some (true,())))))))) N))))))))))))))))) N _ _ _ _ _ _ _ _ _ _ ?_ ?_]
  ·first | rfl | simp (maxSteps:=10000000) -implicitDefEqProofs []
  ·rfl
  ·intro v27 v28 v29;simp (maxSteps:=10000000) -implicitDefEqProofs [qjy,tr9,qlu,lp9,qmj,ex9,qkF,rg9,qkn,jn9,qkK,qlp,qkc,qgE,qaa,qjN,qcm,qka,qlX,qkk,qko,qmb,qjc,qkB,qjs,qmi,qjZ,qjt,qlF,qmG,qlB,qmv,qk1,qlZ,qkW,qjr,qmp,qj4,qjQ,qkG,qjB,qlY,g30,g33,g36,g43,g50,g51,g52]
   rewrite [zt4 (k9024:=(fun (v44:Bool) (v45:Int) (v46:List (Val Y33))=>chk (q5 (v45,v46) (v12,v13)) (bif (!((qaf (v45,v46) (v12,v13)):Bool))then (some (false,()))else (bif (!(v44==v11))then (some (false,()))else (chk (qbg (v28,((qG (v28,v29) (1:Int)).2:List (Val Y33))) (1:Int)) (bif (decide (((qap (v28,((qG (v28,v29) (1:Int)).2:List (Val Y33))) (1:Int)):Int)<(0:Int)))then (some (false,()))else (bif (!(decide (((qap (v28,((qG (v28,v29) (1:Int)).2:List (Val Y33))) (1:Int)):Int)=(qM (v28,v29) (1:Int)))))then (some (false,()))else (some (true,()))))))))) N _ _ _ _ _ _ _ _ _ _ _ ?_ ?_]
   ·first | rfl | simp (maxSteps:=10000000) -implicitDefEqProofs []
   ·rfl
   ·intro v44 v45 v46;simp (maxSteps:=10000000) -implicitDefEqProofs [qjy,tr9,qlu,lp9,qmj,ex9,qkF,rg9,qkn,jn9,qkK,qlp,qkc,qgE,qaa,qjN,qcm,qka,qlX,qkk,qko,qmb,qjc,qkB,qjs,qmi,qjZ,qjt,qlF,qmG,qlB,qmv,qk1,qlZ,qkW,qjr,qmp,qj4,qjQ,qkG,qjB,qlY,g30,g33,g36,g43,g50,g51,g52]
def q9b (_:Val Y42) (_:Int) (_:Val Y68):Bool:=true
def q6h (x0:Val Y42) (x1:Int) (x2:Val Y68):Prop:=Sms [i42,i3,i68] (x0,x1,x2,())
def g9:G:={ps:=[i42,i3,i68],rs:=[i4],dp:=true,pre:=fun x=>q6h x.1 x.2.1 x.2.2.1,fn:=fun x=>(q9b x.1 x.2.1 x.2.2.1,())}
theorem q5P (f:qc [i33]→qc [i33,i4]): ∀(cs:List (Val Y33)) (r:Val Y50),(List.length (α:=Val Y33) r.2+cs.length≤12∧ ∀c∈(r.2:List (Val Y33)),qz c=true)→List.length (α:=Val Y33) (qaY f cs r).1.2≤12∧ ∀c∈((qaY f cs r).1.2:List (Val Y33)),qz c=true
 | [],r,h=>⟨by have:=h.1;simp at this;exact this,h.2⟩
 | c::cs,r,h=>by
   have h1:=h.1
   rw [List.length_cons]at h1
   simp only [qaY]
   cases (f (c,())).2.1 with
   | false=>exact ⟨Nat.zero_le _,fun c hc=>by cases hc⟩
   | true=>
     simp only [cond_true]
     have hl:=qA7 r (f (c,())).1
     have hm:= @qGG (f (c,())).1
     have hc2: ∀x∈((qag r (f (c,())).1).1.2:List (Val Y33)),qz x=true:=by
        unfold qag
        cases h2:(qU (f (c,())).1).2 with
        | false=>exact h.2
        | true=>
          cases qbM (qU (f (c,())).1).1 with
          | true=>exact h.2
          | false=>
            cases decide (12≤(List.length (α:=Val Y33) r.2:Int))with
            | true=>exact h.2
            | false=>
              intro x hx
              rcases List.mem_append.1 (show x∈(r.2:List (Val Y33))++[(qU (f (c,())).1).1] from hx)with hx | hx
              ·exact h.2 x hx
              ·obtain rfl:=List.mem_singleton.1 hx
               exact (hm h2).2.1
     cases (qag r (f (c,())).1).2 with
     | false=>exact ⟨Nat.zero_le _,fun c hc=>by cases hc⟩
     | true=>exact q5P f cs _ ⟨by omega,hc2⟩
theorem zcI (a:Val Y50) (v:Int) (q:Val Y28):List.length (α:=Val Y33) (qbu a v q).1.2≤12∧ ∀c∈((qbu a v q).1.2:List (Val Y33)),qz c=true:=by
 unfold qbu
 cases h:q7 a with
 | false=>exact ⟨Nat.zero_le _,fun c hc=>by cases hc⟩
 | true=>
   rw [Bool.true_and]
   cases decide (0≤v∧v<(a.1:Int))&&qE q with
   | false=>exact ⟨Nat.zero_le _,fun c hc=>by cases hc⟩
   | true=>exact q5P _ _ (a.1,[]) ⟨by have:=(qbG h).2.1;simpa using this,fun c hc=>by cases hc⟩
theorem e9 (x:Val Y42) (v:Int) (q:Val Y68) (h:q6h x v q): ∃N,m9 N x v q=some (q9b x v q,()):=⟨0,by
 rw [m9,qe (show qby x 1048576 from ⟨h.1,by omega,by omega⟩)]
 by_cases c:qaT x 1048576<0
 ·rw [qj c];rfl
 rw [qi c]
 simp only [qGs,qsV,qo7]
 have hsz:0≤szV Y42 x 1048576:=by have: ¬szV Y42 x 1048576<0:=c;omega
 have hle:szV Y42 x 1048576≤1048576:=(qb4 Y42 x 1048576 (by omega)).1
 have hb:Bd Y42 x:=qdn Y42 x 1048576 (by omega) (by omega) hsz
 have hcx:=qhA Y50 x 1048576 rfl (by omega) hsz
 have hcx':(qR Y50 x:Int)≤67108864:=by have:0≤szV Y50 x 1048576:=hsz;omega
 have hk1:qM x 1=1+qR Y50 x:=qcD Y50 x 1 (by omega) (by omega)
 have eX:((((qd x).1:Int),((qd x).2:List (Val Y33))):Val Y50)=qd x:=rfl
 have ex1:((((x.1:Int),(x.2:List (Val Y24))):Val Y42))=x:=rfl
 have eq1:((((q.1:Int),(q.2:Int)):Val Y68))=q:=rfl
 have eQ:((((qa0 q).1:Int),((qa0 q).2:Int)):Val Y28)=qa0 q:=rfl
 simp only [ex1,eq1,eX,eQ]
 have hpc:=zcI (qd x) v (qa0 q)
 have hpre:qBX (qd x) v (qa0 q):=qfo hb
 generalize qbu (qd x) v (qa0 q)=p at hpc ⊢
 obtain ⟨p,b⟩:=p
 obtain ⟨hpb,hpn⟩:=qm1 (r:=p) hpc
 have hK1:qM p 1=1+qR Y50 p:=qcD Y50 p 1 (by omega) (by omega)
 have hv1:qap (((p.1:Int),((qG p 1).2:List (Val Y33))):Val Y50) 1=qM p 1:=congrArg Prod.snd (qcQ Y50 p 1)
 have hh1:qbg (((p.1:Int),((qG p 1).2:List (Val Y33))):Val Y50) 1:=⟨congrArg Prod.fst (qcQ Y50 p 1),qh7 _ _ _ hpb,by omega,by
  have:qR Y50 (qG p 1)=qR Y50 p:=qiF _ _ _
  have e:qR Y50 (((p.1:Int),((qG p 1).2:List (Val Y33))):Val Y50)=qR Y50 (qG p 1):=rfl
  omega⟩
 have rf: ∀z:Val Y50,qaf z z=true:=fun z=>qdW _ _
 have ep:q5 p p:=hpb
 have tx:q9 x:=hb
 have tq:qon q:=⟨trivial,trivial⟩
 have exx:q5 (qd x) (qd x):=hb
 have m1:qaP (qd x) 1:=⟨hb,by omega⟩
 have e1:qM (qd x) 1=qM x 1:=rfl
 have m3:qaP p 1:=⟨hpb,by omega⟩
 have n1: ¬qM (qd x) 1<0:=by omega
 have n2: ¬qM p 1<0:=by omega
 dsimp only
 simp only [hv1,qe tx,qe tq,qe hpre,qe ep,qe exx,qe m1,qe m3,qe hh1,rf,decide_eq_false n1,decide_eq_false n2,Bool.not_true,cond_false,beq_self_eq_true,decide_true]
 rfl⟩
theorem s9:Sound Tryz.prog 9 g9:=qr (tt:=tt) (Γ:=Γ9) hT (qg s30 (qg s33 (qg s36 (qg s43 (qg s50 (qg s51 (qg s52 qn))))))) hm (fn:=Tryz.f9) Tryz.func9 (c:=Tryz.f9.body.getD .skip) (by kernel_rfl) (by kernel_rfl) fun x hx=>by
 obtain ⟨N,h⟩:=e9 x.1 x.2.1 x.2.2.1 hx
 exact ⟨T9 N,p9,qhH (qnj qwb qg8) qgU,tb9 N,(zqV N x.1 x.2.1 x.2.2.1).trans h⟩
end Go.T
