/- The law of BufferOf. -/
import Derived.Test.YthefcjjgchekiaaGreatF3
import Derived.Test.YthefcjjgchekiaaGreatE28
import Derived.Test.YthefcjjgchekiaaGreatE9s
set_option linter.unusedSimpArgs false
set_option linter.unusedVariables false
namespace Go.T
open Go Go.Proofs
set_option maxHeartbeats 4000000
set_option maxRecDepth 100000
def qao (x:Val Y68):Val Y28:=x
def qmq (x:Val Y68):Prop:=Bd Y68 x
noncomputable def m51 (N:Nat) (v0:Val Y68):Option (qb [i28]):=some (v0,())
def Γ51:Gam:=[]
def qw6:Nat→Tree:=fun _=> .done
def qL4:Nat→Nm:=fun _=>⟨[],[],false⟩
def qNm:Nat→Option Jn:=fun _=>none
def qB0:Nat→Option Nm:=fun _=>none
def qIx:Nat→Option Nm:=fun _=>none
theorem p51:qj qw6 (Tryz.f51.body.getD .skip)=true:=by kernel_rfl
def T51 (N:Nat):Tab:={tr:=qw6,lp:=qL4,ex:=qB0,rg:=qIx,jn:=qNm,fuel:=N}
theorem zbP (N:Nat):(T51 N).pins=false:=rfl
theorem zcv (N:Nat):qn Tryz.prog (T51 N):=qr fun _=>rfl
theorem zbt (N:Nat) (i:Nat):(T51 N).tr i=qw6 i:=rfl
theorem q48 (N:Nat) (i:Nat):(T51 N).lp i=qL4 i:=rfl
theorem q6F (N:Nat) (i:Nat):(T51 N).ex i=qB0 i:=rfl
theorem zaI (N:Nat) (i:Nat):(T51 N).rg i=qIx i:=rfl
theorem q6R (N:Nat) (i:Nat):(T51 N).jn i=qNm i:=rfl
theorem q9L (N:Nat):(T51 N).fuel=N:=rfl
theorem qWS (N:Nat) (v0:Val Y68):qd tt Γ51 (T51 N) (Tryz.f51.body.getD .skip) (qo tt true [i28] [.cell 2 28]) (qt [i68] 11 (v0,()))=m51 N v0:=by
 rw [m51];unfold Tryz.f51
 simp (maxSteps:=10000000) -implicitDefEqProofs [zbt,qw6,q48,qL4,q6F,qB0,zaI,qIx,q6R,qNm,q9L,zbP]
 try rfl
def g51:G:={ps:=[i68],rs:=[i28],dp:=true,pre:=fun x=>qmq x.1,fn:=fun x=>(qao x.1,())}
theorem e51 (x:Val Y68) (h:qmq x): ∃N,m51 N x=some (qao x,()):=⟨0,by
 obtain ⟨s0,s1⟩:=h
 rw [m51]
 rfl⟩
theorem s51:Sound Tryz.prog 51 g51:=qu (tt:=tt) (Γ:=Γ51) hT qq hm (fn:=Tryz.f51) Tryz.func51 (c:=Tryz.f51.body.getD .skip) (by kernel_rfl) (by kernel_rfl) fun x hx=>by
 obtain ⟨N,h⟩:=e51 x.1 hx
 exact ⟨T51 N,p51,qv _,zcv N,(qWS N x.1).trans h⟩
noncomputable def qv0 (N:Nat) (v2:Int) (v3:List (Val Y24)) (v4:Int) (v5:Int) (k9005:Bool→Int→(List (Val Y33))→Option (qb [i4])) (_:Nat):Option (qb [i4]):=chk (qfG (v2,v3)) (chk (qmq (v4,v5)) (chk (qAO (((qG (v2,v3)).1:Int),((qG (v2,v3)).2:List (Val Y33))) (((qao (v4,v5)).1:Int),((qao (v4,v5)).2:Int))) (k9005 ((qaP (((qG (v2,v3)).1:Int),((qG (v2,v3)).2:List (Val Y33))) (((qao (v4,v5)).1:Int),((qao (v4,v5)).2:Int))).2:Bool) (((qaP (((qG (v2,v3)).1:Int),((qG (v2,v3)).2:List (Val Y33))) (((qao (v4,v5)).1:Int),((qao (v4,v5)).2:Int))).1).1:Int) (((qaP (((qG (v2,v3)).1:Int),((qG (v2,v3)).2:List (Val Y33))) (((qao (v4,v5)).1:Int),((qao (v4,v5)).2:Int))).1).2:List (Val Y33)))))
noncomputable def qqY (N:Nat) (v12:Bool) (v13:Int) (v14:List (Val Y24)) (v15:Int) (v16:Int) (v17:Int) (v18:Int) (v19:List (Val Y33)) (v20:List (Val Y33)) (k9007:Bool→Int→(List (Val Y33))→Option (qb [i4])) (_:Nat):Option (qb [i4]):=chk (qmq (v15,v16)) (k9007 ((qaP (v18,v20) (((qao (v15,v16)).1:Int),((qao (v15,v16)).2:Int))).2:Bool) (((qaP (v18,v20) (((qao (v15,v16)).1:Int),((qao (v15,v16)).2:Int))).1).1:Int) (((qaP (v18,v20) (((qao (v15,v16)).1:Int),((qao (v15,v16)).2:Int))).1).2:List (Val Y33)))
noncomputable def qnl (N:Nat) (v27:Bool) (v28:Int) (v29:Int) (v30:List (Val Y24)) (v31:Int) (v32:Int) (v33:Int) (v34:Int) (v35:List (Val Y33)) (v36:List (Val Y33)) (k9024:Bool→Int→(List (Val Y33))→Option (qb [i4])) (_:Nat):Option (qb [i4]):=chk (qfG (v29,v30)) (chk (qmq (v31,v32)) (k9024 ((qaP (((qG (v29,v30)).1:Int),((qG (v29,v30)).2:List (Val Y33))) (((qao (v31,v32)).1:Int),((qao (v31,v32)).2:Int))).2:Bool) (((qaP (((qG (v29,v30)).1:Int),((qG (v29,v30)).2:List (Val Y33))) (((qao (v31,v32)).1:Int),((qao (v31,v32)).2:Int))).1).1:Int) (((qaP (((qG (v29,v30)).1:Int),((qG (v29,v30)).2:List (Val Y33))) (((qao (v31,v32)).1:Int),((qao (v31,v32)).2:Int))).1).2:List (Val Y33))))
noncomputable def m11 (N:Nat) (v0:Val Y42) (v1:Val Y68):Option (qb [i4]):=chk (qyl v0 (1048576:Int)) (bif (decide (((qp9 v0 (1048576:Int)):Int)<(0:Int)))then (some (true,()))else (qv0 N (v0.1:Int) (v0.2:List (Val Y24)) (v1.1:Int) (v1.2:Int) (fun (v9:Bool) (v10:Int) (v11:List (Val Y33))=>chk (qfG v0) (qqY N v9 (v0.1:Int) (v0.2:List (Val Y24)) (v1.1:Int) (v1.2:Int) v10 ((qG v0).1:Int) v11 ((qG v0).2:List (Val Y33)) (fun (v24:Bool) (v25:Int) (v26:List (Val Y33))=>chk (qbE (v25,v26) (v10,v11)) (bif (!((qbK (v25,v26) (v10,v11)):Bool))then (some (false,()))else (bif (!(v24==v9))then (some (false,()))else (chk (qfG v0) (chk (qbE (((qG v0).1:Int),((qG v0).2:List (Val Y33))) (((qG v0).1:Int),((qG v0).2:List (Val Y33)))) (bif (!((qbK (((qG v0).1:Int),((qG v0).2:List (Val Y33))) (((qG v0).1:Int),((qG v0).2:List (Val Y33)))):Bool))then (some (false,()))else (chk (qgp (((qG v0).1:Int),((qG v0).2:List (Val Y33))) (1:Int)) (bif (decide ((qaU (((qG v0).1:Int),((qG v0).2:List (Val Y33))) (1:Int))<(0:Int)))then (some (false,()))else (chk (qbE (v25,v26) (v10,v11)) (bif (!((qbK (v25,v26) (v10,v11)):Bool))then (some (false,()))else (bif (!(v24==v9))then (some (false,()))else (chk (qgp (v25,v26) (1:Int)) (chk (qgl (v25,((qak (v25,v26) (1:Int)).2:List (Val Y33))) (1:Int)) (bif (decide (((qbA (v25,((qak (v25,v26) (1:Int)).2:List (Val Y33))) (1:Int)):Int)<(0:Int)))then (some (false,()))else (bif (!(decide (((qbA (v25,((qak (v25,v26) (1:Int)).2:List (Val Y33))) (1:Int)):Int)=(qaU (v25,v26) (1:Int)))))then (some (false,()))else (qnl N v9 (qaU (v25,v26) (1:Int)) (v0.1:Int) (v0.2:List (Val Y24)) (v1.1:Int) (v1.2:Int) v10 v25 v11 ((qak (v25,v26) (1:Int)).2:List (Val Y33)) (fun (v40:Bool) (v41:Int) (v42:List (Val Y33))=>chk (qbE (v41,v42) (v10,v11)) (bif (!((qbK (v41,v42) (v10,v11)):Bool))then (some (false,()))else (bif (!(v40==v9))then (some (false,()))else (chk (qgl (v25,((qak (v25,v26) (1:Int)).2:List (Val Y33))) (1:Int)) (bif (decide (((qbA (v25,((qak (v25,v26) (1:Int)).2:List (Val Y33))) (1:Int)):Int)<(0:Int)))then (some (false,()))else (bif (!(decide (((qbA (v25,((qak (v25,v26) (1:Int)).2:List (Val Y33))) (1:Int)):Int)=(qaU (v25,v26) (1:Int)))))then (some (false,()))else (some (true,())))))))) N)))))))))))))))) N)) N))
def Γ11:Gam:=[(30,g30),(33,g33),(36,g36),(43,g43),(51,g51),(55,g55),(56,g56)]
theorem qlM:Gam.get Γ11 30=some g30:=rfl
theorem qkd:Gam.get Γ11 33=some g33:=rfl
theorem qlJ:Gam.get Γ11 36=some g36:=rfl
theorem qkN:Gam.get Γ11 43=some g43:=rfl
theorem qjI:Gam.get Γ11 51=some g51:=rfl
theorem qlS:Gam.get Γ11 55=some g55:=rfl
theorem qi7:Gam.get Γ11 56=some g56:=rfl
theorem qlc:Gam.get Γ11 42=none:=rfl
def qu0:Nm:=⟨[false,false,true,true],[],true⟩
theorem qkh:qu0.zero=true:=rfl
theorem qjf:qu0.fix=[]:=rfl
theorem qlK:qu0.keep=[false,false,true,true]:=rfl
def qwl:Nm:=⟨[false,false,true,true,false,false,true,true,true],[],true⟩
theorem qkE:qwl.zero=true:=rfl
theorem qkn:qwl.fix=[]:=rfl
theorem qkZ:qwl.keep=[false,false,true,true,false,false,true,true,true]:=rfl
def qwb:Nm:=⟨[false,false,true,true,false,false,true,true,false,true,false,false,true],[],true⟩
theorem qj2:qwb.zero=true:=rfl
theorem qjy:qwb.fix=[]:=rfl
theorem qjF:qwb.keep=[false,false,true,true,false,false,true,true,false,true,false,false,true]:=rfl
def qBz:Nm:=⟨[false,false,true,true,false,false,true,true],[],true⟩
theorem qls:qBz.zero=true:=rfl
theorem qkK:qBz.fix=[]:=rfl
theorem qky:qBz.keep=[false,false,true,true,false,false,true,true]:=rfl
def qz4:Nm:=⟨[false,false,true,true,false,false,true,true,true,true,true],[],true⟩
theorem qlR:qz4.zero=true:=rfl
theorem qjs:qz4.fix=[]:=rfl
theorem qjN:qz4.keep=[false,false,true,true,false,false,true,true,true,true,true]:=rfl
def qwW:Nm:=⟨[false,false,false,false,false,false,true,true,false,true,false,false,true,false,true,true],[],true⟩
theorem qjm:qwW.zero=true:=rfl
theorem qke:qwW.fix=[]:=rfl
theorem qjt:qwW.keep=[false,false,false,false,false,false,true,true,false,true,false,false,true,false,true,true]:=rfl
def qhC:Sem:=qh2 [(42,qg3)] []
def qgB:Nat→Tree:=fun i=>if i=5 then .grow 0 (.alt 1 (.grow 2 (.alt 3 (.alt 4 (.first 5 (.first 6 (.first 7 (.alt 8 (.alt 9 (.quiet 10 .done) .stop) .stop)))) (.alt 8 (.alt 4 (.quiet 5 (.quiet 6 (.first 7 (.alt 9 (.quiet 10 .done) .stop)))) .stop) .stop)) (.alt 8 (.alt 3 (.alt 4 (.quiet 5 (.quiet 6 (.first 7 (.alt 9 (.quiet 10 .done) .stop)))) .stop) .stop) .stop))) (.alt 2 (.alt 1 (.alt 3 (.alt 4 (.first 5 (.first 6 (.first 7 (.alt 8 (.alt 9 (.quiet 10 .done) .stop) .stop)))) (.alt 8 (.alt 4 (.quiet 5 (.quiet 6 (.first 7 (.alt 9 (.quiet 10 .done) .stop)))) .stop) .stop)) (.alt 8 (.alt 3 (.alt 4 (.quiet 5 (.quiet 6 (.first 7 (.alt 9 (.quiet 10 .done) .stop)))) .stop) .stop) .stop)) (.alt 8 (.alt 1 (.alt 3 (.alt 4 (.quiet 5 (.quiet 6 (.first 7 (.alt 9 (.quiet 10 .done) .stop)))) .stop) .stop) .stop) .stop)) (.alt 8 (.alt 1 (.quiet 2 (.alt 3 (.alt 4 (.quiet 5 (.quiet 6 (.first 7 (.alt 9 (.quiet 10 .done) .stop)))) .stop) .stop)) (.alt 2 (.alt 1 (.alt 3 (.alt 4 (.quiet 5 (.quiet 6 (.first 7 (.alt 9 (.quiet 10 .done) .stop)))) .stop) .stop) .stop) .stop)) .stop)))else if i=7 then .grow 1 (.alt 0 (.alt 2 (.alt 3 (.first 4 (.first 5 (.first 6 (.alt 7 (.alt 8 (.quiet 9 .done) .stop) .stop)))) (.alt 7 (.alt 3 (.quiet 4 (.quiet 5 (.first 6 (.alt 8 (.quiet 9 .done) .stop)))) .stop) .stop)) (.alt 7 (.alt 2 (.alt 3 (.quiet 4 (.quiet 5 (.first 6 (.alt 8 (.quiet 9 .done) .stop)))) .stop) .stop) .stop)) (.alt 2 (.grow 0 (.alt 3 (.first 4 (.first 5 (.first 6 (.alt 7 (.alt 8 (.quiet 9 .done) .stop) .stop)))) (.alt 7 (.alt 3 (.quiet 4 (.quiet 5 (.first 6 (.alt 8 (.quiet 9 .done) .stop)))) .stop) .stop))) (.alt 7 (.alt 0 (.alt 2 (.alt 3 (.quiet 4 (.quiet 5 (.first 6 (.alt 8 (.quiet 9 .done) .stop)))) .stop) .stop) (.alt 2 (.quiet 0 (.alt 3 (.quiet 4 (.quiet 5 (.first 6 (.alt 8 (.quiet 9 .done) .stop)))) .stop)) .stop)) .stop)))else if i=10 then .quiet 1 (.alt 0 (.alt 2 (.alt 3 (.quiet 4 .done) .stop) .stop) (.alt 2 (.quiet 0 (.alt 3 (.quiet 4 .done) .stop)) .stop))else if i=24 then .grow 0 (.alt 1 (.grow 2 (.alt 3 (.alt 4 (.first 5 (.first 6 (.first 7 (.alt 8 (.alt 9 (.quiet 10 .done) .stop) .stop)))) (.alt 8 (.alt 4 (.quiet 5 (.quiet 6 (.first 7 (.alt 9 (.quiet 10 .done) .stop)))) .stop) .stop)) (.alt 8 (.alt 3 (.alt 4 (.quiet 5 (.quiet 6 (.first 7 (.alt 9 (.quiet 10 .done) .stop)))) .stop) .stop) .stop))) (.alt 2 (.alt 1 (.alt 3 (.alt 4 (.first 5 (.first 6 (.first 7 (.alt 8 (.alt 9 (.quiet 10 .done) .stop) .stop)))) (.alt 8 (.alt 4 (.quiet 5 (.quiet 6 (.first 7 (.alt 9 (.quiet 10 .done) .stop)))) .stop) .stop)) (.alt 8 (.alt 3 (.alt 4 (.quiet 5 (.quiet 6 (.first 7 (.alt 9 (.quiet 10 .done) .stop)))) .stop) .stop) .stop)) (.alt 8 (.alt 1 (.alt 3 (.alt 4 (.quiet 5 (.quiet 6 (.first 7 (.alt 9 (.quiet 10 .done) .stop)))) .stop) .stop) .stop) .stop)) (.alt 8 (.alt 1 (.quiet 2 (.alt 3 (.alt 4 (.quiet 5 (.quiet 6 (.first 7 (.alt 9 (.quiet 10 .done) .stop)))) .stop) .stop)) (.alt 2 (.alt 1 (.alt 3 (.alt 4 (.quiet 5 (.quiet 6 (.first 7 (.alt 9 (.quiet 10 .done) .stop)))) .stop) .stop) .stop) .stop)) .stop)))else .done
def qha:Nat→Nm:=fun _=>⟨[],[],false⟩
def qey:Nat→Option Jn:=fun i=>if i=5 then some (.nm qu0)else if i=7 then some (.nm qwl)else if i=24 then some (.nm qwb)else none
def qhq:Nat→Option Nm:=fun _=>none
def qhJ:Nat→Option Nm:=fun i=>if i=5 then some qBz else if i=7 then some qz4 else if i=24 then some qwW else none
theorem p11:qj qgB (Tryz.f11.body.getD .skip)=true:=by kernel_rfl
def T11 (N:Nat):Tab:={tr:=qgB,lp:=qha,ex:=qhq,rg:=qhJ,jn:=qey,fuel:=N,sem:=qhC}
theorem qjc (N:Nat):(T11 N).pins=false:=rfl
theorem q9d (N:Nat):qn Tryz.prog (T11 N):=fun id j t h ht=>by
 have h:qey id=_:=h
 unfold qey at h
 repeat' split at h
 all_goals first | (simp at h;done) | (simp only [Option.some.injEq]at h;subst h;simp [Jn.tb]at ht;done) | (simp only [Option.some.injEq]at h;subst h;simp only [Jn.tb,Option.some.injEq]at ht;subst ht;exact hTH)
theorem qkO (N:Nat):(T11 N).sem=qhC:=rfl
theorem qkD (N:Nat) (i:Nat):(T11 N).tr i=qgB i:=rfl
theorem qjv (N:Nat) (i:Nat):(T11 N).lp i=qha i:=rfl
theorem qjC (N:Nat) (i:Nat):(T11 N).ex i=qhq i:=rfl
theorem qlk (N:Nat) (i:Nat):(T11 N).rg i=qhJ i:=rfl
theorem qkv (N:Nat) (i:Nat):(T11 N).jn i=qey i:=rfl
theorem qju (N:Nat):(T11 N).fuel=N:=rfl
noncomputable def qTB:Code:=cut [true,true,true,true,false] (Tryz.f11.body.getD .skip)
theorem q6I {N:Nat} {Q:X→St→Option (qb [i4])} {e:List LV} {h:List Blk}:q4 tt Γ11 (T11 N) qTB Q ⟨e,h⟩=q4 tt Γ11 (T11 N) (cut [true,true,true,true,false] (Tryz.f11.body.getD .skip)) Q ⟨e,h⟩:=rfl
theorem q9n (N:Nat) (v2:Int) (v3:List (Val Y24)) (v4:Int) (v5:Int) {k9005:Bool→Int→(List (Val Y33))→Option (qb [i4])} {Q:X→St→Option (qb [i4])} {c:Code} (hc:c=qTB) (h9005: ∀(v6:Bool) (v7:Int) (v8:List (Val Y33)),Q .normal ⟨[u,u,.one (.ptr 0 0 0),.one (.ptr 1 0 0),u,u,.one (.ptr 2 0 0),.one (.bool v6),u,u,u,u,u,u,u,u,u,u,u,u,u,u,u,u,u,u,u,u,u,u,u,u,u,u,u,u,u,u,u,u,u,u,u,u,u,u,u,u,u,u,u,u,u,u,u,u,u,u,u,u,u,u,u,u,u,u,u,u,u,u,u,u,u,u,u,u,u,u,u,u,u,u,u,u,u,u,u,u,u,u,u,u,u,u,u,u,u,u,u,u,u,u,u,u],[.box [.int .i64 v2,.sl 24 Y24 v3 0],.box [.int .i64 v4,.int .i64 v5],.box [.int .i64 v7,.own 3],.row 33 Y33 v8 true true 0]⟩=k9005 v6 v7 v8):q4 tt Γ11 (T11 N) c Q ⟨[u,u,.one (.ptr 0 0 0),.one (.ptr 1 0 0),u,u,u,u,u,u,u,u,u,u,u,u,u,u,u,u,u,u,u,u,u,u,u,u,u,u,u,u,u,u,u,u,u,u,u,u,u,u,u,u,u,u,u,u,u,u,u,u,u,u,u,u,u,u,u,u,u,u,u,u,u,u,u,u,u,u,u,u,u,u,u,u,u,u,u,u,u,u,u,u,u,u,u,u,u,u,u,u,u,u,u,u,u,u,u,u,u,u,u,u],[.box [.int .i64 v2,.sl 24 Y24 v3 0],.box [.int .i64 v4,.int .i64 v5]]⟩=qv0 N v2 v3 v4 v5 k9005 N:=by
 subst hc;rw [q6I,qv0];unfold Tryz.f11
 simp (maxSteps:=10000000) -implicitDefEqProofs [qab (id:=5),qaa (id:=5),qkD,qgB,qjv,qha,qjC,qhq,qlk,qhJ,qkv,qey,qju,qjc,qkO,qhC,qP,qlc,qg3,qjf,qlK,qkh,qkn,qkZ,qkE,qjy,qjF,qj2,qkK,qky,qls,qjs,qjN,qlR,qke,qjt,qjm,qlM,qkd,qlJ,qkN,qjI,qlS,qi7,g30,g33,g36,g43,g51,g55,g56,h9005]
noncomputable def qTM:Code:=cut [true,true,true,true,true,true,false] (Tryz.f11.body.getD .skip)
theorem q7E {N:Nat} {Q:X→St→Option (qb [i4])} {e:List LV} {h:List Blk}:q4 tt Γ11 (T11 N) qTM Q ⟨e,h⟩=q4 tt Γ11 (T11 N) (cut [true,true,true,true,true,true,false] (Tryz.f11.body.getD .skip)) Q ⟨e,h⟩:=rfl
theorem q73 (N:Nat) (v12:Bool) (v13:Int) (v14:List (Val Y24)) (v15:Int) (v16:Int) (v17:Int) (v18:Int) (v19:List (Val Y33)) (v20:List (Val Y33)) {k9007:Bool→Int→(List (Val Y33))→Option (qb [i4])} {Q:X→St→Option (qb [i4])} {c:Code} (hc:c=qTM) (h9007: ∀(v21:Bool) (v22:Int) (v23:List (Val Y33)),Q .normal ⟨[u,u,.one (.ptr 0 0 0),.one (.ptr 1 0 0),u,u,.one (.ptr 2 0 0),.one (.bool v12),.one (.ptr 3 0 0),.one (.ptr 4 0 0),.one (.bool v21),u,u,u,u,u,u,u,u,u,u,u,u,u,u,u,u,u,u,u,u,u,u,u,u,u,u,u,u,u,u,u,u,u,u,u,u,u,u,u,u,u,u,u,u,u,u,u,u,u,u,u,u,u,u,u,u,u,u,u,u,u,u,u,u,u,u,u,u,u,u,u,u,u,u,u,u,u,u,u,u,u,u,u,u,u,u,u,u,u,u,u,u,u],[.box [.int .i64 v13,.sl 24 Y24 v14 0],.box [.int .i64 v15,.int .i64 v16],.box [.int .i64 v17,.own 5],.box [.int .i64 v18,.own 6],.box [.int .i64 v22,.own 7],.row 33 Y33 v19 true true 0,.row 33 Y33 v20 true true 0,.row 33 Y33 v23 true true 0]⟩=k9007 v21 v22 v23):q4 tt Γ11 (T11 N) c Q ⟨[u,u,.one (.ptr 0 0 0),.one (.ptr 1 0 0),u,u,.one (.ptr 2 0 0),.one (.bool v12),.one (.ptr 3 0 0),u,u,u,u,u,u,u,u,u,u,u,u,u,u,u,u,u,u,u,u,u,u,u,u,u,u,u,u,u,u,u,u,u,u,u,u,u,u,u,u,u,u,u,u,u,u,u,u,u,u,u,u,u,u,u,u,u,u,u,u,u,u,u,u,u,u,u,u,u,u,u,u,u,u,u,u,u,u,u,u,u,u,u,u,u,u,u,u,u,u,u,u,u,u,u],[.box [.int .i64 v13,.sl 24 Y24 v14 0],.box [.int .i64 v15,.int .i64 v16],.box [.int .i64 v17,.own 4],.box [.int .i64 v18,.own 5],.row 33 Y33 v19 true true 0,.row 33 Y33 v20 true true 0]⟩=qqY N v12 v13 v14 v15 v16 v17 v18 v19 v20 k9007 N:=by
 subst hc;rw [q7E,qqY];unfold Tryz.f11
 simp (maxSteps:=10000000) -implicitDefEqProofs [qab (id:=7),qaa (id:=7),qkD,qgB,qjv,qha,qjC,qhq,qlk,qhJ,qkv,qey,qju,qjc,qkO,qhC,qP,qlc,qg3,qjf,qlK,qkh,qkn,qkZ,qkE,qjy,qjF,qj2,qkK,qky,qls,qjs,qjN,qlR,qke,qjt,qjm,qlM,qkd,qlJ,qkN,qjI,qlS,qi7,g30,g33,g36,g43,g51,g55,g56,h9007]
noncomputable def qTs:Code:=cut [true,true,true,true,true,true,true,true,true,true,true,true,true,true,true,true,true,true,false] (Tryz.f11.body.getD .skip)
theorem q5U {N:Nat} {Q:X→St→Option (qb [i4])} {e:List LV} {h:List Blk}:q4 tt Γ11 (T11 N) qTs Q ⟨e,h⟩=q4 tt Γ11 (T11 N) (cut [true,true,true,true,true,true,true,true,true,true,true,true,true,true,true,true,true,true,false] (Tryz.f11.body.getD .skip)) Q ⟨e,h⟩:=rfl
theorem zap (N:Nat) (v27:Bool) (v28:Int) (v29:Int) (v30:List (Val Y24)) (v31:Int) (v32:Int) (v33:Int) (v34:Int) (v35:List (Val Y33)) (v36:List (Val Y33)) {k9024:Bool→Int→(List (Val Y33))→Option (qb [i4])} {Q:X→St→Option (qb [i4])} {c:Code} (hc:c=qTs) (h9024: ∀(v37:Bool) (v38:Int) (v39:List (Val Y33)),Q .normal ⟨[u,u,u,u,u,u,.one (.ptr 0 0 0),.one (.bool v27),u,.one (.ptr 1 0 0),u,u,.one (.int .i64 v28),u,.one (.ptr 2 0 0),.one (.bool v37),u,u,u,u,u,u,u,u,u,u,u,u,u,u,u,u,u,u,u,u,u,u,u,u,u,u,u,u,u,u,u,u,u,u,u,u,u,u,u,u,u,u,u,u,u,u,u,u,u,u,u,u,u,u,u,u,u,u,u,u,u,u,u,u,u,u,u,u,u,u,u,u,u,u,u,u,u,u,u,u,u,u,u,u,u,u,u,u],[.box [.int .i64 v33,.own 3],.box [.int .i64 v34,.own 4],.box [.int .i64 v38,.own 5],.row 33 Y33 v35 true true 0,.row 33 Y33 v36 true true 0,.row 33 Y33 v39 true true 0]⟩=k9024 v37 v38 v39):q4 tt Γ11 (T11 N) c Q ⟨[u,u,.one (.ptr 0 0 0),.one (.ptr 1 0 0),u,u,.one (.ptr 2 0 0),.one (.bool v27),u,.one (.ptr 3 0 0),u,u,.one (.int .i64 v28),u,u,u,u,u,u,u,u,u,u,u,u,u,u,u,u,u,u,u,u,u,u,u,u,u,u,u,u,u,u,u,u,u,u,u,u,u,u,u,u,u,u,u,u,u,u,u,u,u,u,u,u,u,u,u,u,u,u,u,u,u,u,u,u,u,u,u,u,u,u,u,u,u,u,u,u,u,u,u,u,u,u,u,u,u,u,u,u,u,u,u],[.box [.int .i64 v29,.sl 24 Y24 v30 0],.box [.int .i64 v31,.int .i64 v32],.box [.int .i64 v33,.own 4],.box [.int .i64 v34,.own 5],.row 33 Y33 v35 true true 0,.row 33 Y33 v36 true true 0]⟩=qnl N v27 v28 v29 v30 v31 v32 v33 v34 v35 v36 k9024 N:=by
 subst hc;rw [q5U,qnl];unfold Tryz.f11
 simp (maxSteps:=10000000) -implicitDefEqProofs [qab (id:=24),qaa (id:=24),qkD,qgB,qjv,qha,qjC,qhq,qlk,qhJ,qkv,qey,qju,qjc,qkO,qhC,qP,qlc,qg3,qjf,qlK,qkh,qkn,qkZ,qkE,qjy,qjF,qj2,qkK,qky,qls,qjs,qjN,qlR,qke,qjt,qjm,qlM,qkd,qlJ,qkN,qjI,qlS,qi7,g30,g33,g36,g43,g51,g55,g56,h9024]
theorem q0u (N:Nat) (v0:Val Y42) (v1:Val Y68):qd tt Γ11 (T11 N) (Tryz.f11.body.getD .skip) (qo tt true [i4] [.tmp 4]) (qt [i42,i68] 104 (v0,v1,()))=m11 N v0 v1:=by
 unfold Tryz.f11
 simp (maxSteps:=10000000) -implicitDefEqProofs [qkD,qgB,qjv,qha,qjC,qhq,qlk,qhJ,qkv,qey,qju,qjc,qkO,qhC,qP,qlc,qg3,qjf,qlK,qkh,qkn,qkZ,qkE,qjy,qjF,qj2,qkK,qky,qls,qjs,qjN,qlR,qke,qjt,qjm,qlM,qkd,qlJ,qkN,qjI,qlS,qi7,g30,g33,g36,g43,g51,g55,g56]
 rewrite [q9n (k9005:=(fun (v9:Bool) (v10:Int) (v11:List (Val Y33))=>chk (qfG v0) (qqY N v9 (v0.1:Int) (v0.2:List (Val Y24)) (v1.1:Int) (v1.2:Int) v10 ((qG v0).1:Int) v11 ((qG v0).2:List (Val Y33)) (fun (v24:Bool) (v25:Int) (v26:List (Val Y33))=>chk (qbE (v25,v26) (v10,v11)) (bif (!((qbK (v25,v26) (v10,v11)):Bool))then (some (false,()))else (bif (!(v24==v9))then (some (false,()))else (chk (qfG v0) (chk (qbE (((qG v0).1:Int),((qG v0).2:List (Val Y33))) (((qG v0).1:Int),((qG v0).2:List (Val Y33)))) (bif (!((qbK (((qG v0).1:Int),((qG v0).2:List (Val Y33))) (((qG v0).1:Int),((qG v0).2:List (Val Y33)))):Bool))then (some (false,()))else (chk (qgp (((qG v0).1:Int),((qG v0).2:List (Val Y33))) (1:Int)) (bif (decide ((qaU (((qG v0).1:Int),((qG v0).2:List (Val Y33))) (1:Int))<(0:Int)))then (some (false,()))else (chk (qbE (v25,v26) (v10,v11)) (bif (!((qbK (v25,v26) (v10,v11)):Bool))then (some (false,()))else (bif (!(v24==v9))then (some (false,()))else (chk (qgp (v25,v26) (1:Int)) (chk (qgl (v25,((qak (v25,v26) (1:Int)).2:List (Val Y33))) (1:Int)) (bif (decide (((qbA (v25,((qak (v25,v26) (1:Int)).2:List (Val Y33))) (1:Int)):Int)<(0:Int)))then (some (false,()))else (bif (!(decide (((qbA (v25,((qak (v25,v26) (1:Int)).2:List (Val Y33))) (1:Int)):Int)=(qaU (v25,v26) (1:Int)))))then (some (false,()))else (qnl N v9 (qaU (v25,v26) (1:Int)) (v0.1:Int) (v0.2:List (Val Y24)) (v1.1:Int) (v1.2:Int) v10 v25 v11 ((qak (v25,v26) (1:Int)).2:List (Val Y33)) (fun (v40:Bool) (v41:Int) (v42:List (Val Y33))=>chk (qbE (v41,v42) (v10,v11)) (bif (!((qbK (v41,v42) (v10,v11)):Bool))then (some (false,()))else (bif (!(v40==v9))then (some (false,()))else (chk (qgl (v25,((qak (v25,v26) (1:Int)).2:List (Val Y33))) (1:Int)) (bif (decide (((qbA (v25,((qak (v25,v26) (1:Int)).2:List (Val Y33))) (1:Int)):Int)<(0:Int)))then (some (false,()))else (bif (!(decide (((qbA (v25,((qak (v25,v26) (1:Int)).2:List (Val Y33))) (1:Int)):Int)=(qaU (v25,v26) (1:Int)))))then (some (false,()))else (some (true,())))))))) N)))))))))))))))) N))) N _ _ _ _ ?_ ?_]
 ·rewrite [m11];first | rfl | simp (maxSteps:=10000000) -implicitDefEqProofs []
 ·rfl
 ·intro v9 v10 v11;simp (maxSteps:=10000000) -implicitDefEqProofs [qkD,qgB,qjv,qha,qjC,qhq,qlk,qhJ,qkv,qey,qju,qjc,qkO,qhC,qP,qlc,qg3,qjf,qlK,qkh,qkn,qkZ,qkE,qjy,qjF,qj2,qkK,qky,qls,qjs,qjN,qlR,qke,qjt,qjm,qlM,qkd,qlJ,qkN,qjI,qlS,qi7,g30,g33,g36,g43,g51,g55,g56]
  rewrite [q73 (k9007:=(fun (v24:Bool) (v25:Int) (v26:List (Val Y33))=>chk (qbE (v25,v26) (v10,v11)) (bif (!((qbK (v25,v26) (v10,v11)):Bool))then (some (false,()))else (bif (!(v24==v9))then (some (false,()))else (chk (qfG v0) (chk (qbE (((qG v0).1:Int),((qG v0).2:List (Val Y33))) (((qG v0).1:Int),((qG v0).2:List (Val Y33)))) (bif (!((qbK (((qG v0).1:Int),((qG v0).2:List (Val Y33))) (((qG v0).1:Int),((qG v0).2:List (Val Y33)))):Bool))then (some (false,()))else (chk (qgp (((qG v0).1:Int),((qG v0).2:List (Val Y33))) (1:Int)) (bif (decide ((qaU (((qG v0).1:Int),((qG v0).2:List (Val Y33))) (1:Int))<(0:Int)))then (some (false,()))else (chk (qbE (v25,v26) (v10,v11)) (bif (!((qbK (v25,v26) (v10,v11)):Bool))then (some (false,()))else (bif (!(v24==v9))then (some (false,()))else (chk (qgp (v25,v26) (1:Int)) (chk (qgl (v25,((qak (v25,v26) (1:Int)).2:List (Val Y33))) (1:Int)) (bif (decide (((qbA (v25,((qak (v25,v26) (1:Int)).2:List (Val Y33))) (1:Int)):Int)<(0:Int)))then (some (false,()))else (bif (!(decide (((qbA (v25,((qak (v25,v26) (1:Int)).2:List (Val Y33))) (1:Int)):Int)=(qaU (v25,v26) (1:Int)))))then (some (false,()))else (qnl N v9 (qaU (v25,v26) (1:Int)) (v0.1:Int) (v0.2:List (Val Y24)) (v1.1:Int) (v1.2:Int) v10 v25 v11 ((qak (v25,v26) (1:Int)).2:List (Val Y33)) (fun (v40:Bool) (v41:Int) (v42:List (Val Y33))=>chk (qbE (v41,v42) (v10,v11)) (bif (!((qbK (v41,v42) (v10,v11)):Bool))then (some (false,()))else (bif (!(v40==v9))then (some (false,()))else (chk (qgl (v25,((qak (v25,v26) (1:Int)).2:List (Val Y33))) (1:Int)) (bif (decide (((qbA (v25,((qak (v25,v26) (1:Int)).2:List (Val Y33))) (1:Int)):Int)<(0:Int)))then (some (false,()))else (bif (!(decide (((qbA (v25,((qak (v25,v26) (1:Int)).2:List (Val Y33))) (1:Int)):Int)=(qaU (v25,v26) (1:Int)))))then (some (false,()))else (some (true,())))))))) N))))))))))))))))) N _ _ _ _ _ _ _ _ _ ?_ ?_]
  ·first | rfl | simp (maxSteps:=10000000) -implicitDefEqProofs []
  ·rfl
  ·intro v24 v25 v26;simp (maxSteps:=10000000) -implicitDefEqProofs [qkD,qgB,qjv,qha,qjC,qhq,qlk,qhJ,qkv,qey,qju,qjc,qkO,qhC,qP,qlc,qg3,qjf,qlK,qkh,qkn,qkZ,qkE,qjy,qjF,qj2,qkK,qky,qls,qjs,qjN,qlR,qke,qjt,qjm,qlM,qkd,qlJ,qkN,qjI,qlS,qi7,g30,g33,g36,g43,g51,g55,g56]
   rewrite [zap (k9024:=(fun (v40:Bool) (v41:Int) (v42:List (Val Y33))=>chk (qbE (v41,v42) (v10,v11)) (bif (!((qbK (v41,v42) (v10,v11)):Bool))then (some (false,()))else (bif (!(v40==v9))then (some (false,()))else (chk (qgl (v25,((qak (v25,v26) (1:Int)).2:List (Val Y33))) (1:Int)) (bif (decide (((qbA (v25,((qak (v25,v26) (1:Int)).2:List (Val Y33))) (1:Int)):Int)<(0:Int)))then (some (false,()))else (bif (!(decide (((qbA (v25,((qak (v25,v26) (1:Int)).2:List (Val Y33))) (1:Int)):Int)=(qaU (v25,v26) (1:Int)))))then (some (false,()))else (some (true,()))))))))) N _ _ _ _ _ _ _ _ _ _ ?_ ?_]
   ·first | rfl | simp (maxSteps:=10000000) -implicitDefEqProofs []
   ·rfl
   ·intro v40 v41 v42;simp (maxSteps:=10000000) -implicitDefEqProofs [qkD,qgB,qjv,qha,qjC,qhq,qlk,qhJ,qkv,qey,qju,qjc,qkO,qhC,qP,qlc,qg3,qjf,qlK,qkh,qkn,qkZ,qkE,qjy,qjF,qj2,qkK,qky,qls,qjs,qjN,qlR,qke,qjt,qjm,qlM,qkd,qlJ,qkN,qjI,qlS,qi7,g30,g33,g36,g43,g51,g55,g56]
def qRH (_:Val Y42) (_:Val Y68):Bool:=true
def qQY (x0:Val Y42) (x1:Val Y68):Prop:=Sms [i42,i68] (x0,x1,())
def g11:G:={ps:=[i42,i68],rs:=[i4],dp:=true,pre:=fun x=>qQY x.1 x.2.1,fn:=fun x=>(qRH x.1 x.2.1,())}
theorem zbW (a:Val Y50) (q:Val Y28):List.length (α:=Val Y33) (qaP a q).1.2≤12∧ ∀c∈((qaP a q).1.2:List (Val Y33)),qD c=true:=by
 unfold qaP
 cases h:qcc a with
 | false=>exact ⟨Nat.zero_le _,fun c hc=>by cases hc⟩
 | true=>
   rw [Bool.true_and]
   cases decide (1≤(a.1:Int)∧(a.1:Int)≤2)&&qaQ q&&decide (0≤(q.1:Int))with
   | false=>exact ⟨Nat.zero_le _,fun c hc=>by cases hc⟩
   | true=>exact qQQ _ _ (a.1,[]) ⟨by have:=(qCC h).2.1;simpa using this,fun c hc=>by cases hc⟩
theorem e11 (x:Val Y42) (q:Val Y68) (h:qQY x q): ∃N,m11 N x q=some (qRH x q,()):=⟨0,by
 rw [m11,qe (show qyl x 1048576 from ⟨h.1,by omega,by omega⟩)]
 by_cases c:qp9 x 1048576<0
 ·rw [ql c];rfl
 rw [qi c]
 simp only [qv0,qqY,qnl]
 have hsz:0≤szV Y42 x 1048576:=by have: ¬szV Y42 x 1048576<0:=c;omega
 have hle:szV Y42 x 1048576≤1048576:=(qde Y42 x 1048576 (by omega)).1
 have hb:Bd Y42 x:=qx0 Y42 x 1048576 (by omega) (by omega) hsz
 have hcx:=qEi Y50 x 1048576 rfl (by omega) hsz
 have hcx':(q7 Y50 x:Int)≤67108864:=by have:0≤szV Y50 x 1048576:=hsz;omega
 have hk1:qaU x 1=1+q7 Y50 x:=qrZ Y50 x 1 (by omega) (by omega)
 have eX:((((qG x).1:Int),((qG x).2:List (Val Y33))):Val Y50)=qG x:=rfl
 have ex1:((((x.1:Int),(x.2:List (Val Y24))):Val Y42))=x:=rfl
 have eq1:((((q.1:Int),(q.2:Int)):Val Y68))=q:=rfl
 have eQ:((((qao q).1:Int),((qao q).2:Int)):Val Y28)=qao q:=rfl
 simp only [ex1,eq1,eX,eQ]
 have hpc:=zbW (qG x) (qao q)
 have hpre:qAO (qG x) (qao q):=q3e hb
 generalize qaP (qG x) (qao q)=p at hpc ⊢
 obtain ⟨p,b⟩:=p
 obtain ⟨hpb,hpn⟩:=q6P (r:=p) hpc
 have hK1:qaU p 1=1+q7 Y50 p:=qrZ Y50 p 1 (by omega) (by omega)
 have hv1:qbA (((p.1:Int),((qak p 1).2:List (Val Y33))):Val Y50) 1=qaU p 1:=congrArg Prod.snd (qxP Y50 p 1)
 have hh1:qgl (((p.1:Int),((qak p 1).2:List (Val Y33))):Val Y50) 1:=⟨congrArg Prod.fst (qxP Y50 p 1),qOz _ _ _ hpb,by omega,by
  have:q7 Y50 (qak p 1)=q7 Y50 p:=qBC _ _ _
  have e:q7 Y50 (((p.1:Int),((qak p 1).2:List (Val Y33))):Val Y50)=q7 Y50 (qak p 1):=rfl
  omega⟩
 have rf: ∀z:Val Y50,qbK z z=true:=fun z=>qzl _ _
 have ep:qbE p p:=hpb
 have tx:qfG x:=hb
 have tq:qmq q:=⟨trivial,trivial⟩
 have exx:qbE (qG x) (qG x):=hb
 have m1:qgp (qG x) 1:=⟨hb,by omega⟩
 have e1:qaU (qG x) 1=qaU x 1:=rfl
 have m3:qgp p 1:=⟨hpb,by omega⟩
 have n1: ¬qaU (qG x) 1<0:=by omega
 have n2: ¬qaU p 1<0:=by omega
 dsimp only
 simp only [hv1,qe tx,qe tq,qe hpre,qe ep,qe exx,qe m1,qe m3,qe hh1,rf,decide_eq_false n1,decide_eq_false n2,Bool.not_true,cond_false,beq_self_eq_true,decide_true]
 rfl⟩
theorem s11:Sound Tryz.prog 11 g11:=qu (tt:=tt) (Γ:=Γ11) hT (qf s30 (qf s33 (qf s36 (qf s43 (qf s51 (qf s55 (qf s56 qq))))))) hm (fn:=Tryz.f11) Tryz.func11 (c:=Tryz.f11.body.getD .skip) (by kernel_rfl) (by kernel_rfl) fun x hx=>by
 obtain ⟨N,h⟩:=e11 x.1 x.2.1 hx
 exact ⟨T11 N,p11,qoZ (qQu q1V qo0) qrW,q9d N,(q0u N x.1 x.2.1).trans h⟩
end Go.T
