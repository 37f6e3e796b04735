/- Mixed atoms. -/
import Derived.Test.YthefcjjgchekiaaGreatB6n
set_option linter.unusedSimpArgs false
set_option linter.unusedVariables false
namespace Go.T
open Go Go.Proofs
set_option maxHeartbeats 4000000
set_option maxRecDepth 100000
def qbO (p q:Int) (xs ys:List Int):List Int:=(List.zip xs ys).map fun z=>p*z.1+q*z.2
def qT (a:Val qa) (p:Int) (b:Val qa) (q:Int):Val qa×Bool:=
 bif qA a&&qA b&&decide (List.length (α:=Int) a.1=List.length (α:=Int) b.1)&&inR p 0 400000000&&inR q 0 400000000 then qh (qbO p q a.1 b.1) (p*a.2.1+q*b.2.1) ((a.2.2&&decide (0<p))||(b.2.2&&decide (0<q)))else (([],((0:Int),false)),false)
def qxT (a:Val qa) (_:Int) (b:Val qa) (_:Int):Prop:=qa3 a∧qa3 b
def qf3:G:={ps:=[qg,i3,qg,i3],rs:=[qg,i4],dp:=true,pre:=fun _=>True,fn:=fun x=>((qT x.1 x.2.1 x.2.2.1 x.2.2.2.1).1,(qT x.1 x.2.1 x.2.2.1 x.2.2.2.1).2,())}
def qfJ:G:={ps:=[qg,i3,qg,i3],rs:=[qg,i4],dp:=true,pre:=fun x=>qxT x.1 x.2.1 x.2.2.1 x.2.2.2.1,fn:=fun x=>((qT x.1 x.2.1 x.2.2.1 x.2.2.2.1).1,(qT x.1 x.2.1 x.2.2.1 x.2.2.2.1).2,())}
noncomputable def qhO (N:Nat) (v4:Int) (v5:Int) (v6:Int) (v8:List (Val (.int .i64))) (v9:Int) (v10:Bool) (v11:List (Val (.int .i64))) (v12:Int) (v13:Bool) (v14:Int) (v15:Bool) (k0:(List (Val (.int .i64)))→Option (qb [qg,i4])):Nat→Int→(List (Val (.int .i64)))→Option (qb [qg,i4])
 | 0,_,_=>none
 | n+1,v7,v16=>bif (decide (v7<v6))then (chk (0≤v7∧v7<(v8.length:Int)) (chk (0≤v7∧v7<(v11.length:Int)) (chk (0≤v7∧v7<(v16.length:Int)) (chk (v7.toNat<v16.length) (qhO N v4 v5 v6 v8 v9 v10 v11 v12 v13 v14 v15 k0 n (IntKind.i64.wrap (v7+(1:Int))) (v16.set v7.toNat (IntKind.i64.wrap ((IntKind.i64.wrap (v4*((v8.getD v7.toNat (qc (.int .i64))):Int)))+(IntKind.i64.wrap (v5*((v11.getD v7.toNat (qc (.int .i64))):Int)))))))))))else (k0 v16)
noncomputable def qvM (N:Nat) (v0:Val qa) (v1:Int) (v2:Val qa) (v3:Int):Option (qb [qg,i4]):=bif (!((qA v0):Bool))then (some ((([]:List (Val (.int .i64))),(0:Int),false),false,()))else (bif (!((qA v2):Bool))then (some ((([]:List (Val (.int .i64))),(0:Int),false),false,()))else (bif (!(decide (((v0.1:List (Val (.int .i64))).length:Int)=((v2.1:List (Val (.int .i64))).length:Int))))then (some ((([]:List (Val (.int .i64))),(0:Int),false),false,()))else (bif (decide (v1<(0:Int)))then (some ((([]:List (Val (.int .i64))),(0:Int),false),false,()))else (bif (decide ((400000000:Int)<v1))then (some ((([]:List (Val (.int .i64))),(0:Int),false),false,()))else (bif (decide (v3<(0:Int)))then (some ((([]:List (Val (.int .i64))),(0:Int),false),false,()))else (bif (decide ((400000000:Int)<v3))then (some ((([]:List (Val (.int .i64))),(0:Int),false),false,()))else (chk (0≤((v0.1:List (Val (.int .i64))).length:Int)∧((v0.1:List (Val (.int .i64))).length:Int)≤((v0.1:List (Val (.int .i64))).length:Int)∧((v0.1:List (Val (.int .i64))).length:Int)≤1048576) (qhO N v1 v3 ((List.replicate ((v0.1:List (Val (.int .i64))).length:Int).toNat (qc (.int .i64))).length:Int) (v0.1:List (Val (.int .i64))) (v0.2.1:Int) (v0.2.2:Bool) (v2.1:List (Val (.int .i64))) (v2.2.1:Int) (v2.2.2:Bool) (0:Int) false (fun (v18:List (Val (.int .i64)))=>bif (v0.2.2:Bool)then (bif (!(decide (v1=(0:Int))))then (chk (qac v18 (IntKind.i64.wrap ((IntKind.i64.wrap (v1*(v0.2.1:Int)))+(IntKind.i64.wrap (v3*(v2.2.1:Int))))) true) (some (((((qh v18 (IntKind.i64.wrap ((IntKind.i64.wrap (v1*(v0.2.1:Int)))+(IntKind.i64.wrap (v3*(v2.2.1:Int))))) true).1).1:List (Val (.int .i64))),((((qh v18 (IntKind.i64.wrap ((IntKind.i64.wrap (v1*(v0.2.1:Int)))+(IntKind.i64.wrap (v3*(v2.2.1:Int))))) true).1).2).1:Int),((((qh v18 (IntKind.i64.wrap ((IntKind.i64.wrap (v1*(v0.2.1:Int)))+(IntKind.i64.wrap (v3*(v2.2.1:Int))))) true).1).2).2:Bool)),((qh v18 (IntKind.i64.wrap ((IntKind.i64.wrap (v1*(v0.2.1:Int)))+(IntKind.i64.wrap (v3*(v2.2.1:Int))))) true).2:Bool),())))else (bif (v2.2.2:Bool)then (chk (qac v18 (IntKind.i64.wrap ((IntKind.i64.wrap (v1*(v0.2.1:Int)))+(IntKind.i64.wrap (v3*(v2.2.1:Int))))) (!(decide (v3=(0:Int))))) (some (((((qh v18 (IntKind.i64.wrap ((IntKind.i64.wrap (v1*(v0.2.1:Int)))+(IntKind.i64.wrap (v3*(v2.2.1:Int))))) (!(decide (v3=(0:Int))))).1).1:List (Val (.int .i64))),((((qh v18 (IntKind.i64.wrap ((IntKind.i64.wrap (v1*(v0.2.1:Int)))+(IntKind.i64.wrap (v3*(v2.2.1:Int))))) (!(decide (v3=(0:Int))))).1).2).1:Int),((((qh v18 (IntKind.i64.wrap ((IntKind.i64.wrap (v1*(v0.2.1:Int)))+(IntKind.i64.wrap (v3*(v2.2.1:Int))))) (!(decide (v3=(0:Int))))).1).2).2:Bool)),((qh v18 (IntKind.i64.wrap ((IntKind.i64.wrap (v1*(v0.2.1:Int)))+(IntKind.i64.wrap (v3*(v2.2.1:Int))))) (!(decide (v3=(0:Int))))).2:Bool),())))else (chk (qac v18 (IntKind.i64.wrap ((IntKind.i64.wrap (v1*(v0.2.1:Int)))+(IntKind.i64.wrap (v3*(v2.2.1:Int))))) false) (some (((((qh v18 (IntKind.i64.wrap ((IntKind.i64.wrap (v1*(v0.2.1:Int)))+(IntKind.i64.wrap (v3*(v2.2.1:Int))))) false).1).1:List (Val (.int .i64))),((((qh v18 (IntKind.i64.wrap ((IntKind.i64.wrap (v1*(v0.2.1:Int)))+(IntKind.i64.wrap (v3*(v2.2.1:Int))))) false).1).2).1:Int),((((qh v18 (IntKind.i64.wrap ((IntKind.i64.wrap (v1*(v0.2.1:Int)))+(IntKind.i64.wrap (v3*(v2.2.1:Int))))) false).1).2).2:Bool)),((qh v18 (IntKind.i64.wrap ((IntKind.i64.wrap (v1*(v0.2.1:Int)))+(IntKind.i64.wrap (v3*(v2.2.1:Int))))) false).2:Bool),())))))else (bif (v2.2.2:Bool)then (chk (qac v18 (IntKind.i64.wrap ((IntKind.i64.wrap (v1*(v0.2.1:Int)))+(IntKind.i64.wrap (v3*(v2.2.1:Int))))) (!(decide (v3=(0:Int))))) (some (((((qh v18 (IntKind.i64.wrap ((IntKind.i64.wrap (v1*(v0.2.1:Int)))+(IntKind.i64.wrap (v3*(v2.2.1:Int))))) (!(decide (v3=(0:Int))))).1).1:List (Val (.int .i64))),((((qh v18 (IntKind.i64.wrap ((IntKind.i64.wrap (v1*(v0.2.1:Int)))+(IntKind.i64.wrap (v3*(v2.2.1:Int))))) (!(decide (v3=(0:Int))))).1).2).1:Int),((((qh v18 (IntKind.i64.wrap ((IntKind.i64.wrap (v1*(v0.2.1:Int)))+(IntKind.i64.wrap (v3*(v2.2.1:Int))))) (!(decide (v3=(0:Int))))).1).2).2:Bool)),((qh v18 (IntKind.i64.wrap ((IntKind.i64.wrap (v1*(v0.2.1:Int)))+(IntKind.i64.wrap (v3*(v2.2.1:Int))))) (!(decide (v3=(0:Int))))).2:Bool),())))else (chk (qac v18 (IntKind.i64.wrap ((IntKind.i64.wrap (v1*(v0.2.1:Int)))+(IntKind.i64.wrap (v3*(v2.2.1:Int))))) false) (some (((((qh v18 (IntKind.i64.wrap ((IntKind.i64.wrap (v1*(v0.2.1:Int)))+(IntKind.i64.wrap (v3*(v2.2.1:Int))))) false).1).1:List (Val (.int .i64))),((((qh v18 (IntKind.i64.wrap ((IntKind.i64.wrap (v1*(v0.2.1:Int)))+(IntKind.i64.wrap (v3*(v2.2.1:Int))))) false).1).2).1:Int),((((qh v18 (IntKind.i64.wrap ((IntKind.i64.wrap (v1*(v0.2.1:Int)))+(IntKind.i64.wrap (v3*(v2.2.1:Int))))) false).1).2).2:Bool)),((qh v18 (IntKind.i64.wrap ((IntKind.i64.wrap (v1*(v0.2.1:Int)))+(IntKind.i64.wrap (v3*(v2.2.1:Int))))) false).2:Bool),()))))) N (0:Int) (List.replicate ((v0.1:List (Val (.int .i64))).length:Int).toNat (qc (.int .i64)))))))))))
def qli:Gam:=[(207,qbk),(279,qaA)]
theorem qCm:Gam.get qli 207=some qbk:=rfl
theorem qD4:Gam.get qli 279=some qaA:=rfl
def qqC:Nm:=⟨[false,true,false,true,true,false,true,false,true,false,true,false,false,false,false,false,false,false,false,false,false,false,false,false,false,false,false,false,false,false,false,false,false,false,false,false,false,false,false,false,false,false,false,false,false,false,false,false,false,false,true,true],[],false⟩
theorem qCe:qqC.zero=false:=rfl
theorem qK3:qqC.fix=[]:=rfl
theorem qJa:qqC.keep=[false,true,false,true,true,false,true,false,true,false,true,false,false,false,false,false,false,false,false,false,false,false,false,false,false,false,false,false,false,false,false,false,false,false,false,false,false,false,false,false,false,false,false,false,false,false,false,false,false,false,true,true]:=rfl
def qxk:Nm:=⟨[false,true,false,true,true,false,true,false,true,false,true],[],false⟩
theorem qG2:qxk.zero=false:=rfl
theorem qM1:qxk.fix=[]:=rfl
theorem qHU:qxk.keep=[false,true,false,true,true,false,true,false,true,false,true]:=rfl
def qmm:Nat→Tree:=fun i=>if i=9 then .quiet 0 (.quiet 1 (.quiet 2 (.quiet 3 (.quiet 4 (.quiet 5 (.quiet 6 (.quiet 7 (.quiet 8 (.quiet 9 (.quiet 10 (.quiet 11 (.quiet 12 (.quiet 13 (.quiet 14 (.quiet 15 (.quiet 16 (.quiet 17 (.alt 18 .done .stop))))))))))))))))))else .done
def quy:Nat→Nm:=fun i=>if i=7 then qqC else ⟨[],[],false⟩
def quU:Nat→Option Jn:=fun _=>none
def qpa:Nat→Option Nm:=fun i=>if i=0 then some qxk else none
def qpE:Nat→Option Nm:=fun _=>none
theorem qWD:qj qmm (Tryz.f293.body.getD .skip)=true:=by kernel_rfl
def qd2 (N:Nat):Tab:={tr:=qmm,lp:=quy,ex:=qpa,rg:=qpE,jn:=quU,fuel:=N}
theorem qH4 (N:Nat):(qd2 N).pins=false:=rfl
theorem q7M (N:Nat):qn Tryz.prog (qd2 N):=qr fun _=>rfl
theorem qJ7 (N:Nat) (i:Nat):(qd2 N).tr i=qmm i:=rfl
theorem qJp (N:Nat) (i:Nat):(qd2 N).lp i=quy i:=rfl
theorem qKD (N:Nat) (i:Nat):(qd2 N).ex i=qpa i:=rfl
theorem qGi (N:Nat) (i:Nat):(qd2 N).rg i=qpE i:=rfl
theorem qJI (N:Nat) (i:Nat):(qd2 N).jn i=quU i:=rfl
theorem qNS (N:Nat):(qd2 N).fuel=N:=rfl
noncomputable def qS9:Code:=cut [true,true,true,true,false,true,true,true] (Tryz.f293.body.getD .skip)
theorem qZc {N:Nat} {Q:X→St→Option (qb [qg,i4])} {e:List LV} {h:List Blk}:qd tt qli (qd2 N) qS9 Q ⟨e,h⟩=qd tt qli (qd2 N) (cut [true,true,true,true,false,true,true,true] (Tryz.f293.body.getD .skip)) Q ⟨e,h⟩:=rfl
theorem q80 (N:Nat) (v4:Int) (v5:Int) (v6:Int) (v8:List (Val (.int .i64))) (v9:Int) (v10:Bool) (v11:List (Val (.int .i64))) (v12:Int) (v13:Bool) (v14:Int) (v15:Bool) {k0:(List (Val (.int .i64)))→Option (qb [qg,i4])} {Q:X→St→Option (qb [qg,i4])} {c:Code} (hc:c=qS9) (hret: ∀st,Q .ret st=qB tt true [qg,i4] [.cell 8 108,.tmp 9] st) (h0: ∀(v17:List (Val (.int .i64))),Q (.exit 0) ⟨[u,.one (.int .i64 v4),u,.one (.int .i64 v5),.one (.ptr 0 0 0),u,.one (.ptr 1 0 0),u,.one (.ptr 2 0 0),u,.one (.own 3),u,u,u,u,u,u,u,u,u,u,u,u,u,u,u,u,u,u,u,u,u,u,u,u,u,u,u,u,u,u,u,u,u,u,u,u,u,u,u,u,u,u,u,u,u,u,u,u,u,u,u,u,u,u,u,u,u,u,u,u,u,u,u,u,u,u,u,u,u,u,u,u,u,u,u,u,u,u,u,u,u,u,u,u,u,u,u,u,u],[.box [.sl 3 (.int .i64) v8 4,.int .i64 v9,.bool v10],.box [.sl 3 (.int .i64) v11 4,.int .i64 v12,.bool v13],.box [.nils,.int .i64 v14,.bool v15],.row 3 (.int .i64) v17 true true 0]⟩=k0 v17): ∀(n:Nat) (v7:Int) (v16:List (Val (.int .i64))),qC (qd tt qli (qd2 N) c) false qqC Q n ⟨[u,.one (.int .i64 v4),u,.one (.int .i64 v5),.one (.ptr 0 0 0),u,.one (.ptr 1 0 0),u,.one (.ptr 2 0 0),u,.one (.own 3),u,u,u,u,u,u,u,u,u,u,u,u,u,u,u,u,u,u,u,u,u,u,u,u,u,u,u,u,u,u,u,u,u,u,u,u,u,u,u,.one (.int .i64 v6),.one (.int .i64 v7),u,u,u,u,u,u,u,u,u,u,u,u,u,u,u,u,u,u,u,u,u,u,u,u,u,u,u,u,u,u,u,u,u,u,u,u,u,u,u,u,u,u,u,u,u,u,u,u],[.box [.sl 3 (.int .i64) v8 4,.int .i64 v9,.bool v10],.box [.sl 3 (.int .i64) v11 4,.int .i64 v12,.bool v13],.box [.nils,.int .i64 v14,.bool v15],.row 3 (.int .i64) v16 true true 0]⟩=qhO N v4 v5 v6 v8 v9 v10 v11 v12 v13 v14 v15 k0 n v7 v16:=by
 subst hc;intro n;induction n with
 | zero=>intros;rfl
 | succ n ih=>
   intro v7 v16
   rw [qL,qZc,qhO];unfold Tryz.f293
   simp (maxSteps:=10000000) -implicitDefEqProofs [qJ7,qmm,qJp,quy,qKD,qpa,qGi,qpE,qJI,quU,qNS,qH4,qK3,qJa,qCe,qM1,qHU,qG2,qCm,qD4,qbk,qaA,hret,h0,ih]
theorem qY6 (N:Nat) (v0:Val qa) (v1:Int) (v2:Val qa) (v3:Int):qd tt qli (qd2 N) (Tryz.f293.body.getD .skip) (qo tt true [qg,i4] [.cell 8 108,.tmp 9]) (qt [qg,i3,qg,i3] 100 (v0,v1,v2,v3,()))=qvM N v0 v1 v2 v3:=by
 unfold Tryz.f293
 simp (maxSteps:=10000000) -implicitDefEqProofs [qJ7,qmm,qJp,quy,qKD,qpa,qGi,qpE,qJI,quU,qNS,qH4,qK3,qJa,qCe,qM1,qHU,qG2,qCm,qD4,qbk,qaA]
 rewrite [q80 (k0:=(fun (v18:List (Val (.int .i64)))=>bif (v0.2.2:Bool)then (bif (!(decide (v1=(0:Int))))then (chk (qac v18 (IntKind.i64.wrap ((IntKind.i64.wrap (v1*(v0.2.1:Int)))+(IntKind.i64.wrap (v3*(v2.2.1:Int))))) true) (some (((((qh v18 (IntKind.i64.wrap ((IntKind.i64.wrap (v1*(v0.2.1:Int)))+(IntKind.i64.wrap (v3*(v2.2.1:Int))))) true).1).1:List (Val (.int .i64))),((((qh v18 (IntKind.i64.wrap ((IntKind.i64.wrap (v1*(v0.2.1:Int)))+(IntKind.i64.wrap (v3*(v2.2.1:Int))))) true).1).2).1:Int),((((qh v18 (IntKind.i64.wrap ((IntKind.i64.wrap (v1*(v0.2.1:Int)))+(IntKind.i64.wrap (v3*(v2.2.1:Int))))) true).1).2).2:Bool)),((qh v18 (IntKind.i64.wrap ((IntKind.i64.wrap (v1*(v0.2.1:Int)))+(IntKind.i64.wrap (v3*(v2.2.1:Int))))) true).2:Bool),())))else (bif (v2.2.2:Bool)then (chk (qac v18 (IntKind.i64.wrap ((IntKind.i64.wrap (v1*(v0.2.1:Int)))+(IntKind.i64.wrap (v3*(v2.2.1:Int))))) (!(decide (v3=(0:Int))))) (some (((((qh v18 (IntKind.i64.wrap ((IntKind.i64.wrap (v1*(v0.2.1:Int)))+(IntKind.i64.wrap (v3*(v2.2.1:Int))))) (!(decide (v3=(0:Int))))).1).1:List (Val (.int .i64))),((((qh v18 (IntKind.i64.wrap ((IntKind.i64.wrap (v1*(v0.2.1:Int)))+(IntKind.i64.wrap (v3*(v2.2.1:Int))))) (!(decide (v3=(0:Int))))).1).2).1:Int),((((qh v18 (IntKind.i64.wrap ((IntKind.i64.wrap (v1*(v0.2.1:Int)))+(IntKind.i64.wrap (v3*(v2.2.1:Int))))) (!(decide (v3=(0:Int))))).1).2).2:Bool)),((qh v18 (IntKind.i64.wrap ((IntKind.i64.wrap (v1*(v0.2.1:Int)))+(IntKind.i64.wrap (v3*(v2.2.1:Int))))) (!(decide (v3=(0:Int))))).2:Bool),())))else (chk (qac v18 (IntKind.i64.wrap ((IntKind.i64.wrap (v1*(v0.2.1:Int)))+(IntKind.i64.wrap (v3*(v2.2.1:Int))))) false) (some (((((qh v18 (IntKind.i64.wrap ((IntKind.i64.wrap (v1*(v0.2.1:Int)))+(IntKind.i64.wrap (v3*(v2.2.1:Int))))) false).1).1:List (Val (.int .i64))),((((qh v18 (IntKind.i64.wrap ((IntKind.i64.wrap (v1*(v0.2.1:Int)))+(IntKind.i64.wrap (v3*(v2.2.1:Int))))) false).1).2).1:Int),((((qh v18 (IntKind.i64.wrap ((IntKind.i64.wrap (v1*(v0.2.1:Int)))+(IntKind.i64.wrap (v3*(v2.2.1:Int))))) false).1).2).2:Bool)),((qh v18 (IntKind.i64.wrap ((IntKind.i64.wrap (v1*(v0.2.1:Int)))+(IntKind.i64.wrap (v3*(v2.2.1:Int))))) false).2:Bool),())))))else (bif (v2.2.2:Bool)then (chk (qac v18 (IntKind.i64.wrap ((IntKind.i64.wrap (v1*(v0.2.1:Int)))+(IntKind.i64.wrap (v3*(v2.2.1:Int))))) (!(decide (v3=(0:Int))))) (some (((((qh v18 (IntKind.i64.wrap ((IntKind.i64.wrap (v1*(v0.2.1:Int)))+(IntKind.i64.wrap (v3*(v2.2.1:Int))))) (!(decide (v3=(0:Int))))).1).1:List (Val (.int .i64))),((((qh v18 (IntKind.i64.wrap ((IntKind.i64.wrap (v1*(v0.2.1:Int)))+(IntKind.i64.wrap (v3*(v2.2.1:Int))))) (!(decide (v3=(0:Int))))).1).2).1:Int),((((qh v18 (IntKind.i64.wrap ((IntKind.i64.wrap (v1*(v0.2.1:Int)))+(IntKind.i64.wrap (v3*(v2.2.1:Int))))) (!(decide (v3=(0:Int))))).1).2).2:Bool)),((qh v18 (IntKind.i64.wrap ((IntKind.i64.wrap (v1*(v0.2.1:Int)))+(IntKind.i64.wrap (v3*(v2.2.1:Int))))) (!(decide (v3=(0:Int))))).2:Bool),())))else (chk (qac v18 (IntKind.i64.wrap ((IntKind.i64.wrap (v1*(v0.2.1:Int)))+(IntKind.i64.wrap (v3*(v2.2.1:Int))))) false) (some (((((qh v18 (IntKind.i64.wrap ((IntKind.i64.wrap (v1*(v0.2.1:Int)))+(IntKind.i64.wrap (v3*(v2.2.1:Int))))) false).1).1:List (Val (.int .i64))),((((qh v18 (IntKind.i64.wrap ((IntKind.i64.wrap (v1*(v0.2.1:Int)))+(IntKind.i64.wrap (v3*(v2.2.1:Int))))) false).1).2).1:Int),((((qh v18 (IntKind.i64.wrap ((IntKind.i64.wrap (v1*(v0.2.1:Int)))+(IntKind.i64.wrap (v3*(v2.2.1:Int))))) false).1).2).2:Bool)),((qh v18 (IntKind.i64.wrap ((IntKind.i64.wrap (v1*(v0.2.1:Int)))+(IntKind.i64.wrap (v3*(v2.2.1:Int))))) false).2:Bool),())))))) N _ _ _ _ _ _ _ _ _ _ _ ?_ ?_ ?_]
 ·rewrite [qvM];first | rfl | simp (maxSteps:=10000000) -implicitDefEqProofs []
 ·rfl
 ·intro;simp only [qK,qI,qJ,qy]
 ·intro v18;simp (maxSteps:=10000000) -implicitDefEqProofs [qJ7,qmm,qJp,quy,qKD,qpa,qGi,qpE,qJI,quU,qNS,qH4,qK3,qJa,qCe,qM1,qHU,qG2,qCm,qD4,qbk,qaA]
noncomputable def qio (N:Nat) (v4:Int) (v5:Int) (v7:List (Val (.int .i64))) (v8:Int) (v9:Bool) (v10:List (Val (.int .i64))) (v11:Int) (v12:Bool) (v13:Int) (v14:Bool) (k0:(List (Val (.int .i64)))→Option (qb [qg,i4])):Nat→Int→(List (Val (.int .i64)))→Option (qb [qg,i4])
 | 0,_,_=>none
 | n+1,v6,v15=>bif (decide (v6<(v7.length:Int)))then (chk (0≤v6∧v6<(v7.length:Int)) (chk (0≤v6∧v6<(v10.length:Int)) (chk (v15.length+([(IntKind.i64.wrap ((IntKind.i64.wrap (v4*((v7.getD v6.toNat (qc (.int .i64))):Int)))+(IntKind.i64.wrap (v5*((v10.getD v6.toNat (qc (.int .i64))):Int)))))]:List (Val (.int .i64))).length≤1048576) (qio N v4 v5 v7 v8 v9 v10 v11 v12 v13 v14 k0 n (IntKind.i64.wrap (v6+(1:Int))) (v15++([(IntKind.i64.wrap ((IntKind.i64.wrap (v4*((v7.getD v6.toNat (qc (.int .i64))):Int)))+(IntKind.i64.wrap (v5*((v10.getD v6.toNat (qc (.int .i64))):Int)))))]:List (Val (.int .i64))))))))else (k0 v15)
noncomputable def qwX (N:Nat) (v0:Val qa) (v1:Int) (v2:Val qa) (v3:Int):Option (qb [qg,i4]):=bif (!((qA v0):Bool))then (some ((([]:List (Val (.int .i64))),(0:Int),false),false,()))else (bif (!((qA v2):Bool))then (some ((([]:List (Val (.int .i64))),(0:Int),false),false,()))else (bif (!(decide (((v0.1:List (Val (.int .i64))).length:Int)=((v2.1:List (Val (.int .i64))).length:Int))))then (some ((([]:List (Val (.int .i64))),(0:Int),false),false,()))else (bif (!((inR v1 (0:Int) (400000000:Int)):Bool))then (some ((([]:List (Val (.int .i64))),(0:Int),false),false,()))else (bif (!((inR v3 (0:Int) (400000000:Int)):Bool))then (some ((([]:List (Val (.int .i64))),(0:Int),false),false,()))else (qio N v1 v3 (v0.1:List (Val (.int .i64))) (v0.2.1:Int) (v0.2.2:Bool) (v2.1:List (Val (.int .i64))) (v2.2.1:Int) (v2.2.2:Bool) (0:Int) false (fun (v17:List (Val (.int .i64)))=>bif (v0.2.2:Bool)then (bif (decide ((0:Int)<v1))then (chk (qac v17 (IntKind.i64.wrap ((IntKind.i64.wrap (v1*(v0.2.1:Int)))+(IntKind.i64.wrap (v3*(v2.2.1:Int))))) true) (some (((((qh v17 (IntKind.i64.wrap ((IntKind.i64.wrap (v1*(v0.2.1:Int)))+(IntKind.i64.wrap (v3*(v2.2.1:Int))))) true).1).1:List (Val (.int .i64))),((((qh v17 (IntKind.i64.wrap ((IntKind.i64.wrap (v1*(v0.2.1:Int)))+(IntKind.i64.wrap (v3*(v2.2.1:Int))))) true).1).2).1:Int),((((qh v17 (IntKind.i64.wrap ((IntKind.i64.wrap (v1*(v0.2.1:Int)))+(IntKind.i64.wrap (v3*(v2.2.1:Int))))) true).1).2).2:Bool)),((qh v17 (IntKind.i64.wrap ((IntKind.i64.wrap (v1*(v0.2.1:Int)))+(IntKind.i64.wrap (v3*(v2.2.1:Int))))) true).2:Bool),())))else (bif (v2.2.2:Bool)then (chk (qac v17 (IntKind.i64.wrap ((IntKind.i64.wrap (v1*(v0.2.1:Int)))+(IntKind.i64.wrap (v3*(v2.2.1:Int))))) (decide ((0:Int)<v3))) (some (((((qh v17 (IntKind.i64.wrap ((IntKind.i64.wrap (v1*(v0.2.1:Int)))+(IntKind.i64.wrap (v3*(v2.2.1:Int))))) (decide ((0:Int)<v3))).1).1:List (Val (.int .i64))),((((qh v17 (IntKind.i64.wrap ((IntKind.i64.wrap (v1*(v0.2.1:Int)))+(IntKind.i64.wrap (v3*(v2.2.1:Int))))) (decide ((0:Int)<v3))).1).2).1:Int),((((qh v17 (IntKind.i64.wrap ((IntKind.i64.wrap (v1*(v0.2.1:Int)))+(IntKind.i64.wrap (v3*(v2.2.1:Int))))) (decide ((0:Int)<v3))).1).2).2:Bool)),((qh v17 (IntKind.i64.wrap ((IntKind.i64.wrap (v1*(v0.2.1:Int)))+(IntKind.i64.wrap (v3*(v2.2.1:Int))))) (decide ((0:Int)<v3))).2:Bool),())))else (chk (qac v17 (IntKind.i64.wrap ((IntKind.i64.wrap (v1*(v0.2.1:Int)))+(IntKind.i64.wrap (v3*(v2.2.1:Int))))) false) (some (((((qh v17 (IntKind.i64.wrap ((IntKind.i64.wrap (v1*(v0.2.1:Int)))+(IntKind.i64.wrap (v3*(v2.2.1:Int))))) false).1).1:List (Val (.int .i64))),((((qh v17 (IntKind.i64.wrap ((IntKind.i64.wrap (v1*(v0.2.1:Int)))+(IntKind.i64.wrap (v3*(v2.2.1:Int))))) false).1).2).1:Int),((((qh v17 (IntKind.i64.wrap ((IntKind.i64.wrap (v1*(v0.2.1:Int)))+(IntKind.i64.wrap (v3*(v2.2.1:Int))))) false).1).2).2:Bool)),((qh v17 (IntKind.i64.wrap ((IntKind.i64.wrap (v1*(v0.2.1:Int)))+(IntKind.i64.wrap (v3*(v2.2.1:Int))))) false).2:Bool),())))))else (bif (v2.2.2:Bool)then (chk (qac v17 (IntKind.i64.wrap ((IntKind.i64.wrap (v1*(v0.2.1:Int)))+(IntKind.i64.wrap (v3*(v2.2.1:Int))))) (decide ((0:Int)<v3))) (some (((((qh v17 (IntKind.i64.wrap ((IntKind.i64.wrap (v1*(v0.2.1:Int)))+(IntKind.i64.wrap (v3*(v2.2.1:Int))))) (decide ((0:Int)<v3))).1).1:List (Val (.int .i64))),((((qh v17 (IntKind.i64.wrap ((IntKind.i64.wrap (v1*(v0.2.1:Int)))+(IntKind.i64.wrap (v3*(v2.2.1:Int))))) (decide ((0:Int)<v3))).1).2).1:Int),((((qh v17 (IntKind.i64.wrap ((IntKind.i64.wrap (v1*(v0.2.1:Int)))+(IntKind.i64.wrap (v3*(v2.2.1:Int))))) (decide ((0:Int)<v3))).1).2).2:Bool)),((qh v17 (IntKind.i64.wrap ((IntKind.i64.wrap (v1*(v0.2.1:Int)))+(IntKind.i64.wrap (v3*(v2.2.1:Int))))) (decide ((0:Int)<v3))).2:Bool),())))else (chk (qac v17 (IntKind.i64.wrap ((IntKind.i64.wrap (v1*(v0.2.1:Int)))+(IntKind.i64.wrap (v3*(v2.2.1:Int))))) false) (some (((((qh v17 (IntKind.i64.wrap ((IntKind.i64.wrap (v1*(v0.2.1:Int)))+(IntKind.i64.wrap (v3*(v2.2.1:Int))))) false).1).1:List (Val (.int .i64))),((((qh v17 (IntKind.i64.wrap ((IntKind.i64.wrap (v1*(v0.2.1:Int)))+(IntKind.i64.wrap (v3*(v2.2.1:Int))))) false).1).2).1:Int),((((qh v17 (IntKind.i64.wrap ((IntKind.i64.wrap (v1*(v0.2.1:Int)))+(IntKind.i64.wrap (v3*(v2.2.1:Int))))) false).1).2).2:Bool)),((qh v17 (IntKind.i64.wrap ((IntKind.i64.wrap (v1*(v0.2.1:Int)))+(IntKind.i64.wrap (v3*(v2.2.1:Int))))) false).2:Bool),()))))) N (0:Int) ([]:List (Val (.int .i64))))))))
def qhN:Gam:=[(118,q5),(149,qaZ),(193,qa7)]
theorem qCA:Gam.get qhN 118=some q5:=rfl
theorem qHm:Gam.get qhN 149=some qaZ:=rfl
theorem qKn:Gam.get qhN 193=some qa7:=rfl
def qtb:Nm:=⟨[false,true,false,true,true,false,true,false,true,false,true,true],[],false⟩
theorem qKw:qtb.zero=false:=rfl
theorem qO8:qtb.fix=[]:=rfl
theorem qMS:qtb.keep=[false,true,false,true,true,false,true,false,true,false,true,true]:=rfl
def qy5:Nm:=⟨[false,true,false,true,true,false,true,false,true,false,true],[],false⟩
theorem qMF:qy5.zero=false:=rfl
theorem qOc:qy5.fix=[]:=rfl
theorem qOE:qy5.keep=[false,true,false,true,true,false,true,false,true,false,true]:=rfl
def qmb:Nat→Tree:=fun i=>if i=7 then .quiet 1 (.quiet 2 (.quiet 3 (.quiet 4 (.quiet 5 (.quiet 6 (.quiet 7 (.quiet 8 (.quiet 9 (.quiet 10 (.quiet 11 (.quiet 12 (.quiet 13 (.quiet 14 (.quiet 15 (.first 0 (.alt 16 (.alt 17 (.quiet 18 .done) .stop) .stop))))))))))))))))else .done
def qst:Nat→Nm:=fun i=>if i=5 then qtb else ⟨[],[],false⟩
def qum:Nat→Option Jn:=fun _=>none
def qoJ:Nat→Option Nm:=fun i=>if i=0 then some qy5 else none
def qoP:Nat→Option Nm:=fun _=>none
theorem zcc:qj qmb (Tryz.f235.body.getD .skip)=true:=by kernel_rfl
def qdF (N:Nat):Tab:={tr:=qmb,lp:=qst,ex:=qoJ,rg:=qoP,jn:=qum,fuel:=N}
theorem qFM (N:Nat):(qdF N).pins=false:=rfl
theorem zcl (N:Nat):qn Tryz.prog (qdF N):=qr fun _=>rfl
theorem qB9 (N:Nat) (i:Nat):(qdF N).tr i=qmb i:=rfl
theorem qLM (N:Nat) (i:Nat):(qdF N).lp i=qst i:=rfl
theorem qPn (N:Nat) (i:Nat):(qdF N).ex i=qoJ i:=rfl
theorem qDO (N:Nat) (i:Nat):(qdF N).rg i=qoP i:=rfl
theorem qM2 (N:Nat) (i:Nat):(qdF N).jn i=qum i:=rfl
theorem qLh (N:Nat):(qdF N).fuel=N:=rfl
noncomputable def qQE:Code:=cut [true,true,true,false,true,true,true] (Tryz.f235.body.getD .skip)
theorem q9Q {N:Nat} {Q:X→St→Option (qb [qg,i4])} {e:List LV} {h:List Blk}:qd tt qhN (qdF N) qQE Q ⟨e,h⟩=qd tt qhN (qdF N) (cut [true,true,true,false,true,true,true] (Tryz.f235.body.getD .skip)) Q ⟨e,h⟩:=rfl
theorem q6H (N:Nat) (v4:Int) (v5:Int) (v7:List (Val (.int .i64))) (v8:Int) (v9:Bool) (v10:List (Val (.int .i64))) (v11:Int) (v12:Bool) (v13:Int) (v14:Bool) {k0:(List (Val (.int .i64)))→Option (qb [qg,i4])} {Q:X→St→Option (qb [qg,i4])} {c:Code} (hc:c=qQE) (hret: ∀st,Q .ret st=qB tt true [qg,i4] [.cell 8 108,.tmp 9] st) (h0: ∀(v16:List (Val (.int .i64))),Q (.exit 0) ⟨[u,.one (.int .i64 v4),u,.one (.int .i64 v5),.one (.ptr 0 0 0),u,.one (.ptr 1 0 0),u,.one (.ptr 2 0 0),u,.one (.own 3),u,u,u,u,u,u,u,u,u,u,u,u,u,u,u,u,u,u,u,u,u,u,u,u,u,u,u,u,u,u,u,u,u,u,u,u,u,u,u,u,u,u,u,u,u,u,u,u,u,u,u,u,u,u,u,u,u,u,u,u,u,u,u,u,u,u,u,u,u,u,u,u,u,u,u,u,u,u,u,u,u,u,u,u,u,u,u],[.box [.sl 3 (.int .i64) v7 4,.int .i64 v8,.bool v9],.box [.sl 3 (.int .i64) v10 4,.int .i64 v11,.bool v12],.box [.nils,.int .i64 v13,.bool v14],.row 3 (.int .i64) v16 true true 0]⟩=k0 v16): ∀(n:Nat) (v6:Int) (v15:List (Val (.int .i64))),qC (qd tt qhN (qdF N) c) false qtb Q n ⟨[u,.one (.int .i64 v4),u,.one (.int .i64 v5),.one (.ptr 0 0 0),u,.one (.ptr 1 0 0),u,.one (.ptr 2 0 0),u,.one (.own 3),.one (.int .i64 v6),u,u,u,u,u,u,u,u,u,u,u,u,u,u,u,u,u,u,u,u,u,u,u,u,u,u,u,u,u,u,u,u,u,u,u,u,u,u,u,u,u,u,u,u,u,u,u,u,u,u,u,u,u,u,u,u,u,u,u,u,u,u,u,u,u,u,u,u,u,u,u,u,u,u,u,u,u,u,u,u,u,u,u,u,u,u],[.box [.sl 3 (.int .i64) v7 4,.int .i64 v8,.bool v9],.box [.sl 3 (.int .i64) v10 4,.int .i64 v11,.bool v12],.box [.nils,.int .i64 v13,.bool v14],.row 3 (.int .i64) v15 true true 0]⟩=qio N v4 v5 v7 v8 v9 v10 v11 v12 v13 v14 k0 n v6 v15:=by
 subst hc;intro n;induction n with
 | zero=>intros;rfl
 | succ n ih=>
   intro v6 v15
   rw [qL,q9Q,qio];unfold Tryz.f235
   simp (maxSteps:=10000000) -implicitDefEqProofs [qB9,qmb,qLM,qst,qPn,qoJ,qDO,qoP,qM2,qum,qLh,qFM,qO8,qMS,qKw,qOc,qOE,qMF,qCA,qHm,qKn,q5,qaZ,qa7,hret,h0,ih]
theorem zdD (N:Nat) (v0:Val qa) (v1:Int) (v2:Val qa) (v3:Int):qd tt qhN (qdF N) (Tryz.f235.body.getD .skip) (qo tt true [qg,i4] [.cell 8 108,.tmp 9]) (qt [qg,i3,qg,i3] 98 (v0,v1,v2,v3,()))=qwX N v0 v1 v2 v3:=by
 unfold Tryz.f235
 simp (maxSteps:=10000000) -implicitDefEqProofs [qB9,qmb,qLM,qst,qPn,qoJ,qDO,qoP,qM2,qum,qLh,qFM,qO8,qMS,qKw,qOc,qOE,qMF,qCA,qHm,qKn,q5,qaZ,qa7]
 rewrite [q6H (k0:=(fun (v17:List (Val (.int .i64)))=>bif (v0.2.2:Bool)then (bif (decide ((0:Int)<v1))then (chk (qac v17 (IntKind.i64.wrap ((IntKind.i64.wrap (v1*(v0.2.1:Int)))+(IntKind.i64.wrap (v3*(v2.2.1:Int))))) true) (some (((((qh v17 (IntKind.i64.wrap ((IntKind.i64.wrap (v1*(v0.2.1:Int)))+(IntKind.i64.wrap (v3*(v2.2.1:Int))))) true).1).1:List (Val (.int .i64))),((((qh v17 (IntKind.i64.wrap ((IntKind.i64.wrap (v1*(v0.2.1:Int)))+(IntKind.i64.wrap (v3*(v2.2.1:Int))))) true).1).2).1:Int),((((qh v17 (IntKind.i64.wrap ((IntKind.i64.wrap (v1*(v0.2.1:Int)))+(IntKind.i64.wrap (v3*(v2.2.1:Int))))) true).1).2).2:Bool)),((qh v17 (IntKind.i64.wrap ((IntKind.i64.wrap (v1*(v0.2.1:Int)))+(IntKind.i64.wrap (v3*(v2.2.1:Int))))) true).2:Bool),())))else (bif (v2.2.2:Bool)then (chk (qac v17 (IntKind.i64.wrap ((IntKind.i64.wrap (v1*(v0.2.1:Int)))+(IntKind.i64.wrap (v3*(v2.2.1:Int))))) (decide ((0:Int)<v3))) (some (((((qh v17 (IntKind.i64.wrap ((IntKind.i64.wrap (v1*(v0.2.1:Int)))+(IntKind.i64.wrap (v3*(v2.2.1:Int))))) (decide ((0:Int)<v3))).1).1:List (Val (.int .i64))),((((qh v17 (IntKind.i64.wrap ((IntKind.i64.wrap (v1*(v0.2.1:Int)))+(IntKind.i64.wrap (v3*(v2.2.1:Int))))) (decide ((0:Int)<v3))).1).2).1:Int),((((qh v17 (IntKind.i64.wrap ((IntKind.i64.wrap (v1*(v0.2.1:Int)))+(IntKind.i64.wrap (v3*(v2.2.1:Int))))) (decide ((0:Int)<v3))).1).2).2:Bool)),((qh v17 (IntKind.i64.wrap ((IntKind.i64.wrap (v1*(v0.2.1:Int)))+(IntKind.i64.wrap (v3*(v2.2.1:Int))))) (decide ((0:Int)<v3))).2:Bool),())))else (chk (qac v17 (IntKind.i64.wrap ((IntKind.i64.wrap (v1*(v0.2.1:Int)))+(IntKind.i64.wrap (v3*(v2.2.1:Int))))) false) (some (((((qh v17 (IntKind.i64.wrap ((IntKind.i64.wrap (v1*(v0.2.1:Int)))+(IntKind.i64.wrap (v3*(v2.2.1:Int))))) false).1).1:List (Val (.int .i64))),((((qh v17 (IntKind.i64.wrap ((IntKind.i64.wrap (v1*(v0.2.1:Int)))+(IntKind.i64.wrap (v3*(v2.2.1:Int))))) false).1).2).1:Int),((((qh v17 (IntKind.i64.wrap ((IntKind.i64.wrap (v1*(v0.2.1:Int)))+(IntKind.i64.wrap (v3*(v2.2.1:Int))))) false).1).2).2:Bool)),((qh v17 (IntKind.i64.wrap ((IntKind.i64.wrap (v1*(v0.2.1:Int)))+(IntKind.i64.wrap (v3*(v2.2.1:Int))))) false).2:Bool),())))))else (bif (v2.2.2:Bool)then (chk (qac v17 (IntKind.i64.wrap ((IntKind.i64.wrap (v1*(v0.2.1:Int)))+(IntKind.i64.wrap (v3*(v2.2.1:Int))))) (decide ((0:Int)<v3))) (some (((((qh v17 (IntKind.i64.wrap ((IntKind.i64.wrap (v1*(v0.2.1:Int)))+(IntKind.i64.wrap (v3*(v2.2.1:Int))))) (decide ((0:Int)<v3))).1).1:List (Val (.int .i64))),((((qh v17 (IntKind.i64.wrap ((IntKind.i64.wrap (v1*(v0.2.1:Int)))+(IntKind.i64.wrap (v3*(v2.2.1:Int))))) (decide ((0:Int)<v3))).1).2).1:Int),((((qh v17 (IntKind.i64.wrap ((IntKind.i64.wrap (v1*(v0.2.1:Int)))+(IntKind.i64.wrap (v3*(v2.2.1:Int))))) (decide ((0:Int)<v3))).1).2).2:Bool)),((qh v17 (IntKind.i64.wrap ((IntKind.i64.wrap (v1*(v0.2.1:Int)))+(IntKind.i64.wrap (v3*(v2.2.1:Int))))) (decide ((0:Int)<v3))).2:Bool),())))else (chk (qac v17 (IntKind.i64.wrap ((IntKind.i64.wrap (v1*(v0.2.1:Int)))+(IntKind.i64.wrap (v3*(v2.2.1:Int))))) false) (some (((((qh v17 (IntKind.i64.wrap ((IntKind.i64.wrap (v1*(v0.2.1:Int)))+(IntKind.i64.wrap (v3*(v2.2.1:Int))))) false).1).1:List (Val (.int .i64))),((((qh v17 (IntKind.i64.wrap ((IntKind.i64.wrap (v1*(v0.2.1:Int)))+(IntKind.i64.wrap (v3*(v2.2.1:Int))))) false).1).2).1:Int),((((qh v17 (IntKind.i64.wrap ((IntKind.i64.wrap (v1*(v0.2.1:Int)))+(IntKind.i64.wrap (v3*(v2.2.1:Int))))) false).1).2).2:Bool)),((qh v17 (IntKind.i64.wrap ((IntKind.i64.wrap (v1*(v0.2.1:Int)))+(IntKind.i64.wrap (v3*(v2.2.1:Int))))) false).2:Bool),())))))) N _ _ _ _ _ _ _ _ _ _ ?_ ?_ ?_]
 ·rewrite [qwX];first | rfl | simp (maxSteps:=10000000) -implicitDefEqProofs []
 ·rfl
 ·intro;simp only [qK,qI,qJ,qy]
 ·intro v17;simp (maxSteps:=10000000) -implicitDefEqProofs [qB9,qmb,qLM,qst,qPn,qoJ,qDO,qoP,qM2,qum,qLh,qFM,qO8,qMS,qKw,qOc,qOE,qMF,qCA,qHm,qKn,q5,qaZ,qa7]
theorem qzF {p q x y:Int} (hp:0≤p∧p≤400000000) (hq:0≤q∧q≤400000000) (hx: -400000000≤x∧x≤400000000) (hy: -400000000≤y∧y≤400000000):
 IntKind.i64.wrap (IntKind.i64.wrap (p*x)+IntKind.i64.wrap (q*y))=p*x+q*y∧inI (p*x+q*y):=by
 have h1:(p*x).natAbs≤400000000*400000000:=by rw [Int.natAbs_mul];exact Nat.mul_le_mul (by omega) (by omega)
 have h2:(q*y).natAbs≤400000000*400000000:=by rw [Int.natAbs_mul];exact Nat.mul_le_mul (by omega) (by omega)
 generalize p*x=u at*
 generalize q*y=v at*
 rw [qaf (n:=u) (by omega) (by omega),qaf (n:=v) (by omega) (by omega),qaf (by omega) (by omega)]
 exact ⟨rfl,by unfold inI;omega⟩
theorem qV0 {p q:Int} (hp:0≤p∧p≤400000000) (hq:0≤q∧q≤400000000) {xs ys:List Int} (hx: ∀x∈xs, -400000000≤x∧x≤400000000) (hy: ∀x∈ys, -400000000≤x∧x≤400000000): ∀z∈qbO p q xs ys,inI z:=by
 intro z hz
 obtain ⟨⟨x,y⟩,hm,rfl⟩:=List.mem_map.1 hz
 obtain ⟨h1,h2⟩:=List.of_mem_zip hm
 exact (qzF hp hq (hx x h1) (hy y h2)).2
theorem qqT {p q:Int} {xs ys:List Int} (h:xs.length=ys.length):(qbO p q xs ys).length=xs.length:=by simp [qbO,h]
theorem qVf (N:Nat) (p q:Int) (hp:0≤p∧p≤400000000) (hq:0≤q∧q≤400000000) (xs ys:List (Val (.int .i64))) (c:Int) (s:Bool) (c':Int) (s':Bool) (d:Int) (e:Bool) (K:List (Val (.int .i64))→Option (qb [qg,i4])) (hl:xs.length≤1048576) (hxy:xs.length=ys.length)
 (hx: ∀x∈(xs:List Int), -400000000≤x∧x≤400000000) (hy: ∀x∈(ys:List Int), -400000000≤x∧x≤400000000) (n:Nat) (hn:xs.length<n):
 qhO N p q xs.length xs c s ys c' s' d e K n 0 (List.replicate xs.length (qc (.int .i64)))=K (qbO p q xs ys):=by
 have hm:=qqT (p:=p) (q:=q) hxy
 have:=qnM (xs:=(qbO p q xs ys:List (Val (.int .i64)))) (F:=fun n i v=>qhO N p q xs.length xs c s ys c' s' d e K n i v) (k:=K) (qc (.int .i64)) (by rw [hm];exact hl) (fun n i v hi hv=> ?_) (fun n i v hi=> ?_) n (by rw [hm];exact hn)
 ·rw [hm]at this;exact this
 ·have hi:i<xs.length:=by rw [hm]at hi;exact hi
  have hv:v.length=xs.length:=by rw [hm]at hv;exact hv
  have hi2:i<ys.length:=by omega
  rw [qhO,ql (by omega),qe (by omega),qe (by omega),qe (by omega),qe (by simp;omega),qH hi,qH hi2,(qzF hp hq (hx _ (List.getElem_mem hi)) (hy _ (List.getElem_mem hi2))).1]
  have e:(qbO p q xs ys)[i]=p*xs[i]+q*ys[i]:=by simp [qbO]
  simp only [e,Int.toNat_natCast]
 ·have hi:xs.length≤i:=by rw [hm]at hi;exact hi
  rw [qhO,qi (by omega)]
theorem zav (N:Nat) (p q:Int) (hp:0≤p∧p≤400000000) (hq:0≤q∧q≤400000000) (xs ys:List (Val (.int .i64))) (c:Int) (s:Bool) (c':Int) (s':Bool) (d:Int) (e:Bool) (K:List (Val (.int .i64))→Option (qb [qg,i4])) (hl:xs.length≤1048576) (hxy:xs.length=ys.length)
 (hx: ∀x∈(xs:List Int), -400000000≤x∧x≤400000000) (hy: ∀x∈(ys:List Int), -400000000≤x∧x≤400000000) (n:Nat) (hn:xs.length<n):
 qio N p q xs c s ys c' s' d e K n 0 []=K (qbO p q xs ys):=by
 have hz:(List.zip (α:=Int) (β:=Int) xs ys).length=xs.length:=by simp [hxy]
 refine (qaj (xs:=List.zip (α:=Int) (β:=Int) xs ys) (F:=fun n i v=>qio N p q xs c s ys c' s' d e K n i v) (step:=fun _ z (v:List (Val (.int .i64))) K=>chk (v.length+[p*z.1+q*z.2].length≤1048576) (K (v++[p*z.1+q*z.2]))) (k:=K) (by omega) (fun n i v hi=> ?_) (fun n i v hi=> ?_) n _ (by omega)).trans ((qxz (f:=fun (z:Int×Int)=>p*z.1+q*z.2) (k:=K) (List.zip (α:=Int) (β:=Int) xs ys) 0 [] (by simp;omega)).trans ?_)
 ·have hi1:i<xs.length:=by omega
  have hi2:i<ys.length:=by omega
  rw [qio,ql (by omega),qe (by omega),qe (by omega),qH hi1,qH hi2,(qzF hp hq (hx _ (List.getElem_mem hi1)) (hy _ (List.getElem_mem hi2))).1]
  simp only [List.getElem_zip]
 ·rw [qio,qi (by omega)]
 ·rw [List.nil_append];rfl
theorem qjq {x a b:Int} (h:a≤x∧x≤b):inR x a b=true:=decide_eq_true h
theorem qkC {x a b:Int} (h: ¬(a≤x∧x≤b)):inR x a b=false:=decide_eq_false h
theorem qj0 {a:Val qa} (h:qA a=true): ∀x∈(a.1:List Int), @LE.le Int _ (-400000000) x∧ @LE.le Int _ x 400000000:=(qaN h).2.2
theorem qTO {p q:Int} (hp:0≤p∧p≤400000000) (hq:0≤q∧q≤400000000) {a b:Val qa} (ha:qA a=true) (hb:qA b=true) (hl:List.length (α:=Int) a.1=List.length (α:=Int) b.1) (s:Bool):
 IntKind.i64.wrap (IntKind.i64.wrap (p*(a.2.1:Int))+IntKind.i64.wrap (q*(b.2.1:Int)))=p*a.2.1+q*b.2.1∧qac (qbO p q a.1 b.1) (p*a.2.1+q*b.2.1) s:=by
 obtain ⟨h1,h2⟩:=qzF hp hq (qmc ha) (qmc hb)
 have h4:=(qaN ha).1
 have hm:=qqT (p:=p) (q:=q) hl
 exact ⟨h1,⟨by have:(qbO p q a.1 b.1).length≤1048576:=by omega
               exact this,h2,qV0 hp hq (qj0 ha) (qj0 hb)⟩⟩
theorem q0J (a:Val qa) (p:Int) (b:Val qa) (q:Int): ∃N,qvM N a p b q=some ((qT a p b q).1,(qT a p b q).2,()):=⟨List.length (α:=Int) a.1+1,by
 rw [qvM]
 unfold qT
 cases ha:qA a with
 | false=>rfl
 | true=>
 cases hb:qA b with
 | false=>rfl
 | true=>
 by_cases hl:List.length (α:=Int) a.1=List.length (α:=Int) b.1
 ·have hlI:((List.length (α:=Val (.int .i64)) a.1:Int)=(List.length (α:=Val (.int .i64)) b.1:Int)):=congrArg Int.ofNat hl
  by_cases hp:0≤p∧p≤400000000
  ·by_cases hq:0≤q∧q≤400000000
   ·rw [qjq hp,qjq hq,decide_eq_true hl,decide_eq_true hlI,qi (show ¬p<0 by omega),qi (show ¬400000000<p by omega),qi (show ¬q<0 by omega),qi (show ¬400000000<q by omega)]
    simp only [Bool.not_true,cond_false,cond_true,Bool.and_self]
    have h4:=(qaN ha).1
    rw [qe (qi1 (by omega)),Int.toNat_natCast,List.length_replicate,qVf _ p q hp hq a.1 b.1 _ _ _ _ _ _ _ (by omega) hl (qj0 ha) (qj0 hb) _ (Nat.lt_succ_self _)]
    have hw:=fun s=>qTO hp hq ha hb hl s
    rw [(hw true).1,qe (hw true).2,qe (hw false).2,qe (hw _).2]
    have ep:(!decide (p=0))=decide (0<p):=by by_cases h:p=0<;>simp [h]<;>omega
    have eq':(!decide (q=0))=decide (0<q):=by by_cases h:q=0<;>simp [h]<;>omega
    rw [ep,eq']
    cases a.2.2<;>cases b.2.2<;>cases decide (0<p)<;>cases decide (0<q)<;>rfl
   ·rw [qkC hq,decide_eq_true hlI,qi (show ¬p<0 by omega),qi (show ¬400000000<p by omega)]
    simp only [Bool.not_true,cond_false,Bool.and_false]
    by_cases hq0:q<0
    ·rw [ql hq0]
    ·rw [qi hq0,ql (show 400000000<q by omega)]
  ·rw [qkC hp,decide_eq_true hlI]
   simp only [Bool.not_true,cond_false,Bool.and_false,Bool.false_and]
   by_cases hp0:p<0
   ·rw [ql hp0]
   ·rw [qi hp0,ql (show 400000000<p by omega)]
 ·have hlI: ¬((List.length (α:=Val (.int .i64)) a.1:Int)=(List.length (α:=Val (.int .i64)) b.1:Int)):=fun h=>hl (Int.ofNat.inj h)
  rw [decide_eq_false hl,decide_eq_false hlI]
  rfl⟩
theorem q0w:Sound Tryz.prog 293 qf3:=qu (tt:=tt) (Γ:=qli) hT (qf qTe (qf qrQ qq)) hm (fn:=Tryz.f293) Tryz.func293 (c:=Tryz.f293.body.getD .skip) (by kernel_rfl) (by kernel_rfl) fun x hx=>by
 obtain ⟨N,h⟩:=q0J x.1 x.2.1 x.2.2.1 x.2.2.2.1
 exact ⟨qd2 N,qWD,qv _,q7M N,(qY6 N x.1 x.2.1 x.2.2.1 x.2.2.2.1).trans h⟩
theorem q1K (a:Val qa) (p:Int) (b:Val qa) (q:Int) (h:qxT a p b q): ∃N,qwX N a p b q=some ((qT a p b q).1,(qT a p b q).2,()):=⟨List.length (α:=Int) a.1+1,by
 rw [qwX]
 unfold qT
 cases ha:qA a with
 | false=>rfl
 | true=>
 cases hb:qA b with
 | false=>rfl
 | true=>
 by_cases hl:List.length (α:=Int) a.1=List.length (α:=Int) b.1
 ·have hlI:((List.length (α:=Val (.int .i64)) a.1:Int)=(List.length (α:=Val (.int .i64)) b.1:Int)):=congrArg Int.ofNat hl
  by_cases hp:0≤p∧p≤400000000
  ·by_cases hq:0≤q∧q≤400000000
   ·rw [qjq hp,qjq hq,decide_eq_true hl,decide_eq_true hlI]
    simp only [Bool.not_true,cond_false,cond_true,Bool.and_self]
    have h4:=(qaN ha).1
    rw [zav _ p q hp hq a.1 b.1 _ _ _ _ _ _ _ (by omega) hl (qj0 ha) (qj0 hb) _ (Nat.lt_succ_self _)]
    have hw:=fun s=>qTO hp hq ha hb hl s
    rw [(hw true).1,qe (hw true).2,qe (hw false).2,qe (hw _).2]
    cases a.2.2<;>cases b.2.2<;>cases decide (0<p)<;>cases decide (0<q)<;>rfl
   ·rw [qkC hq,qjq hp,decide_eq_true hlI]
    simp only [Bool.not_true,Bool.not_false,cond_false,cond_true,Bool.and_false]
  ·rw [qkC hp,decide_eq_true hlI]
   simp only [Bool.not_true,Bool.not_false,cond_false,cond_true,Bool.and_false,Bool.false_and]
 ·have hlI: ¬((List.length (α:=Val (.int .i64)) a.1:Int)=(List.length (α:=Val (.int .i64)) b.1:Int)):=fun h=>hl (Int.ofNat.inj h)
  rw [decide_eq_false hl,decide_eq_false hlI]
  rfl⟩
theorem za6:Sound Tryz.prog 235 qfJ:=qu (tt:=tt) (Γ:=qhN) hT (qf qmH (qf qRh (qf qAN qq))) hm (fn:=Tryz.f235) Tryz.func235 (c:=Tryz.f235.body.getD .skip) (by kernel_rfl) (by kernel_rfl) fun x hx=>by
 obtain ⟨N,h⟩:=q1K x.1 x.2.1 x.2.2.1 x.2.2.2.1 hx
 exact ⟨qdF N,zcc,qv _,zcl N,(zdD N x.1 x.2.1 x.2.2.1 x.2.2.2.1).trans h⟩
end Go.T
