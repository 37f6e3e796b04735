/- Mixed atoms. -/
import Derived.Test.YthefcjjgchekiaaB6n
set_option linter.unusedSimpArgs false
set_option linter.unusedVariables false
namespace Go.T
open Go Go.Proofs
set_option maxHeartbeats 4000000
set_option maxRecDepth 100000
def qcO (p q:Int) (xs ys:List Int):List Int:=(List.zip xs ys).map fun z=>p*z.1+q*z.2
def qU (a:Val Y36) (p:Int) (b:Val Y36) (q:Int):Val Y36×Bool:=
 bif qz a&&qz b&&decide (List.length (α:=Int) a.1=List.length (α:=Int) b.1)&&inR p 0 400000000&&inR q 0 400000000 then qk (qcO p q a.1 b.1) (p*a.2.1+q*b.2.1) ((a.2.2&&decide (0<p))||(b.2.2&&decide (0<q)))else (([],((0:Int),false)),false)
def qpl (a:Val Y36) (_:Int) (b:Val Y36) (_:Int):Prop:=qcu a∧qcu b
def g77:G:={ps:=[i36,i3,i36,i3],rs:=[i36,i4],dp:=true,pre:=fun _=>True,fn:=fun x=>((qU x.1 x.2.1 x.2.2.1 x.2.2.2.1).1,(qU x.1 x.2.1 x.2.2.1 x.2.2.2.1).2,())}
def g68:G:={ps:=[i36,i3,i36,i3],rs:=[i36,i4],dp:=true,pre:=fun x=>qpl x.1 x.2.1 x.2.2.1 x.2.2.2.1,fn:=fun x=>((qU x.1 x.2.1 x.2.2.1 x.2.2.2.1).1,(qU x.1 x.2.1 x.2.2.1 x.2.2.2.1).2,())}
noncomputable def qeB (N:Nat) (v4:Int) (v5:Int) (v6:Int) (v8:List (Val (.int .i64))) (v9:Int) (v10:Bool) (v11:List (Val (.int .i64))) (v12:Int) (v13:Bool) (v14:Int) (v15:Bool) (k0:(List (Val (.int .i64)))→Option (qb [i36,i4])):Nat→Int→(List (Val (.int .i64)))→Option (qb [i36,i4])
 | 0,_,_=>none
 | n+1,v7,v16=>bif (decide (v7<v6))then (chk (0≤v7∧v7<(v8.length:Int)) (chk (0≤v7∧v7<(v11.length:Int)) (chk (0≤v7∧v7<(v16.length:Int)) (chk (v7.toNat<v16.length) (qeB N v4 v5 v6 v8 v9 v10 v11 v12 v13 v14 v15 k0 n (IntKind.i64.wrap (v7+(1:Int))) (v16.set v7.toNat (IntKind.i64.wrap ((IntKind.i64.wrap (v4*((v8.getD v7.toNat (qa (.int .i64))):Int)))+(IntKind.i64.wrap (v5*((v11.getD v7.toNat (qa (.int .i64))):Int)))))))))))else (k0 v16)
noncomputable def m77 (N:Nat) (v0:Val Y36) (v1:Int) (v2:Val Y36) (v3:Int):Option (qb [i36,i4]):=bif (!((qz v0):Bool))then (some ((([]:List (Val (.int .i64))),(0:Int),false),false,()))else (bif (!((qz v2):Bool))then (some ((([]:List (Val (.int .i64))),(0:Int),false),false,()))else (bif (!(decide (((v0.1:List (Val (.int .i64))).length:Int)=((v2.1:List (Val (.int .i64))).length:Int))))then (some ((([]:List (Val (.int .i64))),(0:Int),false),false,()))else (bif (decide (v1<(0:Int)))then (some ((([]:List (Val (.int .i64))),(0:Int),false),false,()))else (bif (decide ((400000000:Int)<v1))then (some ((([]:List (Val (.int .i64))),(0:Int),false),false,()))else (bif (decide (v3<(0:Int)))then (some ((([]:List (Val (.int .i64))),(0:Int),false),false,()))else (bif (decide ((400000000:Int)<v3))then (some ((([]:List (Val (.int .i64))),(0:Int),false),false,()))else (chk (0≤((v0.1:List (Val (.int .i64))).length:Int)∧((v0.1:List (Val (.int .i64))).length:Int)≤((v0.1:List (Val (.int .i64))).length:Int)∧((v0.1:List (Val (.int .i64))).length:Int)≤1048576) (qeB N v1 v3 ((List.replicate ((v0.1:List (Val (.int .i64))).length:Int).toNat (qa (.int .i64))).length:Int) (v0.1:List (Val (.int .i64))) (v0.2.1:Int) (v0.2.2:Bool) (v2.1:List (Val (.int .i64))) (v2.2.1:Int) (v2.2.2:Bool) (0:Int) false (fun (v18:List (Val (.int .i64)))=>bif (v0.2.2:Bool)then (bif (!(decide (v1=(0:Int))))then (chk (qax v18 (IntKind.i64.wrap ((IntKind.i64.wrap (v1*(v0.2.1:Int)))+(IntKind.i64.wrap (v3*(v2.2.1:Int))))) true) (some (((((qk v18 (IntKind.i64.wrap ((IntKind.i64.wrap (v1*(v0.2.1:Int)))+(IntKind.i64.wrap (v3*(v2.2.1:Int))))) true).1).1:List (Val (.int .i64))),((((qk v18 (IntKind.i64.wrap ((IntKind.i64.wrap (v1*(v0.2.1:Int)))+(IntKind.i64.wrap (v3*(v2.2.1:Int))))) true).1).2).1:Int),((((qk v18 (IntKind.i64.wrap ((IntKind.i64.wrap (v1*(v0.2.1:Int)))+(IntKind.i64.wrap (v3*(v2.2.1:Int))))) true).1).2).2:Bool)),((qk v18 (IntKind.i64.wrap ((IntKind.i64.wrap (v1*(v0.2.1:Int)))+(IntKind.i64.wrap (v3*(v2.2.1:Int))))) true).2:Bool),())))else (bif (v2.2.2:Bool)then (chk (qax v18 (IntKind.i64.wrap ((IntKind.i64.wrap (v1*(v0.2.1:Int)))+(IntKind.i64.wrap (v3*(v2.2.1:Int))))) (!(decide (v3=(0:Int))))) (some (((((qk v18 (IntKind.i64.wrap ((IntKind.i64.wrap (v1*(v0.2.1:Int)))+(IntKind.i64.wrap (v3*(v2.2.1:Int))))) (!(decide (v3=(0:Int))))).1).1:List (Val (.int .i64))),((((qk v18 (IntKind.i64.wrap ((IntKind.i64.wrap (v1*(v0.2.1:Int)))+(IntKind.i64.wrap (v3*(v2.2.1:Int))))) (!(decide (v3=(0:Int))))).1).2).1:Int),((((qk v18 (IntKind.i64.wrap ((IntKind.i64.wrap (v1*(v0.2.1:Int)))+(IntKind.i64.wrap (v3*(v2.2.1:Int))))) (!(decide (v3=(0:Int))))).1).2).2:Bool)),((qk v18 (IntKind.i64.wrap ((IntKind.i64.wrap (v1*(v0.2.1:Int)))+(IntKind.i64.wrap (v3*(v2.2.1:Int))))) (!(decide (v3=(0:Int))))).2:Bool),())))else (chk (qax v18 (IntKind.i64.wrap ((IntKind.i64.wrap (v1*(v0.2.1:Int)))+(IntKind.i64.wrap (v3*(v2.2.1:Int))))) false) (some (((((qk v18 (IntKind.i64.wrap ((IntKind.i64.wrap (v1*(v0.2.1:Int)))+(IntKind.i64.wrap (v3*(v2.2.1:Int))))) false).1).1:List (Val (.int .i64))),((((qk v18 (IntKind.i64.wrap ((IntKind.i64.wrap (v1*(v0.2.1:Int)))+(IntKind.i64.wrap (v3*(v2.2.1:Int))))) false).1).2).1:Int),((((qk v18 (IntKind.i64.wrap ((IntKind.i64.wrap (v1*(v0.2.1:Int)))+(IntKind.i64.wrap (v3*(v2.2.1:Int))))) false).1).2).2:Bool)),((qk v18 (IntKind.i64.wrap ((IntKind.i64.wrap (v1*(v0.2.1:Int)))+(IntKind.i64.wrap (v3*(v2.2.1:Int))))) false).2:Bool),())))))else (bif (v2.2.2:Bool)then (chk (qax v18 (IntKind.i64.wrap ((IntKind.i64.wrap (v1*(v0.2.1:Int)))+(IntKind.i64.wrap (v3*(v2.2.1:Int))))) (!(decide (v3=(0:Int))))) (some (((((qk v18 (IntKind.i64.wrap ((IntKind.i64.wrap (v1*(v0.2.1:Int)))+(IntKind.i64.wrap (v3*(v2.2.1:Int))))) (!(decide (v3=(0:Int))))).1).1:List (Val (.int .i64))),((((qk v18 (IntKind.i64.wrap ((IntKind.i64.wrap (v1*(v0.2.1:Int)))+(IntKind.i64.wrap (v3*(v2.2.1:Int))))) (!(decide (v3=(0:Int))))).1).2).1:Int),((((qk v18 (IntKind.i64.wrap ((IntKind.i64.wrap (v1*(v0.2.1:Int)))+(IntKind.i64.wrap (v3*(v2.2.1:Int))))) (!(decide (v3=(0:Int))))).1).2).2:Bool)),((qk v18 (IntKind.i64.wrap ((IntKind.i64.wrap (v1*(v0.2.1:Int)))+(IntKind.i64.wrap (v3*(v2.2.1:Int))))) (!(decide (v3=(0:Int))))).2:Bool),())))else (chk (qax v18 (IntKind.i64.wrap ((IntKind.i64.wrap (v1*(v0.2.1:Int)))+(IntKind.i64.wrap (v3*(v2.2.1:Int))))) false) (some (((((qk v18 (IntKind.i64.wrap ((IntKind.i64.wrap (v1*(v0.2.1:Int)))+(IntKind.i64.wrap (v3*(v2.2.1:Int))))) false).1).1:List (Val (.int .i64))),((((qk v18 (IntKind.i64.wrap ((IntKind.i64.wrap (v1*(v0.2.1:Int)))+(IntKind.i64.wrap (v3*(v2.2.1:Int))))) false).1).2).1:Int),((((qk v18 (IntKind.i64.wrap ((IntKind.i64.wrap (v1*(v0.2.1:Int)))+(IntKind.i64.wrap (v3*(v2.2.1:Int))))) false).1).2).2:Bool)),((qk v18 (IntKind.i64.wrap ((IntKind.i64.wrap (v1*(v0.2.1:Int)))+(IntKind.i64.wrap (v3*(v2.2.1:Int))))) false).2:Bool),()))))) N (0:Int) (List.replicate ((v0.1:List (Val (.int .i64))).length:Int).toNat (qa (.int .i64)))))))))))
def Γ77:Gam:=[(45,g45),(91,g91)]
theorem qzD:Gam.get Γ77 45=some g45:=rfl
theorem qqS:Gam.get Γ77 91=some g91:=rfl
def qmJ:Nm:=⟨[false,true,false,true,true,false,true,false,true,false,true,false,false,false,false,false,false,false,false,false,false,false,false,false,false,false,false,false,false,false,false,false,false,false,false,false,false,false,false,false,false,false,false,false,false,false,false,false,false,false,true,true],[],false⟩
theorem qzb:qmJ.zero=false:=rfl
theorem qvB:qmJ.fix=[]:=rfl
theorem qsp:qmJ.keep=[false,true,false,true,true,false,true,false,true,false,true,false,false,false,false,false,false,false,false,false,false,false,false,false,false,false,false,false,false,false,false,false,false,false,false,false,false,false,false,false,false,false,false,false,false,false,false,false,false,false,true,true]:=rfl
def qqg:Nm:=⟨[false,true,false,true,true,false,true,false,true,false,true],[],false⟩
theorem qrp:qqg.zero=false:=rfl
theorem qqT:qqg.fix=[]:=rfl
theorem qBl:qqg.keep=[false,true,false,true,true,false,true,false,true,false,true]:=rfl
def qg3:Nat→Tree:=fun i=>if i=9 then .quiet 0 (.quiet 1 (.quiet 2 (.quiet 3 (.quiet 4 (.quiet 5 (.quiet 6 (.quiet 7 (.quiet 8 (.quiet 9 (.quiet 10 (.quiet 11 (.quiet 12 (.quiet 13 (.quiet 14 (.quiet 15 (.quiet 16 (.quiet 17 (.alt 18 .done .stop))))))))))))))))))else .done
def qiI:Nat→Nm:=fun i=>if i=7 then qmJ else ⟨[],[],false⟩
def qjV:Nat→Option Jn:=fun _=>none
def qjv:Nat→Option Nm:=fun i=>if i=0 then some qqg else none
def qly:Nat→Option Nm:=fun _=>none
theorem p77:ql qg3 (Try.f77.body.getD .skip)=true:=by kernel_rfl
def T77 (N:Nat):Tab:={tr:=qg3,lp:=qiI,ex:=qjv,rg:=qly,jn:=qjV,fuel:=N}
theorem qrd (N:Nat):(T77 N).pins=false:=rfl
theorem qNh (N:Nat):qm Try.prog (T77 N):=qu fun _=>rfl
theorem qu6 (N:Nat) (i:Nat):(T77 N).tr i=qg3 i:=rfl
theorem qq1 (N:Nat) (i:Nat):(T77 N).lp i=qiI i:=rfl
theorem qzi (N:Nat) (i:Nat):(T77 N).ex i=qjv i:=rfl
theorem qte (N:Nat) (i:Nat):(T77 N).rg i=qly i:=rfl
theorem qs9 (N:Nat) (i:Nat):(T77 N).jn i=qjV i:=rfl
theorem qxz (N:Nat):(T77 N).fuel=N:=rfl
noncomputable def qEh:Code:=cut [true,true,true,true,false,true,true,true] (Try.f77.body.getD .skip)
theorem qRm {N:Nat} {Q:X→St→Option (qb [i36,i4])} {e:List LV} {h:List Blk}:qd tt Γ77 (T77 N) qEh Q ⟨e,h⟩=qd tt Γ77 (T77 N) (cut [true,true,true,true,false,true,true,true] (Try.f77.body.getD .skip)) Q ⟨e,h⟩:=rfl
theorem qGe (N:Nat) (v4:Int) (v5:Int) (v6:Int) (v8:List (Val (.int .i64))) (v9:Int) (v10:Bool) (v11:List (Val (.int .i64))) (v12:Int) (v13:Bool) (v14:Int) (v15:Bool) {k0:(List (Val (.int .i64)))→Option (qb [i36,i4])} {Q:X→St→Option (qb [i36,i4])} {c:Code} (hc:c=qEh) (hret: ∀st,Q .ret st=qI tt true [i36,i4] [.cell 8 36,.tmp 9] st) (h0: ∀(v17:List (Val (.int .i64))),Q (.exit 0) ⟨[u,.one (.int .i64 v4),u,.one (.int .i64 v5),.one (.ptr 0 0 0),u,.one (.ptr 1 0 0),u,.one (.ptr 2 0 0),u,.one (.own 3),u,u,u,u,u,u,u,u,u,u,u,u,u,u,u,u,u,u,u,u,u,u,u,u,u,u,u,u,u,u,u,u,u,u,u,u,u,u,u,u,u,u,u,u,u,u,u,u,u,u,u,u,u,u,u,u,u,u,u,u,u,u,u,u,u,u,u,u,u,u,u,u,u,u,u,u,u,u,u,u,u,u,u,u,u,u,u,u,u],[.box [.sl 3 (.int .i64) v8 4,.int .i64 v9,.bool v10],.box [.sl 3 (.int .i64) v11 4,.int .i64 v12,.bool v13],.box [.nils,.int .i64 v14,.bool v15],.row 3 (.int .i64) v17 true true 0]⟩=k0 v17): ∀(n:Nat) (v7:Int) (v16:List (Val (.int .i64))),qD (qd tt Γ77 (T77 N) c) false qmJ Q n ⟨[u,.one (.int .i64 v4),u,.one (.int .i64 v5),.one (.ptr 0 0 0),u,.one (.ptr 1 0 0),u,.one (.ptr 2 0 0),u,.one (.own 3),u,u,u,u,u,u,u,u,u,u,u,u,u,u,u,u,u,u,u,u,u,u,u,u,u,u,u,u,u,u,u,u,u,u,u,u,u,u,u,.one (.int .i64 v6),.one (.int .i64 v7),u,u,u,u,u,u,u,u,u,u,u,u,u,u,u,u,u,u,u,u,u,u,u,u,u,u,u,u,u,u,u,u,u,u,u,u,u,u,u,u,u,u,u,u,u,u,u,u],[.box [.sl 3 (.int .i64) v8 4,.int .i64 v9,.bool v10],.box [.sl 3 (.int .i64) v11 4,.int .i64 v12,.bool v13],.box [.nils,.int .i64 v14,.bool v15],.row 3 (.int .i64) v16 true true 0]⟩=qeB N v4 v5 v6 v8 v9 v10 v11 v12 v13 v14 v15 k0 n v7 v16:=by
 subst hc;intro n;induction n with
 | zero=>intros;rfl
 | succ n ih=>
   intro v7 v16
   rw [qR,qRm,qeB];unfold Try.f77
   simp (maxSteps:=10000000) -implicitDefEqProofs [qu6,qg3,qq1,qiI,qzi,qjv,qte,qly,qs9,qjV,qxz,qrd,qvB,qsp,qzb,qqT,qBl,qrp,qzD,qqS,g45,g91,hret,h0,ih]
theorem qOR (N:Nat) (v0:Val Y36) (v1:Int) (v2:Val Y36) (v3:Int):qd tt Γ77 (T77 N) (Try.f77.body.getD .skip) (qp tt true [i36,i4] [.cell 8 36,.tmp 9]) (qt [i36,i3,i36,i3] 100 (v0,v1,v2,v3,()))=m77 N v0 v1 v2 v3:=by
 unfold Try.f77
 simp (maxSteps:=10000000) -implicitDefEqProofs [qu6,qg3,qq1,qiI,qzi,qjv,qte,qly,qs9,qjV,qxz,qrd,qvB,qsp,qzb,qqT,qBl,qrp,qzD,qqS,g45,g91]
 rewrite [qGe (k0:=(fun (v18:List (Val (.int .i64)))=>bif (v0.2.2:Bool)then (bif (!(decide (v1=(0:Int))))then (chk (qax v18 (IntKind.i64.wrap ((IntKind.i64.wrap (v1*(v0.2.1:Int)))+(IntKind.i64.wrap (v3*(v2.2.1:Int))))) true) (some (((((qk v18 (IntKind.i64.wrap ((IntKind.i64.wrap (v1*(v0.2.1:Int)))+(IntKind.i64.wrap (v3*(v2.2.1:Int))))) true).1).1:List (Val (.int .i64))),((((qk v18 (IntKind.i64.wrap ((IntKind.i64.wrap (v1*(v0.2.1:Int)))+(IntKind.i64.wrap (v3*(v2.2.1:Int))))) true).1).2).1:Int),((((qk v18 (IntKind.i64.wrap ((IntKind.i64.wrap (v1*(v0.2.1:Int)))+(IntKind.i64.wrap (v3*(v2.2.1:Int))))) true).1).2).2:Bool)),((qk v18 (IntKind.i64.wrap ((IntKind.i64.wrap (v1*(v0.2.1:Int)))+(IntKind.i64.wrap (v3*(v2.2.1:Int))))) true).2:Bool),())))else (bif (v2.2.2:Bool)then (chk (qax v18 (IntKind.i64.wrap ((IntKind.i64.wrap (v1*(v0.2.1:Int)))+(IntKind.i64.wrap (v3*(v2.2.1:Int))))) (!(decide (v3=(0:Int))))) (some (((((qk v18 (IntKind.i64.wrap ((IntKind.i64.wrap (v1*(v0.2.1:Int)))+(IntKind.i64.wrap (v3*(v2.2.1:Int))))) (!(decide (v3=(0:Int))))).1).1:List (Val (.int .i64))),((((qk v18 (IntKind.i64.wrap ((IntKind.i64.wrap (v1*(v0.2.1:Int)))+(IntKind.i64.wrap (v3*(v2.2.1:Int))))) (!(decide (v3=(0:Int))))).1).2).1:Int),((((qk v18 (IntKind.i64.wrap ((IntKind.i64.wrap (v1*(v0.2.1:Int)))+(IntKind.i64.wrap (v3*(v2.2.1:Int))))) (!(decide (v3=(0:Int))))).1).2).2:Bool)),((qk v18 (IntKind.i64.wrap ((IntKind.i64.wrap (v1*(v0.2.1:Int)))+(IntKind.i64.wrap (v3*(v2.2.1:Int))))) (!(decide (v3=(0:Int))))).2:Bool),())))else (chk (qax v18 (IntKind.i64.wrap ((IntKind.i64.wrap (v1*(v0.2.1:Int)))+(IntKind.i64.wrap (v3*(v2.2.1:Int))))) false) (some (((((qk v18 (IntKind.i64.wrap ((IntKind.i64.wrap (v1*(v0.2.1:Int)))+(IntKind.i64.wrap (v3*(v2.2.1:Int))))) false).1).1:List (Val (.int .i64))),((((qk v18 (IntKind.i64.wrap ((IntKind.i64.wrap (v1*(v0.2.1:Int)))+(IntKind.i64.wrap (v3*(v2.2.1:Int))))) false).1).2).1:Int),((((qk v18 (IntKind.i64.wrap ((IntKind.i64.wrap (v1*(v0.2.1:Int)))+(IntKind.i64.wrap (v3*(v2.2.1:Int))))) false).1).2).2:Bool)),((qk v18 (IntKind.i64.wrap ((IntKind.i64.wrap (v1*(v0.2.1:Int)))+(IntKind.i64.wrap (v3*(v2.2.1:Int))))) false).2:Bool),())))))else (bif (v2.2.2:Bool)then (chk (qax v18 (IntKind.i64.wrap ((IntKind.i64.wrap (v1*(v0.2.1:Int)))+(IntKind.i64.wrap (v3*(v2.2.1:Int))))) (!(decide (v3=(0:Int))))) (some (((((qk v18 (IntKind.i64.wrap ((IntKind.i64.wrap (v1*(v0.2.1:Int)))+(IntKind.i64.wrap (v3*(v2.2.1:Int))))) (!(decide (v3=(0:Int))))).1).1:List (Val (.int .i64))),((((qk v18 (IntKind.i64.wrap ((IntKind.i64.wrap (v1*(v0.2.1:Int)))+(IntKind.i64.wrap (v3*(v2.2.1:Int))))) (!(decide (v3=(0:Int))))).1).2).1:Int),((((qk v18 (IntKind.i64.wrap ((IntKind.i64.wrap (v1*(v0.2.1:Int)))+(IntKind.i64.wrap (v3*(v2.2.1:Int))))) (!(decide (v3=(0:Int))))).1).2).2:Bool)),((qk v18 (IntKind.i64.wrap ((IntKind.i64.wrap (v1*(v0.2.1:Int)))+(IntKind.i64.wrap (v3*(v2.2.1:Int))))) (!(decide (v3=(0:Int))))).2:Bool),())))else (chk (qax v18 (IntKind.i64.wrap ((IntKind.i64.wrap (v1*(v0.2.1:Int)))+(IntKind.i64.wrap (v3*(v2.2.1:Int))))) false) (some (((((qk v18 (IntKind.i64.wrap ((IntKind.i64.wrap (v1*(v0.2.1:Int)))+(IntKind.i64.wrap (v3*(v2.2.1:Int))))) false).1).1:List (Val (.int .i64))),((((qk v18 (IntKind.i64.wrap ((IntKind.i64.wrap (v1*(v0.2.1:Int)))+(IntKind.i64.wrap (v3*(v2.2.1:Int))))) false).1).2).1:Int),((((qk v18 (IntKind.i64.wrap ((IntKind.i64.wrap (v1*(v0.2.1:Int)))+(IntKind.i64.wrap (v3*(v2.2.1:Int))))) false).1).2).2:Bool)),((qk v18 (IntKind.i64.wrap ((IntKind.i64.wrap (v1*(v0.2.1:Int)))+(IntKind.i64.wrap (v3*(v2.2.1:Int))))) false).2:Bool),())))))) N _ _ _ _ _ _ _ _ _ _ _ ?_ ?_ ?_]
 ·rewrite [m77];first | rfl | simp (maxSteps:=10000000) -implicitDefEqProofs []
 ·rfl
 ·intro;simp only [qK,qM,qO,qv]
 ·intro v18;simp (maxSteps:=10000000) -implicitDefEqProofs [qu6,qg3,qq1,qiI,qzi,qjv,qte,qly,qs9,qjV,qxz,qrd,qvB,qsp,qzb,qqT,qBl,qrp,qzD,qqS,g45,g91]
noncomputable def qeM (N:Nat) (v4:Int) (v5:Int) (v7:List (Val (.int .i64))) (v8:Int) (v9:Bool) (v10:List (Val (.int .i64))) (v11:Int) (v12:Bool) (v13:Int) (v14:Bool) (k0:(List (Val (.int .i64)))→Option (qb [i36,i4])):Nat→Int→(List (Val (.int .i64)))→Option (qb [i36,i4])
 | 0,_,_=>none
 | n+1,v6,v15=>bif (decide (v6<(v7.length:Int)))then (chk (0≤v6∧v6<(v7.length:Int)) (chk (0≤v6∧v6<(v10.length:Int)) (chk (v15.length+([(IntKind.i64.wrap ((IntKind.i64.wrap (v4*((v7.getD v6.toNat (qa (.int .i64))):Int)))+(IntKind.i64.wrap (v5*((v10.getD v6.toNat (qa (.int .i64))):Int)))))]:List (Val (.int .i64))).length≤1048576) (qeM N v4 v5 v7 v8 v9 v10 v11 v12 v13 v14 k0 n (IntKind.i64.wrap (v6+(1:Int))) (v15++([(IntKind.i64.wrap ((IntKind.i64.wrap (v4*((v7.getD v6.toNat (qa (.int .i64))):Int)))+(IntKind.i64.wrap (v5*((v10.getD v6.toNat (qa (.int .i64))):Int)))))]:List (Val (.int .i64))))))))else (k0 v15)
noncomputable def m68 (N:Nat) (v0:Val Y36) (v1:Int) (v2:Val Y36) (v3:Int):Option (qb [i36,i4]):=bif (!((qz v0):Bool))then (some ((([]:List (Val (.int .i64))),(0:Int),false),false,()))else (bif (!((qz v2):Bool))then (some ((([]:List (Val (.int .i64))),(0:Int),false),false,()))else (bif (!(decide (((v0.1:List (Val (.int .i64))).length:Int)=((v2.1:List (Val (.int .i64))).length:Int))))then (some ((([]:List (Val (.int .i64))),(0:Int),false),false,()))else (bif (!((inR v1 (0:Int) (400000000:Int)):Bool))then (some ((([]:List (Val (.int .i64))),(0:Int),false),false,()))else (bif (!((inR v3 (0:Int) (400000000:Int)):Bool))then (some ((([]:List (Val (.int .i64))),(0:Int),false),false,()))else (qeM N v1 v3 (v0.1:List (Val (.int .i64))) (v0.2.1:Int) (v0.2.2:Bool) (v2.1:List (Val (.int .i64))) (v2.2.1:Int) (v2.2.2:Bool) (0:Int) false (fun (v17:List (Val (.int .i64)))=>bif (v0.2.2:Bool)then (bif (decide ((0:Int)<v1))then (chk (qax v17 (IntKind.i64.wrap ((IntKind.i64.wrap (v1*(v0.2.1:Int)))+(IntKind.i64.wrap (v3*(v2.2.1:Int))))) true) (some (((((qk v17 (IntKind.i64.wrap ((IntKind.i64.wrap (v1*(v0.2.1:Int)))+(IntKind.i64.wrap (v3*(v2.2.1:Int))))) true).1).1:List (Val (.int .i64))),((((qk v17 (IntKind.i64.wrap ((IntKind.i64.wrap (v1*(v0.2.1:Int)))+(IntKind.i64.wrap (v3*(v2.2.1:Int))))) true).1).2).1:Int),((((qk v17 (IntKind.i64.wrap ((IntKind.i64.wrap (v1*(v0.2.1:Int)))+(IntKind.i64.wrap (v3*(v2.2.1:Int))))) true).1).2).2:Bool)),((qk v17 (IntKind.i64.wrap ((IntKind.i64.wrap (v1*(v0.2.1:Int)))+(IntKind.i64.wrap (v3*(v2.2.1:Int))))) true).2:Bool),())))else (bif (v2.2.2:Bool)then (chk (qax v17 (IntKind.i64.wrap ((IntKind.i64.wrap (v1*(v0.2.1:Int)))+(IntKind.i64.wrap (v3*(v2.2.1:Int))))) (decide ((0:Int)<v3))) (some (((((qk v17 (IntKind.i64.wrap ((IntKind.i64.wrap (v1*(v0.2.1:Int)))+(IntKind.i64.wrap (v3*(v2.2.1:Int))))) (decide ((0:Int)<v3))).1).1:List (Val (.int .i64))),((((qk v17 (IntKind.i64.wrap ((IntKind.i64.wrap (v1*(v0.2.1:Int)))+(IntKind.i64.wrap (v3*(v2.2.1:Int))))) (decide ((0:Int)<v3))).1).2).1:Int),((((qk v17 (IntKind.i64.wrap ((IntKind.i64.wrap (v1*(v0.2.1:Int)))+(IntKind.i64.wrap (v3*(v2.2.1:Int))))) (decide ((0:Int)<v3))).1).2).2:Bool)),((qk v17 (IntKind.i64.wrap ((IntKind.i64.wrap (v1*(v0.2.1:Int)))+(IntKind.i64.wrap (v3*(v2.2.1:Int))))) (decide ((0:Int)<v3))).2:Bool),())))else (chk (qax v17 (IntKind.i64.wrap ((IntKind.i64.wrap (v1*(v0.2.1:Int)))+(IntKind.i64.wrap (v3*(v2.2.1:Int))))) false) (some (((((qk v17 (IntKind.i64.wrap ((IntKind.i64.wrap (v1*(v0.2.1:Int)))+(IntKind.i64.wrap (v3*(v2.2.1:Int))))) false).1).1:List (Val (.int .i64))),((((qk v17 (IntKind.i64.wrap ((IntKind.i64.wrap (v1*(v0.2.1:Int)))+(IntKind.i64.wrap (v3*(v2.2.1:Int))))) false).1).2).1:Int),((((qk v17 (IntKind.i64.wrap ((IntKind.i64.wrap (v1*(v0.2.1:Int)))+(IntKind.i64.wrap (v3*(v2.2.1:Int))))) false).1).2).2:Bool)),((qk v17 (IntKind.i64.wrap ((IntKind.i64.wrap (v1*(v0.2.1:Int)))+(IntKind.i64.wrap (v3*(v2.2.1:Int))))) false).2:Bool),())))))else (bif (v2.2.2:Bool)then (chk (qax v17 (IntKind.i64.wrap ((IntKind.i64.wrap (v1*(v0.2.1:Int)))+(IntKind.i64.wrap (v3*(v2.2.1:Int))))) (decide ((0:Int)<v3))) (some (((((qk v17 (IntKind.i64.wrap ((IntKind.i64.wrap (v1*(v0.2.1:Int)))+(IntKind.i64.wrap (v3*(v2.2.1:Int))))) (decide ((0:Int)<v3))).1).1:List (Val (.int .i64))),((((qk v17 (IntKind.i64.wrap ((IntKind.i64.wrap (v1*(v0.2.1:Int)))+(IntKind.i64.wrap (v3*(v2.2.1:Int))))) (decide ((0:Int)<v3))).1).2).1:Int),((((qk v17 (IntKind.i64.wrap ((IntKind.i64.wrap (v1*(v0.2.1:Int)))+(IntKind.i64.wrap (v3*(v2.2.1:Int))))) (decide ((0:Int)<v3))).1).2).2:Bool)),((qk v17 (IntKind.i64.wrap ((IntKind.i64.wrap (v1*(v0.2.1:Int)))+(IntKind.i64.wrap (v3*(v2.2.1:Int))))) (decide ((0:Int)<v3))).2:Bool),())))else (chk (qax v17 (IntKind.i64.wrap ((IntKind.i64.wrap (v1*(v0.2.1:Int)))+(IntKind.i64.wrap (v3*(v2.2.1:Int))))) false) (some (((((qk v17 (IntKind.i64.wrap ((IntKind.i64.wrap (v1*(v0.2.1:Int)))+(IntKind.i64.wrap (v3*(v2.2.1:Int))))) false).1).1:List (Val (.int .i64))),((((qk v17 (IntKind.i64.wrap ((IntKind.i64.wrap (v1*(v0.2.1:Int)))+(IntKind.i64.wrap (v3*(v2.2.1:Int))))) false).1).2).1:Int),((((qk v17 (IntKind.i64.wrap ((IntKind.i64.wrap (v1*(v0.2.1:Int)))+(IntKind.i64.wrap (v3*(v2.2.1:Int))))) false).1).2).2:Bool)),((qk v17 (IntKind.i64.wrap ((IntKind.i64.wrap (v1*(v0.2.1:Int)))+(IntKind.i64.wrap (v3*(v2.2.1:Int))))) false).2:Bool),()))))) N (0:Int) ([]:List (Val (.int .i64))))))))
def Γ68:Gam:=[(43,g43),(49,g49),(84,g84)]
theorem qxl:Gam.get Γ68 43=some g43:=rfl
theorem qt4:Gam.get Γ68 49=some g49:=rfl
theorem qyc:Gam.get Γ68 84=some g84:=rfl
def qkG:Nm:=⟨[false,true,false,true,true,false,true,false,true,false,true,true],[],false⟩
theorem qrc:qkG.zero=false:=rfl
theorem qsS:qkG.fix=[]:=rfl
theorem qxC:qkG.keep=[false,true,false,true,true,false,true,false,true,false,true,true]:=rfl
def qqz:Nm:=⟨[false,true,false,true,true,false,true,false,true,false,true],[],false⟩
theorem qAA:qqz.zero=false:=rfl
theorem qB0:qqz.fix=[]:=rfl
theorem qxD:qqz.keep=[false,true,false,true,true,false,true,false,true,false,true]:=rfl
def qin:Nat→Tree:=fun i=>if i=7 then .quiet 1 (.quiet 2 (.quiet 3 (.quiet 4 (.quiet 5 (.quiet 6 (.quiet 7 (.quiet 8 (.quiet 9 (.quiet 10 (.quiet 11 (.quiet 12 (.quiet 13 (.quiet 14 (.quiet 15 (.first 0 (.alt 16 (.alt 17 (.quiet 18 .done) .stop) .stop))))))))))))))))else .done
def qiO:Nat→Nm:=fun i=>if i=5 then qkG else ⟨[],[],false⟩
def qkT:Nat→Option Jn:=fun _=>none
def qiD:Nat→Option Nm:=fun i=>if i=0 then some qqz else none
def qkk:Nat→Option Nm:=fun _=>none
theorem p68:ql qin (Try.f68.body.getD .skip)=true:=by kernel_rfl
def T68 (N:Nat):Tab:={tr:=qin,lp:=qiO,ex:=qiD,rg:=qkk,jn:=qkT,fuel:=N}
theorem qwS (N:Nat):(T68 N).pins=false:=rfl
theorem qI7 (N:Nat):qm Try.prog (T68 N):=qu fun _=>rfl
theorem qAb (N:Nat) (i:Nat):(T68 N).tr i=qin i:=rfl
theorem qAc (N:Nat) (i:Nat):(T68 N).lp i=qiO i:=rfl
theorem qr0 (N:Nat) (i:Nat):(T68 N).ex i=qiD i:=rfl
theorem qxF (N:Nat) (i:Nat):(T68 N).rg i=qkk i:=rfl
theorem qxH (N:Nat) (i:Nat):(T68 N).jn i=qkT i:=rfl
theorem qBw (N:Nat):(T68 N).fuel=N:=rfl
noncomputable def qCP:Code:=cut [true,true,true,false,true,true,true] (Try.f68.body.getD .skip)
theorem qM2 {N:Nat} {Q:X→St→Option (qb [i36,i4])} {e:List LV} {h:List Blk}:qd tt Γ68 (T68 N) qCP Q ⟨e,h⟩=qd tt Γ68 (T68 N) (cut [true,true,true,false,true,true,true] (Try.f68.body.getD .skip)) Q ⟨e,h⟩:=rfl
theorem qId (N:Nat) (v4:Int) (v5:Int) (v7:List (Val (.int .i64))) (v8:Int) (v9:Bool) (v10:List (Val (.int .i64))) (v11:Int) (v12:Bool) (v13:Int) (v14:Bool) {k0:(List (Val (.int .i64)))→Option (qb [i36,i4])} {Q:X→St→Option (qb [i36,i4])} {c:Code} (hc:c=qCP) (hret: ∀st,Q .ret st=qI tt true [i36,i4] [.cell 8 36,.tmp 9] st) (h0: ∀(v16:List (Val (.int .i64))),Q (.exit 0) ⟨[u,.one (.int .i64 v4),u,.one (.int .i64 v5),.one (.ptr 0 0 0),u,.one (.ptr 1 0 0),u,.one (.ptr 2 0 0),u,.one (.own 3),u,u,u,u,u,u,u,u,u,u,u,u,u,u,u,u,u,u,u,u,u,u,u,u,u,u,u,u,u,u,u,u,u,u,u,u,u,u,u,u,u,u,u,u,u,u,u,u,u,u,u,u,u,u,u,u,u,u,u,u,u,u,u,u,u,u,u,u,u,u,u,u,u,u,u,u,u,u,u,u,u,u,u,u,u,u,u],[.box [.sl 3 (.int .i64) v7 4,.int .i64 v8,.bool v9],.box [.sl 3 (.int .i64) v10 4,.int .i64 v11,.bool v12],.box [.nils,.int .i64 v13,.bool v14],.row 3 (.int .i64) v16 true true 0]⟩=k0 v16): ∀(n:Nat) (v6:Int) (v15:List (Val (.int .i64))),qD (qd tt Γ68 (T68 N) c) false qkG Q n ⟨[u,.one (.int .i64 v4),u,.one (.int .i64 v5),.one (.ptr 0 0 0),u,.one (.ptr 1 0 0),u,.one (.ptr 2 0 0),u,.one (.own 3),.one (.int .i64 v6),u,u,u,u,u,u,u,u,u,u,u,u,u,u,u,u,u,u,u,u,u,u,u,u,u,u,u,u,u,u,u,u,u,u,u,u,u,u,u,u,u,u,u,u,u,u,u,u,u,u,u,u,u,u,u,u,u,u,u,u,u,u,u,u,u,u,u,u,u,u,u,u,u,u,u,u,u,u,u,u,u,u,u,u,u,u],[.box [.sl 3 (.int .i64) v7 4,.int .i64 v8,.bool v9],.box [.sl 3 (.int .i64) v10 4,.int .i64 v11,.bool v12],.box [.nils,.int .i64 v13,.bool v14],.row 3 (.int .i64) v15 true true 0]⟩=qeM N v4 v5 v7 v8 v9 v10 v11 v12 v13 v14 k0 n v6 v15:=by
 subst hc;intro n;induction n with
 | zero=>intros;rfl
 | succ n ih=>
   intro v6 v15
   rw [qR,qM2,qeM];unfold Try.f68
   simp (maxSteps:=10000000) -implicitDefEqProofs [qAb,qin,qAc,qiO,qr0,qiD,qxF,qkk,qxH,qkT,qBw,qwS,qsS,qxC,qrc,qB0,qxD,qAA,qxl,qt4,qyc,g43,g49,g84,hret,h0,ih]
theorem qQT (N:Nat) (v0:Val Y36) (v1:Int) (v2:Val Y36) (v3:Int):qd tt Γ68 (T68 N) (Try.f68.body.getD .skip) (qp tt true [i36,i4] [.cell 8 36,.tmp 9]) (qt [i36,i3,i36,i3] 98 (v0,v1,v2,v3,()))=m68 N v0 v1 v2 v3:=by
 unfold Try.f68
 simp (maxSteps:=10000000) -implicitDefEqProofs [qAb,qin,qAc,qiO,qr0,qiD,qxF,qkk,qxH,qkT,qBw,qwS,qsS,qxC,qrc,qB0,qxD,qAA,qxl,qt4,qyc,g43,g49,g84]
 rewrite [qId (k0:=(fun (v17:List (Val (.int .i64)))=>bif (v0.2.2:Bool)then (bif (decide ((0:Int)<v1))then (chk (qax v17 (IntKind.i64.wrap ((IntKind.i64.wrap (v1*(v0.2.1:Int)))+(IntKind.i64.wrap (v3*(v2.2.1:Int))))) true) (some (((((qk v17 (IntKind.i64.wrap ((IntKind.i64.wrap (v1*(v0.2.1:Int)))+(IntKind.i64.wrap (v3*(v2.2.1:Int))))) true).1).1:List (Val (.int .i64))),((((qk v17 (IntKind.i64.wrap ((IntKind.i64.wrap (v1*(v0.2.1:Int)))+(IntKind.i64.wrap (v3*(v2.2.1:Int))))) true).1).2).1:Int),((((qk v17 (IntKind.i64.wrap ((IntKind.i64.wrap (v1*(v0.2.1:Int)))+(IntKind.i64.wrap (v3*(v2.2.1:Int))))) true).1).2).2:Bool)),((qk v17 (IntKind.i64.wrap ((IntKind.i64.wrap (v1*(v0.2.1:Int)))+(IntKind.i64.wrap (v3*(v2.2.1:Int))))) true).2:Bool),())))else (bif (v2.2.2:Bool)then (chk (qax v17 (IntKind.i64.wrap ((IntKind.i64.wrap (v1*(v0.2.1:Int)))+(IntKind.i64.wrap (v3*(v2.2.1:Int))))) (decide ((0:Int)<v3))) (some (((((qk v17 (IntKind.i64.wrap ((IntKind.i64.wrap (v1*(v0.2.1:Int)))+(IntKind.i64.wrap (v3*(v2.2.1:Int))))) (decide ((0:Int)<v3))).1).1:List (Val (.int .i64))),((((qk v17 (IntKind.i64.wrap ((IntKind.i64.wrap (v1*(v0.2.1:Int)))+(IntKind.i64.wrap (v3*(v2.2.1:Int))))) (decide ((0:Int)<v3))).1).2).1:Int),((((qk v17 (IntKind.i64.wrap ((IntKind.i64.wrap (v1*(v0.2.1:Int)))+(IntKind.i64.wrap (v3*(v2.2.1:Int))))) (decide ((0:Int)<v3))).1).2).2:Bool)),((qk v17 (IntKind.i64.wrap ((IntKind.i64.wrap (v1*(v0.2.1:Int)))+(IntKind.i64.wrap (v3*(v2.2.1:Int))))) (decide ((0:Int)<v3))).2:Bool),())))else (chk (qax v17 (IntKind.i64.wrap ((IntKind.i64.wrap (v1*(v0.2.1:Int)))+(IntKind.i64.wrap (v3*(v2.2.1:Int))))) false) (some (((((qk v17 (IntKind.i64.wrap ((IntKind.i64.wrap (v1*(v0.2.1:Int)))+(IntKind.i64.wrap (v3*(v2.2.1:Int))))) false).1).1:List (Val (.int .i64))),((((qk v17 (IntKind.i64.wrap ((IntKind.i64.wrap (v1*(v0.2.1:Int)))+(IntKind.i64.wrap (v3*(v2.2.1:Int))))) false).1).2).1:Int),((((qk v17 (IntKind.i64.wrap ((IntKind.i64.wrap (v1*(v0.2.1:Int)))+(IntKind.i64.wrap (v3*(v2.2.1:Int))))) false).1).2).2:Bool)),((qk v17 (IntKind.i64.wrap ((IntKind.i64.wrap (v1*(v0.2.1:Int)))+(IntKind.i64.wrap (v3*(v2.2.1:Int))))) false).2:Bool),())))))else (bif (v2.2.2:Bool)then (chk (qax v17 (IntKind.i64.wrap ((IntKind.i64.wrap (v1*(v0.2.1:Int)))+(IntKind.i64.wrap (v3*(v2.2.1:Int))))) (decide ((0:Int)<v3))) (some (((((qk v17 (IntKind.i64.wrap ((IntKind.i64.wrap (v1*(v0.2.1:Int)))+(IntKind.i64.wrap (v3*(v2.2.1:Int))))) (decide ((0:Int)<v3))).1).1:List (Val (.int .i64))),((((qk v17 (IntKind.i64.wrap ((IntKind.i64.wrap (v1*(v0.2.1:Int)))+(IntKind.i64.wrap (v3*(v2.2.1:Int))))) (decide ((0:Int)<v3))).1).2).1:Int),((((qk v17 (IntKind.i64.wrap ((IntKind.i64.wrap (v1*(v0.2.1:Int)))+(IntKind.i64.wrap (v3*(v2.2.1:Int))))) (decide ((0:Int)<v3))).1).2).2:Bool)),((qk v17 (IntKind.i64.wrap ((IntKind.i64.wrap (v1*(v0.2.1:Int)))+(IntKind.i64.wrap (v3*(v2.2.1:Int))))) (decide ((0:Int)<v3))).2:Bool),())))else (chk (qax v17 (IntKind.i64.wrap ((IntKind.i64.wrap (v1*(v0.2.1:Int)))+(IntKind.i64.wrap (v3*(v2.2.1:Int))))) false) (some (((((qk v17 (IntKind.i64.wrap ((IntKind.i64.wrap (v1*(v0.2.1:Int)))+(IntKind.i64.wrap (v3*(v2.2.1:Int))))) false).1).1:List (Val (.int .i64))),((((qk v17 (IntKind.i64.wrap ((IntKind.i64.wrap (v1*(v0.2.1:Int)))+(IntKind.i64.wrap (v3*(v2.2.1:Int))))) false).1).2).1:Int),((((qk v17 (IntKind.i64.wrap ((IntKind.i64.wrap (v1*(v0.2.1:Int)))+(IntKind.i64.wrap (v3*(v2.2.1:Int))))) false).1).2).2:Bool)),((qk v17 (IntKind.i64.wrap ((IntKind.i64.wrap (v1*(v0.2.1:Int)))+(IntKind.i64.wrap (v3*(v2.2.1:Int))))) false).2:Bool),())))))) N _ _ _ _ _ _ _ _ _ _ ?_ ?_ ?_]
 ·rewrite [m68];first | rfl | simp (maxSteps:=10000000) -implicitDefEqProofs []
 ·rfl
 ·intro;simp only [qK,qM,qO,qv]
 ·intro v17;simp (maxSteps:=10000000) -implicitDefEqProofs [qAb,qin,qAc,qiO,qr0,qiD,qxF,qkk,qxH,qkT,qBw,qwS,qsS,qxC,qrc,qB0,qxD,qAA,qxl,qt4,qyc,g43,g49,g84]
theorem qoS {p q x y:Int} (hp:0≤p∧p≤400000000) (hq:0≤q∧q≤400000000) (hx: -400000000≤x∧x≤400000000) (hy: -400000000≤y∧y≤400000000):
 IntKind.i64.wrap (IntKind.i64.wrap (p*x)+IntKind.i64.wrap (q*y))=p*x+q*y∧inI (p*x+q*y):=by
 have h1:(p*x).natAbs≤400000000*400000000:=by rw [Int.natAbs_mul];exact Nat.mul_le_mul (by omega) (by omega)
 have h2:(q*y).natAbs≤400000000*400000000:=by rw [Int.natAbs_mul];exact Nat.mul_le_mul (by omega) (by omega)
 generalize p*x=u at*
 generalize q*y=v at*
 rw [qb5 (n:=u) (by omega) (by omega),qb5 (n:=v) (by omega) (by omega),qb5 (by omega) (by omega)]
 exact ⟨rfl,by unfold inI;omega⟩
theorem qHw {p q:Int} (hp:0≤p∧p≤400000000) (hq:0≤q∧q≤400000000) {xs ys:List Int} (hx: ∀x∈xs, -400000000≤x∧x≤400000000) (hy: ∀x∈ys, -400000000≤x∧x≤400000000): ∀z∈qcO p q xs ys,inI z:=by
 intro z hz
 obtain ⟨⟨x,y⟩,hm,rfl⟩:=List.mem_map.1 hz
 obtain ⟨h1,h2⟩:=List.of_mem_zip hm
 exact (qoS hp hq (hx x h1) (hy y h2)).2
theorem qrl {p q:Int} {xs ys:List Int} (h:xs.length=ys.length):(qcO p q xs ys).length=xs.length:=by simp [qcO,h]
theorem t77 (N:Nat) (p q:Int) (hp:0≤p∧p≤400000000) (hq:0≤q∧q≤400000000) (xs ys:List (Val (.int .i64))) (c:Int) (s:Bool) (c':Int) (s':Bool) (d:Int) (e:Bool) (K:List (Val (.int .i64))→Option (qb [i36,i4])) (hl:xs.length≤1048576) (hxy:xs.length=ys.length)
 (hx: ∀x∈(xs:List Int), -400000000≤x∧x≤400000000) (hy: ∀x∈(ys:List Int), -400000000≤x∧x≤400000000) (n:Nat) (hn:xs.length<n):
 qeB N p q xs.length xs c s ys c' s' d e K n 0 (List.replicate xs.length (qa (.int .i64)))=K (qcO p q xs ys):=by
 have hm:=qrl (p:=p) (q:=q) hxy
 have:=qqi (xs:=(qcO p q xs ys:List (Val (.int .i64)))) (F:=fun n i v=>qeB N p q xs.length xs c s ys c' s' d e K n i v) (k:=K) (qa (.int .i64)) (by rw [hm];exact hl) (fun n i v hi hv=> ?_) (fun n i v hi=> ?_) n (by rw [hm];exact hn)
 ·rw [hm]at this;exact this
 ·have hi:i<xs.length:=by rw [hm]at hi;exact hi
  have hv:v.length=xs.length:=by rw [hm]at hv;exact hv
  have hi2:i<ys.length:=by omega
  rw [qeB,qh (by omega),qc (by omega),qc (by omega),qc (by omega),qc (by simp;omega),qL hi,qL hi2,(qoS hp hq (hx _ (List.getElem_mem hi)) (hy _ (List.getElem_mem hi2))).1]
  have e:(qcO p q xs ys)[i]=p*xs[i]+q*ys[i]:=by simp [qcO]
  simp only [e,Int.toNat_natCast]
 ·have hi:xs.length≤i:=by rw [hm]at hi;exact hi
  rw [qeB,qi (by omega)]
theorem t68 (N:Nat) (p q:Int) (hp:0≤p∧p≤400000000) (hq:0≤q∧q≤400000000) (xs ys:List (Val (.int .i64))) (c:Int) (s:Bool) (c':Int) (s':Bool) (d:Int) (e:Bool) (K:List (Val (.int .i64))→Option (qb [i36,i4])) (hl:xs.length≤1048576) (hxy:xs.length=ys.length)
 (hx: ∀x∈(xs:List Int), -400000000≤x∧x≤400000000) (hy: ∀x∈(ys:List Int), -400000000≤x∧x≤400000000) (n:Nat) (hn:xs.length<n):
 qeM N p q xs c s ys c' s' d e K n 0 []=K (qcO p q xs ys):=by
 have hz:(List.zip (α:=Int) (β:=Int) xs ys).length=xs.length:=by simp [hxy]
 refine (qb6 (xs:=List.zip (α:=Int) (β:=Int) xs ys) (F:=fun n i v=>qeM N p q xs c s ys c' s' d e K n i v) (step:=fun _ z (v:List (Val (.int .i64))) K=>chk (v.length+[p*z.1+q*z.2].length≤1048576) (K (v++[p*z.1+q*z.2]))) (k:=K) (by omega) (fun n i v hi=> ?_) (fun n i v hi=> ?_) n _ (by omega)).trans ((qzy (f:=fun (z:Int×Int)=>p*z.1+q*z.2) (k:=K) (List.zip (α:=Int) (β:=Int) xs ys) 0 [] (by simp;omega)).trans ?_)
 ·have hi1:i<xs.length:=by omega
  have hi2:i<ys.length:=by omega
  rw [qeM,qh (by omega),qc (by omega),qc (by omega),qL hi1,qL hi2,(qoS hp hq (hx _ (List.getElem_mem hi1)) (hy _ (List.getElem_mem hi2))).1]
  simp only [List.getElem_zip]
 ·rw [qeM,qi (by omega)]
 ·rw [List.nil_append];rfl
theorem qes {x a b:Int} (h:a≤x∧x≤b):inR x a b=true:=decide_eq_true h
theorem qfN {x a b:Int} (h: ¬(a≤x∧x≤b)):inR x a b=false:=decide_eq_false h
theorem qgK {a:Val Y36} (h:qz a=true): ∀x∈(a.1:List Int), @LE.le Int _ (-400000000) x∧ @LE.le Int _ x 400000000:=(qcc h).2.2
theorem qE5 {p q:Int} (hp:0≤p∧p≤400000000) (hq:0≤q∧q≤400000000) {a b:Val Y36} (ha:qz a=true) (hb:qz b=true) (hl:List.length (α:=Int) a.1=List.length (α:=Int) b.1) (s:Bool):
 IntKind.i64.wrap (IntKind.i64.wrap (p*(a.2.1:Int))+IntKind.i64.wrap (q*(b.2.1:Int)))=p*a.2.1+q*b.2.1∧qax (qcO p q a.1 b.1) (p*a.2.1+q*b.2.1) s:=by
 obtain ⟨h1,h2⟩:=qoS hp hq (qel ha) (qel hb)
 have h4:=(qcc ha).1
 have hm:=qrl (p:=p) (q:=q) hl
 exact ⟨h1,⟨by have:(qcO p q a.1 b.1).length≤1048576:=by omega
               exact this,h2,qHw hp hq (qgK ha) (qgK hb)⟩⟩
theorem e77 (a:Val Y36) (p:Int) (b:Val Y36) (q:Int): ∃N,m77 N a p b q=some ((qU a p b q).1,(qU a p b q).2,()):=⟨List.length (α:=Int) a.1+1,by
 rw [m77]
 unfold qU
 cases ha:qz a with
 | false=>rfl
 | true=>
 cases hb:qz b with
 | false=>rfl
 | true=>
 by_cases hl:List.length (α:=Int) a.1=List.length (α:=Int) b.1
 ·have hlI:((List.length (α:=Val (.int .i64)) a.1:Int)=(List.length (α:=Val (.int .i64)) b.1:Int)):=congrArg Int.ofNat hl
  by_cases hp:0≤p∧p≤400000000
  ·by_cases hq:0≤q∧q≤400000000
   ·rw [qes hp,qes hq,decide_eq_true hl,decide_eq_true hlI,qi (show ¬p<0 by omega),qi (show ¬400000000<p by omega),qi (show ¬q<0 by omega),qi (show ¬400000000<q by omega)]
    simp only [Bool.not_true,cond_false,cond_true,Bool.and_self]
    have h4:=(qcc ha).1
    rw [qc (qjK (by omega)),Int.toNat_natCast,List.length_replicate,t77 _ p q hp hq a.1 b.1 _ _ _ _ _ _ _ (by omega) hl (qgK ha) (qgK hb) _ (Nat.lt_succ_self _)]
    have hw:=fun s=>qE5 hp hq ha hb hl s
    rw [(hw true).1,qc (hw true).2,qc (hw false).2,qc (hw _).2]
    have ep:(!decide (p=0))=decide (0<p):=by by_cases h:p=0<;>simp [h]<;>omega
    have eq':(!decide (q=0))=decide (0<q):=by by_cases h:q=0<;>simp [h]<;>omega
    rw [ep,eq']
    cases a.2.2<;>cases b.2.2<;>cases decide (0<p)<;>cases decide (0<q)<;>rfl
   ·rw [qfN hq,decide_eq_true hlI,qi (show ¬p<0 by omega),qi (show ¬400000000<p by omega)]
    simp only [Bool.not_true,cond_false,Bool.and_false]
    by_cases hq0:q<0
    ·rw [qh hq0]
    ·rw [qi hq0,qh (show 400000000<q by omega)]
  ·rw [qfN hp,decide_eq_true hlI]
   simp only [Bool.not_true,cond_false,Bool.and_false,Bool.false_and]
   by_cases hp0:p<0
   ·rw [qh hp0]
   ·rw [qi hp0,qh (show 400000000<p by omega)]
 ·have hlI: ¬((List.length (α:=Val (.int .i64)) a.1:Int)=(List.length (α:=Val (.int .i64)) b.1:Int)):=fun h=>hl (Int.ofNat.inj h)
  rw [decide_eq_false hl,decide_eq_false hlI]
  rfl⟩
theorem s77:Sound Try.prog 77 g77:=qw (tt:=tt) (Γ:=Γ77) hT (qf s45 (qf s91 qq)) hm (fn:=Try.f77) Try.func77 (c:=Try.f77.body.getD .skip) (by kernel_rfl) (by kernel_rfl) fun x hx=>by
 obtain ⟨N,h⟩:=e77 x.1 x.2.1 x.2.2.1 x.2.2.2.1
 exact ⟨T77 N,p77,qx _,qNh N,(qOR N x.1 x.2.1 x.2.2.1 x.2.2.2.1).trans h⟩
theorem e68 (a:Val Y36) (p:Int) (b:Val Y36) (q:Int) (h:qpl a p b q): ∃N,m68 N a p b q=some ((qU a p b q).1,(qU a p b q).2,()):=⟨List.length (α:=Int) a.1+1,by
 rw [m68]
 unfold qU
 cases ha:qz a with
 | false=>rfl
 | true=>
 cases hb:qz b with
 | false=>rfl
 | true=>
 by_cases hl:List.length (α:=Int) a.1=List.length (α:=Int) b.1
 ·have hlI:((List.length (α:=Val (.int .i64)) a.1:Int)=(List.length (α:=Val (.int .i64)) b.1:Int)):=congrArg Int.ofNat hl
  by_cases hp:0≤p∧p≤400000000
  ·by_cases hq:0≤q∧q≤400000000
   ·rw [qes hp,qes hq,decide_eq_true hl,decide_eq_true hlI]
    simp only [Bool.not_true,cond_false,cond_true,Bool.and_self]
    have h4:=(qcc ha).1
    rw [t68 _ p q hp hq a.1 b.1 _ _ _ _ _ _ _ (by omega) hl (qgK ha) (qgK hb) _ (Nat.lt_succ_self _)]
    have hw:=fun s=>qE5 hp hq ha hb hl s
    rw [(hw true).1,qc (hw true).2,qc (hw false).2,qc (hw _).2]
    cases a.2.2<;>cases b.2.2<;>cases decide (0<p)<;>cases decide (0<q)<;>rfl
   ·rw [qfN hq,qes hp,decide_eq_true hlI]
    simp only [Bool.not_true,Bool.not_false,cond_false,cond_true,Bool.and_false]
  ·rw [qfN hp,decide_eq_true hlI]
   simp only [Bool.not_true,Bool.not_false,cond_false,cond_true,Bool.and_false,Bool.false_and]
 ·have hlI: ¬((List.length (α:=Val (.int .i64)) a.1:Int)=(List.length (α:=Val (.int .i64)) b.1:Int)):=fun h=>hl (Int.ofNat.inj h)
  rw [decide_eq_false hl,decide_eq_false hlI]
  rfl⟩
theorem s68:Sound Try.prog 68 g68:=qw (tt:=tt) (Γ:=Γ68) hT (qf s43 (qf s49 (qf s84 qq))) hm (fn:=Try.f68) Try.func68 (c:=Try.f68.body.getD .skip) (by kernel_rfl) (by kernel_rfl) fun x hx=>by
 obtain ⟨N,h⟩:=e68 x.1 x.2.1 x.2.2.1 x.2.2.2.1 hx
 exact ⟨T68 N,p68,qx _,qI7 N,(qQT N x.1 x.2.1 x.2.2.1 x.2.2.2.1).trans h⟩
end Go.T
