/- Mixed atoms. -/
import Derived.Test.YthefcjjgchekiaaGreatB6n
set_option linter.unusedSimpArgs false
set_option linter.unusedVariables false
namespace Go.T
open Go Go.Proofs
set_option maxHeartbeats 4000000
set_option maxRecDepth 100000
def qbz (p q:Int) (xs ys:List Int):List Int:=(List.zip xs ys).map fun z=>p*z.1+q*z.2
def q4 (a:Val qa) (p:Int) (b:Val qa) (q:Int):Val qa×Bool:=
 bif qG a&&qG b&&decide (List.length (α:=Int) a.1=List.length (α:=Int) b.1)&&inR p 0 400000000&&inR q 0 400000000 then qh (qbz p q a.1 b.1) (p*a.2.1+q*b.2.1) ((a.2.2&&decide (0<p))||(b.2.2&&decide (0<q)))else (([],((0:Int),false)),false)
def qDQ (a:Val qa) (_:Int) (b:Val qa) (_:Int):Prop:=qbu a∧qbu b
def qfy:G:={ps:=[qr,i3,qr,i3],rs:=[qr,i4],dp:=true,pre:=fun _=>True,fn:=fun x=>((q4 x.1 x.2.1 x.2.2.1 x.2.2.2.1).1,(q4 x.1 x.2.1 x.2.2.1 x.2.2.2.1).2,())}
def qf2:G:={ps:=[qr,i3,qr,i3],rs:=[qr,i4],dp:=true,pre:=fun x=>qDQ x.1 x.2.1 x.2.2.1 x.2.2.2.1,fn:=fun x=>((q4 x.1 x.2.1 x.2.2.1 x.2.2.2.1).1,(q4 x.1 x.2.1 x.2.2.1 x.2.2.2.1).2,())}
noncomputable def qiN (N:Nat) (v4:Int) (v5:Int) (v6:Int) (v8:List (Val (.int .i64))) (v9:Int) (v10:Bool) (v11:List (Val (.int .i64))) (v12:Int) (v13:Bool) (v14:Int) (v15:Bool) (k0:(List (Val (.int .i64)))→Option (qc [qr,i4])):Nat→Int→(List (Val (.int .i64)))→Option (qc [qr,i4])
 | 0,_,_=>none
 | n+1,v7,v16=>bif (decide (v7<v6))then (chk (0≤v7∧v7<(v8.length:Int)) (chk (0≤v7∧v7<(v11.length:Int)) (chk (0≤v7∧v7<(v16.length:Int)) (chk (v7.toNat<v16.length) (qiN N v4 v5 v6 v8 v9 v10 v11 v12 v13 v14 v15 k0 n (IntKind.i64.wrap (v7+(1:Int))) (v16.set v7.toNat (IntKind.i64.wrap ((IntKind.i64.wrap (v4*((v8.getD v7.toNat (qb (.int .i64))):Int)))+(IntKind.i64.wrap (v5*((v11.getD v7.toNat (qb (.int .i64))):Int)))))))))))else (k0 v16)
noncomputable def qxL (N:Nat) (v0:Val qa) (v1:Int) (v2:Val qa) (v3:Int):Option (qc [qr,i4]):=bif (!((qG v0):Bool))then (some ((([]:List (Val (.int .i64))),(0:Int),false),false,()))else (bif (!((qG v2):Bool))then (some ((([]:List (Val (.int .i64))),(0:Int),false),false,()))else (bif (!(decide (((v0.1:List (Val (.int .i64))).length:Int)=((v2.1:List (Val (.int .i64))).length:Int))))then (some ((([]:List (Val (.int .i64))),(0:Int),false),false,()))else (bif (decide (v1<(0:Int)))then (some ((([]:List (Val (.int .i64))),(0:Int),false),false,()))else (bif (decide ((400000000:Int)<v1))then (some ((([]:List (Val (.int .i64))),(0:Int),false),false,()))else (bif (decide (v3<(0:Int)))then (some ((([]:List (Val (.int .i64))),(0:Int),false),false,()))else (bif (decide ((400000000:Int)<v3))then (some ((([]:List (Val (.int .i64))),(0:Int),false),false,()))else (chk (0≤((v0.1:List (Val (.int .i64))).length:Int)∧((v0.1:List (Val (.int .i64))).length:Int)≤((v0.1:List (Val (.int .i64))).length:Int)∧((v0.1:List (Val (.int .i64))).length:Int)≤1048576) (qiN N v1 v3 ((List.replicate ((v0.1:List (Val (.int .i64))).length:Int).toNat (qb (.int .i64))).length:Int) (v0.1:List (Val (.int .i64))) (v0.2.1:Int) (v0.2.2:Bool) (v2.1:List (Val (.int .i64))) (v2.2.1:Int) (v2.2.2:Bool) (0:Int) false (fun (v18:List (Val (.int .i64)))=>bif (v0.2.2:Bool)then (bif (!(decide (v1=(0:Int))))then (chk (qap v18 (IntKind.i64.wrap ((IntKind.i64.wrap (v1*(v0.2.1:Int)))+(IntKind.i64.wrap (v3*(v2.2.1:Int))))) true) (some (((((qh v18 (IntKind.i64.wrap ((IntKind.i64.wrap (v1*(v0.2.1:Int)))+(IntKind.i64.wrap (v3*(v2.2.1:Int))))) true).1).1:List (Val (.int .i64))),((((qh v18 (IntKind.i64.wrap ((IntKind.i64.wrap (v1*(v0.2.1:Int)))+(IntKind.i64.wrap (v3*(v2.2.1:Int))))) true).1).2).1:Int),((((qh v18 (IntKind.i64.wrap ((IntKind.i64.wrap (v1*(v0.2.1:Int)))+(IntKind.i64.wrap (v3*(v2.2.1:Int))))) true).1).2).2:Bool)),((qh v18 (IntKind.i64.wrap ((IntKind.i64.wrap (v1*(v0.2.1:Int)))+(IntKind.i64.wrap (v3*(v2.2.1:Int))))) true).2:Bool),())))else (bif (v2.2.2:Bool)then (chk (qap v18 (IntKind.i64.wrap ((IntKind.i64.wrap (v1*(v0.2.1:Int)))+(IntKind.i64.wrap (v3*(v2.2.1:Int))))) (!(decide (v3=(0:Int))))) (some (((((qh v18 (IntKind.i64.wrap ((IntKind.i64.wrap (v1*(v0.2.1:Int)))+(IntKind.i64.wrap (v3*(v2.2.1:Int))))) (!(decide (v3=(0:Int))))).1).1:List (Val (.int .i64))),((((qh v18 (IntKind.i64.wrap ((IntKind.i64.wrap (v1*(v0.2.1:Int)))+(IntKind.i64.wrap (v3*(v2.2.1:Int))))) (!(decide (v3=(0:Int))))).1).2).1:Int),((((qh v18 (IntKind.i64.wrap ((IntKind.i64.wrap (v1*(v0.2.1:Int)))+(IntKind.i64.wrap (v3*(v2.2.1:Int))))) (!(decide (v3=(0:Int))))).1).2).2:Bool)),((qh v18 (IntKind.i64.wrap ((IntKind.i64.wrap (v1*(v0.2.1:Int)))+(IntKind.i64.wrap (v3*(v2.2.1:Int))))) (!(decide (v3=(0:Int))))).2:Bool),())))else (chk (qap v18 (IntKind.i64.wrap ((IntKind.i64.wrap (v1*(v0.2.1:Int)))+(IntKind.i64.wrap (v3*(v2.2.1:Int))))) false) (some (((((qh v18 (IntKind.i64.wrap ((IntKind.i64.wrap (v1*(v0.2.1:Int)))+(IntKind.i64.wrap (v3*(v2.2.1:Int))))) false).1).1:List (Val (.int .i64))),((((qh v18 (IntKind.i64.wrap ((IntKind.i64.wrap (v1*(v0.2.1:Int)))+(IntKind.i64.wrap (v3*(v2.2.1:Int))))) false).1).2).1:Int),((((qh v18 (IntKind.i64.wrap ((IntKind.i64.wrap (v1*(v0.2.1:Int)))+(IntKind.i64.wrap (v3*(v2.2.1:Int))))) false).1).2).2:Bool)),((qh v18 (IntKind.i64.wrap ((IntKind.i64.wrap (v1*(v0.2.1:Int)))+(IntKind.i64.wrap (v3*(v2.2.1:Int))))) false).2:Bool),())))))else (bif (v2.2.2:Bool)then (chk (qap v18 (IntKind.i64.wrap ((IntKind.i64.wrap (v1*(v0.2.1:Int)))+(IntKind.i64.wrap (v3*(v2.2.1:Int))))) (!(decide (v3=(0:Int))))) (some (((((qh v18 (IntKind.i64.wrap ((IntKind.i64.wrap (v1*(v0.2.1:Int)))+(IntKind.i64.wrap (v3*(v2.2.1:Int))))) (!(decide (v3=(0:Int))))).1).1:List (Val (.int .i64))),((((qh v18 (IntKind.i64.wrap ((IntKind.i64.wrap (v1*(v0.2.1:Int)))+(IntKind.i64.wrap (v3*(v2.2.1:Int))))) (!(decide (v3=(0:Int))))).1).2).1:Int),((((qh v18 (IntKind.i64.wrap ((IntKind.i64.wrap (v1*(v0.2.1:Int)))+(IntKind.i64.wrap (v3*(v2.2.1:Int))))) (!(decide (v3=(0:Int))))).1).2).2:Bool)),((qh v18 (IntKind.i64.wrap ((IntKind.i64.wrap (v1*(v0.2.1:Int)))+(IntKind.i64.wrap (v3*(v2.2.1:Int))))) (!(decide (v3=(0:Int))))).2:Bool),())))else (chk (qap v18 (IntKind.i64.wrap ((IntKind.i64.wrap (v1*(v0.2.1:Int)))+(IntKind.i64.wrap (v3*(v2.2.1:Int))))) false) (some (((((qh v18 (IntKind.i64.wrap ((IntKind.i64.wrap (v1*(v0.2.1:Int)))+(IntKind.i64.wrap (v3*(v2.2.1:Int))))) false).1).1:List (Val (.int .i64))),((((qh v18 (IntKind.i64.wrap ((IntKind.i64.wrap (v1*(v0.2.1:Int)))+(IntKind.i64.wrap (v3*(v2.2.1:Int))))) false).1).2).1:Int),((((qh v18 (IntKind.i64.wrap ((IntKind.i64.wrap (v1*(v0.2.1:Int)))+(IntKind.i64.wrap (v3*(v2.2.1:Int))))) false).1).2).2:Bool)),((qh v18 (IntKind.i64.wrap ((IntKind.i64.wrap (v1*(v0.2.1:Int)))+(IntKind.i64.wrap (v3*(v2.2.1:Int))))) false).2:Bool),()))))) N (0:Int) (List.replicate ((v0.1:List (Val (.int .i64))).length:Int).toNat (qb (.int .i64)))))))))))
def qlk:Gam:=[(207,qbT),(279,qa6)]
theorem qHM:Gam.get qlk 207=some qbT:=rfl
theorem qE6:Gam.get qlk 279=some qa6:=rfl
def qt5:Nm:=⟨[false,true,false,true,true,false,true,false,true,false,true,false,false,false,false,false,false,false,false,false,false,false,false,false,false,false,false,false,false,false,false,false,false,false,false,false,false,false,false,false,false,false,false,false,false,false,false,false,false,false,true,true],[],false⟩
theorem qXI:qt5.zero=false:=rfl
theorem qGa:qt5.fix=[]:=rfl
theorem qR7:qt5.keep=[false,true,false,true,true,false,true,false,true,false,true,false,false,false,false,false,false,false,false,false,false,false,false,false,false,false,false,false,false,false,false,false,false,false,false,false,false,false,false,false,false,false,false,false,false,false,false,false,false,false,true,true]:=rfl
def qA1:Nm:=⟨[false,true,false,true,true,false,true,false,true,false,true],[],false⟩
theorem qRa:qA1.zero=false:=rfl
theorem qGx:qA1.fix=[]:=rfl
theorem qQw:qA1.keep=[false,true,false,true,true,false,true,false,true,false,true]:=rfl
def qof:Nat→Tree:=fun i=>if i=9 then .quiet 0 (.quiet 1 (.quiet 2 (.quiet 3 (.quiet 4 (.quiet 5 (.quiet 6 (.quiet 7 (.quiet 8 (.quiet 9 (.quiet 10 (.quiet 11 (.quiet 12 (.quiet 13 (.quiet 14 (.quiet 15 (.quiet 16 (.quiet 17 (.alt 18 .done .stop))))))))))))))))))else .done
def quB:Nat→Nm:=fun i=>if i=7 then qt5 else ⟨[],[],false⟩
def qwT:Nat→Option Jn:=fun _=>none
def qrk:Nat→Option Nm:=fun i=>if i=0 then some qA1 else none
def qxf:Nat→Option Nm:=fun _=>none
theorem q8M:qn qof (Tryz.f293.body.getD .skip)=true:=by kernel_rfl
def qdf (N:Nat):Tab:={tr:=qof,lp:=quB,ex:=qrk,rg:=qxf,jn:=qwT,fuel:=N}
theorem qWS (N:Nat):(qdf N).pins=false:=rfl
theorem zaa (N:Nat):qp Tryz.prog (qdf N):=qv fun _=>rfl
theorem qJR (N:Nat) (i:Nat):(qdf N).tr i=qof i:=rfl
theorem qXf (N:Nat) (i:Nat):(qdf N).lp i=quB i:=rfl
theorem qHk (N:Nat) (i:Nat):(qdf N).ex i=qrk i:=rfl
theorem qIE (N:Nat) (i:Nat):(qdf N).rg i=qxf i:=rfl
theorem qXR (N:Nat) (i:Nat):(qdf N).jn i=qwT i:=rfl
theorem qO5 (N:Nat):(qdf N).fuel=N:=rfl
noncomputable def q3E:Code:=cut [true,true,true,true,false,true,true,true] (Tryz.f293.body.getD .skip)
theorem q7I {N:Nat} {Q:X→St→Option (qc [qr,i4])} {e:List LV} {h:List Blk}:qe tt qlk (qdf N) q3E Q ⟨e,h⟩=qe tt qlk (qdf N) (cut [true,true,true,true,false,true,true,true] (Tryz.f293.body.getD .skip)) Q ⟨e,h⟩:=rfl
theorem q47 (N:Nat) (v4:Int) (v5:Int) (v6:Int) (v8:List (Val (.int .i64))) (v9:Int) (v10:Bool) (v11:List (Val (.int .i64))) (v12:Int) (v13:Bool) (v14:Int) (v15:Bool) {k0:(List (Val (.int .i64)))→Option (qc [qr,i4])} {Q:X→St→Option (qc [qr,i4])} {c:Code} (hc:c=q3E) (hret: ∀st,Q .ret st=qI tt true [qr,i4] [.cell 8 108,.tmp 9] st) (h0: ∀(v17:List (Val (.int .i64))),Q (.exit 0) ⟨[u,.one (.int .i64 v4),u,.one (.int .i64 v5),.one (.ptr 0 0 0),u,.one (.ptr 1 0 0),u,.one (.ptr 2 0 0),u,.one (.own 3),u,u,u,u,u,u,u,u,u,u,u,u,u,u,u,u,u,u,u,u,u,u,u,u,u,u,u,u,u,u,u,u,u,u,u,u,u,u,u,u,u,u,u,u,u,u,u,u,u,u,u,u,u,u,u,u,u,u,u,u,u,u,u,u,u,u,u,u,u,u,u,u,u,u,u,u,u,u,u,u,u,u,u,u,u,u,u,u,u],[.box [.sl 3 (.int .i64) v8 4,.int .i64 v9,.bool v10],.box [.sl 3 (.int .i64) v11 4,.int .i64 v12,.bool v13],.box [.nils,.int .i64 v14,.bool v15],.row 3 (.int .i64) v17 true true 0]⟩=k0 v17): ∀(n:Nat) (v7:Int) (v16:List (Val (.int .i64))),qE (qe tt qlk (qdf N) c) false qt5 Q n ⟨[u,.one (.int .i64 v4),u,.one (.int .i64 v5),.one (.ptr 0 0 0),u,.one (.ptr 1 0 0),u,.one (.ptr 2 0 0),u,.one (.own 3),u,u,u,u,u,u,u,u,u,u,u,u,u,u,u,u,u,u,u,u,u,u,u,u,u,u,u,u,u,u,u,u,u,u,u,u,u,u,u,.one (.int .i64 v6),.one (.int .i64 v7),u,u,u,u,u,u,u,u,u,u,u,u,u,u,u,u,u,u,u,u,u,u,u,u,u,u,u,u,u,u,u,u,u,u,u,u,u,u,u,u,u,u,u,u,u,u,u,u],[.box [.sl 3 (.int .i64) v8 4,.int .i64 v9,.bool v10],.box [.sl 3 (.int .i64) v11 4,.int .i64 v12,.bool v13],.box [.nils,.int .i64 v14,.bool v15],.row 3 (.int .i64) v16 true true 0]⟩=qiN N v4 v5 v6 v8 v9 v10 v11 v12 v13 v14 v15 k0 n v7 v16:=by
 subst hc;intro n;induction n with
 | zero=>intros;rfl
 | succ n ih=>
   intro v7 v16
   rw [qN,q7I,qiN];unfold Tryz.f293
   simp (maxSteps:=10000000) -implicitDefEqProofs [qJR,qof,qXf,quB,qHk,qrk,qIE,qxf,qXR,qwT,qO5,qWS,qGa,qR7,qXI,qGx,qQw,qRa,qHM,qE6,qbT,qa6,hret,h0,ih]
theorem zdP (N:Nat) (v0:Val qa) (v1:Int) (v2:Val qa) (v3:Int):qe tt qlk (qdf N) (Tryz.f293.body.getD .skip) (qt tt true [qr,i4] [.cell 8 108,.tmp 9]) (qw [qr,i3,qr,i3] 100 (v0,v1,v2,v3,()))=qxL N v0 v1 v2 v3:=by
 unfold Tryz.f293
 simp (maxSteps:=10000000) -implicitDefEqProofs [qJR,qof,qXf,quB,qHk,qrk,qIE,qxf,qXR,qwT,qO5,qWS,qGa,qR7,qXI,qGx,qQw,qRa,qHM,qE6,qbT,qa6]
 rewrite [q47 (k0:=(fun (v18:List (Val (.int .i64)))=>bif (v0.2.2:Bool)then (bif (!(decide (v1=(0:Int))))then (chk (qap v18 (IntKind.i64.wrap ((IntKind.i64.wrap (v1*(v0.2.1:Int)))+(IntKind.i64.wrap (v3*(v2.2.1:Int))))) true) (some (((((qh v18 (IntKind.i64.wrap ((IntKind.i64.wrap (v1*(v0.2.1:Int)))+(IntKind.i64.wrap (v3*(v2.2.1:Int))))) true).1).1:List (Val (.int .i64))),((((qh v18 (IntKind.i64.wrap ((IntKind.i64.wrap (v1*(v0.2.1:Int)))+(IntKind.i64.wrap (v3*(v2.2.1:Int))))) true).1).2).1:Int),((((qh v18 (IntKind.i64.wrap ((IntKind.i64.wrap (v1*(v0.2.1:Int)))+(IntKind.i64.wrap (v3*(v2.2.1:Int))))) true).1).2).2:Bool)),((qh v18 (IntKind.i64.wrap ((IntKind.i64.wrap (v1*(v0.2.1:Int)))+(IntKind.i64.wrap (v3*(v2.2.1:Int))))) true).2:Bool),())))else (bif (v2.2.2:Bool)then (chk (qap v18 (IntKind.i64.wrap ((IntKind.i64.wrap (v1*(v0.2.1:Int)))+(IntKind.i64.wrap (v3*(v2.2.1:Int))))) (!(decide (v3=(0:Int))))) (some (((((qh v18 (IntKind.i64.wrap ((IntKind.i64.wrap (v1*(v0.2.1:Int)))+(IntKind.i64.wrap (v3*(v2.2.1:Int))))) (!(decide (v3=(0:Int))))).1).1:List (Val (.int .i64))),((((qh v18 (IntKind.i64.wrap ((IntKind.i64.wrap (v1*(v0.2.1:Int)))+(IntKind.i64.wrap (v3*(v2.2.1:Int))))) (!(decide (v3=(0:Int))))).1).2).1:Int),((((qh v18 (IntKind.i64.wrap ((IntKind.i64.wrap (v1*(v0.2.1:Int)))+(IntKind.i64.wrap (v3*(v2.2.1:Int))))) (!(decide (v3=(0:Int))))).1).2).2:Bool)),((qh v18 (IntKind.i64.wrap ((IntKind.i64.wrap (v1*(v0.2.1:Int)))+(IntKind.i64.wrap (v3*(v2.2.1:Int))))) (!(decide (v3=(0:Int))))).2:Bool),())))else (chk (qap v18 (IntKind.i64.wrap ((IntKind.i64.wrap (v1*(v0.2.1:Int)))+(IntKind.i64.wrap (v3*(v2.2.1:Int))))) false) (some (((((qh v18 (IntKind.i64.wrap ((IntKind.i64.wrap (v1*(v0.2.1:Int)))+(IntKind.i64.wrap (v3*(v2.2.1:Int))))) false).1).1:List (Val (.int .i64))),((((qh v18 (IntKind.i64.wrap ((IntKind.i64.wrap (v1*(v0.2.1:Int)))+(IntKind.i64.wrap (v3*(v2.2.1:Int))))) false).1).2).1:Int),((((qh v18 (IntKind.i64.wrap ((IntKind.i64.wrap (v1*(v0.2.1:Int)))+(IntKind.i64.wrap (v3*(v2.2.1:Int))))) false).1).2).2:Bool)),((qh v18 (IntKind.i64.wrap ((IntKind.i64.wrap (v1*(v0.2.1:Int)))+(IntKind.i64.wrap (v3*(v2.2.1:Int))))) false).2:Bool),())))))else (bif (v2.2.2:Bool)then (chk (qap v18 (IntKind.i64.wrap ((IntKind.i64.wrap (v1*(v0.2.1:Int)))+(IntKind.i64.wrap (v3*(v2.2.1:Int))))) (!(decide (v3=(0:Int))))) (some (((((qh v18 (IntKind.i64.wrap ((IntKind.i64.wrap (v1*(v0.2.1:Int)))+(IntKind.i64.wrap (v3*(v2.2.1:Int))))) (!(decide (v3=(0:Int))))).1).1:List (Val (.int .i64))),((((qh v18 (IntKind.i64.wrap ((IntKind.i64.wrap (v1*(v0.2.1:Int)))+(IntKind.i64.wrap (v3*(v2.2.1:Int))))) (!(decide (v3=(0:Int))))).1).2).1:Int),((((qh v18 (IntKind.i64.wrap ((IntKind.i64.wrap (v1*(v0.2.1:Int)))+(IntKind.i64.wrap (v3*(v2.2.1:Int))))) (!(decide (v3=(0:Int))))).1).2).2:Bool)),((qh v18 (IntKind.i64.wrap ((IntKind.i64.wrap (v1*(v0.2.1:Int)))+(IntKind.i64.wrap (v3*(v2.2.1:Int))))) (!(decide (v3=(0:Int))))).2:Bool),())))else (chk (qap v18 (IntKind.i64.wrap ((IntKind.i64.wrap (v1*(v0.2.1:Int)))+(IntKind.i64.wrap (v3*(v2.2.1:Int))))) false) (some (((((qh v18 (IntKind.i64.wrap ((IntKind.i64.wrap (v1*(v0.2.1:Int)))+(IntKind.i64.wrap (v3*(v2.2.1:Int))))) false).1).1:List (Val (.int .i64))),((((qh v18 (IntKind.i64.wrap ((IntKind.i64.wrap (v1*(v0.2.1:Int)))+(IntKind.i64.wrap (v3*(v2.2.1:Int))))) false).1).2).1:Int),((((qh v18 (IntKind.i64.wrap ((IntKind.i64.wrap (v1*(v0.2.1:Int)))+(IntKind.i64.wrap (v3*(v2.2.1:Int))))) false).1).2).2:Bool)),((qh v18 (IntKind.i64.wrap ((IntKind.i64.wrap (v1*(v0.2.1:Int)))+(IntKind.i64.wrap (v3*(v2.2.1:Int))))) false).2:Bool),())))))) N _ _ _ _ _ _ _ _ _ _ _ ?_ ?_ ?_]
 ·rewrite [qxL];first | rfl | simp (maxSteps:=10000000) -implicitDefEqProofs []
 ·rfl
 ·intro;simp only [qJ,qL,qK,qB]
 ·intro v18;simp (maxSteps:=10000000) -implicitDefEqProofs [qJR,qof,qXf,quB,qHk,qrk,qIE,qxf,qXR,qwT,qO5,qWS,qGa,qR7,qXI,qGx,qQw,qRa,qHM,qE6,qbT,qa6]
noncomputable def qiW (N:Nat) (v4:Int) (v5:Int) (v7:List (Val (.int .i64))) (v8:Int) (v9:Bool) (v10:List (Val (.int .i64))) (v11:Int) (v12:Bool) (v13:Int) (v14:Bool) (k0:(List (Val (.int .i64)))→Option (qc [qr,i4])):Nat→Int→(List (Val (.int .i64)))→Option (qc [qr,i4])
 | 0,_,_=>none
 | n+1,v6,v15=>bif (decide (v6<(v7.length:Int)))then (chk (0≤v6∧v6<(v7.length:Int)) (chk (0≤v6∧v6<(v10.length:Int)) (chk (v15.length+([(IntKind.i64.wrap ((IntKind.i64.wrap (v4*((v7.getD v6.toNat (qb (.int .i64))):Int)))+(IntKind.i64.wrap (v5*((v10.getD v6.toNat (qb (.int .i64))):Int)))))]:List (Val (.int .i64))).length≤1048576) (qiW N v4 v5 v7 v8 v9 v10 v11 v12 v13 v14 k0 n (IntKind.i64.wrap (v6+(1:Int))) (v15++([(IntKind.i64.wrap ((IntKind.i64.wrap (v4*((v7.getD v6.toNat (qb (.int .i64))):Int)))+(IntKind.i64.wrap (v5*((v10.getD v6.toNat (qb (.int .i64))):Int)))))]:List (Val (.int .i64))))))))else (k0 v15)
noncomputable def qxJ (N:Nat) (v0:Val qa) (v1:Int) (v2:Val qa) (v3:Int):Option (qc [qr,i4]):=bif (!((qG v0):Bool))then (some ((([]:List (Val (.int .i64))),(0:Int),false),false,()))else (bif (!((qG v2):Bool))then (some ((([]:List (Val (.int .i64))),(0:Int),false),false,()))else (bif (!(decide (((v0.1:List (Val (.int .i64))).length:Int)=((v2.1:List (Val (.int .i64))).length:Int))))then (some ((([]:List (Val (.int .i64))),(0:Int),false),false,()))else (bif (!((inR v1 (0:Int) (400000000:Int)):Bool))then (some ((([]:List (Val (.int .i64))),(0:Int),false),false,()))else (bif (!((inR v3 (0:Int) (400000000:Int)):Bool))then (some ((([]:List (Val (.int .i64))),(0:Int),false),false,()))else (qiW N v1 v3 (v0.1:List (Val (.int .i64))) (v0.2.1:Int) (v0.2.2:Bool) (v2.1:List (Val (.int .i64))) (v2.2.1:Int) (v2.2.2:Bool) (0:Int) false (fun (v17:List (Val (.int .i64)))=>bif (v0.2.2:Bool)then (bif (decide ((0:Int)<v1))then (chk (qap v17 (IntKind.i64.wrap ((IntKind.i64.wrap (v1*(v0.2.1:Int)))+(IntKind.i64.wrap (v3*(v2.2.1:Int))))) true) (some (((((qh v17 (IntKind.i64.wrap ((IntKind.i64.wrap (v1*(v0.2.1:Int)))+(IntKind.i64.wrap (v3*(v2.2.1:Int))))) true).1).1:List (Val (.int .i64))),((((qh v17 (IntKind.i64.wrap ((IntKind.i64.wrap (v1*(v0.2.1:Int)))+(IntKind.i64.wrap (v3*(v2.2.1:Int))))) true).1).2).1:Int),((((qh v17 (IntKind.i64.wrap ((IntKind.i64.wrap (v1*(v0.2.1:Int)))+(IntKind.i64.wrap (v3*(v2.2.1:Int))))) true).1).2).2:Bool)),((qh v17 (IntKind.i64.wrap ((IntKind.i64.wrap (v1*(v0.2.1:Int)))+(IntKind.i64.wrap (v3*(v2.2.1:Int))))) true).2:Bool),())))else (bif (v2.2.2:Bool)then (chk (qap v17 (IntKind.i64.wrap ((IntKind.i64.wrap (v1*(v0.2.1:Int)))+(IntKind.i64.wrap (v3*(v2.2.1:Int))))) (decide ((0:Int)<v3))) (some (((((qh v17 (IntKind.i64.wrap ((IntKind.i64.wrap (v1*(v0.2.1:Int)))+(IntKind.i64.wrap (v3*(v2.2.1:Int))))) (decide ((0:Int)<v3))).1).1:List (Val (.int .i64))),((((qh v17 (IntKind.i64.wrap ((IntKind.i64.wrap (v1*(v0.2.1:Int)))+(IntKind.i64.wrap (v3*(v2.2.1:Int))))) (decide ((0:Int)<v3))).1).2).1:Int),((((qh v17 (IntKind.i64.wrap ((IntKind.i64.wrap (v1*(v0.2.1:Int)))+(IntKind.i64.wrap (v3*(v2.2.1:Int))))) (decide ((0:Int)<v3))).1).2).2:Bool)),((qh v17 (IntKind.i64.wrap ((IntKind.i64.wrap (v1*(v0.2.1:Int)))+(IntKind.i64.wrap (v3*(v2.2.1:Int))))) (decide ((0:Int)<v3))).2:Bool),())))else (chk (qap v17 (IntKind.i64.wrap ((IntKind.i64.wrap (v1*(v0.2.1:Int)))+(IntKind.i64.wrap (v3*(v2.2.1:Int))))) false) (some (((((qh v17 (IntKind.i64.wrap ((IntKind.i64.wrap (v1*(v0.2.1:Int)))+(IntKind.i64.wrap (v3*(v2.2.1:Int))))) false).1).1:List (Val (.int .i64))),((((qh v17 (IntKind.i64.wrap ((IntKind.i64.wrap (v1*(v0.2.1:Int)))+(IntKind.i64.wrap (v3*(v2.2.1:Int))))) false).1).2).1:Int),((((qh v17 (IntKind.i64.wrap ((IntKind.i64.wrap (v1*(v0.2.1:Int)))+(IntKind.i64.wrap (v3*(v2.2.1:Int))))) false).1).2).2:Bool)),((qh v17 (IntKind.i64.wrap ((IntKind.i64.wrap (v1*(v0.2.1:Int)))+(IntKind.i64.wrap (v3*(v2.2.1:Int))))) false).2:Bool),())))))else (bif (v2.2.2:Bool)then (chk (qap v17 (IntKind.i64.wrap ((IntKind.i64.wrap (v1*(v0.2.1:Int)))+(IntKind.i64.wrap (v3*(v2.2.1:Int))))) (decide ((0:Int)<v3))) (some (((((qh v17 (IntKind.i64.wrap ((IntKind.i64.wrap (v1*(v0.2.1:Int)))+(IntKind.i64.wrap (v3*(v2.2.1:Int))))) (decide ((0:Int)<v3))).1).1:List (Val (.int .i64))),((((qh v17 (IntKind.i64.wrap ((IntKind.i64.wrap (v1*(v0.2.1:Int)))+(IntKind.i64.wrap (v3*(v2.2.1:Int))))) (decide ((0:Int)<v3))).1).2).1:Int),((((qh v17 (IntKind.i64.wrap ((IntKind.i64.wrap (v1*(v0.2.1:Int)))+(IntKind.i64.wrap (v3*(v2.2.1:Int))))) (decide ((0:Int)<v3))).1).2).2:Bool)),((qh v17 (IntKind.i64.wrap ((IntKind.i64.wrap (v1*(v0.2.1:Int)))+(IntKind.i64.wrap (v3*(v2.2.1:Int))))) (decide ((0:Int)<v3))).2:Bool),())))else (chk (qap v17 (IntKind.i64.wrap ((IntKind.i64.wrap (v1*(v0.2.1:Int)))+(IntKind.i64.wrap (v3*(v2.2.1:Int))))) false) (some (((((qh v17 (IntKind.i64.wrap ((IntKind.i64.wrap (v1*(v0.2.1:Int)))+(IntKind.i64.wrap (v3*(v2.2.1:Int))))) false).1).1:List (Val (.int .i64))),((((qh v17 (IntKind.i64.wrap ((IntKind.i64.wrap (v1*(v0.2.1:Int)))+(IntKind.i64.wrap (v3*(v2.2.1:Int))))) false).1).2).1:Int),((((qh v17 (IntKind.i64.wrap ((IntKind.i64.wrap (v1*(v0.2.1:Int)))+(IntKind.i64.wrap (v3*(v2.2.1:Int))))) false).1).2).2:Bool)),((qh v17 (IntKind.i64.wrap ((IntKind.i64.wrap (v1*(v0.2.1:Int)))+(IntKind.i64.wrap (v3*(v2.2.1:Int))))) false).2:Bool),()))))) N (0:Int) ([]:List (Val (.int .i64))))))))
def qiO:Gam:=[(118,qam),(149,qbt),(193,qbs)]
theorem qQP:Gam.get qiO 118=some qam:=rfl
theorem qF1:Gam.get qiO 149=some qbt:=rfl
theorem qM1:Gam.get qiO 193=some qbs:=rfl
def qrp:Nm:=⟨[false,true,false,true,true,false,true,false,true,false,true,true],[],false⟩
theorem qXs:qrp.zero=false:=rfl
theorem qGT:qrp.fix=[]:=rfl
theorem qIa:qrp.keep=[false,true,false,true,true,false,true,false,true,false,true,true]:=rfl
def qEq:Nm:=⟨[false,true,false,true,true,false,true,false,true,false,true],[],false⟩
theorem qO0:qEq.zero=false:=rfl
theorem qVh:qEq.fix=[]:=rfl
theorem qK6:qEq.keep=[false,true,false,true,true,false,true,false,true,false,true]:=rfl
def qpl:Nat→Tree:=fun i=>if i=7 then .quiet 1 (.quiet 2 (.quiet 3 (.quiet 4 (.quiet 5 (.quiet 6 (.quiet 7 (.quiet 8 (.quiet 9 (.quiet 10 (.quiet 11 (.quiet 12 (.quiet 13 (.quiet 14 (.quiet 15 (.first 0 (.alt 16 (.alt 17 (.quiet 18 .done) .stop) .stop))))))))))))))))else .done
def qqZ:Nat→Nm:=fun i=>if i=5 then qrp else ⟨[],[],false⟩
def qth:Nat→Option Jn:=fun _=>none
def qpG:Nat→Option Nm:=fun i=>if i=0 then some qEq else none
def qu8:Nat→Option Nm:=fun _=>none
theorem q71:qn qpl (Tryz.f235.body.getD .skip)=true:=by kernel_rfl
def qc2 (N:Nat):Tab:={tr:=qpl,lp:=qqZ,ex:=qpG,rg:=qu8,jn:=qth,fuel:=N}
theorem qFL (N:Nat):(qc2 N).pins=false:=rfl
theorem q6X (N:Nat):qp Tryz.prog (qc2 N):=qv fun _=>rfl
theorem qTo (N:Nat) (i:Nat):(qc2 N).tr i=qpl i:=rfl
theorem qWB (N:Nat) (i:Nat):(qc2 N).lp i=qqZ i:=rfl
theorem qPp (N:Nat) (i:Nat):(qc2 N).ex i=qpG i:=rfl
theorem qL8 (N:Nat) (i:Nat):(qc2 N).rg i=qu8 i:=rfl
theorem qKJ (N:Nat) (i:Nat):(qc2 N).jn i=qth i:=rfl
theorem qVx (N:Nat):(qc2 N).fuel=N:=rfl
noncomputable def q09:Code:=cut [true,true,true,false,true,true,true] (Tryz.f235.body.getD .skip)
theorem zcd {N:Nat} {Q:X→St→Option (qc [qr,i4])} {e:List LV} {h:List Blk}:qe tt qiO (qc2 N) q09 Q ⟨e,h⟩=qe tt qiO (qc2 N) (cut [true,true,true,false,true,true,true] (Tryz.f235.body.getD .skip)) Q ⟨e,h⟩:=rfl
theorem zg4 (N:Nat) (v4:Int) (v5:Int) (v7:List (Val (.int .i64))) (v8:Int) (v9:Bool) (v10:List (Val (.int .i64))) (v11:Int) (v12:Bool) (v13:Int) (v14:Bool) {k0:(List (Val (.int .i64)))→Option (qc [qr,i4])} {Q:X→St→Option (qc [qr,i4])} {c:Code} (hc:c=q09) (hret: ∀st,Q .ret st=qI tt true [qr,i4] [.cell 8 108,.tmp 9] st) (h0: ∀(v16:List (Val (.int .i64))),Q (.exit 0) ⟨[u,.one (.int .i64 v4),u,.one (.int .i64 v5),.one (.ptr 0 0 0),u,.one (.ptr 1 0 0),u,.one (.ptr 2 0 0),u,.one (.own 3),u,u,u,u,u,u,u,u,u,u,u,u,u,u,u,u,u,u,u,u,u,u,u,u,u,u,u,u,u,u,u,u,u,u,u,u,u,u,u,u,u,u,u,u,u,u,u,u,u,u,u,u,u,u,u,u,u,u,u,u,u,u,u,u,u,u,u,u,u,u,u,u,u,u,u,u,u,u,u,u,u,u,u,u,u,u,u],[.box [.sl 3 (.int .i64) v7 4,.int .i64 v8,.bool v9],.box [.sl 3 (.int .i64) v10 4,.int .i64 v11,.bool v12],.box [.nils,.int .i64 v13,.bool v14],.row 3 (.int .i64) v16 true true 0]⟩=k0 v16): ∀(n:Nat) (v6:Int) (v15:List (Val (.int .i64))),qE (qe tt qiO (qc2 N) c) false qrp Q n ⟨[u,.one (.int .i64 v4),u,.one (.int .i64 v5),.one (.ptr 0 0 0),u,.one (.ptr 1 0 0),u,.one (.ptr 2 0 0),u,.one (.own 3),.one (.int .i64 v6),u,u,u,u,u,u,u,u,u,u,u,u,u,u,u,u,u,u,u,u,u,u,u,u,u,u,u,u,u,u,u,u,u,u,u,u,u,u,u,u,u,u,u,u,u,u,u,u,u,u,u,u,u,u,u,u,u,u,u,u,u,u,u,u,u,u,u,u,u,u,u,u,u,u,u,u,u,u,u,u,u,u,u,u,u,u],[.box [.sl 3 (.int .i64) v7 4,.int .i64 v8,.bool v9],.box [.sl 3 (.int .i64) v10 4,.int .i64 v11,.bool v12],.box [.nils,.int .i64 v13,.bool v14],.row 3 (.int .i64) v15 true true 0]⟩=qiW N v4 v5 v7 v8 v9 v10 v11 v12 v13 v14 k0 n v6 v15:=by
 subst hc;intro n;induction n with
 | zero=>intros;rfl
 | succ n ih=>
   intro v6 v15
   rw [qN,zcd,qiW];unfold Tryz.f235
   simp (maxSteps:=10000000) -implicitDefEqProofs [qTo,qpl,qWB,qqZ,qPp,qpG,qL8,qu8,qKJ,qth,qVx,qFL,qGT,qIa,qXs,qVh,qK6,qO0,qQP,qF1,qM1,qam,qbt,qbs,hret,h0,ih]
theorem q86 (N:Nat) (v0:Val qa) (v1:Int) (v2:Val qa) (v3:Int):qe tt qiO (qc2 N) (Tryz.f235.body.getD .skip) (qt tt true [qr,i4] [.cell 8 108,.tmp 9]) (qw [qr,i3,qr,i3] 98 (v0,v1,v2,v3,()))=qxJ N v0 v1 v2 v3:=by
 unfold Tryz.f235
 simp (maxSteps:=10000000) -implicitDefEqProofs [qTo,qpl,qWB,qqZ,qPp,qpG,qL8,qu8,qKJ,qth,qVx,qFL,qGT,qIa,qXs,qVh,qK6,qO0,qQP,qF1,qM1,qam,qbt,qbs]
 rewrite [zg4 (k0:=(fun (v17:List (Val (.int .i64)))=>bif (v0.2.2:Bool)then (bif (decide ((0:Int)<v1))then (chk (qap v17 (IntKind.i64.wrap ((IntKind.i64.wrap (v1*(v0.2.1:Int)))+(IntKind.i64.wrap (v3*(v2.2.1:Int))))) true) (some (((((qh v17 (IntKind.i64.wrap ((IntKind.i64.wrap (v1*(v0.2.1:Int)))+(IntKind.i64.wrap (v3*(v2.2.1:Int))))) true).1).1:List (Val (.int .i64))),((((qh v17 (IntKind.i64.wrap ((IntKind.i64.wrap (v1*(v0.2.1:Int)))+(IntKind.i64.wrap (v3*(v2.2.1:Int))))) true).1).2).1:Int),((((qh v17 (IntKind.i64.wrap ((IntKind.i64.wrap (v1*(v0.2.1:Int)))+(IntKind.i64.wrap (v3*(v2.2.1:Int))))) true).1).2).2:Bool)),((qh v17 (IntKind.i64.wrap ((IntKind.i64.wrap (v1*(v0.2.1:Int)))+(IntKind.i64.wrap (v3*(v2.2.1:Int))))) true).2:Bool),())))else (bif (v2.2.2:Bool)then (chk (qap v17 (IntKind.i64.wrap ((IntKind.i64.wrap (v1*(v0.2.1:Int)))+(IntKind.i64.wrap (v3*(v2.2.1:Int))))) (decide ((0:Int)<v3))) (some (((((qh v17 (IntKind.i64.wrap ((IntKind.i64.wrap (v1*(v0.2.1:Int)))+(IntKind.i64.wrap (v3*(v2.2.1:Int))))) (decide ((0:Int)<v3))).1).1:List (Val (.int .i64))),((((qh v17 (IntKind.i64.wrap ((IntKind.i64.wrap (v1*(v0.2.1:Int)))+(IntKind.i64.wrap (v3*(v2.2.1:Int))))) (decide ((0:Int)<v3))).1).2).1:Int),((((qh v17 (IntKind.i64.wrap ((IntKind.i64.wrap (v1*(v0.2.1:Int)))+(IntKind.i64.wrap (v3*(v2.2.1:Int))))) (decide ((0:Int)<v3))).1).2).2:Bool)),((qh v17 (IntKind.i64.wrap ((IntKind.i64.wrap (v1*(v0.2.1:Int)))+(IntKind.i64.wrap (v3*(v2.2.1:Int))))) (decide ((0:Int)<v3))).2:Bool),())))else (chk (qap v17 (IntKind.i64.wrap ((IntKind.i64.wrap (v1*(v0.2.1:Int)))+(IntKind.i64.wrap (v3*(v2.2.1:Int))))) false) (some (((((qh v17 (IntKind.i64.wrap ((IntKind.i64.wrap (v1*(v0.2.1:Int)))+(IntKind.i64.wrap (v3*(v2.2.1:Int))))) false).1).1:List (Val (.int .i64))),((((qh v17 (IntKind.i64.wrap ((IntKind.i64.wrap (v1*(v0.2.1:Int)))+(IntKind.i64.wrap (v3*(v2.2.1:Int))))) false).1).2).1:Int),((((qh v17 (IntKind.i64.wrap ((IntKind.i64.wrap (v1*(v0.2.1:Int)))+(IntKind.i64.wrap (v3*(v2.2.1:Int))))) false).1).2).2:Bool)),((qh v17 (IntKind.i64.wrap ((IntKind.i64.wrap (v1*(v0.2.1:Int)))+(IntKind.i64.wrap (v3*(v2.2.1:Int))))) false).2:Bool),())))))else (bif (v2.2.2:Bool)then (chk (qap v17 (IntKind.i64.wrap ((IntKind.i64.wrap (v1*(v0.2.1:Int)))+(IntKind.i64.wrap (v3*(v2.2.1:Int))))) (decide ((0:Int)<v3))) (some (((((qh v17 (IntKind.i64.wrap ((IntKind.i64.wrap (v1*(v0.2.1:Int)))+(IntKind.i64.wrap (v3*(v2.2.1:Int))))) (decide ((0:Int)<v3))).1).1:List (Val (.int .i64))),((((qh v17 (IntKind.i64.wrap ((IntKind.i64.wrap (v1*(v0.2.1:Int)))+(IntKind.i64.wrap (v3*(v2.2.1:Int))))) (decide ((0:Int)<v3))).1).2).1:Int),((((qh v17 (IntKind.i64.wrap ((IntKind.i64.wrap (v1*(v0.2.1:Int)))+(IntKind.i64.wrap (v3*(v2.2.1:Int))))) (decide ((0:Int)<v3))).1).2).2:Bool)),((qh v17 (IntKind.i64.wrap ((IntKind.i64.wrap (v1*(v0.2.1:Int)))+(IntKind.i64.wrap (v3*(v2.2.1:Int))))) (decide ((0:Int)<v3))).2:Bool),())))else (chk (qap v17 (IntKind.i64.wrap ((IntKind.i64.wrap (v1*(v0.2.1:Int)))+(IntKind.i64.wrap (v3*(v2.2.1:Int))))) false) (some (((((qh v17 (IntKind.i64.wrap ((IntKind.i64.wrap (v1*(v0.2.1:Int)))+(IntKind.i64.wrap (v3*(v2.2.1:Int))))) false).1).1:List (Val (.int .i64))),((((qh v17 (IntKind.i64.wrap ((IntKind.i64.wrap (v1*(v0.2.1:Int)))+(IntKind.i64.wrap (v3*(v2.2.1:Int))))) false).1).2).1:Int),((((qh v17 (IntKind.i64.wrap ((IntKind.i64.wrap (v1*(v0.2.1:Int)))+(IntKind.i64.wrap (v3*(v2.2.1:Int))))) false).1).2).2:Bool)),((qh v17 (IntKind.i64.wrap ((IntKind.i64.wrap (v1*(v0.2.1:Int)))+(IntKind.i64.wrap (v3*(v2.2.1:Int))))) false).2:Bool),())))))) N _ _ _ _ _ _ _ _ _ _ ?_ ?_ ?_]
 ·rewrite [qxJ];first | rfl | simp (maxSteps:=10000000) -implicitDefEqProofs []
 ·rfl
 ·intro;simp only [qJ,qL,qK,qB]
 ·intro v17;simp (maxSteps:=10000000) -implicitDefEqProofs [qTo,qpl,qWB,qqZ,qPp,qpG,qL8,qu8,qKJ,qth,qVx,qFL,qGT,qIa,qXs,qVh,qK6,qO0,qQP,qF1,qM1,qam,qbt,qbs]
theorem qDc {p q x y:Int} (hp:0≤p∧p≤400000000) (hq:0≤q∧q≤400000000) (hx: -400000000≤x∧x≤400000000) (hy: -400000000≤y∧y≤400000000):
 IntKind.i64.wrap (IntKind.i64.wrap (p*x)+IntKind.i64.wrap (q*y))=p*x+q*y∧inI (p*x+q*y):=by
 have h1:(p*x).natAbs≤400000000*400000000:=by rw [Int.natAbs_mul];exact Nat.mul_le_mul (by omega) (by omega)
 have h2:(q*y).natAbs≤400000000*400000000:=by rw [Int.natAbs_mul];exact Nat.mul_le_mul (by omega) (by omega)
 generalize p*x=u at*
 generalize q*y=v at*
 rw [qaq (n:=u) (by omega) (by omega),qaq (n:=v) (by omega) (by omega),qaq (by omega) (by omega)]
 exact ⟨rfl,by unfold inI;omega⟩
theorem q5C {p q:Int} (hp:0≤p∧p≤400000000) (hq:0≤q∧q≤400000000) {xs ys:List Int} (hx: ∀x∈xs, -400000000≤x∧x≤400000000) (hy: ∀x∈ys, -400000000≤x∧x≤400000000): ∀z∈qbz p q xs ys,inI z:=by
 intro z hz
 obtain ⟨⟨x,y⟩,hm,rfl⟩:=List.mem_map.1 hz
 obtain ⟨h1,h2⟩:=List.of_mem_zip hm
 exact (qDc hp hq (hx x h1) (hy y h2)).2
theorem qtD {p q:Int} {xs ys:List Int} (h:xs.length=ys.length):(qbz p q xs ys).length=xs.length:=by simp [qbz,h]
theorem zht (N:Nat) (p q:Int) (hp:0≤p∧p≤400000000) (hq:0≤q∧q≤400000000) (xs ys:List (Val (.int .i64))) (c:Int) (s:Bool) (c':Int) (s':Bool) (d:Int) (e:Bool) (K:List (Val (.int .i64))→Option (qc [qr,i4])) (hl:xs.length≤1048576) (hxy:xs.length=ys.length)
 (hx: ∀x∈(xs:List Int), -400000000≤x∧x≤400000000) (hy: ∀x∈(ys:List Int), -400000000≤x∧x≤400000000) (n:Nat) (hn:xs.length<n):
 qiN N p q xs.length xs c s ys c' s' d e K n 0 (List.replicate xs.length (qb (.int .i64)))=K (qbz p q xs ys):=by
 have hm:=qtD (p:=p) (q:=q) hxy
 have:=qmK (xs:=(qbz p q xs ys:List (Val (.int .i64)))) (F:=fun n i v=>qiN N p q xs.length xs c s ys c' s' d e K n i v) (k:=K) (qb (.int .i64)) (by rw [hm];exact hl) (fun n i v hi hv=> ?_) (fun n i v hi=> ?_) n (by rw [hm];exact hn)
 ·rw [hm]at this;exact this
 ·have hi:i<xs.length:=by rw [hm]at hi;exact hi
  have hv:v.length=xs.length:=by rw [hm]at hv;exact hv
  have hi2:i<ys.length:=by omega
  rw [qiN,qk (by omega),qd (by omega),qd (by omega),qd (by omega),qd (by simp;omega),qF hi,qF hi2,(qDc hp hq (hx _ (List.getElem_mem hi)) (hy _ (List.getElem_mem hi2))).1]
  have e:(qbz p q xs ys)[i]=p*xs[i]+q*ys[i]:=by simp [qbz]
  simp only [e,Int.toNat_natCast]
 ·have hi:xs.length≤i:=by rw [hm]at hi;exact hi
  rw [qiN,qj (by omega)]
theorem zgR (N:Nat) (p q:Int) (hp:0≤p∧p≤400000000) (hq:0≤q∧q≤400000000) (xs ys:List (Val (.int .i64))) (c:Int) (s:Bool) (c':Int) (s':Bool) (d:Int) (e:Bool) (K:List (Val (.int .i64))→Option (qc [qr,i4])) (hl:xs.length≤1048576) (hxy:xs.length=ys.length)
 (hx: ∀x∈(xs:List Int), -400000000≤x∧x≤400000000) (hy: ∀x∈(ys:List Int), -400000000≤x∧x≤400000000) (n:Nat) (hn:xs.length<n):
 qiW N p q xs c s ys c' s' d e K n 0 []=K (qbz p q xs ys):=by
 have hz:(List.zip (α:=Int) (β:=Int) xs ys).length=xs.length:=by simp [hxy]
 refine (qaP (xs:=List.zip (α:=Int) (β:=Int) xs ys) (F:=fun n i v=>qiW N p q xs c s ys c' s' d e K n i v) (step:=fun _ z (v:List (Val (.int .i64))) K=>chk (v.length+[p*z.1+q*z.2].length≤1048576) (K (v++[p*z.1+q*z.2]))) (k:=K) (by omega) (fun n i v hi=> ?_) (fun n i v hi=> ?_) n _ (by omega)).trans ((qMr (f:=fun (z:Int×Int)=>p*z.1+q*z.2) (k:=K) (List.zip (α:=Int) (β:=Int) xs ys) 0 [] (by simp;omega)).trans ?_)
 ·have hi1:i<xs.length:=by omega
  have hi2:i<ys.length:=by omega
  rw [qiW,qk (by omega),qd (by omega),qd (by omega),qF hi1,qF hi2,(qDc hp hq (hx _ (List.getElem_mem hi1)) (hy _ (List.getElem_mem hi2))).1]
  simp only [List.getElem_zip]
 ·rw [qiW,qj (by omega)]
 ·rw [List.nil_append];rfl
theorem qhq {x a b:Int} (h:a≤x∧x≤b):inR x a b=true:=decide_eq_true h
theorem qiU {x a b:Int} (h: ¬(a≤x∧x≤b)):inR x a b=false:=decide_eq_false h
theorem qmt {a:Val qa} (h:qG a=true): ∀x∈(a.1:List Int), @LE.le Int _ (-400000000) x∧ @LE.le Int _ x 400000000:=(qbv h).2.2
theorem q3x {p q:Int} (hp:0≤p∧p≤400000000) (hq:0≤q∧q≤400000000) {a b:Val qa} (ha:qG a=true) (hb:qG b=true) (hl:List.length (α:=Int) a.1=List.length (α:=Int) b.1) (s:Bool):
 IntKind.i64.wrap (IntKind.i64.wrap (p*(a.2.1:Int))+IntKind.i64.wrap (q*(b.2.1:Int)))=p*a.2.1+q*b.2.1∧qap (qbz p q a.1 b.1) (p*a.2.1+q*b.2.1) s:=by
 obtain ⟨h1,h2⟩:=qDc hp hq (qfI ha) (qfI hb)
 have h4:=(qbv ha).1
 have hm:=qtD (p:=p) (q:=q) hl
 exact ⟨h1,⟨by have:(qbz p q a.1 b.1).length≤1048576:=by omega
               exact this,h2,q5C hp hq (qmt ha) (qmt hb)⟩⟩
theorem q6o (a:Val qa) (p:Int) (b:Val qa) (q:Int): ∃N,qxL N a p b q=some ((q4 a p b q).1,(q4 a p b q).2,()):=⟨List.length (α:=Int) a.1+1,by
 rw [qxL]
 unfold q4
 cases ha:qG a with
 | false=>rfl
 | true=>
 cases hb:qG b with
 | false=>rfl
 | true=>
 by_cases hl:List.length (α:=Int) a.1=List.length (α:=Int) b.1
 ·have hlI:((List.length (α:=Val (.int .i64)) a.1:Int)=(List.length (α:=Val (.int .i64)) b.1:Int)):=congrArg Int.ofNat hl
  by_cases hp:0≤p∧p≤400000000
  ·by_cases hq:0≤q∧q≤400000000
   ·rw [qhq hp,qhq hq,decide_eq_true hl,decide_eq_true hlI,qj (show ¬p<0 by omega),qj (show ¬400000000<p by omega),qj (show ¬q<0 by omega),qj (show ¬400000000<q by omega)]
    simp only [Bool.not_true,cond_false,cond_true,Bool.and_self]
    have h4:=(qbv ha).1
    rw [qd (qiq (by omega)),Int.toNat_natCast,List.length_replicate,zht _ p q hp hq a.1 b.1 _ _ _ _ _ _ _ (by omega) hl (qmt ha) (qmt hb) _ (Nat.lt_succ_self _)]
    have hw:=fun s=>q3x hp hq ha hb hl s
    rw [(hw true).1,qd (hw true).2,qd (hw false).2,qd (hw _).2]
    have ep:(!decide (p=0))=decide (0<p):=by by_cases h:p=0<;>simp [h]<;>omega
    have eq':(!decide (q=0))=decide (0<q):=by by_cases h:q=0<;>simp [h]<;>omega
    rw [ep,eq']
    cases a.2.2<;>cases b.2.2<;>cases decide (0<p)<;>cases decide (0<q)<;>rfl
   ·rw [qiU hq,decide_eq_true hlI,qj (show ¬p<0 by omega),qj (show ¬400000000<p by omega)]
    simp only [Bool.not_true,cond_false,Bool.and_false]
    by_cases hq0:q<0
    ·rw [qk hq0]
    ·rw [qj hq0,qk (show 400000000<q by omega)]
  ·rw [qiU hp,decide_eq_true hlI]
   simp only [Bool.not_true,cond_false,Bool.and_false,Bool.false_and]
   by_cases hp0:p<0
   ·rw [qk hp0]
   ·rw [qj hp0,qk (show 400000000<p by omega)]
 ·have hlI: ¬((List.length (α:=Val (.int .i64)) a.1:Int)=(List.length (α:=Val (.int .i64)) b.1:Int)):=fun h=>hl (Int.ofNat.inj h)
  rw [decide_eq_false hl,decide_eq_false hlI]
  rfl⟩
theorem q6U:Sound Tryz.prog 293 qfy:=qx (tt:=tt) (Γ:=qlk) hT (qg qQU (qg qxq qu)) hm (fn:=Tryz.f293) Tryz.func293 (c:=Tryz.f293.body.getD .skip) (by kernel_rfl) (by kernel_rfl) fun x hx=>by
 obtain ⟨N,h⟩:=q6o x.1 x.2.1 x.2.2.1 x.2.2.2.1
 exact ⟨qdf N,q8M,qy _,zaa N,(zdP N x.1 x.2.1 x.2.2.1 x.2.2.2.1).trans h⟩
theorem zlE (a:Val qa) (p:Int) (b:Val qa) (q:Int) (h:qDQ a p b q): ∃N,qxJ N a p b q=some ((q4 a p b q).1,(q4 a p b q).2,()):=⟨List.length (α:=Int) a.1+1,by
 rw [qxJ]
 unfold q4
 cases ha:qG a with
 | false=>rfl
 | true=>
 cases hb:qG b with
 | false=>rfl
 | true=>
 by_cases hl:List.length (α:=Int) a.1=List.length (α:=Int) b.1
 ·have hlI:((List.length (α:=Val (.int .i64)) a.1:Int)=(List.length (α:=Val (.int .i64)) b.1:Int)):=congrArg Int.ofNat hl
  by_cases hp:0≤p∧p≤400000000
  ·by_cases hq:0≤q∧q≤400000000
   ·rw [qhq hp,qhq hq,decide_eq_true hl,decide_eq_true hlI]
    simp only [Bool.not_true,cond_false,cond_true,Bool.and_self]
    have h4:=(qbv ha).1
    rw [zgR _ p q hp hq a.1 b.1 _ _ _ _ _ _ _ (by omega) hl (qmt ha) (qmt hb) _ (Nat.lt_succ_self _)]
    have hw:=fun s=>q3x hp hq ha hb hl s
    rw [(hw true).1,qd (hw true).2,qd (hw false).2,qd (hw _).2]
    cases a.2.2<;>cases b.2.2<;>cases decide (0<p)<;>cases decide (0<q)<;>rfl
   ·rw [qiU hq,qhq hp,decide_eq_true hlI]
    simp only [Bool.not_true,Bool.not_false,cond_false,cond_true,Bool.and_false]
  ·rw [qiU hp,decide_eq_true hlI]
   simp only [Bool.not_true,Bool.not_false,cond_false,cond_true,Bool.and_false,Bool.false_and]
 ·have hlI: ¬((List.length (α:=Val (.int .i64)) a.1:Int)=(List.length (α:=Val (.int .i64)) b.1:Int)):=fun h=>hl (Int.ofNat.inj h)
  rw [decide_eq_false hl,decide_eq_false hlI]
  rfl⟩
theorem zjl:Sound Tryz.prog 235 qf2:=qx (tt:=tt) (Γ:=qiO) hT (qg qh1 (qg qzu (qg qEg qu))) hm (fn:=Tryz.f235) Tryz.func235 (c:=Tryz.f235.body.getD .skip) (by kernel_rfl) (by kernel_rfl) fun x hx=>by
 obtain ⟨N,h⟩:=zlE x.1 x.2.1 x.2.2.1 x.2.2.2.1 hx
 exact ⟨qc2 N,q71,qy _,q6X N,(q86 N x.1 x.2.1 x.2.2.1 x.2.2.2.1).trans h⟩
end Go.T
