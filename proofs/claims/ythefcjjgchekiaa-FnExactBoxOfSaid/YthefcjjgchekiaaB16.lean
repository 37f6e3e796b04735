/- Bounds of a variable in a cell. -/
import Derived.Test.YthefcjjgchekiaaB15
set_option linter.unusedSimpArgs false
set_option linter.unusedVariables false
namespace Go.T
open Go Go.Proofs
set_option maxHeartbeats 4000000
set_option maxRecDepth 100000
def qC (c:Val Y32) (v:Int):Val Y66×Bool:=bif qac c&&decide (0≤v∧v<(c.1:Int))then (match qcL v (c.1:Int).toNat (qX c.1 c.2)with
    | some x=>(qaE x v,true)
    | none=>(noB,false))else (noB,false)
def qnt (c:Val Y32) (_:Int):Prop:=qda c
def g41:G:={ps:=[i32,i3],rs:=[i66,i4],dp:=true,pre:=fun _=>True,fn:=fun x=>((qC x.1 x.2.1).1,(qC x.1 x.2.1).2,())}
def g39:G:={ps:=[i32,i3],rs:=[i66,i4],dp:=true,pre:=fun x=>qnt x.1 x.2.1,fn:=fun x=>((qC x.1 x.2.1).1,(qC x.1 x.2.1).2,())}
noncomputable def qeU (N:Nat) (v2:Int) (v4:Bool) (v5:Int) (v6:Int) (v7:Bool) (v8:Bool) (v9:Int) (v10:Int) (v11:Bool) (v12:Bool) (k0:Int→(List (Val Y36))→Option (qb [i66,i4])):Nat→Int→Int→(List (Val Y36))→Option (qb [i66,i4])
 | 0,_,_,_=>none
 | n+1,v3,v13,v14=>bif (decide ((0:Int)≤v3))then (bif (decide (v3=v2))then (qeU N v2 v4 v5 v6 v7 v8 v9 v10 v11 v12 k0 n (IntKind.i64.wrap (v3 - (1:Int))) v13 v14)else (bif (!((qdg (v13,v14) v3).2:Bool))then (some ((false,((0:Int),(0:Int)),false,false,((0:Int),(0:Int)),false,false),false,()))else (qeU N v2 v4 v5 v6 v7 v8 v9 v10 v11 v12 k0 n (IntKind.i64.wrap (v3 - (1:Int))) (((qdg (v13,v14) v3).1).1:Int) (((qdg (v13,v14) v3).1).2:List (Val Y36)))))else (k0 v13 v14)
noncomputable def m41 (N:Nat) (v0:Val Y32) (v1:Int):Option (qb [i66,i4]):=bif (!((qac v0):Bool))then (some ((false,((0:Int),(0:Int)),false,false,((0:Int),(0:Int)),false,false),false,()))else (bif (decide (v1<(0:Int)))then (some ((false,((0:Int),(0:Int)),false,false,((0:Int),(0:Int)),false,false),false,()))else (bif (decide ((v0.1:Int)≤v1))then (some ((false,((0:Int),(0:Int)),false,false,((0:Int),(0:Int)),false,false),false,()))else (chk (qco (v0.1:Int) (v0.2:List (Val Y36))) (qeU N v1 false (0:Int) (0:Int) false false (0:Int) (0:Int) false false (fun (v17:Int) (v18:List (Val Y36))=>chk (qjr (v17,v18)) (bif ((qec (v17,v18)):Bool)then (some ((false,((0:Int),(0:Int)),false,false,((0:Int),(0:Int)),false,true),true,()))else (chk (qmH (v17,v18) v1) (bif ((qg (v17,v18) v1).1:Bool)then (bif (((((qg (v17,v18) v1).2).2).2).1:Bool)then (bif (decide ((0:Int)<((qaL (((((qg (v17,v18) v1).2).1).1:Int),((((qg (v17,v18) v1).2).1).2:Int)) ((((((((qg (v17,v18) v1).2).2).2).2).1).1:Int),(((((((qg (v17,v18) v1).2).2).2).2).1).2:Int))):Int)))then (some ((false,((0:Int),(0:Int)),false,false,((0:Int),(0:Int)),false,true),true,()))else (bif (decide (((qaL (((((qg (v17,v18) v1).2).1).1:Int),((((qg (v17,v18) v1).2).1).2:Int)) ((((((((qg (v17,v18) v1).2).2).2).2).1).1:Int),(((((((qg (v17,v18) v1).2).2).2).2).1).2:Int))):Int)=(0:Int)))then (bif ((((qg (v17,v18) v1).2).2).1:Bool)then (some ((false,((0:Int),(0:Int)),false,false,((0:Int),(0:Int)),false,true),true,()))else (bif (((((((qg (v17,v18) v1).2).2).2).2).2).1:Bool)then (some ((false,((0:Int),(0:Int)),false,false,((0:Int),(0:Int)),false,true),true,()))else (some ((((qg (v17,v18) v1).1:Bool),(((((qg (v17,v18) v1).2).1).1:Int),((((qg (v17,v18) v1).2).1).2:Int)),((((qg (v17,v18) v1).2).2).1:Bool),(((((qg (v17,v18) v1).2).2).2).1:Bool),((((((((qg (v17,v18) v1).2).2).2).2).1).1:Int),(((((((qg (v17,v18) v1).2).2).2).2).1).2:Int)),(((((((qg (v17,v18) v1).2).2).2).2).2).1:Bool),(((((((qg (v17,v18) v1).2).2).2).2).2).2:Bool)),true,()))))else (some ((((qg (v17,v18) v1).1:Bool),(((((qg (v17,v18) v1).2).1).1:Int),((((qg (v17,v18) v1).2).1).2:Int)),((((qg (v17,v18) v1).2).2).1:Bool),(((((qg (v17,v18) v1).2).2).2).1:Bool),((((((((qg (v17,v18) v1).2).2).2).2).1).1:Int),(((((((qg (v17,v18) v1).2).2).2).2).1).2:Int)),(((((((qg (v17,v18) v1).2).2).2).2).2).1:Bool),(((((((qg (v17,v18) v1).2).2).2).2).2).2:Bool)),true,()))))else (some ((((qg (v17,v18) v1).1:Bool),(((((qg (v17,v18) v1).2).1).1:Int),((((qg (v17,v18) v1).2).1).2:Int)),((((qg (v17,v18) v1).2).2).1:Bool),(((((qg (v17,v18) v1).2).2).2).1:Bool),((((((((qg (v17,v18) v1).2).2).2).2).1).1:Int),(((((((qg (v17,v18) v1).2).2).2).2).1).2:Int)),(((((((qg (v17,v18) v1).2).2).2).2).2).1:Bool),(((((((qg (v17,v18) v1).2).2).2).2).2).2:Bool)),true,())))else (some ((((qg (v17,v18) v1).1:Bool),(((((qg (v17,v18) v1).2).1).1:Int),((((qg (v17,v18) v1).2).1).2:Int)),((((qg (v17,v18) v1).2).2).1:Bool),(((((qg (v17,v18) v1).2).2).2).1:Bool),((((((((qg (v17,v18) v1).2).2).2).2).1).1:Int),(((((((qg (v17,v18) v1).2).2).2).2).1).2:Int)),(((((((qg (v17,v18) v1).2).2).2).2).2).1:Bool),(((((((qg (v17,v18) v1).2).2).2).2).2).2:Bool)),true,())))))) N (IntKind.i64.wrap ((v0.1:Int) - (1:Int))) ((qX (v0.1:Int) (v0.2:List (Val Y36))).1:Int) ((qX (v0.1:Int) (v0.2:List (Val Y36))).2:List (Val Y36))))))
def Γ41:Gam:=[(40,g40),(52,g52),(53,g53),(54,g54),(55,g55),(56,g56)]
theorem qwz:Gam.get Γ41 40=some g40:=rfl
theorem qws:Gam.get Γ41 52=some g52:=rfl
theorem quf:Gam.get Γ41 53=some g53:=rfl
theorem qv8:Gam.get Γ41 54=some g54:=rfl
theorem qyn:Gam.get Γ41 55=some g55:=rfl
theorem qu8:Gam.get Γ41 56=some g56:=rfl
def qki:Nm:=⟨[false,true,false,false,true,false,true,true],[],false⟩
theorem qxo:qki.zero=false:=rfl
theorem qBv:qki.fix=[]:=rfl
theorem qwC:qki.keep=[false,true,false,false,true,false,true,true]:=rfl
def qo3:Nm:=⟨[false,true,false,false,true,false,true],[],false⟩
theorem qq7:qo3.zero=false:=rfl
theorem qBj:qo3.fix=[]:=rfl
theorem qtC:qo3.keep=[false,true,false,false,true,false,true]:=rfl
def qhc:Nat→Tree:=fun _=> .done
def qk2:Nat→Nm:=fun i=>if i=5 then qki else ⟨[],[],false⟩
def qjx:Nat→Option Jn:=fun _=>none
def qlE:Nat→Option Nm:=fun i=>if i=0 then some qo3 else none
def qjX:Nat→Option Nm:=fun _=>none
theorem p41:ql qhc (Try.f41.body.getD .skip)=true:=by kernel_rfl
def T41 (N:Nat):Tab:={tr:=qhc,lp:=qk2,ex:=qlE,rg:=qjX,jn:=qjx,fuel:=N}
theorem qr6 (N:Nat):(T41 N).pins=false:=rfl
theorem qML (N:Nat):qm Try.prog (T41 N):=qu fun _=>rfl
theorem qrG (N:Nat) (i:Nat):(T41 N).tr i=qhc i:=rfl
theorem qrj (N:Nat) (i:Nat):(T41 N).lp i=qk2 i:=rfl
theorem qxG (N:Nat) (i:Nat):(T41 N).ex i=qlE i:=rfl
theorem qru (N:Nat) (i:Nat):(T41 N).rg i=qjX i:=rfl
theorem qrg (N:Nat) (i:Nat):(T41 N).jn i=qjx i:=rfl
theorem qqY (N:Nat):(T41 N).fuel=N:=rfl
noncomputable def qFu:Code:=cut [true,true,true,false,true,true,true] (Try.f41.body.getD .skip)
theorem qLC {N:Nat} {Q:X→St→Option (qb [i66,i4])} {e:List LV} {h:List Blk}:qd tt Γ41 (T41 N) qFu Q ⟨e,h⟩=qd tt Γ41 (T41 N) (cut [true,true,true,false,true,true,true] (Try.f41.body.getD .skip)) Q ⟨e,h⟩:=rfl
theorem qHV (N:Nat) (v2:Int) (v4:Bool) (v5:Int) (v6:Int) (v7:Bool) (v8:Bool) (v9:Int) (v10:Int) (v11:Bool) (v12:Bool) {k0:Int→(List (Val Y36))→Option (qb [i66,i4])} {Q:X→St→Option (qb [i66,i4])} {c:Code} (hc:c=qFu) (hret: ∀st,Q .ret st=qI tt true [i66,i4] [.cell 4 66,.tmp 5] st) (h0: ∀(v15:Int) (v16:List (Val Y36)),Q (.exit 0) ⟨[u,.one (.int .i64 v2),u,u,.one (.ptr 0 0 0),u,.one (.ptr 1 0 0),u,u,u,u,u,u,u,u,u,u,u,u,u,u,u,u,u,u,u,u,u,u,u,u,u,u,u,u,u,u,u,u,u,u,u,u,u,u,u,u,u,u,u,u,u,u,u,u,u,u,u,u,u,u,u,u,u,u,u,u,u,u,u,u,u,u,u,u,u,u,u,u,u,u,u,u,u],[.box [.bool v4,.int .i64 v5,.int .i64 v6,.bool v7,.bool v8,.int .i64 v9,.int .i64 v10,.bool v11,.bool v12],.box [.int .i64 v15,.own 2],.row 36 Y36 v16 true true 0]⟩=k0 v15 v16): ∀(n:Nat) (v3:Int) (v13:Int) (v14:List (Val Y36)),qD (qd tt Γ41 (T41 N) c) false qki Q n ⟨[u,.one (.int .i64 v2),u,u,.one (.ptr 0 0 0),u,.one (.ptr 1 0 0),.one (.int .i64 v3),u,u,u,u,u,u,u,u,u,u,u,u,u,u,u,u,u,u,u,u,u,u,u,u,u,u,u,u,u,u,u,u,u,u,u,u,u,u,u,u,u,u,u,u,u,u,u,u,u,u,u,u,u,u,u,u,u,u,u,u,u,u,u,u,u,u,u,u,u,u,u,u,u,u,u,u],[.box [.bool v4,.int .i64 v5,.int .i64 v6,.bool v7,.bool v8,.int .i64 v9,.int .i64 v10,.bool v11,.bool v12],.box [.int .i64 v13,.own 2],.row 36 Y36 v14 true true 0]⟩=qeU N v2 v4 v5 v6 v7 v8 v9 v10 v11 v12 k0 n v3 v13 v14:=by
 subst hc;intro n;induction n with
 | zero=>intros;rfl
 | succ n ih=>
   intro v3 v13 v14
   rw [qR,qLC,qeU];unfold Try.f41
   simp (maxSteps:=10000000) -implicitDefEqProofs [qrG,qhc,qrj,qk2,qxG,qlE,qru,qjX,qrg,qjx,qqY,qr6,qBv,qwC,qxo,qBj,qtC,qq7,qwz,qws,quf,qv8,qyn,qu8,g40,g52,g53,g54,g55,g56,hret,h0,ih]
theorem qLO (N:Nat) (v0:Val Y32) (v1:Int):qd tt Γ41 (T41 N) (Try.f41.body.getD .skip) (qp tt true [i66,i4] [.cell 4 66,.tmp 5]) (qt [i32,i3] 84 (v0,v1,()))=m41 N v0 v1:=by
 unfold Try.f41
 simp (maxSteps:=10000000) -implicitDefEqProofs [qrG,qhc,qrj,qk2,qxG,qlE,qru,qjX,qrg,qjx,qqY,qr6,qBv,qwC,qxo,qBj,qtC,qq7,qwz,qws,quf,qv8,qyn,qu8,g40,g52,g53,g54,g55,g56]
 rewrite [qHV (k0:=(fun (v17:Int) (v18:List (Val Y36))=>chk (qjr (v17,v18)) (bif ((qec (v17,v18)):Bool)then (some ((false,((0:Int),(0:Int)),false,false,((0:Int),(0:Int)),false,true),true,()))else (chk (qmH (v17,v18) v1) (bif ((qg (v17,v18) v1).1:Bool)then (bif (((((qg (v17,v18) v1).2).2).2).1:Bool)then (bif (decide ((0:Int)<((qaL (((((qg (v17,v18) v1).2).1).1:Int),((((qg (v17,v18) v1).2).1).2:Int)) ((((((((qg (v17,v18) v1).2).2).2).2).1).1:Int),(((((((qg (v17,v18) v1).2).2).2).2).1).2:Int))):Int)))then (some ((false,((0:Int),(0:Int)),false,false,((0:Int),(0:Int)),false,true),true,()))else (bif (decide (((qaL (((((qg (v17,v18) v1).2).1).1:Int),((((qg (v17,v18) v1).2).1).2:Int)) ((((((((qg (v17,v18) v1).2).2).2).2).1).1:Int),(((((((qg (v17,v18) v1).2).2).2).2).1).2:Int))):Int)=(0:Int)))then (bif ((((qg (v17,v18) v1).2).2).1:Bool)then (some ((false,((0:Int),(0:Int)),false,false,((0:Int),(0:Int)),false,true),true,()))else (bif (((((((qg (v17,v18) v1).2).2).2).2).2).1:Bool)then (some ((false,((0:Int),(0:Int)),false,false,((0:Int),(0:Int)),false,true),true,()))else (some ((((qg (v17,v18) v1).1:Bool),(((((qg (v17,v18) v1).2).1).1:Int),((((qg (v17,v18) v1).2).1).2:Int)),((((qg (v17,v18) v1).2).2).1:Bool),(((((qg (v17,v18) v1).2).2).2).1:Bool),((((((((qg (v17,v18) v1).2).2).2).2).1).1:Int),(((((((qg (v17,v18) v1).2).2).2).2).1).2:Int)),(((((((qg (v17,v18) v1).2).2).2).2).2).1:Bool),(((((((qg (v17,v18) v1).2).2).2).2).2).2:Bool)),true,()))))else (some ((((qg (v17,v18) v1).1:Bool),(((((qg (v17,v18) v1).2).1).1:Int),((((qg (v17,v18) v1).2).1).2:Int)),((((qg (v17,v18) v1).2).2).1:Bool),(((((qg (v17,v18) v1).2).2).2).1:Bool),((((((((qg (v17,v18) v1).2).2).2).2).1).1:Int),(((((((qg (v17,v18) v1).2).2).2).2).1).2:Int)),(((((((qg (v17,v18) v1).2).2).2).2).2).1:Bool),(((((((qg (v17,v18) v1).2).2).2).2).2).2:Bool)),true,()))))else (some ((((qg (v17,v18) v1).1:Bool),(((((qg (v17,v18) v1).2).1).1:Int),((((qg (v17,v18) v1).2).1).2:Int)),((((qg (v17,v18) v1).2).2).1:Bool),(((((qg (v17,v18) v1).2).2).2).1:Bool),((((((((qg (v17,v18) v1).2).2).2).2).1).1:Int),(((((((qg (v17,v18) v1).2).2).2).2).1).2:Int)),(((((((qg (v17,v18) v1).2).2).2).2).2).1:Bool),(((((((qg (v17,v18) v1).2).2).2).2).2).2:Bool)),true,())))else (some ((((qg (v17,v18) v1).1:Bool),(((((qg (v17,v18) v1).2).1).1:Int),((((qg (v17,v18) v1).2).1).2:Int)),((((qg (v17,v18) v1).2).2).1:Bool),(((((qg (v17,v18) v1).2).2).2).1:Bool),((((((((qg (v17,v18) v1).2).2).2).2).1).1:Int),(((((((qg (v17,v18) v1).2).2).2).2).1).2:Int)),(((((((qg (v17,v18) v1).2).2).2).2).2).1:Bool),(((((((qg (v17,v18) v1).2).2).2).2).2).2:Bool)),true,()))))))) N _ _ _ _ _ _ _ _ _ _ ?_ ?_ ?_]
 ·rewrite [m41];first | rfl | simp (maxSteps:=10000000) -implicitDefEqProofs []
 ·rfl
 ·intro;simp only [qK,qM,qO,qv]
 ·intro v17 v18;simp (maxSteps:=10000000) -implicitDefEqProofs [qrG,qhc,qrj,qk2,qxG,qlE,qru,qjX,qrg,qjx,qqY,qr6,qBv,qwC,qxo,qBj,qtC,qq7,qwz,qws,quf,qv8,qyn,qu8,g40,g52,g53,g54,g55,g56]
noncomputable def qeJ (N:Nat) (v2:Int) (v4:Bool) (v5:Int) (v6:Int) (v7:Bool) (v8:Bool) (v9:Int) (v10:Int) (v11:Bool) (v12:Bool) (k0:Int→(List (Val Y36))→Option (qb [i66,i4])):Nat→Int→Int→(List (Val Y36))→Option (qb [i66,i4])
 | 0,_,_,_=>none
 | n+1,v3,v13,v14=>bif (decide ((0:Int)≤v3))then (bif (decide (v3=v2))then (qeJ N v2 v4 v5 v6 v7 v8 v9 v10 v11 v12 k0 n (IntKind.i64.wrap (v3 - (1:Int))) v13 v14)else (chk (qn1 (v13,v14) v3) (bif (!((qaS (v13,v14) v3).2:Bool))then (some ((false,((0:Int),(0:Int)),false,false,((0:Int),(0:Int)),false,false),false,()))else (qeJ N v2 v4 v5 v6 v7 v8 v9 v10 v11 v12 k0 n (IntKind.i64.wrap (v3 - (1:Int))) (((qaS (v13,v14) v3).1).1:Int) (((qaS (v13,v14) v3).1).2:List (Val Y36))))))else (k0 v13 v14)
noncomputable def m39 (N:Nat) (v0:Val Y32) (v1:Int):Option (qb [i66,i4]):=chk (qda v0) (bif (!((qac v0):Bool))then (some ((false,((0:Int),(0:Int)),false,false,((0:Int),(0:Int)),false,false),false,()))else (bif (!((inR v1 (0:Int) (IntKind.i64.wrap ((v0.1:Int) - (1:Int)))):Bool))then (some ((false,((0:Int),(0:Int)),false,false,((0:Int),(0:Int)),false,false),false,()))else (chk (qco (v0.1:Int) (v0.2:List (Val Y36))) (qeJ N v1 false (0:Int) (0:Int) false false (0:Int) (0:Int) false false (fun (v17:Int) (v18:List (Val Y36))=>chk (qhl (v17,v18) v1) (some ((((qaE (v17,v18) v1).1:Bool),(((((qaE (v17,v18) v1).2).1).1:Int),((((qaE (v17,v18) v1).2).1).2:Int)),((((qaE (v17,v18) v1).2).2).1:Bool),(((((qaE (v17,v18) v1).2).2).2).1:Bool),((((((((qaE (v17,v18) v1).2).2).2).2).1).1:Int),(((((((qaE (v17,v18) v1).2).2).2).2).1).2:Int)),(((((((qaE (v17,v18) v1).2).2).2).2).2).1:Bool),(((((((qaE (v17,v18) v1).2).2).2).2).2).2:Bool)),true,()))) N (IntKind.i64.wrap ((v0.1:Int) - (1:Int))) ((qX (v0.1:Int) (v0.2:List (Val Y36))).1:Int) ((qX (v0.1:Int) (v0.2:List (Val Y36))).2:List (Val Y36))))))
def Γ39:Gam:=[(38,g38),(44,g44),(49,g49),(50,g50),(51,g51)]
theorem qv3:Gam.get Γ39 38=some g38:=rfl
theorem qqP:Gam.get Γ39 44=some g44:=rfl
theorem qBa:Gam.get Γ39 49=some g49:=rfl
theorem qtV:Gam.get Γ39 50=some g50:=rfl
theorem quI:Gam.get Γ39 51=some g51:=rfl
def qmb:Nm:=⟨[false,true,false,false,true,false,true,true],[],false⟩
theorem qqJ:qmb.zero=false:=rfl
theorem qyz:qmb.fix=[]:=rfl
theorem qyh:qmb.keep=[false,true,false,false,true,false,true,true]:=rfl
def qqy:Nm:=⟨[false,true,false,false,true,false,true],[],false⟩
theorem qvp:qqy.zero=false:=rfl
theorem qrt:qqy.fix=[]:=rfl
theorem qzB:qqy.keep=[false,true,false,false,true,false,true]:=rfl
def qhH:Nat→Tree:=fun _=> .done
def ql3:Nat→Nm:=fun i=>if i=5 then qmb else ⟨[],[],false⟩
def qiE:Nat→Option Jn:=fun _=>none
def qkV:Nat→Option Nm:=fun i=>if i=0 then some qqy else none
def qkw:Nat→Option Nm:=fun _=>none
theorem p39:ql qhH (Try.f39.body.getD .skip)=true:=by kernel_rfl
def T39 (N:Nat):Tab:={tr:=qhH,lp:=ql3,ex:=qkV,rg:=qkw,jn:=qiE,fuel:=N}
theorem qvX (N:Nat):(T39 N).pins=false:=rfl
theorem qGl (N:Nat):qm Try.prog (T39 N):=qu fun _=>rfl
theorem qBI (N:Nat) (i:Nat):(T39 N).tr i=qhH i:=rfl
theorem qyw (N:Nat) (i:Nat):(T39 N).lp i=ql3 i:=rfl
theorem qCh (N:Nat) (i:Nat):(T39 N).ex i=qkV i:=rfl
theorem qxh (N:Nat) (i:Nat):(T39 N).rg i=qkw i:=rfl
theorem qs3 (N:Nat) (i:Nat):(T39 N).jn i=qiE i:=rfl
theorem qBo (N:Nat):(T39 N).fuel=N:=rfl
noncomputable def qDx:Code:=cut [true,true,true,false,true,true,true] (Try.f39.body.getD .skip)
theorem qKh {N:Nat} {Q:X→St→Option (qb [i66,i4])} {e:List LV} {h:List Blk}:qd tt Γ39 (T39 N) qDx Q ⟨e,h⟩=qd tt Γ39 (T39 N) (cut [true,true,true,false,true,true,true] (Try.f39.body.getD .skip)) Q ⟨e,h⟩:=rfl
theorem qSt (N:Nat) (v2:Int) (v4:Bool) (v5:Int) (v6:Int) (v7:Bool) (v8:Bool) (v9:Int) (v10:Int) (v11:Bool) (v12:Bool) {k0:Int→(List (Val Y36))→Option (qb [i66,i4])} {Q:X→St→Option (qb [i66,i4])} {c:Code} (hc:c=qDx) (hret: ∀st,Q .ret st=qI tt true [i66,i4] [.cell 4 66,.tmp 5] st) (h0: ∀(v15:Int) (v16:List (Val Y36)),Q (.exit 0) ⟨[u,.one (.int .i64 v2),u,u,.one (.ptr 0 0 0),u,.one (.ptr 1 0 0),u,u,u,u,u,u,u,u,u,u,u,u,u,u,u,u,u,u,u,u,u,u,u,u,u,u,u,u,u,u,u,u,u,u,u,u,u,u,u,u,u,u,u],[.box [.bool v4,.int .i64 v5,.int .i64 v6,.bool v7,.bool v8,.int .i64 v9,.int .i64 v10,.bool v11,.bool v12],.box [.int .i64 v15,.sl 36 Y36 v16 2]]⟩=k0 v15 v16): ∀(n:Nat) (v3:Int) (v13:Int) (v14:List (Val Y36)),qD (qd tt Γ39 (T39 N) c) false qmb Q n ⟨[u,.one (.int .i64 v2),u,u,.one (.ptr 0 0 0),u,.one (.ptr 1 0 0),.one (.int .i64 v3),u,u,u,u,u,u,u,u,u,u,u,u,u,u,u,u,u,u,u,u,u,u,u,u,u,u,u,u,u,u,u,u,u,u,u,u,u,u,u,u,u,u],[.box [.bool v4,.int .i64 v5,.int .i64 v6,.bool v7,.bool v8,.int .i64 v9,.int .i64 v10,.bool v11,.bool v12],.box [.int .i64 v13,.sl 36 Y36 v14 2]]⟩=qeJ N v2 v4 v5 v6 v7 v8 v9 v10 v11 v12 k0 n v3 v13 v14:=by
 subst hc;intro n;induction n with
 | zero=>intros;rfl
 | succ n ih=>
   intro v3 v13 v14
   rw [qR,qKh,qeJ];unfold Try.f39
   simp (maxSteps:=10000000) -implicitDefEqProofs [qBI,qhH,qyw,ql3,qCh,qkV,qxh,qkw,qs3,qiE,qBo,qvX,qyz,qyh,qqJ,qrt,qzB,qvp,qv3,qqP,qBa,qtV,quI,g38,g44,g49,g50,g51,hret,h0,ih]
theorem qK3 (N:Nat) (v0:Val Y32) (v1:Int):qd tt Γ39 (T39 N) (Try.f39.body.getD .skip) (qp tt true [i66,i4] [.cell 4 66,.tmp 5]) (qt [i32,i3] 50 (v0,v1,()))=m39 N v0 v1:=by
 unfold Try.f39
 simp (maxSteps:=10000000) -implicitDefEqProofs [qBI,qhH,qyw,ql3,qCh,qkV,qxh,qkw,qs3,qiE,qBo,qvX,qyz,qyh,qqJ,qrt,qzB,qvp,qv3,qqP,qBa,qtV,quI,g38,g44,g49,g50,g51]
 rewrite [qSt (k0:=(fun (v17:Int) (v18:List (Val Y36))=>chk (qhl (v17,v18) v1) (some ((((qaE (v17,v18) v1).1:Bool),(((((qaE (v17,v18) v1).2).1).1:Int),((((qaE (v17,v18) v1).2).1).2:Int)),((((qaE (v17,v18) v1).2).2).1:Bool),(((((qaE (v17,v18) v1).2).2).2).1:Bool),((((((((qaE (v17,v18) v1).2).2).2).2).1).1:Int),(((((((qaE (v17,v18) v1).2).2).2).2).1).2:Int)),(((((((qaE (v17,v18) v1).2).2).2).2).2).1:Bool),(((((((qaE (v17,v18) v1).2).2).2).2).2).2:Bool)),true,())))) N _ _ _ _ _ _ _ _ _ _ ?_ ?_ ?_]
 ·rewrite [m39];first | rfl | simp (maxSteps:=10000000) -implicitDefEqProofs []
 ·rfl
 ·intro;simp only [qK,qM,qO,qv]
 ·intro v17 v18;simp (maxSteps:=10000000) -implicitDefEqProofs [qBI,qhH,qyw,ql3,qCh,qkV,qxh,qkw,qs3,qiE,qBo,qvX,qyz,qyh,qqJ,qrt,qzB,qvp,qv3,qqP,qBa,qtV,quI,g38,g44,g49,g50,g51]
end Go.T
