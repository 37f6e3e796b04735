/- Cells: whether they are valid. -/
import Derived.Test.YthefcjjgchekiaaGreatA2
set_option linter.unusedSimpArgs false
set_option linter.unusedVariables false
namespace Go.T
open Go Go.Proofs
set_option maxHeartbeats 4000000
set_option maxRecDepth 100000
def qz (c:Val Y33):Bool:=decide (0≤(c.1:Int)∧(c.1:Int)≤4)&&decide ((List.length (α:=Val qa) c.2:Int)≤16)&&List.all (α:=Val qa) c.2 fun a=>qP a&&decide ((List.length (α:=Val (.int .i64)) a.1:Int)=(c.1:Int))
def qbf (c:Val Y33):Prop:=List.length (α:=Val qa) c.2≤1048576
noncomputable def qhZ (N:Nat) (v2:Int) (v3:List (Val qa)) (k0:Unit→Option (qc [i4])):Nat→Int→Option (qc [i4])
 | 0,_=>none
 | n+1,v1=>bif (decide (v1<(v3.length:Int)))then (chk (0≤v1∧v1<(v3.length:Int)) (bif (!((qP (v3.getD v1.toNat (qb qa))):Bool))then (some (false,()))else (chk (0≤v1∧v1<(v3.length:Int)) (bif (!(decide ((((v3.getD v1.toNat (qb qa)).1:List (Val (.int .i64))).length:Int)=v2)))then (some (false,()))else (qhZ N v2 v3 k0 n (IntKind.i64.wrap (v1+(1:Int))))))))else (k0 ())
noncomputable def qGc (N:Nat) (v0:Val Y33):Option (qc [i4]):=qhZ N (v0.1:Int) (v0.2:List (Val qa)) (fun (_:Unit)=>bif ((inR (v0.1:Int) (0:Int) (4:Int)):Bool)then (some ((decide (((v0.2:List (Val qa)).length:Int)≤(16:Int))),()))else (some (false,()))) N (0:Int)
def qlG:Gam:=[(118,qao),(193,qa9)]
theorem qRi:Gam.get qlG 118=some qao:=rfl
theorem qRY:Gam.get qlG 193=some qa9:=rfl
def qs6:Nm:=⟨[false,true,false,true],[],false⟩
theorem qVa:qs6.zero=false:=rfl
theorem q4u:qs6.fix=[]:=rfl
theorem q2C:qs6.keep=[false,true,false,true]:=rfl
def qAP:Nm:=⟨[false,true],[],false⟩
theorem qNN:qAP.zero=false:=rfl
theorem qMV:qAP.fix=[]:=rfl
theorem qXt:qAP.keep=[false,true]:=rfl
def qoN:Nat→Tree:=fun i=>if i=4 then .quiet 0 (.quiet 1 (.quiet 2 (.quiet 3 (.quiet 4 (.alt 5 (.quiet 6 (.quiet 7 (.quiet 8 (.quiet 9 (.quiet 10 (.quiet 11 (.quiet 12 (.quiet 13 (.quiet 14 (.quiet 15 (.quiet 16 (.quiet 17 (.quiet 18 .done))))))))))))) .stop)))))else .done
def qtJ:Nat→Nm:=fun i=>if i=2 then qs6 else ⟨[],[],false⟩
def qsu:Nat→Option Jn:=fun _=>none
def qvS:Nat→Option Nm:=fun i=>if i=0 then some qAP else none
def qtV:Nat→Option Nm:=fun _=>none
theorem znV:qh qoN (Tryz.f104.body.getD .skip)=true:=by kernel_rfl
def qdE (N:Nat):Tab:={tr:=qoN,lp:=qtJ,ex:=qvS,rg:=qtV,jn:=qsu,fuel:=N}
theorem qXA (N:Nat):(qdE N).pins=false:=rfl
theorem ztN (N:Nat):qk Tryz.prog (qdE N):=qo fun _=>rfl
theorem qUj (N:Nat) (i:Nat):(qdE N).tr i=qoN i:=rfl
theorem qPJ (N:Nat) (i:Nat):(qdE N).lp i=qtJ i:=rfl
theorem qH2 (N:Nat) (i:Nat):(qdE N).ex i=qvS i:=rfl
theorem qQL (N:Nat) (i:Nat):(qdE N).rg i=qtV i:=rfl
theorem qSW (N:Nat) (i:Nat):(qdE N).jn i=qsu i:=rfl
theorem qSG (N:Nat):(qdE N).fuel=N:=rfl
noncomputable def q4X:Code:=cut [true,false,true,true,true] (Tryz.f104.body.getD .skip)
theorem zzR {N:Nat} {Q:X→St→Option (qc [i4])} {e:List LV} {h:List Blk}:qf tt qlG (qdE N) q4X Q ⟨e,h⟩=qf tt qlG (qdE N) (cut [true,false,true,true,true] (Tryz.f104.body.getD .skip)) Q ⟨e,h⟩:=rfl
theorem zgF (N:Nat) (v2:Int) (v3:List (Val qa)) {k0:Unit→Option (qc [i4])} {Q:X→St→Option (qc [i4])} {c:Code} (hc:c=q4X) (hret: ∀st,Q .ret st=qC tt true [i4] [.tmp 2] st) (h0:Q (.exit 0) ⟨[u,.one (.ptr 0 0 0),u,u,u,u,u,u,u,u,u,u,u,u,u,u,u,u,u,u,u,u,u,u,u,u,u,u,u,u,u,u,u,u,u,u,u,u,u],[.box [.int .i64 v2,.sl 108 qa v3 1]]⟩=k0 ()): ∀(n:Nat) (v1:Int),qD (qf tt qlG (qdE N) c) false qs6 Q n ⟨[u,.one (.ptr 0 0 0),u,.one (.int .i64 v1),u,u,u,u,u,u,u,u,u,u,u,u,u,u,u,u,u,u,u,u,u,u,u,u,u,u,u,u,u,u,u,u,u,u,u],[.box [.int .i64 v2,.sl 108 qa v3 1]]⟩=qhZ N v2 v3 k0 n v1:=by
 subst hc;intro n;induction n with
 | zero=>intros;rfl
 | succ n ih=>
   intro v1
   rw [qN,zzR,qhZ];unfold Tryz.f104
   simp (maxSteps:=10000000) -implicitDefEqProofs [qUj,qoN,qPJ,qtJ,qH2,qvS,qQL,qtV,qSW,qsu,qSG,qXA,q4u,q2C,qVa,qMV,qXt,qNN,qRi,qRY,qao,qa9,hret,h0,ih]
theorem zf1 (N:Nat) (v0:Val Y33):qf tt qlG (qdE N) (Tryz.f104.body.getD .skip) (qm tt true [i4] [.tmp 2]) (qp [i33] 39 (v0,()))=qGc N v0:=by
 unfold Tryz.f104
 simp (maxSteps:=10000000) -implicitDefEqProofs [qUj,qoN,qPJ,qtJ,qH2,qvS,qQL,qtV,qSW,qsu,qSG,qXA,q4u,q2C,qVa,qMV,qXt,qNN,qRi,qRY,qao,qa9]
 rewrite [zgF (k0:=(fun (_:Unit)=>bif ((inR (v0.1:Int) (0:Int) (4:Int)):Bool)then (some ((decide (((v0.2:List (Val qa)).length:Int)≤(16:Int))),()))else (some (false,())))) N _ _ ?_ ?_ ?_]
 ·rewrite [qGc];first | rfl | simp (maxSteps:=10000000) -implicitDefEqProofs []
 ·rfl
 ·intro;simp only [qK,qL,qJ,qB]
 ·simp (maxSteps:=10000000) -implicitDefEqProofs [qUj,qoN,qPJ,qtJ,qH2,qvS,qQL,qtV,qSW,qsu,qSG,qXA,q4u,q2C,qVa,qMV,qXt,qNN,qRi,qRY,qao,qa9]
noncomputable def qiZ (N:Nat) (v1:List (Val qa)) (v2:Int) (v4:Int) (v5:List (Val qa)) (k0:Unit→Option (qc [i4])):Nat→Int→Option (qc [i4])
 | 0,_=>none
 | n+1,v3=>bif (decide (v3<v2))then (chk (0≤v3∧v3<(v1.length:Int)) (bif (!((qP (v1.getD v3.toNat (qb qa))):Bool))then (some (false,()))else (bif (!(decide ((((v1.getD v3.toNat (qb qa)).1:List (Val (.int .i64))).length:Int)=v4)))then (some (false,()))else (qiZ N v1 v2 v4 v5 k0 n (IntKind.i64.wrap (v3+(1:Int)))))))else (k0 ())
noncomputable def qGf (N:Nat) (v0:Val Y33):Option (qc [i4]):=bif (decide ((v0.1:Int)<(0:Int)))then (some (false,()))else (bif (decide ((4:Int)<(v0.1:Int)))then (some (false,()))else (bif (decide ((16:Int)<((v0.2:List (Val qa)).length:Int)))then (some (false,()))else (qiZ N (v0.2:List (Val qa)) ((v0.2:List (Val qa)).length:Int) (v0.1:Int) (v0.2:List (Val qa)) (fun (_:Unit)=>some (true,())) N (0:Int))))
def qno:Gam:=[(279,qaV)]
theorem q3Y:Gam.get qno 279=some qaV:=rfl
def quX:Nm:=⟨[false,true,false,false,false,false,false,false,false,false,false,false,false,false,false,false,false,false,false,false,true,true,true],[],false⟩
theorem qVG:quX.zero=false:=rfl
theorem qIB:quX.fix=[]:=rfl
theorem qSX:quX.keep=[false,true,false,false,false,false,false,false,false,false,false,false,false,false,false,false,false,false,false,false,true,true,true]:=rfl
def qED:Nm:=⟨[],[],false⟩
theorem qSK:qED.zero=false:=rfl
theorem q39:qED.fix=[]:=rfl
theorem qN8:qED.keep=[]:=rfl
def qov:Nat→Tree:=fun _=> .done
def qrS:Nat→Nm:=fun i=>if i=4 then quX else ⟨[],[],false⟩
def qvh:Nat→Option Jn:=fun _=>none
def qwP:Nat→Option Nm:=fun i=>if i=0 then some qED else none
def qpV:Nat→Option Nm:=fun _=>none
theorem zrY:qh qov (Tryz.f199.body.getD .skip)=true:=by kernel_rfl
def qdP (N:Nat):Tab:={tr:=qov,lp:=qrS,ex:=qwP,rg:=qpV,jn:=qvh,fuel:=N}
theorem qWn (N:Nat):(qdP N).pins=false:=rfl
theorem zoH (N:Nat):qk Tryz.prog (qdP N):=qo fun _=>rfl
theorem qXW (N:Nat) (i:Nat):(qdP N).tr i=qov i:=rfl
theorem qN9 (N:Nat) (i:Nat):(qdP N).lp i=qrS i:=rfl
theorem qMM (N:Nat) (i:Nat):(qdP N).ex i=qwP i:=rfl
theorem qJh (N:Nat) (i:Nat):(qdP N).rg i=qpV i:=rfl
theorem q3Q (N:Nat) (i:Nat):(qdP N).jn i=qvh i:=rfl
theorem qUo (N:Nat):(qdP N).fuel=N:=rfl
noncomputable def q54:Code:=cut [true,true,false,true,true,true] (Tryz.f199.body.getD .skip)
theorem zzs {N:Nat} {Q:X→St→Option (qc [i4])} {e:List LV} {h:List Blk}:qf tt qno (qdP N) q54 Q ⟨e,h⟩=qf tt qno (qdP N) (cut [true,true,false,true,true,true] (Tryz.f199.body.getD .skip)) Q ⟨e,h⟩:=rfl
theorem zwP (N:Nat) (v1:List (Val qa)) (v2:Int) (v4:Int) (v5:List (Val qa)) {k0:Unit→Option (qc [i4])} {Q:X→St→Option (qc [i4])} {c:Code} (hc:c=q54) (hret: ∀st,Q .ret st=qC tt true [i4] [.tmp 2] st) (h0:Q (.exit 0) ⟨[u,u,u,u,u,u,u,u,u,u,u,u,u,u,u,u,u,u,u,u,u,u,u,u,u,u,u,u,u,u,u,u,u,u,u,u,u,u],[]⟩=k0 ()): ∀(n:Nat) (v3:Int),qD (qf tt qno (qdP N) c) false quX Q n ⟨[u,.one (.ptr 0 0 0),u,u,u,u,u,u,u,u,u,u,u,u,u,u,u,u,u,u,.one (.sl 108 qa v1 1),.one (.int .i64 v2),.one (.int .i64 v3),u,u,u,u,u,u,u,u,u,u,u,u,u,u,u],[.box [.int .i64 v4,.sl 108 qa v5 1]]⟩=qiZ N v1 v2 v4 v5 k0 n v3:=by
 subst hc;intro n;induction n with
 | zero=>intros;rfl
 | succ n ih=>
   intro v3
   rw [qN,zzs,qiZ];unfold Tryz.f199
   simp (maxSteps:=10000000) -implicitDefEqProofs [qXW,qov,qN9,qrS,qMM,qwP,qJh,qpV,q3Q,qvh,qUo,qWn,qIB,qSX,qVG,q39,qN8,qSK,q3Y,qaV,hret,h0,ih]
theorem zcQ (N:Nat) (v0:Val Y33):qf tt qno (qdP N) (Tryz.f199.body.getD .skip) (qm tt true [i4] [.tmp 2]) (qp [i33] 38 (v0,()))=qGf N v0:=by
 unfold Tryz.f199
 simp (maxSteps:=10000000) -implicitDefEqProofs [qXW,qov,qN9,qrS,qMM,qwP,qJh,qpV,q3Q,qvh,qUo,qWn,qIB,qSX,qVG,q39,qN8,qSK,q3Y,qaV]
 rewrite [zwP (k0:=(fun (_:Unit)=>some (true,()))) N _ _ _ _ ?_ ?_ ?_]
 ·rewrite [qGf];first | rfl | simp (maxSteps:=10000000) -implicitDefEqProofs []
 ·rfl
 ·intro;simp only [qK,qL,qJ,qB]
 ·simp (maxSteps:=10000000) -implicitDefEqProofs [qXW,qov,qN9,qrS,qMM,qwP,qJh,qpV,q3Q,qvh,qUo,qWn,qIB,qSX,qVG,q39,qN8,qSK,q3Y,qaV]
theorem zml (N:Nat) (d:Int) (xs:List (Val qa)) (K:Unit→Option (qc [i4])) (hl:xs.length≤1048576) (n:Nat) (hn:xs.length<n):qhZ N d xs K n 0=bif xs.all (fun a=>qP a&&decide ((List.length (α:=Val (.int .i64)) a.1:Int)=d))then K ()else some (false,()):=
 (qaZ (F:=fun n i (_:Unit)=>qhZ N d xs K n i) (step:=fun _ x _ K=>bif (qP x&&decide ((List.length (α:=Val (.int .i64)) x.1:Int)=d))then K ()else some (false,())) (k:=K) hl (fun n i s hi=>by
   rw [qhZ,qj (by omega),qe (by omega),qe (by omega),qI hi]
   cases qP xs[i]<;>simp [qbi]) (fun n i s hi=>by rw [qhZ,qi (by omega)]) n () hn).trans (qgM xs 0)
theorem zfQ (N:Nat) (d:Int) (xs ys:List (Val qa)) (K:Unit→Option (qc [i4])) (hl:xs.length≤1048576) (n:Nat) (hn:xs.length<n):qiZ N xs xs.length d ys K n 0=bif xs.all (fun a=>qP a&&decide ((List.length (α:=Val (.int .i64)) a.1:Int)=d))then K ()else some (false,()):=
 (qaZ (F:=fun n i (_:Unit)=>qiZ N xs xs.length d ys K n i) (step:=fun _ x _ K=>bif (qP x&&decide ((List.length (α:=Val (.int .i64)) x.1:Int)=d))then K ()else some (false,())) (k:=K) hl (fun n i s hi=>by
   rw [qiZ,qj (by omega),qe (by omega),qI hi]
   cases qP xs[i]<;>simp [qbi]) (fun n i s hi=>by rw [qiZ,qi (by omega)]) n () hn).trans (qgM xs 0)
def qbt:G:={ps:=[i33],rs:=[i4],dp:=true,pre:=fun x=>qbf x.1,fn:=fun x=>(qz x.1,())}
def qaB:G:={ps:=[i33],rs:=[i4],dp:=true,pre:=fun _=>True,fn:=fun x=>(qz x.1,())}
theorem zmw (c:Val Y33) (h:qbf c): ∃N,qGc N c=some (qz c,()):=⟨List.length (α:=Val qa) c.2+1,by
 obtain ⟨d,xs⟩:=c
 change Int at d
 change List (Val qa)at xs
 rw [qGc,qz]
 dsimp only
 rw [zml _ _ _ _ h _ (Nat.lt_succ_self _)]
 simp only [inR]
 cases List.all xs _<;>cases decide (0≤d∧d≤4)<;>simp⟩
theorem qsA:Sound Tryz.prog 104 qbt:=qr (tt:=tt) (Γ:=qlG) hT (qg qgN (qg qrx qn)) hm (fn:=Tryz.f104) Tryz.func104 (c:=Tryz.f104.body.getD .skip) (by kernel_rfl) (by kernel_rfl) fun x hx=>by
 obtain ⟨N,h⟩:=zmw x.1 hx
 exact ⟨qdE N,znV,qu _,ztN N,(zf1 N x.1).trans h⟩
theorem zyg (c:Val Y33): ∃N,qGf N c=some (qz c,()):=⟨List.length (α:=Val qa) c.2+1,by
 obtain ⟨d,xs⟩:=c
 change Int at d
 change List (Val qa)at xs
 rw [qGf,qz]
 dsimp only
 by_cases h1:d<0
 ·have: ¬(0≤d∧d≤4):=by omega
  simp [h1,this]
 ·by_cases h2:4<d
  ·have: ¬(0≤d∧d≤4):=by omega
   simp [h1,h2,this]
  ·have:0≤d∧d≤4:=by omega
   by_cases h3:(16:Int)<xs.length
   ·have h3': ¬(xs.length:Int)≤16:=by omega
    simp only [h1,h2,h3,h3',decide_true,decide_false,cond_true,cond_false,Bool.and_false,Bool.false_and]
   ·have h3':(xs.length:Int)≤16:=by omega
    rw [zfQ _ _ _ _ _ (by omega) _ (Nat.lt_succ_self _)]
    simp only [h1,h2,h3,h3',this,decide_true,decide_false,cond_true,cond_false,Bool.true_and,and_self]
    cases List.all xs _<;>rfl⟩
theorem qjP:Sound Tryz.prog 199 qaB:=qr (tt:=tt) (Γ:=qno) hT (qg qnv qn) hm (fn:=Tryz.f199) Tryz.func199 (c:=Tryz.f199.body.getD .skip) (by kernel_rfl) (by kernel_rfl) fun x hx=>by
 obtain ⟨N,h⟩:=zyg x.1
 exact ⟨qdP N,zrY,qu _,zoH N,(zcQ N x.1).trans h⟩
end Go.T
